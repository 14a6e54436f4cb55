/- Contracts, by program. -/
import Derived.Test.YteopobecmacgdaaGreatDoorProg
import Derived.Test.YteopobecmacgdaaGreatDoorMM6
import Derived.Test.YteopobecmacgdaaGreatDoorMM9
import Derived.Test.YteopobecmacgdaaGreatDoorCtLoP1
import Derived.Test.YteopobecmacgdaaGreatDoorCtLoP2
import Derived.Test.YteopobecmacgdaaGreatDoorCtLoP3
import Derived.Test.YteopobecmacgdaaGreatDoorCtLoP4
import Derived.Test.YteopobecmacgdaaGreatDoorCtLoP8
import Derived.KernelRfl
import Derived.Test.YteopobecmacgdaaGreatDoorTyA
set_option linter.unusedSectionVars false
set_option linter.unusedVariables false
set_option linter.unusedSimpArgs false
namespace Go.Ev
open Go Go.Proofs
set_option linter.unusedVariables false
set_option maxRecDepth 100000
noncomputable def vW(k:Nat):aU:=⟨[(.int .i32),(.int .i32),og],[(.int .i64)],[nK],fun x=>I2 k (x.1) (x.2.1) (x.2.2)⟩
theorem Rv(k:Nat):aV Tryz.prog am 104 (vW k).aW:=bi bf Tryz.func104 (by kernel_rfl) rfl Tryz.ntmps104 (vW k) (by kernel_rfl) [] (fun _=>.z) (by kernel_rfl)
noncomputable def Fs(k:Nat):aF Tryz.prog am:=⟨104,vW k,Rv k⟩
noncomputable def yL(k:Nat):aU:=⟨[bl,bl,(.fn 104 (.pair og .unit))],[(.int .i64)],[],fun x=>Hm k (x.1) (x.2.1) (x.2.2)⟩
theorem PH(k:Nat):aV Tryz.prog am 84 (yL k).aW:=bi bf Tryz.func84 (by kernel_rfl) rfl Tryz.ntmps84 (yL k) (by kernel_rfl) [Fs k] (fun x=>.ae 3 (.bg [.ab 13 (.int .i64)] (aB [0,1,2,11,12,13] [] []) (xV k (x.1) (x.2.1) (x.2.2)) k fun _ _=>.z)) (by kernel_rfl)
noncomputable def VQ(k:Nat):aF Tryz.prog am:=⟨84,yL k,PH k⟩
noncomputable def AU(k:Nat):aU:=⟨[.str,.str,og],[(.int .i64)],[nK],fun x=>KS k (x.1) (x.2.1) (x.2.2)⟩
theorem Pz(k:Nat):aV Tryz.prog am 103 (AU k).aW:=bi bf Tryz.func103 (by kernel_rfl) rfl Tryz.ntmps103 (AU k) (by kernel_rfl) [Fs k,VQ k] (fun _=>.z) (by kernel_rfl)
noncomputable def VB(k:Nat):aF Tryz.prog am:=⟨103,AU k,Pz k⟩
noncomputable def CF(k:Nat):bU ti cB where
 n:=53
 S:=fun z=>⟨[(0,.row 10000000),(1,ax (z.1)),(2,ax (z.2.1)),(3,.clos 103 [54])],[(54,.cells [.iter 55] 119),(55,.mp (.int .i32) (.int .i64) (z.2.2.1))],[(10000000,⟨9,.str,(z.2.2.2)⟩)]⟩
 bJ:=fun z y=>⟨[],[(54,.cells [.iter 55] 119),(55,.mp (.int .i32) (.int .i64) (y.1))],[(10000000,⟨9,.str,(y.2)⟩)]⟩
 ap:=fun z y=>[]
 rel:=fun z y=>s8 k (z.1) (z.2.1) (z.2.2.1) (z.2.2.2)=some y
theorem UY(k:Nat):cb Tryz.prog am 170 (CF k):=dr Tryz.func170 (by kernel_rfl) rfl (CF k) Tryz.ntmps170 [VB k] (fun z=>s8 k (z.1) (z.2.1) (z.2.2.1) (z.2.2.2)) (fun _ _ h=>h) (fun st=>bu st [.mp 55 (.int .i32) (.int .i64),.rw 10000000 9 .str]) [54,55] [10000000] (fun z=>.ae 1 (.bg [.ab 8 (.int .i64),.mp 55 (.int .i32) (.int .i64),.rw 10000000 9 .str] (aB [0,1,2,3,8] [54,55] [10000000]) (fun n=>gj (Dy k (z.2.1) (z.1) n)) k fun q o=>.ae 2 (.t (.ae 2 (.bg [.ab 9 (.int .i64),.rw 10000000 9 .str] (aB [0,1,2,3,8,9] [54,55] [10000000]) (fun n=>b7 (zA k (z.1) (o.2.1) (gH q) (o.1) n)) k fun O L=>.ae 3 (.g 12 (xE (L.2) (L.1) (dq O) (gH q) (o.1) (o.2.1)) (.ae 6 (.u 0 (.ae 6 (.u 0 .z)))) .z (fun _=>.t (.ae 1 (.fO [0,1,2,3,4,5,6,7,8,10,11,12] [9,13,14] [15,16,17] (.ae 2 (.u 1 (.u 0 (.u 0 (.u 0 (.ae 1 (.u 0 .z)))))))))))))))) (by kernel_rfl)
noncomputable def QD(k:Nat):cD Tryz.prog am ti cB:=⟨170,CF k,fun st=>bu st [.ab 1 (.int .i64),.ab 2 (.int .i64),.mp 55 (.int .i32) (.int .i64),.rw 10000000 9 .str],fun z=>s8 k (z.1) (z.2.1) (z.2.2.1) (z.2.2.2),(UY k),fun _ _ h=>h⟩
noncomputable def zM(k:Nat):bU r5 cB where
 n:=148
 S:=fun z=>⟨[(0,.row 10000000),(1,ax (z.1)),(2,ax (z.2.1)),(3,ax (z.2.2.1)),(4,.clos 103 [149])],[(149,.cells [.iter 150] 119),(150,.mp (.int .i32) (.int .i64) (z.2.2.2.1))],[(10000000,⟨9,.str,(z.2.2.2.2)⟩)]⟩
 bJ:=fun z y=>⟨[],[(149,.cells [.iter 150] 119),(150,.mp (.int .i32) (.int .i64) (y.1))],[(10000000,⟨9,.str,(y.2)⟩)]⟩
 ap:=fun z y=>[]
 rel:=fun z y=>sO k (z.1) (z.2.1) (z.2.2.1) (z.2.2.2.1) (z.2.2.2.2)=some y
theorem O1(k:Nat):cb Tryz.prog am 132 (zM k):=dr Tryz.func132 (by kernel_rfl) rfl (zM k) Tryz.ntmps132 [] (fun z=>sO k (z.1) (z.2.1) (z.2.2.1) (z.2.2.2.1) (z.2.2.2.2)) (fun _ _ h=>h) (fun st=>bu st [.mp 150 (.int .i32) (.int .i64),.rw 10000000 9 .str]) [149,150] [10000000] (fun z=>.ae 2 (.bg [] (aB [0,1,2,3,4,10,11] [149,150] [10000000]) (fun n=>um (Bn k (z.2.1) (z.1) (z.2.2.2.1) (z.2.2.2.2) n)) k fun _ _=>.ae 3 (.c (.ae 1 (.bI (QD k) [(10000000,10000000),(149,54),(150,55)] [(54,149),(55,150),(10000000,10000000)] (fun _=>.z))) (.gp [999999] [] [] .z)))) (by kernel_rfl)
noncomputable def Qh(k:Nat):cD Tryz.prog am r5 cB:=⟨132,zM k,fun st=>bu st [.ab 1 (.int .i64),.ab 2 (.int .i64),.ab 3 (.int .i64),.mp 150 (.int .i32) (.int .i64),.rw 10000000 9 .str],fun z=>sO k (z.1) (z.2.1) (z.2.2.1) (z.2.2.2.1) (z.2.2.2.2),(O1 k),fun _ _ h=>h⟩
noncomputable def EJ(k:Nat):bU cB cB where
 n:=14
 S:=fun z=>⟨[(0,.row 10000000),(1,.clos 103 [15])],[(15,.cells [.iter 16] 119),(16,.mp (.int .i32) (.int .i64) (z.1))],[(10000000,⟨9,.str,(z.2)⟩)]⟩
 bJ:=fun z y=>⟨[],[(15,.cells [.iter 16] 119),(16,.mp (.int .i32) (.int .i64) (y.1))],[(10000000,⟨9,.str,(y.2)⟩)]⟩
 ap:=fun z y=>[]
 rel:=fun z y=>rN k (z.1) (z.2)=some y
theorem Rr(k:Nat):cb Tryz.prog am 100 (EJ k):=dr Tryz.func100 (by kernel_rfl) rfl (EJ k) Tryz.ntmps100 [IA k] (fun z=>rN k (z.1) (z.2)) (fun _ _ h=>h) (fun st=>bu st [.mp 16 (.int .i32) (.int .i64),.rw 10000000 9 .str]) [15,16] [10000000] (fun _=>.ae 2 (.bI (Qh k) [(10000000,10000000),(15,149),(16,150)] [(149,15),(150,16),(10000000,10000000)] (fun _=>.z))) (by kernel_rfl)
noncomputable def SG(k:Nat):cD Tryz.prog am cB cB:=⟨100,EJ k,fun st=>bu st [.mp 16 (.int .i32) (.int .i64),.rw 10000000 9 .str],fun z=>rN k (z.1) (z.2),(Rr k),fun _ _ h=>h⟩
noncomputable def De(k:Nat):aU:=⟨[(.ab .str)],[(.ab .str)],[],fun x=>PR k x⟩
theorem PZ(k:Nat):aV Tryz.prog am 105 (De k).aW:=bi bf Tryz.func105 (by kernel_rfl) rfl Tryz.ntmps105 (De k) (by kernel_rfl) [] (fun x=>.ae 4 (.f (.ae 2 (.bg [.ab 3 (.int .i64)] (aB [0,3] [] []) (xF x) k fun _ _=>.ae 2 (.t (.ae 5 (.t (.gp [999999] [] [] .z)))))))) (by kernel_rfl)
noncomputable def XQ(k:Nat):aF Tryz.prog am:=⟨105,De k,PZ k⟩
noncomputable def CH(k:Nat):bU aG Unit where
 n:=61
 S:=fun z=>⟨[(0,.row 10000000)],[],[(10000000,⟨9,.str,(z)⟩)]⟩
 bJ:=fun z y=>⟨[],[],[(10000000,⟨9,.str,(z)⟩)]⟩
 ap:=fun z y=>[.row 10000000]
 rel:=fun z y=>ur k (z)=some y
theorem XN(k:Nat):cb Tryz.prog am 105 (CH k):=dr Tryz.func105 (by kernel_rfl) rfl (CH k) Tryz.ntmps105 [] (fun z=>ur k (z)) (fun _ _ h=>h) (fun st=>bu st []) [] [10000000] (fun z=>.ae 4 (.f (.ae 2 (.bg [.ab 3 (.int .i64)] (aB [0,3] [] [10000000]) (Dm z) k fun _ _=>.ae 2 (.t (.ae 4 (.u 0 (.ae 1 (.u 0 (.t (.gp [999999] [] [] .z))))))))))) (by kernel_rfl)
noncomputable def SC(k:Nat):cD Tryz.prog am aG Unit:=⟨105,CH k,fun st=>bu st [.rw 10000000 9 .str],fun z=>ur k (z),(XN k),fun _ _ h=>h⟩
noncomputable def xm(k:Nat):bU (aC×List (List UInt8)) aG where
 n:=27
 S:=fun z=>⟨[(0,.val bP (z.1)),(1,.row 10000000)],[],[(10000000,⟨9,.str,(z.2)⟩)]⟩
 bJ:=fun z y=>⟨[],[],[(10000000,⟨9,.str,(y)⟩)]⟩
 ap:=fun z y=>[.row 10000000]
 rel:=fun z y=>tm k (z.1) (z.2)=some y
theorem Ue(k:Nat):cb Tryz.prog am 66 (xm k):=dr Tryz.func66 (by kernel_rfl) rfl (xm k) Tryz.ntmps66 [] (fun z=>tm k (z.1) (z.2)) (fun _ _ h=>h) (fun st=>bu st [.rw 10000000 9 .str]) [] [10000000] (fun z=>.ae 5 (.bg [.ab 12 (.int .i64),.mp 8 (.int .i32) (.int .i64)] (aB [1,5,10,11,12] [5,8] [10000000]) (fun n=>b7 (z6 k (z.1) (z.2) n)) k fun _ _=>.ae 2 (.f (.ae 1 (.bI (SG k) [(10000000,10000000),(5,15),(8,16)] [(15,5),(16,8),(10000000,10000000)] (fun _=>.ae 1 (.bI (SC k) [(10000000,10000000)] [(10000000,10000000)] (fun _=>.z)))))))) (by kernel_rfl)
noncomputable def Vu(k:Nat):cD Tryz.prog am (aC×List (List UInt8)) aG:=⟨66,xm k,fun st=>bu st [.ab 0 bP,.rw 10000000 9 .str],fun z=>tm k (z.1) (z.2),(Ue k),fun _ _ h=>h⟩
noncomputable def DS(k:Nat):aU:=⟨[bP,mR,.str],[(.ab .str),(.int .i64)],[],fun x=>Iq k (x.1) (x.2.1) (x.2.2)⟩
theorem MQ(k:Nat):aV Tryz.prog am 32 (DS k).aW:=bi bf Tryz.func32 (by kernel_rfl) rfl Tryz.ntmps32 (DS k) (by kernel_rfl) [Iy k,Nj k] (fun x=>.ae 6 (.f (.ae 3 (.bg [.ab 31 (.int .i64),.ad 3 0 (.ab .str),.ad 3 1 au,.rw 28 9 .str] (aB [3,9,29,30,31] [3] [28]) (fun n=>qk (ET k (x.2.1) n)) k fun L q=>.ae 2 (.t (.ae 8 (.bg [.ab 38 (.int .i64),.ad 3 0 (.ab .str),.ad 3 1 au,.ad 11 0 .str,.ad 11 1 au,.ad 11 2 bn,.ad 11 3 av,.ad 11 4 av,.ad 11 5 (.int .u8),.ad 11 6 .bool,.mp 35 .str .bool,.rw 13 9 .str,.rw 28 9 .str] (aB [3,11,12,13,29,30,31,36,37,38] [3,11,35] [13,28]) (fun n=>Sd (EU k (q.2.2.2) (tX L) (q.1) n)) k fun O o=>.ae 2 (.c (.ae 3 (.u 0 (.ae 1 (.ac [(.ab .str),(.int .i64)] fun v2=>.ae 2 (.f (.ae 2 (.bg [.ab 54 (.int .i64),.mp 35 .str .bool,.rw 13 9 .str] (aB [3,11,12,13,29,30,31,36,37,38,52,53,54] [3,11,35] [13,28]) (fun n=>gj (wC v2 (Nn O) (o.1) (o.2.1) (o.2.2.1) (o.2.2.2.1) (o.2.2.2.2.1) (o.2.2.2.2.2.1) (o.2.2.2.2.2.2.1) (o.2.2.2.2.2.2.2.1) (o.2.2.2.2.2.2.2.2.1) (o.2.2.2.2.2.2.2.2.2.1) (o.2.2.2.2.2.2.2.2.2.2.2.2) n)) k fun R U=>.ae 2 (.t (.j [.mp 35 .str .bool,.rw 13 9 .str] (aB [3,11,12,13,29,30,31,36,37,38,52,53,54] [3,11,35] [13,28]) (b7 (DW (gH R) (U.1))) .z (fun _=>.z)))))))))) (.bI (Vu k) [(13,10000000)] [(10000000,13)] (fun _=>.fb [3,9,29,30,31] [3] [13] [(3,3),(13,28)])))))))))) (by kernel_rfl)
noncomputable def Vw(k:Nat):aF Tryz.prog am:=⟨32,DS k,MQ k⟩
noncomputable def E0(k:Nat):aU:=⟨[(.ab .str),.str],[(.int .i64)],[],fun x=>qV k (x.1) (x.2)⟩
theorem Xp(k:Nat):aV Tryz.prog am 98 (E0 k).aW:=bi bf Tryz.func98 (by kernel_rfl) rfl Tryz.ntmps98 (E0 k) (by kernel_rfl) [] (fun x=>.ae 3 (.bg [.ab 8 (.int .i64)] (aB [0,1,7,8] [] []) (pQ (x.1) (x.2)) k fun _ _=>.z)) (by kernel_rfl)
noncomputable def FL(k:Nat):aF Tryz.prog am:=⟨98,E0 k,Xp k⟩
noncomputable def CN(k:Nat):aU:=⟨[(.ab .str),.str],[.bool],[],fun x=>xc k (x.1) (x.2)⟩
theorem XB(k:Nat):aV Tryz.prog am 63 (CN k).aW:=bi bf Tryz.func63 (by kernel_rfl) rfl Tryz.ntmps63 (CN k) (by kernel_rfl) [FL k] (fun _=>.z) (by kernel_rfl)
noncomputable def Ie(k:Nat):aF Tryz.prog am:=⟨63,CN k,XB k⟩
noncomputable def xQ(k:Nat):aU:=⟨[ki,.str,.str],[fc,(.int .i64)],[],fun x=>AK k (x.1) (x.2.1) (x.2.2)⟩
theorem W6(k:Nat):aV Tryz.prog am 58 (xQ k).aW:=bi bf Tryz.func58 (by kernel_rfl) rfl Tryz.ntmps58 (xQ k) (by kernel_rfl) [Vw k,Ie k] (fun x=>.ae 6 (.bg [.ab 16 (.int .i64),.rw 8 3 (.int .i64)] (aB [1,2,3,8,15,16] [3] [8]) (fun n=>b7 (wv k (x.1) (x.2.1) (x.2.2) n)) k fun o q=>.ae 2 (.t (.j [.rw 8 3 (.int .i64)] (aB [1,2,3,8,15,16] [3] [8]) (wF (dq o) (q.1)) (.ae 2 (.dh [[],[0],[2],[4],[6],[1,0],[2,0],[4,0],[6,0],[3,2],[4,2],[6,2],[6,4],[2,1,0],[4,1,0],[6,1,0],[3,2,0],[4,2,0],[6,2,0],[6,4,0],[4,3,2],[6,3,2],[6,4,2],[3,2,1,0],[4,2,1,0],[6,2,1,0],[6,4,1,0],[4,3,2,0],[6,3,2,0],[6,4,2,0],[5,4,3,2],[6,4,3,2],[4,3,2,1,0],[6,3,2,1,0],[6,4,2,1,0],[5,4,3,2,0],[6,4,3,2,0],[6,5,4,3,2],[5,4,3,2,1,0],[6,4,3,2,1,0],[6,5,4,3,2,0],[6,5,4,3,2,1,0],[7,6,5,4,3,2,1,0],[8,7,6,5,4,3,2,1,0],[9,8,7,6,5,4,3,2,1,0],[10,8,7,6,5,4,3,2,1,0],[10,9,8,7,6,5,4,3,2,1,0],[11,9,8,7,6,5,4,3,2,1,0],[11,10,9,8,7,6,5,4,3,2,1,0],[12,11,10,9,8,7,6,5,4,3,2,1,0]] .z)) (fun _=>.z))))) (by kernel_rfl)
noncomputable def H6(k:Nat):aF Tryz.prog am:=⟨58,xQ k,W6 k⟩
noncomputable def Cx(k:Nat):aU:=⟨[bP,ki,.str,.str],[fc,(.int .i64)],[],fun x=>tn k (x.1) (x.2.1) (x.2.2.1) (x.2.2.2)⟩
theorem Sn(k:Nat):aV Tryz.prog am 27 (Cx k).aW:=bi bf Tryz.func27 (by kernel_rfl) rfl Tryz.ntmps27 (Cx k) (by kernel_rfl) [DE k,rr k,H6 k] (fun _=>.z) (by kernel_rfl)
noncomputable def IY(k:Nat):aF Tryz.prog am:=⟨27,Cx k,Sn k⟩
noncomputable def vR(k:Nat):bU (Int×List (Int)×List (Int)) (List (Int)×List (Int)) where
 n:=5
 S:=fun z=>⟨[(0,.ptr 5 0),(1,.ptr 6 0),(2,.ptr 7 0)],[(5,.cells [ax (z.1)] 34),(6,.cells [.val fc (z.2.1)] 69),(7,.cells [.val fc (z.2.2)] 69)],[]⟩
 bJ:=fun z y=>⟨[],[(5,.cells [ax (z.1)] 34),(6,.cells [.val fc (y.1)] 69),(7,.cells [.val fc (y.2)] 69)],[]⟩
 ap:=fun z y=>[]
 rel:=fun z y=>jl k (z.1) (z.2.1) (z.2.2)=some y
theorem RW(k:Nat):pZ Tryz.prog am 59 (vR k):=FU Tryz.func59 (by kernel_rfl) rfl (vR k) Tryz.ntmps59 [] (fun z=>jl k (z.1) (z.2.1) (z.2.2)) (fun _ _ h=>h) (fun st=>bu st [.ad 6 0 fc,.ad 7 0 fc]) [5,6,7] [] (fun _=>.z) (by kernel_rfl)
noncomputable def mj(k:Nat):Ds Tryz.prog am (Int×List (Int)×List (Int)) (List (Int)×List (Int)):=⟨59,vR k,fun st=>bu st [.ad 5 0 (.int .i64),.ad 6 0 fc,.ad 7 0 fc],fun z=>jl k (z.1) (z.2.1) (z.2.2),(RW k),fun _ _ h=>h⟩
noncomputable def AH(k:Nat):aU:=⟨[bP,(.int .i32),(.int .i32)],[(.int .i64),(.int .i64)],[],fun x=>IM k (x.1) (x.2.1) (x.2.2)⟩
theorem NL(k:Nat):aV Tryz.prog am 134 (AH k).aW:=bi bf Tryz.func134 (by kernel_rfl) rfl Tryz.ntmps134 (AH k) (by kernel_rfl) [oV k,If k] (fun _=>.z) (by kernel_rfl)
noncomputable def W9(k:Nat):aF Tryz.prog am:=⟨134,AH k,NL k⟩
noncomputable def CL(k:Nat):aU:=⟨[bP,(.int .i32),(.int .i32)],[(.int .i64)],[],fun x=>sY k (x.1) (x.2.1) (x.2.2)⟩
theorem QQ(k:Nat):aV Tryz.prog am 107 (CL k).aW:=bi bf Tryz.func107 (by kernel_rfl) rfl Tryz.ntmps107 (CL k) (by kernel_rfl) [W9 k] (fun _=>.ae 3 (.f (.ae 2 (.bh 2 .z)))) (by kernel_rfl)
noncomputable def zq(k:Nat):aF Tryz.prog am:=⟨107,CL k,QQ k⟩
noncomputable def DJ(k:Nat):bU (aC×List (Int)×List (Int)) bK where
 n:=174
 S:=fun z=>⟨[(0,.val bP (z.1)),(1,.val bl (z.2.1)),(2,.val bl (z.2.2))],[],[]⟩
 bJ:=fun z y=>⟨[],[(18,.aT jp (y) 155)],[]⟩
 ap:=fun z y=>[.dz 18 []]
 rel:=fun z y=>sw k (z.1) (z.2.1) (z.2.2)=some y
theorem Ic(k:Nat):cb Tryz.prog am 106 (DJ k):=dr Tryz.func106 (by kernel_rfl) rfl (DJ k) Tryz.ntmps106 [zq k] (fun z=>sw k (z.1) (z.2.1) (z.2.2)) (fun _ _ h=>h) (fun st=>bu st [.kf 18 jp]) [18] [] (fun z=>.ae 2 (.un 18 (.ae 5 (.bg [.ab 8 (.int .i64),.ad 3 0 (.ab .str),.ad 3 1 au,.kf 18 jp] (aB [1,2,3,7,8] [3,18] []) (fun n=>qk (Bc k (z.2.1) (z.2.2) n)) k fun W q=>.ae 2 (.t (.ae 2 (.bg [.ab 9 (.int .i64),.kf 18 jp] (aB [1,2,3,7,8,9] [3,18] []) (fun n=>b7 (Bp k (z.2.1) (q.1) (z.2.2) (q.2.1) (q.2.2.1) (tX W) n)) k fun L o=>.ae 2 (.t (.j [.kf 18 jp] (aB [1,2,3,7,8,9] [3,18] []) (DU (dq L) (o.1)) (.ae 2 (.bh 4 (.f (.ae 1 (.j [.ab 10 (.int .i64)] (aB [1,2,3,7,8,9,10,11,12] [3,18] []) (Ce (q.1) (z.2.1) (o.1) (o.2) (z.2.2) (dq L)) (.ae 1 (.bh 4 .z)) (fun O=>.j [.ab 11 (.int .i64)] (aB [1,2,3,7,8,9,10,11,12] [3,18] []) (yu (o.1) (z.2.2) (q.1) (o.2) O (dq L)) .z (fun R=>.j [.ab 12 (.int .i64)] (aB [1,2,3,7,8,9,10,11,12] [3,18] []) (yp O R (q.1) (o.1) (o.2) (dq L)) .z (fun U=>.ae 2 (.j [.ab 14 (.int .i64)] (aB [1,2,3,7,8,9,11,12,13,14] [3,18] []) (DP R O U (q.1) (o.1) (o.2) (dq L)) .z (fun _=>.j [.ab 14 (.int .i64)] (aB [1,2,3,7,8,9,12,13,14] [3,18] []) (Ck U O R (q.1) (o.1) (o.2) (dq L)) .z (fun _=>.j [.ab 14 (.int .i64)] (aB [1,2,3,7,8,9,13,14] [3,18] []) (EW (q.1) (o.1) (o.2) (dq L) O R U) .z (fun _=>.fO [0,1,2,3,4,5,6,7,8,9,10,11,12,14,15,16] [] [13,17,18] .z)))))))))))) (fun _=>.z)))))))))) (by kernel_rfl)
noncomputable def XV(k:Nat):cD Tryz.prog am (aC×List (Int)×List (Int)) bK:=⟨106,DJ k,fun st=>bu st [.ab 0 bP,.ab 1 bl,.ab 2 bl],fun z=>sw k (z.1) (z.2.1) (z.2.2),(Ic k),fun _ _ h=>h⟩
noncomputable def IF(k:Nat):bU (aC×List UInt8×List UInt8) (Sum Int w7) where
 n:=33
 S:=fun z=>⟨[(0,.val bP (z.1)),(1,bj (z.2.1)),(2,bj (z.2.2))],[],[]⟩
 bJ:=fun z y=>match y with|.inl y=>⟨[],[],[]⟩|.inr y=>⟨[],[(32,.aT jp (y.2) 155)],[]⟩
 ap:=fun z y=>match y with|.inl y=>[.any,ax (y)]|.inr y=>[.dz 32 [],ax (y.1)]
 rel:=fun z y=>qr k (z.1) (z.2.1) (z.2.2)=some y
noncomputable def XO(k:Nat):Env:=cl Tryz.prog am 33 [sA k]
theorem AT(k:Nat):cb Tryz.prog am 67 (IF k):=by
 refine mY (fn:=Tryz.f67) Tryz.func67 (by kernel_rfl) rfl Tryz.ntmps67 ?_
 rintro cx R U W ⟨q,Y,Z⟩ la h
 have o:bv (XO k) cx:=im R U W
 replace h:qr k q Y Z=some la:=h
 unfold qr at h
 refine aI (aX (bC o [1,2,3] [3] [] (orc:=[]) (by kernel_rfl) .n (aM (aI (aX ?_)))))
 obtain⟨v1,lb,h⟩:=bind_some h
 refine bC o [2,3,8,9] [3] [] (orc:=[⟨bl,v1.1⟩,jQ v1.2]) (by kernel_rfl) (.c lb .n) (aM (aI (aI (aX (bC o [2,3,8,9,18] [3] [] (orc:=[]) (by kernel_rfl) .n (aM (dt (b:=v1.2 !=(0:Int)) (by kernel_rfl) (fun L=>?_) (fun L=>?_))))))))
 ·replace h:=eh L h
  refine aI (aX (cM o (st':=⟨[(7,ax v1.2)],[],[]⟩) (orc:=[]) (by kernel_rfl) .n (aM (eU (dF ?_)))))
  replace h:=Option.some.inj h
  subst h
  exact wa [7] [] [] (by kernel_rfl) (fm o.P [] [] (.inl rfl) (by kernel_rfl) (by kernel_rfl))
 ·replace h:=eg L h
  refine dA (aM (aI (aX ?_)))
  obtain⟨v2,lc,h⟩:=bind_some h
  refine bC o [3,8,9,10] [3] [] (orc:=[⟨bl,v2.1⟩,jQ v2.2]) (by kernel_rfl) (.c lc .n) (aM (aI (aI (aX (bC o [3,8,9,10,27] [3] [] (orc:=[]) (by kernel_rfl) .n (aM (dt (b:=v2.2 !=(0:Int)) (by kernel_rfl) (fun O=>?_) (fun O=>?_))))))))
  ·replace h:=eh O h
   refine aI (aX (cM o (st':=⟨[(7,ax v2.2)],[],[]⟩) (orc:=[]) (by kernel_rfl) .n (aM (eU (dF ?_)))))
   replace h:=Option.some.inj h
   subst h
   exact wa [7] [] [] (by kernel_rfl) (fm o.P [] [] (.inl rfl) (by kernel_rfl) (by kernel_rfl))
  ·replace h:=eg O h
   refine dA (aM (aI (aX (iv o 3 [29,30,31] [] [] (orc:=[]) (by kernel_rfl) .n ?_))))
   obtain⟨v3,ld,h⟩:=bind_some h
   refine tk o (Ic k) ((q.1,q.2.1,()),v1.1,v2.1) v3 ld (ρ:=[]) (ρ':=[(18,32)]) (n:=174) (by kernel_rfl) [32] [32] [] (by kernel_rfl) (by kernel_rfl) (st':=⟨[(32,.dz 32 [])],[(32,.aT jp v3 155)],[]⟩) (by kernel_rfl) (bC o [6,7] [32] [] (orc:=[]) (by kernel_rfl) .n (aM (eU ?_)))
   replace h:=Option.some.inj h
   subst h
   exact wa [6,7] [32] [] (by kernel_rfl) (fm o.P [32] [] (.inl rfl) (by kernel_rfl) (by kernel_rfl))
noncomputable def XZ(k:Nat):cD Tryz.prog am (aC×List UInt8×List UInt8) (Sum Int w7):=⟨67,IF k,fun st=>bu st [.ab 0 bP,.ab 1 .str,.ab 2 .str],fun z=>qr k (z.1) (z.2.1) (z.2.2),(AT k),fun _ _ h=>h⟩
noncomputable def xe(k:Nat):aU:=⟨[(.ptr jp),bP],[(.ab kH)],[],fun x=>Sc k (x.1) (x.2)⟩
theorem Wn(k:Nat):aV Tryz.prog am 68 (xe k).aW:=bi bf Tryz.func68 (by kernel_rfl) rfl Tryz.ntmps68 (xe k) (by kernel_rfl) [zq k] (fun x=>.ae 6 (.bg [.ab 6 (.int .i64),.ab 7 (.int .i64),.rw 5 203 kH] (aB [0,3,5,6,7] [3] [5]) (fun n=>gj (Bg k (x.1) (x.2) n)) k fun q o=>.ae 2 (.bh 7 (.t (.ae 2 (.a (.int .i64) fun L=>.ae 2 (.bh 7 (.g 29 (Ac (x.1) (o.1) (o.2.1) (o.2.2) (gH q) L) .z .z (fun _=>.c (.ae 1 (.fO [0,1,2,3,5,8,9,10,12] [4,6,7,11,13,14,15] [16,17,18] .z)) (.ae 1 (.g 12 (xR (x.1) (o.1) (o.2.2) (gH q) (o.2.1)) .z .z (fun _=>.z)))))))))))) (by kernel_rfl)
noncomputable def X7(k:Nat):aF Tryz.prog am:=⟨68,xe k,Wn k⟩
noncomputable def Ez(k:Nat):bU IZ aA where
 n:=152
 S:=fun z=>⟨[(0,.dz 152 []),(1,.val bP (z.1))],[(152,.aT jp (z.2) 155)],[]⟩
 bJ:=fun z y=>⟨[],[(152,.aT jp (z.2) 155)],[(5,⟨203,kH,(y)⟩)]⟩
 ap:=fun z y=>[.row 5]
 rel:=fun z y=>tN k (z.1) (z.2)=some y
theorem G7(k:Nat):cb Tryz.prog am 68 (Ez k):=dr Tryz.func68 (by kernel_rfl) rfl (Ez k) Tryz.ntmps68 [zq k] (fun z=>tN k (z.1) (z.2)) (fun _ _ h=>h) (fun st=>bu st [.rw 5 203 kH]) [152] [5] (fun z=>.ae 6 (.bg [.ab 6 (.int .i64),.ab 7 (.int .i64),.rw 5 203 kH] (aB [0,3,5,6,7] [3,152] [5]) (fun n=>gj (yz k (z.2) (z.1) n)) k fun q o=>.ae 2 (.bh 7 (.t (.ae 2 (.a (.int .i64) fun L=>.ae 2 (.bh 7 (.g 29 (Cr (z.2) (o.1) (o.2.1) (o.2.2) (gH q) L) .z .z (fun _=>.c (.ae 1 (.fO [0,1,2,3,5,8,9,10,12] [4,6,7,11,13,14,15] [16,17,18] .z)) (.ae 1 (.g 12 (Ek (z.2) (o.1) (o.2.2) (gH q) (o.2.1)) .z .z (fun _=>.z)))))))))))) (by kernel_rfl)
noncomputable def X2(k:Nat):cD Tryz.prog am IZ aA:=⟨68,Ez k,fun st=>bu st [.ab 1 bP,.kf 152 jp],fun z=>tN k (z.1) (z.2),(G7 k),fun _ _ h=>h⟩
noncomputable def JQ(k:Nat):aU:=⟨[bP,.str,.str],[(.int .i64),(.ab kH),(.int .i64)],[],fun x=>vq k (x.1) (x.2.1) (x.2.2)⟩
noncomputable def Wv(k:Nat):Env:=cl Tryz.prog am 30 []
theorem Q4(k:Nat):aV Tryz.prog am 33 (JQ k).aW:=by
 refine zo bf (fn:=Tryz.f33) Tryz.func33 (by kernel_rfl) rfl (ND Tryz.ntmps33 (by kernel_rfl)) ?_
 rintro w0 M _ _ lh h
 obtain⟨⟨q,L,O⟩,⟨ld,le,lf⟩,rfl,rfl,h⟩:=iI h
 change aC at q
 change List UInt8 at L
 change List UInt8 at O
 change Int at ld
 change List bz at le
 change Int at lf
 replace h:vq k q L O=some (ld,le,lf):=h
 have o:bv (Wv k) ⟨Tryz.prog,Tryz.f33.ntmps,w0,M,fun _=>False,fun _=>undef⟩:=im rfl Tryz.ntmps33 lh
 unfold vq at h
 refine aI (aX (bC o [1,2,3] [3] [] (orc:=[]) (by kernel_rfl) .n (aM (aI (aX (iv o 3 [3,12,13,14] [3] [] (orc:=[]) (by kernel_rfl) .n ?_))))))
 obtain⟨v1,lg,h⟩:=bind_some h
 rcases v1 with v2|v3
 ·replace h:=ON h
  refine ov o (AT k) ((q.1,q.2.1,()),L,O) (.inl v2) lg (ρ:=[]) (ρ':=[]) (n:=33) (by kernel_rfl) [3,15] [3] [] (by kernel_rfl) (by kernel_rfl) (by kernel_rfl) (bC o [3,9,10] [3] [] (orc:=[]) (by kernel_rfl) .n (aM (aI (aI (aX (bC o [3,9,10,19] [3] [] (orc:=[]) (by kernel_rfl) .n (aM (dt (b:=v2 !=(0:Int)) (by kernel_rfl) (fun R=>?_) (fun R=>?_)))))))))
  ·replace h:=eh R h
   refine aI (aX (cM o (st':=⟨[(6,ax (0:Int)),(7,.row 7),(8,ax v2)],[],[(7,⟨203,kH,([]:List bz)⟩)]⟩) (orc:=[]) (by kernel_rfl) .n (aM (eU (dF ?_)))))
   cases h
   exact tl (.inl rfl) (by kernel_rfl)
  ·replace h:=eg R h
   refine dA (aM (aI ?_))
   cases h
 ·replace h:=TP h
  refine ov o (AT k) ((q.1,q.2.1,()),L,O) (.inr v3) lg (ρ:=[]) (ρ':=[(32,15)]) (n:=33) (by kernel_rfl) [3,15] [3,15] [] (by kernel_rfl) (by kernel_rfl) (by kernel_rfl) (bC o [3,9,10] [3,15] [] (orc:=[]) (by kernel_rfl) .n (aM (aI (aI (aX (bC o [3,9,10,19] [3,15] [] (orc:=[]) (by kernel_rfl) .n (aM (dt (b:=v3.1 !=(0:Int)) (by kernel_rfl) (fun U=>?_) (fun U=>?_)))))))))
  ·replace h:=eh U h
   refine aI (aX (cM o (st':=⟨[(6,ax (0:Int)),(7,.row 7),(8,ax v3.1)],[],[(7,⟨203,kH,([]:List bz)⟩)]⟩) (orc:=[]) (by kernel_rfl) .n (aM (eU (dF ?_)))))
   cases h
   exact tl (.inl rfl) (by kernel_rfl)
  ·replace h:=eg U h
   refine dA (aM (aI ?_))
   obtain⟨_,W,h⟩:=bind_some h
   replace W:=dj W
   obtain⟨_,Y,h⟩:=bind_some h
   replace Y:=dj Y
   obtain⟨Z,la,h⟩:=bind_some h
   obtain⟨lb,lc,h⟩:=bind_some h
   refine Wa o [0,1,2,3,4,6] [] 5 7 [8] [9,10,11] [3,25,26,27] [3,15] [] (orc:=[]) (orci:=[⟨(.arr 65 (.int .i64)),Z⟩,jQ lb]) (by rfl) (by rfl) (by rfl) (by kernel_rfl) (by kernel_rfl) (by kernel_rfl) (by kernel_rfl) (by kernel_rfl) (by kernel_rfl) (by kernel_rfl) (by kernel_rfl) (.c W (.c Y (.c la (.c lc .n)))) (bC o [25,26,27,28] [15] [] (orc:=[]) (by kernel_rfl) .n (MW o (orc:=[⟨(.arr 65 (.int .i64)),Z⟩,jQ lb]) (by kernel_rfl) (by kernel_rfl) (by kernel_rfl) (by kernel_rfl) (.c la (.c lc .n)) (by rfl) ?_))
   obtain⟨v4,li,h⟩:=bind_some h
   refine ov o (G7 k) ((q.1,q.2.1,()),v3.2) v4 li (ρ:=[(15,152)]) (ρ':=[(152,15),(5,29)]) (n:=152) (by kernel_rfl) [25,26,29] [15] [29] (by kernel_rfl) (by kernel_rfl) (by kernel_rfl) (jL (QM o (orc:=[⟨(.arr 65 (.int .i64)),Z⟩,jQ lb]) (by kernel_rfl) (by kernel_rfl) (by kernel_rfl) (by kernel_rfl) (.c la (.c lc .n)) (bC o [6,7,8] [] [29] (orc:=[]) (by kernel_rfl) .n (RK (aM (eU ?_))))))
   cases h
   exact tl (.inl rfl) (by kernel_rfl)
noncomputable def RE(k:Nat):aF Tryz.prog am:=⟨33,JQ k,Q4 k⟩
noncomputable def Dz(k:Nat):aU:=⟨[cQ,cQ],[(.int .i64)],[],fun x=>qv k (x.1) (x.2)⟩
theorem TR(k:Nat):aV Tryz.prog am 61 (Dz k).aW:=bi bf Tryz.func61 (by kernel_rfl) rfl Tryz.ntmps61 (Dz k) (by kernel_rfl) [] (fun _=>.z) (by kernel_rfl)
noncomputable def Ku(k:Nat):aF Tryz.prog am:=⟨61,Dz k,TR k⟩
noncomputable def zr(k:Nat):bU (Int×Int×List bz) aA where
 n:=53
 S:=fun z=>⟨[(0,.row 10000000),(1,ax (z.1)),(2,ax (z.2.1)),(3,.clos 61 [])],[],[(10000000,⟨140,cQ,(z.2.2)⟩)]⟩
 bJ:=fun z y=>⟨[],[],[(10000000,⟨140,cQ,(y)⟩)]⟩
 ap:=fun z y=>[]
 rel:=fun z y=>pj k (z.1) (z.2.1) (z.2.2)=some y
theorem Nz(k:Nat):cb Tryz.prog am 120 (zr k):=dr Tryz.func120 (by kernel_rfl) rfl (zr k) Tryz.ntmps120 [Ku k] (fun z=>pj k (z.1) (z.2.1) (z.2.2)) (fun _ _ h=>h) (fun st=>bu st [.rw 10000000 140 cQ]) [] [10000000] (fun z=>.ae 1 (.bg [.ab 8 (.int .i64),.rw 10000000 140 cQ] (aB [0,1,2,3,8] [] [10000000]) (fun n=>b7 (DI k (z.2.1) (z.1) n)) k fun o q=>.ae 2 (.t (.ae 2 (.bg [.ab 9 (.int .i64),.rw 10000000 140 cQ] (aB [0,1,2,3,8,9] [] [10000000]) (fun n=>b7 (C8 k (z.1) (dq o) (q.1) n)) k fun O L=>.ae 3 (.g 12 (wn (L.2) (L.1) (dq O) (dq o) (q.1)) (.ae 6 (.u 0 (.ae 6 (.u 0 .z)))) .z (fun _=>.t (.ae 1 (.fO [0,1,2,3,4,5,6,7,8,10,11,12] [9,13,14] [15,16,17] (.ae 2 (.u 1 (.u 0 (.u 0 (.u 0 (.ae 1 (.u 0 .z)))))))))))))))) (by kernel_rfl)
noncomputable def LD(k:Nat):cD Tryz.prog am (Int×Int×List bz) aA:=⟨120,zr k,fun st=>bu st [.ab 1 (.int .i64),.ab 2 (.int .i64),.rw 10000000 140 cQ],fun z=>pj k (z.1) (z.2.1) (z.2.2),(Nz k),fun _ _ h=>h⟩
end Go.Ev
