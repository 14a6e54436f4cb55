/- Contracts, by program. -/
import Derived.Test.YteopobecmacgdaaGreatDoorProg
import Derived.Test.YteopobecmacgdaaGreatDoorMM6
import Derived.Test.YteopobecmacgdaaGreatDoorMM9
import Derived.Test.YteopobecmacgdaaGreatDoorCtLoP1
import Derived.Test.YteopobecmacgdaaGreatDoorCtLoP2
import Derived.Test.YteopobecmacgdaaGreatDoorCtLoP3
import Derived.Test.YteopobecmacgdaaGreatDoorCtLoP4
import Derived.Test.YteopobecmacgdaaGreatDoorCtLoP8
import Derived.KernelRfl
import Derived.Test.YteopobecmacgdaaGreatDoorTyA
set_option linter.unusedSectionVars false
set_option linter.unusedVariables false
set_option linter.unusedSimpArgs false
namespace Go.Ev
open Go Go.Proofs
set_option linter.unusedVariables false
set_option maxRecDepth 100000
noncomputable def xw(k:Nat):aQ:=⟨[(.int .i32),(.int .i32),nH],[(.int .i64)],[mx],fun x=>HW k (x.1) (x.2.1) (x.2.2)⟩
theorem Mi(k:Nat):aR Tryz.prog am 104 (xw k).aS:=bh bd Tryz.func104 (by kernel_rfl) rfl Tryz.ntmps104 (xw k) (by kernel_rfl) [] (fun _=>.z) (by kernel_rfl)
noncomputable def EY(k:Nat):aD Tryz.prog am:=⟨104,xw k,Mi k⟩
noncomputable def xq(k:Nat):aQ:=⟨[bk,bk,(.fn 104 (.pair nH .unit))],[(.int .i64)],[],fun x=>FX k (x.1) (x.2.1) (x.2.2)⟩
theorem QB(k:Nat):aR Tryz.prog am 84 (xq k).aS:=bh bd Tryz.func84 (by kernel_rfl) rfl Tryz.ntmps84 (xq k) (by kernel_rfl) [EY k] (fun x=>.ae 3 (.be [.ab 13 (.int .i64)] (az [0,1,2,11,12,13] [] []) (yS k (x.1) (x.2.1) (x.2.2)) k fun _ _=>.z)) (by kernel_rfl)
noncomputable def KO(k:Nat):aD Tryz.prog am:=⟨84,xq k,QB k⟩
noncomputable def wc(k:Nat):aQ:=⟨[.str,.str,nH],[(.int .i64)],[mx],fun x=>EF k (x.1) (x.2.1) (x.2.2)⟩
theorem Um(k:Nat):aR Tryz.prog am 103 (wc k).aS:=bh bd Tryz.func103 (by kernel_rfl) rfl Tryz.ntmps103 (wc k) (by kernel_rfl) [EY k,KO k] (fun _=>.z) (by kernel_rfl)
noncomputable def Qh(k:Nat):aD Tryz.prog am:=⟨103,wc k,Um k⟩
noncomputable def zv(k:Nat):bP qa cl where
 n:=53
 S:=fun z=>⟨[(0,.row 10000000),(1,ax (z.1)),(2,ax (z.2.1)),(3,.clos 103 [54])],[(54,.cells [.iter 55] 119),(55,.mp (.int .i32) (.int .i64) (z.2.2.1))],[(10000000,⟨9,.str,(z.2.2.2)⟩)]⟩
 bE:=fun z y=>⟨[],[(54,.cells [.iter 55] 119),(55,.mp (.int .i32) (.int .i64) (y.1))],[(10000000,⟨9,.str,(y.2)⟩)]⟩
 ap:=fun z y=>[]
 rel:=fun z y=>sq k (z.1) (z.2.1) (z.2.2.1) (z.2.2.2)=some y
theorem Kl(k:Nat):bZ Tryz.prog am 170 (zv k):=de Tryz.func170 (by kernel_rfl) rfl (zv k) Tryz.ntmps170 [Qh k] (fun z=>sq k (z.1) (z.2.1) (z.2.2.1) (z.2.2.2)) (fun _ _ h=>h) (fun st=>bp st [.mp 55 (.int .i32) (.int .i64),.rw 10000000 9 .str]) [54,55] [10000000] (fun z=>.ae 1 (.be [.ab 8 (.int .i64),.mp 55 (.int .i32) (.int .i64),.rw 10000000 9 .str] (az [0,1,2,3,8] [54,55] [10000000]) (fun n=>fK (z8 k (z.2.1) (z.1) n)) k fun q o=>.ae 2 (.t (.ae 2 (.be [.ab 9 (.int .i64),.rw 10000000 9 .str] (az [0,1,2,3,8,9] [54,55] [10000000]) (fun n=>bY (uc k (z.1) (o.2.1) (fW q) (o.1) n)) k fun O L=>.ae 3 (.g 12 (AY (L.2) (L.1) (dh O) (fW q) (o.1) (o.2.1)) (.ae 6 (.u 0 (.ae 6 (.u 0 .z)))) .z (fun _=>.t (.ae 1 (.fl [0,1,2,3,4,5,6,7,8,10,11,12] [9,13,14] [15,16,17] (.ae 2 (.u 1 (.u 0 (.u 0 (.u 0 (.ae 1 (.u 0 .z)))))))))))))))) (by kernel_rfl)
noncomputable def PG(k:Nat):cn Tryz.prog am qa cl:=⟨170,zv k,fun st=>bp st [.ab 1 (.int .i64),.ab 2 (.int .i64),.mp 55 (.int .i32) (.int .i64),.rw 10000000 9 .str],fun z=>sq k (z.1) (z.2.1) (z.2.2.1) (z.2.2.2),(Kl k),fun _ _ h=>h⟩
noncomputable def zA(k:Nat):bP rn cl where
 n:=148
 S:=fun z=>⟨[(0,.row 10000000),(1,ax (z.1)),(2,ax (z.2.1)),(3,ax (z.2.2.1)),(4,.clos 103 [149])],[(149,.cells [.iter 150] 119),(150,.mp (.int .i32) (.int .i64) (z.2.2.2.1))],[(10000000,⟨9,.str,(z.2.2.2.2)⟩)]⟩
 bE:=fun z y=>⟨[],[(149,.cells [.iter 150] 119),(150,.mp (.int .i32) (.int .i64) (y.1))],[(10000000,⟨9,.str,(y.2)⟩)]⟩
 ap:=fun z y=>[]
 rel:=fun z y=>qU k (z.1) (z.2.1) (z.2.2.1) (z.2.2.2.1) (z.2.2.2.2)=some y
theorem MC(k:Nat):bZ Tryz.prog am 132 (zA k):=de Tryz.func132 (by kernel_rfl) rfl (zA k) Tryz.ntmps132 [] (fun z=>qU k (z.1) (z.2.1) (z.2.2.1) (z.2.2.2.1) (z.2.2.2.2)) (fun _ _ h=>h) (fun st=>bp st [.mp 150 (.int .i32) (.int .i64),.rw 10000000 9 .str]) [149,150] [10000000] (fun z=>.ae 2 (.be [] (az [0,1,2,3,4,10,11] [149,150] [10000000]) (fun n=>rO (A1 k (z.2.1) (z.1) (z.2.2.2.1) (z.2.2.2.2) n)) k fun _ _=>.ae 3 (.c (.ae 1 (.bG (PG k) [(10000000,10000000),(149,54),(150,55)] [(54,149),(55,150),(10000000,10000000)] (fun _=>.z))) (.fN [999999] [] [] .z)))) (by kernel_rfl)
noncomputable def Ln(k:Nat):cn Tryz.prog am rn cl:=⟨132,zA k,fun st=>bp st [.ab 1 (.int .i64),.ab 2 (.int .i64),.ab 3 (.int .i64),.mp 150 (.int .i32) (.int .i64),.rw 10000000 9 .str],fun z=>qU k (z.1) (z.2.1) (z.2.2.1) (z.2.2.2.1) (z.2.2.2.2),(MC k),fun _ _ h=>h⟩
noncomputable def CF(k:Nat):bP cl cl where
 n:=14
 S:=fun z=>⟨[(0,.row 10000000),(1,.clos 103 [15])],[(15,.cells [.iter 16] 119),(16,.mp (.int .i32) (.int .i64) (z.1))],[(10000000,⟨9,.str,(z.2)⟩)]⟩
 bE:=fun z y=>⟨[],[(15,.cells [.iter 16] 119),(16,.mp (.int .i32) (.int .i64) (y.1))],[(10000000,⟨9,.str,(y.2)⟩)]⟩
 ap:=fun z y=>[]
 rel:=fun z y=>r6 k (z.1) (z.2)=some y
theorem RM(k:Nat):bZ Tryz.prog am 100 (CF k):=de Tryz.func100 (by kernel_rfl) rfl (CF k) Tryz.ntmps100 [GV k] (fun z=>r6 k (z.1) (z.2)) (fun _ _ h=>h) (fun st=>bp st [.mp 16 (.int .i32) (.int .i64),.rw 10000000 9 .str]) [15,16] [10000000] (fun _=>.ae 2 (.bG (Ln k) [(10000000,10000000),(15,149),(16,150)] [(149,15),(150,16),(10000000,10000000)] (fun _=>.z))) (by kernel_rfl)
noncomputable def Kh(k:Nat):cn Tryz.prog am cl cl:=⟨100,CF k,fun st=>bp st [.mp 16 (.int .i32) (.int .i64),.rw 10000000 9 .str],fun z=>r6 k (z.1) (z.2),(RM k),fun _ _ h=>h⟩
noncomputable def Bb(k:Nat):aQ:=⟨[(.ab .str)],[(.ab .str)],[],fun x=>OD k x⟩
theorem Qi(k:Nat):aR Tryz.prog am 105 (Bb k).aS:=bh bd Tryz.func105 (by kernel_rfl) rfl Tryz.ntmps105 (Bb k) (by kernel_rfl) [] (fun x=>.ae 4 (.f (.ae 2 (.be [.ab 3 (.int .i64)] (az [0,3] [] []) (AE x) k fun _ _=>.ae 2 (.t (.ae 5 (.t (.fN [999999] [] [] .z)))))))) (by kernel_rfl)
noncomputable def UD(k:Nat):aD Tryz.prog am:=⟨105,Bb k,Qi k⟩
noncomputable def yc(k:Nat):bP aF Unit where
 n:=61
 S:=fun z=>⟨[(0,.row 10000000)],[],[(10000000,⟨9,.str,(z)⟩)]⟩
 bE:=fun z y=>⟨[],[],[(10000000,⟨9,.str,(z)⟩)]⟩
 ap:=fun z y=>[.row 10000000]
 rel:=fun z y=>rC k (z)=some y
theorem K9(k:Nat):bZ Tryz.prog am 105 (yc k):=de Tryz.func105 (by kernel_rfl) rfl (yc k) Tryz.ntmps105 [] (fun z=>rC k (z)) (fun _ _ h=>h) (fun st=>bp st []) [] [10000000] (fun z=>.ae 4 (.f (.ae 2 (.be [.ab 3 (.int .i64)] (az [0,3] [] [10000000]) (BB z) k fun _ _=>.ae 2 (.t (.ae 4 (.u 0 (.ae 1 (.u 0 (.t (.fN [999999] [] [] .z))))))))))) (by kernel_rfl)
noncomputable def ON(k:Nat):cn Tryz.prog am aF Unit:=⟨105,yc k,fun st=>bp st [.rw 10000000 9 .str],fun z=>rC k (z),(K9 k),fun _ _ h=>h⟩
noncomputable def u5(k:Nat):bP (aB×List (List UInt8)) aF where
 n:=27
 S:=fun z=>⟨[(0,.val bI (z.1)),(1,.row 10000000)],[],[(10000000,⟨9,.str,(z.2)⟩)]⟩
 bE:=fun z y=>⟨[],[],[(10000000,⟨9,.str,(y)⟩)]⟩
 ap:=fun z y=>[.row 10000000]
 rel:=fun z y=>tk k (z.1) (z.2)=some y
theorem KP(k:Nat):bZ Tryz.prog am 66 (u5 k):=de Tryz.func66 (by kernel_rfl) rfl (u5 k) Tryz.ntmps66 [] (fun z=>tk k (z.1) (z.2)) (fun _ _ h=>h) (fun st=>bp st [.rw 10000000 9 .str]) [] [10000000] (fun z=>.ae 5 (.be [.ab 12 (.int .i64),.mp 8 (.int .i32) (.int .i64)] (az [1,5,10,11,12] [5,8] [10000000]) (fun n=>bY (xv k (z.1) (z.2) n)) k fun _ _=>.ae 2 (.f (.ae 1 (.bG (Kh k) [(10000000,10000000),(5,15),(8,16)] [(15,5),(16,8),(10000000,10000000)] (fun _=>.ae 1 (.bG (ON k) [(10000000,10000000)] [(10000000,10000000)] (fun _=>.z)))))))) (by kernel_rfl)
noncomputable def TF(k:Nat):cn Tryz.prog am (aB×List (List UInt8)) aF:=⟨66,u5 k,fun st=>bp st [.ab 0 bI,.rw 10000000 9 .str],fun z=>tk k (z.1) (z.2),(KP k),fun _ _ h=>h⟩
noncomputable def uJ(k:Nat):aQ:=⟨[bI,mc,.str],[(.ab .str),(.int .i64)],[],fun x=>H0 k (x.1) (x.2.1) (x.2.2)⟩
theorem Kk(k:Nat):aR Tryz.prog am 32 (uJ k).aS:=bh bd Tryz.func32 (by kernel_rfl) rfl Tryz.ntmps32 (uJ k) (by kernel_rfl) [DO k,Kb k] (fun x=>.ae 6 (.f (.ae 3 (.be [.ab 31 (.int .i64),.ad 3 0 (.ab .str),.ad 3 1 au,.rw 28 9 .str] (az [3,9,29,30,31] [3] [28]) (fun n=>oW (xL k (x.2.1) n)) k fun L q=>.ae 2 (.t (.ae 8 (.be [.ab 38 (.int .i64),.ad 3 0 (.ab .str),.ad 3 1 au,.ad 11 0 .str,.ad 11 1 au,.ad 11 2 bj,.ad 11 3 av,.ad 11 4 av,.ad 11 5 (.int .u8),.ad 11 6 .bool,.mp 35 .str .bool,.rw 13 9 .str,.rw 28 9 .str] (az [3,11,12,13,29,30,31,36,37,38] [3,11,35] [13,28]) (fun n=>Tx (um k (q.2.2.2) (qe L) (q.1) n)) k fun O o=>.ae 2 (.c (.ae 3 (.u 0 (.ae 1 (.ac [(.ab .str),(.int .i64)] fun v2=>.ae 2 (.f (.ae 2 (.be [.ab 54 (.int .i64),.mp 35 .str .bool,.rw 13 9 .str] (az [3,11,12,13,29,30,31,36,37,38,52,53,54] [3,11,35] [13,28]) (fun n=>fK (wd v2 (OK O) (o.1) (o.2.1) (o.2.2.1) (o.2.2.2.1) (o.2.2.2.2.1) (o.2.2.2.2.2.1) (o.2.2.2.2.2.2.1) (o.2.2.2.2.2.2.2.1) (o.2.2.2.2.2.2.2.2.1) (o.2.2.2.2.2.2.2.2.2.1) (o.2.2.2.2.2.2.2.2.2.2.2.2) n)) k fun R U=>.ae 2 (.t (.j [.mp 35 .str .bool,.rw 13 9 .str] (az [3,11,12,13,29,30,31,36,37,38,52,53,54] [3,11,35] [13,28]) (bY (tQ (fW R) (U.1))) .z (fun _=>.z)))))))))) (.bG (TF k) [(13,10000000)] [(10000000,13)] (fun _=>.eO [3,9,29,30,31] [3] [13] [(3,3),(13,28)])))))))))) (by kernel_rfl)
noncomputable def T9(k:Nat):aD Tryz.prog am:=⟨32,uJ k,Kk k⟩
noncomputable def z6(k:Nat):aQ:=⟨[(.ab .str),.str],[(.int .i64)],[],fun x=>xj k (x.1) (x.2)⟩
theorem KQ(k:Nat):aR Tryz.prog am 98 (z6 k).aS:=bh bd Tryz.func98 (by kernel_rfl) rfl Tryz.ntmps98 (z6 k) (by kernel_rfl) [] (fun x=>.ae 3 (.be [.ab 8 (.int .i64)] (az [0,1,7,8] [] []) (wT (x.1) (x.2)) k fun _ _=>.z)) (by kernel_rfl)
noncomputable def Iq(k:Nat):aD Tryz.prog am:=⟨98,z6 k,KQ k⟩
noncomputable def vk(k:Nat):aQ:=⟨[(.ab .str),.str],[.bool],[],fun x=>Cg k (x.1) (x.2)⟩
theorem Ok(k:Nat):aR Tryz.prog am 63 (vk k).aS:=bh bd Tryz.func63 (by kernel_rfl) rfl Tryz.ntmps63 (vk k) (by kernel_rfl) [Iq k] (fun _=>.z) (by kernel_rfl)
noncomputable def Hw(k:Nat):aD Tryz.prog am:=⟨63,vk k,Ok k⟩
noncomputable def zJ(k:Nat):aQ:=⟨[jT,.str,.str],[eM,(.int .i64)],[],fun x=>yy k (x.1) (x.2.1) (x.2.2)⟩
theorem MO(k:Nat):aR Tryz.prog am 58 (zJ k).aS:=bh bd Tryz.func58 (by kernel_rfl) rfl Tryz.ntmps58 (zJ k) (by kernel_rfl) [T9 k,Hw k] (fun x=>.ae 6 (.be [.ab 16 (.int .i64),.rw 8 3 (.int .i64)] (az [1,2,3,8,15,16] [3] [8]) (fun n=>bY (yF k (x.1) (x.2.1) (x.2.2) n)) k fun o q=>.ae 2 (.t (.j [.rw 8 3 (.int .i64)] (az [1,2,3,8,15,16] [3] [8]) (Bm (dh o) (q.1)) (.ae 2 (.cS [[],[0],[2],[4],[6],[1,0],[2,0],[4,0],[6,0],[3,2],[4,2],[6,2],[6,4],[2,1,0],[4,1,0],[6,1,0],[3,2,0],[4,2,0],[6,2,0],[6,4,0],[4,3,2],[6,3,2],[6,4,2],[3,2,1,0],[4,2,1,0],[6,2,1,0],[6,4,1,0],[4,3,2,0],[6,3,2,0],[6,4,2,0],[5,4,3,2],[6,4,3,2],[4,3,2,1,0],[6,3,2,1,0],[6,4,2,1,0],[5,4,3,2,0],[6,4,3,2,0],[6,5,4,3,2],[5,4,3,2,1,0],[6,4,3,2,1,0],[6,5,4,3,2,0],[6,5,4,3,2,1,0],[7,6,5,4,3,2,1,0],[8,7,6,5,4,3,2,1,0],[9,8,7,6,5,4,3,2,1,0],[10,8,7,6,5,4,3,2,1,0],[10,9,8,7,6,5,4,3,2,1,0],[11,9,8,7,6,5,4,3,2,1,0],[11,10,9,8,7,6,5,4,3,2,1,0],[12,11,10,9,8,7,6,5,4,3,2,1,0]] .z)) (fun _=>.z))))) (by kernel_rfl)
noncomputable def DZ(k:Nat):aD Tryz.prog am:=⟨58,zJ k,MO k⟩
noncomputable def An(k:Nat):aQ:=⟨[bI,jT,.str,.str],[eM,(.int .i64)],[],fun x=>rR k (x.1) (x.2.1) (x.2.2.1) (x.2.2.2)⟩
theorem OG(k:Nat):aR Tryz.prog am 27 (An k).aS:=bh bd Tryz.func27 (by kernel_rfl) rfl Tryz.ntmps27 (An k) (by kernel_rfl) [BL k,nX k,DZ k] (fun _=>.z) (by kernel_rfl)
noncomputable def GC(k:Nat):aD Tryz.prog am:=⟨27,An k,OG k⟩
noncomputable def ur(k:Nat):bP (Int×List (Int)×List (Int)) (List (Int)×List (Int)) where
 n:=5
 S:=fun z=>⟨[(0,.ptr 5 0),(1,.ptr 6 0),(2,.ptr 7 0)],[(5,.cells [ax (z.1)] 34),(6,.cells [.val eM (z.2.1)] 69),(7,.cells [.val eM (z.2.2)] 69)],[]⟩
 bE:=fun z y=>⟨[],[(5,.cells [ax (z.1)] 34),(6,.cells [.val eM (y.1)] 69),(7,.cells [.val eM (y.2)] 69)],[]⟩
 ap:=fun z y=>[]
 rel:=fun z y=>iL k (z.1) (z.2.1) (z.2.2)=some y
theorem SM(k:Nat):pK Tryz.prog am 59 (ur k):=Ey Tryz.func59 (by kernel_rfl) rfl (ur k) Tryz.ntmps59 [] (fun z=>iL k (z.1) (z.2.1) (z.2.2)) (fun _ _ h=>h) (fun st=>bp st [.ad 6 0 eM,.ad 7 0 eM]) [5,6,7] [] (fun _=>.z) (by kernel_rfl)
noncomputable def kQ(k:Nat):yM Tryz.prog am (Int×List (Int)×List (Int)) (List (Int)×List (Int)):=⟨59,ur k,fun st=>bp st [.ad 5 0 (.int .i64),.ad 6 0 eM,.ad 7 0 eM],fun z=>iL k (z.1) (z.2.1) (z.2.2),(SM k),fun _ _ h=>h⟩
noncomputable def xJ(k:Nat):aQ:=⟨[bI,(.int .i32),(.int .i32)],[(.int .i64),(.int .i64)],[],fun x=>Hy k (x.1) (x.2.1) (x.2.2)⟩
theorem NH(k:Nat):aR Tryz.prog am 134 (xJ k).aS:=bh bd Tryz.func134 (by kernel_rfl) rfl Tryz.ntmps134 (xJ k) (by kernel_rfl) [nw k,HC k] (fun _=>.z) (by kernel_rfl)
noncomputable def Rl(k:Nat):aD Tryz.prog am:=⟨134,xJ k,NH k⟩
noncomputable def Cs(k:Nat):aQ:=⟨[bI,(.int .i32),(.int .i32)],[(.int .i64)],[],fun x=>sH k (x.1) (x.2.1) (x.2.2)⟩
theorem PA(k:Nat):aR Tryz.prog am 107 (Cs k).aS:=bh bd Tryz.func107 (by kernel_rfl) rfl Tryz.ntmps107 (Cs k) (by kernel_rfl) [Rl k] (fun _=>.ae 3 (.f (.ae 2 (.bf 2 .z)))) (by kernel_rfl)
noncomputable def za(k:Nat):aD Tryz.prog am:=⟨107,Cs k,PA k⟩
noncomputable def Bg(k:Nat):bP (aB×List (Int)×List (Int)) bF where
 n:=174
 S:=fun z=>⟨[(0,.val bI (z.1)),(1,.val bk (z.2.1)),(2,.val bk (z.2.2))],[],[]⟩
 bE:=fun z y=>⟨[],[(18,.aP iB (y) 155)],[]⟩
 ap:=fun z y=>[.dm 18 []]
 rel:=fun z y=>tj k (z.1) (z.2.1) (z.2.2)=some y
theorem Ep(k:Nat):bZ Tryz.prog am 106 (Bg k):=de Tryz.func106 (by kernel_rfl) rfl (Bg k) Tryz.ntmps106 [za k] (fun z=>tj k (z.1) (z.2.1) (z.2.2)) (fun _ _ h=>h) (fun st=>bp st [.jO 18 iB]) [18] [] (fun z=>.ae 2 (.un 18 (.ae 5 (.be [.ab 8 (.int .i64),.ad 3 0 (.ab .str),.ad 3 1 au,.jO 18 iB] (az [1,2,3,7,8] [3,18] []) (fun n=>oW (tG k (z.2.1) (z.2.2) n)) k fun V q=>.ae 2 (.t (.ae 2 (.be [.ab 9 (.int .i64),.jO 18 iB] (az [1,2,3,7,8,9] [3,18] []) (fun n=>bY (tx k (z.2.1) (q.1) (z.2.2) (q.2.1) (q.2.2.1) (qe V) n)) k fun L o=>.ae 2 (.t (.j [.jO 18 iB] (az [1,2,3,7,8,9] [3,18] []) (tR (dh L) (o.1)) (.ae 2 (.bf 4 (.f (.ae 1 (.j [.ab 10 (.int .i64)] (az [1,2,3,7,8,9,10,11,12] [3,18] []) (AM (q.1) (z.2.1) (o.1) (o.2) (z.2.2) (dh L)) (.ae 1 (.bf 4 .z)) (fun O=>.j [.ab 11 (.int .i64)] (az [1,2,3,7,8,9,10,11,12] [3,18] []) (wO (o.1) (z.2.2) (q.1) (o.2) O (dh L)) .z (fun R=>.j [.ab 12 (.int .i64)] (az [1,2,3,7,8,9,10,11,12] [3,18] []) (yC O R (q.1) (o.1) (o.2) (dh L)) .z (fun U=>.ae 2 (.j [.ab 14 (.int .i64)] (az [1,2,3,7,8,9,11,12,13,14] [3,18] []) (vX R O U (q.1) (o.1) (o.2) (dh L)) .z (fun _=>.j [.ab 14 (.int .i64)] (az [1,2,3,7,8,9,12,13,14] [3,18] []) (BS U O R (q.1) (o.1) (o.2) (dh L)) .z (fun _=>.j [.ab 14 (.int .i64)] (az [1,2,3,7,8,9,13,14] [3,18] []) (vj (q.1) (o.1) (o.2) (dh L) O R U) .z (fun _=>.fl [0,1,2,3,4,5,6,7,8,9,10,11,12,14,15,16] [] [13,17,18] .z)))))))))))) (fun _=>.z)))))))))) (by kernel_rfl)
noncomputable def Un(k:Nat):cn Tryz.prog am (aB×List (Int)×List (Int)) bF:=⟨106,Bg k,fun st=>bp st [.ab 0 bI,.ab 1 bk,.ab 2 bk],fun z=>tj k (z.1) (z.2.1) (z.2.2),(Ep k),fun _ _ h=>h⟩
noncomputable def FH(k:Nat):bP (aB×List UInt8×List UInt8) (Sum Int uC) where
 n:=33
 S:=fun z=>⟨[(0,.val bI (z.1)),(1,bg (z.2.1)),(2,bg (z.2.2))],[],[]⟩
 bE:=fun z y=>match y with|.inl y=>⟨[],[],[]⟩|.inr y=>⟨[],[(32,.aP iB (y.2) 155)],[]⟩
 ap:=fun z y=>match y with|.inl y=>[.any,ax (y)]|.inr y=>[.dm 32 [],ax (y.1)]
 rel:=fun z y=>pZ k (z.1) (z.2.1) (z.2.2)=some y
noncomputable def RV(k:Nat):Env:=b8 Tryz.prog am 33 [ql k]
theorem wH(k:Nat):bZ Tryz.prog am 67 (FH k):=by
 refine mh (fn:=Tryz.f67) Tryz.func67 (by kernel_rfl) rfl Tryz.ntmps67 ?_
 rintro cx R U V ⟨q,W,Y⟩ Z h
 have o:br (RV k) cx:=gU R U V
 replace h:pZ k q W Y=some Z:=h
 unfold pZ at h
 refine aG (aT (bz o [1,2,3] [3] [] (orc:=[]) (by kernel_rfl) .n (aH (aG (aT ?_)))))
 obtain⟨v1,la,h⟩:=bind_some h
 refine bz o [2,3,8,9] [3] [] (orc:=[⟨bk,v1.1⟩,jD v1.2]) (by kernel_rfl) (.c la .n) (aH (aG (aG (aT (bz o [2,3,8,9,18] [3] [] (orc:=[]) (by kernel_rfl) .n (aH (dg (b:=v1.2 !=(0:Int)) (by kernel_rfl) (fun L=>?_) (fun L=>?_))))))))
 ·replace h:=dS L h
  refine aG (aT (cA o (st':=⟨[(7,ax v1.2)],[],[]⟩) (orc:=[]) (by kernel_rfl) .n (aH (eF (dr ?_)))))
  replace h:=Option.some.inj h
  subst h
  exact Bu [7] [] [] (by kernel_rfl) (eV o.P [] [] (.inl rfl) (by kernel_rfl) (by kernel_rfl))
 ·replace h:=dP L h
  refine dn (aH (aG (aT ?_)))
  obtain⟨v2,lb,h⟩:=bind_some h
  refine bz o [3,8,9,10] [3] [] (orc:=[⟨bk,v2.1⟩,jD v2.2]) (by kernel_rfl) (.c lb .n) (aH (aG (aG (aT (bz o [3,8,9,10,27] [3] [] (orc:=[]) (by kernel_rfl) .n (aH (dg (b:=v2.2 !=(0:Int)) (by kernel_rfl) (fun O=>?_) (fun O=>?_))))))))
  ·replace h:=dS O h
   refine aG (aT (cA o (st':=⟨[(7,ax v2.2)],[],[]⟩) (orc:=[]) (by kernel_rfl) .n (aH (eF (dr ?_)))))
   replace h:=Option.some.inj h
   subst h
   exact Bu [7] [] [] (by kernel_rfl) (eV o.P [] [] (.inl rfl) (by kernel_rfl) (by kernel_rfl))
  ·replace h:=dP O h
   refine dn (aH (aG (aT (ig o 3 [29,30,31] [] [] (orc:=[]) (by kernel_rfl) .n ?_))))
   obtain⟨v3,lc,h⟩:=bind_some h
   refine qw o (Ep k) ((q.1,q.2.1,()),v1.1,v2.1) v3 lc (ρ:=[]) (ρ':=[(18,32)]) (n:=174) (by kernel_rfl) [32] [32] [] (by kernel_rfl) (by kernel_rfl) (st':=⟨[(32,.dm 32 [])],[(32,.aP iB v3 155)],[]⟩) (by kernel_rfl) (bz o [6,7] [32] [] (orc:=[]) (by kernel_rfl) .n (aH (eF ?_)))
   replace h:=Option.some.inj h
   subst h
   exact Bu [6,7] [32] [] (by kernel_rfl) (eV o.P [32] [] (.inl rfl) (by kernel_rfl) (by kernel_rfl))
noncomputable def Ur(k:Nat):cn Tryz.prog am (aB×List UInt8×List UInt8) (Sum Int uC):=⟨67,FH k,fun st=>bp st [.ab 0 bI,.ab 1 .str,.ab 2 .str],fun z=>pZ k (z.1) (z.2.1) (z.2.2),(wH k),fun _ _ h=>h⟩
noncomputable def Bk(k:Nat):aQ:=⟨[(.ptr iB),bI],[(.ab j3)],[],fun x=>Oe k (x.1) (x.2)⟩
theorem IT(k:Nat):aR Tryz.prog am 68 (Bk k).aS:=bh bd Tryz.func68 (by kernel_rfl) rfl Tryz.ntmps68 (Bk k) (by kernel_rfl) [za k] (fun x=>.ae 6 (.be [.ab 6 (.int .i64),.ab 7 (.int .i64),.rw 5 203 j3] (az [0,3,5,6,7] [3] [5]) (fun n=>fK (wW k (x.1) (x.2) n)) k fun q o=>.ae 2 (.bf 7 (.t (.ae 2 (.a (.int .i64) fun L=>.ae 2 (.bf 7 (.g 29 (AF (x.1) (o.1) (o.2.1) (o.2.2) (fW q) L) .z .z (fun _=>.c (.ae 1 (.fl [0,1,2,3,5,8,9,10,12] [4,6,7,11,13,14,15] [16,17,18] .z)) (.ae 1 (.g 12 (Cz (x.1) (o.1) (o.2.2) (fW q) (o.2.1)) .z .z (fun _=>.z)))))))))))) (by kernel_rfl)
noncomputable def Us(k:Nat):aD Tryz.prog am:=⟨68,Bk k,IT k⟩
noncomputable def At(k:Nat):bP DL ay where
 n:=152
 S:=fun z=>⟨[(0,.dm 152 []),(1,.val bI (z.1))],[(152,.aP iB (z.2) 155)],[]⟩
 bE:=fun z y=>⟨[],[(152,.aP iB (z.2) 155)],[(5,⟨203,j3,(y)⟩)]⟩
 ap:=fun z y=>[.row 5]
 rel:=fun z y=>qN k (z.1) (z.2)=some y
theorem FA(k:Nat):bZ Tryz.prog am 68 (At k):=de Tryz.func68 (by kernel_rfl) rfl (At k) Tryz.ntmps68 [za k] (fun z=>qN k (z.1) (z.2)) (fun _ _ h=>h) (fun st=>bp st [.rw 5 203 j3]) [152] [5] (fun z=>.ae 6 (.be [.ab 6 (.int .i64),.ab 7 (.int .i64),.rw 5 203 j3] (az [0,3,5,6,7] [3,152] [5]) (fun n=>fK (vi k (z.2) (z.1) n)) k fun q o=>.ae 2 (.bf 7 (.t (.ae 2 (.a (.int .i64) fun L=>.ae 2 (.bf 7 (.g 29 (yZ (z.2) (o.1) (o.2.1) (o.2.2) (fW q) L) .z .z (fun _=>.c (.ae 1 (.fl [0,1,2,3,5,8,9,10,12] [4,6,7,11,13,14,15] [16,17,18] .z)) (.ae 1 (.g 12 (uS (z.2) (o.1) (o.2.2) (fW q) (o.2.1)) .z .z (fun _=>.z)))))))))))) (by kernel_rfl)
noncomputable def Uv(k:Nat):cn Tryz.prog am DL ay:=⟨68,At k,fun st=>bp st [.ab 1 bI,.jO 152 iB],fun z=>qN k (z.1) (z.2),(FA k),fun _ _ h=>h⟩
noncomputable def Gu(k:Nat):aQ:=⟨[bI,.str,.str],[(.int .i64),(.ab j3),(.int .i64)],[],fun x=>rr k (x.1) (x.2.1) (x.2.2)⟩
noncomputable def TE(k:Nat):Env:=b8 Tryz.prog am 30 []
theorem Na(k:Nat):aR Tryz.prog am 33 (Gu k).aS:=by
 refine wj bd (fn:=Tryz.f33) Tryz.func33 (by kernel_rfl) rfl (JY Tryz.ntmps33 (by kernel_rfl)) ?_
 rintro w0 M _ _ lg h
 obtain⟨⟨q,L,O⟩,⟨lc,ld,le⟩,rfl,rfl,h⟩:=ia h
 change aB at q
 change List UInt8 at L
 change List UInt8 at O
 change Int at lc
 change List bw at ld
 change Int at le
 replace h:rr k q L O=some (lc,ld,le):=h
 have o:br (TE k) ⟨Tryz.prog,Tryz.f33.ntmps,w0,M,fun _=>False,fun _=>undef⟩:=gU rfl Tryz.ntmps33 lg
 unfold rr at h
 refine aG (aT (bz o [1,2,3] [3] [] (orc:=[]) (by kernel_rfl) .n (aH (aG (aT (ig o 3 [3,12,13,14] [3] [] (orc:=[]) (by kernel_rfl) .n ?_))))))
 obtain⟨v1,lf,h⟩:=bind_some h
 rcases v1 with v2|v3
 ·replace h:=IU h
  refine nE o (wH k) ((q.1,q.2.1,()),L,O) (.inl v2) lf (ρ:=[]) (ρ':=[]) (n:=33) (by kernel_rfl) [3,15] [3] [] (by kernel_rfl) (by kernel_rfl) (by kernel_rfl) (bz o [3,9,10] [3] [] (orc:=[]) (by kernel_rfl) .n (aH (aG (aG (aT (bz o [3,9,10,19] [3] [] (orc:=[]) (by kernel_rfl) .n (aH (dg (b:=v2 !=(0:Int)) (by kernel_rfl) (fun R=>?_) (fun R=>?_)))))))))
  ·replace h:=dS R h
   refine aG (aT (cA o (st':=⟨[(6,ax (0:Int)),(7,.row 7),(8,ax v2)],[],[(7,⟨203,j3,([]:List bw)⟩)]⟩) (orc:=[]) (by kernel_rfl) .n (aH (eF (dr ?_)))))
   cases h
   exact ro (.inl rfl) (by kernel_rfl)
  ·replace h:=dP R h
   refine dn (aH (aG ?_))
   cases h
 ·replace h:=PP h
  refine nE o (wH k) ((q.1,q.2.1,()),L,O) (.inr v3) lf (ρ:=[]) (ρ':=[(32,15)]) (n:=33) (by kernel_rfl) [3,15] [3,15] [] (by kernel_rfl) (by kernel_rfl) (by kernel_rfl) (bz o [3,9,10] [3,15] [] (orc:=[]) (by kernel_rfl) .n (aH (aG (aG (aT (bz o [3,9,10,19] [3,15] [] (orc:=[]) (by kernel_rfl) .n (aH (dg (b:=v3.1 !=(0:Int)) (by kernel_rfl) (fun U=>?_) (fun U=>?_)))))))))
  ·replace h:=dS U h
   refine aG (aT (cA o (st':=⟨[(6,ax (0:Int)),(7,.row 7),(8,ax v3.1)],[],[(7,⟨203,j3,([]:List bw)⟩)]⟩) (orc:=[]) (by kernel_rfl) .n (aH (eF (dr ?_)))))
   cases h
   exact ro (.inl rfl) (by kernel_rfl)
  ·replace h:=dP U h
   refine dn (aH (aG ?_))
   obtain⟨_,V,h⟩:=bind_some h
   replace V:=cV V
   obtain⟨_,W,h⟩:=bind_some h
   replace W:=cV W
   obtain⟨Y,Z,h⟩:=bind_some h
   obtain⟨la,lb,h⟩:=bind_some h
   refine La o [0,1,2,3,4,6] [] 5 7 [8] [9,10,11] [3,25,26,27] [3,15] [] (orc:=[]) (orci:=[⟨(.arr 65 (.int .i64)),Y⟩,jD la]) (by rfl) (by rfl) (by rfl) (by kernel_rfl) (by kernel_rfl) (by kernel_rfl) (by kernel_rfl) (by kernel_rfl) (by kernel_rfl) (by kernel_rfl) (by kernel_rfl) (.c V (.c W (.c Z (.c lb .n)))) (bz o [25,26,27,28] [15] [] (orc:=[]) (by kernel_rfl) .n (R7 o (orc:=[⟨(.arr 65 (.int .i64)),Y⟩,jD la]) (by kernel_rfl) (by kernel_rfl) (by kernel_rfl) (by kernel_rfl) (.c Z (.c lb .n)) (by rfl) ?_))
   obtain⟨v4,lh,h⟩:=bind_some h
   refine nE o (FA k) ((q.1,q.2.1,()),v3.2) v4 lh (ρ:=[(15,152)]) (ρ':=[(152,15),(5,29)]) (n:=152) (by kernel_rfl) [25,26,29] [15] [29] (by kernel_rfl) (by kernel_rfl) (by kernel_rfl) (jh (Tb o (orc:=[⟨(.arr 65 (.int .i64)),Y⟩,jD la]) (by kernel_rfl) (by kernel_rfl) (by kernel_rfl) (by kernel_rfl) (.c Z (.c lb .n)) (bz o [6,7,8] [] [29] (orc:=[]) (by kernel_rfl) .n (Le (aH (eF ?_))))))
   cases h
   exact ro (.inl rfl) (by kernel_rfl)
noncomputable def TW(k:Nat):aD Tryz.prog am:=⟨33,Gu k,Na k⟩
noncomputable def zH(k:Nat):aQ:=⟨[cG,cG],[(.int .i64)],[],fun x=>o0 k (x.1) (x.2)⟩
theorem S4(k:Nat):aR Tryz.prog am 61 (zH k).aS:=bh bd Tryz.func61 (by kernel_rfl) rfl Tryz.ntmps61 (zH k) (by kernel_rfl) [] (fun _=>.z) (by kernel_rfl)
noncomputable def FD(k:Nat):aD Tryz.prog am:=⟨61,zH k,S4 k⟩
noncomputable def CB(k:Nat):bP (Int×Int×List bw) ay where
 n:=53
 S:=fun z=>⟨[(0,.row 10000000),(1,ax (z.1)),(2,ax (z.2.1)),(3,.clos 61 [])],[],[(10000000,⟨140,cG,(z.2.2)⟩)]⟩
 bE:=fun z y=>⟨[],[],[(10000000,⟨140,cG,(y)⟩)]⟩
 ap:=fun z y=>[]
 rel:=fun z y=>oE k (z.1) (z.2.1) (z.2.2)=some y
theorem P2(k:Nat):bZ Tryz.prog am 120 (CB k):=de Tryz.func120 (by kernel_rfl) rfl (CB k) Tryz.ntmps120 [FD k] (fun z=>oE k (z.1) (z.2.1) (z.2.2)) (fun _ _ h=>h) (fun st=>bp st [.rw 10000000 140 cG]) [] [10000000] (fun z=>.ae 1 (.be [.ab 8 (.int .i64),.rw 10000000 140 cG] (az [0,1,2,3,8] [] [10000000]) (fun n=>bY (zy k (z.2.1) (z.1) n)) k fun o q=>.ae 2 (.t (.ae 2 (.be [.ab 9 (.int .i64),.rw 10000000 140 cG] (az [0,1,2,3,8,9] [] [10000000]) (fun n=>bY (yt k (z.1) (dh o) (q.1) n)) k fun O L=>.ae 3 (.g 12 (zY (L.2) (L.1) (dh O) (dh o) (q.1)) (.ae 6 (.u 0 (.ae 6 (.u 0 .z)))) .z (fun _=>.t (.ae 1 (.fl [0,1,2,3,4,5,6,7,8,10,11,12] [9,13,14] [15,16,17] (.ae 2 (.u 1 (.u 0 (.u 0 (.u 0 (.ae 1 (.u 0 .z)))))))))))))))) (by kernel_rfl)
noncomputable def Df(k:Nat):cn Tryz.prog am (Int×Int×List bw) ay:=⟨120,CB k,fun st=>bp st [.ab 1 (.int .i64),.ab 2 (.int .i64),.rw 10000000 140 cG],fun z=>oE k (z.1) (z.2.1) (z.2.2),(P2 k),fun _ _ h=>h⟩
end Go.Ev
