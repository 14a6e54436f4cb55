/- Contracts, by program. -/
import Derived.Test.YtgkgdfmldioddaaGreatDoorProg
import Derived.Test.YtgkgdfmldioddaaGreatDoorMM6
import Derived.Test.YtgkgdfmldioddaaGreatDoorMM8
import Derived.Test.YtgkgdfmldioddaaGreatDoorMM9
import Derived.KernelRfl
import Derived.Test.YtgkgdfmldioddaaGreatDoorTyA
set_option linter.unusedSectionVars false
set_option linter.unusedVariables false
set_option linter.unusedSimpArgs false
namespace Go.Ev
open Go Go.Proofs
set_option linter.unusedVariables false
set_option maxRecDepth 100000
noncomputable def D9(k:Nat):aZ:=⟨[],[ck],[],fun _=>Hh k⟩
theorem NP(k:Nat):aY Tryz.prog an 23 (D9 k).ba:=bt bq Tryz.func23 (by kernel_rfl) rfl Tryz.ntmps23 (D9 k) (by kernel_rfl) [] (fun _=>.z) (by kernel_rfl)
noncomputable def OH(k:Nat):aL Tryz.prog an:=⟨23,D9 k,NP k⟩
noncomputable def Bo(k:Nat):aZ:=⟨[],[(.ab (.arr 2 .str))],[],fun _=>K9 k⟩
theorem Vz(k:Nat):aY Tryz.prog an 24 (Bo k).ba:=bt bq Tryz.func24 (by kernel_rfl) rfl Tryz.ntmps24 (Bo k) (by kernel_rfl) [] (fun _=>.z) (by kernel_rfl)
noncomputable def Vi(k:Nat):aL Tryz.prog an:=⟨24,Bo k,Vz k⟩
noncomputable def Eu(k:Nat):aZ:=⟨[.str,(.int .u8)],[.str],[],fun x=>Hw k (x.1) (x.2)⟩
theorem NG(k:Nat):aY Tryz.prog an 117 (Eu k).ba:=bt bq Tryz.func117 (by kernel_rfl) rfl Tryz.ntmps117 (Eu k) (by kernel_rfl) [] (fun x=>.ah 2 (.bw [.ab 0 .str] (aR [0,1] [] []) (Es (x.2)) k fun o O=>.ah 2 (.g 7 (De O o) .z .z (fun _=>.z)))) (by kernel_rfl)
noncomputable def Ni(k:Nat):aL Tryz.prog an:=⟨117,Eu k,NG k⟩
noncomputable def Dq(k:Nat):aZ:=⟨[.str,(.int .u8)],[.str],[],fun x=>Kt k (x.1) (x.2)⟩
theorem NV(k:Nat):aY Tryz.prog an 116 (Dq k).ba:=bt bq Tryz.func116 (by kernel_rfl) rfl Tryz.ntmps116 (Dq k) (by kernel_rfl) [] (fun x=>.ah 2 (.bw [.ab 0 .str] (aR [0,1] [] []) (El (x.2)) k fun o O=>.ah 2 (.g 4 (CT O o) .z .z (fun _=>.z)))) (by kernel_rfl)
noncomputable def WG(k:Nat):aL Tryz.prog an:=⟨116,Dq k,NV k⟩
noncomputable def Cm(k:Nat):aZ:=⟨[.str],[(.arr 256 .bool),.bool],[],fun x=>rR k x⟩
theorem O1(k:Nat):aY Tryz.prog an 118 (Cm k).ba:=bt bq Tryz.func118 (by kernel_rfl) rfl Tryz.ntmps118 (Cm k) (by kernel_rfl) [] (fun x=>.ah 3 (.bw [.ab 4 (.int .i64),.mm 2 (.arr 256 .bool)] (aR [0,2,4] [2] []) (fun n=>cT (BZ x n)) k fun _ _=>.z)) (by kernel_rfl)
noncomputable def Rr(k:Nat):aL Tryz.prog an:=⟨118,Cm k,O1 k⟩
noncomputable def Ay(k:Nat):aZ:=⟨[(.ptr (.arr 256 .bool)),(.int .u8)],[.bool],[],fun x=>pZ k (x.1) (x.2)⟩
theorem WB(k:Nat):aY Tryz.prog an 151 (Ay k).ba:=bt bq Tryz.func151 (by kernel_rfl) rfl Tryz.ntmps151 (Ay k) (by kernel_rfl) [] (fun _=>.z) (by kernel_rfl)
noncomputable def IA(k:Nat):aL Tryz.prog an:=⟨151,Ay k,WB k⟩
noncomputable def CK(k:Nat):aZ:=⟨[.str,(.ptr (.arr 256 .bool))],[.str],[],fun x=>wO k (x.1) (x.2)⟩
theorem NC(k:Nat):aY Tryz.prog an 120 (CK k).ba:=bt bq Tryz.func120 (by kernel_rfl) rfl Tryz.ntmps120 (CK k) (by kernel_rfl) [IA k] (fun x=>.ah 1 (.j [.ab 0 .str] (aR [0] [] []) uA (.bw [.ab 0 .str] (aR [0,1] [] []) (oN k (x.2)) k fun _ _=>.z) (fun _=>.z))) (by kernel_rfl)
noncomputable def V5(k:Nat):aL Tryz.prog an:=⟨120,CK k,NC k⟩
noncomputable def AK(k:Nat):aZ:=⟨[.str,(.ptr (.arr 256 .bool))],[.str],[],fun x=>yE k (x.1) (x.2)⟩
theorem O0(k:Nat):aY Tryz.prog an 119 (AK k).ba:=bt bq Tryz.func119 (by kernel_rfl) rfl Tryz.ntmps119 (AK k) (by kernel_rfl) [IA k] (fun x=>.ah 1 (.j [.ab 0 .str] (aR [0] [] []) sS (.bw [.ab 0 .str] (aR [0,1] [] []) (pX k (x.2)) k fun _ _=>.z) (fun _=>.z))) (by kernel_rfl)
noncomputable def PG(k:Nat):aL Tryz.prog an:=⟨119,AK k,O0 k⟩
noncomputable def GC(k:Nat):aZ:=⟨[.str,.str],[.str],[],fun x=>GM k (x.1) (x.2)⟩
theorem PD(k:Nat):aY Tryz.prog an 122 (GC k).ba:=MN Tryz.func122 (by kernel_rfl) rfl _ fun _=>rfl
noncomputable def Nt(k:Nat):aL Tryz.prog an:=⟨122,GC k,PD k⟩
noncomputable def Ip(k:Nat):aZ:=⟨[.str,.str],[.str],[],fun x=>F6 k (x.1) (x.2)⟩
theorem TO(k:Nat):aY Tryz.prog an 121 (Ip k).ba:=MN Tryz.func121 (by kernel_rfl) rfl _ fun _=>rfl
noncomputable def OO(k:Nat):aL Tryz.prog an:=⟨121,Ip k,TO k⟩
noncomputable def Bb(k:Nat):aZ:=⟨[.str,.str],[.str],[],fun x=>oM k (x.1) (x.2)⟩
theorem SC(k:Nat):aY Tryz.prog an 88 (Bb k).ba:=bt bq Tryz.func88 (by kernel_rfl) rfl Tryz.ntmps88 (Bb k) (by kernel_rfl) [Ni k,WG k,Rr k,V5 k,PG k,Nt k,OO k] (fun x=>.ah 3 (.cg 2 (.f (.ah 2 (.g 3 (tj k (x.2) (x.1)) .z .z (fun _=>.z)))))) (by kernel_rfl)
noncomputable def IG(k:Nat):aL Tryz.prog an:=⟨88,Bb k,SC k⟩
noncomputable def Fv(k:Nat):aZ:=⟨[.str],[.bool],[],fun x=>qE k x⟩
theorem R7(k:Nat):aY Tryz.prog an 61 (Fv k).ba:=bt bq Tryz.func61 (by kernel_rfl) rfl Tryz.ntmps61 (Fv k) (by kernel_rfl) [IG k] (fun _=>.ah 2 (.cg 3 (.g 3 yX .z .z (fun _=>.z)))) (by kernel_rfl)
noncomputable def RZ(k:Nat):aL Tryz.prog an:=⟨61,Fv k,R7 k⟩
noncomputable def Ax(k:Nat):aZ:=⟨[(.int .i32)],[.bool],[],fun x=>qp k x⟩
theorem Rt(k:Nat):aY Tryz.prog an 62 (Ax k).ba:=bt bq Tryz.func62 (by kernel_rfl) rfl Tryz.ntmps62 (Ax k) (by kernel_rfl) [] (fun x=>.ah 2 (.j [.ab 3 .bool] (aR [0,3] [] []) (sk x) (.ah 1 (.cg 2 (.f (.cg 2 .z)))) (fun _=>.f (.j [.ab 16 .bool] (aR [16] [] []) pF .z (fun _=>.z))))) (by kernel_rfl)
noncomputable def VP(k:Nat):aL Tryz.prog an:=⟨62,Ax k,Rt k⟩
noncomputable def B3(k:Nat):aZ:=⟨[ck,(.int .u32),(.int .u32)],[.bool],[],fun x=>kJ k (x.1) (x.2.1) (x.2.2)⟩
theorem Ub(k:Nat):aY Tryz.prog an 63 (B3 k).ba:=bt bq Tryz.func63 (by kernel_rfl) rfl Tryz.ntmps63 (B3 k) (by kernel_rfl) [] (fun _=>.ah 2 (.cg 4 .z)) (by kernel_rfl)
noncomputable def yV(k:Nat):aL Tryz.prog an:=⟨63,B3 k,Ub k⟩
noncomputable def D7(k:Nat):aZ:=⟨[ck],[(.int .i64)],[],fun x=>fL k x⟩
theorem Sd(k:Nat):aY Tryz.prog an 35 (D7 k).ba:=bt bq Tryz.func35 (by kernel_rfl) rfl Tryz.ntmps35 (D7 k) (by kernel_rfl) [RZ k,VP k,yV k] (fun x=>.ah 3 (.cg 4 (.cg 4 (.f (.ah 3 (.bw [.ab 29 (.int .i64),.mp 25 .str .bool] (aR [1,3,27,28,29] [1,25] []) (fun n=>cT (pO k x n)) k fun _ _=>.ah 2 (.c (.ah 6 (.cg 3 .z)) (.ah 3 (.bw [.ab 48 (.int .i64),.mp 44 (.int .i32) .bool] (aR [1,6,46,47,48] [1,44] []) (fun n=>cT (k9 k x n)) k fun O o=>.ah 2 (.t (.ah 2 (.a ip fun U=>.ah 3 (.cg 4 (.g 7 (rI (eC O) (o.1) (o.2) U) .z .z (fun _=>.z))))))))))))))) (by kernel_rfl)
noncomputable def kL(k:Nat):aL Tryz.prog an:=⟨35,D7 k,Sd k⟩
noncomputable def DE(k:Nat):aZ:=⟨[ck],[(.map (.int .i32) (.int .i64)),(.int .i64)],[],fun x=>xC k x⟩
theorem Uf(k:Nat):aY Tryz.prog an 47 (DE k).ba:=bt bq Tryz.func47 (by kernel_rfl) rfl Tryz.ntmps47 (DE k) (by kernel_rfl) [kL k] (fun x=>.ah 5 (.f (.ah 3 (.bw [.ab 20 (.int .i64),.mp 16 (.int .i32) (.int .i64)] (aR [5,18,19,20] [16] []) (fun n=>cT (nZ x n)) k fun _ _=>.z)))) (by kernel_rfl)
noncomputable def QZ(k:Nat):aL Tryz.prog an:=⟨47,DE k,Uf k⟩
noncomputable def FE(k:Nat):aZ:=⟨[.str],[(.int .i64)],[],fun x=>yt k x⟩
theorem Tp(k:Nat):aY Tryz.prog an 102 (FE k).ba:=bt bq Tryz.func102 (by kernel_rfl) rfl Tryz.ntmps102 (FE k) (by kernel_rfl) [] (fun _=>.z) (by kernel_rfl)
noncomputable def Pp(k:Nat):aL Tryz.prog an:=⟨102,FE k,Tp k⟩
noncomputable def Am(k:Nat):aZ:=⟨[(.int .i32)],[(.int .i64)],[],fun x=>yb k x⟩
theorem Q5(k:Nat):aY Tryz.prog an 142 (Am k).ba:=bt bq Tryz.func142 (by kernel_rfl) rfl Tryz.ntmps142 (Am k) (by kernel_rfl) [] (fun _=>.ah 3 (.f (.ah 1 (.f (.ah 1 (.f (.ah 1 (.cg 2 .z)))))))) (by kernel_rfl)
noncomputable def O7(k:Nat):aL Tryz.prog an:=⟨142,Am k,Q5 k⟩
noncomputable def AU(k:Nat):cJ (kS×List gg) (Bool×List gg) where
 n:=8
 S:=fun z=>⟨[(0,.val iX (z.1)),(1,.ptr 8 0)],[(8,.cells [.row 9] 139)],[(9,⟨143,iX,(z.2)⟩)]⟩
 be:=fun z y=>⟨[],[(8,.cells [.row 9] 139)],[(9,⟨143,iX,(y.2)⟩)]⟩
 ar:=fun z y=>[aM (y.1)]
 rel:=fun z y=>qu k (z.1) (z.2)=some y
theorem VY(k:Nat):cF Tryz.prog an 104 (AU k):=fp Tryz.func104 (by kernel_rfl) rfl (AU k) Tryz.ntmps104 [] (fun z=>qu k (z.1) (z.2)) (fun _ _ h=>h) (fun st=>bW st [.ab 0 .bool,.rw 9 143 iX]) [8] [9] (fun _=>.z) (by kernel_rfl)
noncomputable def V6(k:Nat):dp Tryz.prog an (kS×List gg) (Bool×List gg):=⟨104,AU k,fun st=>bW st [.ab 0 iX,.rw 9 143 iX],fun z=>qu k (z.1) (z.2),(VY k),fun _ _ h=>h⟩
noncomputable def B6(k:Nat):cJ (List UInt8×List gg) kz where
 n:=37
 S:=fun z=>⟨[(0,bd (z.1)),(1,.clos 104 [37])],[(37,.cells [.row 38] 139)],[(38,⟨143,iX,(z.2)⟩)]⟩
 be:=fun z y=>⟨[],[(37,.cells [.row 38] 139)],[(38,⟨143,iX,(y)⟩)]⟩
 ar:=fun z y=>[]
 rel:=fun z y=>rW k (z.1) (z.2)=some y
theorem RX(k:Nat):cF Tryz.prog an 103 (B6 k):=fp Tryz.func103 (by kernel_rfl) rfl (B6 k) Tryz.ntmps103 [O7 k,BX k] (fun z=>rW k (z.1) (z.2)) (fun _ _ h=>h) (fun st=>bW st [.rw 38 143 iX]) [37] [38] (fun z=>.ah 1 (.bw [.it 10,.rw 38 143 iX] (aR [0,1,10] [10,37] [38]) (fun n=>cT (nj k (z.1) n)) k fun O o=>.ah 1 (.c (.ah 1 (.T (.ah 3 (.j [.ad 6 2 (.int .i64),.ad 6 3 .bool] (aR [0,1,6,10] [6,10,37] [38]) (cT (nT k (z.1) (o.1) (o.2) (eC O))) .z (fun _=>.ah 1 (.bN (V6 k) [(37,8),(38,9)] [(8,37),(9,38)] (fun _=>.z))))))) (.ah 1 (.F .z))))) (by kernel_rfl)
noncomputable def Th(k:Nat):dp Tryz.prog an (List UInt8×List gg) kz:=⟨103,B6 k,fun st=>bW st [.ab 0 .str,.rw 38 143 iX],fun z=>rW k (z.1) (z.2),(RX k),fun _ _ h=>h⟩
noncomputable def Fy(k:Nat):aZ:=⟨[.str],[(.ab iX),(.int .i64)],[],fun x=>sL k x⟩
theorem Oh(k:Nat):aY Tryz.prog an 74 (Fy k).ba:=bt bq Tryz.func74 (by kernel_rfl) rfl Tryz.ntmps74 (Fy k) (by kernel_rfl) [Pp k] (fun _=>.ah 6 (.f (.ah 2 (.bN (Th k) [(5,37),(1000005,38)] [(37,5),(38,1000005)] (fun _=>.z))))) (by kernel_rfl)
noncomputable def Pm(k:Nat):aL Tryz.prog an:=⟨74,Fy k,Oh k⟩
noncomputable def Do(k:Nat):aZ:=⟨[(.map (.int .i32) (.int .i64)),.str],[bg,(.int .i64)],[],fun x=>sZ k (x.1) (x.2)⟩
theorem UN(k:Nat):aY Tryz.prog an 48 (Do k).ba:=bt bq Tryz.func48 (by kernel_rfl) rfl Tryz.ntmps48 (Do k) (by kernel_rfl) [Pm k] (fun x=>.ah 2 (.j [.ab 1 .str] (aR [0,1] [] []) (qW k (x.1)) .z (fun _=>.ah 1 (.ac [(.ab iX),(.int .i64)] fun v1=>.ah 2 (.f (.ah 4 (.bw [.ab 28 (.int .i64),.rw 8 21 (.int .i32)] (aR [0,8,26,27,28] [] [8]) (fun n=>cT (nN v1 (x.1) n)) k fun _ _=>.z))))))) (by kernel_rfl)
noncomputable def Rk(k:Nat):aL Tryz.prog an:=⟨48,Do k,UN k⟩
noncomputable def C5(k:Nat):aZ:=⟨[ck,.str],[bg,(.int .i64)],[],fun x=>gS k (x.1) (x.2)⟩
theorem Xj(k:Nat):aY Tryz.prog an 21 (C5 k).ba:=bt bq Tryz.func21 (by kernel_rfl) rfl Tryz.ntmps21 (C5 k) (by kernel_rfl) [QZ k,Rk k] (fun _=>.z) (by kernel_rfl)
noncomputable def vI(k:Nat):aL Tryz.prog an:=⟨21,C5 k,Xj k⟩
noncomputable def A3(k:Nat):aZ:=⟨[ip,(.ptr (.int .i32))],[.bool],[(.int .i32)],fun x=>AM k (x.1) (x.2)⟩
theorem Wh(k:Nat):aY Tryz.prog an 157 (A3 k).ba:=bt bq Tryz.func157 (by kernel_rfl) rfl Tryz.ntmps157 (A3 k) (by kernel_rfl) [] (fun _=>.z) (by kernel_rfl)
noncomputable def Ha(k:Nat):aL Tryz.prog an:=⟨157,A3 k,Wh k⟩
noncomputable def EA(k:Nat):aZ:=⟨[aq,(.fn 157 (.pair (.ptr (.int .i32)) .unit))],[(.int .i64)],[],fun x=>wF k (x.1) (x.2)⟩
theorem Ns(k:Nat):aY Tryz.prog an 156 (EA k).ba:=bt bq Tryz.func156 (by kernel_rfl) rfl Tryz.ntmps156 (EA k) (by kernel_rfl) [Ha k] (fun x=>.ah 3 (.bw [.ab 8 (.int .i64)] (aR [0,1,7,8] [] []) (uq k (x.1) (x.2)) k fun _ _=>.z)) (by kernel_rfl)
noncomputable def Pf(k:Nat):aL Tryz.prog an:=⟨156,EA k,Ns k⟩
noncomputable def Av(k:Nat):aZ:=⟨[ck,(.int .i32)],[ip,(.int .i64)],[],fun x=>np k (x.1) (x.2)⟩
theorem Tf(k:Nat):aY Tryz.prog an 127 (Av k).ba:=bt bq Tryz.func127 (by kernel_rfl) rfl Tryz.ntmps127 (Av k) (by kernel_rfl) [kL k,Ha k,Pf k] (fun _=>.z) (by kernel_rfl)
noncomputable def xk(k:Nat):aL Tryz.prog an:=⟨127,Av k,Tf k⟩
noncomputable def Be(k:Nat):aZ:=⟨[(.int .u32)],[(.int .i64)],[],fun x=>yD k x⟩
theorem Qt(k:Nat):aY Tryz.prog an 200 (Be k).ba:=bt bq Tryz.func200 (by kernel_rfl) rfl Tryz.ntmps200 (Be k) (by kernel_rfl) [] (fun _=>.z) (by kernel_rfl)
noncomputable def WT(k:Nat):aL Tryz.prog an:=⟨200,Be k,Qt k⟩
noncomputable def Cf(k:Nat):aZ:=⟨[ip,ip],[(.int .i64)],[],fun x=>oH k (x.1) (x.2)⟩
theorem Wa(k:Nat):aY Tryz.prog an 176 (Cf k).ba:=bt bq Tryz.func176 (by kernel_rfl) rfl Tryz.ntmps176 (Cf k) (by kernel_rfl) [WT k] (fun _=>.z) (by kernel_rfl)
noncomputable def Hs(k:Nat):aL Tryz.prog an:=⟨176,Cf k,Wa k⟩
noncomputable def CJ(k:Nat):aZ:=⟨[ck,(.int .i32),(.int .i32)],[(.int .i64),(.int .i64)],[],fun x=>Ep k (x.1) (x.2.1) (x.2.2)⟩
theorem Nr(k:Nat):aY Tryz.prog an 141 (CJ k).ba:=bt bq Tryz.func141 (by kernel_rfl) rfl Tryz.ntmps141 (CJ k) (by kernel_rfl) [xk k,Hs k] (fun _=>.z) (by kernel_rfl)
noncomputable def SP(k:Nat):aL Tryz.prog an:=⟨141,CJ k,Nr k⟩
noncomputable def Ed(k:Nat):aZ:=⟨[ck,(.int .i32),(.int .i32)],[(.int .i64)],[],fun x=>jn k (x.1) (x.2.1) (x.2.2)⟩
theorem Rn(k:Nat):aY Tryz.prog an 101 (Ed k).ba:=bt bq Tryz.func101 (by kernel_rfl) rfl Tryz.ntmps101 (Ed k) (by kernel_rfl) [SP k] (fun _=>.ah 3 (.f (.ah 2 (.cg 2 .z)))) (by kernel_rfl)
noncomputable def CD(k:Nat):aL Tryz.prog an:=⟨101,Ed k,Rn k⟩
noncomputable def BF(k:Nat):cJ (aV×List (Int)×List (Int)) bE where
 n:=174
 S:=fun z=>⟨[(0,.val ck (z.1)),(1,.val bg (z.2.1)),(2,.val bg (z.2.2))],[],[]⟩
 be:=fun z y=>⟨[],[(18,.aO jQ (y) 137)],[]⟩
 ar:=fun z y=>[.dE 18 []]
 rel:=fun z y=>qc k (z.1) (z.2.1) (z.2.2)=some y
theorem HM(k:Nat):cF Tryz.prog an 100 (BF k):=fp Tryz.func100 (by kernel_rfl) rfl (BF k) Tryz.ntmps100 [CD k] (fun z=>qc k (z.1) (z.2.1) (z.2.2)) (fun _ _ h=>h) (fun st=>bW st [.mm 18 jQ]) [18] [] (fun z=>.ah 2 (.un 18 (.ah 5 (.bw [.ab 8 (.int .i64),.ad 3 0 (.ab .str),.ad 3 1 aq,.mm 18 jQ] (aR [1,2,3,7,8] [3,18] []) (fun n=>zG (mK k (z.2.1) (z.2.2) n)) k fun la O=>.ah 2 (.t (.ah 2 (.bw [.ab 9 (.int .i64),.mm 18 jQ] (aR [1,2,3,7,8,9] [3,18] []) (fun n=>cT (mW k (z.2.1) (O.1) (z.2.2) (O.2.1) (O.2.2.1) (yF la) n)) k fun U o=>.ah 2 (.t (.j [.mm 18 jQ] (aR [1,2,3,7,8,9] [3,18] []) (s7 (eC U) (o.1)) (.ah 2 (.cg 4 (.f (.ah 1 (.j [.ab 10 (.int .i64)] (aR [1,2,3,7,8,9,10,11,12] [3,18] []) (tQ (O.1) (z.2.1) (o.1) (o.2) (z.2.2) (eC U)) (.ah 1 (.cg 4 .z)) (fun W=>.j [.ab 11 (.int .i64)] (aR [1,2,3,7,8,9,10,11,12] [3,18] []) (um (o.1) (z.2.2) (O.1) (o.2) W (eC U)) .z (fun Y=>.j [.ab 12 (.int .i64)] (aR [1,2,3,7,8,9,10,11,12] [3,18] []) (o9 W Y (O.1) (o.1) (o.2) (eC U)) .z (fun Z=>.ah 2 (.j [.ab 14 (.int .i64)] (aR [1,2,3,7,8,9,11,12,13,14] [3,18] []) (sn Y W Z (O.1) (o.1) (o.2) (eC U)) .z (fun _=>.j [.ab 14 (.int .i64)] (aR [1,2,3,7,8,9,12,13,14] [3,18] []) (s8 Z W Y (O.1) (o.1) (o.2) (eC U)) .z (fun _=>.j [.ab 14 (.int .i64)] (aR [1,2,3,7,8,9,13,14] [3,18] []) (nS (O.1) (o.1) (o.2) (eC U) W Y Z) .z (fun _=>.jJ [0,1,2,3,4,5,6,7,8,9,10,11,12,14,15,16] [] [13,17,18] .z)))))))))))) (fun _=>.z)))))))))) (by kernel_rfl)
noncomputable def Xt(k:Nat):dp Tryz.prog an (aV×List (Int)×List (Int)) bE:=⟨100,BF k,fun st=>bW st [.ab 0 ck,.ab 1 bg,.ab 2 bg],fun z=>qc k (z.1) (z.2.1) (z.2.2),(HM k),fun _ _ h=>h⟩
noncomputable def Lm(k:Nat):cJ (aV×List UInt8×List UInt8) (Sum Int EC) where
 n:=33
 S:=fun z=>⟨[(0,.val ck (z.1)),(1,bd (z.2.1)),(2,bd (z.2.2))],[],[]⟩
 be:=fun z y=>match y with|.inl y=>⟨[],[],[]⟩|.inr y=>⟨[],[(32,.aO jQ (y.2) 137)],[]⟩
 ar:=fun z y=>match y with|.inl y=>[.any,aw (y)]|.inr y=>[.dE 32 [],aw (y.1)]
 rel:=fun z y=>r5 k (z.1) (z.2.1) (z.2.2)=some y
noncomputable def WK(k:Nat):Env:=cy Tryz.prog an 33 [vI k]
theorem Dr(k:Nat):cF Tryz.prog an 72 (Lm k):=by
 refine oL (fn:=Tryz.f72) Tryz.func72 (by kernel_rfl) rfl Tryz.ntmps72 ?_
 rintro cx Y Z la ⟨O,lc,ld⟩ lf h
 have o:br (WK k) cx:=kb Y Z la
 replace h:r5 k O lc ld=some lf:=h
 unfold r5 at h
 refine ay (aK (bl o [1,2,3] [3] [] (orc:=[]) (by kernel_rfl) .n (ax (ay (aK ?_)))))
 obtain⟨v1,lg,h⟩:=bind_some h
 refine bl o [2,3,8,9] [3] [] (orc:=[⟨bg,v1.1⟩,mn v1.2]) (by kernel_rfl) (.c lg .n) (ax (ay (ay (aK (bl o [2,3,8,9,18] [3] [] (orc:=[]) (by kernel_rfl) .n (ax (da (b:=v1.2 !=(0:Int)) (by kernel_rfl) (fun U=>?_) (fun U=>?_))))))))
 ·replace h:=dw U h
  refine ay (aK (bF o (st':=⟨[(7,aw v1.2)],[],[]⟩) (orc:=[]) (by kernel_rfl) .n (ax (ep (cQ ?_)))))
  replace h:=Option.some.inj h
  subst h
  exact Cw [7] [] [] (by kernel_rfl) (fT o.P [] [] (.inl rfl) (by kernel_rfl) (by kernel_rfl))
 ·replace h:=dr U h
  refine dc (ax (ay (aK ?_)))
  obtain⟨v2,lh,h⟩:=bind_some h
  refine bl o [3,8,9,10] [3] [] (orc:=[⟨bg,v2.1⟩,mn v2.2]) (by kernel_rfl) (.c lh .n) (ax (ay (ay (aK (bl o [3,8,9,10,27] [3] [] (orc:=[]) (by kernel_rfl) .n (ax (da (b:=v2.2 !=(0:Int)) (by kernel_rfl) (fun W=>?_) (fun W=>?_))))))))
  ·replace h:=dw W h
   refine ay (aK (bF o (st':=⟨[(7,aw v2.2)],[],[]⟩) (orc:=[]) (by kernel_rfl) .n (ax (ep (cQ ?_)))))
   replace h:=Option.some.inj h
   subst h
   exact Cw [7] [] [] (by kernel_rfl) (fT o.P [] [] (.inl rfl) (by kernel_rfl) (by kernel_rfl))
  ·replace h:=dr W h
   refine dc (ax (ay (aK (fE o 3 [29,30,31] [] [] (orc:=[]) (by kernel_rfl) .n ?_))))
   obtain⟨v3,li,h⟩:=bind_some h
   refine yQ o (HM k) ((O.1,O.2.1,()),v1.1,v2.1) v3 li (ρ:=[]) (ρ':=[(18,32)]) (n:=174) (by kernel_rfl) [32] [32] [] (by kernel_rfl) (by kernel_rfl) (st':=⟨[(32,.dE 32 [])],[(32,.aO jQ v3 137)],[]⟩) (by kernel_rfl) (bl o [6,7] [32] [] (orc:=[]) (by kernel_rfl) .n (ax (ep ?_)))
   replace h:=Option.some.inj h
   subst h
   exact Cw [6,7] [32] [] (by kernel_rfl) (fT o.P [32] [] (.inl rfl) (by kernel_rfl) (by kernel_rfl))
noncomputable def Xv(k:Nat):dp Tryz.prog an (aV×List UInt8×List UInt8) (Sum Int EC):=⟨72,Lm k,fun st=>bW st [.ab 0 ck,.ab 1 .str,.ab 2 .str],fun z=>r5 k (z.1) (z.2.1) (z.2.2),(Dr k),fun _ _ h=>h⟩
noncomputable def CR(k:Nat):aZ:=⟨[(.ptr jQ),ck],[hd],[],fun x=>NH k (x.1) (x.2)⟩
theorem Pq(k:Nat):aY Tryz.prog an 73 (CR k).ba:=bt bq Tryz.func73 (by kernel_rfl) rfl Tryz.ntmps73 (CR k) (by kernel_rfl) [CD k] (fun x=>.ah 6 (.bw [.ab 6 (.int .i64),.ab 7 (.int .i64),.rw 5 54 dU] (aR [0,3,5,6,7] [3] [5]) (fun n=>pd (BV k (x.1) (x.2) n)) k fun O o=>.ah 2 (.cg 7 (.t (.ah 2 (.a (.int .i64) fun U=>.ah 2 (.cg 7 (.g 29 (zX (x.1) (o.1) (o.2.1) (o.2.2) (nw O) U) .z .z (fun _=>.c (.ah 1 (.jJ [0,1,2,3,5,8,9,10,12] [4,6,7,11,13,14,15] [16,17,18] .z)) (.ah 1 (.g 12 (DV (x.1) (o.1) (o.2.2) (nw O) (o.2.1)) .z .z (fun _=>.z)))))))))))) (by kernel_rfl)
noncomputable def Xw(k:Nat):aL Tryz.prog an:=⟨73,CR k,Pq k⟩
noncomputable def B4(k:Nat):cJ LL bA where
 n:=152
 S:=fun z=>⟨[(0,.dE 152 []),(1,.val ck (z.1))],[(152,.aO jQ (z.2) 137)],[]⟩
 be:=fun z y=>⟨[],[(152,.aO jQ (z.2) 137)],[(5,⟨54,dU,(y)⟩)]⟩
 ar:=fun z y=>[.row 5]
 rel:=fun z y=>pA k (z.1) (z.2)=some y
theorem Kj(k:Nat):cF Tryz.prog an 73 (B4 k):=fp Tryz.func73 (by kernel_rfl) rfl (B4 k) Tryz.ntmps73 [CD k] (fun z=>pA k (z.1) (z.2)) (fun _ _ h=>h) (fun st=>bW st [.rw 5 54 dU]) [152] [5] (fun z=>.ah 6 (.bw [.ab 6 (.int .i64),.ab 7 (.int .i64),.rw 5 54 dU] (aR [0,3,5,6,7] [3,152] [5]) (fun n=>pd (nY k (z.2) (z.1) n)) k fun O o=>.ah 2 (.cg 7 (.t (.ah 2 (.a (.int .i64) fun U=>.ah 2 (.cg 7 (.g 29 (pD (z.2) (o.1) (o.2.1) (o.2.2) (nw O) U) .z .z (fun _=>.c (.ah 1 (.jJ [0,1,2,3,5,8,9,10,12] [4,6,7,11,13,14,15] [16,17,18] .z)) (.ah 1 (.g 12 (rO (z.2) (o.1) (o.2.2) (nw O) (o.2.1)) .z .z (fun _=>.z)))))))))))) (by kernel_rfl)
noncomputable def Xu(k:Nat):dp Tryz.prog an LL bA:=⟨73,B4 k,fun st=>bW st [.ab 1 ck,.mm 152 jQ],fun z=>pA k (z.1) (z.2),(Kj k),fun _ _ h=>h⟩
noncomputable def KN(k:Nat):aZ:=⟨[ck,.str,.str],[(.int .i64),hd,(.int .i64)],[],fun x=>mc k (x.1) (x.2.1) (x.2.2)⟩
noncomputable def NT(k:Nat):Env:=cy Tryz.prog an 30 []
theorem Xa(k:Nat):aY Tryz.prog an 46 (KN k).ba:=by
 refine zi bq (fn:=Tryz.f46) Tryz.func46 (by kernel_rfl) rfl (Kx Tryz.ntmps46 (by kernel_rfl)) ?_
 rintro bC M _ _ lm h
 obtain⟨⟨O,U,W⟩,⟨li,lj,lk⟩,rfl,rfl,h⟩:=kA h
 change aV at O
 change List UInt8 at U
 change List UInt8 at W
 change Int at li
 change List cz at lj
 change Int at lk
 replace h:mc k O U W=some (li,lj,lk):=h
 have o:br (NT k) ⟨Tryz.prog,Tryz.f46.ntmps,bC,M,fun _=>False,fun _=>undef⟩:=kb rfl Tryz.ntmps46 lm
 unfold mc at h
 refine ay (aK (bl o [1,2,3] [3] [] (orc:=[]) (by kernel_rfl) .n (ax (ay (aK (fE o 3 [3,12,13,14] [3] [] (orc:=[]) (by kernel_rfl) .n ?_))))))
 obtain⟨v1,ll,h⟩:=bind_some h
 rcases v1 with v2|v3
 ·replace h:=VE h
  refine qA o (Dr k) ((O.1,O.2.1,()),U,W) (.inl v2) ll (ρ:=[]) (ρ':=[]) (n:=33) (by kernel_rfl) [3,15] [3] [] (by kernel_rfl) (by kernel_rfl) (by kernel_rfl) (bl o [3,9,10] [3] [] (orc:=[]) (by kernel_rfl) .n (ax (ay (ay (aK (bl o [3,9,10,19] [3] [] (orc:=[]) (by kernel_rfl) .n (ax (da (b:=v2 !=(0:Int)) (by kernel_rfl) (fun Y=>?_) (fun Y=>?_)))))))))
  ·replace h:=dw Y h
   refine ay (aK (bF o (st':=⟨[(6,aw (0:Int)),(7,.row 7),(8,aw v2)],[],[(7,⟨54,dU,([]:List cz)⟩)]⟩) (orc:=[]) (by kernel_rfl) .n (ax (ep (cQ ?_)))))
   cases h
   exact mq (.inl rfl) (by kernel_rfl)
  ·replace h:=dr Y h
   refine dc (ax (ay ?_))
   cases h
 ·replace h:=Ng h
  refine qA o (Dr k) ((O.1,O.2.1,()),U,W) (.inr v3) ll (ρ:=[]) (ρ':=[(32,15)]) (n:=33) (by kernel_rfl) [3,15] [3,15] [] (by kernel_rfl) (by kernel_rfl) (by kernel_rfl) (bl o [3,9,10] [3,15] [] (orc:=[]) (by kernel_rfl) .n (ax (ay (ay (aK (bl o [3,9,10,19] [3,15] [] (orc:=[]) (by kernel_rfl) .n (ax (da (b:=v3.1 !=(0:Int)) (by kernel_rfl) (fun Z=>?_) (fun Z=>?_)))))))))
  ·replace h:=dw Z h
   refine ay (aK (bF o (st':=⟨[(6,aw (0:Int)),(7,.row 7),(8,aw v3.1)],[],[(7,⟨54,dU,([]:List cz)⟩)]⟩) (orc:=[]) (by kernel_rfl) .n (ax (ep (cQ ?_)))))
   cases h
   exact mq (.inl rfl) (by kernel_rfl)
  ·replace h:=dr Z h
   refine dc (ax (ay ?_))
   obtain⟨_,la,h⟩:=bind_some h
   replace la:=dy la
   obtain⟨_,lc,h⟩:=bind_some h
   replace lc:=dy lc
   obtain⟨ld,lf,h⟩:=bind_some h
   obtain⟨lg,lh,h⟩:=bind_some h
   refine Nw o [0,1,2,3,4,6] [] 5 7 [8] [9,10,11] [3,25,26,27] [3,15] [] (orc:=[]) (orci:=[⟨(.arr 65 (.int .i64)),ld⟩,mn lg]) (by rfl) (by rfl) (by rfl) (by kernel_rfl) (by kernel_rfl) (by kernel_rfl) (by kernel_rfl) (by kernel_rfl) (by kernel_rfl) (by kernel_rfl) (by kernel_rfl) (.c la (.c lc (.c lf (.c lh .n)))) (bl o [25,26,27,28] [15] [] (orc:=[]) (by kernel_rfl) .n (QQ o (orc:=[⟨(.arr 65 (.int .i64)),ld⟩,mn lg]) (by kernel_rfl) (by kernel_rfl) (by kernel_rfl) (by kernel_rfl) (.c lf (.c lh .n)) (by rfl) ?_))
   obtain⟨v4,ln,h⟩:=bind_some h
   refine qA o (Kj k) ((O.1,O.2.1,()),v3.2) v4 ln (ρ:=[(15,152)]) (ρ':=[(152,15),(5,29)]) (n:=152) (by kernel_rfl) [25,26,29] [15] [29] (by kernel_rfl) (by kernel_rfl) (by kernel_rfl) (jg (QR o (orc:=[⟨(.arr 65 (.int .i64)),ld⟩,mn lg]) (by kernel_rfl) (by kernel_rfl) (by kernel_rfl) (by kernel_rfl) (.c lf (.c lh .n)) (bl o [6,7,8] [] [29] (orc:=[]) (by kernel_rfl) .n (Tr (ax (ep ?_))))))
   cases h
   exact mq (.inl rfl) (by kernel_rfl)
noncomputable def zZ(k:Nat):aL Tryz.prog an:=⟨46,KN k,Xa k⟩
noncomputable def Dn(k:Nat):aZ:=⟨[ck,(.ab (.arr 2 .str))],[(.ab hd),(.int .i64)],[],fun x=>Ib k (x.1) (x.2)⟩
theorem UX(k:Nat):aY Tryz.prog an 49 (Dn k).ba:=bt bq Tryz.func49 (by kernel_rfl) rfl Tryz.ntmps49 (Dn k) (by kernel_rfl) [kL k,zZ k] (fun x=>.ah 6 (.f (.ah 2 (.f (.ah 4 (.bw [.ab 23 (.int .i64),.rw 7 90 hd] (aR [2,7,21,22,23] [2] [7]) (fun n=>cT (Em k (x.2) (x.1) n)) k fun _ _=>.z)))))) (by kernel_rfl)
noncomputable def P7(k:Nat):aL Tryz.prog an:=⟨49,Dn k,UX k⟩
noncomputable def By(k:Nat):cJ iq Unit where
 n:=4
 S:=fun z=>⟨[(0,.iter 4)],[(4,.mp dU (.int .i64) (z))],[]⟩
 be:=fun z y=>⟨[],[(1,.cells [.iter 4] 145),(4,.mp dU (.int .i64) (z))],[]⟩
 ar:=fun z y=>[.clos 107 [1]]
 rel:=fun z y=>r7 k (z)=some y
theorem Uc(k:Nat):cF Tryz.prog an 76 (By k):=fp Tryz.func76 (by kernel_rfl) rfl (By k) Tryz.ntmps76 [] (fun z=>r7 k (z)) (fun _ _ h=>h) (fun st=>bW st []) [1,4] [] (fun _=>.z) (by kernel_rfl)
noncomputable def GV(k:Nat):dp Tryz.prog an iq Unit:=⟨76,By k,fun st=>bW st [.mp 4 dU (.int .i64)],fun z=>r7 k (z),(Uc k),fun _ _ h=>h⟩
end Go.Ev
