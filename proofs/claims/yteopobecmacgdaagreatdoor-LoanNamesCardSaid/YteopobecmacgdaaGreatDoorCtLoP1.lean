/- Contracts, by program. -/
import Derived.Test.YteopobecmacgdaaGreatDoorProg
import Derived.Test.YteopobecmacgdaaGreatDoorMM6
import Derived.Test.YteopobecmacgdaaGreatDoorMM9
import Derived.KernelRfl
import Derived.Test.YteopobecmacgdaaGreatDoorTyA
set_option linter.unusedSectionVars false
set_option linter.unusedVariables false
set_option linter.unusedSimpArgs false
namespace Go.Ev
open Go Go.Proofs
set_option linter.unusedVariables false
set_option maxRecDepth 100000
noncomputable def xX(k:Nat):aQ:=⟨[],[bI],[],fun _=>BW k⟩
theorem I7(k:Nat):aR Tryz.prog am 22 (xX k).aS:=bh bd Tryz.func22 (by kernel_rfl) rfl Tryz.ntmps22 (xX k) (by kernel_rfl) [] (fun _=>.z) (by kernel_rfl)
noncomputable def FY(k:Nat):aD Tryz.prog am:=⟨22,xX k,I7 k⟩
noncomputable def yd(k:Nat):aQ:=⟨[],[jT],[],fun _=>zT k⟩
theorem Mh(k:Nat):aR Tryz.prog am 23 (yd k).aS:=bh bd Tryz.func23 (by kernel_rfl) rfl Tryz.ntmps23 (yd k) (by kernel_rfl) [] (fun _=>.z) (by kernel_rfl)
noncomputable def EI(k:Nat):aD Tryz.prog am:=⟨23,yd k,Mh k⟩
noncomputable def vf(k:Nat):aQ:=⟨[.str,(.int .u8)],[.str],[],fun x=>Fv k (x.1) (x.2)⟩
theorem MW(k:Nat):aR Tryz.prog am 149 (vf k).aS:=bh bd Tryz.func149 (by kernel_rfl) rfl Tryz.ntmps149 (vf k) (by kernel_rfl) [] (fun x=>.ae 2 (.be [.ab 0 .str] (az [0,1] [] []) (xB (x.2)) k fun o q=>.ae 2 (.g 7 (vQ q o) .z .z (fun _=>.z)))) (by kernel_rfl)
noncomputable def Qo(k:Nat):aD Tryz.prog am:=⟨149,vf k,MW k⟩
noncomputable def zu(k:Nat):aQ:=⟨[.str,(.int .u8)],[.str],[],fun x=>HE k (x.1) (x.2)⟩
theorem K7(k:Nat):aR Tryz.prog am 148 (zu k).aS:=bh bd Tryz.func148 (by kernel_rfl) rfl Tryz.ntmps148 (zu k) (by kernel_rfl) [] (fun x=>.ae 2 (.be [.ab 0 .str] (az [0,1] [] []) (vK (x.2)) k fun o q=>.ae 2 (.g 4 (Ab q o) .z .z (fun _=>.z)))) (by kernel_rfl)
noncomputable def Sf(k:Nat):aD Tryz.prog am:=⟨148,zu k,K7 k⟩
noncomputable def tV(k:Nat):aQ:=⟨[.str],[(.arr 256 .bool),.bool],[],fun x=>F8 k x⟩
theorem LB(k:Nat):aR Tryz.prog am 150 (tV k).aS:=bh bd Tryz.func150 (by kernel_rfl) rfl Tryz.ntmps150 (tV k) (by kernel_rfl) [] (fun x=>.ae 3 (.be [.ab 4 (.int .i64),.jO 2 (.arr 256 .bool)] (az [0,2,4] [2] []) (fun n=>bY (CE x n)) k fun _ _=>.z)) (by kernel_rfl)
noncomputable def KN(k:Nat):aD Tryz.prog am:=⟨150,tV k,LB k⟩
noncomputable def w8(k:Nat):aQ:=⟨[(.ptr (.arr 256 .bool)),(.int .u8)],[.bool],[],fun x=>BM k (x.1) (x.2)⟩
theorem JS(k:Nat):aR Tryz.prog am 187 (w8 k).aS:=bh bd Tryz.func187 (by kernel_rfl) rfl Tryz.ntmps187 (w8 k) (by kernel_rfl) [] (fun _=>.z) (by kernel_rfl)
noncomputable def FS(k:Nat):aD Tryz.prog am:=⟨187,w8 k,JS k⟩
noncomputable def BR(k:Nat):aQ:=⟨[.str,(.ptr (.arr 256 .bool))],[.str],[],fun x=>FR k (x.1) (x.2)⟩
theorem Si(k:Nat):aR Tryz.prog am 152 (BR k).aS:=bh bd Tryz.func152 (by kernel_rfl) rfl Tryz.ntmps152 (BR k) (by kernel_rfl) [FS k] (fun x=>.ae 1 (.j [.ab 0 .str] (az [0] [] []) AV (.be [.ab 0 .str] (az [0,1] [] []) (BX k (x.2)) k fun _ _=>.z) (fun _=>.z))) (by kernel_rfl)
noncomputable def Jc(k:Nat):aD Tryz.prog am:=⟨152,BR k,Si k⟩
noncomputable def xl(k:Nat):aQ:=⟨[.str,(.ptr (.arr 256 .bool))],[.str],[],fun x=>G2 k (x.1) (x.2)⟩
theorem Q8(k:Nat):aR Tryz.prog am 151 (xl k).aS:=bh bd Tryz.func151 (by kernel_rfl) rfl Tryz.ntmps151 (xl k) (by kernel_rfl) [FS k] (fun x=>.ae 1 (.j [.ab 0 .str] (az [0] [] []) xC (.be [.ab 0 .str] (az [0,1] [] []) (BH k (x.2)) k fun _ _=>.z) (fun _=>.z))) (by kernel_rfl)
noncomputable def Oc(k:Nat):aD Tryz.prog am:=⟨151,xl k,Q8 k⟩
noncomputable def Db(k:Nat):aQ:=⟨[.str,.str],[.str],[],fun x=>HI k (x.1) (x.2)⟩
theorem JD(k:Nat):aR Tryz.prog am 154 (Db k).aS:=vP Tryz.func154 (by kernel_rfl) rfl _ fun _=>rfl
noncomputable def Ug(k:Nat):aD Tryz.prog am:=⟨154,Db k,JD k⟩
noncomputable def FK(k:Nat):aQ:=⟨[.str,.str],[.str],[],fun x=>Fa k (x.1) (x.2)⟩
theorem Pf(k:Nat):aR Tryz.prog am 153 (FK k).aS:=vP Tryz.func153 (by kernel_rfl) rfl _ fun _=>rfl
noncomputable def Mf(k:Nat):aD Tryz.prog am:=⟨153,FK k,Pf k⟩
noncomputable def z7(k:Nat):aQ:=⟨[.str,.str],[.str],[],fun x=>sn k (x.1) (x.2)⟩
theorem TM(k:Nat):aR Tryz.prog am 119 (z7 k).aS:=bh bd Tryz.func119 (by kernel_rfl) rfl Tryz.ntmps119 (z7 k) (by kernel_rfl) [Qo k,Sf k,KN k,Jc k,Oc k,Ug k,Mf k] (fun x=>.ae 3 (.bf 2 (.f (.ae 2 (.g 3 (xG k (x.2) (x.1)) .z .z (fun _=>.z)))))) (by kernel_rfl)
noncomputable def u4(k:Nat):aD Tryz.prog am:=⟨119,z7 k,TM k⟩
noncomputable def Au(k:Nat):aQ:=⟨[.str],[.bool],[],fun x=>GP k x⟩
theorem R5(k:Nat):aR Tryz.prog am 87 (Au k).aS:=bh bd Tryz.func87 (by kernel_rfl) rfl Tryz.ntmps87 (Au k) (by kernel_rfl) [u4 k] (fun _=>.ae 2 (.bf 3 (.g 3 CD .z .z (fun _=>.z)))) (by kernel_rfl)
noncomputable def Re(k:Nat):aD Tryz.prog am:=⟨87,Au k,R5 k⟩
noncomputable def Cf(k:Nat):aQ:=⟨[(.int .i32)],[.bool],[],fun x=>Ic k x⟩
theorem Ku(k:Nat):aR Tryz.prog am 88 (Cf k).aS:=bh bd Tryz.func88 (by kernel_rfl) rfl Tryz.ntmps88 (Cf k) (by kernel_rfl) [] (fun x=>.ae 2 (.j [.ab 3 .bool] (az [0,3] [] []) (Ad x) (.ae 1 (.bf 2 (.f (.bf 2 .z)))) (fun _=>.f (.j [.ab 16 .bool] (az [16] [] []) ph .z (fun _=>.z))))) (by kernel_rfl)
noncomputable def SK(k:Nat):aD Tryz.prog am:=⟨88,Cf k,Ku k⟩
noncomputable def wh(k:Nat):aQ:=⟨[bI,(.int .u32),(.int .u32)],[.bool],[],fun x=>pm k (x.1) (x.2.1) (x.2.2)⟩
theorem MI(k:Nat):aR Tryz.prog am 89 (wh k).aS:=bh bd Tryz.func89 (by kernel_rfl) rfl Tryz.ntmps89 (wh k) (by kernel_rfl) [] (fun _=>.ae 2 (.bf 4 .z)) (by kernel_rfl)
noncomputable def rP(k:Nat):aD Tryz.prog am:=⟨89,wh k,MI k⟩
noncomputable def tO(k:Nat):aQ:=⟨[bI],[(.int .i64)],[],fun x=>gi k x⟩
theorem SI(k:Nat):aR Tryz.prog am 53 (tO k).aS:=bh bd Tryz.func53 (by kernel_rfl) rfl Tryz.ntmps53 (tO k) (by kernel_rfl) [Re k,SK k,rP k] (fun x=>.ae 3 (.bf 4 (.bf 4 (.f (.ae 3 (.be [.ab 29 (.int .i64),.mp 25 .str .bool] (az [1,3,27,28,29] [1,25] []) (fun n=>bY (vF k x n)) k fun _ _=>.ae 2 (.c (.ae 6 (.bf 3 .z)) (.ae 3 (.be [.ab 48 (.int .i64),.mp 44 (.int .i32) .bool] (az [1,6,46,47,48] [1,44] []) (fun n=>bY (BC k x n)) k fun q o=>.ae 2 (.t (.ae 2 (.a dz fun L=>.ae 3 (.bf 4 (.g 7 (uX (dh q) (o.1) (o.2) L) .z .z (fun _=>.z))))))))))))))) (by kernel_rfl)
noncomputable def gI(k:Nat):aD Tryz.prog am:=⟨53,tO k,SI k⟩
noncomputable def CV(k:Nat):bP (Int×List UInt8) (List UInt8) where
 n:=4
 S:=fun z=>⟨[(0,.ptr 4 0),(1,.ptr 5 0)],[(4,.cells [ax (z.1)] 34),(5,.cells [bg (z.2)] 9)],[]⟩
 bE:=fun z y=>⟨[],[(4,.cells [ax (z.1)] 34),(5,.cells [bg (y)] 9)],[]⟩
 ap:=fun z y=>[]
 rel:=fun z y=>me k (z.1) (z.2)=some y
theorem KS(k:Nat):pK Tryz.prog am 52 (CV k):=Ey Tryz.func52 (by kernel_rfl) rfl (CV k) Tryz.ntmps52 [] (fun z=>me k (z.1) (z.2)) (fun _ _ h=>h) (fun st=>bp st [.ad 5 0 .str]) [4,5] [] (fun _=>.z) (by kernel_rfl)
noncomputable def tc(k:Nat):yM Tryz.prog am (Int×List UInt8) (List UInt8):=⟨52,CV k,fun st=>bp st [.ad 4 0 (.int .i64),.ad 5 0 .str],fun z=>me k (z.1) (z.2),(KS k),fun _ _ h=>h⟩
noncomputable def yB(k:Nat):aQ:=⟨[bI],[mx,(.int .i64)],[],fun x=>Iz k x⟩
theorem O3(k:Nat):aR Tryz.prog am 69 (yB k).aS:=bh bd Tryz.func69 (by kernel_rfl) rfl Tryz.ntmps69 (yB k) (by kernel_rfl) [gI k] (fun x=>.ae 5 (.f (.ae 3 (.be [.ab 20 (.int .i64),.mp 16 (.int .i32) (.int .i64)] (az [5,18,19,20] [16] []) (fun n=>bY (A7 x n)) k fun _ _=>.z)))) (by kernel_rfl)
noncomputable def M8(k:Nat):aD Tryz.prog am:=⟨69,yB k,O3 k⟩
noncomputable def vd(k:Nat):aQ:=⟨[.str],[(.int .i64)],[],fun x=>Im k x⟩
theorem I1(k:Nat):aR Tryz.prog am 135 (vd k).aS:=bh bd Tryz.func135 (by kernel_rfl) rfl Tryz.ntmps135 (vd k) (by kernel_rfl) [] (fun _=>.z) (by kernel_rfl)
noncomputable def QZ(k:Nat):aD Tryz.prog am:=⟨135,vd k,I1 k⟩
noncomputable def AJ(k:Nat):aQ:=⟨[(.int .i32)],[(.int .i64)],[],fun x=>Er k x⟩
theorem Nq(k:Nat):aR Tryz.prog am 180 (AJ k).aS:=bh bd Tryz.func180 (by kernel_rfl) rfl Tryz.ntmps180 (AJ k) (by kernel_rfl) [] (fun _=>.ae 3 (.f (.ae 1 (.f (.ae 1 (.f (.ae 1 (.bf 2 .z)))))))) (by kernel_rfl)
noncomputable def OM(k:Nat):aD Tryz.prog am:=⟨180,AJ k,Nq k⟩
noncomputable def yK(k:Nat):bP ((Int×Int×Int×Bool×Unit)×List fe) (Bool×List fe) where
 n:=8
 S:=fun z=>⟨[(0,.val gG (z.1)),(1,.ptr 8 0)],[(8,.cells [.row 9] 204)],[(9,⟨208,gG,(z.2)⟩)]⟩
 bE:=fun z y=>⟨[],[(8,.cells [.row 9] 204)],[(9,⟨208,gG,(y.2)⟩)]⟩
 ap:=fun z y=>[aU (y.1)]
 rel:=fun z y=>qQ k (z.1) (z.2)=some y
theorem Ns(k:Nat):bZ Tryz.prog am 137 (yK k):=de Tryz.func137 (by kernel_rfl) rfl (yK k) Tryz.ntmps137 [] (fun z=>qQ k (z.1) (z.2)) (fun _ _ h=>h) (fun st=>bp st [.ab 0 .bool,.rw 9 208 gG]) [8] [9] (fun _=>.z) (by kernel_rfl)
noncomputable def RY(k:Nat):cn Tryz.prog am ((Int×Int×Int×Bool×Unit)×List fe) (Bool×List fe):=⟨137,yK k,fun st=>bp st [.ab 0 gG,.rw 9 208 gG],fun z=>qQ k (z.1) (z.2),(Ns k),fun _ _ h=>h⟩
noncomputable def Bs(k:Nat):bP (List UInt8×List fe) iN where
 n:=37
 S:=fun z=>⟨[(0,bg (z.1)),(1,.clos 137 [37])],[(37,.cells [.row 38] 204)],[(38,⟨208,gG,(z.2)⟩)]⟩
 bE:=fun z y=>⟨[],[(37,.cells [.row 38] 204)],[(38,⟨208,gG,(y)⟩)]⟩
 ap:=fun z y=>[]
 rel:=fun z y=>sc k (z.1) (z.2)=some y
theorem Jn(k:Nat):bZ Tryz.prog am 136 (Bs k):=de Tryz.func136 (by kernel_rfl) rfl (Bs k) Tryz.ntmps136 [OM k,C3 k] (fun z=>sc k (z.1) (z.2)) (fun _ _ h=>h) (fun st=>bp st [.rw 38 208 gG]) [37] [38] (fun z=>.ae 1 (.be [.it 10,.rw 38 208 gG] (az [0,1,10] [10,37] [38]) (fun n=>bY (wU k (z.1) n)) k fun q o=>.ae 1 (.c (.ae 1 (.T (.ae 3 (.j [.ad 6 2 (.int .i64),.ad 6 3 .bool] (az [0,1,6,10] [6,10,37] [38]) (bY (sV k (z.1) (o.1) (o.2) (dh q))) .z (fun _=>.ae 1 (.bG (RY k) [(37,8),(38,9)] [(8,37),(9,38)] (fun _=>.z))))))) (.ae 1 (.F .z))))) (by kernel_rfl)
noncomputable def TQ(k:Nat):cn Tryz.prog am (List UInt8×List fe) iN:=⟨136,Bs k,fun st=>bp st [.ab 0 .str,.rw 38 208 gG],fun z=>sc k (z.1) (z.2),(Jn k),fun _ _ h=>h⟩
noncomputable def CK(k:Nat):aQ:=⟨[.str],[(.ab gG),(.int .i64)],[],fun x=>Fz k x⟩
theorem KK(k:Nat):aR Tryz.prog am 108 (CK k).aS:=bh bd Tryz.func108 (by kernel_rfl) rfl Tryz.ntmps108 (CK k) (by kernel_rfl) [QZ k] (fun _=>.ae 6 (.f (.ae 2 (.bG (TQ k) [(5,37),(1000005,38)] [(37,5),(38,1000005)] (fun _=>.z))))) (by kernel_rfl)
noncomputable def Pr(k:Nat):aD Tryz.prog am:=⟨108,CK k,KK k⟩
noncomputable def vJ(k:Nat):aQ:=⟨[mx,.str],[bk,(.int .i64)],[],fun x=>Fu k (x.1) (x.2)⟩
theorem Lp(k:Nat):aR Tryz.prog am 70 (vJ k).aS:=bh bd Tryz.func70 (by kernel_rfl) rfl Tryz.ntmps70 (vJ k) (by kernel_rfl) [Pr k] (fun x=>.ae 2 (.j [.ab 1 .str] (az [0,1] [] []) (vZ k (x.1)) .z (fun _=>.ae 1 (.ac [(.ab gG),(.int .i64)] fun v1=>.ae 2 (.f (.ae 4 (.be [.ab 28 (.int .i64),.rw 8 21 (.int .i32)] (az [0,8,26,27,28] [] [8]) (fun n=>bY (xI v1 (x.1) n)) k fun _ _=>.z))))))) (by kernel_rfl)
noncomputable def N7(k:Nat):aD Tryz.prog am:=⟨70,vJ k,Lp k⟩
noncomputable def wA(k:Nat):aQ:=⟨[bI,.str],[bk,(.int .i64)],[],fun x=>mF k (x.1) (x.2)⟩
theorem Nx(k:Nat):aR Tryz.prog am 34 (wA k).aS:=bh bd Tryz.func34 (by kernel_rfl) rfl Tryz.ntmps34 (wA k) (by kernel_rfl) [M8 k,N7 k] (fun _=>.z) (by kernel_rfl)
noncomputable def ql(k:Nat):aD Tryz.prog am:=⟨34,wA k,Nx k⟩
noncomputable def BI(k:Nat):aQ:=⟨[(.int .u32)],[(.int .i64)],[],fun x=>A4 k x⟩
theorem PF(k:Nat):aR Tryz.prog am 91 (BI k).aS:=bh bd Tryz.func91 (by kernel_rfl) rfl Tryz.ntmps91 (BI k) (by kernel_rfl) [] (fun _=>.z) (by kernel_rfl)
noncomputable def EN(k:Nat):aD Tryz.prog am:=⟨91,BI k,PF k⟩
noncomputable def vL(k:Nat):aQ:=⟨[dz,sS,sS],[(.int .i64)],[dz,dz],fun x=>Cp k (x.1) (x.2.1) (x.2.2)⟩
theorem Ps(k:Nat):aR Tryz.prog am 90 (vL k).aS:=bh bd Tryz.func90 (by kernel_rfl) rfl Tryz.ntmps90 (vL k) (by kernel_rfl) [EN k] (fun _=>.z) (by kernel_rfl)
noncomputable def KM(k:Nat):aD Tryz.prog am:=⟨90,vL k,Ps k⟩
noncomputable def zr(k:Nat):bP (cz×cz×Int×Int×Int×Int×Int×Int) Int where
 n:=13
 S:=fun z=>⟨[(0,.val dz (z.1)),(1,.val dz (z.2.1)),(2,.ptr 13 0)],[(13,.cells [.clos 90 [14,15]] 189),(14,.cells [jc (z.2.2.1),eY (z.2.2.2.1),eY (z.2.2.2.2.1)] 86),(15,.cells [jc (z.2.2.2.2.2.1),eY (z.2.2.2.2.2.2.1),eY (z.2.2.2.2.2.2.2)] 86)],[]⟩
 bE:=fun z y=>⟨[],[(13,.cells [.clos 90 [14,15]] 189),(14,.cells [jc (z.2.2.1),eY (z.2.2.2.1),eY (z.2.2.2.2.1)] 86),(15,.cells [jc (z.2.2.2.2.2.1),eY (z.2.2.2.2.2.2.1),eY (z.2.2.2.2.2.2.2)] 86)],[]⟩
 ap:=fun z y=>[ax (y)]
 rel:=fun z y=>sl k (z.1) (z.2.1) (z.2.2.1) (z.2.2.2.1) (z.2.2.2.2.1) (z.2.2.2.2.2.1) (z.2.2.2.2.2.2.1) (z.2.2.2.2.2.2.2)=some y
theorem RX(k:Nat):bZ Tryz.prog am 93 (zr k):=de Tryz.func93 (by kernel_rfl) rfl (zr k) Tryz.ntmps93 [KM k] (fun z=>sl k (z.1) (z.2.1) (z.2.2.1) (z.2.2.2.1) (z.2.2.2.2.1) (z.2.2.2.2.2.1) (z.2.2.2.2.2.2.1) (z.2.2.2.2.2.2.2)) (fun _ _ h=>h) (fun st=>bp st [.ab 0 (.int .i64)]) [13,14,15] [] (fun _=>.z) (by kernel_rfl)
noncomputable def Mg(k:Nat):cn Tryz.prog am (cz×cz×Int×Int×Int×Int×Int×Int) Int:=⟨93,zr k,fun st=>bp st [.ab 0 dz,.ab 1 dz,.ad 14 0 (.int .i32),.ad 14 1 (.int .u32),.ad 14 2 (.int .u32),.ad 15 0 (.int .i32),.ad 15 1 (.int .u32),.ad 15 2 (.int .u32)],fun z=>sl k (z.1) (z.2.1) (z.2.2.1) (z.2.2.2.1) (z.2.2.2.2.1) (z.2.2.2.2.2.1) (z.2.2.2.2.2.2.1) (z.2.2.2.2.2.2.2),(RX k),fun _ _ h=>h⟩
noncomputable def zK(k:Nat):bP (List aw×Int×Int×Int×Int×Int×Int) cz where
 n:=33
 S:=fun z=>⟨[(0,.val au (z.1)),(1,.clos 93 [33])],[(33,.cells [.clos 90 [34,35]] 189),(34,.cells [jc (z.2.1),eY (z.2.2.1),eY (z.2.2.2.1)] 86),(35,.cells [jc (z.2.2.2.2.1),eY (z.2.2.2.2.2.1),eY (z.2.2.2.2.2.2)] 86)],[]⟩
 bE:=fun z y=>⟨[],[(33,.cells [.clos 90 [34,35]] 189),(34,.cells [jc (z.2.1),eY (z.2.2.1),eY (z.2.2.2.1)] 86),(35,.cells [jc (z.2.2.2.2.1),eY (z.2.2.2.2.2.1),eY (z.2.2.2.2.2.2)] 86)],[]⟩
 ap:=fun z y=>[.val dz (y)]
 rel:=fun z y=>tm k (z.1) (z.2.1) (z.2.2.1) (z.2.2.2.1) (z.2.2.2.2.1) (z.2.2.2.2.2.1) (z.2.2.2.2.2.2)=some y
theorem Jj(k:Nat):bZ Tryz.prog am 92 (zK k):=de Tryz.func92 (by kernel_rfl) rfl (zK k) Tryz.ntmps92 [] (fun z=>tm k (z.1) (z.2.1) (z.2.2.1) (z.2.2.2.1) (z.2.2.2.2.1) (z.2.2.2.2.2.1) (z.2.2.2.2.2.2)) (fun _ _ h=>h) (fun st=>bp st [.ab 0 dz]) [33,34,35] [] (fun z=>.ae 3 (.f (.ae 4 (.be [.ab 6 (.int .i64),.ad 5 0 (.int .i32),.ad 5 1 (.int .u32),.ad 5 2 (.int .u32)] (az [0,1,4,5,6] [4,5,33,34,35] []) (fun n=>oW (we k (z.1) (z.2.1) (z.2.2.1) (z.2.2.2.1) (z.2.2.2.2.1) (z.2.2.2.2.2.1) (z.2.2.2.2.2.2) n)) k fun o q=>.ae 2 (.t (.j [.ad 5 0 (.int .i32),.ad 5 1 (.int .u32),.ad 5 2 (.int .u32)] (az [0,1,4,5,6] [4,5,33,34,35] []) (fK (xy (qe o) (q.1))) (.ae 1 (.my 6 (.ae 1 (.bG (Mg k) [(33,13),(34,14),(35,15)] [(13,33),(14,34),(15,35)] (fun _=>.t (.u 0 .z)))))) (fun _=>.z))))))) (by kernel_rfl)
noncomputable def Ol(k:Nat):cn Tryz.prog am (List aw×Int×Int×Int×Int×Int×Int) cz:=⟨92,zK k,fun st=>bp st [.ab 0 au,.ad 34 0 (.int .i32),.ad 34 1 (.int .u32),.ad 34 2 (.int .u32),.ad 35 0 (.int .i32),.ad 35 1 (.int .u32),.ad 35 2 (.int .u32)],fun z=>tm k (z.1) (z.2.1) (z.2.2.1) (z.2.2.2.1) (z.2.2.2.2.1) (z.2.2.2.2.2.1) (z.2.2.2.2.2.2),(Jj k),fun _ _ h=>h⟩
noncomputable def yw(k:Nat):aQ:=⟨[bI,bI],[(.pair (.fn 94 (.pair (.ptr (.map (.int .i32) (.int .i32))) .unit)) .unit)],[],fun x=>Fg k (x.1) (x.2)⟩
theorem Kd(k:Nat):aR Tryz.prog am 54 (yw k).aS:=bh bd Tryz.func54 (by kernel_rfl) rfl Tryz.ntmps54 (yw k) (by kernel_rfl) [] (fun x=>.ae 4 (.be [.ab 21 (.int .i64),.mp 17 .str (.int .i64)] (az [2,3,4,5,19,20,21] [2,3,4,17] []) (fun n=>bY (BV k (x.2) (x.1) n)) k fun _ _=>.ae 2 (.f (.ae 3 (.be [.ab 34 (.int .i64),.ad 2 0 (.ab .str),.ad 2 1 au,.ad 3 0 (.ab .str),.ad 3 1 au,.ad 4 0 .ck,.mp 17 .str (.int .i64),.mp 30 (.int .i32) (.int .i32)] (az [2,3,4,5,8,32,33,34] [2,3,4,8,17,30] []) (fun n=>MN (A8 k (x.1) n)) k fun q o=>.ae 2 (.c (.ae 2 (.a dz fun L=>.ae 3 (.be [.ab 41 (.int .i64),.ad 11 1 (.int .u32),.ad 11 2 (.int .u32)] (az [2,3,4,5,8,10,11,32,33,34,39,40,41] [2,3,4,8,10,11,17,30] []) (fun n=>fK (AR k (o.2.1) (o.2.2.2.2.2.2.1) L (o.2.2.2.2.1) (I3 q) (o.1) (o.2.2.1) (o.2.2.2.1) (o.2.2.2.2.2.1) (o.2.2.2.2.2.2.2) n)) k fun O R=>.ae 2 (.c (.j [.ad 11 1 (.int .u32),.ad 11 2 (.int .u32)] (az [2,3,4,5,8,10,11,32,33,34,39,40,41] [2,3,4,8,10,11,17,30] []) (bY (CI (fW O) (R.1))) (.ae 5 (.f (.ae 1 (.my 11 (.my 11 .z))))) (fun _=>.z)) (.ae 1 (.cS [[],[0],[1],[3],[5],[1,0],[3,0],[5,0],[2,1],[3,1],[5,1],[4,3],[5,3],[2,1,0],[3,1,0],[5,1,0],[4,3,0],[5,3,0],[3,2,1],[5,2,1],[4,3,1],[5,3,1],[5,4,3],[3,2,1,0],[5,2,1,0],[4,3,1,0],[5,3,1,0],[5,4,3,0],[4,3,2,1],[5,3,2,1],[5,4,3,1],[6,5,4,3],[4,3,2,1,0],[5,3,2,1,0],[5,4,3,1,0],[6,5,4,3,0],[5,4,3,2,1],[6,5,4,3,1],[7,6,5,4,3],[5,4,3,2,1,0],[6,5,4,3,1,0],[7,6,5,4,3,0],[6,5,4,3,2,1],[7,6,5,4,3,1],[6,5,4,3,2,1,0],[7,6,5,4,3,1,0],[7,6,5,4,3,2,1],[7,6,5,4,3,2,1,0],[8,7,6,5,4,3,2,1,0]] (.bG (Ol k) [(16,33),(10,34),(11,35)] [(33,16),(34,10),(35,11)] (fun _=>.z)))))))) (.ae 1 (.xT 88 87 .z)))))))) (by kernel_rfl)
noncomputable def Jp(k:Nat):aD Tryz.prog am:=⟨54,yw k,Kd k⟩
noncomputable def Cw(k:Nat):aQ:=⟨[(.int .i32),(.ptr (.map (.int .i32) (.int .i32)))],[(.int .i32)],[(.map (.int .i32) (.int .i32))],fun x=>Dl k (x.1) (x.2)⟩
theorem RE(k:Nat):aR Tryz.prog am 94 (Cw k).aS:=bh bd Tryz.func94 (by kernel_rfl) rfl Tryz.ntmps94 (Cw k) (by kernel_rfl) [] (fun _=>.z) (by kernel_rfl)
noncomputable def GX(k:Nat):aD Tryz.prog am:=⟨94,Cw k,RE k⟩
noncomputable def Cc(k:Nat):aQ:=⟨[(.pair (.fn 94 (.pair (.ptr (.map (.int .i32) (.int .i32))) .unit)) .unit),bk],[.str],[],fun x=>DK k (x.1) (x.2)⟩
theorem M4(k:Nat):aR Tryz.prog am 55 (Cc k).aS:=bh bd Tryz.func55 (by kernel_rfl) rfl Tryz.ntmps55 (Cc k) (by kernel_rfl) [GX k] (fun x=>.ae 5 (.be [.ab 13 (.int .i64),.rw 10 21 (.int .i32)] (az [2,5,11,12,13] [2] [10]) (fun n=>bY (CN k (x.2) (x.1) n)) k fun _ _=>.ae 2 (.t (.ae 5 (.u 0 .z))))) (by kernel_rfl)
noncomputable def J4(k:Nat):aD Tryz.prog am:=⟨55,Cc k,M4 k⟩
noncomputable def tS(k:Nat):aQ:=⟨[bI,bI,.str],[.str,(.int .i64)],[],fun x=>ib k (x.1) (x.2.1) (x.2.2)⟩
theorem Tt(k:Nat):aR Tryz.prog am 24 (tS k).aS:=HB bd Tryz.func24 (by kernel_rfl) rfl Tryz.ntmps24 (tS k) (by kernel_rfl) [gI k,ql k,Jp k,GX k,J4 k] [(3,3),(4,4),(6,33),(7,32)] (fun _=>.ae 4 (.c (.gy (tc k) [(32,4),(33,5)] [(4,32),(5,33)]) (.ae 4 (.c (.gy (tc k) [(32,4),(33,5)] [(4,32),(5,33)]) (.ae 6 (.c (.gy (tc k) [(32,4),(33,5)] [(4,32),(5,33)]) (.ae 1 (.cS [[],[0],[1],[3],[5],[1,0],[3,0],[5,0],[3,1],[5,1],[5,3],[2,1,0],[3,1,0],[5,1,0],[5,3,0],[5,3,1],[3,2,1,0],[5,2,1,0],[5,3,1,0],[4,3,2,1,0],[5,3,2,1,0],[5,4,3,2,1,0],[6,4,3,2,1,0],[6,5,4,3,2,1,0],[7,6,5,4,3,2,1,0]] (.ae 2 (.gy (tc k) [(32,4),(33,5)] [(4,32),(5,33)])))))))))) (by kernel_rfl)
noncomputable def oz(k:Nat):aD Tryz.prog am:=⟨24,tS k,Tt k⟩
noncomputable def CQ(k:Nat):aQ:=⟨[.str],[.bool],[],fun x=>FM k x⟩
theorem TO(k:Nat):aR Tryz.prog am 112 (CQ k).aS:=bh bd Tryz.func112 (by kernel_rfl) rfl Tryz.ntmps112 (CQ k) (by kernel_rfl) [] (fun x=>.ae 3 (.be [.ab 8 (.int .i64)] (az [0,6,7,8] [] []) (u6 x) k fun o q=>.ae 2 (.t (.ae 2 (.a (.int .u8) fun L=>.ae 1 (.bf 2 (.gT 6 [.ab 25 .bool] (az [0,4,6,7,8,25] [] []) (Ar o q L) (.ae 3 (.bf 2 .z)) .z (fun _=>.bf 2 .z)))))))) (by kernel_rfl)
noncomputable def TV(k:Nat):aD Tryz.prog am:=⟨112,CQ k,TO k⟩
noncomputable def Cy(k:Nat):aQ:=⟨[bI,.str],[(.int .i64)],[],fun x=>ka k (x.1) (x.2)⟩
theorem TI(k:Nat):aR Tryz.prog am 57 (Cy k).aS:=bh bd Tryz.func57 (by kernel_rfl) rfl Tryz.ntmps57 (Cy k) (by kernel_rfl) [ql k] (fun _=>.z) (by kernel_rfl)
noncomputable def nX(k:Nat):aD Tryz.prog am:=⟨57,Cy k,TI k⟩
noncomputable def Gf(k:Nat):aQ:=⟨[.str],[.bool],[],fun x=>Bd k x⟩
theorem Mm(k:Nat):aR Tryz.prog am 122 (Gf k).aS:=vP Tryz.func122 (by kernel_rfl) rfl _ fun _=>rfl
noncomputable def Fx(k:Nat):aD Tryz.prog am:=⟨122,Gf k,Mm k⟩
noncomputable def yu(k:Nat):aQ:=⟨[.str],[(.int .i64)],[],fun x=>na k x⟩
theorem Mq(k:Nat):aR Tryz.prog am 140 (yu k).aS:=bh bd Tryz.func140 (by kernel_rfl) rfl Tryz.ntmps140 (yu k) (by kernel_rfl) [] (fun x=>.ae 3 (.be [.ab 2 (.int .i64),.it 4] (az [2,4] [4] []) (fun n=>bY (yh x n)) k fun _ _=>.ae 1 (.c (.ae 1 (.T .z)) (.ae 1 (.F .z))))) (by kernel_rfl)
noncomputable def CH(k:Nat):aD Tryz.prog am:=⟨140,yu k,Mq k⟩
noncomputable def wX(k:Nat):aQ:=⟨[dz,(.ptr (.int .i32))],[.bool],[(.int .i32)],fun x=>G3 k (x.1) (x.2)⟩
theorem Qp(k:Nat):aR Tryz.prog am 72 (wX k).aS:=bh bd Tryz.func72 (by kernel_rfl) rfl Tryz.ntmps72 (wX k) (by kernel_rfl) [] (fun _=>.z) (by kernel_rfl)
noncomputable def Gr(k:Nat):aD Tryz.prog am:=⟨72,wX k,Qp k⟩
noncomputable def CC(k:Nat):aQ:=⟨[au,(.fn 72 (.pair (.ptr (.int .i32)) .unit))],[(.int .i64)],[],fun x=>G4 k (x.1) (x.2)⟩
theorem Mu(k:Nat):aR Tryz.prog am 71 (CC k).aS:=bh bd Tryz.func71 (by kernel_rfl) rfl Tryz.ntmps71 (CC k) (by kernel_rfl) [Gr k] (fun x=>.ae 3 (.be [.ab 8 (.int .i64)] (az [0,1,7,8] [] []) (uG k (x.1) (x.2)) k fun _ _=>.z)) (by kernel_rfl)
noncomputable def Ow(k:Nat):aD Tryz.prog am:=⟨71,CC k,Mu k⟩
noncomputable def BK(k:Nat):aQ:=⟨[bI,(.int .i32)],[dz,(.int .i64)],[],fun x=>jf k (x.1) (x.2)⟩
theorem Lb(k:Nat):aR Tryz.prog am 35 (BK k).aS:=bh bd Tryz.func35 (by kernel_rfl) rfl Tryz.ntmps35 (BK k) (by kernel_rfl) [gI k,Gr k,Ow k] (fun _=>.z) (by kernel_rfl)
noncomputable def nw(k:Nat):aD Tryz.prog am:=⟨35,BK k,Lb k⟩
noncomputable def ws(k:Nat):aQ:=⟨[bI,(.pair .str (.pair .str .unit))],[(.int .i64)],[],fun x=>FW k (x.1) (x.2)⟩
theorem Mw(k:Nat):aR Tryz.prog am 113 (ws k).aS:=bh bd Tryz.func113 (by kernel_rfl) rfl Tryz.ntmps113 (ws k) (by kernel_rfl) [gI k,Fx k,nw k,CH k,u4 k] (fun x=>.ae 5 (.f (.ae 2 (.g 4 (Ag k (x.2) (x.1)) .z .z (fun _=>.f (.ae 3 (.g 4 (tL k (x.2) (x.1)) .z .z (fun _=>.f (.ae 2 (.be [.it 37] (az [2,37] [2,37] []) (xg k (x.2) (x.1)) k fun _ _=>.ae 1 (.c (.ae 1 (.T (.ae 4 (.bf 2 .z)))) (.ae 1 (.F .z))))))))))))) (by kernel_rfl)
noncomputable def LS(k:Nat):aD Tryz.prog am:=⟨113,ws k,Mw k⟩
noncomputable def zp(k:Nat):aQ:=⟨[bI,(.pair (.int .u8) (.pair .str (.pair .str (.pair (.int .i64) .unit))))],[.ck,.bool],[],fun x=>FE k (x.1) (x.2)⟩
theorem SF(k:Nat):aR Tryz.prog am 78 (zp k).aS:=bh bd Tryz.func78 (by kernel_rfl) rfl Tryz.ntmps78 (zp k) (by kernel_rfl) [nX k,LS k] (fun x=>.ae 2 (.GN 3 (IE k (x.2) (x.1)) (fun t1=>.ae 1 (.cS [[],[0],[3],[1,0],[3,0],[4,3],[2,1,0],[3,1,0],[4,3,0],[5,4,3],[3,2,1,0],[6,2,1,0],[4,3,1,0],[5,4,3,0],[4,3,2,1,0],[6,3,2,1,0],[5,4,3,1,0],[5,4,3,2,1,0],[6,4,3,2,1,0],[6,5,4,3,2,1,0],[7,6,5,4,3,2,1,0]] (.ae 2 (.g 5 (xR k (x.2) t1 (x.1)) .z .z (fun _=>.ae 4 (.c (.ae 3 (.F (.ae 1 (.T (.ae 2 (.bf 3 (.gT 8 [.ab 105 .bool] (az [89,105] [] []) BD (.ae 4 (.bf 3 .z)) .z (fun _=>.z)))))))) (.ae 1 (.c (.ae 3 (.F (.ae 1 (.T (.ae 2 (.bf 3 (.gT 8 [.ab 105 .bool] (az [89,105] [] []) Bp (.ae 4 (.bf 3 .z)) .z (fun _=>.z)))))))) (.ae 1 (.c (.ae 3 (.F (.ae 1 (.T (.ae 2 (.bf 3 (.gT 8 [.ab 105 .bool] (az [89,105] [] []) uB (.ae 4 (.bf 3 .z)) .z (fun _=>.z)))))))) (.ae 1 (.c (.ae 3 (.F (.ae 1 (.F (.ae 1 (.T (.ae 2 (.bf 1 (.bf 3 .z))))))))) (.ae 1 (.c (.ae 5 (.F (.ae 1 (.F (.ae 1 (.F (.ae 1 (.T (.ae 3 (.bf 3 (.bf 3 .z))))))))))) (.ae 1 (.c (.ae 3 (.F (.ae 1 (.F (.ae 1 (.F (.ae 1 (.F (.ae 1 (.T (.ae 3 (.bf 3 (.bf 3 .z))))))))))))) (.ae 3 (.T .z)))))))))))))))))))) (by kernel_rfl)
noncomputable def QF(k:Nat):aD Tryz.prog am:=⟨78,zp k,SF k⟩
noncomputable def Ax(k:Nat):aQ:=⟨[bI,qb],[(.int .i64)],[],fun x=>Em k (x.1) (x.2)⟩
theorem KV(k:Nat):aR Tryz.prog am 77 (Ax k).aS:=bh bd Tryz.func77 (by kernel_rfl) rfl Tryz.ntmps77 (Ax k) (by kernel_rfl) [gI k,TV k,QF k] (fun x=>.ae 5 (.f (.ae 3 (.bf 4 (.bf 4 (.f (.ae 2 (.be [.ab 36 (.int .i64),.ad 2 0 (.ab .str),.ad 2 1 au] (az [2,34,35,36] [2] []) (fun n=>fK (uI k (x.2) n)) k fun q o=>.ae 2 (.t (.ae 2 (.a (.pair (.int .u64) (.pair (.ab (.pair (.int .u8) (.pair .str (.pair .str (.pair (.int .i64) .unit))))) .unit)) fun L=>.ae 2 (.f (.ae 1 (.be [.ab 47 (.int .i64)] (az [2,34,35,36,45,46,47] [2] []) (tT k L (o.2.1) (o.2.2) (fW q) (o.1)) k fun _ _=>.z)))))))))))))) (by kernel_rfl)
noncomputable def Od(k:Nat):aD Tryz.prog am:=⟨77,Ax k,KV k⟩
noncomputable def A5(k:Nat):aQ:=⟨[jT,(.pair .str (.pair (.int .i64) (.pair .str (.pair (.int .i64) .unit))))],[(.int .i64)],[],fun x=>HY k (x.1) (x.2)⟩
theorem Nd(k:Nat):aR Tryz.prog am 96 (A5 k).aS:=bh bd Tryz.func96 (by kernel_rfl) rfl Tryz.ntmps96 (A5 k) (by kernel_rfl) [nX k,Fx k] (fun x=>.ae 5 (.f (.ae 2 (.bf 6 (.f (.ae 2 (.g 4 (wM (x.2)) .z .z (fun _=>.bf 3 (.bf 3 .z))))))))) (by kernel_rfl)
noncomputable def Sx(k:Nat):aD Tryz.prog am:=⟨96,A5 k,Nd k⟩
end Go.Ev
