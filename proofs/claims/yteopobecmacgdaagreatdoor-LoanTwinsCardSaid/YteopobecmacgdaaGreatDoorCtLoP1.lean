/- Contracts, by program. -/
import Derived.Test.YteopobecmacgdaaGreatDoorProg
import Derived.Test.YteopobecmacgdaaGreatDoorMM6
import Derived.Test.YteopobecmacgdaaGreatDoorMM9
import Derived.Test.YteopobecmacgdaaGreatDoorMM10
import Derived.KernelRfl
import Derived.Test.YteopobecmacgdaaGreatDoorTyA
set_option linter.unusedSectionVars false
set_option linter.unusedVariables false
set_option linter.unusedSimpArgs false
namespace Go.Ev
open Go Go.Proofs
set_option linter.unusedVariables false
set_option maxRecDepth 100000
noncomputable def He(k:Nat):aS:=⟨[],[bV],[],fun _=>zX k⟩
theorem abU(k:Nat):aV Tryz.prog am 22 (He k).aT:=bl bk Tryz.func22 (by kernel_rfl) rfl Tryz.ntmps22 (He k) (by kernel_rfl) [] (fun _=>.z) (by kernel_rfl)
noncomputable def LW(k:Nat):aG Tryz.prog am:=⟨22,He k,abU k⟩
noncomputable def FN(k:Nat):aS:=⟨[],[iG],[],fun _=>Hn k⟩
theorem XK(k:Nat):aV Tryz.prog am 23 (FN k).aT:=bl bk Tryz.func23 (by kernel_rfl) rfl Tryz.ntmps23 (FN k) (by kernel_rfl) [] (fun _=>.z) (by kernel_rfl)
noncomputable def LN(k:Nat):aG Tryz.prog am:=⟨23,FN k,XK k⟩
noncomputable def BH(k:Nat):aS:=⟨[.str,(.int .u8)],[.str],[],fun x=>Ki k (x.1) (x.2)⟩
theorem Vc(k:Nat):aV Tryz.prog am 149 (BH k).aT:=bl bk Tryz.func149 (by kernel_rfl) rfl Tryz.ntmps149 (BH k) (by kernel_rfl) [] (fun x=>.ad 2 (.bi [.ab 0 .str] (aB [0,1] [] []) (Eu (x.2)) k fun o q=>.ad 2 (.g 7 (D4 q o) .z .z (fun _=>.z)))) (by kernel_rfl)
noncomputable def SI(k:Nat):aG Tryz.prog am:=⟨149,BH k,Vc k⟩
noncomputable def AU(k:Nat):aS:=⟨[.str,(.int .u8)],[.str],[],fun x=>IA k (x.1) (x.2)⟩
theorem acj(k:Nat):aV Tryz.prog am 148 (AU k).aT:=bl bk Tryz.func148 (by kernel_rfl) rfl Tryz.ntmps148 (AU k) (by kernel_rfl) [] (fun x=>.ad 2 (.bi [.ab 0 .str] (aB [0,1] [] []) (BW (x.2)) k fun o q=>.ad 2 (.g 4 (Ak q o) .z .z (fun _=>.z)))) (by kernel_rfl)
noncomputable def abg(k:Nat):aG Tryz.prog am:=⟨148,AU k,acj k⟩
noncomputable def E8(k:Nat):aS:=⟨[.str],[(.arr 256 .bool),.bool],[],fun x=>qV k x⟩
theorem Rn(k:Nat):aV Tryz.prog am 150 (E8 k).aT:=bl bk Tryz.func150 (by kernel_rfl) rfl Tryz.ntmps150 (E8 k) (by kernel_rfl) [] (fun x=>.ad 3 (.bi [.ab 4 (.int .i64),.mL 2 (.arr 256 .bool)] (aB [0,2,4] [2] []) (fun n=>cg (GL x n)) k fun _ _=>.z)) (by kernel_rfl)
noncomputable def Qf(k:Nat):aG Tryz.prog am:=⟨150,E8 k,Rn k⟩
noncomputable def At(k:Nat):aS:=⟨[(.ptr (.arr 256 .bool)),(.int .u8)],[.bool],[],fun x=>o3 k (x.1) (x.2)⟩
theorem WZ(k:Nat):aV Tryz.prog am 187 (At k).aT:=bl bk Tryz.func187 (by kernel_rfl) rfl Tryz.ntmps187 (At k) (by kernel_rfl) [] (fun _=>.z) (by kernel_rfl)
noncomputable def Is(k:Nat):aG Tryz.prog am:=⟨187,At k,WZ k⟩
noncomputable def Eh(k:Nat):aS:=⟨[.str,(.ptr (.arr 256 .bool))],[.str],[],fun x=>yL k (x.1) (x.2)⟩
theorem PD(k:Nat):aV Tryz.prog am 152 (Eh k).aT:=bl bk Tryz.func152 (by kernel_rfl) rfl Tryz.ntmps152 (Eh k) (by kernel_rfl) [Is k] (fun x=>.ad 1 (.j [.ab 0 .str] (aB [0] [] []) sB (.bi [.ab 0 .str] (aB [0,1] [] []) (oV k (x.2)) k fun _ _=>.z) (fun _=>.z))) (by kernel_rfl)
noncomputable def S4(k:Nat):aG Tryz.prog am:=⟨152,Eh k,PD k⟩
noncomputable def Fp(k:Nat):aS:=⟨[.str,(.ptr (.arr 256 .bool))],[.str],[],fun x=>yQ k (x.1) (x.2)⟩
theorem Xe(k:Nat):aV Tryz.prog am 151 (Fp k).aT:=bl bk Tryz.func151 (by kernel_rfl) rfl Tryz.ntmps151 (Fp k) (by kernel_rfl) [Is k] (fun x=>.ad 1 (.j [.ab 0 .str] (aB [0] [] []) rW (.bi [.ab 0 .str] (aB [0,1] [] []) (oU k (x.2)) k fun _ _=>.z) (fun _=>.z))) (by kernel_rfl)
noncomputable def Te(k:Nat):aG Tryz.prog am:=⟨151,Fp k,Xe k⟩
noncomputable def Po(k:Nat):aS:=⟨[.str,.str],[.str],[],fun x=>Me k (x.1) (x.2)⟩
theorem Sx(k:Nat):aV Tryz.prog am 154 (Po k).aT:=Oa Tryz.func154 (by kernel_rfl) rfl _ fun _=>rfl
noncomputable def YZ(k:Nat):aG Tryz.prog am:=⟨154,Po k,Sx k⟩
noncomputable def Of(k:Nat):aS:=⟨[.str,.str],[.str],[],fun x=>OG k (x.1) (x.2)⟩
theorem RU(k:Nat):aV Tryz.prog am 153 (Of k).aT:=Oa Tryz.func153 (by kernel_rfl) rfl _ fun _=>rfl
noncomputable def W0(k:Nat):aG Tryz.prog am:=⟨153,Of k,RU k⟩
noncomputable def GF(k:Nat):aS:=⟨[.str,.str],[.str],[],fun x=>od k (x.1) (x.2)⟩
theorem Tv(k:Nat):aV Tryz.prog am 119 (GF k).aT:=bl bk Tryz.func119 (by kernel_rfl) rfl Tryz.ntmps119 (GF k) (by kernel_rfl) [SI k,abg k,Qf k,S4 k,Te k,YZ k,W0 k] (fun x=>.ad 3 (.bc 2 (.f (.ad 2 (.g 3 (sX k (x.2) (x.1)) .z .z (fun _=>.z)))))) (by kernel_rfl)
noncomputable def Dc(k:Nat):aG Tryz.prog am:=⟨119,GF k,Tv k⟩
noncomputable def Fm(k:Nat):aS:=⟨[.str],[.bool],[],fun x=>qU k x⟩
theorem Y6(k:Nat):aV Tryz.prog am 87 (Fm k).aT:=bl bk Tryz.func87 (by kernel_rfl) rfl Tryz.ntmps87 (Fm k) (by kernel_rfl) [Dc k] (fun _=>.ad 2 (.bc 3 (.g 3 vw .z .z (fun _=>.z)))) (by kernel_rfl)
noncomputable def Yj(k:Nat):aG Tryz.prog am:=⟨87,Fm k,Y6 k⟩
noncomputable def Ht(k:Nat):aS:=⟨[(.int .i32)],[.bool],[],fun x=>ro k x⟩
theorem Zt(k:Nat):aV Tryz.prog am 88 (Ht k).aT:=bl bk Tryz.func88 (by kernel_rfl) rfl Tryz.ntmps88 (Ht k) (by kernel_rfl) [] (fun x=>.ad 2 (.j [.ab 3 .bool] (aB [0,3] [] []) (r3 x) (.ad 1 (.bc 2 (.f (.bc 2 .z)))) (fun _=>.f (.j [.ab 16 .bool] (aB [16] [] []) oo .z (fun _=>.z))))) (by kernel_rfl)
noncomputable def Tw(k:Nat):aG Tryz.prog am:=⟨88,Ht k,Zt k⟩
noncomputable def FU(k:Nat):aS:=⟨[bV,(.int .u32),(.int .u32)],[.bool],[],fun x=>k9 k (x.1) (x.2.1) (x.2.2)⟩
theorem R8(k:Nat):aV Tryz.prog am 89 (FU k).aT:=bl bk Tryz.func89 (by kernel_rfl) rfl Tryz.ntmps89 (FU k) (by kernel_rfl) [] (fun _=>.ad 2 (.bc 4 .z)) (by kernel_rfl)
noncomputable def yl(k:Nat):aG Tryz.prog am:=⟨89,FU k,R8 k⟩
noncomputable def Fx(k:Nat):aS:=⟨[bV],[(.int .i64)],[],fun x=>eK k x⟩
theorem Um(k:Nat):aV Tryz.prog am 53 (Fx k).aT:=bl bk Tryz.func53 (by kernel_rfl) rfl Tryz.ntmps53 (Fx k) (by kernel_rfl) [Yj k,Tw k,yl k] (fun x=>.ad 3 (.bc 4 (.bc 4 (.f (.ad 3 (.bi [.ab 29 (.int .i64),.mp 25 .str .bool] (aB [1,3,27,28,29] [1,25] []) (fun n=>cg (pd k x n)) k fun _ _=>.ad 2 (.c (.ad 6 (.bc 3 .z)) (.ad 3 (.bi [.ab 48 (.int .i64),.mp 44 (.int .i32) .bool] (aB [1,6,46,47,48] [1,44] []) (fun n=>cg (k8 k x n)) k fun q o=>.ad 2 (.t (.ad 2 (.a eh fun O=>.ad 3 (.bc 4 (.g 7 (qy (dF q) (o.1) (o.2) O) .z .z (fun _=>.z))))))))))))))) (by kernel_rfl)
noncomputable def iJ(k:Nat):aG Tryz.prog am:=⟨53,Fx k,Um k⟩
noncomputable def Ar(k:Nat):b8 (Int×List UInt8) (List UInt8) where
 n:=4
 S:=fun z=>⟨[(0,.ptr 4 0),(1,.ptr 5 0)],[(4,.cells [ay (z.1)] 34),(5,.cells [bo (z.2)] 9)],[]⟩
 bg:=fun z y=>⟨[],[(4,.cells [ay (z.1)] 34),(5,.cells [bo (y)] 9)],[]⟩
 aq:=fun z y=>[]
 rel:=fun z y=>nQ k (z.1) (z.2)=some y
theorem YB(k:Nat):u5 Tryz.prog am 52 (Ar k):=K4 Tryz.func52 (by kernel_rfl) rfl (Ar k) Tryz.ntmps52 [] (fun z=>nQ k (z.1) (z.2)) (fun _ _ h=>h) (fun st=>bz st [.ae 5 0 .str]) [4,5] [] (fun _=>.z) (by kernel_rfl)
noncomputable def xj(k:Nat):D5 Tryz.prog am (Int×List UInt8) (List UInt8):=⟨52,Ar k,fun st=>bz st [.ae 4 0 (.int .i64),.ae 5 0 .str],fun z=>nQ k (z.1) (z.2),(YB k),fun _ _ h=>h⟩
noncomputable def Di(k:Nat):aS:=⟨[bV],[oH,(.int .i64)],[],fun x=>yJ k x⟩
theorem P3(k:Nat):aV Tryz.prog am 69 (Di k).aT:=bl bk Tryz.func69 (by kernel_rfl) rfl Tryz.ntmps69 (Di k) (by kernel_rfl) [iJ k] (fun x=>.ad 5 (.f (.ad 3 (.bi [.ab 20 (.int .i64),.mp 16 (.int .i32) (.int .i64)] (aB [5,18,19,20] [16] []) (fun n=>cg (nK x n)) k fun _ _=>.z)))) (by kernel_rfl)
noncomputable def Z1(k:Nat):aG Tryz.prog am:=⟨69,Di k,P3 k⟩
noncomputable def CM(k:Nat):aS:=⟨[.str],[(.int .i64)],[],fun x=>wb k x⟩
theorem SQ(k:Nat):aV Tryz.prog am 135 (CM k).aT:=bl bk Tryz.func135 (by kernel_rfl) rfl Tryz.ntmps135 (CM k) (by kernel_rfl) [] (fun _=>.z) (by kernel_rfl)
noncomputable def Uh(k:Nat):aG Tryz.prog am:=⟨135,CM k,SQ k⟩
noncomputable def EQ(k:Nat):aS:=⟨[(.int .i32)],[(.int .i64)],[],fun x=>yt k x⟩
theorem aa4(k:Nat):aV Tryz.prog am 180 (EQ k).aT:=bl bk Tryz.func180 (by kernel_rfl) rfl Tryz.ntmps180 (EQ k) (by kernel_rfl) [] (fun _=>.ad 3 (.f (.ad 1 (.f (.ad 1 (.f (.ad 1 (.bc 2 .z)))))))) (by kernel_rfl)
noncomputable def aci(k:Nat):aG Tryz.prog am:=⟨180,EQ k,aa4 k⟩
noncomputable def Ez(k:Nat):b8 (kW×List fY) (Bool×List fY) where
 n:=8
 S:=fun z=>⟨[(0,.val iW (z.1)),(1,.ptr 8 0)],[(8,.cells [.row 9] 204)],[(9,⟨208,iW,(z.2)⟩)]⟩
 bg:=fun z y=>⟨[],[(8,.cells [.row 9] 204)],[(9,⟨208,iW,(y.2)⟩)]⟩
 aq:=fun z y=>[a8 (y.1)]
 rel:=fun z y=>qL k (z.1) (z.2)=some y
theorem Vx(k:Nat):cq Tryz.prog am 137 (Ez k):=dO Tryz.func137 (by kernel_rfl) rfl (Ez k) Tryz.ntmps137 [] (fun z=>qL k (z.1) (z.2)) (fun _ _ h=>h) (fun st=>bz st [.ab 0 .bool,.rw 9 208 iW]) [8] [9] (fun _=>.z) (by kernel_rfl)
noncomputable def RP(k:Nat):cX Tryz.prog am (kW×List fY) (Bool×List fY):=⟨137,Ez k,fun st=>bz st [.ab 0 iW,.rw 9 208 iW],fun z=>qL k (z.1) (z.2),(Vx k),fun _ _ h=>h⟩
noncomputable def GW(k:Nat):b8 (List UInt8×List fY) ko where
 n:=37
 S:=fun z=>⟨[(0,bo (z.1)),(1,.clos 137 [37])],[(37,.cells [.row 38] 204)],[(38,⟨208,iW,(z.2)⟩)]⟩
 bg:=fun z y=>⟨[],[(37,.cells [.row 38] 204)],[(38,⟨208,iW,(y)⟩)]⟩
 aq:=fun z y=>[]
 rel:=fun z y=>pX k (z.1) (z.2)=some y
theorem WS(k:Nat):cq Tryz.prog am 136 (GW k):=dO Tryz.func136 (by kernel_rfl) rfl (GW k) Tryz.ntmps136 [aci k,Ha k] (fun z=>pX k (z.1) (z.2)) (fun _ _ h=>h) (fun st=>bz st [.rw 38 208 iW]) [37] [38] (fun z=>.ad 1 (.bi [.it 10,.rw 38 208 iW] (aB [0,1,10] [10,37] [38]) (fun n=>cg (mX k (z.1) n)) k fun q o=>.ad 1 (.c (.ad 1 (.T (.ad 3 (.j [.ae 6 2 (.int .i64),.ae 6 3 .bool] (aB [0,1,6,10] [6,10,37] [38]) (cg (nn k (z.1) (o.1) (o.2) (dF q))) .z (fun _=>.ad 1 (.bQ (RP k) [(37,8),(38,9)] [(8,37),(9,38)] (fun _=>.z))))))) (.ad 1 (.F .z))))) (by kernel_rfl)
noncomputable def ZC(k:Nat):cX Tryz.prog am (List UInt8×List fY) ko:=⟨136,GW k,fun st=>bz st [.ab 0 .str,.rw 38 208 iW],fun z=>pX k (z.1) (z.2),(WS k),fun _ _ h=>h⟩
noncomputable def BY(k:Nat):aS:=⟨[.str],[(.ab iW),(.int .i64)],[],fun x=>r4 k x⟩
theorem WJ(k:Nat):aV Tryz.prog am 108 (BY k).aT:=bl bk Tryz.func108 (by kernel_rfl) rfl Tryz.ntmps108 (BY k) (by kernel_rfl) [Uh k] (fun _=>.ad 6 (.f (.ad 2 (.bQ (ZC k) [(5,37),(1000005,38)] [(37,5),(38,1000005)] (fun _=>.z))))) (by kernel_rfl)
noncomputable def abq(k:Nat):aG Tryz.prog am:=⟨108,BY k,WJ k⟩
noncomputable def AX(k:Nat):aS:=⟨[oH,.str],[bq,(.int .i64)],[],fun x=>tc k (x.1) (x.2)⟩
theorem abN(k:Nat):aV Tryz.prog am 70 (AX k).aT:=bl bk Tryz.func70 (by kernel_rfl) rfl Tryz.ntmps70 (AX k) (by kernel_rfl) [abq k] (fun x=>.ad 2 (.j [.ab 1 .str] (aB [0,1] [] []) (qS k (x.1)) .z (fun _=>.ad 1 (.ac [(.ab iW),(.int .i64)] fun v1=>.ad 2 (.f (.ad 4 (.bi [.ab 28 (.int .i64),.rw 8 21 (.int .i32)] (aB [0,8,26,27,28] [] [8]) (fun n=>cg (nH v1 (x.1) n)) k fun _ _=>.z))))))) (by kernel_rfl)
noncomputable def UO(k:Nat):aG Tryz.prog am:=⟨70,AX k,abN k⟩
noncomputable def EY(k:Nat):aS:=⟨[bV,.str],[bq,(.int .i64)],[],fun x=>kY k (x.1) (x.2)⟩
theorem ab0(k:Nat):aV Tryz.prog am 34 (EY k).aT:=bl bk Tryz.func34 (by kernel_rfl) rfl Tryz.ntmps34 (EY k) (by kernel_rfl) [Z1 k,UO k] (fun _=>.z) (by kernel_rfl)
noncomputable def xy(k:Nat):aG Tryz.prog am:=⟨34,EY k,ab0 k⟩
noncomputable def Gv(k:Nat):aS:=⟨[(.int .u32)],[(.int .i64)],[],fun x=>oq k x⟩
theorem RB(k:Nat):aV Tryz.prog am 91 (Gv k).aT:=bl bk Tryz.func91 (by kernel_rfl) rfl Tryz.ntmps91 (Gv k) (by kernel_rfl) [] (fun _=>.z) (by kernel_rfl)
noncomputable def NG(k:Nat):aG Tryz.prog am:=⟨91,Gv k,RB k⟩
noncomputable def E7(k:Nat):aS:=⟨[eh,wj,wj],[(.int .i64)],[eh,eh],fun x=>se k (x.1) (x.2.1) (x.2.2)⟩
theorem Rz(k:Nat):aV Tryz.prog am 90 (E7 k).aT:=bl bk Tryz.func90 (by kernel_rfl) rfl Tryz.ntmps90 (E7 k) (by kernel_rfl) [NG k] (fun _=>.z) (by kernel_rfl)
noncomputable def QK(k:Nat):aG Tryz.prog am:=⟨90,E7 k,Rz k⟩
noncomputable def D1(k:Nat):b8 (cK×cK×Int×Int×Int×Int×Int×Int) Int where
 n:=13
 S:=fun z=>⟨[(0,.val eh (z.1)),(1,.val eh (z.2.1)),(2,.ptr 13 0)],[(13,.cells [.clos 90 [14,15]] 189),(14,.cells [kM (z.2.2.1),fR (z.2.2.2.1),fR (z.2.2.2.2.1)] 86),(15,.cells [kM (z.2.2.2.2.2.1),fR (z.2.2.2.2.2.2.1),fR (z.2.2.2.2.2.2.2)] 86)],[]⟩
 bg:=fun z y=>⟨[],[(13,.cells [.clos 90 [14,15]] 189),(14,.cells [kM (z.2.2.1),fR (z.2.2.2.1),fR (z.2.2.2.2.1)] 86),(15,.cells [kM (z.2.2.2.2.2.1),fR (z.2.2.2.2.2.2.1),fR (z.2.2.2.2.2.2.2)] 86)],[]⟩
 aq:=fun z y=>[ay (y)]
 rel:=fun z y=>qw k (z.1) (z.2.1) (z.2.2.1) (z.2.2.2.1) (z.2.2.2.2.1) (z.2.2.2.2.2.1) (z.2.2.2.2.2.2.1) (z.2.2.2.2.2.2.2)=some y
theorem P6(k:Nat):cq Tryz.prog am 93 (D1 k):=dO Tryz.func93 (by kernel_rfl) rfl (D1 k) Tryz.ntmps93 [QK k] (fun z=>qw k (z.1) (z.2.1) (z.2.2.1) (z.2.2.2.1) (z.2.2.2.2.1) (z.2.2.2.2.2.1) (z.2.2.2.2.2.2.1) (z.2.2.2.2.2.2.2)) (fun _ _ h=>h) (fun st=>bz st [.ab 0 (.int .i64)]) [13,14,15] [] (fun _=>.z) (by kernel_rfl)
noncomputable def Qu(k:Nat):cX Tryz.prog am (cK×cK×Int×Int×Int×Int×Int×Int) Int:=⟨93,D1 k,fun st=>bz st [.ab 0 eh,.ab 1 eh,.ae 14 0 (.int .i32),.ae 14 1 (.int .u32),.ae 14 2 (.int .u32),.ae 15 0 (.int .i32),.ae 15 1 (.int .u32),.ae 15 2 (.int .u32)],fun z=>qw k (z.1) (z.2.1) (z.2.2.1) (z.2.2.2.1) (z.2.2.2.2.1) (z.2.2.2.2.2.1) (z.2.2.2.2.2.2.1) (z.2.2.2.2.2.2.2),(P6 k),fun _ _ h=>h⟩
noncomputable def Hy(k:Nat):b8 (List ax×Int×Int×Int×Int×Int×Int) cK where
 n:=33
 S:=fun z=>⟨[(0,.val av (z.1)),(1,.clos 93 [33])],[(33,.cells [.clos 90 [34,35]] 189),(34,.cells [kM (z.2.1),fR (z.2.2.1),fR (z.2.2.2.1)] 86),(35,.cells [kM (z.2.2.2.2.1),fR (z.2.2.2.2.2.1),fR (z.2.2.2.2.2.2)] 86)],[]⟩
 bg:=fun z y=>⟨[],[(33,.cells [.clos 90 [34,35]] 189),(34,.cells [kM (z.2.1),fR (z.2.2.1),fR (z.2.2.2.1)] 86),(35,.cells [kM (z.2.2.2.2.1),fR (z.2.2.2.2.2.1),fR (z.2.2.2.2.2.2)] 86)],[]⟩
 aq:=fun z y=>[.val eh (y)]
 rel:=fun z y=>pG k (z.1) (z.2.1) (z.2.2.1) (z.2.2.2.1) (z.2.2.2.2.1) (z.2.2.2.2.2.1) (z.2.2.2.2.2.2)=some y
theorem R5(k:Nat):cq Tryz.prog am 92 (Hy k):=dO Tryz.func92 (by kernel_rfl) rfl (Hy k) Tryz.ntmps92 [] (fun z=>pG k (z.1) (z.2.1) (z.2.2.1) (z.2.2.2.1) (z.2.2.2.2.1) (z.2.2.2.2.2.1) (z.2.2.2.2.2.2)) (fun _ _ h=>h) (fun st=>bz st [.ab 0 eh]) [33,34,35] [] (fun z=>.ad 3 (.f (.ad 4 (.bi [.ab 6 (.int .i64),.ae 5 0 (.int .i32),.ae 5 1 (.int .u32),.ae 5 2 (.int .u32)] (aB [0,1,4,5,6] [4,5,33,34,35] []) (fun n=>uH (tZ k (z.1) (z.2.1) (z.2.2.1) (z.2.2.2.1) (z.2.2.2.2.1) (z.2.2.2.2.2.1) (z.2.2.2.2.2.2) n)) k fun o q=>.ad 2 (.t (.j [.ae 5 0 (.int .i32),.ae 5 1 (.int .u32),.ae 5 2 (.int .u32)] (aB [0,1,4,5,6] [4,5,33,34,35] []) (gD (wd (vZ o) (q.1))) (.ad 1 (.jN 6 (.ad 1 (.bQ (Qu k) [(33,13),(34,14),(35,15)] [(13,33),(14,34),(15,35)] (fun _=>.t (.u 0 .z)))))) (fun _=>.z))))))) (by kernel_rfl)
noncomputable def Rw(k:Nat):cX Tryz.prog am (List ax×Int×Int×Int×Int×Int×Int) cK:=⟨92,Hy k,fun st=>bz st [.ab 0 av,.ae 34 0 (.int .i32),.ae 34 1 (.int .u32),.ae 34 2 (.int .u32),.ae 35 0 (.int .i32),.ae 35 1 (.int .u32),.ae 35 2 (.int .u32)],fun z=>pG k (z.1) (z.2.1) (z.2.2.1) (z.2.2.2.1) (z.2.2.2.2.1) (z.2.2.2.2.2.1) (z.2.2.2.2.2.2),(R5 k),fun _ _ h=>h⟩
noncomputable def CI(k:Nat):aS:=⟨[bV,bV],[(.pair (.fn 94 (.pair (.ptr (.map (.int .i32) (.int .i32))) .unit)) .unit)],[],fun x=>xJ k (x.1) (x.2)⟩
theorem Qr(k:Nat):aV Tryz.prog am 54 (CI k).aT:=bl bk Tryz.func54 (by kernel_rfl) rfl Tryz.ntmps54 (CI k) (by kernel_rfl) [] (fun x=>.ad 4 (.bi [.ab 21 (.int .i64),.mp 17 .str (.int .i64)] (aB [2,3,4,5,19,20,21] [2,3,4,17] []) (fun n=>cg (tJ k (x.2) (x.1) n)) k fun _ _=>.ad 2 (.f (.ad 3 (.bi [.ab 34 (.int .i64),.ae 2 0 (.ab .str),.ae 2 1 av,.ae 3 0 (.ab .str),.ae 3 1 av,.ae 4 0 .cO,.mp 17 .str (.int .i64),.mp 30 (.int .i32) (.int .i32)] (aB [2,3,4,5,8,32,33,34] [2,3,4,8,17,30] []) (fun n=>UH (pt k (x.1) n)) k fun q o=>.ad 2 (.c (.ad 2 (.a eh fun O=>.ad 3 (.bi [.ab 41 (.int .i64),.ae 11 1 (.int .u32),.ae 11 2 (.int .u32)] (aB [2,3,4,5,8,10,11,32,33,34,39,40,41] [2,3,4,8,10,11,17,30] []) (fun n=>gD (sP k (o.2.1) (o.2.2.2.2.2.2.1) O (o.2.2.2.2.1) (TF q) (o.1) (o.2.2.1) (o.2.2.2.1) (o.2.2.2.2.2.1) (o.2.2.2.2.2.2.2) n)) k fun R U=>.ad 2 (.c (.j [.ae 11 1 (.int .u32),.ae 11 2 (.int .u32)] (aB [2,3,4,5,8,10,11,32,33,34,39,40,41] [2,3,4,8,10,11,17,30] []) (cg (xq (gM R) (U.1))) (.ad 5 (.f (.ad 1 (.jN 11 (.jN 11 .z))))) (fun _=>.z)) (.ad 1 (.cT [[],[0],[1],[3],[5],[1,0],[3,0],[5,0],[2,1],[3,1],[5,1],[4,3],[5,3],[2,1,0],[3,1,0],[5,1,0],[4,3,0],[5,3,0],[3,2,1],[5,2,1],[4,3,1],[5,3,1],[5,4,3],[3,2,1,0],[5,2,1,0],[4,3,1,0],[5,3,1,0],[5,4,3,0],[4,3,2,1],[5,3,2,1],[5,4,3,1],[6,5,4,3],[4,3,2,1,0],[5,3,2,1,0],[5,4,3,1,0],[6,5,4,3,0],[5,4,3,2,1],[6,5,4,3,1],[7,6,5,4,3],[5,4,3,2,1,0],[6,5,4,3,1,0],[7,6,5,4,3,0],[6,5,4,3,2,1],[7,6,5,4,3,1],[6,5,4,3,2,1,0],[7,6,5,4,3,1,0],[7,6,5,4,3,2,1],[7,6,5,4,3,2,1,0],[8,7,6,5,4,3,2,1,0]] (.bQ (Rw k) [(16,33),(10,34),(11,35)] [(33,16),(34,10),(35,11)] (fun _=>.z)))))))) (.ad 1 (.FL 88 87 .z)))))))) (by kernel_rfl)
noncomputable def Wc(k:Nat):aG Tryz.prog am:=⟨54,CI k,Qr k⟩
noncomputable def Dv(k:Nat):aS:=⟨[(.int .i32),(.ptr (.map (.int .i32) (.int .i32)))],[(.int .i32)],[(.map (.int .i32) (.int .i32))],fun x=>Fs k (x.1) (x.2)⟩
theorem Sv(k:Nat):aV Tryz.prog am 94 (Dv k).aT:=bl bk Tryz.func94 (by kernel_rfl) rfl Tryz.ntmps94 (Dv k) (by kernel_rfl) [] (fun _=>.z) (by kernel_rfl)
noncomputable def H9(k:Nat):aG Tryz.prog am:=⟨94,Dv k,Sv k⟩
noncomputable def Gu(k:Nat):aS:=⟨[(.pair (.fn 94 (.pair (.ptr (.map (.int .i32) (.int .i32))) .unit)) .unit),bq],[.str],[],fun x=>zJ k (x.1) (x.2)⟩
theorem ZE(k:Nat):aV Tryz.prog am 55 (Gu k).aT:=bl bk Tryz.func55 (by kernel_rfl) rfl Tryz.ntmps55 (Gu k) (by kernel_rfl) [H9 k] (fun x=>.ad 5 (.bi [.ab 13 (.int .i64),.rw 10 21 (.int .i32)] (aB [2,5,11,12,13] [2] [10]) (fun n=>cg (rL k (x.2) (x.1) n)) k fun _ _=>.ad 2 (.t (.ad 5 (.u 0 .z))))) (by kernel_rfl)
noncomputable def Zn(k:Nat):aG Tryz.prog am:=⟨55,Gu k,ZE k⟩
noncomputable def G9(k:Nat):aS:=⟨[bV,bV,.str],[.str,(.int .i64)],[],fun x=>gl k (x.1) (x.2.1) (x.2.2)⟩
theorem Wl(k:Nat):aV Tryz.prog am 24 (G9 k).aT:=M1 bk Tryz.func24 (by kernel_rfl) rfl Tryz.ntmps24 (G9 k) (by kernel_rfl) [iJ k,xy k,Wc k,H9 k,Zn k] [(3,3),(4,4),(6,33),(7,32)] (fun _=>.ad 4 (.c (.iT (xj k) [(32,4),(33,5)] [(4,32),(5,33)]) (.ad 4 (.c (.iT (xj k) [(32,4),(33,5)] [(4,32),(5,33)]) (.ad 6 (.c (.iT (xj k) [(32,4),(33,5)] [(4,32),(5,33)]) (.ad 1 (.cT [[],[0],[1],[3],[5],[1,0],[3,0],[5,0],[3,1],[5,1],[5,3],[2,1,0],[3,1,0],[5,1,0],[5,3,0],[5,3,1],[3,2,1,0],[5,2,1,0],[5,3,1,0],[4,3,2,1,0],[5,3,2,1,0],[5,4,3,2,1,0],[6,4,3,2,1,0],[6,5,4,3,2,1,0],[7,6,5,4,3,2,1,0]] (.ad 2 (.iT (xj k) [(32,4),(33,5)] [(4,32),(5,33)])))))))))) (by kernel_rfl)
noncomputable def sK(k:Nat):aG Tryz.prog am:=⟨24,G9 k,Wl k⟩
noncomputable def HD(k:Nat):aS:=⟨[.str],[.bool],[],fun x=>xG k x⟩
theorem KT(k:Nat):aV Tryz.prog am 112 (HD k).aT:=bl bk Tryz.func112 (by kernel_rfl) rfl Tryz.ntmps112 (HD k) (by kernel_rfl) [] (fun x=>.ad 3 (.bi [.ab 8 (.int .i64)] (aB [0,6,7,8] [] []) (ul x) k fun o q=>.ad 2 (.t (.ad 2 (.a (.int .u8) fun O=>.ad 1 (.bc 2 (.iu 6 [.ab 25 .bool] (aB [0,4,6,7,8,25] [] []) (zm o q O) (.ad 3 (.bc 2 .z)) .z (fun _=>.bc 2 .z)))))))) (by kernel_rfl)
noncomputable def acx(k:Nat):aG Tryz.prog am:=⟨112,HD k,KT k⟩
noncomputable def Pf(k:Nat):aS:=⟨[.str],[.bool],[],fun x=>w6 k x⟩
theorem RC(k:Nat):aV Tryz.prog am 112 (Pf k).aT:=MA (d:=[.str]) (c:=[.bool]) (fn:=fun n x=>xG n x) (fun n=>KT n) fun x=>k+List.length x
noncomputable def Y9(k:Nat):aG Tryz.prog am:=⟨112,Pf k,RC k⟩
noncomputable def Gd(k:Nat):aS:=⟨[bV,.str],[(.int .i64)],[],fun x=>je k (x.1) (x.2)⟩
theorem Vw(k:Nat):aV Tryz.prog am 57 (Gd k).aT:=bl bk Tryz.func57 (by kernel_rfl) rfl Tryz.ntmps57 (Gd k) (by kernel_rfl) [xy k] (fun _=>.z) (by kernel_rfl)
noncomputable def tD(k:Nat):aG Tryz.prog am:=⟨57,Gd k,Vw k⟩
noncomputable def DY(k:Nat):aS:=⟨[.str],[(.int .i64)],[],fun x=>tr k x⟩
theorem Oz(k:Nat):aV Tryz.prog am 140 (DY k).aT:=bl bk Tryz.func140 (by kernel_rfl) rfl Tryz.ntmps140 (DY k) (by kernel_rfl) [] (fun x=>.ad 3 (.bi [.ab 2 (.int .i64),.it 4] (aB [2,4] [4] []) (fun n=>cg (pc x n)) k fun _ _=>.ad 1 (.c (.ad 1 (.T .z)) (.ad 1 (.F .z))))) (by kernel_rfl)
noncomputable def acA(k:Nat):aG Tryz.prog am:=⟨140,DY k,Oz k⟩
noncomputable def Ip(k:Nat):aS:=⟨[.str],[(.int .i64)],[],fun x=>ma k x⟩
theorem YT(k:Nat):aV Tryz.prog am 140 (Ip k).aT:=MA (d:=[.str]) (c:=[(.int .i64)]) (fn:=fun n x=>tr n x) (fun n=>Oz n) fun x=>k+List.length x
noncomputable def Ec(k:Nat):aG Tryz.prog am:=⟨140,Ip k,YT k⟩
noncomputable def Dx(k:Nat):aS:=⟨[eh,(.ptr (.int .i32))],[.bool],[(.int .i32)],fun x=>Bg k (x.1) (x.2)⟩
theorem YD(k:Nat):aV Tryz.prog am 72 (Dx k).aT:=bl bk Tryz.func72 (by kernel_rfl) rfl Tryz.ntmps72 (Dx k) (by kernel_rfl) [] (fun _=>.z) (by kernel_rfl)
noncomputable def Oq(k:Nat):aG Tryz.prog am:=⟨72,Dx k,YD k⟩
noncomputable def BF(k:Nat):aS:=⟨[av,(.fn 72 (.pair (.ptr (.int .i32)) .unit))],[(.int .i64)],[],fun x=>yv k (x.1) (x.2)⟩
theorem VK(k:Nat):aV Tryz.prog am 71 (BF k).aT:=bl bk Tryz.func71 (by kernel_rfl) rfl Tryz.ntmps71 (BF k) (by kernel_rfl) [Oq k] (fun x=>.ad 3 (.bi [.ab 8 (.int .i64)] (aB [0,1,7,8] [] []) (uN k (x.1) (x.2)) k fun _ _=>.z)) (by kernel_rfl)
noncomputable def Wk(k:Nat):aG Tryz.prog am:=⟨71,BF k,VK k⟩
noncomputable def BE(k:Nat):aS:=⟨[bV,(.int .i32)],[eh,(.int .i64)],[],fun x=>jw k (x.1) (x.2)⟩
theorem Sc(k:Nat):aV Tryz.prog am 35 (BE k).aT:=bl bk Tryz.func35 (by kernel_rfl) rfl Tryz.ntmps35 (BE k) (by kernel_rfl) [iJ k,Oq k,Wk k] (fun _=>.z) (by kernel_rfl)
noncomputable def p9(k:Nat):aG Tryz.prog am:=⟨35,BE k,Sc k⟩
noncomputable def Ah(k:Nat):aS:=⟨[bV,(.pair .str (.pair .str .unit))],[(.int .i64)],[],fun x=>wg k (x.1) (x.2)⟩
theorem Uo(k:Nat):aV Tryz.prog am 113 (Ah k).aT:=bl bk Tryz.func113 (by kernel_rfl) rfl Tryz.ntmps113 (Ah k) (by kernel_rfl) [iJ k,Od k,p9 k,Ec k,Dc k] (fun x=>.ad 5 (.f (.ad 2 (.g 4 (uE k (x.2) (x.1)) .z .z (fun _=>.f (.ad 3 (.g 4 (sa k (x.2) (x.1)) .z .z (fun _=>.f (.ad 2 (.bi [.it 37] (aB [2,37] [2,37] []) (sM k (x.2) (x.1)) k fun _ _=>.ad 1 (.c (.ad 1 (.T (.ad 4 (.bc 2 .z)))) (.ad 1 (.F .z))))))))))))) (by kernel_rfl)
noncomputable def Qj(k:Nat):aG Tryz.prog am:=⟨113,Ah k,Uo k⟩
noncomputable def E5(k:Nat):aS:=⟨[bV,(.pair (.int .u8) (.pair .str (.pair .str (.pair (.int .i64) .unit))))],[.cO,.bool],[],fun x=>yH k (x.1) (x.2)⟩
theorem Un(k:Nat):aV Tryz.prog am 78 (E5 k).aT:=bl bk Tryz.func78 (by kernel_rfl) rfl Tryz.ntmps78 (E5 k) (by kernel_rfl) [tD k,Qj k] (fun x=>.ad 2 (.Pn 3 (A4 k (x.1) (x.2)) (fun t1=>.ad 1 (.cT [[],[0],[3],[1,0],[3,0],[4,3],[2,1,0],[3,1,0],[4,3,0],[5,4,3],[3,2,1,0],[6,2,1,0],[4,3,1,0],[5,4,3,0],[4,3,2,1,0],[6,3,2,1,0],[5,4,3,1,0],[5,4,3,2,1,0],[6,4,3,2,1,0],[6,5,4,3,2,1,0],[7,6,5,4,3,2,1,0]] (.ad 2 (.g 5 (uQ k (x.2) t1 (x.1)) .z .z (fun _=>.ad 4 (.c (.ad 3 (.F (.ad 1 (.T (.ad 2 (.bc 3 (.iu 8 [.ab 105 .bool] (aB [89,105] [] []) zx (.ad 4 (.bc 3 .z)) .z (fun _=>.z)))))))) (.ad 1 (.c (.ad 3 (.F (.ad 1 (.T (.ad 2 (.bc 3 (.iu 8 [.ab 105 .bool] (aB [89,105] [] []) yY (.ad 4 (.bc 3 .z)) .z (fun _=>.z)))))))) (.ad 1 (.c (.ad 3 (.F (.ad 1 (.T (.ad 2 (.bc 3 (.iu 8 [.ab 105 .bool] (aB [89,105] [] []) xl (.ad 4 (.bc 3 .z)) .z (fun _=>.z)))))))) (.ad 1 (.c (.ad 3 (.F (.ad 1 (.F (.ad 1 (.T (.ad 2 (.bc 1 (.bc 3 .z))))))))) (.ad 1 (.c (.ad 5 (.F (.ad 1 (.F (.ad 1 (.F (.ad 1 (.T (.ad 3 (.bc 3 (.bc 3 .z))))))))))) (.ad 1 (.c (.ad 3 (.F (.ad 1 (.F (.ad 1 (.F (.ad 1 (.F (.ad 1 (.T (.ad 3 (.bc 3 (.bc 3 .z))))))))))))) (.ad 3 (.T .z)))))))))))))))))))) (by kernel_rfl)
noncomputable def Ri(k:Nat):aG Tryz.prog am:=⟨78,E5 k,Un k⟩
noncomputable def Fe(k:Nat):aS:=⟨[bV,Ca],[(.int .i64)],[],fun x=>vN k (x.1) (x.2)⟩
theorem Rq(k:Nat):aV Tryz.prog am 77 (Fe k).aT:=bl bk Tryz.func77 (by kernel_rfl) rfl Tryz.ntmps77 (Fe k) (by kernel_rfl) [iJ k,Y9 k,Ri k] (fun x=>.ad 5 (.f (.ad 3 (.bc 4 (.bc 4 (.f (.ad 2 (.bi [.ab 36 (.int .i64),.ae 2 0 (.ab .str),.ae 2 1 av] (aB [2,34,35,36] [2] []) (fun n=>gD (qx k (x.2) n)) k fun q o=>.ad 2 (.t (.ad 2 (.a (.pair (.int .u64) (.pair (.ab (.pair (.int .u8) (.pair .str (.pair .str (.pair (.int .i64) .unit))))) .unit)) fun O=>.ad 2 (.f (.ad 1 (.bi [.ab 47 (.int .i64)] (aB [2,34,35,36,45,46,47] [2] []) (ut k O (o.2.1) (o.2.2) (gM q) (o.1)) k fun _ _=>.z)))))))))))))) (by kernel_rfl)
noncomputable def Yz(k:Nat):aG Tryz.prog am:=⟨77,Fe k,Rq k⟩
end Go.Ev
