/- Contracts, by program. -/
import Derived.Test.YteopobecmacgdaaGreatDoorProg
import Derived.Test.YteopobecmacgdaaGreatDoorMM6
import Derived.Test.YteopobecmacgdaaGreatDoorMM9
import Derived.KernelRfl
import Derived.Test.YteopobecmacgdaaGreatDoorTyA
set_option linter.unusedSectionVars false
set_option linter.unusedVariables false
set_option linter.unusedSimpArgs false
namespace Go.Ev
open Go Go.Proofs
set_option linter.unusedVariables false
set_option maxRecDepth 100000
noncomputable def Bx(k:Nat):aU:=⟨[],[bP],[],fun _=>AX k⟩
theorem WY(k:Nat):aV Tryz.prog am 22 (Bx k).aW:=bi bf Tryz.func22 (by kernel_rfl) rfl Tryz.ntmps22 (Bx k) (by kernel_rfl) [] (fun _=>.z) (by kernel_rfl)
noncomputable def Ll(k:Nat):aF Tryz.prog am:=⟨22,Bx k,WY k⟩
noncomputable def vV(k:Nat):aU:=⟨[],[ki],[],fun _=>DN k⟩
theorem S6(k:Nat):aV Tryz.prog am 23 (vV k).aW:=bi bf Tryz.func23 (by kernel_rfl) rfl Tryz.ntmps23 (vV k) (by kernel_rfl) [] (fun _=>.z) (by kernel_rfl)
noncomputable def Iw(k:Nat):aF Tryz.prog am:=⟨23,vV k,S6 k⟩
noncomputable def Eh(k:Nat):aU:=⟨[.str,(.int .u8)],[.str],[],fun x=>HL k (x.1) (x.2)⟩
theorem Qm(k:Nat):aV Tryz.prog am 149 (Eh k).aW:=bi bf Tryz.func149 (by kernel_rfl) rfl Tryz.ntmps149 (Eh k) (by kernel_rfl) [] (fun x=>.ae 2 (.bg [.ab 0 .str] (aB [0,1] [] []) (yV (x.2)) k fun o q=>.ae 2 (.g 7 (Ar q o) .z .z (fun _=>.z)))) (by kernel_rfl)
noncomputable def Qt(k:Nat):aF Tryz.prog am:=⟨149,Eh k,Qm k⟩
noncomputable def D2(k:Nat):aU:=⟨[.str,(.int .u8)],[.str],[],fun x=>FT k (x.1) (x.2)⟩
theorem Nk(k:Nat):aV Tryz.prog am 148 (D2 k).aW:=bi bf Tryz.func148 (by kernel_rfl) rfl Tryz.ntmps148 (D2 k) (by kernel_rfl) [] (fun x=>.ae 2 (.bg [.ab 0 .str] (aB [0,1] [] []) (B2 (x.2)) k fun o q=>.ae 2 (.g 4 (yC q o) .z .z (fun _=>.z)))) (by kernel_rfl)
noncomputable def UQ(k:Nat):aF Tryz.prog am:=⟨148,D2 k,Nk k⟩
noncomputable def Ba(k:Nat):aU:=⟨[.str],[(.arr 256 .bool),.bool],[],fun x=>tG k x⟩
theorem WZ(k:Nat):aV Tryz.prog am 150 (Ba k).aW:=bi bf Tryz.func150 (by kernel_rfl) rfl Tryz.ntmps150 (Ba k) (by kernel_rfl) [] (fun x=>.ae 3 (.bg [.ab 4 (.int .i64),.kf 2 (.arr 256 .bool)] (aB [0,2,4] [2] []) (fun n=>b7 (CS x n)) k fun _ _=>.z)) (by kernel_rfl)
noncomputable def QE(k:Nat):aF Tryz.prog am:=⟨150,Ba k,WZ k⟩
noncomputable def Bt(k:Nat):aU:=⟨[(.ptr (.arr 256 .bool)),(.int .u8)],[.bool],[],fun x=>pw k (x.1) (x.2)⟩
theorem Te(k:Nat):aV Tryz.prog am 187 (Bt k).aW:=bi bf Tryz.func187 (by kernel_rfl) rfl Tryz.ntmps187 (Bt k) (by kernel_rfl) [] (fun _=>.z) (by kernel_rfl)
noncomputable def Fb(k:Nat):aF Tryz.prog am:=⟨187,Bt k,Te k⟩
noncomputable def ws(k:Nat):aU:=⟨[.str,(.ptr (.arr 256 .bool))],[.str],[],fun x=>B5 k (x.1) (x.2)⟩
theorem WI(k:Nat):aV Tryz.prog am 152 (ws k).aW:=bi bf Tryz.func152 (by kernel_rfl) rfl Tryz.ntmps152 (ws k) (by kernel_rfl) [Fb k] (fun x=>.ae 1 (.j [.ab 0 .str] (aB [0] [] []) vj (.bg [.ab 0 .str] (aB [0,1] [] []) (qR k (x.2)) k fun _ _=>.z) (fun _=>.z))) (by kernel_rfl)
noncomputable def OB(k:Nat):aF Tryz.prog am:=⟨152,ws k,WI k⟩
noncomputable def EQ(k:Nat):aU:=⟨[.str,(.ptr (.arr 256 .bool))],[.str],[],fun x=>Ah k (x.1) (x.2)⟩
theorem Xn(k:Nat):aV Tryz.prog am 151 (EQ k).aW:=bi bf Tryz.func151 (by kernel_rfl) rfl Tryz.ntmps151 (EQ k) (by kernel_rfl) [Fb k] (fun x=>.ae 1 (.j [.ab 0 .str] (aB [0] [] []) uD (.bg [.ab 0 .str] (aB [0,1] [] []) (ph k (x.2)) k fun _ _=>.z) (fun _=>.z))) (by kernel_rfl)
noncomputable def My(k:Nat):aF Tryz.prog am:=⟨151,EQ k,Xn k⟩
noncomputable def Ih(k:Nat):aU:=⟨[.str,.str],[.str],[],fun x=>HY k (x.1) (x.2)⟩
theorem NF(k:Nat):aV Tryz.prog am 154 (Ih k).aW:=BA Tryz.func154 (by kernel_rfl) rfl _ fun _=>rfl
noncomputable def PB(k:Nat):aF Tryz.prog am:=⟨154,Ih k,NF k⟩
noncomputable def LI(k:Nat):aU:=⟨[.str,.str],[.str],[],fun x=>Gz k (x.1) (x.2)⟩
theorem R1(k:Nat):aV Tryz.prog am 153 (LI k).aW:=BA Tryz.func153 (by kernel_rfl) rfl _ fun _=>rfl
noncomputable def W3(k:Nat):aF Tryz.prog am:=⟨153,LI k,R1 k⟩
noncomputable def xn(k:Nat):aU:=⟨[.str,.str],[.str],[],fun x=>oB k (x.1) (x.2)⟩
theorem U1(k:Nat):aV Tryz.prog am 119 (xn k).aW:=bi bf Tryz.func119 (by kernel_rfl) rfl Tryz.ntmps119 (xn k) (by kernel_rfl) [Qt k,UQ k,QE k,OB k,My k,PB k,W3 k] (fun x=>.ae 3 (.bh 2 (.f (.ae 2 (.g 3 (uH k (x.2) (x.1)) .z .z (fun _=>.z)))))) (by kernel_rfl)
noncomputable def Dq(k:Nat):aF Tryz.prog am:=⟨119,xn k,U1 k⟩
noncomputable def wE(k:Nat):aU:=⟨[.str],[.bool],[],fun x=>uR k x⟩
theorem O5(k:Nat):aV Tryz.prog am 87 (wE k).aW:=bi bf Tryz.func87 (by kernel_rfl) rfl Tryz.ntmps87 (wE k) (by kernel_rfl) [Dq k] (fun _=>.ae 2 (.bh 3 (.g 3 rP .z .z (fun _=>.z)))) (by kernel_rfl)
noncomputable def Rh(k:Nat):aF Tryz.prog am:=⟨87,wE k,O5 k⟩
noncomputable def xp(k:Nat):aU:=⟨[(.int .i32)],[.bool],[],fun x=>ul k x⟩
theorem Oh(k:Nat):aV Tryz.prog am 88 (xp k).aW:=bi bf Tryz.func88 (by kernel_rfl) rfl Tryz.ntmps88 (xp k) (by kernel_rfl) [] (fun x=>.ae 2 (.j [.ab 3 .bool] (aB [0,3] [] []) (so x) (.ae 1 (.bh 2 (.f (.bh 2 .z)))) (fun _=>.f (.j [.ab 16 .bool] (aB [16] [] []) oA .z (fun _=>.z))))) (by kernel_rfl)
noncomputable def PF(k:Nat):aF Tryz.prog am:=⟨88,xp k,Oh k⟩
noncomputable def y9(k:Nat):aU:=⟨[bP,(.int .u32),(.int .u32)],[.bool],[],fun x=>kV k (x.1) (x.2.1) (x.2.2)⟩
theorem ML(k:Nat):aV Tryz.prog am 89 (y9 k).aW:=bi bf Tryz.func89 (by kernel_rfl) rfl Tryz.ntmps89 (y9 k) (by kernel_rfl) [] (fun _=>.ae 2 (.bh 4 .z)) (by kernel_rfl)
noncomputable def tv(k:Nat):aF Tryz.prog am:=⟨89,y9 k,ML k⟩
noncomputable def AN(k:Nat):aU:=⟨[bP],[(.int .i64)],[],fun x=>fR k x⟩
theorem Sb(k:Nat):aV Tryz.prog am 53 (AN k).aW:=bi bf Tryz.func53 (by kernel_rfl) rfl Tryz.ntmps53 (AN k) (by kernel_rfl) [Rh k,PF k,tv k] (fun x=>.ae 3 (.bh 4 (.bh 4 (.f (.ae 3 (.bg [.ab 29 (.int .i64),.mp 25 .str .bool] (aB [1,3,27,28,29] [1,25] []) (fun n=>b7 (qF k x n)) k fun _ _=>.ae 2 (.c (.ae 6 (.bh 3 .z)) (.ae 3 (.bg [.ab 48 (.int .i64),.mp 44 (.int .i32) .bool] (aB [1,6,46,47,48] [1,44] []) (fun n=>b7 (oG k x n)) k fun q o=>.ae 2 (.t (.ae 2 (.a dK fun L=>.ae 3 (.bh 4 (.g 7 (vM (dq q) (o.1) (o.2) L) .z .z (fun _=>.z))))))))))))))) (by kernel_rfl)
noncomputable def ib(k:Nat):aF Tryz.prog am:=⟨53,AN k,Sb k⟩
noncomputable def C4(k:Nat):bU (Int×List UInt8) (List UInt8) where
 n:=4
 S:=fun z=>⟨[(0,.ptr 4 0),(1,.ptr 5 0)],[(4,.cells [ax (z.1)] 34),(5,.cells [bj (z.2)] 9)],[]⟩
 bJ:=fun z y=>⟨[],[(4,.cells [ax (z.1)] 34),(5,.cells [bj (y)] 9)],[]⟩
 ap:=fun z y=>[]
 rel:=fun z y=>kY k (z.1) (z.2)=some y
theorem VC(k:Nat):pZ Tryz.prog am 52 (C4 k):=FU Tryz.func52 (by kernel_rfl) rfl (C4 k) Tryz.ntmps52 [] (fun z=>kY k (z.1) (z.2)) (fun _ _ h=>h) (fun st=>bu st [.ad 5 0 .str]) [4,5] [] (fun _=>.z) (by kernel_rfl)
noncomputable def vC(k:Nat):Ds Tryz.prog am (Int×List UInt8) (List UInt8):=⟨52,C4 k,fun st=>bu st [.ad 4 0 (.int .i64),.ad 5 0 .str],fun z=>kY k (z.1) (z.2),(VC k),fun _ _ h=>h⟩
noncomputable def yq(k:Nat):aU:=⟨[bP],[nK,(.int .i64)],[],fun x=>yD k x⟩
theorem Xv(k:Nat):aV Tryz.prog am 69 (yq k).aW:=bi bf Tryz.func69 (by kernel_rfl) rfl Tryz.ntmps69 (yq k) (by kernel_rfl) [ib k] (fun x=>.ae 5 (.f (.ae 3 (.bg [.ab 20 (.int .i64),.mp 16 (.int .i32) (.int .i64)] (aB [5,18,19,20] [16] []) (fun n=>b7 (nP x n)) k fun _ _=>.z)))) (by kernel_rfl)
noncomputable def MV(k:Nat):aF Tryz.prog am:=⟨69,yq k,Xv k⟩
noncomputable def A0(k:Nat):aU:=⟨[.str],[(.int .i64)],[],fun x=>C3 k x⟩
theorem RJ(k:Nat):aV Tryz.prog am 135 (A0 k).aW:=bi bf Tryz.func135 (by kernel_rfl) rfl Tryz.ntmps135 (A0 k) (by kernel_rfl) [] (fun _=>.z) (by kernel_rfl)
noncomputable def VH(k:Nat):aF Tryz.prog am:=⟨135,A0 k,RJ k⟩
noncomputable def xK(k:Nat):aU:=⟨[(.int .i32)],[(.int .i64)],[],fun x=>rL k x⟩
theorem P8(k:Nat):aV Tryz.prog am 180 (xK k).aW:=bi bf Tryz.func180 (by kernel_rfl) rfl Tryz.ntmps180 (xK k) (by kernel_rfl) [] (fun _=>.ae 3 (.f (.ae 1 (.f (.ae 1 (.f (.ae 1 (.bh 2 .z)))))))) (by kernel_rfl)
noncomputable def Pv(k:Nat):aF Tryz.prog am:=⟨180,xK k,P8 k⟩
noncomputable def yE(k:Nat):bU (mI×List fG) (Bool×List fG) where
 n:=8
 S:=fun z=>⟨[(0,.val ij (z.1)),(1,.ptr 8 0)],[(8,.cells [.row 9] 204)],[(9,⟨208,ij,(z.2)⟩)]⟩
 bJ:=fun z y=>⟨[],[(8,.cells [.row 9] 204)],[(9,⟨208,ij,(y.2)⟩)]⟩
 ap:=fun z y=>[aY (y.1)]
 rel:=fun z y=>rs k (z.1) (z.2)=some y
theorem MA(k:Nat):cb Tryz.prog am 137 (yE k):=dr Tryz.func137 (by kernel_rfl) rfl (yE k) Tryz.ntmps137 [] (fun z=>rs k (z.1) (z.2)) (fun _ _ h=>h) (fun st=>bu st [.ab 0 .bool,.rw 9 208 ij]) [8] [9] (fun _=>.z) (by kernel_rfl)
noncomputable def Qp(k:Nat):cD Tryz.prog am (mI×List fG) (Bool×List fG):=⟨137,yE k,fun st=>bu st [.ab 0 ij,.rw 9 208 ij],fun z=>rs k (z.1) (z.2),(MA k),fun _ _ h=>h⟩
noncomputable def zj(k:Nat):bU (List UInt8×List fG) jn where
 n:=37
 S:=fun z=>⟨[(0,bj (z.1)),(1,.clos 137 [37])],[(37,.cells [.row 38] 204)],[(38,⟨208,ij,(z.2)⟩)]⟩
 bJ:=fun z y=>⟨[],[(37,.cells [.row 38] 204)],[(38,⟨208,ij,(y)⟩)]⟩
 ap:=fun z y=>[]
 rel:=fun z y=>pW k (z.1) (z.2)=some y
theorem WD(k:Nat):cb Tryz.prog am 136 (zj k):=dr Tryz.func136 (by kernel_rfl) rfl (zj k) Tryz.ntmps136 [Pv k,BK k] (fun z=>pW k (z.1) (z.2)) (fun _ _ h=>h) (fun st=>bu st [.rw 38 208 ij]) [37] [38] (fun z=>.ae 1 (.bg [.it 10,.rw 38 208 ij] (aB [0,1,10] [10,37] [38]) (fun n=>b7 (oh k (z.1) n)) k fun q o=>.ae 1 (.c (.ae 1 (.T (.ae 3 (.j [.ad 6 2 (.int .i64),.ad 6 3 .bool] (aB [0,1,6,10] [6,10,37] [38]) (b7 (oF k (z.1) (o.1) (o.2) (dq q))) .z (fun _=>.ae 1 (.bI (Qp k) [(37,8),(38,9)] [(8,37),(9,38)] (fun _=>.z))))))) (.ae 1 (.F .z))))) (by kernel_rfl)
noncomputable def OM(k:Nat):cD Tryz.prog am (List UInt8×List fG) jn:=⟨136,zj k,fun st=>bu st [.ab 0 .str,.rw 38 208 ij],fun z=>pW k (z.1) (z.2),(WD k),fun _ _ h=>h⟩
noncomputable def BS(k:Nat):aU:=⟨[.str],[(.ab ij),(.int .i64)],[],fun x=>wB k x⟩
theorem L2(k:Nat):aV Tryz.prog am 108 (BS k).aW:=bi bf Tryz.func108 (by kernel_rfl) rfl Tryz.ntmps108 (BS k) (by kernel_rfl) [VH k] (fun _=>.ae 6 (.f (.ae 2 (.bI (OM k) [(5,37),(1000005,38)] [(37,5),(38,1000005)] (fun _=>.z))))) (by kernel_rfl)
noncomputable def RD(k:Nat):aF Tryz.prog am:=⟨108,BS k,L2 k⟩
noncomputable def xH(k:Nat):aU:=⟨[nK,.str],[bl,(.int .i64)],[],fun x=>EB k (x.1) (x.2)⟩
theorem Oz(k:Nat):aV Tryz.prog am 70 (xH k).aW:=bi bf Tryz.func70 (by kernel_rfl) rfl Tryz.ntmps70 (xH k) (by kernel_rfl) [RD k] (fun x=>.ae 2 (.j [.ab 1 .str] (aB [0,1] [] []) (rM k (x.1)) .z (fun _=>.ae 1 (.ac [(.ab ij),(.int .i64)] fun v1=>.ae 2 (.f (.ae 4 (.bg [.ab 28 (.int .i64),.rw 8 21 (.int .i32)] (aB [0,8,26,27,28] [] [8]) (fun n=>b7 (nS v1 (x.1) n)) k fun _ _=>.z))))))) (by kernel_rfl)
noncomputable def Qi(k:Nat):aF Tryz.prog am:=⟨70,xH k,Oz k⟩
noncomputable def xw(k:Nat):aU:=⟨[bP,.str],[bl,(.int .i64)],[],fun x=>kK k (x.1) (x.2)⟩
theorem Pu(k:Nat):aV Tryz.prog am 34 (xw k).aW:=bi bf Tryz.func34 (by kernel_rfl) rfl Tryz.ntmps34 (xw k) (by kernel_rfl) [MV k,Qi k] (fun _=>.z) (by kernel_rfl)
noncomputable def sA(k:Nat):aF Tryz.prog am:=⟨34,xw k,Pu k⟩
noncomputable def ES(k:Nat):aU:=⟨[(.int .u32)],[(.int .i64)],[],fun x=>rB k x⟩
theorem Un(k:Nat):aV Tryz.prog am 91 (ES k).aW:=bi bf Tryz.func91 (by kernel_rfl) rfl Tryz.ntmps91 (ES k) (by kernel_rfl) [] (fun _=>.z) (by kernel_rfl)
noncomputable def JK(k:Nat):aF Tryz.prog am:=⟨91,ES k,Un k⟩
noncomputable def BE(k:Nat):aU:=⟨[dK,uU,uU],[(.int .i64)],[dK,dK],fun x=>pH k (x.1) (x.2.1) (x.2.2)⟩
theorem Qx(k:Nat):aV Tryz.prog am 90 (BE k).aW:=bi bf Tryz.func90 (by kernel_rfl) rfl Tryz.ntmps90 (BE k) (by kernel_rfl) [JK k] (fun _=>.z) (by kernel_rfl)
noncomputable def PY(k:Nat):aF Tryz.prog am:=⟨90,BE k,Qx k⟩
noncomputable def A3(k:Nat):bU (cz×cz×Int×Int×Int×Int×Int×Int) Int where
 n:=13
 S:=fun z=>⟨[(0,.val dK (z.1)),(1,.val dK (z.2.1)),(2,.ptr 13 0)],[(13,.cells [.clos 90 [14,15]] 189),(14,.cells [jB (z.2.2.1),ft (z.2.2.2.1),ft (z.2.2.2.2.1)] 86),(15,.cells [jB (z.2.2.2.2.2.1),ft (z.2.2.2.2.2.2.1),ft (z.2.2.2.2.2.2.2)] 86)],[]⟩
 bJ:=fun z y=>⟨[],[(13,.cells [.clos 90 [14,15]] 189),(14,.cells [jB (z.2.2.1),ft (z.2.2.2.1),ft (z.2.2.2.2.1)] 86),(15,.cells [jB (z.2.2.2.2.2.1),ft (z.2.2.2.2.2.2.1),ft (z.2.2.2.2.2.2.2)] 86)],[]⟩
 ap:=fun z y=>[ax (y)]
 rel:=fun z y=>nN k (z.1) (z.2.1) (z.2.2.1) (z.2.2.2.1) (z.2.2.2.2.1) (z.2.2.2.2.2.1) (z.2.2.2.2.2.2.1) (z.2.2.2.2.2.2.2)=some y
theorem OY(k:Nat):cb Tryz.prog am 93 (A3 k):=dr Tryz.func93 (by kernel_rfl) rfl (A3 k) Tryz.ntmps93 [PY k] (fun z=>nN k (z.1) (z.2.1) (z.2.2.1) (z.2.2.2.1) (z.2.2.2.2.1) (z.2.2.2.2.2.1) (z.2.2.2.2.2.2.1) (z.2.2.2.2.2.2.2)) (fun _ _ h=>h) (fun st=>bu st [.ab 0 (.int .i64)]) [13,14,15] [] (fun _=>.z) (by kernel_rfl)
noncomputable def MC(k:Nat):cD Tryz.prog am (cz×cz×Int×Int×Int×Int×Int×Int) Int:=⟨93,A3 k,fun st=>bu st [.ab 0 dK,.ab 1 dK,.ad 14 0 (.int .i32),.ad 14 1 (.int .u32),.ad 14 2 (.int .u32),.ad 15 0 (.int .i32),.ad 15 1 (.int .u32),.ad 15 2 (.int .u32)],fun z=>nN k (z.1) (z.2.1) (z.2.2.1) (z.2.2.2.1) (z.2.2.2.2.1) (z.2.2.2.2.2.1) (z.2.2.2.2.2.2.1) (z.2.2.2.2.2.2.2),(OY k),fun _ _ h=>h⟩
noncomputable def Dg(k:Nat):bU (List aw×Int×Int×Int×Int×Int×Int) cz where
 n:=33
 S:=fun z=>⟨[(0,.val au (z.1)),(1,.clos 93 [33])],[(33,.cells [.clos 90 [34,35]] 189),(34,.cells [jB (z.2.1),ft (z.2.2.1),ft (z.2.2.2.1)] 86),(35,.cells [jB (z.2.2.2.2.1),ft (z.2.2.2.2.2.1),ft (z.2.2.2.2.2.2)] 86)],[]⟩
 bJ:=fun z y=>⟨[],[(33,.cells [.clos 90 [34,35]] 189),(34,.cells [jB (z.2.1),ft (z.2.2.1),ft (z.2.2.2.1)] 86),(35,.cells [jB (z.2.2.2.2.1),ft (z.2.2.2.2.2.1),ft (z.2.2.2.2.2.2)] 86)],[]⟩
 ap:=fun z y=>[.val dK (y)]
 rel:=fun z y=>nH k (z.1) (z.2.1) (z.2.2.1) (z.2.2.2.1) (z.2.2.2.2.1) (z.2.2.2.2.2.1) (z.2.2.2.2.2.2)=some y
theorem QP(k:Nat):cb Tryz.prog am 92 (Dg k):=dr Tryz.func92 (by kernel_rfl) rfl (Dg k) Tryz.ntmps92 [] (fun z=>nH k (z.1) (z.2.1) (z.2.2.1) (z.2.2.2.1) (z.2.2.2.2.1) (z.2.2.2.2.2.1) (z.2.2.2.2.2.2)) (fun _ _ h=>h) (fun st=>bu st [.ab 0 dK]) [33,34,35] [] (fun z=>.ae 3 (.f (.ae 4 (.bg [.ab 6 (.int .i64),.ad 5 0 (.int .i32),.ad 5 1 (.int .u32),.ad 5 2 (.int .u32)] (aB [0,1,4,5,6] [4,5,33,34,35] []) (fun n=>qk (qI k (z.1) (z.2.1) (z.2.2.1) (z.2.2.2.1) (z.2.2.2.2.1) (z.2.2.2.2.2.1) (z.2.2.2.2.2.2) n)) k fun o q=>.ae 2 (.t (.j [.ad 5 0 (.int .i32),.ad 5 1 (.int .u32),.ad 5 2 (.int .u32)] (aB [0,1,4,5,6] [4,5,33,34,35] []) (gj (tf (tX o) (q.1))) (.ae 1 (.je 6 (.ae 1 (.bI (MC k) [(33,13),(34,14),(35,15)] [(13,33),(14,34),(15,35)] (fun _=>.t (.u 0 .z)))))) (fun _=>.z))))))) (by kernel_rfl)
noncomputable def TM(k:Nat):cD Tryz.prog am (List aw×Int×Int×Int×Int×Int×Int) cz:=⟨92,Dg k,fun st=>bu st [.ab 0 au,.ad 34 0 (.int .i32),.ad 34 1 (.int .u32),.ad 34 2 (.int .u32),.ad 35 0 (.int .i32),.ad 35 1 (.int .u32),.ad 35 2 (.int .u32)],fun z=>nH k (z.1) (z.2.1) (z.2.2.1) (z.2.2.2.1) (z.2.2.2.2.1) (z.2.2.2.2.2.1) (z.2.2.2.2.2.2),(QP k),fun _ _ h=>h⟩
noncomputable def AS(k:Nat):aU:=⟨[bP,bP],[(.pair (.fn 94 (.pair (.ptr (.map (.int .i32) (.int .i32))) .unit)) .unit)],[],fun x=>tw k (x.1) (x.2)⟩
theorem Ps(k:Nat):aV Tryz.prog am 54 (AS k).aW:=bi bf Tryz.func54 (by kernel_rfl) rfl Tryz.ntmps54 (AS k) (by kernel_rfl) [] (fun x=>.ae 4 (.bg [.ab 21 (.int .i64),.mp 17 .str (.int .i64)] (aB [2,3,4,5,19,20,21] [2,3,4,17] []) (fun n=>b7 (pR k (x.2) (x.1) n)) k fun _ _=>.ae 2 (.f (.ae 3 (.bg [.ab 34 (.int .i64),.ad 2 0 (.ab .str),.ad 2 1 au,.ad 3 0 (.ab .str),.ad 3 1 au,.ad 4 0 .cy,.mp 17 .str (.int .i64),.mp 30 (.int .i32) (.int .i32)] (aB [2,3,4,5,8,32,33,34] [2,3,4,8,17,30] []) (fun n=>U9 (nu k (x.1) n)) k fun q o=>.ae 2 (.c (.ae 2 (.a dK fun L=>.ae 3 (.bg [.ab 41 (.int .i64),.ad 11 1 (.int .u32),.ad 11 2 (.int .u32)] (aB [2,3,4,5,8,10,11,32,33,34,39,40,41] [2,3,4,8,10,11,17,30] []) (fun n=>gj (pF k (o.2.1) (o.2.2.2.2.2.2.1) L (o.2.2.2.2.1) (Nw q) (o.1) (o.2.2.1) (o.2.2.2.1) (o.2.2.2.2.2.1) (o.2.2.2.2.2.2.2) n)) k fun O R=>.ae 2 (.c (.j [.ad 11 1 (.int .u32),.ad 11 2 (.int .u32)] (aB [2,3,4,5,8,10,11,32,33,34,39,40,41] [2,3,4,8,10,11,17,30] []) (b7 (vn (gH O) (R.1))) (.ae 5 (.f (.ae 1 (.je 11 (.je 11 .z))))) (fun _=>.z)) (.ae 1 (.dh [[],[0],[1],[3],[5],[1,0],[3,0],[5,0],[2,1],[3,1],[5,1],[4,3],[5,3],[2,1,0],[3,1,0],[5,1,0],[4,3,0],[5,3,0],[3,2,1],[5,2,1],[4,3,1],[5,3,1],[5,4,3],[3,2,1,0],[5,2,1,0],[4,3,1,0],[5,3,1,0],[5,4,3,0],[4,3,2,1],[5,3,2,1],[5,4,3,1],[6,5,4,3],[4,3,2,1,0],[5,3,2,1,0],[5,4,3,1,0],[6,5,4,3,0],[5,4,3,2,1],[6,5,4,3,1],[7,6,5,4,3],[5,4,3,2,1,0],[6,5,4,3,1,0],[7,6,5,4,3,0],[6,5,4,3,2,1],[7,6,5,4,3,1],[6,5,4,3,2,1,0],[7,6,5,4,3,1,0],[7,6,5,4,3,2,1],[7,6,5,4,3,2,1,0],[8,7,6,5,4,3,2,1,0]] (.bI (TM k) [(16,33),(10,34),(11,35)] [(33,16),(34,10),(35,11)] (fun _=>.z)))))))) (.ae 1 (.BD 88 87 .z)))))))) (by kernel_rfl)
noncomputable def Mn(k:Nat):aF Tryz.prog am:=⟨54,AS k,Ps k⟩
noncomputable def At(k:Nat):aU:=⟨[(.int .i32),(.ptr (.map (.int .i32) (.int .i32)))],[(.int .i32)],[(.map (.int .i32) (.int .i32))],fun x=>D9 k (x.1) (x.2)⟩
theorem Ou(k:Nat):aV Tryz.prog am 94 (At k).aW:=bi bf Tryz.func94 (by kernel_rfl) rfl Tryz.ntmps94 (At k) (by kernel_rfl) [] (fun _=>.z) (by kernel_rfl)
noncomputable def J4(k:Nat):aF Tryz.prog am:=⟨94,At k,Ou k⟩
noncomputable def CA(k:Nat):aU:=⟨[(.pair (.fn 94 (.pair (.ptr (.map (.int .i32) (.int .i32))) .unit)) .unit),bl],[.str],[],fun x=>tT k (x.1) (x.2)⟩
theorem On(k:Nat):aV Tryz.prog am 55 (CA k).aW:=bi bf Tryz.func55 (by kernel_rfl) rfl Tryz.ntmps55 (CA k) (by kernel_rfl) [J4 k] (fun x=>.ae 5 (.bg [.ab 13 (.int .i64),.rw 10 21 (.int .i32)] (aB [2,5,11,12,13] [2] [10]) (fun n=>b7 (qZ k (x.2) (x.1) n)) k fun _ _=>.ae 2 (.t (.ae 5 (.u 0 .z))))) (by kernel_rfl)
noncomputable def P7(k:Nat):aF Tryz.prog am:=⟨55,CA k,On k⟩
noncomputable def D6(k:Nat):aU:=⟨[bP,bP,.str],[.str,(.int .i64)],[],fun x=>fD k (x.1) (x.2.1) (x.2.2)⟩
theorem RZ(k:Nat):aV Tryz.prog am 24 (D6 k).aW:=F4 bf Tryz.func24 (by kernel_rfl) rfl Tryz.ntmps24 (D6 k) (by kernel_rfl) [ib k,sA k,Mn k,J4 k,P7 k] [(3,3),(4,4),(6,33),(7,32)] (fun _=>.ae 4 (.c (.ig (vC k) [(32,4),(33,5)] [(4,32),(5,33)]) (.ae 4 (.c (.ig (vC k) [(32,4),(33,5)] [(4,32),(5,33)]) (.ae 6 (.c (.ig (vC k) [(32,4),(33,5)] [(4,32),(5,33)]) (.ae 1 (.dh [[],[0],[1],[3],[5],[1,0],[3,0],[5,0],[3,1],[5,1],[5,3],[2,1,0],[3,1,0],[5,1,0],[5,3,0],[5,3,1],[3,2,1,0],[5,2,1,0],[5,3,1,0],[4,3,2,1,0],[5,3,2,1,0],[5,4,3,2,1,0],[6,4,3,2,1,0],[6,5,4,3,2,1,0],[7,6,5,4,3,2,1,0]] (.ae 2 (.ig (vC k) [(32,4),(33,5)] [(4,32),(5,33)])))))))))) (by kernel_rfl)
noncomputable def pA(k:Nat):aF Tryz.prog am:=⟨24,D6 k,RZ k⟩
noncomputable def EZ(k:Nat):aU:=⟨[.str],[.bool],[],fun x=>Is k x⟩
theorem NA(k:Nat):aV Tryz.prog am 112 (EZ k).aW:=bi bf Tryz.func112 (by kernel_rfl) rfl Tryz.ntmps112 (EZ k) (by kernel_rfl) [] (fun x=>.ae 3 (.bg [.ab 8 (.int .i64)] (aB [0,6,7,8] [] []) (zt x) k fun o q=>.ae 2 (.t (.ae 2 (.a (.int .u8) fun L=>.ae 1 (.bh 2 (.iO 6 [.ab 25 .bool] (aB [0,4,6,7,8,25] [] []) (wj o q L) (.ae 3 (.bh 2 .z)) .z (fun _=>.bh 2 .z)))))))) (by kernel_rfl)
noncomputable def PA(k:Nat):aF Tryz.prog am:=⟨112,EZ k,NA k⟩
noncomputable def Cc(k:Nat):aU:=⟨[bP,.str],[(.int .i64)],[],fun x=>kW k (x.1) (x.2)⟩
theorem S2(k:Nat):aV Tryz.prog am 57 (Cc k).aW:=bi bf Tryz.func57 (by kernel_rfl) rfl Tryz.ntmps57 (Cc k) (by kernel_rfl) [sA k] (fun _=>.z) (by kernel_rfl)
noncomputable def rr(k:Nat):aF Tryz.prog am:=⟨57,Cc k,S2 k⟩
noncomputable def JB(k:Nat):aU:=⟨[.str],[.bool],[],fun x=>B3 k x⟩
theorem Xy(k:Nat):aV Tryz.prog am 122 (JB k).aW:=BA Tryz.func122 (by kernel_rfl) rfl _ fun _=>rfl
noncomputable def La(k:Nat):aF Tryz.prog am:=⟨122,JB k,Xy k⟩
noncomputable def xu(k:Nat):aU:=⟨[.str],[(.int .i64)],[],fun x=>od k x⟩
theorem We(k:Nat):aV Tryz.prog am 140 (xu k).aW:=bi bf Tryz.func140 (by kernel_rfl) rfl Tryz.ntmps140 (xu k) (by kernel_rfl) [] (fun x=>.ae 3 (.bg [.ab 2 (.int .i64),.it 4] (aB [2,4] [4] []) (fun n=>b7 (yt x n)) k fun _ _=>.ae 1 (.c (.ae 1 (.T .z)) (.ae 1 (.F .z))))) (by kernel_rfl)
noncomputable def CI(k:Nat):aF Tryz.prog am:=⟨140,xu k,We k⟩
noncomputable def BF(k:Nat):aU:=⟨[dK,(.ptr (.int .i32))],[.bool],[(.int .i32)],fun x=>Cf k (x.1) (x.2)⟩
theorem W4(k:Nat):aV Tryz.prog am 72 (BF k).aW:=bi bf Tryz.func72 (by kernel_rfl) rfl Tryz.ntmps72 (BF k) (by kernel_rfl) [] (fun _=>.z) (by kernel_rfl)
noncomputable def GU(k:Nat):aF Tryz.prog am:=⟨72,BF k,W4 k⟩
noncomputable def D7(k:Nat):aU:=⟨[au,(.fn 72 (.pair (.ptr (.int .i32)) .unit))],[(.int .i64)],[],fun x=>sq k (x.1) (x.2)⟩
theorem NC(k:Nat):aV Tryz.prog am 71 (D7 k).aW:=bi bf Tryz.func71 (by kernel_rfl) rfl Tryz.ntmps71 (D7 k) (by kernel_rfl) [GU k] (fun x=>.ae 3 (.bg [.ab 8 (.int .i64)] (aB [0,1,7,8] [] []) (pn k (x.1) (x.2)) k fun _ _=>.z)) (by kernel_rfl)
noncomputable def Uh(k:Nat):aF Tryz.prog am:=⟨71,D7 k,NC k⟩
noncomputable def wc(k:Nat):aU:=⟨[bP,(.int .i32)],[dK,(.int .i64)],[],fun x=>fK k (x.1) (x.2)⟩
theorem SX(k:Nat):aV Tryz.prog am 35 (wc k).aW:=bi bf Tryz.func35 (by kernel_rfl) rfl Tryz.ntmps35 (wc k) (by kernel_rfl) [ib k,GU k,Uh k] (fun _=>.z) (by kernel_rfl)
noncomputable def oV(k:Nat):aF Tryz.prog am:=⟨35,wc k,SX k⟩
noncomputable def Bd(k:Nat):aU:=⟨[bP,(.pair .str (.pair .str .unit))],[(.int .i64)],[],fun x=>HW k (x.1) (x.2)⟩
theorem MP(k:Nat):aV Tryz.prog am 113 (Bd k).aW:=bi bf Tryz.func113 (by kernel_rfl) rfl Tryz.ntmps113 (Bd k) (by kernel_rfl) [ib k,La k,oV k,CI k,Dq k] (fun x=>.ae 5 (.f (.ae 2 (.g 4 (zJ k (x.2) (x.1)) .z .z (fun _=>.f (.ae 3 (.g 4 (AI k (x.2) (x.1)) .z .z (fun _=>.f (.ae 2 (.bg [.it 37] (aB [2,37] [2,37] []) (zh k (x.2) (x.1)) k fun _ _=>.ae 1 (.c (.ae 1 (.T (.ae 4 (.bh 2 .z)))) (.ae 1 (.F .z))))))))))))) (by kernel_rfl)
noncomputable def MZ(k:Nat):aF Tryz.prog am:=⟨113,Bd k,MP k⟩
noncomputable def Bh(k:Nat):aU:=⟨[bP,(.pair (.int .u8) (.pair .str (.pair .str (.pair (.int .i64) .unit))))],[.cy,.bool],[],fun x=>Jz k (x.1) (x.2)⟩
theorem Qr(k:Nat):aV Tryz.prog am 78 (Bh k).aW:=bi bf Tryz.func78 (by kernel_rfl) rfl Tryz.ntmps78 (Bh k) (by kernel_rfl) [rr k,MZ k] (fun x=>.ae 2 (.Lv 3 (Kj k (x.2) (x.1)) (fun t1=>.ae 1 (.dh [[],[0],[3],[1,0],[3,0],[4,3],[2,1,0],[3,1,0],[4,3,0],[5,4,3],[3,2,1,0],[6,2,1,0],[4,3,1,0],[5,4,3,0],[4,3,2,1,0],[6,3,2,1,0],[5,4,3,1,0],[5,4,3,2,1,0],[6,4,3,2,1,0],[6,5,4,3,2,1,0],[7,6,5,4,3,2,1,0]] (.ae 2 (.g 5 (Cq k (x.2) t1 (x.1)) .z .z (fun _=>.ae 4 (.c (.ae 3 (.F (.ae 1 (.T (.ae 2 (.bh 3 (.iO 8 [.ab 105 .bool] (aB [89,105] [] []) AJ (.ae 4 (.bh 3 .z)) .z (fun _=>.z)))))))) (.ae 1 (.c (.ae 3 (.F (.ae 1 (.T (.ae 2 (.bh 3 (.iO 8 [.ab 105 .bool] (aB [89,105] [] []) Dw (.ae 4 (.bh 3 .z)) .z (fun _=>.z)))))))) (.ae 1 (.c (.ae 3 (.F (.ae 1 (.T (.ae 2 (.bh 3 (.iO 8 [.ab 105 .bool] (aB [89,105] [] []) D1 (.ae 4 (.bh 3 .z)) .z (fun _=>.z)))))))) (.ae 1 (.c (.ae 3 (.F (.ae 1 (.F (.ae 1 (.T (.ae 2 (.bh 1 (.bh 3 .z))))))))) (.ae 1 (.c (.ae 5 (.F (.ae 1 (.F (.ae 1 (.F (.ae 1 (.T (.ae 3 (.bh 3 (.bh 3 .z))))))))))) (.ae 1 (.c (.ae 3 (.F (.ae 1 (.F (.ae 1 (.F (.ae 1 (.F (.ae 1 (.T (.ae 3 (.bh 3 (.bh 3 .z))))))))))))) (.ae 3 (.T .z)))))))))))))))))))) (by kernel_rfl)
noncomputable def Vp(k:Nat):aF Tryz.prog am:=⟨78,Bh k,Qr k⟩
noncomputable def C6(k:Nat):aU:=⟨[bP,r4],[(.int .i64)],[],fun x=>F1 k (x.1) (x.2)⟩
theorem NM(k:Nat):aV Tryz.prog am 77 (C6 k).aW:=bi bf Tryz.func77 (by kernel_rfl) rfl Tryz.ntmps77 (C6 k) (by kernel_rfl) [ib k,PA k,Vp k] (fun x=>.ae 5 (.f (.ae 3 (.bh 4 (.bh 4 (.f (.ae 2 (.bg [.ab 36 (.int .i64),.ad 2 0 (.ab .str),.ad 2 1 au] (aB [2,34,35,36] [2] []) (fun n=>gj (y8 k (x.2) n)) k fun q o=>.ae 2 (.t (.ae 2 (.a (.pair (.int .u64) (.pair (.ab (.pair (.int .u8) (.pair .str (.pair .str (.pair (.int .i64) .unit))))) .unit)) fun L=>.ae 2 (.f (.ae 1 (.bg [.ab 47 (.int .i64)] (aB [2,34,35,36,45,46,47] [2] []) (wh k L (o.2.1) (o.2.2) (gH q) (o.1)) k fun _ _=>.z)))))))))))))) (by kernel_rfl)
noncomputable def Ru(k:Nat):aF Tryz.prog am:=⟨77,C6 k,NM k⟩
noncomputable def BG(k:Nat):aU:=⟨[ki,(.pair .str (.pair (.int .i64) (.pair .str (.pair (.int .i64) .unit))))],[(.int .i64)],[],fun x=>Fk k (x.1) (x.2)⟩
theorem WW(k:Nat):aV Tryz.prog am 96 (BG k).aW:=bi bf Tryz.func96 (by kernel_rfl) rfl Tryz.ntmps96 (BG k) (by kernel_rfl) [rr k,La k] (fun x=>.ae 5 (.f (.ae 2 (.bh 6 (.f (.ae 2 (.g 4 (AF (x.2)) .z .z (fun _=>.bh 3 (.bh 3 .z))))))))) (by kernel_rfl)
noncomputable def LW(k:Nat):aF Tryz.prog am:=⟨96,BG k,WW k⟩
end Go.Ev
