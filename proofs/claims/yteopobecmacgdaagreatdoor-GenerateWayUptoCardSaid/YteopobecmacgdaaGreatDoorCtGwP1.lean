/- Contracts, by program. -/
import Derived.Test.YteopobecmacgdaaGreatDoorProg
import Derived.Test.YteopobecmacgdaaGreatDoorMM6
import Derived.Test.YteopobecmacgdaaGreatDoorMM8
import Derived.KernelRfl
import Derived.Test.YteopobecmacgdaaGreatDoorTyA
set_option linter.unusedSectionVars false
set_option linter.unusedVariables false
set_option linter.unusedSimpArgs false
namespace Go.Ev
open Go Go.Proofs
set_option linter.unusedVariables false
set_option maxRecDepth 100000
noncomputable def Em(k:Nat):aX:=⟨[],[js],[],fun _=>Ho k⟩
theorem Wg(k:Nat):a8 Tryz.prog aq 37 (Em k).aW:=bp bl Tryz.func37 (by kernel_rfl) rfl Tryz.ntmps37 (Em k) (by kernel_rfl) [] (fun _=>.z) (by kernel_rfl)
noncomputable def TD(k:Nat):aL Tryz.prog aq:=⟨37,Em k,Wg k⟩
noncomputable def E2(k:Nat):aX:=⟨[.str,(.int .u8)],[.str],[],fun x=>Li k (x.1) (x.2)⟩
theorem PW(k:Nat):a8 Tryz.prog aq 149 (E2 k).aW:=bp bl Tryz.func149 (by kernel_rfl) rfl Tryz.ntmps149 (E2 k) (by kernel_rfl) [] (fun x=>.aj 2 (.bJ [.ab 0 .str] (aZ [0,1] [] []) (ET (x.2)) k fun o q=>.aj 2 (.g 7 (D9 q o) .z .z (fun _=>.z)))) (by kernel_rfl)
noncomputable def Rz(k:Nat):aL Tryz.prog aq:=⟨149,E2 k,PW k⟩
noncomputable def F4(k:Nat):aX:=⟨[.str,(.int .u8)],[.str],[],fun x=>Gb k (x.1) (x.2)⟩
theorem W5(k:Nat):a8 Tryz.prog aq 148 (F4 k).aW:=bp bl Tryz.func148 (by kernel_rfl) rfl Tryz.ntmps148 (F4 k) (by kernel_rfl) [] (fun x=>.aj 2 (.bJ [.ab 0 .str] (aZ [0,1] [] []) (Co (x.2)) k fun o q=>.aj 2 (.g 4 (DK q o) .z .z (fun _=>.z)))) (by kernel_rfl)
noncomputable def OH(k:Nat):aL Tryz.prog aq:=⟨148,F4 k,W5 k⟩
noncomputable def E9(k:Nat):aX:=⟨[.str],[(.arr 256 .bool),.bool],[],fun x=>rK k x⟩
theorem QB(k:Nat):a8 Tryz.prog aq 150 (E9 k).aW:=bp bl Tryz.func150 (by kernel_rfl) rfl Tryz.ntmps150 (E9 k) (by kernel_rfl) [] (fun x=>.aj 3 (.bJ [.ab 4 (.int .i64),.zG 2 (.arr 256 .bool)] (aZ [0,2,4] [2] []) (fun n=>cU (Bp x n)) k fun _ _=>.z)) (by kernel_rfl)
noncomputable def WC(k:Nat):aL Tryz.prog aq:=⟨150,E9 k,QB k⟩
noncomputable def AU(k:Nat):aX:=⟨[(.ptr (.arr 256 .bool)),(.int .u8)],[.bool],[],fun x=>pG k (x.1) (x.2)⟩
theorem ON(k:Nat):a8 Tryz.prog aq 187 (AU k).aW:=bp bl Tryz.func187 (by kernel_rfl) rfl Tryz.ntmps187 (AU k) (by kernel_rfl) [] (fun _=>.z) (by kernel_rfl)
noncomputable def MB(k:Nat):aL Tryz.prog aq:=⟨187,AU k,ON k⟩
noncomputable def C0(k:Nat):aX:=⟨[.str,(.ptr (.arr 256 .bool))],[.str],[],fun x=>wz k (x.1) (x.2)⟩
theorem WG(k:Nat):a8 Tryz.prog aq 152 (C0 k).aW:=bp bl Tryz.func152 (by kernel_rfl) rfl Tryz.ntmps152 (C0 k) (by kernel_rfl) [MB k] (fun x=>.aj 1 (.j [.ab 0 .str] (aZ [0] [] []) tX (.bJ [.ab 0 .str] (aZ [0,1] [] []) (oN k (x.2)) k fun _ _=>.z) (fun _=>.z))) (by kernel_rfl)
noncomputable def Vt(k:Nat):aL Tryz.prog aq:=⟨152,C0 k,WG k⟩
noncomputable def Cj(k:Nat):aX:=⟨[.str,(.ptr (.arr 256 .bool))],[.str],[],fun x=>yi k (x.1) (x.2)⟩
theorem Un(k:Nat):a8 Tryz.prog aq 151 (Cj k).aW:=bp bl Tryz.func151 (by kernel_rfl) rfl Tryz.ntmps151 (Cj k) (by kernel_rfl) [MB k] (fun x=>.aj 1 (.j [.ab 0 .str] (aZ [0] [] []) uD (.bJ [.ab 0 .str] (aZ [0,1] [] []) (oD k (x.2)) k fun _ _=>.z) (fun _=>.z))) (by kernel_rfl)
noncomputable def QC(k:Nat):aL Tryz.prog aq:=⟨151,Cj k,Un k⟩
noncomputable def Hx(k:Nat):aX:=⟨[.str,.str],[.str],[],fun x=>Ln k (x.1) (x.2)⟩
theorem TA(k:Nat):a8 Tryz.prog aq 154 (Hx k).aW:=Gg Tryz.func154 (by kernel_rfl) rfl _ fun _=>rfl
noncomputable def N4(k:Nat):aL Tryz.prog aq:=⟨154,Hx k,TA k⟩
noncomputable def GD(k:Nat):aX:=⟨[.str,.str],[.str],[],fun x=>He k (x.1) (x.2)⟩
theorem Va(k:Nat):a8 Tryz.prog aq 153 (GD k).aW:=Gg Tryz.func153 (by kernel_rfl) rfl _ fun _=>rfl
noncomputable def Vi(k:Nat):aL Tryz.prog aq:=⟨153,GD k,Va k⟩
noncomputable def Dv(k:Nat):aX:=⟨[.str,.str],[.str],[],fun x=>nP k (x.1) (x.2)⟩
theorem VA(k:Nat):a8 Tryz.prog aq 119 (Dv k).aW:=bp bl Tryz.func119 (by kernel_rfl) rfl Tryz.ntmps119 (Dv k) (by kernel_rfl) [Rz k,OH k,WC k,Vt k,QC k,N4 k,Vi k] (fun x=>.aj 3 (.bX 2 (.f (.aj 2 (.g 3 (s5 k (x.2) (x.1)) .z .z (fun _=>.z)))))) (by kernel_rfl)
noncomputable def DS(k:Nat):aL Tryz.prog aq:=⟨119,Dv k,VA k⟩
noncomputable def Bo(k:Nat):aX:=⟨[.str],[.bool],[],fun x=>qk k x⟩
theorem Tu(k:Nat):a8 Tryz.prog aq 87 (Bo k).aW:=bp bl Tryz.func87 (by kernel_rfl) rfl Tryz.ntmps87 (Bo k) (by kernel_rfl) [DS k] (fun _=>.aj 2 (.bX 3 (.g 3 wn .z .z (fun _=>.z)))) (by kernel_rfl)
noncomputable def Us(k:Nat):aL Tryz.prog aq:=⟨87,Bo k,Tu k⟩
noncomputable def Bs(k:Nat):aX:=⟨[(.int .i32)],[.bool],[],fun x=>rB k x⟩
theorem Xv(k:Nat):a8 Tryz.prog aq 88 (Bs k).aW:=bp bl Tryz.func88 (by kernel_rfl) rfl Tryz.ntmps88 (Bs k) (by kernel_rfl) [] (fun x=>.aj 2 (.j [.ab 3 .bool] (aZ [0,3] [] []) (ui x) (.aj 1 (.bX 2 (.f (.bX 2 .z)))) (fun _=>.f (.j [.ab 16 .bool] (aZ [16] [] []) pJ .z (fun _=>.z))))) (by kernel_rfl)
noncomputable def V0(k:Nat):aL Tryz.prog aq:=⟨88,Bs k,Xv k⟩
noncomputable def F3(k:Nat):aX:=⟨[cH,(.int .u32),(.int .u32)],[.bool],[],fun x=>kD k (x.1) (x.2.1) (x.2.2)⟩
theorem S2(k:Nat):a8 Tryz.prog aq 89 (F3 k).aW:=bp bl Tryz.func89 (by kernel_rfl) rfl Tryz.ntmps89 (F3 k) (by kernel_rfl) [] (fun _=>.aj 2 (.bX 4 .z)) (by kernel_rfl)
noncomputable def xF(k:Nat):aL Tryz.prog aq:=⟨89,F3 k,S2 k⟩
noncomputable def B8(k:Nat):aX:=⟨[cH],[(.int .i64)],[],fun x=>eP k x⟩
theorem Ut(k:Nat):a8 Tryz.prog aq 53 (B8 k).aW:=bp bl Tryz.func53 (by kernel_rfl) rfl Tryz.ntmps53 (B8 k) (by kernel_rfl) [Us k,V0 k,xF k] (fun x=>.aj 3 (.bX 4 (.bX 4 (.f (.aj 3 (.bJ [.ab 29 (.int .i64),.mp 25 .str .bool] (aZ [1,3,27,28,29] [1,25] []) (fun n=>cU (oP k x n)) k fun _ _=>.aj 2 (.c (.aj 6 (.bX 3 .z)) (.aj 3 (.bJ [.ab 48 (.int .i64),.mp 44 (.int .i32) .bool] (aZ [1,6,46,47,48] [1,44] []) (fun n=>cU (kW k x n)) k fun q o=>.aj 2 (.t (.aj 2 (.a eR fun O=>.aj 3 (.bX 4 (.g 7 (ru (fy q) (o.1) (o.2) O) .z .z (fun _=>.z))))))))))))))) (by kernel_rfl)
noncomputable def kq(k:Nat):aL Tryz.prog aq:=⟨53,B8 k,Ut k⟩
noncomputable def FE(k:Nat):aX:=⟨[.str],[.bool],[],fun x=>yp k x⟩
theorem HK(k:Nat):a8 Tryz.prog aq 112 (FE k).aW:=bp bl Tryz.func112 (by kernel_rfl) rfl Tryz.ntmps112 (FE k) (by kernel_rfl) [] (fun x=>.aj 3 (.bJ [.ab 8 (.int .i64)] (aZ [0,6,7,8] [] []) (uJ x) k fun o q=>.aj 2 (.t (.aj 2 (.a (.int .u8) fun O=>.aj 1 (.bX 2 (.iG 6 [.ab 25 .bool] (aZ [0,4,6,7,8,25] [] []) (yU o q O) (.aj 3 (.bX 2 .z)) .z (fun _=>.bX 2 .z)))))))) (by kernel_rfl)
noncomputable def Yf(k:Nat):aL Tryz.prog aq:=⟨112,FE k,HK k⟩
noncomputable def Mz(k:Nat):aX:=⟨[.str],[.bool],[],fun x=>zI k x⟩
theorem P4(k:Nat):a8 Tryz.prog aq 112 (Mz k).aW:=Hb (d:=[.str]) (c:=[.bool]) (fn:=fun n x=>yp n x) (fun n=>HK n) fun x=>k+List.length x
noncomputable def Vz(k:Nat):aL Tryz.prog aq:=⟨112,Mz k,P4 k⟩
noncomputable def Fc(k:Nat):aX:=⟨[cH],[(.map (.int .i32) (.int .i64)),(.int .i64)],[],fun x=>wV k x⟩
theorem P6(k:Nat):a8 Tryz.prog aq 69 (Fc k).aW:=bp bl Tryz.func69 (by kernel_rfl) rfl Tryz.ntmps69 (Fc k) (by kernel_rfl) [kq k] (fun x=>.aj 5 (.f (.aj 3 (.bJ [.ab 20 (.int .i64),.mp 16 (.int .i32) (.int .i64)] (aZ [5,18,19,20] [16] []) (fun n=>cU (nl x n)) k fun _ _=>.z)))) (by kernel_rfl)
noncomputable def UU(k:Nat):aL Tryz.prog aq:=⟨69,Fc k,P6 k⟩
noncomputable def B5(k:Nat):aX:=⟨[.str],[(.int .i64)],[],fun x=>y2 k x⟩
theorem VI(k:Nat):a8 Tryz.prog aq 135 (B5 k).aW:=bp bl Tryz.func135 (by kernel_rfl) rfl Tryz.ntmps135 (B5 k) (by kernel_rfl) [] (fun _=>.z) (by kernel_rfl)
noncomputable def Ss(k:Nat):aL Tryz.prog aq:=⟨135,B5 k,VI k⟩
noncomputable def AO(k:Nat):aX:=⟨[(.int .i32)],[(.int .i64)],[],fun x=>vO k x⟩
theorem Tp(k:Nat):a8 Tryz.prog aq 180 (AO k).aW:=bp bl Tryz.func180 (by kernel_rfl) rfl Tryz.ntmps180 (AO k) (by kernel_rfl) [] (fun _=>.aj 3 (.f (.aj 1 (.f (.aj 1 (.f (.aj 1 (.bX 2 .z)))))))) (by kernel_rfl)
noncomputable def WQ(k:Nat):aL Tryz.prog aq:=⟨180,AO k,Tp k⟩
noncomputable def Bt(k:Nat):cY (kF×List fS) (Bool×List fS) where
 n:=8
 S:=fun z=>⟨[(0,.val iZ (z.1)),(1,.ptr 8 0)],[(8,.cells [.row 9] 204)],[(9,⟨208,iZ,(z.2)⟩)]⟩
 bq:=fun z y=>⟨[],[(8,.cells [.row 9] 204)],[(9,⟨208,iZ,(y.2)⟩)]⟩
 au:=fun z y=>[aO (y.1)]
 rel:=fun z y=>rQ k (z.1) (z.2)=some y
theorem Xx(k:Nat):dc Tryz.prog aq 137 (Bt k):=fQ Tryz.func137 (by kernel_rfl) rfl (Bt k) Tryz.ntmps137 [] (fun z=>rQ k (z.1) (z.2)) (fun _ _ h=>h) (fun st=>cF st [.ab 0 .bool,.rw 9 208 iZ]) [8] [9] (fun _=>.z) (by kernel_rfl)
noncomputable def QF(k:Nat):dM Tryz.prog aq (kF×List fS) (Bool×List fS):=⟨137,Bt k,fun st=>cF st [.ab 0 iZ,.rw 9 208 iZ],fun z=>rQ k (z.1) (z.2),(Xx k),fun _ _ h=>h⟩
noncomputable def Fa(k:Nat):cY (List UInt8×List fS) kf where
 n:=37
 S:=fun z=>⟨[(0,aN (z.1)),(1,.clos 137 [37])],[(37,.cells [.row 38] 204)],[(38,⟨208,iZ,(z.2)⟩)]⟩
 bq:=fun z y=>⟨[],[(37,.cells [.row 38] 204)],[(38,⟨208,iZ,(y)⟩)]⟩
 au:=fun z y=>[]
 rel:=fun z y=>rF k (z.1) (z.2)=some y
theorem Xq(k:Nat):dc Tryz.prog aq 136 (Fa k):=fQ Tryz.func136 (by kernel_rfl) rfl (Fa k) Tryz.ntmps136 [WQ k,Bb k] (fun z=>rF k (z.1) (z.2)) (fun _ _ h=>h) (fun st=>cF st [.rw 38 208 iZ]) [37] [38] (fun z=>.aj 1 (.bJ [.it 10,.rw 38 208 iZ] (aZ [0,1,10] [10,37] [38]) (fun n=>cU (mf k (z.1) n)) k fun q o=>.aj 1 (.c (.aj 1 (.T (.aj 3 (.j [.ad 6 2 (.int .i64),.ad 6 3 .bool] (aZ [0,1,6,10] [6,10,37] [38]) (cU (nU k (z.1) (o.1) (o.2) (fy q))) .z (fun _=>.aj 1 (.cP (QF k) [(37,8),(38,9)] [(8,37),(9,38)] (fun _=>.z))))))) (.aj 1 (.F .z))))) (by kernel_rfl)
noncomputable def Se(k:Nat):dM Tryz.prog aq (List UInt8×List fS) kf:=⟨136,Fa k,fun st=>cF st [.ab 0 .str,.rw 38 208 iZ],fun z=>rF k (z.1) (z.2),(Xq k),fun _ _ h=>h⟩
noncomputable def EX(k:Nat):aX:=⟨[.str],[(.ab iZ),(.int .i64)],[],fun x=>sT k x⟩
theorem R6(k:Nat):a8 Tryz.prog aq 108 (EX k).aW:=bp bl Tryz.func108 (by kernel_rfl) rfl Tryz.ntmps108 (EX k) (by kernel_rfl) [Ss k] (fun _=>.aj 6 (.f (.aj 2 (.cP (Se k) [(5,37),(1000005,38)] [(37,5),(38,1000005)] (fun _=>.z))))) (by kernel_rfl)
noncomputable def Ob(k:Nat):aL Tryz.prog aq:=⟨108,EX k,R6 k⟩
noncomputable def Ar(k:Nat):aX:=⟨[(.map (.int .i32) (.int .i64)),.str],[bg,(.int .i64)],[],fun x=>nd k (x.1) (x.2)⟩
theorem Qj(k:Nat):a8 Tryz.prog aq 70 (Ar k).aW:=bp bl Tryz.func70 (by kernel_rfl) rfl Tryz.ntmps70 (Ar k) (by kernel_rfl) [Ob k] (fun x=>.aj 2 (.j [.ab 1 .str] (aZ [0,1] [] []) (qT k (x.1)) .z (fun _=>.aj 1 (.ac [(.ab iZ),(.int .i64)] fun v1=>.aj 2 (.f (.aj 4 (.bJ [.ab 28 (.int .i64),.rw 8 21 (.int .i32)] (aZ [0,8,26,27,28] [] [8]) (fun n=>cU (ni v1 (x.1) n)) k fun _ _=>.z))))))) (by kernel_rfl)
noncomputable def Qu(k:Nat):aL Tryz.prog aq:=⟨70,Ar k,Qj k⟩
noncomputable def Dj(k:Nat):aX:=⟨[cH,.str],[bg,(.int .i64)],[],fun x=>jO k (x.1) (x.2)⟩
theorem UB(k:Nat):a8 Tryz.prog aq 34 (Dj k).aW:=bp bl Tryz.func34 (by kernel_rfl) rfl Tryz.ntmps34 (Dj k) (by kernel_rfl) [UU k,Qu k] (fun _=>.z) (by kernel_rfl)
noncomputable def xu(k:Nat):aL Tryz.prog aq:=⟨34,Dj k,UB k⟩
noncomputable def Cg(k:Nat):aX:=⟨[cH,.str],[(.int .i64)],[],fun x=>kS k (x.1) (x.2)⟩
theorem Tv(k:Nat):a8 Tryz.prog aq 57 (Cg k).aW:=bp bl Tryz.func57 (by kernel_rfl) rfl Tryz.ntmps57 (Cg k) (by kernel_rfl) [xu k] (fun _=>.z) (by kernel_rfl)
noncomputable def IN(k:Nat):aL Tryz.prog aq:=⟨57,Cg k,Tv k⟩
noncomputable def Df(k:Nat):aX:=⟨[.str],[(.int .i64)],[],fun x=>uu k x⟩
theorem Io(k:Nat):a8 Tryz.prog aq 140 (Df k).aW:=bp bl Tryz.func140 (by kernel_rfl) rfl Tryz.ntmps140 (Df k) (by kernel_rfl) [] (fun x=>.aj 3 (.bJ [.ab 2 (.int .i64),.it 4] (aZ [2,4] [4] []) (fun n=>cU (o5 x n)) k fun _ _=>.aj 1 (.c (.aj 1 (.T .z)) (.aj 1 (.F .z))))) (by kernel_rfl)
noncomputable def X6(k:Nat):aL Tryz.prog aq:=⟨140,Df k,Io k⟩
noncomputable def G7(k:Nat):aX:=⟨[.str],[(.int .i64)],[],fun x=>jV k x⟩
theorem Qn(k:Nat):a8 Tryz.prog aq 140 (G7 k).aW:=Hb (d:=[.str]) (c:=[(.int .i64)]) (fn:=fun n x=>uu n x) (fun n=>Io n) fun x=>k+List.length x
noncomputable def Ea(k:Nat):aL Tryz.prog aq:=⟨140,G7 k,Qn k⟩
noncomputable def En(k:Nat):aX:=⟨[eR,(.ptr (.int .i32))],[.bool],[(.int .i32)],fun x=>FS k (x.1) (x.2)⟩
theorem S7(k:Nat):a8 Tryz.prog aq 72 (En k).aW:=bp bl Tryz.func72 (by kernel_rfl) rfl Tryz.ntmps72 (En k) (by kernel_rfl) [] (fun _=>.z) (by kernel_rfl)
noncomputable def F6(k:Nat):aL Tryz.prog aq:=⟨72,En k,S7 k⟩
noncomputable def CM(k:Nat):aX:=⟨[ax,(.fn 72 (.pair (.ptr (.int .i32)) .unit))],[(.int .i64)],[],fun x=>zv k (x.1) (x.2)⟩
theorem P5(k:Nat):a8 Tryz.prog aq 71 (CM k).aW:=bp bl Tryz.func71 (by kernel_rfl) rfl Tryz.ntmps71 (CM k) (by kernel_rfl) [F6 k] (fun x=>.aj 3 (.bJ [.ab 8 (.int .i64)] (aZ [0,1,7,8] [] []) (uj k (x.1) (x.2)) k fun _ _=>.z)) (by kernel_rfl)
noncomputable def SB(k:Nat):aL Tryz.prog aq:=⟨71,CM k,P5 k⟩
noncomputable def Fp(k:Nat):aX:=⟨[cH,(.int .i32)],[eR,(.int .i64)],[],fun x=>pB k (x.1) (x.2)⟩
theorem UV(k:Nat):a8 Tryz.prog aq 35 (Fp k).aW:=bp bl Tryz.func35 (by kernel_rfl) rfl Tryz.ntmps35 (Fp k) (by kernel_rfl) [kq k,F6 k,SB k] (fun _=>.z) (by kernel_rfl)
noncomputable def yE(k:Nat):aL Tryz.prog aq:=⟨35,Fp k,UV k⟩
noncomputable def D6(k:Nat):aX:=⟨[cH,(.pair .str (.pair .str .unit))],[(.int .i64)],[],fun x=>qP k (x.1) (x.2)⟩
theorem Oi(k:Nat):a8 Tryz.prog aq 113 (D6 k).aW:=bp bl Tryz.func113 (by kernel_rfl) rfl Tryz.ntmps113 (D6 k) (by kernel_rfl) [kq k,MV k,yE k,Ea k,DS k] (fun x=>.aj 5 (.f (.aj 2 (.g 4 (oZ k (x.2) (x.1)) .z .z (fun _=>.f (.aj 3 (.g 4 (qt k (x.2) (x.1)) .z .z (fun _=>.f (.aj 2 (.bJ [.it 37] (aZ [2,37] [2,37] []) (ug k (x.2) (x.1)) k fun _ _=>.aj 1 (.c (.aj 1 (.T (.aj 4 (.bX 2 .z)))) (.aj 1 (.F .z))))))))))))) (by kernel_rfl)
noncomputable def Uu(k:Nat):aL Tryz.prog aq:=⟨113,D6 k,Oi k⟩
noncomputable def EO(k:Nat):aX:=⟨[cH,xO],[(.alt 214 (.pair bg nC) (.alt 216 xg (.alt 218 nC (.alt 223 iN .ck)))),.bool],[],fun x=>jb k (x.1) (x.2)⟩
theorem PC(k:Nat):a8 Tryz.prog aq 78 (EO k).aW:=bp bl Tryz.func78 (by kernel_rfl) rfl Tryz.ntmps78 (EO k) (by kernel_rfl) [IN k,Uu k] (fun x=>.aj 2 (.MU 3 (yR k (x.1) (x.2)) (fun t1=>.aj 1 (.dl [[],[0],[3],[1,0],[3,0],[4,3],[2,1,0],[3,1,0],[4,3,0],[5,4,3],[3,2,1,0],[6,2,1,0],[4,3,1,0],[5,4,3,0],[4,3,2,1,0],[6,3,2,1,0],[5,4,3,1,0],[5,4,3,2,1,0],[6,4,3,2,1,0],[6,5,4,3,2,1,0],[7,6,5,4,3,2,1,0]] (.aj 2 (.g 5 (oB k (x.2) t1 (x.1)) .z .z (fun _=>.aj 4 (.c (.aj 3 (.F (.aj 1 (.T (.aj 2 (.bX 3 (.iG 8 [.ab 105 .bool] (aZ [89,105] [] []) (tv (x.2)) (.aj 4 (.bX 3 .z)) .z (fun _=>.z)))))))) (.aj 1 (.c (.aj 3 (.F (.aj 1 (.T (.aj 2 (.bX 3 (.iG 8 [.ab 105 .bool] (aZ [89,105] [] []) (u6 (x.2)) (.aj 4 (.bX 3 .z)) .z (fun _=>.z)))))))) (.aj 1 (.c (.aj 3 (.F (.aj 1 (.T (.aj 2 (.bX 3 (.iG 8 [.ab 105 .bool] (aZ [89,105] [] []) (tY (x.2)) (.aj 4 (.bX 3 .z)) .z (fun _=>.z)))))))) (.aj 1 (.c (.aj 3 (.F (.aj 1 (.F (.aj 1 (.T (.aj 2 (.bX 1 (.bX 3 .z))))))))) (.aj 1 (.c (.aj 5 (.F (.aj 1 (.F (.aj 1 (.F (.aj 1 (.T (.aj 3 (.bX 3 (.bX 3 .z))))))))))) (.aj 1 (.c (.aj 3 (.F (.aj 1 (.F (.aj 1 (.F (.aj 1 (.F (.aj 1 (.T (.aj 3 (.bX 3 (.bX 3 .z))))))))))))) (.aj 3 (.T .z)))))))))))))))))))) (by kernel_rfl)
noncomputable def Jb(k:Nat):aL Tryz.prog aq:=⟨78,EO k,PC k⟩
noncomputable def Cy(k:Nat):aX:=⟨[cH,rG],[(.int .i64)],[],fun x=>pw k (x.1) (x.2)⟩
theorem Vo(k:Nat):a8 Tryz.prog aq 77 (Cy k).aW:=bp bl Tryz.func77 (by kernel_rfl) rfl Tryz.ntmps77 (Cy k) (by kernel_rfl) [kq k,Vz k,Jb k] (fun x=>.aj 5 (.f (.aj 3 (.bX 4 (.bX 4 (.f (.aj 2 (.bJ [.ab 36 (.int .i64),.ad 2 0 (.ab .str),.ad 2 1 ax] (aZ [2,34,35,36] [2] []) (fun n=>qR (mh k (x.2) n)) k fun q o=>.aj 2 (.t (.aj 2 (.a (.pair (.int .u64) (.pair (.ab xO) .unit)) fun O=>.aj 2 (.f (.aj 1 (.bJ [.ab 47 (.int .i64)] (aZ [2,34,35,36,45,46,47] [2] []) (pn k O (o.2.1) (o.2.2) (nI q) (o.1)) k fun _ _=>.z)))))))))))))) (by kernel_rfl)
noncomputable def Mf(k:Nat):aL Tryz.prog aq:=⟨77,Cy k,Vo k⟩
noncomputable def Dm(k:Nat):aX:=⟨[js,tT],[(.int .i64)],[],fun x=>yY k (x.1) (x.2)⟩
theorem Uh(k:Nat):a8 Tryz.prog aq 96 (Dm k).aW:=bp bl Tryz.func96 (by kernel_rfl) rfl Tryz.ntmps96 (Dm k) (by kernel_rfl) [IN k,MV k] (fun x=>.aj 5 (.f (.aj 2 (.bX 6 (.f (.aj 2 (.g 4 (tF (x.2)) .z .z (fun _=>.bX 3 (.bX 3 .z))))))))) (by kernel_rfl)
noncomputable def QW(k:Nat):aL Tryz.prog aq:=⟨96,Dm k,Uh k⟩
noncomputable def AH(k:Nat):aX:=⟨[.str],[.bool],[],fun x=>yS k x⟩
theorem Wh(k:Nat):a8 Tryz.prog aq 143 (AH k).aW:=bp bl Tryz.func143 (by kernel_rfl) rfl Tryz.ntmps143 (AH k) (by kernel_rfl) [DS k] (fun _=>.aj 2 (.g 3 EK .z .z (fun _=>.z))) (by kernel_rfl)
noncomputable def TH(k:Nat):aL Tryz.prog aq:=⟨143,AH k,Wh k⟩
noncomputable def CU(k:Nat):aX:=⟨[cH,(.int .i32)],[.bool],[],fun x=>rU k (x.1) (x.2)⟩
theorem Pg(k:Nat):a8 Tryz.prog aq 159 (CU k).aW:=bp bl Tryz.func159 (by kernel_rfl) rfl Tryz.ntmps159 (CU k) (by kernel_rfl) [yE k] (fun _=>.z) (by kernel_rfl)
noncomputable def DJ(k:Nat):aL Tryz.prog aq:=⟨159,CU k,Pg k⟩
noncomputable def AA(k:Nat):cY (List UInt8×List (Int)) (Option (Option (Nat×Int))×Int×List (Int)) where
 n:=19
 S:=fun z=>⟨[(0,.ptr 19 0),(1,aN (z.1))],[(19,.cells [.fp 19,.row 20] 319)],[(20,⟨5,(.int .u8),(z.2)⟩)]⟩
 bq:=fun z y=>⟨[],[(19,.cells [.fp 19,.row 20] 319)],[(20,⟨5,(.int .u8),(y.2.2)⟩)]⟩
 au:=fun z y=>[ay (y.2.1),.val .err (y.1)]
 rel:=fun z y=>pq k (z.1) (z.2)=some y
theorem V7(k:Nat):dc Tryz.prog aq 199 (AA k):=fQ Tryz.func199 (by kernel_rfl) rfl (AA k) Tryz.ntmps199 [] (fun z=>pq k (z.1) (z.2)) (fun _ _ h=>h) (fun st=>cF st [.ab 1 .err,.ab 0 (.int .i64),.rw 20 5 (.int .u8)]) [19] [20] (fun _=>.aj 2 (.cP (Rs k) [(19,20),(20,21)] [(20,19),(21,20)] (fun _=>.z))) (by kernel_rfl)
noncomputable def Iu(k:Nat):dM Tryz.prog aq (List UInt8×List (Int)) (Option (Option (Nat×Int))×Int×List (Int)):=⟨199,AA k,fun st=>cF st [.ab 1 .str,.rw 20 5 (.int .u8)],fun z=>pq k (z.1) (z.2),(V7 k),fun _ _ h=>h⟩
noncomputable def BS(k:Nat):aX:=⟨[cH,(.int .u32),(.int .u32)],[.str,(.int .i64)],[],fun x=>tr k (x.1) (x.2.1) (x.2.2)⟩
theorem WE(k:Nat):a8 Tryz.prog aq 183 (BS k).aW:=bp bl Tryz.func183 (by kernel_rfl) rfl Tryz.ntmps183 (BS k) (by kernel_rfl) [kq k,xF k] (fun x=>.aj 5 (.f (.aj 3 (.f (.aj 3 (.bJ [.ab 25 (.int .i64),.rw 1000009 5 (.int .u8)] (aZ [1,2,9,23,24,25] [9] [1000009]) (fun n=>cU (qe k (x.1) (x.2.1) (x.2.2) n)) k fun o q=>.aj 2 (.c (.j [.rw 1000009 5 (.int .u8)] (aZ [1,2,9,23,24,25] [9] [1000009]) (oE (fy o) (q.1)) (.aj 3 (.c (.cP (Iu k) [(9,19),(1000009,20)] [(19,9),(20,1000009)] (fun _=>.z)) (.aj 1 (.t (.cP (Iu k) [(9,19),(1000009,20)] [(19,9),(20,1000009)] (fun _=>.z)))))) (fun _=>.z)) (.aj 1 (.cP (Sr k) [(9,14),(1000009,15)] [] (fun _=>.z)))))))))) (by kernel_rfl)
noncomputable def Mo(k:Nat):aL Tryz.prog aq:=⟨183,BS k,WE k⟩
noncomputable def Fl(k:Nat):aX:=⟨[cH,(.int .u32),(.int .u32)],[.bool],[],fun x=>xV k (x.1) (x.2.1) (x.2.2)⟩
theorem OD(k:Nat):a8 Tryz.prog aq 181 (Fl k).aW:=bp bl Tryz.func181 (by kernel_rfl) rfl Tryz.ntmps181 (Fl k) (by kernel_rfl) [Mo k] (fun _=>.z) (by kernel_rfl)
noncomputable def Wb(k:Nat):aL Tryz.prog aq:=⟨181,Fl k,OD k⟩
noncomputable def Dy(k:Nat):aX:=⟨[cH,(.int .i32),(.int .u32),(.int .u32)],[.bool],[],fun x=>vH k (x.1) (x.2.1) (x.2.2.1) (x.2.2.2)⟩
theorem QP(k:Nat):a8 Tryz.prog aq 144 (Dy k).aW:=bp bl Tryz.func144 (by kernel_rfl) rfl Tryz.ntmps144 (Dy k) (by kernel_rfl) [DJ k,Wb k] (fun _=>.aj 3 (.t (.aj 2 (.bX 4 .z)))) (by kernel_rfl)
noncomputable def L0(k:Nat):aL Tryz.prog aq:=⟨144,Dy k,QP k⟩
noncomputable def DH(k:Nat):aX:=⟨[cH,pH,(.int .i64)],[.bool],[],fun x=>rg k (x.1) (x.2.1) (x.2.2)⟩
theorem SS(k:Nat):a8 Tryz.prog aq 145 (DH k).aW:=bp bl Tryz.func145 (by kernel_rfl) rfl Tryz.ntmps145 (DH k) (by kernel_rfl) [L0 k] (fun x=>.aj 3 (.bX 3 (.iG 14 [.ab 30 .bool] (aZ [3,4,30] [3,4] []) (nN k (x.1) (x.2.1)) .z (.aj 4 (.iG 9 [.ab 29 .bool] (aZ [3,4,15,29] [3,4] []) (th k (x.1) (x.2.1)) (.aj 4 (.bX 4 .z)) .z (fun _=>.z))) (fun _=>.z)))) (by kernel_rfl)
noncomputable def Ph(k:Nat):aL Tryz.prog aq:=⟨145,DH k,SS k⟩
noncomputable def AF(k:Nat):aX:=⟨[(.ab .bool),.bool],[(.int .i64)],[],fun x=>zr k (x.1) (x.2)⟩
theorem Qb(k:Nat):a8 Tryz.prog aq 202 (AF k).aW:=bp bl Tryz.func202 (by kernel_rfl) rfl Tryz.ntmps202 (AF k) (by kernel_rfl) [] (fun x=>.aj 3 (.bJ [.ab 8 (.int .i64)] (aZ [0,1,7,8] [] []) (px (x.1) (x.2)) k fun _ _=>.z)) (by kernel_rfl)
noncomputable def PM(k:Nat):aL Tryz.prog aq:=⟨202,AF k,Qb k⟩
noncomputable def F2(k:Nat):aX:=⟨[(.ab .bool),.bool],[.bool],[],fun x=>pt k (x.1) (x.2)⟩
theorem W3(k:Nat):a8 Tryz.prog aq 186 (F2 k).aW:=bp bl Tryz.func186 (by kernel_rfl) rfl Tryz.ntmps186 (F2 k) (by kernel_rfl) [PM k] (fun _=>.z) (by kernel_rfl)
noncomputable def J5(k:Nat):aL Tryz.prog aq:=⟨186,F2 k,W3 k⟩
noncomputable def A8(k:Nat):aX:=⟨[kM],[.bool],[],fun x=>ka k x⟩
theorem W8(k:Nat):a8 Tryz.prog aq 182 (A8 k).aW:=bp bl Tryz.func182 (by kernel_rfl) rfl Tryz.ntmps182 (A8 k) (by kernel_rfl) [J5 k] (fun x=>.aj 4 (.bX 2 (.f (.aj 4 (.bJ [.ab 23 (.int .i64),.rw 19 4 .bool] (aZ [3,4,21,22,23] [] [19]) (fun n=>cU (gB k x n)) k fun q o=>.aj 2 (.t (.aj 2 (.a iF fun O=>.j [] (aZ [3,4,5,6,21,22,23] [6] [19]) (HY (nM k O (o.1) x (fy q) (o.2))) (.aj 1 (.j [.ab 30 .bool] (aZ [3,4,5,6,21,22,23,29,30] [6] [19]) (pm k O (o.1) x (fy q) (o.2)) .z (fun _=>.f (.j [.ab 33 .bool] (aZ [3,4,5,6,21,22,23,29,33] [6] [19]) (oK k O (o.1) x (fy q) (o.2)) .z (fun _=>.f (.j [.ab 40 .bool] (aZ [3,4,5,6,21,22,23,40] [6] [19]) (kX k O (o.1) x (fy q) (o.2)) .z (fun _=>.z))))))) (fun _=>.aj 2 (.bX 3 (.iG 11 [.ab 70 .bool] (aZ [3,4,5,6,21,22,23,70] [6] [19]) (pa k O (o.1) x (fy q) (o.2)) .z (.aj 7 (.bX 3 .z)) (fun _=>.f (.aj 1 (.bJ [.ab 74 (.int .i64),.rw 19 4 .bool] (aZ [3,4,5,21,22,23,72,73,74] [] [19]) (fun n=>cU (pc O (o.1) x (fy q) n)) k fun U R=>.aj 2 (.t (.aj 2 (.a (.int .i64) fun W=>.aj 2 (.bX 3 (.g 4 (sj (R.2) W (fy U) (R.1)) .z (.aj 5 (.u 0 .z)) (fun _=>.f (.aj 1 (.u 0 .z)))))))))))))))))))))) (by kernel_rfl)
noncomputable def Lb(k:Nat):aL Tryz.prog aq:=⟨182,A8 k,W8 k⟩
noncomputable def BE(k:Nat):aX:=⟨[cH,kM],[(.int .i64)],[],fun x=>pK k (x.1) (x.2)⟩
theorem Ta(k:Nat):a8 Tryz.prog aq 146 (BE k).aW:=bp bl Tryz.func146 (by kernel_rfl) rfl Tryz.ntmps146 (BE k) (by kernel_rfl) [kq k,Lb k,yE k,Mo k] (fun x=>.aj 5 (.f (.aj 3 (.f (.aj 2 (.bJ [.ab 23 (.int .i64)] (aZ [2,21,22,23] [2] []) (mY k (x.2) (x.1)) k fun o q=>.aj 2 (.t (.j [] (aZ [2,21,22,23] [2] []) (HY (rI o q)) .z (fun _=>.z))))))))) (by kernel_rfl)
noncomputable def U6(k:Nat):aL Tryz.prog aq:=⟨146,BE k,Ta k⟩
noncomputable def FG(k:Nat):aX:=⟨[cH,jK],[(.int .i64)],[],fun x=>nY k (x.1) (x.2)⟩
theorem SK(k:Nat):a8 Tryz.prog aq 115 (FG k).aW:=bp bl Tryz.func115 (by kernel_rfl) rfl Tryz.ntmps115 (FG k) (by kernel_rfl) [kq k,TH k,L0 k,Ph k,U6 k] (fun x=>.aj 5 (.f (.aj 3 (.bX 3 (.bX 3 (.bX 4 (.bX 4 (.bX 8 (.f (.aj 2 (.bJ [.ab 54 (.int .i64)] (aZ [2,3,52,53,54] [2,3] []) (pM k (x.2) (x.1)) k fun _ _=>.aj 2 (.f (.aj 2 (.bJ [.ab 71 (.int .i64)] (aZ [2,3,69,70,71] [2,3] []) (nX k (x.2) (x.1)) k fun _ _=>.aj 2 (.f (.aj 3 (.g 5 rb .z .z (fun _=>.z)))))))))))))))))) (by kernel_rfl)
noncomputable def AS(k:Nat):aL Tryz.prog aq:=⟨115,FG k,SK k⟩
end Go.Ev
