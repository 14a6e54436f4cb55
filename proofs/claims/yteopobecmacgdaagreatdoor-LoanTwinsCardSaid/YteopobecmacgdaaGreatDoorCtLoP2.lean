/- Contracts, by program. -/
import Derived.Test.YteopobecmacgdaaGreatDoorProg
import Derived.Test.YteopobecmacgdaaGreatDoorMM6
import Derived.Test.YteopobecmacgdaaGreatDoorMM9
import Derived.Test.YteopobecmacgdaaGreatDoorMM10
import Derived.Test.YteopobecmacgdaaGreatDoorCtLoP1
import Derived.KernelRfl
import Derived.Test.YteopobecmacgdaaGreatDoorTyA
set_option linter.unusedSectionVars false
set_option linter.unusedVariables false
set_option linter.unusedSimpArgs false
namespace Go.Ev
open Go Go.Proofs
set_option linter.unusedVariables false
set_option maxRecDepth 100000
noncomputable def AF(k:Nat):aS:=⟨[iG,(.pair .str (.pair (.int .i64) (.pair .str (.pair (.int .i64) .unit))))],[(.int .i64)],[],fun x=>wu k (x.1) (x.2)⟩
theorem P7(k:Nat):aV Tryz.prog am 96 (AF k).aT:=bl bk Tryz.func96 (by kernel_rfl) rfl Tryz.ntmps96 (AF k) (by kernel_rfl) [tD k,Od k] (fun x=>.ad 5 (.f (.ad 2 (.bc 6 (.f (.ad 2 (.g 4 (sv (x.2)) .z .z (fun _=>.bc 3 (.bc 3 .z))))))))) (by kernel_rfl)
noncomputable def T9(k:Nat):aG Tryz.prog am:=⟨96,AF k,P7 k⟩
noncomputable def AP(k:Nat):aS:=⟨[.str],[.bool],[],fun x=>xU k x⟩
theorem Rf(k:Nat):aV Tryz.prog am 143 (AP k).aT:=bl bk Tryz.func143 (by kernel_rfl) rfl Tryz.ntmps143 (AP k) (by kernel_rfl) [Dc k] (fun _=>.ad 2 (.g 3 zT .z .z (fun _=>.z))) (by kernel_rfl)
noncomputable def Ww(k:Nat):aG Tryz.prog am:=⟨143,AP k,Rf k⟩
noncomputable def C6(k:Nat):aS:=⟨[bV,(.int .i32)],[.bool],[],fun x=>qM k (x.1) (x.2)⟩
theorem SR(k:Nat):aV Tryz.prog am 159 (C6 k).aT:=bl bk Tryz.func159 (by kernel_rfl) rfl Tryz.ntmps159 (C6 k) (by kernel_rfl) [p9 k] (fun _=>.z) (by kernel_rfl)
noncomputable def Hj(k:Nat):aG Tryz.prog am:=⟨159,C6 k,SR k⟩
noncomputable def AE(k:Nat):b8 (List UInt8×List (Int)) (Option (Option (Nat×Int))×Int×List (Int)) where
 n:=19
 S:=fun z=>⟨[(0,.ptr 19 0),(1,bo (z.1))],[(19,.cells [.fC 19,.row 20] 319)],[(20,⟨5,(.int .u8),(z.2)⟩)]⟩
 bg:=fun z y=>⟨[],[(19,.cells [.fC 19,.row 20] 319)],[(20,⟨5,(.int .u8),(y.2.2)⟩)]⟩
 aq:=fun z y=>[ay (y.2.1),.val .err (y.1)]
 rel:=fun z y=>oF k (z.1) (z.2)=some y
theorem Xj(k:Nat):cq Tryz.prog am 199 (AE k):=dO Tryz.func199 (by kernel_rfl) rfl (AE k) Tryz.ntmps199 [] (fun z=>oF k (z.1) (z.2)) (fun _ _ h=>h) (fun st=>bz st [.ab 1 .err,.ab 0 (.int .i64),.rw 20 5 (.int .u8)]) [19] [20] (fun _=>.ad 2 (.bQ (aat k) [(19,20),(20,21)] [(20,19),(21,20)] (fun _=>.z))) (by kernel_rfl)
noncomputable def N0(k:Nat):cX Tryz.prog am (List UInt8×List (Int)) (Option (Option (Nat×Int))×Int×List (Int)):=⟨199,AE k,fun st=>bz st [.ab 1 .str,.rw 20 5 (.int .u8)],fun z=>oF k (z.1) (z.2),(Xj k),fun _ _ h=>h⟩
noncomputable def Cn(k:Nat):aS:=⟨[bV,(.int .u32),(.int .u32)],[.str,(.int .i64)],[],fun x=>vj k (x.1) (x.2.1) (x.2.2)⟩
theorem aaH(k:Nat):aV Tryz.prog am 183 (Cn k).aT:=bl bk Tryz.func183 (by kernel_rfl) rfl Tryz.ntmps183 (Cn k) (by kernel_rfl) [iJ k,yl k] (fun x=>.ad 5 (.f (.ad 3 (.f (.ad 3 (.bi [.ab 25 (.int .i64),.rw 1000009 5 (.int .u8)] (aB [1,2,9,23,24,25] [9] [1000009]) (fun n=>cg (rk k (x.1) (x.2.1) (x.2.2) n)) k fun o q=>.ad 2 (.c (.j [.rw 1000009 5 (.int .u8)] (aB [1,2,9,23,24,25] [9] [1000009]) (oW (dF o) (q.1)) (.ad 3 (.c (.bQ (N0 k) [(9,19),(1000009,20)] [(19,9),(20,1000009)] (fun _=>.z)) (.ad 1 (.t (.bQ (N0 k) [(9,19),(1000009,20)] [(19,9),(20,1000009)] (fun _=>.z)))))) (fun _=>.z)) (.ad 1 (.bQ (RY k) [(9,14),(1000009,15)] [] (fun _=>.z)))))))))) (by kernel_rfl)
noncomputable def KH(k:Nat):aG Tryz.prog am:=⟨183,Cn k,aaH k⟩
noncomputable def Fy(k:Nat):aS:=⟨[bV,(.int .u32),(.int .u32)],[.bool],[],fun x=>wS k (x.1) (x.2.1) (x.2.2)⟩
theorem RE(k:Nat):aV Tryz.prog am 181 (Fy k).aT:=bl bk Tryz.func181 (by kernel_rfl) rfl Tryz.ntmps181 (Fy k) (by kernel_rfl) [KH k] (fun _=>.z) (by kernel_rfl)
noncomputable def VP(k:Nat):aG Tryz.prog am:=⟨181,Fy k,RE k⟩
noncomputable def Fa(k:Nat):aS:=⟨[bV,(.int .i32),(.int .u32),(.int .u32)],[.bool],[],fun x=>rZ k (x.1) (x.2.1) (x.2.2.1) (x.2.2.2)⟩
theorem Wm(k:Nat):aV Tryz.prog am 144 (Fa k).aT:=bl bk Tryz.func144 (by kernel_rfl) rfl Tryz.ntmps144 (Fa k) (by kernel_rfl) [Hj k,VP k] (fun _=>.ad 3 (.t (.ad 2 (.bc 4 .z)))) (by kernel_rfl)
noncomputable def O3(k:Nat):aG Tryz.prog am:=⟨144,Fa k,Wm k⟩
noncomputable def EG(k:Nat):aS:=⟨[bV,pp,(.int .i64)],[.bool],[],fun x=>p8 k (x.1) (x.2.1) (x.2.2)⟩
theorem VG(k:Nat):aV Tryz.prog am 145 (EG k).aT:=bl bk Tryz.func145 (by kernel_rfl) rfl Tryz.ntmps145 (EG k) (by kernel_rfl) [O3 k] (fun x=>.ad 3 (.bc 3 (.iu 14 [.ab 30 .bool] (aB [3,4,30] [3,4] []) (oh k (x.1) (x.2.1)) .z (.ad 4 (.iu 9 [.ab 29 .bool] (aB [3,4,15,29] [3,4] []) (sO k (x.1) (x.2.1)) (.ad 4 (.bc 4 .z)) .z (fun _=>.z))) (fun _=>.z)))) (by kernel_rfl)
noncomputable def QI(k:Nat):aG Tryz.prog am:=⟨145,EG k,VG k⟩
noncomputable def CD(k:Nat):aS:=⟨[(.ab .bool),.bool],[(.int .i64)],[],fun x=>zy k (x.1) (x.2)⟩
theorem aaP(k:Nat):aV Tryz.prog am 202 (CD k).aT:=bl bk Tryz.func202 (by kernel_rfl) rfl Tryz.ntmps202 (CD k) (by kernel_rfl) [] (fun x=>.ad 3 (.bi [.ab 8 (.int .i64)] (aB [0,1,7,8] [] []) (po (x.1) (x.2)) k fun _ _=>.z)) (by kernel_rfl)
noncomputable def Wg(k:Nat):aG Tryz.prog am:=⟨202,CD k,aaP k⟩
noncomputable def Hb(k:Nat):aS:=⟨[(.ab .bool),.bool],[.bool],[],fun x=>pl k (x.1) (x.2)⟩
theorem Y5(k:Nat):aV Tryz.prog am 186 (Hb k).aT:=bl bk Tryz.func186 (by kernel_rfl) rfl Tryz.ntmps186 (Hb k) (by kernel_rfl) [Wg k] (fun _=>.z) (by kernel_rfl)
noncomputable def Lu(k:Nat):aG Tryz.prog am:=⟨186,Hb k,Y5 k⟩
noncomputable def A1(k:Nat):aS:=⟨[kD],[.bool],[],fun x=>jW k x⟩
theorem abf(k:Nat):aV Tryz.prog am 182 (A1 k).aT:=bl bk Tryz.func182 (by kernel_rfl) rfl Tryz.ntmps182 (A1 k) (by kernel_rfl) [Lu k] (fun x=>.ad 4 (.bc 2 (.f (.ad 4 (.bi [.ab 23 (.int .i64),.rw 19 4 .bool] (aB [3,4,21,22,23] [] [19]) (fun n=>cg (gL k x n)) k fun q o=>.ad 2 (.t (.ad 2 (.a iP fun O=>.j [] (aB [3,4,5,6,21,22,23] [6] [19]) (vC (nL k O (o.1) x (dF q) (o.2))) (.ad 1 (.j [.ab 30 .bool] (aB [3,4,5,6,21,22,23,29,30] [6] [19]) (o5 k O (o.1) x (dF q) (o.2)) .z (fun _=>.f (.j [.ab 33 .bool] (aB [3,4,5,6,21,22,23,29,33] [6] [19]) (oP k O (o.1) x (dF q) (o.2)) .z (fun _=>.f (.j [.ab 40 .bool] (aB [3,4,5,6,21,22,23,40] [6] [19]) (kG k O (o.1) x (dF q) (o.2)) .z (fun _=>.z))))))) (fun _=>.ad 2 (.bc 3 (.iu 11 [.ab 70 .bool] (aB [3,4,5,6,21,22,23,70] [6] [19]) (pE k O (o.1) x (dF q) (o.2)) .z (.ad 7 (.bc 3 .z)) (fun _=>.f (.ad 1 (.bi [.ab 74 (.int .i64),.rw 19 4 .bool] (aB [3,4,5,21,22,23,72,73,74] [] [19]) (fun n=>cg (o4 O (o.1) x (dF q) n)) k fun U R=>.ad 2 (.t (.ad 2 (.a (.int .i64) fun W=>.ad 2 (.bc 3 (.g 4 (tW (R.2) W (dF U) (R.1)) .z (.ad 5 (.u 0 .z)) (fun _=>.f (.ad 1 (.u 0 .z)))))))))))))))))))))) (by kernel_rfl)
noncomputable def Jh(k:Nat):aG Tryz.prog am:=⟨182,A1 k,abf k⟩
noncomputable def A7(k:Nat):aS:=⟨[bV,kD],[(.int .i64)],[],fun x=>oK k (x.1) (x.2)⟩
theorem X8(k:Nat):aV Tryz.prog am 146 (A7 k).aT:=bl bk Tryz.func146 (by kernel_rfl) rfl Tryz.ntmps146 (A7 k) (by kernel_rfl) [iJ k,Jh k,p9 k,KH k] (fun x=>.ad 5 (.f (.ad 3 (.f (.ad 2 (.bi [.ab 23 (.int .i64)] (aB [2,21,22,23] [2] []) (nZ k (x.2) (x.1)) k fun o q=>.ad 2 (.t (.j [] (aB [2,21,22,23] [2] []) (vC (qH o q)) .z (fun _=>.z))))))))) (by kernel_rfl)
noncomputable def acb(k:Nat):aG Tryz.prog am:=⟨146,A7 k,X8 k⟩
noncomputable def Df(k:Nat):aS:=⟨[bV,ic],[(.int .i64)],[],fun x=>mu k (x.1) (x.2)⟩
theorem Sr(k:Nat):aV Tryz.prog am 115 (Df k).aT:=bl bk Tryz.func115 (by kernel_rfl) rfl Tryz.ntmps115 (Df k) (by kernel_rfl) [iJ k,Ww k,O3 k,QI k,acb k] (fun x=>.ad 5 (.f (.ad 3 (.bc 3 (.bc 3 (.bc 4 (.bc 4 (.bc 8 (.f (.ad 2 (.bi [.ab 54 (.int .i64)] (aB [2,3,52,53,54] [2,3] []) (pk k (x.2) (x.1)) k fun _ _=>.ad 2 (.f (.ad 2 (.bi [.ab 71 (.int .i64)] (aB [2,3,69,70,71] [2,3] []) (nJ k (x.2) (x.1)) k fun _ _=>.ad 2 (.f (.ad 3 (.g 5 rB .z .z (fun _=>.z)))))))))))))))))) (by kernel_rfl)
noncomputable def yr(k:Nat):aG Tryz.prog am:=⟨115,Df k,Sr k⟩
noncomputable def DC(k:Nat):aS:=⟨[bV,mN],[(.int .i64)],[],fun x=>uF k (x.1) (x.2)⟩
theorem VL(k:Nat):aV Tryz.prog am 81 (DC k).aT:=bl bk Tryz.func81 (by kernel_rfl) rfl Tryz.ntmps81 (DC k) (by kernel_rfl) [iJ k,yr k] (fun x=>.ad 5 (.f (.ad 2 (.f (.ad 2 (.bi [.ab 19 (.int .i64)] (aB [2,17,18,19] [2] []) (sF k (x.2) (x.1)) k fun _ _=>.z)))))) (by kernel_rfl)
noncomputable def IN(k:Nat):aG Tryz.prog am:=⟨81,DC k,VL k⟩
noncomputable def A0(k:Nat):aS:=⟨[(.int .i32)],[.bool],[],fun x=>In k x⟩
theorem QR(k:Nat):aV Tryz.prog am 124 (A0 k).aT:=bl bk Tryz.func124 (by kernel_rfl) rfl Tryz.ntmps124 (A0 k) (by kernel_rfl) [] (fun _=>.ad 2 (.bc 2 .z)) (by kernel_rfl)
noncomputable def ws(k:Nat):aG Tryz.prog am:=⟨124,A0 k,QR k⟩
noncomputable def Ci(k:Nat):aS:=⟨[.str,(.fn 124 .unit),.bool],[(.int .i64)],[],fun x=>FC k (x.1) (x.2.1) (x.2.2)⟩
theorem Th(k:Nat):aV Tryz.prog am 191 (Ci k).aT:=bl bk Tryz.func191 (by kernel_rfl) rfl Tryz.ntmps191 (Ci k) (by kernel_rfl) [ws k] (fun x=>.ad 3 (.bi [.it 10] (aB [1,2,10] [10] []) (tY k (x.1) (x.2.2)) k fun _ _=>.ad 1 (.c (.ad 1 (.T .z)) (.ad 1 (.F .z))))) (by kernel_rfl)
noncomputable def Vu(k:Nat):aG Tryz.prog am:=⟨191,Ci k,Th k⟩
noncomputable def Er(k:Nat):aS:=⟨[.str,(.fn 124 .unit)],[(.int .i64)],[],fun x=>CS k (x.1) (x.2)⟩
theorem aaZ(k:Nat):aV Tryz.prog am 157 (Er k).aT:=bl bk Tryz.func157 (by kernel_rfl) rfl Tryz.ntmps157 (Er k) (by kernel_rfl) [ws k,Vu k] (fun _=>.z) (by kernel_rfl)
noncomputable def Y2(k:Nat):aG Tryz.prog am:=⟨157,Er k,aaZ k⟩
noncomputable def BD(k:Nat):aS:=⟨[.str,(.fn 124 .unit)],[.bool],[],fun x=>yS k (x.1) (x.2)⟩
theorem Qb(k:Nat):aV Tryz.prog am 123 (BD k).aT:=bl bk Tryz.func123 (by kernel_rfl) rfl Tryz.ntmps123 (BD k) (by kernel_rfl) [ws k,Y2 k] (fun _=>.z) (by kernel_rfl)
noncomputable def Yd(k:Nat):aG Tryz.prog am:=⟨123,BD k,Qb k⟩
noncomputable def FP(k:Nat):aS:=⟨[(.ab .str)],[(.int .i64)],[],fun x=>zk k x⟩
theorem V6(k:Nat):aV Tryz.prog am 97 (FP k).aT:=bl bk Tryz.func97 (by kernel_rfl) rfl Tryz.ntmps97 (FP k) (by kernel_rfl) [ws k,Yd k] (fun x=>.ad 3 (.f (.ad 3 (.bi [.ab 14 (.int .i64),.mp 11 .str .unit] (aB [3,12,13,14] [11] []) (fun n=>cg (pP k x n)) k fun q o=>.ad 2 (.t (.ad 2 (.a .str fun O=>.ad 3 (.bc 2 (.bc 3 (.g 2 (tm (dF q) (o.1) (o.2) O) .z .z (fun _=>.z))))))))))) (by kernel_rfl)
noncomputable def ZN(k:Nat):aG Tryz.prog am:=⟨97,FP k,V6 k⟩
noncomputable def Gy(k:Nat):aS:=⟨[iG],[(.int .i64)],[],fun x=>kH k x⟩
theorem Wq(k:Nat):aV Tryz.prog am 62 (Gy k).aT:=bl bk Tryz.func62 (by kernel_rfl) rfl Tryz.ntmps62 (Gy k) (by kernel_rfl) [iJ k,Yz k,T9 k,IN k,ZN k] (fun x=>.ad 5 (.f (.ad 3 (.bc 8 (.f (.ad 2 (.f (.ad 2 (.bi [.ab 48 (.int .i64)] (aB [1,46,47,48] [1] []) (ud k x) k fun _ _=>.ad 2 (.f (.ad 2 (.f (.ad 2 (.bi [.ab 67 (.int .i64)] (aB [1,65,66,67] [1] []) (uc k x) k fun _ _=>.ad 2 (.f (.ad 4 (.f (.ad 4 (.f (.ad 2 (.bi [.ab 95 (.int .i64),.ae 1 0 (.ab .str),.ae 1 1 av,.ae 1 2 (.int .u32),.ae 1 3 (.int .u32),.ae 1 4 zl,.ae 1 5 wC,.ae 1 6 mN,.ae 1 7 (.ab .str)] (aB [1,93,94,95] [1] []) (fun n=>KI (rE k x n)) k fun q o=>.ad 2 (.t (.ad 2 (.a Ca fun O=>.ad 1 (.bi [.ab 102 (.int .i64)] (aB [1,93,94,95,100,101,102] [1] []) (tg O (o.2.2.2.2.2.2.2.2) (R1 q) (o.1) (o.2.1) (o.2.2.1) (o.2.2.2.1) (o.2.2.2.2.1) (o.2.2.2.2.2.1) (o.2.2.2.2.2.2.1) (o.2.2.2.2.2.2.2.1)) k fun _ _=>.z))))))))))))))))))))))))) (by kernel_rfl)
noncomputable def Nk(k:Nat):aG Tryz.prog am:=⟨62,Gy k,Wq k⟩
noncomputable def z6(k:Nat):aS:=⟨[bV,iG,.str],[.str,(.int .i64)],[],fun x=>px k (x.1) (x.2.1) (x.2.2)⟩
theorem S8(k:Nat):aV Tryz.prog am 56 (z6 k).aT:=bl bk Tryz.func56 (by kernel_rfl) rfl Tryz.ntmps56 (z6 k) (by kernel_rfl) [iJ k,Nk k,sK k] (fun _=>.z) (by kernel_rfl)
noncomputable def Gc(k:Nat):aG Tryz.prog am:=⟨56,z6 k,S8 k⟩
noncomputable def EK(k:Nat):aS:=⟨[bV],[ic],[],fun x=>GO k x⟩
theorem VR(k:Nat):aV Tryz.prog am 117 (EK k).aT:=bl bk Tryz.func117 (by kernel_rfl) rfl Tryz.ntmps117 (EK k) (by kernel_rfl) [] (fun _=>.z) (by kernel_rfl)
noncomputable def Ze(k:Nat):aG Tryz.prog am:=⟨117,EK k,VR k⟩
noncomputable def Hf(k:Nat):aS:=⟨[bV,.str],[bq,(.int .i64)],[],fun x=>xE k (x.1) (x.2)⟩
theorem YU(k:Nat):aV Tryz.prog am 125 (Hf k).aT:=bl bk Tryz.func125 (by kernel_rfl) rfl Tryz.ntmps125 (Hf k) (by kernel_rfl) [Ha k,Hj k] (fun x=>.ad 5 (.bi [.ab 1 .str,.rw 6 21 (.int .i32)] (aB [1,2,6] [2] [6]) (fun n=>cg (sg k (x.1) n)) k fun _ _=>.ad 2 (.t (.ad 4 (.bc 2 .z))))) (by kernel_rfl)
noncomputable def Zw(k:Nat):aG Tryz.prog am:=⟨125,Hf k,YU k⟩
noncomputable def B2(k:Nat):aS:=⟨[eh,(.int .u32),(.int .u32)],[.bool],[],fun x=>Fl k (x.1) (x.2.1) (x.2.2)⟩
theorem Q6(k:Nat):aV Tryz.prog am 138 (B2 k).aT:=bl bk Tryz.func138 (by kernel_rfl) rfl Tryz.ntmps138 (B2 k) (by kernel_rfl) [] (fun _=>.ad 2 (.bc 5 .z)) (by kernel_rfl)
noncomputable def U6(k:Nat):aG Tryz.prog am:=⟨138,B2 k,Q6 k⟩
noncomputable def C5(k:Nat):aS:=⟨[bV,(.int .u32),(.int .u32)],[bq,(.int .i64)],[],fun x=>yD k (x.1) (x.2.1) (x.2.2)⟩
theorem Vk(k:Nat):aV Tryz.prog am 110 (C5 k).aT:=bl bk Tryz.func110 (by kernel_rfl) rfl Tryz.ntmps110 (C5 k) (by kernel_rfl) [iJ k,yl k,U6 k] (fun x=>.ad 6 (.f (.ad 3 (.f (.ad 4 (.bi [.ab 25 (.int .i64),.rw 9 21 (.int .i32)] (aB [1,2,9,23,24,25] [] [9]) (fun n=>cg (sQ k (x.1) (x.2.1) (x.2.2) n)) k fun o q=>.ad 2 (.t (.j [.rw 9 21 (.int .i32)] (aB [1,2,9,23,24,25] [] [9]) (zr (dF o) (q.1)) .z (fun _=>.z))))))))) (by kernel_rfl)
noncomputable def W7(k:Nat):aG Tryz.prog am:=⟨110,C5 k,Vk k⟩
noncomputable def DV(k:Nat):b8 OS cG where
 n:=36
 S:=fun z=>⟨[(0,fR (z.1)),(1,fR (z.2.1)),(2,.ptr 36 0),(3,.ptr 37 0)],[(36,.cells [.val (.ab .str) (z.2.2.1),.val av (z.2.2.2.1)] 25),(37,.cells [.ptr 38 0] 240),(38,.cells [bo (z.2.2.2.2.1),.val av (z.2.2.2.2.2.1),.val bt (z.2.2.2.2.2.2.1),.val aw (z.2.2.2.2.2.2.2.1),.val aw (z.2.2.2.2.2.2.2.2.1),bZ (z.2.2.2.2.2.2.2.2.2.1),a8 (z.2.2.2.2.2.2.2.2.2.2.1),.iter 39,.any] 280),(39,.mp bp bu (z.2.2.2.2.2.2.2.2.2.2.2))],[]⟩
 bg:=fun z y=>⟨[],[(36,.cells [.val (.ab .str) (z.2.2.1),.val av (z.2.2.2.1)] 25),(37,.cells [.ptr 38 0] 240),(38,.cells [bo (z.2.2.2.2.1),.val av (z.2.2.2.2.2.1),.val bt (z.2.2.2.2.2.2.1),.val aw (z.2.2.2.2.2.2.2.1),.val aw (z.2.2.2.2.2.2.2.2.1),bZ (z.2.2.2.2.2.2.2.2.2.1),a8 (z.2.2.2.2.2.2.2.2.2.2.1),.iter 39,.any] 280),(39,.mp bp bu (y))],[]⟩
 aq:=fun z y=>[]
 rel:=fun z y=>oY k (z.1) (z.2.1) (z.2.2.1) (z.2.2.2.1) (z.2.2.2.2.1) (z.2.2.2.2.2.1) (z.2.2.2.2.2.2.1) (z.2.2.2.2.2.2.2.1) (z.2.2.2.2.2.2.2.2.1) (z.2.2.2.2.2.2.2.2.2.1) (z.2.2.2.2.2.2.2.2.2.2.1) (z.2.2.2.2.2.2.2.2.2.2.2)=some y
theorem Qm(k:Nat):cq Tryz.prog am 160 (DV k):=dO Tryz.func160 (by kernel_rfl) rfl (DV k) Tryz.ntmps160 [W7 k] (fun z=>oY k (z.1) (z.2.1) (z.2.2.1) (z.2.2.2.1) (z.2.2.2.2.1) (z.2.2.2.2.2.1) (z.2.2.2.2.2.2.1) (z.2.2.2.2.2.2.2.1) (z.2.2.2.2.2.2.2.2.1) (z.2.2.2.2.2.2.2.2.2.1) (z.2.2.2.2.2.2.2.2.2.2.1) (z.2.2.2.2.2.2.2.2.2.2.2)) (fun _ _ h=>h) (fun st=>bz st [.mp 39 bp bu]) [36,37,38,39] [] (fun z=>.ad 1 (.ac [bq,(.int .i64)] fun v1=>.ad 3 (.bi [.ab 21 (.int .i64),.mp 18 (.int .i32) .bool] (aB [0,1,2,3,8,19,20,21] [18,36,37,38,39] []) (fun n=>cg (uq v1 (z.2.2.2.2.2.2.2.2.2.2.2) (z.1) (z.2.1) n)) k fun _ _=>.z))) (by kernel_rfl)
noncomputable def Nu(k:Nat):cX Tryz.prog am OS cG:=⟨160,DV k,fun st=>bz st [.ab 0 (.int .u32),.ab 1 (.int .u32),.ae 36 0 (.ab .str),.ae 36 1 av,.ae 38 0 .str,.ae 38 1 av,.ae 38 2 bt,.ae 38 3 aw,.ae 38 4 aw,.ae 38 5 (.int .u8),.ae 38 6 .bool,.mp 39 bp bu],fun z=>oY k (z.1) (z.2.1) (z.2.2.1) (z.2.2.2.1) (z.2.2.2.2.1) (z.2.2.2.2.2.1) (z.2.2.2.2.2.2.1) (z.2.2.2.2.2.2.2.1) (z.2.2.2.2.2.2.2.2.1) (z.2.2.2.2.2.2.2.2.2.1) (z.2.2.2.2.2.2.2.2.2.2.1) (z.2.2.2.2.2.2.2.2.2.2.2),(Qm k),fun _ _ h=>h⟩
noncomputable def Ei(k:Nat):b8 LO iF where
 n:=62
 S:=fun z=>⟨[(0,.val bV (z.1)),(1,.val ic (z.2))],[],[]⟩
 bg:=fun z y=>⟨[],[(2,.cells [.val (.ab .str) (y.1),.val av (y.2.1)] 25),(14,.mp bp bu (y.2.2.1)),(16,.cells [bo (y.2.2.2.1),.val av (y.2.2.2.2.1),.val bt (y.2.2.2.2.2.1),.val aw (y.2.2.2.2.2.2.1),.val aw (y.2.2.2.2.2.2.2.1),bZ (y.2.2.2.2.2.2.2.2.1),a8 (y.2.2.2.2.2.2.2.2.2),.iter 14,.clos 161 [2]] 280)],[]⟩
 aq:=fun z y=>[.ptr 16 0]
 rel:=fun z y=>jz k (z.1) (z.2)=some y
theorem Tn(k:Nat):cq Tryz.prog am 126 (Ei k):=dO Tryz.func126 (by kernel_rfl) rfl (Ei k) Tryz.ntmps126 [] (fun z=>jz k (z.1) (z.2)) (fun _ _ h=>h) (fun st=>bz st [.ae 2 0 (.ab .str),.ae 2 1 av,.mp 14 bp bu,.ae 16 0 .str,.ae 16 1 av,.ae 16 2 bt,.ae 16 3 aw,.ae 16 4 aw,.ae 16 5 (.int .u8),.ae 16 6 .bool]) [2,14,16] [] (fun z=>.ad 5 (.bi [.ab 21 (.int .i64),.mp 14 bp bu] (aB [2,3,5,6,19,20,21] [2,3,5,14,16] []) (fun n=>cg (vf k (z.2) (z.1) n)) k fun _ _=>.ad 2 (.c (.ad 3 (.bQ (Nu k) [(2,36),(5,37),(16,38),(14,39)] [(36,2),(37,5),(38,16),(39,14)] (fun _=>.z))) (.ad 2 (.bi [.ab 38 (.int .i64),.ae 2 0 (.ab .str),.ae 2 1 av,.mp 14 bp bu,.ae 16 0 .str,.ae 16 1 av,.ae 16 2 bt,.ae 16 3 aw,.ae 16 4 aw,.ae 16 5 (.int .u8),.ae 16 6 .bool,.rw 36 58 kD] (aB [2,5,6,36,37,38] [2,5,14,16] [36]) (fun n=>zC (sJ k (z.2) n)) k fun q o=>.ad 2 (.t (.ad 2 (.a kD fun O=>.u 0 (.ad 1 (.bi [.ab 45 (.int .i64),.mp 14 bp bu] (aB [2,5,6,36,37,38,43,44,45] [2,5,14,16] [36]) (fun n=>cg (ur k O (o.2.1) (o.2.2.1) (o.2.2.2.2.1) (o.2.2.2.2.2.1) (o.2.2.2.2.2.2.1) (o.2.2.2.2.2.2.2.1) (o.2.2.2.2.2.2.2.2.1) (o.2.2.2.2.2.2.2.2.2.1) (o.2.2.2.2.2.2.2.2.2.2.1) (Dw q) (o.1) (o.2.2.2.2.2.2.2.2.2.2.2) n)) k fun _ _=>.ad 2 (.t (.ad 3 (.bQ (Nu k) [(2,36),(5,37),(16,38),(14,39)] [(36,2),(37,5),(38,16),(39,14)] (fun _=>.z)))))))))))))) (by kernel_rfl)
noncomputable def oI(k:Nat):cX Tryz.prog am LO iF:=⟨126,Ei k,fun st=>bz st [.ab 0 bV,.ab 1 ic],fun z=>jz k (z.1) (z.2),(Tn k),fun _ _ h=>h⟩
noncomputable def Gw(k:Nat):b8 I9 Bool where
 n:=26
 S:=fun z=>⟨[(0,.ptr 26 0),(1,kM (z.1)),(2,kM (z.2.1)),(3,fR (z.2.2.1)),(4,fR (z.2.2.2.1))],[(26,.cells [bo (z.2.2.2.2.1),.val av (z.2.2.2.2.2.1),.val bt (z.2.2.2.2.2.2.1),.val aw (z.2.2.2.2.2.2.2.1),.val aw (z.2.2.2.2.2.2.2.2.1),bZ (z.2.2.2.2.2.2.2.2.2.1),a8 (z.2.2.2.2.2.2.2.2.2.2.1),.iter 27,.clos 161 [28]] 280),(27,.mp bp bu (z.2.2.2.2.2.2.2.2.2.2.2.1)),(28,.cells [.val (.ab .str) (z.2.2.2.2.2.2.2.2.2.2.2.2.1),.val av (z.2.2.2.2.2.2.2.2.2.2.2.2.2)] 25)],[]⟩
 bg:=fun z y=>⟨[],[(26,.cells [bo (z.2.2.2.2.1),.val av (z.2.2.2.2.2.1),.val bt (z.2.2.2.2.2.2.1),.val aw (z.2.2.2.2.2.2.2.1),.val aw (z.2.2.2.2.2.2.2.2.1),bZ (z.2.2.2.2.2.2.2.2.2.1),a8 (z.2.2.2.2.2.2.2.2.2.2.1),.iter 27,.clos 161 [28]] 280),(27,.mp bp bu (z.2.2.2.2.2.2.2.2.2.2.2.1)),(28,.cells [.val (.ab .str) (z.2.2.2.2.2.2.2.2.2.2.2.2.1),.val av (z.2.2.2.2.2.2.2.2.2.2.2.2.2)] 25)],[]⟩
 aq:=fun z y=>[a8 (y)]
 rel:=fun z y=>oG k (z.1) (z.2.1) (z.2.2.1) (z.2.2.2.1) (z.2.2.2.2.1) (z.2.2.2.2.2.1) (z.2.2.2.2.2.2.1) (z.2.2.2.2.2.2.2.1) (z.2.2.2.2.2.2.2.2.1) (z.2.2.2.2.2.2.2.2.2.1) (z.2.2.2.2.2.2.2.2.2.2.1) (z.2.2.2.2.2.2.2.2.2.2.2.1) (z.2.2.2.2.2.2.2.2.2.2.2.2.1) (z.2.2.2.2.2.2.2.2.2.2.2.2.2)=some y
theorem WT(k:Nat):cq Tryz.prog am 184 (Gw k):=dO Tryz.func184 (by kernel_rfl) rfl (Gw k) Tryz.ntmps184 [] (fun z=>oG k (z.1) (z.2.1) (z.2.2.1) (z.2.2.2.1) (z.2.2.2.2.1) (z.2.2.2.2.2.1) (z.2.2.2.2.2.2.1) (z.2.2.2.2.2.2.2.1) (z.2.2.2.2.2.2.2.2.1) (z.2.2.2.2.2.2.2.2.2.1) (z.2.2.2.2.2.2.2.2.2.2.1) (z.2.2.2.2.2.2.2.2.2.2.2.1) (z.2.2.2.2.2.2.2.2.2.2.2.2.1) (z.2.2.2.2.2.2.2.2.2.2.2.2.2)) (fun _ _ h=>h) (fun st=>bz st [.ab 0 .bool]) [26,27,28] [] (fun _=>.z) (by kernel_rfl)
noncomputable def Lm(k:Nat):cX Tryz.prog am I9 Bool:=⟨184,Gw k,fun st=>bz st [.ab 1 (.int .i32),.ab 2 (.int .i32),.ab 3 (.int .u32),.ab 4 (.int .u32),.ae 26 0 .str,.ae 26 1 av,.ae 26 2 bt,.ae 26 3 aw,.ae 26 4 aw,.ae 26 5 (.int .u8),.ae 26 6 .bool,.mp 27 bp bu,.ae 28 0 (.ab .str),.ae 28 1 av],fun z=>oG k (z.1) (z.2.1) (z.2.2.1) (z.2.2.2.1) (z.2.2.2.2.1) (z.2.2.2.2.2.1) (z.2.2.2.2.2.2.1) (z.2.2.2.2.2.2.2.1) (z.2.2.2.2.2.2.2.2.1) (z.2.2.2.2.2.2.2.2.2.1) (z.2.2.2.2.2.2.2.2.2.2.1) (z.2.2.2.2.2.2.2.2.2.2.2.1) (z.2.2.2.2.2.2.2.2.2.2.2.2.1) (z.2.2.2.2.2.2.2.2.2.2.2.2.2),(WT k),fun _ _ h=>h⟩
end Go.Ev
