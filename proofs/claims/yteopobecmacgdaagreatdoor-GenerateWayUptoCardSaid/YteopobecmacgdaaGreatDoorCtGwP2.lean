/- Contracts, by program. -/
import Derived.Test.YteopobecmacgdaaGreatDoorProg
import Derived.Test.YteopobecmacgdaaGreatDoorMM6
import Derived.Test.YteopobecmacgdaaGreatDoorMM8
import Derived.Test.YteopobecmacgdaaGreatDoorCtGwP1
import Derived.KernelRfl
import Derived.Test.YteopobecmacgdaaGreatDoorTyA
set_option linter.unusedSectionVars false
set_option linter.unusedVariables false
set_option linter.unusedSimpArgs false
namespace Go.Ev
open Go Go.Proofs
set_option linter.unusedVariables false
set_option maxRecDepth 100000
noncomputable def CY(k:Nat):aX:=⟨[cH,fN],[(.int .i64)],[],fun x=>uS k (x.1) (x.2)⟩
theorem T3(k:Nat):a8 Tryz.prog aq 81 (CY k).aW:=bp bl Tryz.func81 (by kernel_rfl) rfl Tryz.ntmps81 (CY k) (by kernel_rfl) [kq k,AS k] (fun x=>.aj 5 (.f (.aj 2 (.f (.aj 2 (.bJ [.ab 19 (.int .i64)] (aZ [2,17,18,19] [2] []) (sN k (x.2) (x.1)) k fun _ _=>.z)))))) (by kernel_rfl)
noncomputable def Mh(k:Nat):aL Tryz.prog aq:=⟨81,CY k,T3 k⟩
noncomputable def DC(k:Nat):aX:=⟨[(.int .i32)],[.bool],[],fun x=>LA k x⟩
theorem Xy(k:Nat):a8 Tryz.prog aq 124 (DC k).aW:=bp bl Tryz.func124 (by kernel_rfl) rfl Tryz.ntmps124 (DC k) (by kernel_rfl) [] (fun _=>.aj 2 (.bX 2 .z)) (by kernel_rfl)
noncomputable def zl(k:Nat):aL Tryz.prog aq:=⟨124,DC k,Xy k⟩
noncomputable def Eb(k:Nat):aX:=⟨[.str,(.fn 124 .unit),.bool],[(.int .i64)],[],fun x=>Ae k (x.1) (x.2.1) (x.2.2)⟩
theorem T5(k:Nat):a8 Tryz.prog aq 191 (Eb k).aW:=bp bl Tryz.func191 (by kernel_rfl) rfl Tryz.ntmps191 (Eb k) (by kernel_rfl) [zl k] (fun x=>.aj 3 (.bJ [.it 10] (aZ [1,2,10] [10] []) (tG k (x.1) (x.2.2)) k fun _ _=>.aj 1 (.c (.aj 1 (.T .z)) (.aj 1 (.F .z))))) (by kernel_rfl)
noncomputable def OP(k:Nat):aL Tryz.prog aq:=⟨191,Eb k,T5 k⟩
noncomputable def Fg(k:Nat):aX:=⟨[.str,(.fn 124 .unit)],[(.int .i64)],[],fun x=>Cz k (x.1) (x.2)⟩
theorem WA(k:Nat):a8 Tryz.prog aq 157 (Fg k).aW:=bp bl Tryz.func157 (by kernel_rfl) rfl Tryz.ntmps157 (Fg k) (by kernel_rfl) [zl k,OP k] (fun _=>.z) (by kernel_rfl)
noncomputable def WI(k:Nat):aL Tryz.prog aq:=⟨157,Fg k,WA k⟩
noncomputable def FZ(k:Nat):aX:=⟨[.str,(.fn 124 .unit)],[.bool],[],fun x=>vP k (x.1) (x.2)⟩
theorem Si(k:Nat):a8 Tryz.prog aq 123 (FZ k).aW:=bp bl Tryz.func123 (by kernel_rfl) rfl Tryz.ntmps123 (FZ k) (by kernel_rfl) [zl k,WI k] (fun _=>.z) (by kernel_rfl)
noncomputable def V4(k:Nat):aL Tryz.prog aq:=⟨123,FZ k,Si k⟩
noncomputable def Dp(k:Nat):aX:=⟨[(.ab .str)],[(.int .i64)],[],fun x=>vV k x⟩
theorem QY(k:Nat):a8 Tryz.prog aq 97 (Dp k).aW:=bp bl Tryz.func97 (by kernel_rfl) rfl Tryz.ntmps97 (Dp k) (by kernel_rfl) [zl k,V4 k] (fun x=>.aj 3 (.f (.aj 3 (.bJ [.ab 14 (.int .i64),.mp 11 .str .unit] (aZ [3,12,13,14] [11] []) (fun n=>cU (rW k x n)) k fun q o=>.aj 2 (.t (.aj 2 (.a .str fun O=>.aj 3 (.bX 2 (.bX 3 (.g 2 (sD (fy q) (o.1) (o.2) O) .z .z (fun _=>.z))))))))))) (by kernel_rfl)
noncomputable def QL(k:Nat):aL Tryz.prog aq:=⟨97,Dp k,QY k⟩
noncomputable def Au(k:Nat):aX:=⟨[js],[(.int .i64)],[],fun x=>xL k x⟩
theorem Pn(k:Nat):a8 Tryz.prog aq 62 (Au k).aW:=bp bl Tryz.func62 (by kernel_rfl) rfl Tryz.ntmps62 (Au k) (by kernel_rfl) [kq k,Mf k,QW k,Mh k,QL k] (fun x=>.aj 5 (.f (.aj 3 (.bX 8 (.f (.aj 2 (.f (.aj 2 (.bJ [.ab 48 (.int .i64)] (aZ [1,46,47,48] [1] []) (td k x) k fun _ _=>.aj 2 (.f (.aj 2 (.f (.aj 2 (.bJ [.ab 67 (.int .i64)] (aZ [1,65,66,67] [1] []) (sV k x) k fun _ _=>.aj 2 (.f (.aj 4 (.f (.aj 4 (.f (.aj 2 (.bJ [.ab 95 (.int .i64),.ad 1 0 (.ab .str),.ad 1 1 ax,.ad 1 2 (.int .u32),.ad 1 3 (.int .u32),.ad 1 4 hq,.ad 1 5 gY,.ad 1 6 fN,.ad 1 7 (.ab .str)] (aZ [1,93,94,95] [1] []) (fun n=>Vp (r5 k x n)) k fun q o=>.aj 2 (.t (.aj 2 (.a rG fun O=>.aj 1 (.bJ [.ab 102 (.int .i64)] (aZ [1,93,94,95,100,101,102] [1] []) (ux O (o.2.2.2.2.2.2.2.2) (PL q) (o.1) (o.2.1) (o.2.2.1) (o.2.2.2.1) (o.2.2.2.2.1) (o.2.2.2.2.2.1) (o.2.2.2.2.2.2.1) (o.2.2.2.2.2.2.2.1)) k fun _ _=>.z))))))))))))))))))))))))) (by kernel_rfl)
noncomputable def RF(k:Nat):aL Tryz.prog aq:=⟨62,Au k,Pn k⟩
noncomputable def BP(k:Nat):aX:=⟨[js,(.int .i64),(.int .i64)],[rZ,(.int .i64)],[],fun x=>iw k (x.1) (x.2.1) (x.2.2)⟩
theorem UI(k:Nat):a8 Tryz.prog aq 38 (BP k).aW:=bp bl Tryz.func38 (by kernel_rfl) rfl Tryz.ntmps38 (BP k) (by kernel_rfl) [RF k] (fun x=>.aj 5 (.f (.aj 2 (.bX 5 (.f (.aj 1 (.nA 8 (.a tT fun o=>.aj 2 (.g 11 (uE (x.1) o (x.2.2)) .z .z (fun _=>.z)))))))))) (by kernel_rfl)
noncomputable def BD(k:Nat):aL Tryz.prog aq:=⟨38,BP k,UI k⟩
noncomputable def Bu(k:Nat):cY Unit (List (Option Nat)) where
 n:=2
 S:=fun z=>⟨[],[],[]⟩
 bq:=fun z y=>⟨[],[],[(1,⟨100,.cE,(y)⟩)]⟩
 au:=fun z y=>[.row 1]
 rel:=fun z y=>tk k=some y
theorem PI(k:Nat):dc Tryz.prog aq 40 (Bu k):=fQ Tryz.func40 (by kernel_rfl) rfl (Bu k) Tryz.ntmps40 [] (fun z=>tk k) (fun _ _ h=>h) (fun st=>cF st [.rw 1 100 .cE]) [] [1] (fun _=>.z) (by kernel_rfl)
noncomputable def O0(k:Nat):dM Tryz.prog aq Unit (List (Option Nat)):=⟨40,Bu k,fun st=>cF st [],fun z=>tk k,(PI k),fun _ _ h=>h⟩
noncomputable def Bj(k:Nat):aX:=⟨[eR,(.int .u32),(.int .u32)],[.bool],[],fun x=>Be k (x.1) (x.2.1) (x.2.2)⟩
theorem VN(k:Nat):a8 Tryz.prog aq 138 (Bj k).aW:=bp bl Tryz.func138 (by kernel_rfl) rfl Tryz.ntmps138 (Bj k) (by kernel_rfl) [] (fun _=>.aj 2 (.bX 5 .z)) (by kernel_rfl)
noncomputable def Nq(k:Nat):aL Tryz.prog aq:=⟨138,Bj k,VN k⟩
noncomputable def BK(k:Nat):aX:=⟨[cH,(.int .u32),(.int .u32)],[bg,(.int .i64)],[],fun x=>oW k (x.1) (x.2.1) (x.2.2)⟩
theorem RW(k:Nat):a8 Tryz.prog aq 110 (BK k).aW:=bp bl Tryz.func110 (by kernel_rfl) rfl Tryz.ntmps110 (BK k) (by kernel_rfl) [kq k,xF k,Nq k] (fun x=>.aj 6 (.f (.aj 3 (.f (.aj 4 (.bJ [.ab 25 (.int .i64),.rw 9 21 (.int .i32)] (aZ [1,2,9,23,24,25] [] [9]) (fun n=>cU (su k (x.1) (x.2.1) (x.2.2) n)) k fun o q=>.aj 2 (.t (.j [.rw 9 21 (.int .i32)] (aZ [1,2,9,23,24,25] [] [9]) (zU (fy o) (q.1)) .z (fun _=>.z))))))))) (by kernel_rfl)
noncomputable def Iw(k:Nat):aL Tryz.prog aq:=⟨110,BK k,RW k⟩
noncomputable def DN(k:Nat):aX:=⟨[bg,(.int .i32)],[(.int .i64)],[],fun x=>A2 k (x.1) (x.2)⟩
theorem SQ(k:Nat):a8 Tryz.prog aq 139 (DN k).aW:=bp bl Tryz.func139 (by kernel_rfl) rfl Tryz.ntmps139 (DN k) (by kernel_rfl) [] (fun x=>.aj 3 (.bJ [.ab 8 (.int .i64)] (aZ [0,1,7,8] [] []) (vB (x.1) (x.2)) k fun _ _=>.z)) (by kernel_rfl)
noncomputable def Rv(k:Nat):aL Tryz.prog aq:=⟨139,DN k,SQ k⟩
noncomputable def Ag(k:Nat):aX:=⟨[bg,(.int .i32)],[.bool],[],fun x=>yg k (x.1) (x.2)⟩
theorem RA(k:Nat):a8 Tryz.prog aq 111 (Ag k).aW:=bp bl Tryz.func111 (by kernel_rfl) rfl Tryz.ntmps111 (Ag k) (by kernel_rfl) [Rv k] (fun _=>.z) (by kernel_rfl)
noncomputable def Wu(k:Nat):aL Tryz.prog aq:=⟨111,Ag k,RA k⟩
noncomputable def Dn(k:Nat):aX:=⟨[cH,(.int .u32)],[oQ,(.int .i64)],[],fun x=>w8 k (x.1) (x.2)⟩
theorem Sm(k:Nat):a8 Tryz.prog aq 76 (Dn k).aW:=bp bl Tryz.func76 (by kernel_rfl) rfl Tryz.ntmps76 (Dn k) (by kernel_rfl) [Iw k,Wu k] (fun x=>.aj 2 (.ac [bg,(.int .i64)] fun v1=>.aj 2 (.f (.aj 1 (.un 23 (.aj 2 (.bJ [.ab 27 (.int .i64),.mp 22 (.int .i32) .bool] (aZ [4,6,8,25,26,27] [4,8,22] []) (fun n=>cU (tW k (x.1) v1 n)) k fun _ _=>.aj 2 (.t (.aj 3 (.nA 9 .z)))))))))) (by kernel_rfl)
noncomputable def TF(k:Nat):aL Tryz.prog aq:=⟨76,Dn k,Sm k⟩
noncomputable def C7(k:Nat):aX:=⟨[cH,(.int .u32),rG,(.int .i64),.str],[oQ,bg,(.int .i64)],[],fun x=>Do k (x.1) (x.2.1) (x.2.2.1) (x.2.2.2.1) (x.2.2.2.2)⟩
theorem O6(k:Nat):a8 Tryz.prog aq 43 (C7 k).aW:=bp bl Tryz.func43 (by kernel_rfl) rfl Tryz.ntmps43 (C7 k) (by kernel_rfl) [TF k,Mf k,xu k] (fun _=>.aj 6 (.f (.aj 4 (.f (.aj 2 (.bX 5 .z)))))) (by kernel_rfl)
noncomputable def SI(k:Nat):aL Tryz.prog aq:=⟨43,C7 k,O6 k⟩
noncomputable def FT(k:Nat):aX:=⟨[(.ab bg)],[bg],[],fun x=>Xu k x⟩
theorem U8(k:Nat):a8 Tryz.prog aq 236 (FT k).aW:=bp bl Tryz.func236 (by kernel_rfl) rfl Tryz.ntmps236 (FT k) (by kernel_rfl) [] (fun x=>.aj 5 (.bJ [.ab 3 (.int .i64),.ab 11 (.int .i64)] (aZ [0,3,9,10,11] [] []) (fun n=>cU (C6 k x n)) k fun _ _=>.aj 2 (.f (.aj 1 (.Ef KJ (.aj 2 (.bJ [.ab 27 (.int .i64),.rw 24 21 (.int .i32)] (aZ [6,25,26,27] [] [24]) (fun n=>cU (CZ x n)) k fun _ _=>.z))))))) (by kernel_rfl)
noncomputable def Yj(k:Nat):aL Tryz.prog aq:=⟨236,FT k,U8 k⟩
noncomputable def Al(k:Nat):cY (List (List (Int))) (List (Int)) where
 n:=36
 S:=fun z=>⟨[(0,.row 10000000)],[],[(10000000,⟨61,bg,(z)⟩)]⟩
 bq:=fun z y=>⟨[],[],[(24,⟨21,(.int .i32),(y)⟩),(10000000,⟨61,bg,(z)⟩)]⟩
 au:=fun z y=>[.row 24]
 rel:=fun z y=>oY k (z)=some y
theorem US(k:Nat):dc Tryz.prog aq 236 (Al k):=fQ Tryz.func236 (by kernel_rfl) rfl (Al k) Tryz.ntmps236 [] (fun z=>oY k (z)) (fun _ _ h=>h) (fun st=>cF st [.rw 24 21 (.int .i32)]) [] [24,10000000] (fun z=>.aj 5 (.bJ [.ab 3 (.int .i64),.ab 11 (.int .i64)] (aZ [0,3,9,10,11] [] [10000000]) (fun n=>cU (uk k z n)) k fun _ _=>.aj 2 (.c (.aj 3 (.u 0 .z)) (.aj 1 (.Ef KJ (.aj 2 (.bJ [.ab 27 (.int .i64),.rw 24 21 (.int .i32)] (aZ [0,6,25,26,27] [] [24,10000000]) (fun n=>cU (sZ z n)) k fun _ _=>.aj 2 (.t (.aj 3 (.u 0 .z)))))))))) (by kernel_rfl)
noncomputable def BB(k:Nat):dM Tryz.prog aq (List (List (Int))) (List (Int)):=⟨236,Al k,fun st=>cF st [.rw 10000000 61 bg],fun z=>oY k (z),(US k),fun _ _ h=>h⟩
noncomputable def BG(k:Nat):aX:=⟨[(.pair bg nC),oQ,bg],[bg,(.int .i64)],[],fun x=>yH k (x.1) (x.2.1) (x.2.2)⟩
theorem Rj(k:Nat):a8 Tryz.prog aq 235 (BG k).aW:=bp bl Tryz.func235 (by kernel_rfl) rfl Tryz.ntmps235 (BG k) (by kernel_rfl) [] (fun _=>.aj 3 (.cP (BB k) [(13,10000000)] [(24,14),(10000000,13)] (fun _=>.z))) (by kernel_rfl)
noncomputable def QX(k:Nat):aL Tryz.prog aq:=⟨235,BG k,Rj k⟩
noncomputable def CL(k:Nat):aX:=⟨[xg,oQ,bg],[bg,(.int .i64)],[],fun x=>wj k (x.1) (x.2.1) (x.2.2)⟩
theorem To(k:Nat):a8 Tryz.prog aq 239 (CL k).aW:=bp bl Tryz.func239 (by kernel_rfl) rfl Tryz.ntmps239 (CL k) (by kernel_rfl) [] (fun _=>.aj 4 (.nA 8 (.aj 2 (.cP (BB k) [(22,10000000)] [(24,23),(10000000,22)] (fun _=>.z))))) (by kernel_rfl)
noncomputable def X0(k:Nat):aL Tryz.prog aq:=⟨239,CL k,To k⟩
noncomputable def MJ(k:Nat):cY (List (Int)) (List (Int)) where
 n:=8
 S:=fun z=>⟨[(0,.val bg (z))],[],[]⟩
 bq:=fun z y=>⟨[],[],[(3500001,⟨21,(.int .i32),(y)⟩)]⟩
 au:=fun z y=>[.row 3500001]
 rel:=fun z y=>r3 k (z)=some y
noncomputable def Rq(k:Nat):Env:=cK Tryz.prog aq 8 []
theorem NP(k:Nat):dc Tryz.prog aq 242 (MJ k):=by
 refine ow (fn:=Tryz.f242) Tryz.func242 (by kernel_rfl) rfl Tryz.ntmps242 ?_
 rintro cx W X Y O R h
 have o:bE (Rq k) cx:=kK W X Y
 replace h:r3 k O=some R:=h
 unfold r3 at h
 refine aG (aP (bx o [0] [] [] (orc:=[]) (by kernel_rfl) .n (aF (aG (aG (aP (fm o 1 [0,3] [] [] (orc:=[]) (by kernel_rfl) .n (zq o (d:=4) (u:=(.int .i32)) (xs:=O) (by kernel_rfl) (by kernel_rfl) fun Z ae=>(iE (aF (db (b:=Z) (by kernel_rfl) (fun U=>?_) (fun U=>?_))))))))))))
 ·replace h:(some ([]:List (Int)))=some R:=by
   rw[ae U]at h
   exact h
  refine aG (aP (bx o [2] [] [2] (orc:=[]) (by kernel_rfl) .n (aF (eM (df ?_)))))
  replace h:=Option.some.inj h
  subst h
  exact gr [2] [] [2] [(2,3500001)] (by kernel_rfl) (fZ o.P [] [3500001] (.inl rfl) (by kernel_rfl) (by kernel_rfl))
 ·refine dh (aF (aG (aP ?_)))
  obtain⟨_,q,h⟩:=bind_some h
  replace q:=dx q
  refine bx o [2] [] [5] (orc:=[]) (by kernel_rfl) (.c q .n) (aF (eM ?_))
  replace h:=Option.some.inj h
  subst h
  exact gr [2] [] [5] [(5,3500001)] (by kernel_rfl) (fZ o.P [] [3500001] (.inl rfl) (by kernel_rfl) (by kernel_rfl))
noncomputable def RI(k:Nat):dM Tryz.prog aq (List (Int)) (List (Int)):=⟨242,MJ k,fun st=>cF st [.ab 0 bg],fun z=>r3 k (z),(NP k),fun _ _ h=>h⟩
noncomputable def Ew(k:Nat):aX:=⟨[nC,oQ,bg],[bg,(.int .i64)],[],fun x=>zV k (x.1) (x.2.1) (x.2.2)⟩
theorem OU(k:Nat):a8 Tryz.prog aq 241 (Ew k).aW:=bp bl Tryz.func241 (by kernel_rfl) rfl Tryz.ntmps241 (Ew k) (by kernel_rfl) [] (fun x=>.aj 3 (.cP (RI k) [] [(3500001,17)] (fun v1=>.aj 5 (.bJ [.ab 20 (.int .i64),.rw 10 21 (.int .i32)] (aZ [4,8,9,10,18,19,20] [4] [10,17]) (fun n=>cU (tD k (x.2.2) (x.2.1) v1 n)) k fun R q=>.aj 2 (.c (.j [.rw 10 21 (.int .i32)] (aZ [4,8,9,10,18,19,20] [4] [10,17]) (xX (fy R) (q.1)) .z (fun _=>.z)) (.aj 2 (.bJ [.ab 9 (.int .i64),.ab 35 (.int .i64),.rw 17 21 (.int .i32)] (aZ [8,9,10,33,34,35] [] [10,17]) (fun n=>qR (sy v1 (q.2) n)) k fun O o=>.aj 2 (.t (.j [.ab 9 (.int .i64),.rw 17 21 (.int .i32)] (aZ [8,9,10,33,34,35] [] [10,17]) (cU (yd (nI O) (o.2.1))) (.aj 2 (.u 0 (.aj 2 (.f (.j [.rw 17 21 (.int .i32)] (aZ [8,9,10,33,34,35] [] [10,17]) (xY (nI O) (o.2.1) (o.1)) (.aj 1 (.t (.aj 1 (.u 0 (.u 1 (.u 1 .z)))))) (fun _=>.z)))))) (fun _=>.z)))))))))) (by kernel_rfl)
noncomputable def Wk(k:Nat):aL Tryz.prog aq:=⟨241,Ew k,OU k⟩
noncomputable def E7(k:Nat):aX:=⟨[iN,oQ,bg],[bg,(.int .i64)],[],fun x=>xG k (x.1) (x.2.1) (x.2.2)⟩
theorem Q0(k:Nat):a8 Tryz.prog aq 244 (E7 k).aW:=bp bl Tryz.func244 (by kernel_rfl) rfl Tryz.ntmps244 (E7 k) (by kernel_rfl) [] (fun x=>.aj 5 (.f (.j [.ab 8 (.int .i64)] (aZ [2,8] [] []) (sl k (x.2.2)) .z (fun _=>.aj 2 (.cP (BB k) [(23,10000000)] [(24,24),(10000000,23)] (fun _=>.z)))))) (by kernel_rfl)
noncomputable def OI(k:Nat):aL Tryz.prog aq:=⟨244,E7 k,Q0 k⟩
noncomputable def Es(k:Nat):aX:=⟨[oQ,bg,(.ab xO)],[.str,(.int .i64)],[],fun x=>AP k (x.1) (x.2.1) (x.2.2)⟩
theorem Tb(k:Nat):a8 Tryz.prog aq 44 (Es k).aW:=bp bl Tryz.func44 (by kernel_rfl) rfl Tryz.ntmps44 (Es k) (by kernel_rfl) [Jb k,QX k,X0 k,Wk k,OI k] (fun x=>.aj 3 (.bJ [.ab 1 bg,.ab 16 (.int .i64)] (aZ [1,3,14,15,16] [3] []) (fun n=>cU (qW k (x.2.2) (x.1) n)) k fun o q=>.aj 2 (.t (.aj 5 (.j [.ab 12 bg,.ab 13 (.int .i64)] (aZ [3,12,13,14,15,16] [3] []) (cU (o7 (fy o) (q.2))) (.rX 214 10 (.pair bg nC) (.alt 216 xg (.alt 218 nC (.alt 223 iN .ck))) (fun _=>.z) (fun _=>.rX 216 10 xg (.alt 218 nC (.alt 223 iN .ck)) (fun _=>.z) (fun _=>.rX 218 10 nC (.alt 223 iN .ck) (fun _=>.z) (fun _=>.rX 223 10 iN .ck (fun _=>.z) (fun _=>.yk [999999] [] [] .z))))) (fun _=>.z)))))) (by kernel_rfl)
noncomputable def O3(k:Nat):aL Tryz.prog aq:=⟨44,Es k,Tb k⟩
noncomputable def Ah(k:Nat):aX:=⟨[cH,(.int .u32),rG,(.int .i64),.str],[.str,(.int .i64)],[],fun x=>nG k (x.1) (x.2.1) (x.2.2.1) (x.2.2.2.1) (x.2.2.2.2)⟩
theorem Oe(k:Nat):a8 Tryz.prog aq 14 (Ah k).aW:=bp bl Tryz.func14 (by kernel_rfl) rfl Tryz.ntmps14 (Ah k) (by kernel_rfl) [SI k,O3 k] (fun _=>.z) (by kernel_rfl)
noncomputable def J4(k:Nat):aL Tryz.prog aq:=⟨14,Ah k,Oe k⟩
noncomputable def E4(k:Nat):aX:=⟨[rZ,.str],[.str,(.int .i64)],[],fun x=>nT k (x.1) (x.2)⟩
theorem VS(k:Nat):a8 Tryz.prog aq 74 (E4 k).aW:=bp bl Tryz.func74 (by kernel_rfl) rfl Tryz.ntmps74 (E4 k) (by kernel_rfl) [J4 k] (fun _=>.z) (by kernel_rfl)
noncomputable def Ja(k:Nat):aL Tryz.prog aq:=⟨74,E4 k,VS k⟩
noncomputable def Fy(k:Nat):aX:=⟨[cH,(.ab (.int .u32))],[(.int .i64)],[],fun x=>wO k (x.1) (x.2)⟩
theorem Tn(k:Nat):a8 Tryz.prog aq 79 (Fy k).aW:=bp bl Tryz.func79 (by kernel_rfl) rfl Tryz.ntmps79 (Fy k) (by kernel_rfl) [] (fun x=>.aj 3 (.bJ [.ab 9 (.int .i64)] (aZ [2,7,8,9] [2] []) (tp (x.2) (x.1)) k fun _ _=>.z)) (by kernel_rfl)
noncomputable def H2(k:Nat):aL Tryz.prog aq:=⟨79,Fy k,Tn k⟩
noncomputable def EF(k:Nat):aX:=⟨[cH,.str,(.ab (.int .u32))],[ax,(.int .i64)],[],fun x=>Vs k (x.1) (x.2.1) (x.2.2)⟩
theorem TG(k:Nat):a8 Tryz.prog aq 45 (EF k).aW:=bp bl Tryz.func45 (by kernel_rfl) rfl Tryz.ntmps45 (EF k) (by kernel_rfl) [xu k,H2 k] (fun x=>.aj 3 (.ac [bg,(.int .i64)] fun v1=>.aj 2 (.f (.aj 4 (.f (.aj 3 (.bJ [.ab 36 (.int .i64),.mp 32 (.int .i32) eR] (aZ [8,11,34,35,36] [32] []) (fun n=>cU (El k (x.1) v1 n)) k fun _ o=>.aj 2 (.f (.aj 4 (.bJ [.ab 50 (.int .i64),.rw 47 86 eR] (aZ [11,14,48,49,50] [32] [47]) (fun n=>cU (EY v1 (o.2) n)) k fun _ _=>.aj 2 (.t (.aj 4 (.u 0 .z))))))))))))) (by kernel_rfl)
noncomputable def Yg(k:Nat):aL Tryz.prog aq:=⟨45,EF k,TG k⟩
noncomputable def EU(k:Nat):cY (be×List UInt8×List (Int)) kh where
 n:=63
 S:=fun z=>⟨[(0,.val cH (z.1)),(1,aN (z.2.1)),(2,.row 10000000)],[],[(10000000,⟨26,(.int .u32),(z.2.2)⟩)]⟩
 bq:=fun z y=>⟨[],[],[(3500001,⟨86,eR,(y.2)⟩),(10000000,⟨26,(.int .u32),(z.2.2)⟩)]⟩
 au:=fun z y=>[.row 3500001,ay (y.1)]
 rel:=fun z y=>rl k (z.1) (z.2.1) (z.2.2)=some y
theorem U3(k:Nat):dc Tryz.prog aq 45 (EU k):=fQ Tryz.func45 (by kernel_rfl) rfl (EU k) Tryz.ntmps45 [xu k,H2 k] (fun z=>rl k (z.1) (z.2.1) (z.2.2)) (fun _ _ h=>h) (fun st=>cF st [.ab 1 (.int .i64),.rw 3500001 86 eR]) [] [3500001,10000000] (fun z=>.aj 3 (.ac [bg,(.int .i64)] fun v1=>.aj 2 (.c (.aj 2 (.gd [2,6,7] [] [6,10000000] [(6,3500001),(10000000,10000000)])) (.aj 4 (.c (.aj 2 (.gd [2,6,7] [] [6,10000000] [(6,3500001),(10000000,10000000)])) (.aj 3 (.bJ [.ab 36 (.int .i64),.mp 32 (.int .i32) eR] (aZ [2,8,11,34,35,36] [32] [10000000]) (fun n=>cU (sF k (z.1) v1 n)) k fun _ o=>.aj 2 (.f (.aj 4 (.bJ [.ab 50 (.int .i64),.rw 47 86 eR] (aZ [2,11,14,48,49,50] [32] [47,10000000]) (fun n=>cU (u4 v1 (o.2) n)) k fun _ _=>.aj 2 (.c (.aj 4 (.u 0 .z)) (.aj 1 (.gd [2,6,7] [] [47,10000000] [(47,3500001),(10000000,10000000)]))))))))))))) (by kernel_rfl)
noncomputable def RM(k:Nat):dM Tryz.prog aq (be×List UInt8×List (Int)) kh:=⟨45,EU k,fun st=>cF st [.ab 0 cH,.ab 1 .str,.rw 10000000 26 (.int .u32)],fun z=>rl k (z.1) (z.2.1) (z.2.2),(U3 k),fun _ _ h=>h⟩
noncomputable def DB(k:Nat):aX:=⟨[eR,(.int .u32)],[.bool],[],fun x=>EJ k (x.1) (x.2)⟩
theorem NM(k:Nat):a8 Tryz.prog aq 46 (DB k).aW:=bp bl Tryz.func46 (by kernel_rfl) rfl Tryz.ntmps46 (DB k) (by kernel_rfl) [] (fun _=>.z) (by kernel_rfl)
noncomputable def Gc(k:Nat):aL Tryz.prog aq:=⟨46,DB k,NM k⟩
noncomputable def DY(k:Nat):aX:=⟨[(.int .u32)],[(.int .i64)],[],fun x=>xq k x⟩
theorem N9(k:Nat):a8 Tryz.prog aq 91 (DY k).aW:=bp bl Tryz.func91 (by kernel_rfl) rfl Tryz.ntmps91 (DY k) (by kernel_rfl) [] (fun _=>.z) (by kernel_rfl)
noncomputable def Sp(k:Nat):aL Tryz.prog aq:=⟨91,DY k,N9 k⟩
noncomputable def BR(k:Nat):aX:=⟨[eR,eR],[(.int .i64)],[],fun x=>uw k (x.1) (x.2)⟩
theorem Np(k:Nat):a8 Tryz.prog aq 142 (BR k).aW:=bp bl Tryz.func142 (by kernel_rfl) rfl Tryz.ntmps142 (BR k) (by kernel_rfl) [Sp k] (fun _=>.z) (by kernel_rfl)
noncomputable def Xi(k:Nat):aL Tryz.prog aq:=⟨142,BR k,Np k⟩
noncomputable def B3(k:Nat):aX:=⟨[eR,eR,(.ptr eR)],[(.int .i64)],[eR],fun x=>EV k (x.1) (x.2.1) (x.2.2)⟩
theorem WR(k:Nat):a8 Tryz.prog aq 141 (B3 k).aW:=bp bl Tryz.func141 (by kernel_rfl) rfl Tryz.ntmps141 (B3 k) (by kernel_rfl) [Xi k] (fun _=>.z) (by kernel_rfl)
noncomputable def Ic(k:Nat):aL Tryz.prog aq:=⟨141,B3 k,WR k⟩
noncomputable def FN(k:Nat):aX:=⟨[ax,(.fn 141 (.pair (.ptr eR) .unit))],[eR],[],fun x=>E6 k (x.1) (x.2)⟩
theorem ND(k:Nat):a8 Tryz.prog aq 92 (FN k).aW:=bp bl Tryz.func92 (by kernel_rfl) rfl Tryz.ntmps92 (FN k) (by kernel_rfl) [Ic k] (fun x=>.aj 3 (.f (.aj 4 (.bJ [.ab 6 (.int .i64),.ad 5 0 (.int .i32),.ad 5 1 (.int .u32),.ad 5 2 (.int .u32)] (aZ [0,1,4,5,6] [4,5] []) (fun n=>NJ (uX k (x.1) (x.2) n)) k fun o q=>.aj 2 (.t (.j [.ad 5 0 (.int .i32),.ad 5 1 (.int .u32),.ad 5 2 (.int .u32)] (aZ [0,1,4,5,6] [4,5] []) (qR (zC (Rf o) (q.1))) (.aj 4 (.t (.u 0 .z))) (fun _=>.z))))))) (by kernel_rfl)
noncomputable def UG(k:Nat):aL Tryz.prog aq:=⟨92,FN k,ND k⟩
noncomputable def Af(k:Nat):aX:=⟨[cH,(.int .i32),(.int .u32),(.int .u32)],[(.int .i32),(.int .i64)],[],fun x=>uY k (x.1) (x.2.1) (x.2.2.1) (x.2.2.2)⟩
theorem XB(k:Nat):a8 Tryz.prog aq 114 (Af k).aW:=bp bl Tryz.func114 (by kernel_rfl) rfl Tryz.ntmps114 (Af k) (by kernel_rfl) [yE k,xF k,Ic k,UG k] (fun _=>.z) (by kernel_rfl)
noncomputable def GR(k:Nat):aL Tryz.prog aq:=⟨114,Af k,XB k⟩
noncomputable def BM(k:Nat):aX:=⟨[cH,eR,eR,(.int .u32)],[(.int .i32)],[],fun x=>zO k (x.1) (x.2.1) (x.2.2.1) (x.2.2.2)⟩
theorem QQ(k:Nat):a8 Tryz.prog aq 80 (BM k).aW:=bp bl Tryz.func80 (by kernel_rfl) rfl Tryz.ntmps80 (BM k) (by kernel_rfl) [GR k] (fun _=>.aj 7 (.bX 5 .z)) (by kernel_rfl)
noncomputable def Q6(k:Nat):aL Tryz.prog aq:=⟨80,BM k,QQ k⟩
noncomputable def Ec(k:Nat):aX:=⟨[cH,ax,(.int .u32),(.int .u32),(.int .i64)],[.str],[],fun x=>wB k (x.1) (x.2.1) (x.2.2.1) (x.2.2.2.1) (x.2.2.2.2)⟩
theorem Ps(k:Nat):a8 Tryz.prog aq 47 (Ec k).aW:=bp bl Tryz.func47 (by kernel_rfl) rfl Tryz.ntmps47 (Ec k) (by kernel_rfl) [Q6 k,Gc k] (fun x=>.aj 5 (.bJ [.ab 19 (.int .i64),.rw 16 21 (.int .i32)] (aZ [1,2,3,4,5,11,17,18,19] [5] [16]) (fun n=>cU (rp k (x.2.1) (x.2.2.2.2) (x.2.2.1) (x.1) (x.2.2.2.1) n)) k fun q o=>.aj 2 (.t (.j [.rw 16 21 (.int .i32)] (aZ [1,2,3,4,5,11,17,18,19] [5] [16]) (wG (fy q) (o.1)) (.aj 1 (.a eR fun O=>.aj 2 (.u 0 (.aj 1 (.g 3 (tf k (x.2.1) (x.2.2.2.2) (x.1) O (x.2.2.2.1) (o.2) (o.1) (fy q)) .z .z (fun _=>.t (.nA 11 (.aj 3 (.u 0 .z))))))))) (fun _=>.z))))) (by kernel_rfl)
noncomputable def SY(k:Nat):aL Tryz.prog aq:=⟨47,Ec k,Ps k⟩
noncomputable def Dx(k:Nat):aX:=⟨[cH,.str,(.int .u32),(.int .u32)],[.str,(.int .i64)],[],fun x=>mW k (x.1) (x.2.1) (x.2.2.1) (x.2.2.2)⟩
theorem RH(k:Nat):a8 Tryz.prog aq 15 (Dx k).aW:=bp bl Tryz.func15 (by kernel_rfl) rfl Tryz.ntmps15 (Dx k) (by kernel_rfl) [Gc k,SY k] (fun x=>.aj 2 (.cP (RM k) [(19,10000000)] [(3500001,20),(10000000,19)] (fun v1=>.aj 2 (.f (.aj 2 (.bJ [.ab 28 (.int .i64)] (aZ [1,2,3,4,10,26,27,28] [4] [20]) (tM k v1 (x.2.2.1) (x.1) (x.2.2.2) (x.2.1)) k fun _ _=>.aj 2 (.t (.aj 3 (.u 0 .z))))))))) (by kernel_rfl)
noncomputable def G9(k:Nat):aL Tryz.prog aq:=⟨15,Dx k,RH k⟩
end Go.Ev
