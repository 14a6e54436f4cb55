/- Contracts, by program. -/
import Derived.Test.YteopobecmacgdaaGreatDoorProg
import Derived.Test.YteopobecmacgdaaGreatDoorMM6
import Derived.Test.YteopobecmacgdaaGreatDoorMM9
import Derived.Test.YteopobecmacgdaaGreatDoorCtLoP2
import Derived.Test.YteopobecmacgdaaGreatDoorCtLoP3
import Derived.Test.YteopobecmacgdaaGreatDoorCtLoP5
import Derived.Test.YteopobecmacgdaaGreatDoorCtLoP7
import Derived.KernelRfl
import Derived.Test.YteopobecmacgdaaGreatDoorTyA
set_option linter.unusedSectionVars false
set_option linter.unusedVariables false
set_option linter.unusedSimpArgs false
namespace Go.Ev
open Go Go.Proofs
set_option linter.unusedVariables false
set_option maxRecDepth 100000
noncomputable def HP(k:Nat):bU aJ aJ where
 n:=8
 S:=fun z=>⟨[(0,.val au (z))],[],[]⟩
 bJ:=fun z y=>⟨[],[],[(3500001,⟨125,dK,(y)⟩)]⟩
 ap:=fun z y=>[.row 3500001]
 rel:=fun z y=>pU k (z)=some y
noncomputable def Q2(k:Nat):Env:=cl Tryz.prog am 8 []
theorem Ok(k:Nat):cb Tryz.prog am 165 (HP k):=by
 refine mY (fn:=Tryz.f165) Tryz.func165 (by kernel_rfl) rfl Tryz.ntmps165 ?_
 rintro cx U W Y L O h
 have o:bv (Q2 k) cx:=im U W Y
 replace h:pU k L=some O:=h
 unfold pU at h
 refine aI (aX (bC o [0] [] [] (orc:=[]) (by kernel_rfl) .n (aM (aI (aI (aX (iv o 1 [0,3] [] [] (orc:=[]) (by kernel_rfl) .n (B4 o (d:=4) (u:=dK) (xs:=L) (by kernel_rfl) (by kernel_rfl) fun Z la=>(jL (aM (dt (b:=Z) (by kernel_rfl) (fun R=>?_) (fun R=>?_))))))))))))
 ·replace h:(some ([]:List aw))=some O:=by
   rw[la R]at h
   exact h
  refine aI (aX (bC o [2] [] [2] (orc:=[]) (by kernel_rfl) .n (aM (eU (dF ?_)))))
  replace h:=Option.some.inj h
  subst h
  exact gc [2] [] [2] [(2,3500001)] (by kernel_rfl) (fm o.P [] [3500001] (.inl rfl) (by kernel_rfl) (by kernel_rfl))
 ·refine dA (aM (aI (aX ?_)))
  obtain⟨_,q,h⟩:=bind_some h
  replace q:=dj q
  refine bC o [2] [] [5] (orc:=[]) (by kernel_rfl) (.c q .n) (aM (eU ?_))
  replace h:=Option.some.inj h
  subst h
  exact gc [2] [] [5] [(5,3500001)] (by kernel_rfl) (fm o.P [] [3500001] (.inl rfl) (by kernel_rfl) (by kernel_rfl))
noncomputable def MR(k:Nat):cD Tryz.prog am aJ aJ:=⟨165,HP k,fun st=>bu st [.ab 0 au],fun z=>pU k (z),(Ok k),fun _ _ h=>h⟩
noncomputable def Fe(k:Nat):bU ck ck where
 n:=8
 S:=fun z=>⟨[(0,.val bn (z))],[],[]⟩
 bJ:=fun z y=>⟨[],[],[(3500001,⟨127,nd,(y)⟩)]⟩
 ap:=fun z y=>[.row 3500001]
 rel:=fun z y=>rE k (z)=some y
noncomputable def Re(k:Nat):Env:=cl Tryz.prog am 8 []
theorem Ty(k:Nat):cb Tryz.prog am 166 (Fe k):=by
 refine mY (fn:=Tryz.f166) Tryz.func166 (by kernel_rfl) rfl Tryz.ntmps166 ?_
 rintro cx U W Y L O h
 have o:bv (Re k) cx:=im U W Y
 replace h:rE k L=some O:=h
 unfold rE at h
 refine aI (aX (bC o [0] [] [] (orc:=[]) (by kernel_rfl) .n (aM (aI (aI (aX (iv o 1 [0,3] [] [] (orc:=[]) (by kernel_rfl) .n (B4 o (d:=4) (u:=nd) (xs:=L) (by kernel_rfl) (by kernel_rfl) fun Z la=>(jL (aM (dt (b:=Z) (by kernel_rfl) (fun R=>?_) (fun R=>?_))))))))))))
 ·replace h:(some ([]:List bG))=some O:=by
   rw[la R]at h
   exact h
  refine aI (aX (bC o [2] [] [2] (orc:=[]) (by kernel_rfl) .n (aM (eU (dF ?_)))))
  replace h:=Option.some.inj h
  subst h
  exact gc [2] [] [2] [(2,3500001)] (by kernel_rfl) (fm o.P [] [3500001] (.inl rfl) (by kernel_rfl) (by kernel_rfl))
 ·refine dA (aM (aI (aX ?_)))
  obtain⟨_,q,h⟩:=bind_some h
  replace q:=dj q
  refine bC o [2] [] [5] (orc:=[]) (by kernel_rfl) (.c q .n) (aM (eU ?_))
  replace h:=Option.some.inj h
  subst h
  exact gc [2] [] [5] [(5,3500001)] (by kernel_rfl) (fm o.P [] [3500001] (.inl rfl) (by kernel_rfl) (by kernel_rfl))
noncomputable def WG(k:Nat):cD Tryz.prog am ck ck:=⟨166,Fe k,fun st=>bu st [.ab 0 bn],fun z=>rE k (z),(Ty k),fun _ _ h=>h⟩
noncomputable def Gm(k:Nat):bU (List (Int)) (List (Int)) where
 n:=8
 S:=fun z=>⟨[(0,.val fc (z))],[],[]⟩
 bJ:=fun z y=>⟨[],[],[(3500001,⟨3,(.int .i64),(y)⟩)]⟩
 ap:=fun z y=>[.row 3500001]
 rel:=fun z y=>rA k (z)=some y
noncomputable def OZ(k:Nat):Env:=cl Tryz.prog am 8 []
theorem Xu(k:Nat):cb Tryz.prog am 206 (Gm k):=by
 refine mY (fn:=Tryz.f206) Tryz.func206 (by kernel_rfl) rfl Tryz.ntmps206 ?_
 rintro cx U W Y L O h
 have o:bv (OZ k) cx:=im U W Y
 replace h:rA k L=some O:=h
 unfold rA at h
 refine aI (aX (bC o [0] [] [] (orc:=[]) (by kernel_rfl) .n (aM (aI (aI (aX (iv o 1 [0,3] [] [] (orc:=[]) (by kernel_rfl) .n (B4 o (d:=4) (u:=(.int .i64)) (xs:=L) (by kernel_rfl) (by kernel_rfl) fun Z la=>(jL (aM (dt (b:=Z) (by kernel_rfl) (fun R=>?_) (fun R=>?_))))))))))))
 ·replace h:(some ([]:List (Int)))=some O:=by
   rw[la R]at h
   exact h
  refine aI (aX (bC o [2] [] [2] (orc:=[]) (by kernel_rfl) .n (aM (eU (dF ?_)))))
  replace h:=Option.some.inj h
  subst h
  exact gc [2] [] [2] [(2,3500001)] (by kernel_rfl) (fm o.P [] [3500001] (.inl rfl) (by kernel_rfl) (by kernel_rfl))
 ·refine dA (aM (aI (aX ?_)))
  obtain⟨_,q,h⟩:=bind_some h
  replace q:=dj q
  refine bC o [2] [] [5] (orc:=[]) (by kernel_rfl) (.c q .n) (aM (eU ?_))
  replace h:=Option.some.inj h
  subst h
  exact gc [2] [] [5] [(5,3500001)] (by kernel_rfl) (fm o.P [] [3500001] (.inl rfl) (by kernel_rfl) (by kernel_rfl))
noncomputable def Rz(k:Nat):cD Tryz.prog am (List (Int)) (List (Int)):=⟨206,Gm k,fun st=>bu st [.ab 0 fc],fun z=>rA k (z),(Xu k),fun _ _ h=>h⟩
noncomputable def sb(k:Nat):bU AM aN where
 n:=59
 S:=fun z=>⟨[(0,ax (z.1)),(1,.ptr 59 0),(2,.ptr 60 0),(3,.ptr 61 0),(4,.ptr 63 0)],[(59,.cells [.val av (z.2.1)] 56),(60,.cells [aY (z.2.2.1)] 4),(61,.cells [.osl 62] 56),(62,.bp 124 ⟨gZ,4,3,(.int .i64)⟩ (z.2.2.2) none),(63,.cells [.clos 205 [59,60,61,63]] 328)],[]⟩
 bJ:=fun z y=>⟨[],[(59,.cells [.val av (z.2.1)] 56),(60,.cells [aY (z.2.2.1)] 4),(61,.cells [.osl 62] 56),(62,.bp 124 ⟨gZ,4,3,(.int .i64)⟩ (y) none),(63,.cells [.clos 205 [59,60,61,63]] 328)],[]⟩
 ap:=fun z y=>[]
 rel:=fun z y=>nb k (z.1) (z.2.1) (z.2.2.1) (z.2.2.2)=some y
noncomputable def JE(k:Nat)(h:cb Tryz.prog am 205 (sb k)):cD Tryz.prog am AM aN:=⟨205,sb k,fun st=>bu st [.ab 0 (.int .i64),.ad 59 0 av,.ad 60 0 .bool,.bp 62 gZ],fun z=>nb k (z.1) (z.2.1) (z.2.2.1) (z.2.2.2),h,fun _ _ h=>h⟩
theorem FK:∀k:Nat,cb Tryz.prog am 205 (sb k)
 |0=>DD Tryz.func205 (by kernel_rfl) rfl _ fun _ _ h=>nomatch (show(none:Option _)=some _ from h)
 |k+1=>dr Tryz.func205 (by kernel_rfl) rfl (sb (k+1)) Tryz.ntmps205 [] (fun z=>nb (k+1) (z.1) (z.2.1) (z.2.2.1) (z.2.2.2)) (fun _ _ h=>h) (fun st=>bu st [.bp 62 gZ]) [59,60,61,62,63] [] (fun z=>.ae 1 (.a gZ fun o=>.ae 1 (.bI (Rz k) [] [(3500001,17)] (fun _=>.j [.rw 17 3 (.int .i64)] (aB [1,2,3,4,6,7] [6,59,60,61,62,63] [17]) (Bk k (z.2.2.2) o (nb k) (z.2.1) (z.2.2.1)) (.ae 1 (.bh 3 (.t (.ci SV .z)))) (fun q=>.ae 5 (.bg [.ab 38 (.int .i64),.bp 62 gZ] (aB [1,2,3,4,8,36,37,38] [59,60,61,62,63] [17]) (fun n=>b7 (wz q (z.2.2.2) (nb k) (z.2.1) (z.2.2.1) n)) k fun _ _=>.ae 2 (.t (.ae 3 (.u 0 (.ae 1 (.dh [[],[0],[1],[2],[3],[7],[1,0],[2,0],[3,0],[7,0],[2,1],[3,1],[7,1],[3,2],[7,2],[7,3],[8,7],[2,1,0],[3,1,0],[7,1,0],[3,2,0],[7,2,0],[7,3,0],[8,7,0],[3,2,1],[7,2,1],[7,3,1],[8,7,1],[4,3,2],[7,3,2],[8,7,2],[8,7,3],[9,8,7],[3,2,1,0],[7,2,1,0],[7,3,1,0],[8,7,1,0],[4,3,2,0],[7,3,2,0],[8,7,2,0],[8,7,3,0],[9,8,7,0],[4,3,2,1],[7,3,2,1],[8,7,2,1],[8,7,3,1],[9,8,7,1],[5,4,3,2],[7,4,3,2],[8,7,3,2],[9,8,7,2],[9,8,7,3],[4,3,2,1,0],[7,3,2,1,0],[8,7,2,1,0],[8,7,3,1,0],[9,8,7,1,0],[5,4,3,2,0],[7,4,3,2,0],[8,7,3,2,0],[9,8,7,2,0],[9,8,7,3,0],[5,4,3,2,1],[7,4,3,2,1],[8,7,3,2,1],[9,8,7,2,1],[9,8,7,3,1],[6,5,4,3,2],[7,5,4,3,2],[8,7,4,3,2],[9,8,7,3,2],[5,4,3,2,1,0],[7,4,3,2,1,0],[8,7,3,2,1,0],[9,8,7,2,1,0],[9,8,7,3,1,0],[6,5,4,3,2,0],[7,5,4,3,2,0],[8,7,4,3,2,0],[9,8,7,3,2,0],[6,5,4,3,2,1],[7,5,4,3,2,1],[8,7,4,3,2,1],[9,8,7,3,2,1],[7,6,5,4,3,2],[8,7,5,4,3,2],[9,8,7,4,3,2],[6,5,4,3,2,1,0],[7,5,4,3,2,1,0],[8,7,4,3,2,1,0],[9,8,7,3,2,1,0],[7,6,5,4,3,2,0],[8,7,5,4,3,2,0],[9,8,7,4,3,2,0],[7,6,5,4,3,2,1],[8,7,5,4,3,2,1],[9,8,7,4,3,2,1],[8,7,6,5,4,3,2],[9,8,7,5,4,3,2],[7,6,5,4,3,2,1,0],[8,7,5,4,3,2,1,0],[9,8,7,4,3,2,1,0],[8,7,6,5,4,3,2,0],[9,8,7,5,4,3,2,0],[8,7,6,5,4,3,2,1],[9,8,7,5,4,3,2,1],[9,8,7,6,5,4,3,2],[8,7,6,5,4,3,2,1,0],[9,8,7,5,4,3,2,1,0],[9,8,7,6,5,4,3,2,0],[9,8,7,6,5,4,3,2,1],[10,9,8,7,6,5,4,3,2],[9,8,7,6,5,4,3,2,1,0],[10,9,8,7,6,5,4,3,2,0],[10,9,8,7,6,5,4,3,2,1],[10,9,8,7,6,5,4,3,2,1,0],[11,10,9,8,7,6,5,4,3,2,1,0],[12,11,10,9,8,7,6,5,4,3,2,1,0],[13,12,11,10,9,8,7,6,5,4,3,2,1,0]] (.ae 1 (.u 0 (.u 0 (.bI (JE k (FK k)) [(59,59),(60,60),(61,61),(62,62),(63,63)] [(59,59),(60,60),(61,61),(62,62),(63,63)] (fun _=>.z)))))))))))))))) (by kernel_rfl)
noncomputable def WN(k:Nat):cD Tryz.prog am AM aN:=JE k (FK k)
noncomputable def An(k:Nat):bU HM aN where
 n:=15
 S:=fun z=>⟨[(0,.osl 15),(1,.val av (z.1)),(2,ax (z.2.1)),(3,aY (z.2.2.1))],[(15,.bp 124 ⟨gZ,4,3,(.int .i64)⟩ (z.2.2.2) none)],[]⟩
 bJ:=fun z y=>⟨[],[(15,.bp 124 ⟨gZ,4,3,(.int .i64)⟩ (y) none)],[]⟩
 ap:=fun z y=>[.osl 15]
 rel:=fun z y=>rU k (z.1) (z.2.1) (z.2.2.1) (z.2.2.2)=some y
theorem MS(k:Nat):cb Tryz.prog am 193 (An k):=dr Tryz.func193 (by kernel_rfl) rfl (An k) Tryz.ntmps193 [] (fun z=>rU k (z.1) (z.2.1) (z.2.2.1) (z.2.2.2)) (fun _ _ h=>h) (fun st=>bu st [.bp 15 gZ]) [15] [] (fun _=>.ae 5 (.bI (WN k) [(5,59),(7,60),(4,61),(15,62),(9,63)] [(59,5),(60,7),(61,4),(62,15),(63,9)] (fun _=>.z))) (by kernel_rfl)
noncomputable def MN(k:Nat):cD Tryz.prog am HM aN:=⟨193,An k,fun st=>bu st [.ab 1 av,.ab 2 (.int .i64),.ab 3 .bool,.bp 15 gZ],fun z=>rU k (z.1) (z.2.1) (z.2.2.1) (z.2.2.2),(MS k),fun _ _ h=>h⟩
noncomputable def yF(k:Nat):aU:=⟨[jv],[jv,(.int .i64)],[],fun x=>Bo k x⟩
theorem Su(k:Nat):aV Tryz.prog am 169 (yF k).aW:=bi bf Tryz.func169 (by kernel_rfl) rfl Tryz.ntmps169 (yF k) (by kernel_rfl) [J7 k] (fun _=>.ae 4 (.f (.ae 1 (.FJ (MN k) 0 5000000 [(5000000,15)] [(15,5000000)] (fun _=>.z))))) (by kernel_rfl)
noncomputable def Mt(k:Nat):aF Tryz.prog am:=⟨169,yF k,Su k⟩
noncomputable def Ao(k:Nat):aU:=⟨[gO],[gO],[],fun x=>xy k x⟩
theorem NT(k:Nat):aV Tryz.prog am 130 (Ao k).aW:=bi bf Tryz.func130 (by kernel_rfl) rfl Tryz.ntmps130 (Ao k) (by kernel_rfl) [Mt k] (fun x=>.ae 3 (.bI (MR k) [] [(3500001,8)] (fun v1=>.ae 1 (.bI (WG k) [] [(3500001,12)] (fun v2=>.ae 1 (.ci RN (.ae 1 (.ci SS (.ae 2 (.bg [.ab 23 (.int .i64),.rw 12 127 nd] (aB [1,2,3,22,23] [1,2,3] [8,12]) (fun n=>b7 (zL k v2 v1 x n)) k fun o q=>.ae 2 (.t (.j [.rw 12 127 nd] (aB [1,2,3,22,23] [1,2,3] [8,12]) (xq (dq o) (q.1)) (.ae 3 (.u 0 (.t (.je 16 (.u 0 (.u 0 (.u 0 (.u 0 .z)))))))) (fun _=>.z))))))))))))) (by kernel_rfl)
noncomputable def GN(k:Nat):aF Tryz.prog am:=⟨130,Ao k,NT k⟩
noncomputable def zO(k:Nat):aU:=⟨[bP,gO,.str,.bool],[(.ab .str),(.int .i64)],[],fun x=>Gt (Bool.not (x.2.2.2)) (EN k (x.1) (x.2.1) (x.2.2.1))⟩
theorem Nd(k:Nat):aV Tryz.prog am 99 (zO k).aW:=Xd bf Tryz.func99 (by kernel_rfl) rfl Tryz.ntmps99 (zO k) (by kernel_rfl) [vL k,GN k] [bP,gO,.str] (fun x=>((x.1),(x.2.1),(x.2.2),false)) (fun x=>EN k (x.1) (x.2.1) (x.2.2)) (fun z y h=>by obtain⟨a0,o,a2,a3⟩:=z;obtain⟨q,h⟩:=Wl h;have L:a3=false:=(by cases a3<;>first|rfl|cases q);subst L;exact⟨(a0,o,a2),rfl,h⟩) (fun _=>.ae 6 (.f (.ae 1 (.bI (J1 k) [] [(3500001,29)] (fun _=>.ae 2 (.f (.ae 3 (.c (.ae 1 (.bI (mQ k) [] [(2,41),(14,96),(16,95)] (fun _=>.ae 1 (.jT 29 (.bI (I4 k) [(95,161),(96,162),(41,163)] [(161,95),(162,96),(163,41),(3500001,47)] (fun _=>.z)))))) (.ae 1 (.c (.ae 1 (.bI (mQ k) [] [(2,54),(14,96),(16,95)] (fun _=>.ae 1 (.jT 29 (.bI (uI k) [(95,161),(96,162),(54,163)] [(161,95),(162,96),(163,54),(3500001,60)] (fun _=>.z)))))) (.ae 1 (.dh [[],[0],[1],[1,0],[2,1],[2,1,0],[3,2,1,0],[4,3,2,1,0]] (.ae 1 (.bI (mQ k) [] [(2,66),(14,96),(16,95)] (fun _=>.ae 1 (.ci ta (.ae 1 (.jT 29 (.bI (uI k) [(95,161),(96,162),(66,163)] [(161,95),(162,96),(163,66),(3500001,75)] (fun v9=>.ae 2 (.bg [.ab 80 (.int .i64),.rw 75 9 .str] (aB [12,16,78,79,80] [] [75]) (fun n=>b7 (A9 v9 n)) k fun _ _=>.ae 2 (.t (.ae 3 (.u 0 (.ae 2 (.ci ta (.u 0 (.u 0 .z)))))))))))))))))))))))))))) (by kernel_rfl)
noncomputable def Xk(k:Nat):aF Tryz.prog am:=⟨99,zO k,Nd k⟩
noncomputable def Bf(k:Nat):aU:=⟨[bP,gO,.str],[.str,(.int .i64)],[],fun x=>LF k (x.1) (x.2.1) (x.2.2)⟩
theorem LR(k:Nat):aV Tryz.prog am 83 (Bf k).aW:=bi bf Tryz.func83 (by kernel_rfl) rfl Tryz.ntmps83 (Bf k) (by kernel_rfl) [Xk k] (fun _=>.z) (by kernel_rfl)
noncomputable def Qd(k:Nat):aF Tryz.prog am:=⟨83,Bf k,LR k⟩
noncomputable def Ec(k:Nat):aU:=⟨[bP,.str,mR],[.str,(.ab (.pair (.int .i64) (.pair .str (.pair .str .unit)))),(.int .i64)],[],fun x=>H7 k (x.1) (x.2.1) (x.2.2)⟩
theorem SH(k:Nat):aV Tryz.prog am 49 (Ec k).aW:=bi bf Tryz.func49 (by kernel_rfl) rfl Tryz.ntmps49 (Ec k) (by kernel_rfl) [Qd k] (fun x=>.ae 6 (.bg [.ab 1 .str,.ab 16 (.int .i64),.rw 9 43 (.pair (.int .i64) (.pair .str (.pair .str .unit)))] (aB [1,3,9,14,15,16] [3] [9]) (fun n=>gj (wu k (x.2.2) (x.1) n)) k fun o q=>.ae 2 (.t (.ae 4 (.ac [.str,(.int .i64)] fun v1=>.ae 2 (.f (.j [.rw 9 43 (.pair (.int .i64) (.pair .str (.pair .str .unit)))] (aB [3,9,12,14,15,16] [3] [9]) (vT (gH o) v1 (q.2.1)) .z (fun _=>.z)))))))) (by kernel_rfl)
noncomputable def WO(k:Nat):aF Tryz.prog am:=⟨49,Ec k,SH k⟩
noncomputable def AD(k:Nat):aU:=⟨[bP,mR,.str],[.str,(.int .i64)],[],fun x=>AZ k (x.1) (x.2.1) (x.2.2)⟩
theorem Np(k:Nat):aV Tryz.prog am 17 (AD k).aW:=bi bf Tryz.func17 (by kernel_rfl) rfl Tryz.ntmps17 (AD k) (by kernel_rfl) [Iy k,WO k] (fun _=>.z) (by kernel_rfl)
noncomputable def KN(k:Nat):aF Tryz.prog am:=⟨17,AD k,Np k⟩
noncomputable def Ag(k:Nat):aU:=⟨[bP,ki,.str,(.int .i64)],[.str,(.int .i64)],[],fun x=>me k (x.1) (x.2.1) (x.2.2.1) (x.2.2.2)⟩
theorem WH(k:Nat):aV Tryz.prog am 26 (Ag k).aW:=bi bf Tryz.func26 (by kernel_rfl) rfl Tryz.ntmps26 (Ag k) (by kernel_rfl) [DE k,KN k] (fun _=>.ae 5 (.f (.ae 2 (.bh 5 .z)))) (by kernel_rfl)
noncomputable def KC(k:Nat):aF Tryz.prog am:=⟨26,Ag k,WH k⟩
noncomputable def Ca(k:Nat):bU FM mv where
 n:=97
 S:=fun z=>⟨[(0,.val bP (z.1)),(1,.val gO (z.2.1)),(2,bj (z.2.2.1)),(3,aY (z.2.2.2))],[],[]⟩
 bJ:=fun z y=>⟨[],[],[(3500001,⟨9,.str,(y.2)⟩)]⟩
 ap:=fun z y=>[.row 3500001,ax (y.1)]
 rel:=fun z y=>tt k (z.1) (z.2.1) (z.2.2.1) (z.2.2.2)=some y
theorem Nb(k:Nat):cb Tryz.prog am 99 (Ca k):=dr Tryz.func99 (by kernel_rfl) rfl (Ca k) Tryz.ntmps99 [vL k,GN k] (fun z=>tt k (z.1) (z.2.1) (z.2.2.1) (z.2.2.2)) (fun _ _ h=>h) (fun st=>bu st [.ab 1 (.int .i64),.rw 3500001 9 .str]) [] [3500001] (fun _=>.ae 6 (.c (.ae 2 (.fb [8,9] [] [8] [(8,3500001)])) (.ae 1 (.bI (J1 k) [] [(3500001,29)] (fun _=>.ae 2 (.c (.ae 2 (.fb [8,9] [] [8] [(8,3500001)])) (.ae 3 (.c (.ae 1 (.bI (mQ k) [] [(2,41),(14,96),(16,95)] (fun _=>.ae 1 (.jT 29 (.bI (I4 k) [(95,161),(96,162),(41,163)] [(161,95),(162,96),(163,41),(3500001,47)] (fun _=>.fb [8,9] [] [47] [(47,3500001)])))))) (.ae 1 (.c (.ae 1 (.bI (mQ k) [] [(2,54),(14,96),(16,95)] (fun _=>.ae 1 (.jT 29 (.bI (uI k) [(95,161),(96,162),(54,163)] [(161,95),(162,96),(163,54),(3500001,60)] (fun _=>.fb [8,9] [] [60] [(60,3500001)])))))) (.ae 1 (.dh [[],[0],[1],[1,0],[2,1],[2,1,0],[3,2,1,0],[4,3,2,1,0]] (.ae 1 (.bI (mQ k) [] [(2,66),(14,96),(16,95)] (fun _=>.ae 1 (.ci ta (.ae 1 (.jT 29 (.bI (uI k) [(95,161),(96,162),(66,163)] [(161,95),(162,96),(163,66),(3500001,75)] (fun v9=>.ae 2 (.bg [.ab 80 (.int .i64),.rw 75 9 .str] (aB [12,16,78,79,80] [] [75]) (fun n=>b7 (zb v9 n)) k fun _ _=>.ae 2 (.c (.ae 3 (.u 0 (.ae 2 (.ci ta (.u 0 (.u 0 .z)))))) (.ae 1 (.fb [8,9] [] [75] [(75,3500001)])))))))))))))))))))))))) (by kernel_rfl)
noncomputable def Ns(k:Nat):cD Tryz.prog am FM mv:=⟨99,Ca k,fun st=>bu st [.ab 0 bP,.ab 1 gO,.ab 2 .str,.ab 3 .bool],fun z=>tt k (z.1) (z.2.1) (z.2.2.1) (z.2.2.2),(Nb k),fun _ _ h=>h⟩
noncomputable def wm(k:Nat):aU:=⟨[(.int .i32),(.int .i32),og],[(.int .i64)],[nK],fun x=>Ht k (x.1) (x.2.1) (x.2.2)⟩
theorem Ut(k:Nat):aV Tryz.prog am 102 (wm k).aW:=bi bf Tryz.func102 (by kernel_rfl) rfl Tryz.ntmps102 (wm k) (by kernel_rfl) [] (fun _=>.z) (by kernel_rfl)
noncomputable def GA(k:Nat):aF Tryz.prog am:=⟨102,wm k,Ut k⟩
noncomputable def Bw(k:Nat):aU:=⟨[bl,bl,(.fn 102 (.pair og .unit))],[(.int .i64)],[],fun x=>Jy k (x.1) (x.2.1) (x.2.2)⟩
theorem UP(k:Nat):aV Tryz.prog am 84 (Bw k).aW:=bi bf Tryz.func84 (by kernel_rfl) rfl Tryz.ntmps84 (Bw k) (by kernel_rfl) [GA k] (fun x=>.ae 3 (.bg [.ab 13 (.int .i64)] (aB [0,1,2,11,12,13] [] []) (DR k (x.1) (x.2.1) (x.2.2)) k fun _ _=>.z)) (by kernel_rfl)
noncomputable def Ow(k:Nat):aF Tryz.prog am:=⟨84,Bw k,UP k⟩
noncomputable def C9(k:Nat):aU:=⟨[.str,.str,og],[(.int .i64)],[nK],fun x=>H8 k (x.1) (x.2.1) (x.2.2)⟩
theorem Tl(k:Nat):aV Tryz.prog am 101 (C9 k).aW:=bi bf Tryz.func101 (by kernel_rfl) rfl Tryz.ntmps101 (C9 k) (by kernel_rfl) [GA k,Ow k] (fun _=>.z) (by kernel_rfl)
noncomputable def PM(k:Nat):aF Tryz.prog am:=⟨101,C9 k,Tl k⟩
noncomputable def yS(k:Nat):aU:=⟨[(.int .u64)],[(.int .i64)],[],fun x=>KP k x⟩
theorem Xw(k:Nat):aV Tryz.prog am 179 (yS k).aW:=bi bf Tryz.func179 (by kernel_rfl) rfl Tryz.ntmps179 (yS k) (by kernel_rfl) [] (fun _=>.ae 1 (.j [.ab 0 (.int .u64),.ab 2 (.int .i64)] (aB [0,2] [] []) (b7 Do) .z (fun _=>.j [.ab 0 (.int .u64),.ab 2 (.int .i64)] (aB [0,2] [] []) (b7 A6) .z (fun _=>.j [.ab 0 (.int .u64),.ab 2 (.int .i64)] (aB [0,2] [] []) (b7 xr) .z (fun _=>.z))))) (by kernel_rfl)
noncomputable def OL(k:Nat):aF Tryz.prog am:=⟨179,yS k,Xw k⟩
noncomputable def Cg(k:Nat):aU:=⟨[(.int .u64)],[(.int .i64)],[],fun x=>B8 k x⟩
theorem L0(k:Nat):aV Tryz.prog am 133 (Cg k).aW:=bi bf Tryz.func133 (by kernel_rfl) rfl Tryz.ntmps133 (Cg k) (by kernel_rfl) [OL k] (fun _=>.ae 2 (.F .z)) (by kernel_rfl)
noncomputable def IA(k:Nat):aF Tryz.prog am:=⟨133,Cg k,L0 k⟩
noncomputable def Dh(k:Nat):bU ti cB where
 n:=53
 S:=fun z=>⟨[(0,.row 10000000),(1,ax (z.1)),(2,ax (z.2.1)),(3,.clos 101 [54])],[(54,.cells [.iter 55] 119),(55,.mp (.int .i32) (.int .i64) (z.2.2.1))],[(10000000,⟨9,.str,(z.2.2.2)⟩)]⟩
 bJ:=fun z y=>⟨[],[(54,.cells [.iter 55] 119),(55,.mp (.int .i32) (.int .i64) (y.1))],[(10000000,⟨9,.str,(y.2)⟩)]⟩
 ap:=fun z y=>[]
 rel:=fun z y=>uO k (z.1) (z.2.1) (z.2.2.1) (z.2.2.2)=some y
theorem Rb(k:Nat):cb Tryz.prog am 170 (Dh k):=dr Tryz.func170 (by kernel_rfl) rfl (Dh k) Tryz.ntmps170 [PM k] (fun z=>uO k (z.1) (z.2.1) (z.2.2.1) (z.2.2.2)) (fun _ _ h=>h) (fun st=>bu st [.mp 55 (.int .i32) (.int .i64),.rw 10000000 9 .str]) [54,55] [10000000] (fun z=>.ae 1 (.bg [.ab 8 (.int .i64),.mp 55 (.int .i32) (.int .i64),.rw 10000000 9 .str] (aB [0,1,2,3,8] [54,55] [10000000]) (fun n=>gj (y7 k (z.2.1) (z.1) n)) k fun q o=>.ae 2 (.t (.ae 2 (.bg [.ab 9 (.int .i64),.rw 10000000 9 .str] (aB [0,1,2,3,8,9] [54,55] [10000000]) (fun n=>b7 (Br k (z.1) (o.2.1) (gH q) (o.1) n)) k fun O L=>.ae 3 (.g 12 (BQ (L.2) (L.1) (dq O) (gH q) (o.1) (o.2.1)) (.ae 6 (.u 0 (.ae 6 (.u 0 .z)))) .z (fun _=>.t (.ae 1 (.fO [0,1,2,3,4,5,6,7,8,10,11,12] [9,13,14] [15,16,17] (.ae 2 (.u 1 (.u 0 (.u 0 (.u 0 (.ae 1 (.u 0 .z)))))))))))))))) (by kernel_rfl)
noncomputable def Tg(k:Nat):cD Tryz.prog am ti cB:=⟨170,Dh k,fun st=>bu st [.ab 1 (.int .i64),.ab 2 (.int .i64),.mp 55 (.int .i32) (.int .i64),.rw 10000000 9 .str],fun z=>uO k (z.1) (z.2.1) (z.2.2.1) (z.2.2.2),(Rb k),fun _ _ h=>h⟩
noncomputable def yP(k:Nat):bU r5 cB where
 n:=148
 S:=fun z=>⟨[(0,.row 10000000),(1,ax (z.1)),(2,ax (z.2.1)),(3,ax (z.2.2.1)),(4,.clos 101 [149])],[(149,.cells [.iter 150] 119),(150,.mp (.int .i32) (.int .i64) (z.2.2.2.1))],[(10000000,⟨9,.str,(z.2.2.2.2)⟩)]⟩
 bJ:=fun z y=>⟨[],[(149,.cells [.iter 150] 119),(150,.mp (.int .i32) (.int .i64) (y.1))],[(10000000,⟨9,.str,(y.2)⟩)]⟩
 ap:=fun z y=>[]
 rel:=fun z y=>vD k (z.1) (z.2.1) (z.2.2.1) (z.2.2.2.1) (z.2.2.2.2)=some y
theorem WE(k:Nat):cb Tryz.prog am 132 (yP k):=dr Tryz.func132 (by kernel_rfl) rfl (yP k) Tryz.ntmps132 [] (fun z=>vD k (z.1) (z.2.1) (z.2.2.1) (z.2.2.2.1) (z.2.2.2.2)) (fun _ _ h=>h) (fun st=>bu st [.mp 150 (.int .i32) (.int .i64),.rw 10000000 9 .str]) [149,150] [10000000] (fun z=>.ae 2 (.bg [] (aB [0,1,2,3,4,10,11] [149,150] [10000000]) (fun n=>um (wU k (z.2.1) (z.1) (z.2.2.2.1) (z.2.2.2.2) n)) k fun _ _=>.ae 3 (.c (.ae 1 (.bI (Tg k) [(10000000,10000000),(149,54),(150,55)] [(54,149),(55,150),(10000000,10000000)] (fun _=>.z))) (.gp [999999] [] [] .z)))) (by kernel_rfl)
noncomputable def QH(k:Nat):cD Tryz.prog am r5 cB:=⟨132,yP k,fun st=>bu st [.ab 1 (.int .i64),.ab 2 (.int .i64),.ab 3 (.int .i64),.mp 150 (.int .i32) (.int .i64),.rw 10000000 9 .str],fun z=>vD k (z.1) (z.2.1) (z.2.2.1) (z.2.2.2.1) (z.2.2.2.2),(WE k),fun _ _ h=>h⟩
noncomputable def wI(k:Nat):bU cB cB where
 n:=14
 S:=fun z=>⟨[(0,.row 10000000),(1,.clos 101 [15])],[(15,.cells [.iter 16] 119),(16,.mp (.int .i32) (.int .i64) (z.1))],[(10000000,⟨9,.str,(z.2)⟩)]⟩
 bJ:=fun z y=>⟨[],[(15,.cells [.iter 16] 119),(16,.mp (.int .i32) (.int .i64) (y.1))],[(10000000,⟨9,.str,(y.2)⟩)]⟩
 ap:=fun z y=>[]
 rel:=fun z y=>sJ k (z.1) (z.2)=some y
theorem Vd(k:Nat):cb Tryz.prog am 100 (wI k):=dr Tryz.func100 (by kernel_rfl) rfl (wI k) Tryz.ntmps100 [IA k] (fun z=>sJ k (z.1) (z.2)) (fun _ _ h=>h) (fun st=>bu st [.mp 16 (.int .i32) (.int .i64),.rw 10000000 9 .str]) [15,16] [10000000] (fun _=>.ae 2 (.bI (QH k) [(10000000,10000000),(15,149),(16,150)] [(149,15),(150,16),(10000000,10000000)] (fun _=>.z))) (by kernel_rfl)
noncomputable def Rj(k:Nat):cD Tryz.prog am cB cB:=⟨100,wI k,fun st=>bu st [.mp 16 (.int .i32) (.int .i64),.rw 10000000 9 .str],fun z=>sJ k (z.1) (z.2),(Vd k),fun _ _ h=>h⟩
noncomputable def CB(k:Nat):aU:=⟨[bP,gO,.str],[(.ab .str),(.int .i64)],[],fun x=>GB k (x.1) (x.2.1) (x.2.2)⟩
theorem QZ(k:Nat):aV Tryz.prog am 65 (CB k).aW:=bi bf Tryz.func65 (by kernel_rfl) rfl Tryz.ntmps65 (CB k) (by kernel_rfl) [] (fun x=>.ae 3 (.bI (Ns k) [] [(3500001,19)] (fun v1=>.ae 2 (.f (.ae 3 (.bg [.ab 29 (.int .i64),.mp 25 (.int .i32) (.int .i64)] (aB [8,10,27,28,29] [10,25] [19]) (fun n=>b7 (wO k (x.1) v1 n)) k fun _ _=>.ae 2 (.f (.ae 1 (.bI (Rj k) [(19,10000000),(10,15),(25,16)] [(15,10),(16,25),(10000000,19)] (fun _=>.z)))))))))) (by kernel_rfl)
noncomputable def Nj(k:Nat):aF Tryz.prog am:=⟨65,CB k,QZ k⟩
end Go.Ev
