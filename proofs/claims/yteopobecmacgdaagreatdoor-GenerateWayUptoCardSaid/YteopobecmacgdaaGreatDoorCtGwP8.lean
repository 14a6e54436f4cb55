/- Contracts, by program. -/
import Derived.Test.YteopobecmacgdaaGreatDoorProg
import Derived.Test.YteopobecmacgdaaGreatDoorMM6
import Derived.Test.YteopobecmacgdaaGreatDoorMM8
import Derived.Test.YteopobecmacgdaaGreatDoorCtGwP1
import Derived.Test.YteopobecmacgdaaGreatDoorCtGwP2
import Derived.Test.YteopobecmacgdaaGreatDoorCtGwP3
import Derived.Test.YteopobecmacgdaaGreatDoorCtGwP4
import Derived.Test.YteopobecmacgdaaGreatDoorCtGwP5
import Derived.Test.YteopobecmacgdaaGreatDoorCtGwP7
import Derived.KernelRfl
import Derived.Test.YteopobecmacgdaaGreatDoorTyA
set_option linter.unusedSectionVars false
set_option linter.unusedVariables false
set_option linter.unusedSimpArgs false
namespace Go.Ev
open Go Go.Proofs
set_option linter.unusedVariables false
set_option maxRecDepth 100000
noncomputable def LY(k:Nat):cY bi bi where
 n:=8
 S:=fun z=>⟨[(0,.val ax (z))],[],[]⟩
 bq:=fun z y=>⟨[],[],[(3500001,⟨125,eR,(y)⟩)]⟩
 au:=fun z y=>[.row 3500001]
 rel:=fun z y=>p9 k (z)=some y
noncomputable def TT(k:Nat):Env:=cK Tryz.prog aq 8 []
theorem Sl(k:Nat):dc Tryz.prog aq 165 (LY k):=by
 refine ow (fn:=Tryz.f165) Tryz.func165 (by kernel_rfl) rfl Tryz.ntmps165 ?_
 rintro cx W X Y O R h
 have o:bE (TT k) cx:=kK W X Y
 replace h:p9 k O=some R:=h
 unfold p9 at h
 refine aG (aP (bx o [0] [] [] (orc:=[]) (by kernel_rfl) .n (aF (aG (aG (aP (fm o 1 [0,3] [] [] (orc:=[]) (by kernel_rfl) .n (zq o (d:=4) (u:=eR) (xs:=O) (by kernel_rfl) (by kernel_rfl) fun Z ae=>(iE (aF (db (b:=Z) (by kernel_rfl) (fun U=>?_) (fun U=>?_))))))))))))
 ·replace h:(some ([]:List aH))=some R:=by
   rw[ae U]at h
   exact h
  refine aG (aP (bx o [2] [] [2] (orc:=[]) (by kernel_rfl) .n (aF (eM (df ?_)))))
  replace h:=Option.some.inj h
  subst h
  exact gr [2] [] [2] [(2,3500001)] (by kernel_rfl) (fZ o.P [] [3500001] (.inl rfl) (by kernel_rfl) (by kernel_rfl))
 ·refine dh (aF (aG (aP ?_)))
  obtain⟨_,q,h⟩:=bind_some h
  replace q:=dx q
  refine bx o [2] [] [5] (orc:=[]) (by kernel_rfl) (.c q .n) (aF (eM ?_))
  replace h:=Option.some.inj h
  subst h
  exact gr [2] [] [5] [(5,3500001)] (by kernel_rfl) (fZ o.P [] [3500001] (.inl rfl) (by kernel_rfl) (by kernel_rfl))
noncomputable def Vd(k:Nat):dM Tryz.prog aq bi bi:=⟨165,LY k,fun st=>cF st [.ab 0 ax],fun z=>p9 k (z),(Sl k),fun _ _ h=>h⟩
noncomputable def HX(k:Nat):cY cA cA where
 n:=8
 S:=fun z=>⟨[(0,.val br (z))],[],[]⟩
 bq:=fun z y=>⟨[],[],[(3500001,⟨127,pH,(y)⟩)]⟩
 au:=fun z y=>[.row 3500001]
 rel:=fun z y=>qf k (z)=some y
noncomputable def Up(k:Nat):Env:=cK Tryz.prog aq 8 []
theorem Vw(k:Nat):dc Tryz.prog aq 166 (HX k):=by
 refine ow (fn:=Tryz.f166) Tryz.func166 (by kernel_rfl) rfl Tryz.ntmps166 ?_
 rintro cx W X Y O R h
 have o:bE (Up k) cx:=kK W X Y
 replace h:qf k O=some R:=h
 unfold qf at h
 refine aG (aP (bx o [0] [] [] (orc:=[]) (by kernel_rfl) .n (aF (aG (aG (aP (fm o 1 [0,3] [] [] (orc:=[]) (by kernel_rfl) .n (zq o (d:=4) (u:=pH) (xs:=O) (by kernel_rfl) (by kernel_rfl) fun Z ae=>(iE (aF (db (b:=Z) (by kernel_rfl) (fun U=>?_) (fun U=>?_))))))))))))
 ·replace h:(some ([]:List bM))=some R:=by
   rw[ae U]at h
   exact h
  refine aG (aP (bx o [2] [] [2] (orc:=[]) (by kernel_rfl) .n (aF (eM (df ?_)))))
  replace h:=Option.some.inj h
  subst h
  exact gr [2] [] [2] [(2,3500001)] (by kernel_rfl) (fZ o.P [] [3500001] (.inl rfl) (by kernel_rfl) (by kernel_rfl))
 ·refine dh (aF (aG (aP ?_)))
  obtain⟨_,q,h⟩:=bind_some h
  replace q:=dx q
  refine bx o [2] [] [5] (orc:=[]) (by kernel_rfl) (.c q .n) (aF (eM ?_))
  replace h:=Option.some.inj h
  subst h
  exact gr [2] [] [5] [(5,3500001)] (by kernel_rfl) (fZ o.P [] [3500001] (.inl rfl) (by kernel_rfl) (by kernel_rfl))
noncomputable def Q4(k:Nat):dM Tryz.prog aq cA cA:=⟨166,HX k,fun st=>cF st [.ab 0 br],fun z=>qf k (z),(Vw k),fun _ _ h=>h⟩
noncomputable def L2(k:Nat):cY (List (Int)) (List (Int)) where
 n:=8
 S:=fun z=>⟨[(0,.val (.ab (.int .i64)) (z))],[],[]⟩
 bq:=fun z y=>⟨[],[],[(3500001,⟨3,(.int .i64),(y)⟩)]⟩
 au:=fun z y=>[.row 3500001]
 rel:=fun z y=>qU k (z)=some y
noncomputable def Su(k:Nat):Env:=cK Tryz.prog aq 8 []
theorem P7(k:Nat):dc Tryz.prog aq 206 (L2 k):=by
 refine ow (fn:=Tryz.f206) Tryz.func206 (by kernel_rfl) rfl Tryz.ntmps206 ?_
 rintro cx W X Y O R h
 have o:bE (Su k) cx:=kK W X Y
 replace h:qU k O=some R:=h
 unfold qU at h
 refine aG (aP (bx o [0] [] [] (orc:=[]) (by kernel_rfl) .n (aF (aG (aG (aP (fm o 1 [0,3] [] [] (orc:=[]) (by kernel_rfl) .n (zq o (d:=4) (u:=(.int .i64)) (xs:=O) (by kernel_rfl) (by kernel_rfl) fun Z ae=>(iE (aF (db (b:=Z) (by kernel_rfl) (fun U=>?_) (fun U=>?_))))))))))))
 ·replace h:(some ([]:List (Int)))=some R:=by
   rw[ae U]at h
   exact h
  refine aG (aP (bx o [2] [] [2] (orc:=[]) (by kernel_rfl) .n (aF (eM (df ?_)))))
  replace h:=Option.some.inj h
  subst h
  exact gr [2] [] [2] [(2,3500001)] (by kernel_rfl) (fZ o.P [] [3500001] (.inl rfl) (by kernel_rfl) (by kernel_rfl))
 ·refine dh (aF (aG (aP ?_)))
  obtain⟨_,q,h⟩:=bind_some h
  replace q:=dx q
  refine bx o [2] [] [5] (orc:=[]) (by kernel_rfl) (.c q .n) (aF (eM ?_))
  replace h:=Option.some.inj h
  subst h
  exact gr [2] [] [5] [(5,3500001)] (by kernel_rfl) (fZ o.P [] [3500001] (.inl rfl) (by kernel_rfl) (by kernel_rfl))
noncomputable def Tz(k:Nat):dM Tryz.prog aq (List (Int)) (List (Int)):=⟨206,L2 k,fun st=>cF st [.ab 0 (.ab (.int .i64))],fun z=>qU k (z),(P7 k),fun _ _ h=>h⟩
noncomputable def wF(k:Nat):cY E1 aQ where
 n:=59
 S:=fun z=>⟨[(0,ay (z.1)),(1,.ptr 59 0),(2,.ptr 60 0),(3,.ptr 61 0),(4,.ptr 63 0)],[(59,.cells [.val az (z.2.1)] 56),(60,.cells [aO (z.2.2.1)] 4),(61,.cells [.osl 62] 56),(62,.bu 124 ⟨iF,4,3,(.int .i64)⟩ (z.2.2.2) none),(63,.cells [.clos 205 [59,60,61,63]] 328)],[]⟩
 bq:=fun z y=>⟨[],[(59,.cells [.val az (z.2.1)] 56),(60,.cells [aO (z.2.2.1)] 4),(61,.cells [.osl 62] 56),(62,.bu 124 ⟨iF,4,3,(.int .i64)⟩ (y) none),(63,.cells [.clos 205 [59,60,61,63]] 328)],[]⟩
 au:=fun z y=>[]
 rel:=fun z y=>jW k (z.1) (z.2.1) (z.2.2.1) (z.2.2.2)=some y
noncomputable def MS(k:Nat)(h:dc Tryz.prog aq 205 (wF k)):dM Tryz.prog aq E1 aQ:=⟨205,wF k,fun st=>cF st [.ab 0 (.int .i64),.ad 59 0 az,.ad 60 0 .bool,.bu 62 iF],fun z=>jW k (z.1) (z.2.1) (z.2.2.1) (z.2.2.2),h,fun _ _ h=>h⟩
theorem Gw:∀k:Nat,dc Tryz.prog aq 205 (wF k)
 |0=>Jt Tryz.func205 (by kernel_rfl) rfl _ fun _ _ h=>nomatch (show(none:Option _)=some _ from h)
 |k+1=>fQ Tryz.func205 (by kernel_rfl) rfl (wF (k+1)) Tryz.ntmps205 [] (fun z=>jW (k+1) (z.1) (z.2.1) (z.2.2.1) (z.2.2.2)) (fun _ _ h=>h) (fun st=>cF st [.bu 62 iF]) [59,60,61,62,63] [] (fun z=>.aj 1 (.a iF fun o=>.aj 1 (.cP (Tz k) [] [(3500001,17)] (fun _=>.j [.rw 17 3 (.int .i64)] (aZ [1,2,3,4,6,7] [6,59,60,61,62,63] [17]) (sq k (z.2.2.2) o (jW k) (z.2.1) (z.2.2.1)) (.aj 1 (.bX 3 (.t (.ci VZ .z)))) (fun q=>.aj 5 (.bJ [.ab 38 (.int .i64),.bu 62 iF] (aZ [1,2,3,4,8,36,37,38] [59,60,61,62,63] [17]) (fun n=>cU (vD q (z.2.2.2) (jW k) (z.2.1) (z.2.2.1) n)) k fun _ _=>.aj 2 (.t (.aj 3 (.u 0 (.aj 1 (.dl [[],[0],[1],[2],[3],[7],[1,0],[2,0],[3,0],[7,0],[2,1],[3,1],[7,1],[3,2],[7,2],[7,3],[8,7],[2,1,0],[3,1,0],[7,1,0],[3,2,0],[7,2,0],[7,3,0],[8,7,0],[3,2,1],[7,2,1],[7,3,1],[8,7,1],[4,3,2],[7,3,2],[8,7,2],[8,7,3],[9,8,7],[3,2,1,0],[7,2,1,0],[7,3,1,0],[8,7,1,0],[4,3,2,0],[7,3,2,0],[8,7,2,0],[8,7,3,0],[9,8,7,0],[4,3,2,1],[7,3,2,1],[8,7,2,1],[8,7,3,1],[9,8,7,1],[5,4,3,2],[7,4,3,2],[8,7,3,2],[9,8,7,2],[9,8,7,3],[4,3,2,1,0],[7,3,2,1,0],[8,7,2,1,0],[8,7,3,1,0],[9,8,7,1,0],[5,4,3,2,0],[7,4,3,2,0],[8,7,3,2,0],[9,8,7,2,0],[9,8,7,3,0],[5,4,3,2,1],[7,4,3,2,1],[8,7,3,2,1],[9,8,7,2,1],[9,8,7,3,1],[6,5,4,3,2],[7,5,4,3,2],[8,7,4,3,2],[9,8,7,3,2],[5,4,3,2,1,0],[7,4,3,2,1,0],[8,7,3,2,1,0],[9,8,7,2,1,0],[9,8,7,3,1,0],[6,5,4,3,2,0],[7,5,4,3,2,0],[8,7,4,3,2,0],[9,8,7,3,2,0],[6,5,4,3,2,1],[7,5,4,3,2,1],[8,7,4,3,2,1],[9,8,7,3,2,1],[7,6,5,4,3,2],[8,7,5,4,3,2],[9,8,7,4,3,2],[6,5,4,3,2,1,0],[7,5,4,3,2,1,0],[8,7,4,3,2,1,0],[9,8,7,3,2,1,0],[7,6,5,4,3,2,0],[8,7,5,4,3,2,0],[9,8,7,4,3,2,0],[7,6,5,4,3,2,1],[8,7,5,4,3,2,1],[9,8,7,4,3,2,1],[8,7,6,5,4,3,2],[9,8,7,5,4,3,2],[7,6,5,4,3,2,1,0],[8,7,5,4,3,2,1,0],[9,8,7,4,3,2,1,0],[8,7,6,5,4,3,2,0],[9,8,7,5,4,3,2,0],[8,7,6,5,4,3,2,1],[9,8,7,5,4,3,2,1],[9,8,7,6,5,4,3,2],[8,7,6,5,4,3,2,1,0],[9,8,7,5,4,3,2,1,0],[9,8,7,6,5,4,3,2,0],[9,8,7,6,5,4,3,2,1],[10,9,8,7,6,5,4,3,2],[9,8,7,6,5,4,3,2,1,0],[10,9,8,7,6,5,4,3,2,0],[10,9,8,7,6,5,4,3,2,1],[10,9,8,7,6,5,4,3,2,1,0],[11,10,9,8,7,6,5,4,3,2,1,0],[12,11,10,9,8,7,6,5,4,3,2,1,0],[13,12,11,10,9,8,7,6,5,4,3,2,1,0]] (.aj 1 (.u 0 (.u 0 (.cP (MS k (Gw k)) [(59,59),(60,60),(61,61),(62,62),(63,63)] [(59,59),(60,60),(61,61),(62,62),(63,63)] (fun _=>.z)))))))))))))))) (by kernel_rfl)
noncomputable def PP(k:Nat):dM Tryz.prog aq E1 aQ:=MS k (Gw k)
noncomputable def BN(k:Nat):cY ID aQ where
 n:=15
 S:=fun z=>⟨[(0,.osl 15),(1,.val az (z.1)),(2,ay (z.2.1)),(3,aO (z.2.2.1))],[(15,.bu 124 ⟨iF,4,3,(.int .i64)⟩ (z.2.2.2) none)],[]⟩
 bq:=fun z y=>⟨[],[(15,.bu 124 ⟨iF,4,3,(.int .i64)⟩ (y) none)],[]⟩
 au:=fun z y=>[.osl 15]
 rel:=fun z y=>um k (z.1) (z.2.1) (z.2.2.1) (z.2.2.2)=some y
theorem U4(k:Nat):dc Tryz.prog aq 193 (BN k):=fQ Tryz.func193 (by kernel_rfl) rfl (BN k) Tryz.ntmps193 [] (fun z=>um k (z.1) (z.2.1) (z.2.2.1) (z.2.2.2)) (fun _ _ h=>h) (fun st=>cF st [.bu 15 iF]) [15] [] (fun _=>.aj 5 (.cP (PP k) [(5,59),(7,60),(4,61),(15,62),(9,63)] [(59,5),(60,7),(61,4),(62,15),(63,9)] (fun _=>.z))) (by kernel_rfl)
noncomputable def WP(k:Nat):dM Tryz.prog aq ID aQ:=⟨193,BN k,fun st=>cF st [.ab 1 az,.ab 2 (.int .i64),.ab 3 .bool,.bu 15 iF],fun z=>um k (z.1) (z.2.1) (z.2.2.1) (z.2.2.2),(U4 k),fun _ _ h=>h⟩
noncomputable def Ap(k:Nat):aX:=⟨[kM],[kM,(.int .i64)],[],fun x=>s9 k x⟩
theorem XQ(k:Nat):a8 Tryz.prog aq 169 (Ap k).aW:=bp bl Tryz.func169 (by kernel_rfl) rfl Tryz.ntmps169 (Ap k) (by kernel_rfl) [Lb k] (fun _=>.aj 4 (.f (.aj 1 (.Gt (WP k) 0 5000000 [(5000000,15)] [(15,5000000)] (fun _=>.z))))) (by kernel_rfl)
noncomputable def VM(k:Nat):aL Tryz.prog aq:=⟨169,Ap k,XQ k⟩
noncomputable def Az(k:Nat):aX:=⟨[jK],[jK],[],fun x=>ww k x⟩
theorem WX(k:Nat):a8 Tryz.prog aq 130 (Az k).aW:=bp bl Tryz.func130 (by kernel_rfl) rfl Tryz.ntmps130 (Az k) (by kernel_rfl) [VM k] (fun x=>.aj 3 (.cP (Vd k) [] [(3500001,8)] (fun v1=>.aj 1 (.cP (Q4 k) [] [(3500001,12)] (fun v2=>.aj 1 (.ci RQ (.aj 1 (.ci Vg (.aj 2 (.bJ [.ab 23 (.int .i64),.rw 12 127 pH] (aZ [1,2,3,22,23] [1,2,3] [8,12]) (fun n=>cU (uW k v2 v1 x n)) k fun o q=>.aj 2 (.t (.j [.rw 12 127 pH] (aZ [1,2,3,22,23] [1,2,3] [8,12]) (zm (fy o) (q.1)) (.aj 3 (.u 0 (.t (.nA 16 (.u 0 (.u 0 (.u 0 (.u 0 .z)))))))) (fun _=>.z))))))))))))) (by kernel_rfl)
noncomputable def UO(k:Nat):aL Tryz.prog aq:=⟨130,Az k,WX k⟩
noncomputable def A0(k:Nat):aX:=⟨[cH,jK,.str,.bool],[(.ab .str),(.int .i64)],[],fun x=>Gu (Bool.not (x.2.2.2)) (tA k (x.1) (x.2.1) (x.2.2.1))⟩
theorem P9(k:Nat):a8 Tryz.prog aq 99 (A0 k).aW:=Pa bl Tryz.func99 (by kernel_rfl) rfl Tryz.ntmps99 (A0 k) (by kernel_rfl) [AS k,UO k] [cH,jK,.str] (fun x=>((x.1),(x.2.1),(x.2.2),false)) (fun x=>tA k (x.1) (x.2.1) (x.2.2)) (fun z y h=>by obtain⟨a0,o,a2,a3⟩:=z;obtain⟨q,h⟩:=Rd h;have O:a3=false:=(by cases a3<;>first|rfl|cases q);subst O;exact⟨(a0,o,a2),rfl,h⟩) (fun _=>.aj 6 (.f (.aj 1 (.cP (UR k) [] [(3500001,29)] (fun _=>.aj 2 (.f (.aj 3 (.c (.aj 1 (.cP (wZ k) [] [(2,41),(14,96),(16,95)] (fun _=>.aj 1 (.rq 29 (.cP (QT k) [(95,161),(96,162),(41,163)] [(161,95),(162,96),(163,41),(3500001,47)] (fun _=>.z)))))) (.aj 1 (.c (.aj 1 (.cP (wZ k) [] [(2,54),(14,96),(16,95)] (fun _=>.aj 1 (.rq 29 (.cP (JL k) [(95,161),(96,162),(54,163)] [(161,95),(162,96),(163,54),(3500001,60)] (fun _=>.z)))))) (.aj 1 (.dl [[],[0],[1],[1,0],[2,1],[2,1,0],[3,2,1,0],[4,3,2,1,0]] (.aj 1 (.cP (wZ k) [] [(2,66),(14,96),(16,95)] (fun _=>.aj 1 (.ci Lg (.aj 1 (.rq 29 (.cP (JL k) [(95,161),(96,162),(66,163)] [(161,95),(162,96),(163,66),(3500001,75)] (fun v9=>.aj 2 (.bJ [.ab 80 (.int .i64),.rw 75 9 .str] (aZ [12,16,78,79,80] [] [75]) (fun n=>cU (pT v9 n)) k fun _ _=>.aj 2 (.t (.aj 3 (.u 0 (.aj 2 (.ci Lg (.u 0 (.u 0 .z)))))))))))))))))))))))))))) (by kernel_rfl)
noncomputable def OZ(k:Nat):aL Tryz.prog aq:=⟨99,A0 k,P9 k⟩
noncomputable def Cm(k:Nat):aX:=⟨[cH,jK,.str],[.str,(.int .i64)],[],fun x=>wo k (x.1) (x.2.1) (x.2.2)⟩
theorem U7(k:Nat):a8 Tryz.prog aq 83 (Cm k).aW:=bp bl Tryz.func83 (by kernel_rfl) rfl Tryz.ntmps83 (Cm k) (by kernel_rfl) [OZ k] (fun _=>.z) (by kernel_rfl)
noncomputable def W9(k:Nat):aL Tryz.prog aq:=⟨83,Cm k,U7 k⟩
noncomputable def E3(k:Nat):aX:=⟨[cH,.str,fN],[.str,iD,(.int .i64)],[],fun x=>sA k (x.1) (x.2.1) (x.2.2)⟩
theorem Ug(k:Nat):a8 Tryz.prog aq 49 (E3 k).aW:=bp bl Tryz.func49 (by kernel_rfl) rfl Tryz.ntmps49 (E3 k) (by kernel_rfl) [W9 k] (fun x=>.aj 6 (.bJ [.ab 1 .str,.ab 16 (.int .i64),.rw 9 43 jh] (aZ [1,3,9,14,15,16] [3] [9]) (fun n=>qR (oF k (x.2.2) (x.1) n)) k fun o q=>.aj 2 (.t (.aj 4 (.ac [.str,(.int .i64)] fun v1=>.aj 2 (.f (.j [.rw 9 43 jh] (aZ [3,9,12,14,15,16] [3] [9]) (sn (nI o) v1 (q.2.1)) .z (fun _=>.z)))))))) (by kernel_rfl)
noncomputable def K7(k:Nat):aL Tryz.prog aq:=⟨49,E3 k,Ug k⟩
noncomputable def Ai(k:Nat):aX:=⟨[cH,fN,.str],[.str,(.int .i64)],[],fun x=>kH k (x.1) (x.2.1) (x.2.2)⟩
theorem RB(k:Nat):a8 Tryz.prog aq 17 (Ai k).aW:=bp bl Tryz.func17 (by kernel_rfl) rfl Tryz.ntmps17 (Ai k) (by kernel_rfl) [Ie k,K7 k] (fun _=>.z) (by kernel_rfl)
noncomputable def HG(k:Nat):aL Tryz.prog aq:=⟨17,Ai k,RB k⟩
noncomputable def AX(k:Nat):aX:=⟨[rZ,.str],[.str,(.int .i64)],[],fun x=>qJ k (x.1) (x.2)⟩
theorem OS(k:Nat):a8 Tryz.prog aq 41 (AX k).aW:=bp bl Tryz.func41 (by kernel_rfl) rfl Tryz.ntmps41 (AX k) (by kernel_rfl) [HG k] (fun _=>.z) (by kernel_rfl)
noncomputable def JV(k:Nat):aL Tryz.prog aq:=⟨41,AX k,OS k⟩
noncomputable def AV(k:Nat):aX:=⟨[rZ,(.ab .cE)],[.str,(.int .i64)],[],fun x=>tJ k (x.1) (x.2)⟩
theorem TK(k:Nat):a8 Tryz.prog aq 39 (AV k).aW:=bp bl Tryz.func39 (by kernel_rfl) rfl Tryz.ntmps39 (AV k) (by kernel_rfl) [Ja k,J8 k,JV k] (fun x=>.aj 4 (.bJ [.ab 4 .str,.ab 13 (.int .i64)] (aZ [2,4,11,12,13] [2] []) (fun n=>cU (im k (x.2) (x.1) n)) k fun o q=>.aj 2 (.t (.aj 3 (.j [.ab 4 .str,.ab 5 (.int .i64)] (aZ [2,4,5,11,12,13] [2] []) (cU (mJ (fy o) (q.2))) (.ap 7 74 .z (.ap 7 75 .z (.ap 7 41 .z (.yk [999999] [] [] .z)))) (fun _=>.z)))))) (by kernel_rfl)
noncomputable def I2(k:Nat):aL Tryz.prog aq:=⟨39,AV k,TK k⟩
noncomputable def CR(k:Nat):aX:=⟨[js,(.int .i64),(.int .i64)],[.str,(.int .i64)],[],fun x=>mD k (x.1) (x.2.1) (x.2.2)⟩
theorem QV(k:Nat):a8 Tryz.prog aq 12 (CR k).aW:=bp bl Tryz.func12 (by kernel_rfl) rfl Tryz.ntmps12 (CR k) (by kernel_rfl) [BD k,I2 k] (fun _=>.aj 5 (.f (.aj 1 (.dl [[],[0],[1],[2],[1,0],[2,0],[2,1],[2,1,0],[3,2,1],[3,2,1,0],[4,3,2,1,0],[5,4,3,2,1,0],[6,4,3,2,1,0],[6,5,4,3,2,1,0],[7,6,5,4,3,2,1,0],[8,7,6,5,4,3,2,1,0]] (.cP (O0 k) [] [(1,21)] (fun _=>.z)))))) (by kernel_rfl)
noncomputable def LC(k:Nat):aL Tryz.prog aq:=⟨12,CR k,QV k⟩
noncomputable def Bv(k:Nat):aX:=⟨[],[.bool],[],fun _=>zL k⟩
theorem P2(k:Nat):a8 Tryz.prog aq 10 (Bv k).aW:=bp bl Tryz.func10 (by kernel_rfl) rfl Tryz.ntmps10 (Bv k) (by kernel_rfl) [TD k,LC k] (fun _=>.aj 5 (.bX 2 .z)) (by kernel_rfl)
noncomputable def S5(k:Nat):aL Tryz.prog aq:=⟨10,Bv k,P2 k⟩
noncomputable def Bc(k:Nat):aX:=⟨[js],[.bool],[],fun x=>yc k x⟩
theorem Vl(k:Nat):a8 Tryz.prog aq 11 (Bc k).aW:=bp bl Tryz.func11 (by kernel_rfl) rfl Tryz.ntmps11 (Bc k) (by kernel_rfl) [] (fun x=>.aj 4 (.bJ [.ab 3 (.int .i64),.ab 4 (.int .i64)] (aZ [1,3,4] [1] []) (fun n=>cU (tK x n)) k fun _ _=>.aj 2 (.bX 2 (.f (.aj 1 (.iG 10 [.ab 38 .bool] (aZ [1,38] [1] []) (sG x) .z (.aj 5 (.bX 4 .z)) (fun _=>.iG 10 [.ab 50 .bool] (aZ [1,50] [1] []) (sc x) .z (.aj 5 (.bX 4 .z)) (fun _=>.iG 10 [.ab 62 .bool] (aZ [62] [] []) wb .z (.aj 5 (.bX 4 .z)) (fun _=>.z))))))))) (by kernel_rfl)
noncomputable def Wa(k:Nat):aL Tryz.prog aq:=⟨11,Bc k,Vl k⟩
noncomputable def Cd(k:Nat):aX:=⟨[],[(.ab .cE)],[],fun _=>tB k⟩
theorem Xk(k:Nat):a8 Tryz.prog aq 40 (Cd k).aW:=bp bl Tryz.func40 (by kernel_rfl) rfl Tryz.ntmps40 (Cd k) (by kernel_rfl) [] (fun _=>.z) (by kernel_rfl)
noncomputable def H5(k:Nat):aL Tryz.prog aq:=⟨40,Cd k,Xk k⟩
noncomputable def A4(k:Nat):aX:=⟨[cH,fN,.str],[iD,(.int .i64)],[],fun x=>zd k (x.1) (x.2.1) (x.2.2)⟩
theorem WL(k:Nat):a8 Tryz.prog aq 42 (A4 k).aW:=bp bl Tryz.func42 (by kernel_rfl) rfl Tryz.ntmps42 (A4 k) (by kernel_rfl) [Ie k,K7 k] (fun _=>.z) (by kernel_rfl)
noncomputable def NN(k:Nat):aL Tryz.prog aq:=⟨42,A4 k,WL k⟩
noncomputable def Dz(k:Nat):aX:=⟨[js,(.int .i64),(.int .i64)],[iD,(.int .i64)],[],fun x=>nt k (x.1) (x.2.1) (x.2.2)⟩
theorem Wq(k:Nat):a8 Tryz.prog aq 13 (Dz k).aW:=bp bl Tryz.func13 (by kernel_rfl) rfl Tryz.ntmps13 (Dz k) (by kernel_rfl) [BD k,H5 k,Ja k,J8 k,JV k,NN k] (fun x=>.aj 3 (.ac [rZ,(.int .i64)] fun v1=>.aj 2 (.f (.aj 5 (.ac [(.ab .cE)] fun v2=>.bJ [.ab 11 .str,.ab 32 (.int .i64),.rw 10 43 jh] (aZ [3,8,10,11,30,31,32] [3,8] [10]) (fun n=>qR (pf k v2 v1 (x.1) n)) k fun q o=>.aj 2 (.t (.aj 3 (.j [.ab 14 .str,.ab 15 (.int .i64)] (aZ [3,8,10,11,12,14,15,30,31,32] [3,8] [10]) (cU (nx (o.1) (o.2.2) (o.2.1) (nI q))) (.ap 13 74 .z (.ap 13 75 .z (.ap 13 41 .z (.yk [999999] [] [] .z)))) (fun O=>.aj 2 (.f (.j [.rw 10 43 jh] (aZ [3,8,10,14,30,31,32] [3,8] [10]) (yl (nI q) (O.1) (o.2.1)) .z (fun _=>.z)))))))))))) (by kernel_rfl)
noncomputable def QS(k:Nat):aL Tryz.prog aq:=⟨13,Dz k,Wq k⟩
noncomputable def A5(k:Nat):aX:=⟨[js,(.int .i64),(.int .i64)],[.str,(.int .i64)],[],fun x=>uh k (x.1) (x.2.1) (x.2.2)⟩
theorem Qm(k:Nat):a8 Tryz.prog aq 16 (A5 k).aW:=bp bl Tryz.func16 (by kernel_rfl) rfl Tryz.ntmps16 (A5 k) (by kernel_rfl) [BD k,H5 k,I2 k] (fun _=>.aj 5 (.f (.aj 1 (.dl [[],[0],[1],[1,0],[2,1,0],[3,2,1,0],[4,2,1,0],[4,3,2,1,0],[5,4,3,2,1,0],[6,5,4,3,2,1,0]] .z)))) (by kernel_rfl)
noncomputable def Oy(k:Nat):aL Tryz.prog aq:=⟨16,A5 k,Qm k⟩
end Go.Ev
