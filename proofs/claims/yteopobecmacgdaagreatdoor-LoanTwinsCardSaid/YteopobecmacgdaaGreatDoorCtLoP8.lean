/- Contracts, by program. -/
import Derived.Test.YteopobecmacgdaaGreatDoorProg
import Derived.Test.YteopobecmacgdaaGreatDoorMM6
import Derived.Test.YteopobecmacgdaaGreatDoorMM9
import Derived.Test.YteopobecmacgdaaGreatDoorMM10
import Derived.Test.YteopobecmacgdaaGreatDoorCtLoP2
import Derived.Test.YteopobecmacgdaaGreatDoorCtLoP3
import Derived.Test.YteopobecmacgdaaGreatDoorCtLoP5
import Derived.Test.YteopobecmacgdaaGreatDoorCtLoP7
import Derived.KernelRfl
import Derived.Test.YteopobecmacgdaaGreatDoorTyA
set_option linter.unusedSectionVars false
set_option linter.unusedVariables false
set_option linter.unusedSimpArgs false
namespace Go.Ev
open Go Go.Proofs
set_option linter.unusedVariables false
set_option maxRecDepth 100000
noncomputable def Ov(k:Nat):b8 aK aK where
 n:=8
 S:=fun z=>⟨[(0,.val av (z))],[],[]⟩
 bg:=fun z y=>⟨[],[],[(3500001,⟨125,eh,(y)⟩)]⟩
 aq:=fun z y=>[.row 3500001]
 rel:=fun z y=>rh k (z)=some y
noncomputable def aaa(k:Nat):Env:=cC Tryz.prog am 8 []
theorem ab8(k:Nat):cq Tryz.prog am 165 (Ov k):=by
 refine pb (fn:=Tryz.f165) Tryz.func165 (by kernel_rfl) rfl Tryz.ntmps165 ?_
 rintro cx W Y Z O R h
 have o:bE (aaa k) cx:=jy W Y Z
 replace h:rh k O=some R:=h
 unfold rh at h
 refine aM (aZ (bK o [0] [] [] (orc:=[]) (by kernel_rfl) .n (aN (aM (aM (aZ (jK o 1 [0,3] [] [] (orc:=[]) (by kernel_rfl) .n (GS o (d:=4) (u:=eh) (xs:=O) (by kernel_rfl) (by kernel_rfl) fun la lb=>(kN (aN (dI (b:=la) (by kernel_rfl) (fun U=>?_) (fun U=>?_))))))))))))
 ·replace h:(some ([]:List ax))=some R:=by
   rw[lb U]at h
   exact h
  refine aM (aZ (bK o [2] [] [2] (orc:=[]) (by kernel_rfl) .n (aN (ft (dX ?_)))))
  replace h:=Option.some.inj h
  subst h
  exact gW [2] [] [2] [(2,3500001)] (by kernel_rfl) (fN o.P [] [3500001] (.inl rfl) (by kernel_rfl) (by kernel_rfl))
 ·refine dV (aN (aM (aZ ?_)))
  obtain⟨_,q,h⟩:=bind_some h
  replace q:=dH q
  refine bK o [2] [] [5] (orc:=[]) (by kernel_rfl) (.c q .n) (aN (ft ?_))
  replace h:=Option.some.inj h
  subst h
  exact gW [2] [] [5] [(5,3500001)] (by kernel_rfl) (fN o.P [] [3500001] (.inl rfl) (by kernel_rfl) (by kernel_rfl))
noncomputable def UK(k:Nat):cX Tryz.prog am aK aK:=⟨165,Ov k,fun st=>bz st [.ab 0 av],fun z=>rh k (z),(ab8 k),fun _ _ h=>h⟩
noncomputable def Lb(k:Nat):b8 cB cB where
 n:=8
 S:=fun z=>⟨[(0,.val bt (z))],[],[]⟩
 bg:=fun z y=>⟨[],[],[(3500001,⟨127,pp,(y)⟩)]⟩
 aq:=fun z y=>[.row 3500001]
 rel:=fun z y=>rr k (z)=some y
noncomputable def aaJ(k:Nat):Env:=cC Tryz.prog am 8 []
theorem SN(k:Nat):cq Tryz.prog am 166 (Lb k):=by
 refine pb (fn:=Tryz.f166) Tryz.func166 (by kernel_rfl) rfl Tryz.ntmps166 ?_
 rintro cx W Y Z O R h
 have o:bE (aaJ k) cx:=jy W Y Z
 replace h:rr k O=some R:=h
 unfold rr at h
 refine aM (aZ (bK o [0] [] [] (orc:=[]) (by kernel_rfl) .n (aN (aM (aM (aZ (jK o 1 [0,3] [] [] (orc:=[]) (by kernel_rfl) .n (GS o (d:=4) (u:=pp) (xs:=O) (by kernel_rfl) (by kernel_rfl) fun la lb=>(kN (aN (dI (b:=la) (by kernel_rfl) (fun U=>?_) (fun U=>?_))))))))))))
 ·replace h:(some ([]:List bP))=some R:=by
   rw[lb U]at h
   exact h
  refine aM (aZ (bK o [2] [] [2] (orc:=[]) (by kernel_rfl) .n (aN (ft (dX ?_)))))
  replace h:=Option.some.inj h
  subst h
  exact gW [2] [] [2] [(2,3500001)] (by kernel_rfl) (fN o.P [] [3500001] (.inl rfl) (by kernel_rfl) (by kernel_rfl))
 ·refine dV (aN (aM (aZ ?_)))
  obtain⟨_,q,h⟩:=bind_some h
  replace q:=dH q
  refine bK o [2] [] [5] (orc:=[]) (by kernel_rfl) (.c q .n) (aN (ft ?_))
  replace h:=Option.some.inj h
  subst h
  exact gW [2] [] [5] [(5,3500001)] (by kernel_rfl) (fN o.P [] [3500001] (.inl rfl) (by kernel_rfl) (by kernel_rfl))
noncomputable def Vr(k:Nat):cX Tryz.prog am cB cB:=⟨166,Lb k,fun st=>bz st [.ab 0 bt],fun z=>rr k (z),(SN k),fun _ _ h=>h⟩
noncomputable def OI(k:Nat):b8 (List (Int)) (List (Int)) where
 n:=8
 S:=fun z=>⟨[(0,.val fL (z))],[],[]⟩
 bg:=fun z y=>⟨[],[],[(3500001,⟨3,(.int .i64),(y)⟩)]⟩
 aq:=fun z y=>[.row 3500001]
 rel:=fun z y=>pT k (z)=some y
noncomputable def Wu(k:Nat):Env:=cC Tryz.prog am 8 []
theorem RZ(k:Nat):cq Tryz.prog am 206 (OI k):=by
 refine pb (fn:=Tryz.f206) Tryz.func206 (by kernel_rfl) rfl Tryz.ntmps206 ?_
 rintro cx W Y Z O R h
 have o:bE (Wu k) cx:=jy W Y Z
 replace h:pT k O=some R:=h
 unfold pT at h
 refine aM (aZ (bK o [0] [] [] (orc:=[]) (by kernel_rfl) .n (aN (aM (aM (aZ (jK o 1 [0,3] [] [] (orc:=[]) (by kernel_rfl) .n (GS o (d:=4) (u:=(.int .i64)) (xs:=O) (by kernel_rfl) (by kernel_rfl) fun la lb=>(kN (aN (dI (b:=la) (by kernel_rfl) (fun U=>?_) (fun U=>?_))))))))))))
 ·replace h:(some ([]:List (Int)))=some R:=by
   rw[lb U]at h
   exact h
  refine aM (aZ (bK o [2] [] [2] (orc:=[]) (by kernel_rfl) .n (aN (ft (dX ?_)))))
  replace h:=Option.some.inj h
  subst h
  exact gW [2] [] [2] [(2,3500001)] (by kernel_rfl) (fN o.P [] [3500001] (.inl rfl) (by kernel_rfl) (by kernel_rfl))
 ·refine dV (aN (aM (aZ ?_)))
  obtain⟨_,q,h⟩:=bind_some h
  replace q:=dH q
  refine bK o [2] [] [5] (orc:=[]) (by kernel_rfl) (.c q .n) (aN (ft ?_))
  replace h:=Option.some.inj h
  subst h
  exact gW [2] [] [5] [(5,3500001)] (by kernel_rfl) (fN o.P [] [3500001] (.inl rfl) (by kernel_rfl) (by kernel_rfl))
noncomputable def Z0(k:Nat):cX Tryz.prog am (List (Int)) (List (Int)):=⟨206,OI k,fun st=>bz st [.ab 0 fL],fun z=>pT k (z),(RZ k),fun _ _ h=>h⟩
noncomputable def yh(k:Nat):b8 C7 aO where
 n:=59
 S:=fun z=>⟨[(0,ay (z.1)),(1,.ptr 59 0),(2,.ptr 60 0),(3,.ptr 61 0),(4,.ptr 63 0)],[(59,.cells [.val aw (z.2.1)] 56),(60,.cells [a8 (z.2.2.1)] 4),(61,.cells [.osl 62] 56),(62,.bw 124 ⟨iP,4,3,(.int .i64)⟩ (z.2.2.2) none),(63,.cells [.clos 205 [59,60,61,63]] 328)],[]⟩
 bg:=fun z y=>⟨[],[(59,.cells [.val aw (z.2.1)] 56),(60,.cells [a8 (z.2.2.1)] 4),(61,.cells [.osl 62] 56),(62,.bw 124 ⟨iP,4,3,(.int .i64)⟩ (y) none),(63,.cells [.clos 205 [59,60,61,63]] 328)],[]⟩
 aq:=fun z y=>[]
 rel:=fun z y=>jO k (z.1) (z.2.1) (z.2.2.1) (z.2.2.2)=some y
noncomputable def ML(k:Nat)(h:cq Tryz.prog am 205 (yh k)):cX Tryz.prog am C7 aO:=⟨205,yh k,fun st=>bz st [.ab 0 (.int .i64),.ae 59 0 aw,.ae 60 0 .bool,.bw 62 iP],fun z=>jO k (z.1) (z.2.1) (z.2.2.1) (z.2.2.2),h,fun _ _ h=>h⟩
theorem MD:∀k:Nat,cq Tryz.prog am 205 (yh k)
 |0=>CQ Tryz.func205 (by kernel_rfl) rfl _ fun _ _ h=>nomatch (show(none:Option _)=some _ from h)
 |k+1=>dO Tryz.func205 (by kernel_rfl) rfl (yh (k+1)) Tryz.ntmps205 [] (fun z=>jO (k+1) (z.1) (z.2.1) (z.2.2.1) (z.2.2.2)) (fun _ _ h=>h) (fun st=>bz st [.bw 62 iP]) [59,60,61,62,63] [] (fun z=>.ad 1 (.a iP fun o=>.ad 1 (.bQ (Z0 k) [] [(3500001,17)] (fun _=>.j [.rw 17 3 (.int .i64)] (aB [1,2,3,4,6,7] [6,59,60,61,62,63] [17]) (uj k (z.2.2.2) o (jO k) (z.2.1) (z.2.2.1)) (.ad 1 (.bc 3 (.t (.ci aaO .z)))) (fun q=>.ad 5 (.bi [.ab 38 (.int .i64),.bw 62 iP] (aB [1,2,3,4,8,36,37,38] [59,60,61,62,63] [17]) (fun n=>cg (sm q (z.2.2.2) (jO k) (z.2.1) (z.2.2.1) n)) k fun _ _=>.ad 2 (.t (.ad 3 (.u 0 (.ad 1 (.cT [[],[0],[1],[2],[3],[7],[1,0],[2,0],[3,0],[7,0],[2,1],[3,1],[7,1],[3,2],[7,2],[7,3],[8,7],[2,1,0],[3,1,0],[7,1,0],[3,2,0],[7,2,0],[7,3,0],[8,7,0],[3,2,1],[7,2,1],[7,3,1],[8,7,1],[4,3,2],[7,3,2],[8,7,2],[8,7,3],[9,8,7],[3,2,1,0],[7,2,1,0],[7,3,1,0],[8,7,1,0],[4,3,2,0],[7,3,2,0],[8,7,2,0],[8,7,3,0],[9,8,7,0],[4,3,2,1],[7,3,2,1],[8,7,2,1],[8,7,3,1],[9,8,7,1],[5,4,3,2],[7,4,3,2],[8,7,3,2],[9,8,7,2],[9,8,7,3],[4,3,2,1,0],[7,3,2,1,0],[8,7,2,1,0],[8,7,3,1,0],[9,8,7,1,0],[5,4,3,2,0],[7,4,3,2,0],[8,7,3,2,0],[9,8,7,2,0],[9,8,7,3,0],[5,4,3,2,1],[7,4,3,2,1],[8,7,3,2,1],[9,8,7,2,1],[9,8,7,3,1],[6,5,4,3,2],[7,5,4,3,2],[8,7,4,3,2],[9,8,7,3,2],[5,4,3,2,1,0],[7,4,3,2,1,0],[8,7,3,2,1,0],[9,8,7,2,1,0],[9,8,7,3,1,0],[6,5,4,3,2,0],[7,5,4,3,2,0],[8,7,4,3,2,0],[9,8,7,3,2,0],[6,5,4,3,2,1],[7,5,4,3,2,1],[8,7,4,3,2,1],[9,8,7,3,2,1],[7,6,5,4,3,2],[8,7,5,4,3,2],[9,8,7,4,3,2],[6,5,4,3,2,1,0],[7,5,4,3,2,1,0],[8,7,4,3,2,1,0],[9,8,7,3,2,1,0],[7,6,5,4,3,2,0],[8,7,5,4,3,2,0],[9,8,7,4,3,2,0],[7,6,5,4,3,2,1],[8,7,5,4,3,2,1],[9,8,7,4,3,2,1],[8,7,6,5,4,3,2],[9,8,7,5,4,3,2],[7,6,5,4,3,2,1,0],[8,7,5,4,3,2,1,0],[9,8,7,4,3,2,1,0],[8,7,6,5,4,3,2,0],[9,8,7,5,4,3,2,0],[8,7,6,5,4,3,2,1],[9,8,7,5,4,3,2,1],[9,8,7,6,5,4,3,2],[8,7,6,5,4,3,2,1,0],[9,8,7,5,4,3,2,1,0],[9,8,7,6,5,4,3,2,0],[9,8,7,6,5,4,3,2,1],[10,9,8,7,6,5,4,3,2],[9,8,7,6,5,4,3,2,1,0],[10,9,8,7,6,5,4,3,2,0],[10,9,8,7,6,5,4,3,2,1],[10,9,8,7,6,5,4,3,2,1,0],[11,10,9,8,7,6,5,4,3,2,1,0],[12,11,10,9,8,7,6,5,4,3,2,1,0],[13,12,11,10,9,8,7,6,5,4,3,2,1,0]] (.ad 1 (.u 0 (.u 0 (.bQ (ML k (MD k)) [(59,59),(60,60),(61,61),(62,62),(63,63)] [(59,59),(60,60),(61,61),(62,62),(63,63)] (fun _=>.z)))))))))))))))) (by kernel_rfl)
noncomputable def Ro(k:Nat):cX Tryz.prog am C7 aO:=ML k (MD k)
noncomputable def B4(k:Nat):b8 LY aO where
 n:=15
 S:=fun z=>⟨[(0,.osl 15),(1,.val aw (z.1)),(2,ay (z.2.1)),(3,a8 (z.2.2.1))],[(15,.bw 124 ⟨iP,4,3,(.int .i64)⟩ (z.2.2.2) none)],[]⟩
 bg:=fun z y=>⟨[],[(15,.bw 124 ⟨iP,4,3,(.int .i64)⟩ (y) none)],[]⟩
 aq:=fun z y=>[.osl 15]
 rel:=fun z y=>tP k (z.1) (z.2.1) (z.2.2.1) (z.2.2.2)=some y
theorem Ub(k:Nat):cq Tryz.prog am 193 (B4 k):=dO Tryz.func193 (by kernel_rfl) rfl (B4 k) Tryz.ntmps193 [] (fun z=>tP k (z.1) (z.2.1) (z.2.2.1) (z.2.2.2)) (fun _ _ h=>h) (fun st=>bz st [.bw 15 iP]) [15] [] (fun _=>.ad 5 (.bQ (Ro k) [(5,59),(7,60),(4,61),(15,62),(9,63)] [(59,5),(60,7),(61,4),(62,15),(63,9)] (fun _=>.z))) (by kernel_rfl)
noncomputable def V8(k:Nat):cX Tryz.prog am LY aO:=⟨193,B4 k,fun st=>bz st [.ab 1 aw,.ab 2 (.int .i64),.ab 3 .bool,.bw 15 iP],fun z=>tP k (z.1) (z.2.1) (z.2.2.1) (z.2.2.2),(Ub k),fun _ _ h=>h⟩
noncomputable def AA(k:Nat):aS:=⟨[kD],[kD,(.int .i64)],[],fun x=>tR k x⟩
theorem P9(k:Nat):aV Tryz.prog am 169 (AA k).aT:=bl bk Tryz.func169 (by kernel_rfl) rfl Tryz.ntmps169 (AA k) (by kernel_rfl) [Jh k] (fun _=>.ad 4 (.f (.ad 1 (.Kh (V8 k) 0 5000000 [(5000000,15)] [(15,5000000)] (fun _=>.z))))) (by kernel_rfl)
noncomputable def Sk(k:Nat):aG Tryz.prog am:=⟨169,AA k,P9 k⟩
noncomputable def D2(k:Nat):aS:=⟨[ic],[ic],[],fun x=>sf k x⟩
theorem YQ(k:Nat):aV Tryz.prog am 130 (D2 k).aT:=bl bk Tryz.func130 (by kernel_rfl) rfl Tryz.ntmps130 (D2 k) (by kernel_rfl) [Sk k] (fun x=>.ad 3 (.bQ (UK k) [] [(3500001,8)] (fun v1=>.ad 1 (.bQ (Vr k) [] [(3500001,12)] (fun v2=>.ad 1 (.ci W5 (.ad 1 (.ci ab1 (.ad 2 (.bi [.ab 23 (.int .i64),.rw 12 127 pp] (aB [1,2,3,22,23] [1,2,3] [8,12]) (fun n=>cg (uh k v2 v1 x n)) k fun o q=>.ad 2 (.t (.j [.rw 12 127 pp] (aB [1,2,3,22,23] [1,2,3] [8,12]) (zH (dF o) (q.1)) (.ad 3 (.u 0 (.t (.jN 16 (.u 0 (.u 0 (.u 0 (.u 0 .z)))))))) (fun _=>.z))))))))))))) (by kernel_rfl)
noncomputable def On(k:Nat):aG Tryz.prog am:=⟨130,D2 k,YQ k⟩
noncomputable def CR(k:Nat):aS:=⟨[bV,ic,.str,.bool],[(.ab .str),(.int .i64)],[],fun x=>Lv (Bool.not (x.2.2.2)) (uD k (x.1) (x.2.1) (x.2.2.1))⟩
theorem Vp(k:Nat):aV Tryz.prog am 99 (CR k).aT:=Zj bk Tryz.func99 (by kernel_rfl) rfl Tryz.ntmps99 (CR k) (by kernel_rfl) [yr k,On k] [bV,ic,.str] (fun x=>((x.1),(x.2.1),(x.2.2),false)) (fun x=>uD k (x.1) (x.2.1) (x.2.2)) (fun z y h=>by obtain⟨a0,o,a2,a3⟩:=z;obtain⟨q,h⟩:=ace h;have O:a3=false:=(by cases a3<;>first|rfl|cases q);subst O;exact⟨(a0,o,a2),rfl,h⟩) (fun _=>.ad 6 (.f (.ad 1 (.bQ (Jg k) [] [(3500001,29)] (fun _=>.ad 2 (.f (.ad 3 (.c (.ad 1 (.bQ (oI k) [] [(2,41),(14,96),(16,95)] (fun _=>.ad 1 (.mV 29 (.bQ (J4 k) [(95,161),(96,162),(41,163)] [(161,95),(162,96),(163,41),(3500001,47)] (fun _=>.z)))))) (.ad 1 (.c (.ad 1 (.bQ (oI k) [] [(2,54),(14,96),(16,95)] (fun _=>.ad 1 (.mV 29 (.bQ (wU k) [(95,161),(96,162),(54,163)] [(161,95),(162,96),(163,54),(3500001,60)] (fun _=>.z)))))) (.ad 1 (.cT [[],[0],[1],[1,0],[2,1],[2,1,0],[3,2,1,0],[4,3,2,1,0]] (.ad 1 (.bQ (oI k) [] [(2,66),(14,96),(16,95)] (fun _=>.ad 1 (.ci xe (.ad 1 (.mV 29 (.bQ (wU k) [(95,161),(96,162),(66,163)] [(161,95),(162,96),(163,66),(3500001,75)] (fun v9=>.ad 2 (.bi [.ab 80 (.int .i64),.rw 75 9 .str] (aB [12,16,78,79,80] [] [75]) (fun n=>cg (qX v9 n)) k fun _ _=>.ad 2 (.t (.ad 3 (.u 0 (.ad 2 (.ci xe (.u 0 (.u 0 .z)))))))))))))))))))))))))))) (by kernel_rfl)
noncomputable def Yk(k:Nat):aG Tryz.prog am:=⟨99,CR k,Vp k⟩
noncomputable def Eo(k:Nat):aS:=⟨[bV,ic,.str],[.str,(.int .i64)],[],fun x=>yN k (x.1) (x.2.1) (x.2.2)⟩
theorem aby(k:Nat):aV Tryz.prog am 83 (Eo k).aT:=bl bk Tryz.func83 (by kernel_rfl) rfl Tryz.ntmps83 (Eo k) (by kernel_rfl) [Yk k] (fun _=>.z) (by kernel_rfl)
noncomputable def aca(k:Nat):aG Tryz.prog am:=⟨83,Eo k,aby k⟩
noncomputable def De(k:Nat):aS:=⟨[bV,.str,mN],[.str,(.ab (.pair (.int .i64) (.pair .str (.pair .str .unit)))),(.int .i64)],[],fun x=>CY k (x.1) (x.2.1) (x.2.2)⟩
theorem Sn(k:Nat):aV Tryz.prog am 49 (De k).aT:=bl bk Tryz.func49 (by kernel_rfl) rfl Tryz.ntmps49 (De k) (by kernel_rfl) [aca k] (fun x=>.ad 6 (.bi [.ab 1 .str,.ab 16 (.int .i64),.rw 9 43 (.pair (.int .i64) (.pair .str (.pair .str .unit)))] (aB [1,3,9,14,15,16] [3] [9]) (fun n=>gD (u9 k (x.2.2) (x.1) n)) k fun o q=>.ad 2 (.t (.ad 4 (.ac [.str,(.int .i64)] fun v1=>.ad 2 (.f (.j [.rw 9 43 (.pair (.int .i64) (.pair .str (.pair .str .unit)))] (aB [3,9,12,14,15,16] [3] [9]) (zG (gM o) v1 (q.2.1)) .z (fun _=>.z)))))))) (by kernel_rfl)
noncomputable def XJ(k:Nat):aG Tryz.prog am:=⟨49,De k,Sn k⟩
noncomputable def Ff(k:Nat):aS:=⟨[bV,mN,.str],[.str,(.int .i64)],[],fun x=>mq k (x.1) (x.2.1) (x.2.2)⟩
theorem Qk(k:Nat):aV Tryz.prog am 17 (Ff k).aT:=bl bk Tryz.func17 (by kernel_rfl) rfl Tryz.ntmps17 (Ff k) (by kernel_rfl) [KC k,XJ k] (fun _=>.z) (by kernel_rfl)
noncomputable def Og(k:Nat):aG Tryz.prog am:=⟨17,Ff k,Qk k⟩
noncomputable def CT(k:Nat):aS:=⟨[bV,iG,.str,(.int .i64)],[.str,(.int .i64)],[],fun x=>jJ k (x.1) (x.2.1) (x.2.2.1) (x.2.2.2)⟩
theorem UY(k:Nat):aV Tryz.prog am 26 (CT k).aT:=bl bk Tryz.func26 (by kernel_rfl) rfl Tryz.ntmps26 (CT k) (by kernel_rfl) [Gc k,Og k] (fun _=>.ad 5 (.f (.ad 2 (.bc 5 .z)))) (by kernel_rfl)
noncomputable def Ds(k:Nat):aG Tryz.prog am:=⟨26,CT k,UY k⟩
noncomputable def D9(k:Nat):b8 Jk nD where
 n:=97
 S:=fun z=>⟨[(0,.val bV (z.1)),(1,.val ic (z.2.1)),(2,bo (z.2.2.1)),(3,a8 (z.2.2.2))],[],[]⟩
 bg:=fun z y=>⟨[],[],[(3500001,⟨9,.str,(y.2)⟩)]⟩
 aq:=fun z y=>[.row 3500001,ay (y.1)]
 rel:=fun z y=>zn k (z.1) (z.2.1) (z.2.2.1) (z.2.2.2)=some y
theorem TK(k:Nat):cq Tryz.prog am 99 (D9 k):=dO Tryz.func99 (by kernel_rfl) rfl (D9 k) Tryz.ntmps99 [yr k,On k] (fun z=>zn k (z.1) (z.2.1) (z.2.2.1) (z.2.2.2)) (fun _ _ h=>h) (fun st=>bz st [.ab 1 (.int .i64),.rw 3500001 9 .str]) [] [3500001] (fun _=>.ad 6 (.c (.ad 2 (.fJ [8,9] [] [8] [(8,3500001)])) (.ad 1 (.bQ (Jg k) [] [(3500001,29)] (fun _=>.ad 2 (.c (.ad 2 (.fJ [8,9] [] [8] [(8,3500001)])) (.ad 3 (.c (.ad 1 (.bQ (oI k) [] [(2,41),(14,96),(16,95)] (fun _=>.ad 1 (.mV 29 (.bQ (J4 k) [(95,161),(96,162),(41,163)] [(161,95),(162,96),(163,41),(3500001,47)] (fun _=>.fJ [8,9] [] [47] [(47,3500001)])))))) (.ad 1 (.c (.ad 1 (.bQ (oI k) [] [(2,54),(14,96),(16,95)] (fun _=>.ad 1 (.mV 29 (.bQ (wU k) [(95,161),(96,162),(54,163)] [(161,95),(162,96),(163,54),(3500001,60)] (fun _=>.fJ [8,9] [] [60] [(60,3500001)])))))) (.ad 1 (.cT [[],[0],[1],[1,0],[2,1],[2,1,0],[3,2,1,0],[4,3,2,1,0]] (.ad 1 (.bQ (oI k) [] [(2,66),(14,96),(16,95)] (fun _=>.ad 1 (.ci xe (.ad 1 (.mV 29 (.bQ (wU k) [(95,161),(96,162),(66,163)] [(161,95),(162,96),(163,66),(3500001,75)] (fun v9=>.ad 2 (.bi [.ab 80 (.int .i64),.rw 75 9 .str] (aB [12,16,78,79,80] [] [75]) (fun n=>cg (G3 v9 n)) k fun _ _=>.ad 2 (.c (.ad 3 (.u 0 (.ad 2 (.ci xe (.u 0 (.u 0 .z)))))) (.ad 1 (.fJ [8,9] [] [75] [(75,3500001)])))))))))))))))))))))))) (by kernel_rfl)
noncomputable def Wx(k:Nat):cX Tryz.prog am Jk nD:=⟨99,D9 k,fun st=>bz st [.ab 0 bV,.ab 1 ic,.ab 2 .str,.ab 3 .bool],fun z=>zn k (z.1) (z.2.1) (z.2.2.1) (z.2.2.2),(TK k),fun _ _ h=>h⟩
noncomputable def CE(k:Nat):aS:=⟨[(.int .i32),(.int .i32),qJ],[(.int .i64)],[oH],fun x=>Mm k (x.1) (x.2.1) (x.2.2)⟩
theorem ZD(k:Nat):aV Tryz.prog am 102 (CE k).aT:=bl bk Tryz.func102 (by kernel_rfl) rfl Tryz.ntmps102 (CE k) (by kernel_rfl) [] (fun _=>.z) (by kernel_rfl)
noncomputable def OQ(k:Nat):aG Tryz.prog am:=⟨102,CE k,ZD k⟩
noncomputable def Db(k:Nat):aS:=⟨[bq,bq,(.fn 102 (.pair qJ .unit))],[(.int .i64)],[],fun x=>La k (x.1) (x.2.1) (x.2.2)⟩
theorem PT(k:Nat):aV Tryz.prog am 84 (Db k).aT:=bl bk Tryz.func84 (by kernel_rfl) rfl Tryz.ntmps84 (Db k) (by kernel_rfl) [OQ k] (fun x=>.ad 3 (.bi [.ab 13 (.int .i64)] (aB [0,1,2,11,12,13] [] []) (FW k (x.1) (x.2.1) (x.2.2)) k fun _ _=>.z)) (by kernel_rfl)
noncomputable def Vb(k:Nat):aG Tryz.prog am:=⟨84,Db k,PT k⟩
noncomputable def CP(k:Nat):aS:=⟨[.str,.str,qJ],[(.int .i64)],[oH],fun x=>NL k (x.1) (x.2.1) (x.2.2)⟩
theorem ZQ(k:Nat):aV Tryz.prog am 101 (CP k).aT:=bl bk Tryz.func101 (by kernel_rfl) rfl Tryz.ntmps101 (CP k) (by kernel_rfl) [OQ k,Vb k] (fun _=>.z) (by kernel_rfl)
noncomputable def RF(k:Nat):aG Tryz.prog am:=⟨101,CP k,ZQ k⟩
noncomputable def Gi(k:Nat):aS:=⟨[(.int .u64)],[(.int .i64)],[],fun x=>JW k x⟩
theorem Qy(k:Nat):aV Tryz.prog am 179 (Gi k).aT:=bl bk Tryz.func179 (by kernel_rfl) rfl Tryz.ntmps179 (Gi k) (by kernel_rfl) [] (fun _=>.ad 1 (.j [.ab 0 (.int .u64),.ab 2 (.int .i64)] (aB [0,2] [] []) (cg Hx) .z (fun _=>.j [.ab 0 (.int .u64),.ab 2 (.int .i64)] (aB [0,2] [] []) (cg AR) .z (fun _=>.j [.ab 0 (.int .u64),.ab 2 (.int .i64)] (aB [0,2] [] []) (cg DP) .z (fun _=>.z))))) (by kernel_rfl)
noncomputable def V5(k:Nat):aG Tryz.prog am:=⟨179,Gi k,Qy k⟩
noncomputable def Hw(k:Nat):aS:=⟨[(.int .u64)],[(.int .i64)],[],fun x=>AI k x⟩
theorem ab2(k:Nat):aV Tryz.prog am 133 (Hw k).aT:=bl bk Tryz.func133 (by kernel_rfl) rfl Tryz.ntmps133 (Hw k) (by kernel_rfl) [V5 k] (fun _=>.ad 2 (.F .z)) (by kernel_rfl)
noncomputable def JH(k:Nat):aG Tryz.prog am:=⟨133,Hw k,ab2 k⟩
noncomputable def Hu(k:Nat):b8 wK cQ where
 n:=53
 S:=fun z=>⟨[(0,.row 10000000),(1,ay (z.1)),(2,ay (z.2.1)),(3,.clos 101 [54])],[(54,.cells [.iter 55] 119),(55,.mp (.int .i32) (.int .i64) (z.2.2.1))],[(10000000,⟨9,.str,(z.2.2.2)⟩)]⟩
 bg:=fun z y=>⟨[],[(54,.cells [.iter 55] 119),(55,.mp (.int .i32) (.int .i64) (y.1))],[(10000000,⟨9,.str,(y.2)⟩)]⟩
 aq:=fun z y=>[]
 rel:=fun z y=>yz k (z.1) (z.2.1) (z.2.2.1) (z.2.2.2)=some y
theorem WV(k:Nat):cq Tryz.prog am 170 (Hu k):=dO Tryz.func170 (by kernel_rfl) rfl (Hu k) Tryz.ntmps170 [RF k] (fun z=>yz k (z.1) (z.2.1) (z.2.2.1) (z.2.2.2)) (fun _ _ h=>h) (fun st=>bz st [.mp 55 (.int .i32) (.int .i64),.rw 10000000 9 .str]) [54,55] [10000000] (fun z=>.ad 1 (.bi [.ab 8 (.int .i64),.mp 55 (.int .i32) (.int .i64),.rw 10000000 9 .str] (aB [0,1,2,3,8] [54,55] [10000000]) (fun n=>gD (Gt k (z.2.1) (z.1) n)) k fun q o=>.ad 2 (.t (.ad 2 (.bi [.ab 9 (.int .i64),.rw 10000000 9 .str] (aB [0,1,2,3,8,9] [54,55] [10000000]) (fun n=>cg (DK k (z.1) (o.2.1) (gM q) (o.1) n)) k fun R O=>.ad 3 (.g 12 (GM (O.2) (O.1) (dF R) (gM q) (o.1) (o.2.1)) (.ad 6 (.u 0 (.ad 6 (.u 0 .z)))) .z (fun _=>.t (.ad 1 (.gm [0,1,2,3,4,5,6,7,8,10,11,12] [9,13,14] [15,16,17] (.ad 2 (.u 1 (.u 0 (.u 0 (.u 0 (.ad 1 (.u 0 .z)))))))))))))))) (by kernel_rfl)
noncomputable def Yi(k:Nat):cX Tryz.prog am wK cQ:=⟨170,Hu k,fun st=>bz st [.ab 1 (.int .i64),.ab 2 (.int .i64),.mp 55 (.int .i32) (.int .i64),.rw 10000000 9 .str],fun z=>yz k (z.1) (z.2.1) (z.2.2.1) (z.2.2.2),(WV k),fun _ _ h=>h⟩
noncomputable def Fo(k:Nat):b8 wH cQ where
 n:=148
 S:=fun z=>⟨[(0,.row 10000000),(1,ay (z.1)),(2,ay (z.2.1)),(3,ay (z.2.2.1)),(4,.clos 101 [149])],[(149,.cells [.iter 150] 119),(150,.mp (.int .i32) (.int .i64) (z.2.2.2.1))],[(10000000,⟨9,.str,(z.2.2.2.2)⟩)]⟩
 bg:=fun z y=>⟨[],[(149,.cells [.iter 150] 119),(150,.mp (.int .i32) (.int .i64) (y.1))],[(10000000,⟨9,.str,(y.2)⟩)]⟩
 aq:=fun z y=>[]
 rel:=fun z y=>vK k (z.1) (z.2.1) (z.2.2.1) (z.2.2.2.1) (z.2.2.2.2)=some y
theorem aas(k:Nat):cq Tryz.prog am 132 (Fo k):=dO Tryz.func132 (by kernel_rfl) rfl (Fo k) Tryz.ntmps132 [] (fun z=>vK k (z.1) (z.2.1) (z.2.2.1) (z.2.2.2.1) (z.2.2.2.2)) (fun _ _ h=>h) (fun st=>bz st [.mp 150 (.int .i32) (.int .i64),.rw 10000000 9 .str]) [149,150] [10000000] (fun z=>.ad 2 (.bi [] (aB [0,1,2,3,4,10,11] [149,150] [10000000]) (fun n=>vC (Cc k (z.2.1) (z.1) (z.2.2.2.1) (z.2.2.2.2) n)) k fun _ _=>.ad 3 (.c (.ad 1 (.bQ (Yi k) [(10000000,10000000),(149,54),(150,55)] [(54,149),(55,150),(10000000,10000000)] (fun _=>.z))) (.gX [999999] [] [] .z)))) (by kernel_rfl)
noncomputable def VU(k:Nat):cX Tryz.prog am wH cQ:=⟨132,Fo k,fun st=>bz st [.ab 1 (.int .i64),.ab 2 (.int .i64),.ab 3 (.int .i64),.mp 150 (.int .i32) (.int .i64),.rw 10000000 9 .str],fun z=>vK k (z.1) (z.2.1) (z.2.2.1) (z.2.2.2.1) (z.2.2.2.2),(aas k),fun _ _ h=>h⟩
noncomputable def FR(k:Nat):b8 cQ cQ where
 n:=14
 S:=fun z=>⟨[(0,.row 10000000),(1,.clos 101 [15])],[(15,.cells [.iter 16] 119),(16,.mp (.int .i32) (.int .i64) (z.1))],[(10000000,⟨9,.str,(z.2)⟩)]⟩
 bg:=fun z y=>⟨[],[(15,.cells [.iter 16] 119),(16,.mp (.int .i32) (.int .i64) (y.1))],[(10000000,⟨9,.str,(y.2)⟩)]⟩
 aq:=fun z y=>[]
 rel:=fun z y=>vW k (z.1) (z.2)=some y
theorem UG(k:Nat):cq Tryz.prog am 100 (FR k):=dO Tryz.func100 (by kernel_rfl) rfl (FR k) Tryz.ntmps100 [JH k] (fun z=>vW k (z.1) (z.2)) (fun _ _ h=>h) (fun st=>bz st [.mp 16 (.int .i32) (.int .i64),.rw 10000000 9 .str]) [15,16] [10000000] (fun _=>.ad 2 (.bQ (VU k) [(10000000,10000000),(15,149),(16,150)] [(149,15),(150,16),(10000000,10000000)] (fun _=>.z))) (by kernel_rfl)
noncomputable def U0(k:Nat):cX Tryz.prog am cQ cQ:=⟨100,FR k,fun st=>bz st [.mp 16 (.int .i32) (.int .i64),.rw 10000000 9 .str],fun z=>vW k (z.1) (z.2),(UG k),fun _ _ h=>h⟩
noncomputable def CJ(k:Nat):aS:=⟨[bV,ic,.str],[(.ab .str),(.int .i64)],[],fun x=>IE k (x.1) (x.2.1) (x.2.2)⟩
theorem Ve(k:Nat):aV Tryz.prog am 65 (CJ k).aT:=bl bk Tryz.func65 (by kernel_rfl) rfl Tryz.ntmps65 (CJ k) (by kernel_rfl) [] (fun x=>.ad 3 (.bQ (Wx k) [] [(3500001,19)] (fun v1=>.ad 2 (.f (.ad 3 (.bi [.ab 29 (.int .i64),.mp 25 (.int .i32) (.int .i64)] (aB [8,10,27,28,29] [10,25] [19]) (fun n=>cg (ES k (x.1) v1 n)) k fun _ _=>.ad 2 (.f (.ad 1 (.bQ (U0 k) [(19,10000000),(10,15),(25,16)] [(15,10),(16,25),(10000000,19)] (fun _=>.z)))))))))) (by kernel_rfl)
noncomputable def Zy(k:Nat):aG Tryz.prog am:=⟨65,CJ k,Ve k⟩
end Go.Ev
