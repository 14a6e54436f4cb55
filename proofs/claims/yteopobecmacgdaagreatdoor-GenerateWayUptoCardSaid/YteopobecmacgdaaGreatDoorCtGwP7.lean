/- Contracts, by program. -/
import Derived.Test.YteopobecmacgdaaGreatDoorProg
import Derived.Test.YteopobecmacgdaaGreatDoorMM6
import Derived.Test.YteopobecmacgdaaGreatDoorMM8
import Derived.Test.YteopobecmacgdaaGreatDoorCtGwP1
import Derived.Test.YteopobecmacgdaaGreatDoorCtGwP4
import Derived.Test.YteopobecmacgdaaGreatDoorCtGwP6
import Derived.KernelRfl
import Derived.Test.YteopobecmacgdaaGreatDoorTyA
set_option linter.unusedSectionVars false
set_option linter.unusedVariables false
set_option linter.unusedSimpArgs false
namespace Go.Ev
open Go Go.Proofs
set_option linter.unusedVariables false
set_option maxRecDepth 100000
noncomputable def LL(k:Nat):cY xJ cb where
 n:=161
 S:=fun z=>⟨[(0,.ptr 161 0),(1,.val bg (z.1)),(2,.ca 129 161),(3,aO (z.2.1))],[(161,.cells [aN (z.2.2.1),.val ax (z.2.2.2.1),.val br (z.2.2.2.2.1),.val az (z.2.2.2.2.2.1),.val az (z.2.2.2.2.2.2.1),bR (z.2.2.2.2.2.2.2.1),aO (z.2.2.2.2.2.2.2.2.1),.iter 162,.clos 161 [163]] 280),(162,.mp bn bo (z.2.2.2.2.2.2.2.2.2.1)),(163,.cells [.val (.ab .str) (z.2.2.2.2.2.2.2.2.2.2.1),.val ax (z.2.2.2.2.2.2.2.2.2.2.2)] 25)],[]⟩
 bq:=fun z y=>⟨[],[(161,.cells [aN (y.2.1),.val ax (y.2.2.1),.val br (y.2.2.2.1),.val az (y.2.2.2.2.1),.val az (y.2.2.2.2.2.1),bR (y.2.2.2.2.2.2.1),aO (y.2.2.2.2.2.2.2.1),.iter 162,.clos 161 [163]] 280),(162,.mp bn bo (y.2.2.2.2.2.2.2.2.1)),(163,.cells [.val (.ab .str) (y.2.2.2.2.2.2.2.2.2.1),.val ax (y.2.2.2.2.2.2.2.2.2.2.1)] 25)],[(3500001,⟨9,.str,(y.2.2.2.2.2.2.2.2.2.2.2)⟩)]⟩
 au:=fun z y=>[.row 3500001,ay (y.1)]
 rel:=fun z y=>nr k (z.1) (z.2.1) (z.2.2.1) (z.2.2.2.1) (z.2.2.2.2.1) (z.2.2.2.2.2.1) (z.2.2.2.2.2.2.1) (z.2.2.2.2.2.2.2.1) (z.2.2.2.2.2.2.2.2.1) (z.2.2.2.2.2.2.2.2.2.1) (z.2.2.2.2.2.2.2.2.2.2.1) (z.2.2.2.2.2.2.2.2.2.2.2)=some y
noncomputable def UA(k:Nat):Env:=cK Tryz.prog aq 161 [Ea k]
theorem Tj(k:Nat):dc Tryz.prog aq 127 (LL k):=by
 refine ow (fn:=Tryz.f127) Tryz.func127 (by kernel_rfl) rfl Tryz.ntmps127 ?_
 rintro cx l7 l8 l9 ⟨l1,q,c1,c2,c3,c4,c5,c6,c7,m1,c8,c9⟩ O h
 have o:bE (UA k) cx:=kK l7 l8 l9
 replace h:nr k l1 q c1 c2 c3 c4 c5 c6 c7 m1 c8 c9=some O:=h
 unfold nr at h
 refine aG (aP (bx o [0,1,2,3] [161,162,163] [] (orc:=[]) (by kernel_rfl) .n (aF (aG (aP (fm o 2 [0,1,2,3,24,25] [161,162,163] [] (orc:=[]) (by kernel_rfl) .n ?_))))))
 obtain⟨v1,ae,h⟩:=bind_some h
 refine DI o (M5 k) (l1,c1,c2,c3,c4,c5,c6,c7,m1,c8,c9) v1 ae (ρ:=[(161,6),(162,7),(163,8)]) (ρ':=[(2,26),(3,160),(6,161),(7,162),(8,163)]) (n:=6) (by kernel_rfl) [0,1,2,3,26] [26,160,161,162,163] [] (by kernel_rfl) (by kernel_rfl) (by kernel_rfl) (bN o (st':=⟨[(0,.ptr 161 0),(1,.val bg l1),(2,.ca 129 161),(3,aO q),(10,.clos 164 [26,160])],[(26,.cells [.ptr 161 0] 240),(160,.cells [.val bg v1] 61),(161,.cells [aN c1,.val ax c2,.val br c3,.val az c4,.val az c5,bR c6,aO c7,.iter 162,.clos 161 [163]] 280),(162,.mp bn bo m1),(163,.cells [.val (.ab .str) c8,.val ax c9] 25)],[]⟩) (orc:=[]) (by kernel_rfl) .n (aF (aG (uU o (by kernel_rfl) (by kernel_rfl) (Bq o [0,1,2,3,10,11,12] [26,160,161,162,163] [] (orc:=[]) (by kernel_rfl) .n (aF (aG (aP ?_))))))))
 obtain⟨_,lh,h⟩:=bind_some h
 replace lh:=dx lh
 obtain⟨_,li,h⟩:=bind_some h
 replace li:=dx li
 refine bx o [0,1,2,3,10,11,12,13] [26,37,160,161,162,163] [] (orc:=[⟨.unit,()⟩]) (by kernel_rfl) (.c (show(List.replicate (am ((List.length l1:Int)+(2:Int))).toNat (none:Option bT))=List.replicate (List.length (List.replicate (am ((List.length l1:Int)+(2:Int))).toNat (none:Option bT))) ((none:Option bT))/\0<List.length (List.replicate (am ((List.length l1:Int)+(2:Int))).toNat (none:Option bT))from HH (none:Option bT) lh) (.c li .n)) (aF (aG (aG (aP (bN o (orc:=[]) (by kernel_rfl) .n (aF (fX (kA (α:=(Int×List eL)) (fun n z=>re k l1 c2 q v1 c1 c3 c4 c5 c6 c7 m1 c8 c9 n z.1 z.2=some O) (fun z=>⟨[(0,.ptr 161 0),(1,.val bg l1),(2,.ca 129 161),(3,aO q),(10,.clos 164 [26,160]),(11,ay (List.length l1:Int)),(12,ay (List.length c2:Int)),(13,.osl 37),(39,ay (List.length (List.map some (List.replicate (am ((List.length l1:Int)+(2:Int))).toNat (none:Option bT))):Int)),(40,ay (z.1))],[(26,.cells [.ptr 161 0] 240),(37,.bd 146 (.mp .str .bool) (z.2)),(160,.cells [.val bg v1] 61),(161,.cells [aN c1,.val ax c2,.val br c3,.val az c4,.val az c5,bR c6,aO c7,.iter 162,.clos 161 [163]] 280),(162,.mp bn bo m1),(163,.cells [.val (.ab .str) c8,.val ax c9] 25)],[]⟩) ?_ (k:=k) (x:=((0:Int),List.map some (List.replicate (am ((List.length l1:Int)+(2:Int))).toNat (none:Option bT)))) h))))))))
 clear h
 rintro lj ⟨t11,ld⟩ h
 cases lj with
 |zero=>exact absurd (show none=some _ from h) (by simp)
 |succ lj=>
  have h:wk k l1 c2 q v1 c1 c3 c4 c5 c6 c7 m1 c8 c9 (re k l1 c2 q v1 c1 c3 c4 c5 c6 c7 m1 c8 c9 lj) t11 ld=some O:=h
  unfold wk at h
  refine aG (aP (bx o [0,1,2,3,10,11,12,13,39,40,41] [26,37,160,161,162,163] [] (orc:=[]) (by kernel_rfl) .n (aF (aG (db (b:=decide (t11<(List.length (List.map some (List.replicate (am ((List.length l1:Int)+(2:Int))).toNat (none:Option bT))):Int))) (by kernel_rfl) (fun e4=>?_) (fun e4=>?_))))))
  ·replace h:=dD e4 h
   refine dh (aF (aG (fX (aG (aP (bx o [0,1,2,3,10,11,12,13,14,39,40] [26,37,160,161,162,163] [] (orc:=[]) (by kernel_rfl) .n (aF (aP ?_))))))))
   obtain⟨_,lk,h⟩:=bind_some h
   replace lk:=dx lk
   obtain⟨_,ll,h⟩:=bind_some h
   replace ll:=dx ll
   exact bx o [0,1,2,3,10,11,12,13,39,40] [26,37,160,161,162,163] [] (orc:=[]) (by kernel_rfl) (.c lk (.c ll .n)) (jC (aF (aP (bN o (orc:=[]) (by kernel_rfl) .n (je (am (t11+(1:Int)),List.set ld (t11).toNat (some (some ([]:List bH)))) (Nat.lt_succ_self _) h)))))
  ·replace h:=dH e4 h
   refine kR (gj (gj (kJ (aF (aG (aP ?_))))))
   obtain⟨_,lm,h⟩:=bind_some h
   replace lm:=dx lm
   obtain⟨aa,ln,h⟩:=bind_some h
   replace ln:=kV ln
   obtain⟨lo,lp,h⟩:=bind_some h
   replace lp:=qi lp
   refine bN o (st':=⟨[(0,.ptr 161 0),(1,.val bg l1),(2,.ca 129 161),(3,aO q),(10,.clos 164 [26,160]),(11,ay (List.length l1:Int)),(12,ay (List.length c2:Int)),(13,.osl 37)],[(26,.cells [.ptr 161 0] 240),(37,.bd 146 (.mp .str .bool) (List.set ld ((0:Int)).toNat (some (some (cl (aV .str) lo ([]:List UInt8) true))))),(160,.cells [.val bg v1] 61),(161,.cells [aN c1,.val ax c2,.val br c3,.val az c4,.val az c5,bR c6,aO c7,.iter 162,.clos 161 [163]] 280),(162,.mp bn bo m1),(163,.cells [.val (.ab .str) c8,.val ax c9] 25)],[]⟩) (orc:=[⟨.map .str .bool,aa⟩,⟨.map .str .bool,some lo⟩]) (by kernel_rfl) (.c lm (.c ln (.c lp .n))) (aF (aG (aG (aP (bN o (orc:=[]) (by kernel_rfl) .n (aF (fX (kA (α:=(Int×List eL×List (Int)×List UInt8×List aH×List bM×List aK×List aK×Int×Bool×List bZ×List (List UInt8)×List aH)) (fun n z=>ik k l1 c2 q n z.1 z.2.1 z.2.2.1 z.2.2.2.1 z.2.2.2.2.1 z.2.2.2.2.2.1 z.2.2.2.2.2.2.1 z.2.2.2.2.2.2.2.1 z.2.2.2.2.2.2.2.2.1 z.2.2.2.2.2.2.2.2.2.1 z.2.2.2.2.2.2.2.2.2.2.1 z.2.2.2.2.2.2.2.2.2.2.2.1 z.2.2.2.2.2.2.2.2.2.2.2.2=some O) (fun z=>⟨[(0,.ptr 161 0),(1,.val bg l1),(2,.ca 129 161),(3,aO q),(10,.clos 164 [26,160]),(11,ay (List.length l1:Int)),(12,ay (List.length c2:Int)),(13,.osl 37),(52,ay (am ((List.length l1:Int)+(1:Int)))),(53,ay (z.1))],[(26,.cells [.ptr 161 0] 240),(37,.bd 146 (.mp .str .bool) (z.2.1)),(160,.cells [.val bg (z.2.2.1)] 61),(161,.cells [aN (z.2.2.2.1),.val ax (z.2.2.2.2.1),.val br (z.2.2.2.2.2.1),.val az (z.2.2.2.2.2.2.1),.val az (z.2.2.2.2.2.2.2.1),bR (z.2.2.2.2.2.2.2.2.1),aO (z.2.2.2.2.2.2.2.2.2.1),.iter 162,.clos 161 [163]] 280),(162,.mp bn bo (z.2.2.2.2.2.2.2.2.2.2.1)),(163,.cells [.val (.ab .str) (z.2.2.2.2.2.2.2.2.2.2.2.1),.val ax (z.2.2.2.2.2.2.2.2.2.2.2.2)] 25)],[]⟩) ?_ (k:=k) (x:=((0:Int),List.set ld ((0:Int)).toNat (some (some (cl (aV .str) lo ([]:List UInt8) true))),v1,c1,c2,c3,c4,c5,c6,c7,m1,c8,c9)) h))))))))
   clear h
   rintro U ⟨t12,lW,t13,t14,t15,t16,t17,t18,t19,t20,m3,t21,t22⟩ h
   cases U with
   |zero=>exact absurd (show none=some _ from h) (by simp)
   |succ U=>
    have h:wW k l1 c2 q (ik k l1 c2 q U) t12 lW t13 t14 t15 t16 t17 t18 t19 t20 m3 t21 t22=some O:=h
    unfold wW at h
    refine aG (aP (bx o [0,1,2,3,10,11,12,13,52,53,54] [26,37,160,161,162,163] [] (orc:=[]) (by kernel_rfl) .n (aF (aG (db (b:=decide (t12<(am ((List.length l1:Int)+(1:Int))))) (by kernel_rfl) (fun lq=>?_) (fun lq=>?_))))))
    ·replace h:=dD lq h
     refine dh (aF (aG (fX (aG (aP (bx o [0,1,2,3,10,11,12,13,15,52,53] [26,37,160,161,162,163] [] (orc:=[]) (by kernel_rfl) .n (aF (aG (aG (aP ?_))))))))))
     obtain⟨_,lr,h⟩:=bind_some h
     replace lr:=dx lr
     obtain⟨Z,la,h⟩:=bind_some h
     replace la:=kV la
     refine bx o [0,1,2,3,10,11,12,13,15,52,53,61] [26,37,160,161,162,163] [] (orc:=[⟨.map .str .bool,Z⟩,⟨.map .str .bool,Z⟩]) (by kernel_rfl) (.c lr (.c la (.c la .n))) (aF (db (b:=decide ((1024:Int)<(List.length (Option.getD Z []):Int))) (by kernel_rfl) (fun ls=>?_) (fun ls=>?_)))
     ·replace h:=dD ls h
      refine aG (aP (bN o (st':=⟨[(0,.ptr 161 0),(2,.ca 129 161),(8,.row 8),(9,ay (9:Int))],[(161,.cells [aN t14,.val ax t15,.val br t16,.val az t17,.val az t18,bR t19,aO t20,.iter 162,.clos 161 [163]] 280),(162,.mp bn bo m3),(163,.cells [.val (.ab .str) t21,.val ax t22] 25)],[(8,⟨9,.str,([]:List (List UInt8))⟩)]⟩) (orc:=[]) (by kernel_rfl) .n (aF (eM (df (fP (df (df (fP (df ?_))))))))))
      replace h:=Option.some.inj h
      subst h
      exact gr [0,2,8,9] [161,162,163] [8] [(161,161),(162,162),(163,163),(8,3500001)] (by kernel_rfl) (fZ o.P [161,162,163] [3500001] (.inl rfl) (by kernel_rfl) (by kernel_rfl))
     ·replace h:=dH ls h
      refine dh (aF (aG (aP ?_)))
      obtain⟨_,lt,h⟩:=bind_some h
      replace lt:=dx lt
      refine bN o (orc:=[⟨.unit,()⟩,⟨.map .str .bool,Z⟩]) (by kernel_rfl) (.c lt (.c la .n)) (aF (fX (kA (α:=(List eL×List bH×List bH×List UInt8×List aH×List bM×List aK×List aK×Int×Bool×List bZ×List (List UInt8)×List aH)) (fun n z=>gD k (ik k l1 c2 q U) t12 t13 l1 c2 q n z.1 z.2.1 z.2.2.1 z.2.2.2.1 z.2.2.2.2.1 z.2.2.2.2.2.1 z.2.2.2.2.2.2.1 z.2.2.2.2.2.2.2.1 z.2.2.2.2.2.2.2.2.1 z.2.2.2.2.2.2.2.2.2.1 z.2.2.2.2.2.2.2.2.2.2.1 z.2.2.2.2.2.2.2.2.2.2.2.1 z.2.2.2.2.2.2.2.2.2.2.2.2=some O) (fun z=>⟨[(0,.ptr 161 0),(1,.val bg l1),(2,.ca 129 161),(3,aO q),(10,.clos 164 [26,160]),(11,ay (List.length l1:Int)),(12,ay (List.length c2:Int)),(13,.osl 37),(15,ay t12),(52,ay (am ((List.length l1:Int)+(1:Int)))),(53,ay t12),(66,.iter 66)],[(26,.cells [.ptr 161 0] 240),(37,.bd 146 (.mp .str .bool) (z.1)),(66,.cu .str .bool (z.2.1) (z.2.2.1)),(160,.cells [.val bg t13] 61),(161,.cells [aN (z.2.2.2.1),.val ax (z.2.2.2.2.1),.val br (z.2.2.2.2.2.1),.val az (z.2.2.2.2.2.2.1),.val az (z.2.2.2.2.2.2.2.1),bR (z.2.2.2.2.2.2.2.2.1),aO (z.2.2.2.2.2.2.2.2.2.1),.iter 162,.clos 161 [163]] 280),(162,.mp bn bo (z.2.2.2.2.2.2.2.2.2.2.1)),(163,.cells [.val (.ab .str) (z.2.2.2.2.2.2.2.2.2.2.2.1),.val ax (z.2.2.2.2.2.2.2.2.2.2.2.2)] 25)],[]⟩) ?_ (k:=k) (x:=(List.set lW (t12).toNat none,Z.getD [],([]:List bH),t14,t15,t16,t17,t18,t19,t20,m3,t21,t22)) h)))
      clear h
      rintro W ⟨R,le,lf,t23,t24,t25,t26,t27,t28,t29,m4,t30,t31⟩ h
      cases W with
      |zero=>exact absurd (show none=some _ from h) (by simp)
      |succ W=>
       have h:vw k (ik k l1 c2 q U) t12 t13 l1 c2 q (gD k (ik k l1 c2 q U) t12 t13 l1 c2 q W) R le lf t23 t24 t25 t26 t27 t28 t29 m4 t30 t31=some O:=h
       unfold vw at h
       refine aG (aP ?_)
       rcases xn h with ⟨lu,h⟩|⟨ar,lu,h⟩
       ·exact zK o (d:=67) (b:=66) (k:=.str) (v:=.bool) (left:=le) (last:=lf) (by kernel_rfl) (by kernel_rfl) lu (st':=⟨[(0,.ptr 161 0),(1,.val bg l1),(2,.ca 129 161),(3,aO q),(10,.clos 164 [26,160]),(11,ay (List.length l1:Int)),(12,ay (List.length c2:Int)),(13,.osl 37),(15,ay t12),(52,ay (am ((List.length l1:Int)+(1:Int)))),(53,ay t12),(66,.iter 66),(67,.dI [gK false])],[(26,.cells [.ptr 161 0] 240),(37,.bd 146 (.mp .str .bool) R),(66,.cu .str .bool le lf),(160,.cells [.val bg t13] 61),(161,.cells [aN t23,.val ax t24,.val br t25,.val az t26,.val az t27,bR t28,aO t29,.iter 162,.clos 161 [163]] 280),(162,.mp bn bo m4),(163,.cells [.val (.ab .str) t30,.val ax t31] 25)],[]⟩) (by kernel_rfl) (bx o [0,1,2,3,10,11,12,13,15,52,53,66,68] [26,37,66,160,161,162,163] [] (orc:=[]) (by kernel_rfl) .n (aF (aG (yf (by kernel_rfl) (kR (gj (gj (kJ (jC (aF (aP (bN o (orc:=[]) (by kernel_rfl) .n (je (am (t12+(1:Int)),R,t13,t23,t24,t25,t26,t27,t28,t29,m4,t30,t31) (Nat.lt_succ_self _) h)))))))))))))
       ·refine vR o (d:=67) (b:=66) (k:=.str) (v:=.bool) (left:=le) (last:=lf) (p:=ar) (by kernel_rfl) (by kernel_rfl) lu (st':=⟨[(0,.ptr 161 0),(1,.val bg l1),(2,.ca 129 161),(3,aO q),(10,.clos 164 [26,160]),(11,ay (List.length l1:Int)),(12,ay (List.length c2:Int)),(13,.osl 37),(15,ay t12),(52,ay (am ((List.length l1:Int)+(1:Int)))),(53,ay t12),(66,.iter 66),(67,.dI [gK true,mI ar.1,gK ar.2])],[(26,.cells [.ptr 161 0] 240),(37,.bd 146 (.mp .str .bool) R),(66,.cu .str .bool ([]:List bH) [ar]),(160,.cells [.val bg t13] 61),(161,.cells [aN t23,.val ax t24,.val br t25,.val az t26,.val az t27,bR t28,aO t29,.iter 162,.clos 161 [163]] 280),(162,.mp bn bo m4),(163,.cells [.val (.ab .str) t30,.val ax t31] 25)],[]⟩) (by kernel_rfl) (bx o [0,1,2,3,10,11,12,13,15,52,53,66,68] [26,37,66,160,161,162,163] [] (orc:=[]) (by kernel_rfl) .n (aF (aG (yQ (by kernel_rfl) (dh (aF (fX (aG (aP (bx o [0,1,2,3,10,11,12,13,15,16,52,53,66] [26,37,66,160,161,162,163] [] (orc:=[]) (by kernel_rfl) .n (aF (aG (aG (aP ?_))))))))))))))
        obtain⟨v2,ab,h⟩:=bind_some h
        refine bN o (st':=⟨[(0,.ptr 161 0),(1,.val bg l1),(2,.ca 129 161),(3,aO q),(10,.clos 164 [26,160]),(11,ay (List.length l1:Int)),(12,ay (List.length c2:Int)),(13,.osl 37),(15,ay t12),(16,aN ar.1),(52,ay (am ((List.length l1:Int)+(1:Int)))),(53,ay t12),(66,.iter 66),(77,aO (decide ((256:Int)<(am ((am (v2+(List.length l1:Int)))-t12)))))],[(26,.cells [.ptr 161 0] 240),(37,.bd 146 (.mp .str .bool) R),(66,.cu .str .bool ([]:List bH) [ar]),(160,.cells [.val bg t13] 61),(161,.cells [aN t23,.val ax t24,.val br t25,.val az t26,.val az t27,bR t28,aO t29,.iter 162,.clos 161 [163]] 280),(162,.mp bn bo m4),(163,.cells [.val (.ab .str) t30,.val ax t31] 25)],[]⟩) (orc:=[k3 v2]) (by kernel_rfl) (.c ab .n) (aF (db (b:=decide ((256:Int)<(am ((am (v2+(List.length l1:Int)))-t12)))) (by kernel_rfl) (fun lv=>?_) (fun lv=>?_)))
        ·replace h:=dD lv h
         refine aG (aP (bx o [0,2,8,9] [161,162,163] [8] (orc:=[]) (by kernel_rfl) .n (aF (eM (df (fP (df (fP (fP (df (df (fP (df ?_)))))))))))))
         replace h:=Option.some.inj h
         subst h
         exact gr [0,2,8,9] [161,162,163] [8] [(161,161),(162,162),(163,163),(8,3500001)] (by kernel_rfl) (fZ o.P [161,162,163] [3500001] (.inl rfl) (by kernel_rfl) (by kernel_rfl))
        ·replace h:=dH lv h
         refine dh (aF (aG (aP (fm o 3 [0,1,2,3,10,11,12,13,15,16,52,53,66,78,79,80] [26,37,66,160,161,162,163] [] (orc:=[]) (by kernel_rfl) .n ?_))))
         obtain⟨v3,ad,h⟩:=bind_some h
         refine DI o (MP k) (ar.1,t12,t23,t24,t25,t26,t27,t28,t29,m4,t30,t31,t13) v3 ad (ρ:=[(26,19),(161,20),(162,21),(163,22),(160,23)]) (ρ':=[(19,26),(20,161),(21,162),(22,163),(23,160)]) (n:=19) (by kernel_rfl) [0,1,2,3,10,11,12,13,15,16,52,53,66,81] [26,37,66,160,161,162,163] [] (by kernel_rfl) (by kernel_rfl) (by kernel_rfl) (bN o (st':=⟨[(0,.ptr 161 0),(1,.val bg l1),(2,.ca 129 161),(3,aO q),(10,.clos 164 [26,160]),(11,ay (List.length l1:Int)),(12,ay (List.length c2:Int)),(13,.osl 37),(15,ay t12),(16,aN ar.1),(17,aO v3.1),(52,ay (am ((List.length l1:Int)+(1:Int)))),(53,ay t12),(66,.iter 66)],[(26,.cells [.ptr 161 0] 240),(37,.bd 146 (.mp .str .bool) R),(66,.cu .str .bool ([]:List bH) [ar]),(160,.cells [.val bg t13] 61),(161,.cells [aN v3.2.1,.val ax v3.2.2.1,.val br v3.2.2.2.1,.val az v3.2.2.2.2.1,.val az v3.2.2.2.2.2.1,bR v3.2.2.2.2.2.2.1,aO v3.2.2.2.2.2.2.2.1,.iter 162,.clos 161 [163]] 280),(162,.mp bn bo v3.2.2.2.2.2.2.2.2.1),(163,.cells [.val (.ab .str) v3.2.2.2.2.2.2.2.2.2.1,.val ax v3.2.2.2.2.2.2.2.2.2.2] 25)],[]⟩) (orc:=[]) (by kernel_rfl) .n (aF (kG (α:=List eL) (fun z=>pA t12 l1 ar (gD k (ik k l1 c2 q U) t12 t13 l1 c2 q W) v3 q z=some O) (fun X=>⟨[(0,.ptr 161 0),(1,.val bg l1),(2,.ca 129 161),(3,aO q),(10,.clos 164 [26,160]),(11,ay (List.length l1:Int)),(12,ay (List.length c2:Int)),(13,.osl 37),(15,ay t12),(16,aN ar.1),(17,aO v3.1),(52,ay (am ((List.length l1:Int)+(1:Int)))),(53,ay t12),(66,.iter 66)],[(26,.cells [.ptr 161 0] 240),(37,.bd 146 (.mp .str .bool) X),(66,.cu .str .bool ([]:List bH) [ar]),(160,.cells [.val bg t13] 61),(161,.cells [aN v3.2.1,.val ax v3.2.2.1,.val br v3.2.2.2.1,.val az v3.2.2.2.2.1,.val az v3.2.2.2.2.2.1,bR v3.2.2.2.2.2.2.1,aO v3.2.2.2.2.2.2.2.1,.iter 162,.clos 161 [163]] 280),(162,.mp bn bo v3.2.2.2.2.2.2.2.2.1),(163,.cells [.val (.ab .str) v3.2.2.2.2.2.2.2.2.2.1,.val ax v3.2.2.2.2.2.2.2.2.2.2] 25)],[]⟩) ?_ (fun lb=>?_))))
         ·rintro X h
          unfold pA at h
          refine aG (aP (fm o 3 [0,1,2,3,10,11,12,13,15,16,52,53,66,118] [26,37,66,160,161,162,163] [] (orc:=[]) (by kernel_rfl) .n (iA (α:=Bool) (fun z=>uV t12 l1 ar X (gD k (ik k l1 c2 q U) t12 t13 l1 c2 q W) v3 z=some O) (fun t32=>⟨[(0,.ptr 161 0),(1,.val bg l1),(2,.ca 129 161),(3,aO q),(10,.clos 164 [26,160]),(11,ay (List.length l1:Int)),(12,ay (List.length c2:Int)),(13,.osl 37),(15,ay t12),(16,aN ar.1),(52,ay (am ((List.length l1:Int)+(1:Int)))),(53,ay t12),(66,.iter 66),(120,aO t32)],[(26,.cells [.ptr 161 0] 240),(37,.bd 146 (.mp .str .bool) X),(66,.cu .str .bool ([]:List bH) [ar]),(160,.cells [.val bg t13] 61),(161,.cells [aN v3.2.1,.val ax v3.2.2.1,.val br v3.2.2.2.1,.val az v3.2.2.2.2.1,.val az v3.2.2.2.2.2.1,bR v3.2.2.2.2.2.2.1,aO v3.2.2.2.2.2.2.2.1,.iter 162,.clos 161 [163]] 280),(162,.mp bn bo v3.2.2.2.2.2.2.2.2.1),(163,.cells [.val (.ab .str) v3.2.2.2.2.2.2.2.2.2.1,.val ax v3.2.2.2.2.2.2.2.2.2.2] 25)],[]⟩) 2 ?_ (fun lX=>?_))))
          ·rintro t32 h
           unfold uV at h
           refine iE (aF (db (b:=t32) (by kernel_rfl) (fun lw=>?_) (fun lw=>?_)))
           ·replace h:=dD lw h
            refine aG (aP (bx o [0,1,2,3,10,11,12,13,15,20,52,53,66] [26,37,66,160,161,162,163] [] (orc:=[]) (by kernel_rfl) .n (aF (kG (α:=List UInt8) (fun z=>qy t12 X (gD k (ik k l1 c2 q U) t12 t13 l1 c2 q W) ar v3 z=some O) (fun lx=>⟨[(0,.ptr 161 0),(1,.val bg l1),(2,.ca 129 161),(3,aO q),(10,.clos 164 [26,160]),(11,ay (List.length l1:Int)),(12,ay (List.length c2:Int)),(13,.osl 37),(15,ay t12),(20,aN lx),(52,ay (am ((List.length l1:Int)+(1:Int)))),(53,ay t12),(66,.iter 66)],[(26,.cells [.ptr 161 0] 240),(37,.bd 146 (.mp .str .bool) X),(66,.cu .str .bool ([]:List bH) [ar]),(160,.cells [.val bg t13] 61),(161,.cells [aN v3.2.1,.val ax v3.2.2.1,.val br v3.2.2.2.1,.val az v3.2.2.2.2.1,.val az v3.2.2.2.2.2.1,bR v3.2.2.2.2.2.2.1,aO v3.2.2.2.2.2.2.2.1,.iter 162,.clos 161 [163]] 280),(162,.mp bn bo v3.2.2.2.2.2.2.2.2.1),(163,.cells [.val (.ab .str) v3.2.2.2.2.2.2.2.2.2.1,.val ax v3.2.2.2.2.2.2.2.2.2.2] 25)],[]⟩) ?_ (fun lb=>?_)))))
            ·rintro lx h
             unfold qy at h
             refine aP ?_
             obtain⟨_,ly,h⟩:=bind_some h
             replace ly:=dx ly
             obtain⟨af,lz,h⟩:=bind_some h
             replace lz:=kV lz
             obtain⟨lY,lA,h⟩:=bind_some h
             replace lA:=qi lA
             exact bN o (orc:=[⟨.map .str .bool,af⟩,⟨.map .str .bool,some lY⟩]) (by kernel_rfl) (.c ly (.c lz (.c lA .n))) (jC (je (List.set X (am (t12+(1:Int))).toNat (some (some (cl (aV .str) lY lx true))),([]:List bH),[ar],v3.2.1,v3.2.2.1,v3.2.2.2.1,v3.2.2.2.2.1,v3.2.2.2.2.2.1,v3.2.2.2.2.2.2.1,v3.2.2.2.2.2.2.2.1,v3.2.2.2.2.2.2.2.2.1,v3.2.2.2.2.2.2.2.2.2.1,v3.2.2.2.2.2.2.2.2.2.2) (Nat.lt_succ_self _) h))
            refine aG (aP (bx o [0,1,2,3,10,11,12,13,15,20,52,53,66,124] [26,37,66,160,161,162,163] [] (orc:=[]) (by kernel_rfl) .n (aF (db (b:=decide (t12<(List.length l1:Int))) (by kernel_rfl) (fun lB=>?_) (fun lB=>?_)))))
            ·replace h:=dD lB h
             refine aP ?_
             obtain⟨lZ,ag,h⟩:=bind_some h
             obtain⟨_,lC,h⟩:=bind_some h
             replace lC:=dx lC
             exact bN o (orc:=[yX lZ]) (by kernel_rfl) (.c ag (.c lC .n)) (lb (ar.1++((Utf8.encode lZ).data.toList)) h)
            ·replace h:=dH lB h
             exact dh (jH (by kernel_rfl) (lb ar.1 h))
           ·replace h:=dH lw h
            exact dh (jC (jH (by kernel_rfl) (je (X,([]:List bH),[ar],v3.2.1,v3.2.2.1,v3.2.2.2.1,v3.2.2.2.2.1,v3.2.2.2.2.2.1,v3.2.2.2.2.2.2.1,v3.2.2.2.2.2.2.2.1,v3.2.2.2.2.2.2.2.2.1,v3.2.2.2.2.2.2.2.2.2.1,v3.2.2.2.2.2.2.2.2.2.2) (Nat.lt_succ_self _) h)))
          refine iW 118 (b:=!v3.1) (by kernel_rfl) (fun lD=>?_) (fun lD=>?_)
          ·rw[pS lD]at h
           exact bN o (orc:=[]) (by kernel_rfl) .n (lX true h)
          ·rw[pN lD]at h
           exact bN o (orc:=[]) (by kernel_rfl) .n (lX q h)
         refine aG (aP (bx o [0,1,2,3,10,11,12,13,15,16,17,52,53,66,82] [26,37,66,160,161,162,163] [] (orc:=[]) (by kernel_rfl) .n (aF (db (b:=v3.1) (by kernel_rfl) (fun lE=>?_) (fun lE=>?_)))))
         ·replace h:=dD lE h
          refine aG (aP ?_)
          obtain⟨l0,ah,h⟩:=bind_some h
          refine fm o 8 [0,1,2,3,10,11,12,13,15,16,17,52,53,66,83,84,90] [26,37,66,160,161,162,163] [] (orc:=[⟨bg,l0⟩]) (by kernel_rfl) (.c ah .n) ?_
          obtain⟨v4,ai,h⟩:=bind_some h
          refine Di o (D2 k) (l0,v3.2.1,v3.2.2.1,v3.2.2.2.1,v3.2.2.2.2.1,v3.2.2.2.2.2.1,v3.2.2.2.2.2.2.1,v3.2.2.2.2.2.2.2.1,v3.2.2.2.2.2.2.2.2.1,v3.2.2.2.2.2.2.2.2.2.1,v3.2.2.2.2.2.2.2.2.2.2) v4 ai (ρ:=[(161,42),(162,43),(163,44)]) (ρ':=[(42,161),(43,162),(44,163),(5,91)]) (n:=42) (by kernel_rfl) [0,1,2,3,10,11,12,13,15,16,17,52,53,66,83,91] [26,37,66,160,161,162,163] [91] (by kernel_rfl) (by kernel_rfl) (st':=⟨[(0,.ptr 161 0),(1,.val bg l1),(2,.ca 129 161),(3,aO q),(10,.clos 164 [26,160]),(11,ay (List.length l1:Int)),(12,ay (List.length c2:Int)),(13,.osl 37),(15,ay t12),(16,aN ar.1),(17,aO v3.1),(52,ay (am ((List.length l1:Int)+(1:Int)))),(53,ay t12),(66,.iter 66),(83,aN ar.1),(91,.row 91)],[(26,.cells [.ptr 161 0] 240),(37,.bd 146 (.mp .str .bool) R),(66,.cu .str .bool ([]:List bH) [ar]),(160,.cells [.val bg t13] 61),(161,.cells [aN v3.2.1,.val ax v3.2.2.1,.val br v3.2.2.2.1,.val az v3.2.2.2.2.1,.val az v3.2.2.2.2.2.1,bR v3.2.2.2.2.2.2.1,aO v3.2.2.2.2.2.2.2.1,.iter 162,.clos 161 [163]] 280),(162,.mp bn bo v3.2.2.2.2.2.2.2.2.1),(163,.cells [.val (.ab .str) v3.2.2.2.2.2.2.2.2.2.1,.val ax v3.2.2.2.2.2.2.2.2.2.2] 25)],[(91,⟨21,(.int .i32),v4⟩)]⟩) (by kernel_rfl) ?_
          obtain⟨_,lF,h⟩:=bind_some h
          replace lF:=dx lF
          obtain⟨_,lG,h⟩:=bind_some h
          replace lG:=dx lG
          refine bx o [0,1,2,3,10,11,12,13,15,16,17,18,52,53,66] [26,37,66,160,161,162,163] [] (orc:=[]) (by kernel_rfl) (.c lF (.c lG .n)) (aF (aG (aP (bx o [0,1,2,3,10,11,12,13,15,16,17,18,19,52,53,66] [26,37,66,160,161,162,163] [] (orc:=[]) (by kernel_rfl) .n (aF (kG (α:=cw) (fun z=>qz R t12 l1 ar (gD k (ik k l1 c2 q U) t12 t13 l1 c2 q W) v3 q z.1 z.2=some O) (fun z=>⟨[(0,.ptr 161 0),(1,.val bg l1),(2,.ca 129 161),(3,aO q),(10,.clos 164 [26,160]),(11,ay (List.length l1:Int)),(12,ay (List.length c2:Int)),(13,.osl 37),(15,ay t12),(16,aN ar.1),(17,aO v3.1),(18,aN (z.1)),(19,ay (z.2)),(52,ay (am ((List.length l1:Int)+(1:Int)))),(53,ay t12),(66,.iter 66)],[(26,.cells [.ptr 161 0] 240),(37,.bd 146 (.mp .str .bool) R),(66,.cu .str .bool ([]:List bH) [ar]),(160,.cells [.val bg t13] 61),(161,.cells [aN v3.2.1,.val ax v3.2.2.1,.val br v3.2.2.2.1,.val az v3.2.2.2.2.1,.val az v3.2.2.2.2.2.1,bR v3.2.2.2.2.2.2.1,aO v3.2.2.2.2.2.2.2.1,.iter 162,.clos 161 [163]] 280),(162,.mp bn bo v3.2.2.2.2.2.2.2.2.1),(163,.cells [.val (.ab .str) v3.2.2.2.2.2.2.2.2.2.1,.val ax v3.2.2.2.2.2.2.2.2.2.2] 25)],[]⟩) ?_ (fun l3=>?_)))))))
          ·rintro⟨aj,ak⟩ h
           unfold qz at h
           refine aP ?_
           obtain⟨_,lH,h⟩:=bind_some h
           replace lH:=dx lH
           obtain⟨al,lI,h⟩:=bind_some h
           replace lI:=kV lI
           obtain⟨l4,lJ,h⟩:=bind_some h
           replace lJ:=qi lJ
           exact bN o (orc:=[⟨.map .str .bool,al⟩,⟨.map .str .bool,some l4⟩]) (by kernel_rfl) (.c lH (.c lI (.c lJ .n))) (lb (List.set R (ak).toNat (some (some (cl (aV .str) l4 aj true)))) h)
          refine aG (aP (bx o [0,1,2,3,10,11,12,13,15,16,17,18,19,52,53,66,98] [26,37,66,160,161,162,163] [] (orc:=[]) (by kernel_rfl) .n (aF (db (b:=(List.length c2:Int)==(0:Int)) (by kernel_rfl) (fun lK=>?_) (fun lK=>?_)))))
          ·replace h:=dD lK h
           refine kG (α:=List UInt8) (fun z=>qB R t12 l1 ar (gD k (ik k l1 c2 q U) t12 t13 l1 c2 q W) v3 q c2 z=some O) (fun lL=>⟨[(0,.ptr 161 0),(1,.val bg l1),(2,.ca 129 161),(3,aO q),(10,.clos 164 [26,160]),(11,ay (List.length l1:Int)),(12,ay (List.length c2:Int)),(13,.osl 37),(15,ay t12),(16,aN ar.1),(17,aO v3.1),(18,aN lL),(19,ay (am (t12+(List.length c2:Int)))),(52,ay (am ((List.length l1:Int)+(1:Int)))),(53,ay t12),(66,.iter 66)],[(26,.cells [.ptr 161 0] 240),(37,.bd 146 (.mp .str .bool) R),(66,.cu .str .bool ([]:List bH) [ar]),(160,.cells [.val bg t13] 61),(161,.cells [aN v3.2.1,.val ax v3.2.2.1,.val br v3.2.2.2.1,.val az v3.2.2.2.2.1,.val az v3.2.2.2.2.2.1,bR v3.2.2.2.2.2.2.1,aO v3.2.2.2.2.2.2.2.1,.iter 162,.clos 161 [163]] 280),(162,.mp bn bo v3.2.2.2.2.2.2.2.2.1),(163,.cells [.val (.ab .str) v3.2.2.2.2.2.2.2.2.2.1,.val ax v3.2.2.2.2.2.2.2.2.2.2] 25)],[]⟩) ?_ (fun l5=>?_)
           ·rintro lL h
            unfold qB at h
            exact aP (bN o (orc:=[]) (by kernel_rfl) .n (l3 (lL,am ((am (t12+(List.length c2:Int)))+(1:Int))) h))
           refine aG (aP (bx o [0,1,2,3,10,11,12,13,15,16,17,18,19,52,53,66,101] [26,37,66,160,161,162,163] [] (orc:=[]) (by kernel_rfl) .n (aF (db (b:=decide (t12<(List.length l1:Int))) (by kernel_rfl) (fun lM=>?_) (fun lM=>?_)))))
           ·replace h:=dD lM h
            refine aP ?_
            obtain⟨l6,an,h⟩:=bind_some h
            obtain⟨_,lN,h⟩:=bind_some h
            replace lN:=dx lN
            exact bN o (orc:=[yX l6]) (by kernel_rfl) (.c an (.c lN .n)) (l5 ((ar.1++(cz v4))++((Utf8.encode l6).data.toList)) h)
           ·replace h:=dH lM h
            exact dh (jH (by kernel_rfl) (l5 (ar.1++(cz v4)) h))
          ·replace h:=dH lK h
           exact dh (jH (by kernel_rfl) (l3 (ar.1++(cz v4),am (t12+(List.length c2:Int))) h))
         ·replace h:=dH lE h
          exact dh (jH (by kernel_rfl) (lb R h))
    ·replace h:=dH lq h
     refine kR (gj (gj (kJ (aF (aG (aP ?_))))))
     obtain⟨_,lO,h⟩:=bind_some h
     replace lO:=dx lO
     obtain⟨lP,lQ,h⟩:=bind_some h
     replace lQ:=kV lQ
     refine bx o [0,2,21] [161,162,163] [] (orc:=[⟨.unit,()⟩,⟨.map .str .bool,lP⟩]) (by kernel_rfl) (.c lO (.c lQ .n)) (aF (aG (aG (aP (bx o [0,2,21,146] [161,162,163] [] (orc:=[]) (by kernel_rfl) .n (aF (db (b:=decide ((1024:Int)<(List.length (lP.getD []):Int))) (by kernel_rfl) (fun lR=>?_) (fun lR=>?_))))))))
     ·replace h:=dD lR h
      refine aG (aP (bN o (st':=⟨[(0,.ptr 161 0),(2,.ca 129 161),(8,.row 8),(9,ay (9:Int))],[(161,.cells [aN t14,.val ax t15,.val br t16,.val az t17,.val az t18,bR t19,aO t20,.iter 162,.clos 161 [163]] 280),(162,.mp bn bo m3),(163,.cells [.val (.ab .str) t21,.val ax t22] 25)],[(8,⟨9,.str,([]:List (List UInt8))⟩)]⟩) (orc:=[]) (by kernel_rfl) .n (aF (eM (df ?_)))))
      replace h:=Option.some.inj h
      subst h
      exact gr [0,2,8,9] [161,162,163] [8] [(161,161),(162,162),(163,163),(8,3500001)] (by kernel_rfl) (fZ o.P [161,162,163] [3500001] (.inl rfl) (by kernel_rfl) (by kernel_rfl))
     ·replace h:=dH lR h
      refine dh (aF (aG (aP (bx o [0,2,21,22] [161,162,163] [22] (orc:=[]) (by kernel_rfl) .n (aF (aG (aG (aP (bN o (orc:=[]) (by kernel_rfl) .n (aF (fX (kA (α:=(List bH×List bH×List (List UInt8))) (fun n z=>o6 k t14 t15 t16 t17 t18 t19 t20 m3 t21 t22 n z.1 z.2.1 z.2.2=some O) (fun z=>⟨[(0,.ptr 161 0),(2,.ca 129 161),(22,.row 22),(148,.iter 148)],[(148,.cu .str .bool (z.1) (z.2.1)),(161,.cells [aN t14,.val ax t15,.val br t16,.val az t17,.val az t18,bR t19,aO t20,.iter 162,.clos 161 [163]] 280),(162,.mp bn bo m3),(163,.cells [.val (.ab .str) t21,.val ax t22] 25)],[(22,⟨9,.str,(z.2.2)⟩)]⟩) ?_ (k:=k) (x:=(lP.getD [],([]:List bH),([]:List (List UInt8)))) h))))))))))))
      clear h
      rintro lS ⟨lg,gX,lc⟩ h
      cases lS with
      |zero=>exact absurd (show none=some _ from h) (by simp)
      |succ lS=>
       have h:uH k t14 t15 t16 t17 t18 t19 t20 m3 t21 t22 (o6 k t14 t15 t16 t17 t18 t19 t20 m3 t21 t22 lS) lg gX lc=some O:=h
       unfold uH at h
       refine aG (aP ?_)
       rcases xn h with ⟨lT,h⟩|⟨Y,lT,h⟩
       ·refine zK o (d:=149) (b:=148) (k:=.str) (v:=.bool) (left:=lg) (last:=gX) (by kernel_rfl) (by kernel_rfl) lT (st':=⟨[(0,.ptr 161 0),(2,.ca 129 161),(22,.row 22),(148,.iter 148),(149,.dI [gK false])],[(148,.cu .str .bool lg gX),(161,.cells [aN t14,.val ax t15,.val br t16,.val az t17,.val az t18,bR t19,aO t20,.iter 162,.clos 161 [163]] 280),(162,.mp bn bo m3),(163,.cells [.val (.ab .str) t21,.val ax t22] 25)],[(22,⟨9,.str,lc⟩)]⟩) (by kernel_rfl) (bx o [0,2,22,148,150] [148,161,162,163] [22] (orc:=[]) (by kernel_rfl) .n (aF (aG (yf (by kernel_rfl) (kR (gj (gj (kJ (aF (aG (aP (bx o [0,2,8,9] [161,162,163] [22] (orc:=[]) (by kernel_rfl) .n (aF (eM ?_))))))))))))))
        replace h:=Option.some.inj h
        subst h
        exact gr [0,2,8,9] [161,162,163] [22] [(161,161),(162,162),(163,163),(22,3500001)] (by kernel_rfl) (fZ o.P [161,162,163] [3500001] (.inl rfl) (by kernel_rfl) (by kernel_rfl))
       ·refine vR o (d:=149) (b:=148) (k:=.str) (v:=.bool) (left:=lg) (last:=gX) (p:=Y) (by kernel_rfl) (by kernel_rfl) lT (st':=⟨[(0,.ptr 161 0),(2,.ca 129 161),(22,.row 22),(148,.iter 148),(149,.dI [gK true,mI Y.1,gK Y.2])],[(148,.cu .str .bool ([]:List bH) [Y]),(161,.cells [aN t14,.val ax t15,.val br t16,.val az t17,.val az t18,bR t19,aO t20,.iter 162,.clos 161 [163]] 280),(162,.mp bn bo m3),(163,.cells [.val (.ab .str) t21,.val ax t22] 25)],[(22,⟨9,.str,lc⟩)]⟩) (by kernel_rfl) (bx o [0,2,22,148,150] [148,161,162,163] [22] (orc:=[]) (by kernel_rfl) .n (aF (aG (yQ (by kernel_rfl) (dh (aF (fX (aG (aP (bN o (st':=⟨[(0,.ptr 161 0),(2,.ca 129 161),(22,.row 22),(23,aN Y.1),(148,.iter 148)],[(148,.cu .str .bool ([]:List bH) [Y]),(161,.cells [aN t14,.val ax t15,.val br t16,.val az t17,.val az t18,bR t19,aO t20,.iter 162,.clos 161 [163]] 280),(162,.mp bn bo m3),(163,.cells [.val (.ab .str) t21,.val ax t22] 25)],[(22,⟨9,.str,lc⟩)]⟩) (orc:=[]) (by kernel_rfl) .n (aF (aG (aG (aP ?_))))))))))))))
        obtain⟨v5,ao,h⟩:=bind_some h
        refine bx o [0,2,22,23,148,155] [148,161,162,163] [22] (orc:=[k3 v5]) (by kernel_rfl) (.c ao .n) (aF (db (b:=decide ((256:Int)<v5)) (by kernel_rfl) (fun lU=>?_) (fun lU=>?_)))
        ·replace h:=dD lU h
         refine aG (aP (bx o [0,2,8,9] [161,162,163] [8] (orc:=[]) (by kernel_rfl) .n (aF (eM (df (fP (df (fP (df ?_)))))))))
         replace h:=Option.some.inj h
         subst h
         exact gr [0,2,8,9] [161,162,163] [8] [(161,161),(162,162),(163,163),(8,3500001)] (by kernel_rfl) (fZ o.P [161,162,163] [3500001] (.inl rfl) (by kernel_rfl) (by kernel_rfl))
        ·replace h:=dH lU h
         refine dh (aF (aP ?_))
         obtain⟨_,lV,h⟩:=bind_some h
         replace lV:=dx lV
         exact bN o (orc:=[]) (by kernel_rfl) (.c lV .n) (jC (je (([]:List bH),[Y],lc++([Y.1]:List (List UInt8))) (Nat.lt_succ_self _) h))
noncomputable def JL(k:Nat):dM Tryz.prog aq xJ cb:=⟨127,LL k,fun st=>cF st [.ab 1 bg,.ab 3 .bool,.ad 161 0 .str,.ad 161 1 ax,.ad 161 2 br,.ad 161 3 az,.ad 161 4 az,.ad 161 5 (.int .u8),.ad 161 6 .bool,.mp 162 bn bo,.ad 163 0 (.ab .str),.ad 163 1 ax],fun z=>nr k (z.1) (z.2.1) (z.2.2.1) (z.2.2.2.1) (z.2.2.2.2.1) (z.2.2.2.2.2.1) (z.2.2.2.2.2.2.1) (z.2.2.2.2.2.2.2.1) (z.2.2.2.2.2.2.2.2.1) (z.2.2.2.2.2.2.2.2.2.1) (z.2.2.2.2.2.2.2.2.2.2.1) (z.2.2.2.2.2.2.2.2.2.2.2),(Tj k),fun _ _ h=>h⟩
end Go.Ev
