/- Contracts, by program. -/
import Derived.Test.YteopobecmacgdaaGreatDoorProg
import Derived.Test.YteopobecmacgdaaGreatDoorMM6
import Derived.Test.YteopobecmacgdaaGreatDoorMM9
import Derived.Test.YteopobecmacgdaaGreatDoorCtLoP1
import Derived.Test.YteopobecmacgdaaGreatDoorCtLoP4
import Derived.KernelRfl
import Derived.Test.YteopobecmacgdaaGreatDoorTyA
set_option linter.unusedSectionVars false
set_option linter.unusedVariables false
set_option linter.unusedSimpArgs false
namespace Go.Ev
open Go Go.Proofs
set_option linter.unusedVariables false
set_option maxRecDepth 100000
noncomputable def Jo(k:Nat):bU vQ b6 where
 n:=161
 S:=fun z=>⟨[(0,.ptr 161 0),(1,.val bl (z.1)),(2,.b9 128 161),(3,aY (z.2.1))],[(161,.cells [bj (z.2.2.1),.val au (z.2.2.2.1),.val bn (z.2.2.2.2.1),.val av (z.2.2.2.2.2.1),.val av (z.2.2.2.2.2.2.1),bR (z.2.2.2.2.2.2.2.1),aY (z.2.2.2.2.2.2.2.2.1),.iter 162,.clos 161 [163]] 280),(162,.mp bk bo (z.2.2.2.2.2.2.2.2.2.1)),(163,.cells [.val (.ab .str) (z.2.2.2.2.2.2.2.2.2.2.1),.val au (z.2.2.2.2.2.2.2.2.2.2.2)] 25)],[]⟩
 bJ:=fun z y=>⟨[],[(161,.cells [bj (y.2.1),.val au (y.2.2.1),.val bn (y.2.2.2.1),.val av (y.2.2.2.2.1),.val av (y.2.2.2.2.2.1),bR (y.2.2.2.2.2.2.1),aY (y.2.2.2.2.2.2.2.1),.iter 162,.clos 161 [163]] 280),(162,.mp bk bo (y.2.2.2.2.2.2.2.2.1)),(163,.cells [.val (.ab .str) (y.2.2.2.2.2.2.2.2.2.1),.val au (y.2.2.2.2.2.2.2.2.2.2.1)] 25)],[(3500001,⟨9,.str,(y.2.2.2.2.2.2.2.2.2.2.2)⟩)]⟩
 ap:=fun z y=>[.row 3500001,ax (y.1)]
 rel:=fun z y=>o0 k (z.1) (z.2.1) (z.2.2.1) (z.2.2.2.1) (z.2.2.2.2.1) (z.2.2.2.2.2.1) (z.2.2.2.2.2.2.1) (z.2.2.2.2.2.2.2.1) (z.2.2.2.2.2.2.2.2.1) (z.2.2.2.2.2.2.2.2.2.1) (z.2.2.2.2.2.2.2.2.2.2.1) (z.2.2.2.2.2.2.2.2.2.2.2)=some y
noncomputable def UV(k:Nat):Env:=cl Tryz.prog am 161 [CI k,VP k]
theorem QT(k:Nat):cb Tryz.prog am 127 (Jo k):=by
 refine mY (fn:=Tryz.f127) Tryz.func127 (by kernel_rfl) rfl Tryz.ntmps127 ?_
 rintro cx ag ah ai ⟨l1,q,lY,c2,c3,lZ,c5,l0,l3,m1,l4,l5⟩ O h
 have o:bv (UV k) cx:=im ag ah ai
 replace h:o0 k l1 q lY c2 c3 lZ c5 l0 l3 m1 l4 l5=some O:=h
 unfold o0 at h
 refine aI (aX (bC o [0,1,2,3] [161,162,163] [] (orc:=[]) (by kernel_rfl) .n (aM (aI (aX (iv o 2 [0,1,2,3,24,25] [161,162,163] [] (orc:=[]) (by kernel_rfl) .n ?_))))))
 obtain⟨v1,ak,h⟩:=bind_some h
 refine ov o (GR k) (l1,lY,c2,c3,lZ,c5,l0,l3,m1,l4,l5) v1 ak (ρ:=[(161,35),(162,36),(163,37)]) (ρ':=[(5,26),(35,161),(36,162),(37,163),(10,160)]) (n:=35) (by kernel_rfl) [0,1,2,3,26] [26,161,162,163] [160] (by kernel_rfl) (by kernel_rfl) (by kernel_rfl) (cM o (st':=⟨[(0,.ptr 161 0),(1,.val bl l1),(2,.b9 128 161),(3,aY q),(10,.clos 163 [26])],[(26,.cells [.row 160] 78),(161,.cells [bj v1.1,.val au v1.2.1,.val bn v1.2.2.1,.val av v1.2.2.2.1,.val av v1.2.2.2.2.1,bR v1.2.2.2.2.2.1,aY v1.2.2.2.2.2.2.1,.iter 162,.clos 161 [163]] 280),(162,.mp bk bo v1.2.2.2.2.2.2.2.1),(163,.cells [.val (.ab .str) v1.2.2.2.2.2.2.2.2.1,.val au v1.2.2.2.2.2.2.2.2.2.1] 25)],[(160,⟨4,.bool,v1.2.2.2.2.2.2.2.2.2.2⟩)]⟩) (orc:=[]) (by kernel_rfl) .n (aM (aI (Cd o (by kernel_rfl) (by kernel_rfl) (Kz o [0,1,2,3,10,11,12] [26,161,162,163] [160] (orc:=[]) (by kernel_rfl) .n (aM (aI (aX ?_))))))))
 obtain⟨_,li,h⟩:=bind_some h
 replace li:=dj li
 obtain⟨_,lj,h⟩:=bind_some h
 replace lj:=dj lj
 refine bC o [0,1,2,3,10,11,12,13] [26,37,161,162,163] [160] (orc:=[⟨.unit,()⟩]) (by kernel_rfl) (.c (show(List.replicate (aj ((List.length l1:Int)+(2:Int))).toNat (none:Option bQ))=List.replicate (List.length (List.replicate (aj ((List.length l1:Int)+(2:Int))).toNat (none:Option bQ))) ((none:Option bQ))/\0<List.length (List.replicate (aj ((List.length l1:Int)+(2:Int))).toNat (none:Option bQ))from FW (none:Option bQ) li) (.c lj .n)) (aM (aI (aI (aX (cM o (orc:=[]) (by kernel_rfl) .n (aM (fT (kC (α:=(Int×List eI)) (fun n z=>uk k l1 v1 q n z.1 z.2=some O) (fun z=>⟨[(0,.ptr 161 0),(1,.val bl l1),(2,.b9 128 161),(3,aY q),(10,.clos 163 [26]),(11,ax (List.length l1:Int)),(12,ax (List.length v1.2.1:Int)),(13,.osl 37),(39,ax (List.length (List.map some (List.replicate (aj ((List.length l1:Int)+(2:Int))).toNat (none:Option bQ))):Int)),(40,ax (z.1))],[(26,.cells [.row 160] 78),(37,.aZ 146 (.mp .str .bool) (z.2)),(161,.cells [bj v1.1,.val au v1.2.1,.val bn v1.2.2.1,.val av v1.2.2.2.1,.val av v1.2.2.2.2.1,bR v1.2.2.2.2.2.1,aY v1.2.2.2.2.2.2.1,.iter 162,.clos 161 [163]] 280),(162,.mp bk bo v1.2.2.2.2.2.2.2.1),(163,.cells [.val (.ab .str) v1.2.2.2.2.2.2.2.2.1,.val au v1.2.2.2.2.2.2.2.2.2.1] 25)],[(160,⟨4,.bool,v1.2.2.2.2.2.2.2.2.2.2⟩)]⟩) ?_ (k:=k) (x:=((0:Int),List.map some (List.replicate (aj ((List.length l1:Int)+(2:Int))).toNat (none:Option bQ)))) h))))))))
 clear h
 rintro lk ⟨t11,le⟩ h
 cases lk with
 |zero=>exact absurd (show none=some _ from h) (by simp)
 |succ lk=>
  have h:xT k l1 v1 q (uk k l1 v1 q lk) t11 le=some O:=h
  unfold xT at h
  refine aI (aX (bC o [0,1,2,3,10,11,12,13,39,40,41] [26,37,161,162,163] [160] (orc:=[]) (by kernel_rfl) .n (aM (aI (dt (b:=decide (t11<(List.length (List.map some (List.replicate (aj ((List.length l1:Int)+(2:Int))).toNat (none:Option bQ))):Int))) (by kernel_rfl) (fun ll=>?_) (fun ll=>?_))))))
  ·replace h:=eh ll h
   refine dA (aM (aI (fT (aI (aX (bC o [0,1,2,3,10,11,12,13,14,39,40] [26,37,161,162,163] [160] (orc:=[]) (by kernel_rfl) .n (aM (aX ?_))))))))
   obtain⟨_,lm,h⟩:=bind_some h
   replace lm:=dj lm
   obtain⟨_,ln,h⟩:=bind_some h
   replace ln:=dj ln
   exact bC o [0,1,2,3,10,11,12,13,39,40] [26,37,161,162,163] [160] (orc:=[]) (by kernel_rfl) (.c lm (.c ln .n)) (jf (aM (aX (cM o (orc:=[]) (by kernel_rfl) .n (js (aj (t11+(1:Int)),List.set le (t11).toNat (some (some ([]:List bw)))) (Nat.lt_succ_self _) h)))))
  ·replace h:=eg ll h
   refine j8 (gf (gf (kF (aM (aI (aX ?_))))))
   obtain⟨_,lo,h⟩:=bind_some h
   replace lo:=dj lo
   obtain⟨al,lp,h⟩:=bind_some h
   replace lp:=jH lp
   obtain⟨lq,lr,h⟩:=bind_some h
   replace lr:=nX lr
   refine cM o (st':=⟨[(0,.ptr 161 0),(1,.val bl l1),(2,.b9 128 161),(3,aY q),(10,.clos 163 [26]),(11,ax (List.length l1:Int)),(12,ax (List.length v1.2.1:Int)),(13,.osl 37)],[(26,.cells [.row 160] 78),(37,.aZ 146 (.mp .str .bool) (List.set le ((0:Int)).toNat (some (some (cm (aQ .str) lq ([]:List UInt8) true))))),(161,.cells [bj v1.1,.val au v1.2.1,.val bn v1.2.2.1,.val av v1.2.2.2.1,.val av v1.2.2.2.2.1,bR v1.2.2.2.2.2.1,aY v1.2.2.2.2.2.2.1,.iter 162,.clos 161 [163]] 280),(162,.mp bk bo v1.2.2.2.2.2.2.2.1),(163,.cells [.val (.ab .str) v1.2.2.2.2.2.2.2.2.1,.val au v1.2.2.2.2.2.2.2.2.2.1] 25)],[(160,⟨4,.bool,v1.2.2.2.2.2.2.2.2.2.2⟩)]⟩) (orc:=[⟨.map .str .bool,al⟩,⟨.map .str .bool,some lq⟩]) (by kernel_rfl) (.c lo (.c lp (.c lr .n))) (aM (aI (aI (aX (cM o (orc:=[]) (by kernel_rfl) .n (aM (fT (kC (α:=(Int×List eI×List UInt8×List aw×List bG×List aD×List aD×Int×Bool×List bY×List (List UInt8)×List aw×List (Bool))) (fun n z=>iF k l1 v1 q n z.1 z.2.1 z.2.2.1 z.2.2.2.1 z.2.2.2.2.1 z.2.2.2.2.2.1 z.2.2.2.2.2.2.1 z.2.2.2.2.2.2.2.1 z.2.2.2.2.2.2.2.2.1 z.2.2.2.2.2.2.2.2.2.1 z.2.2.2.2.2.2.2.2.2.2.1 z.2.2.2.2.2.2.2.2.2.2.2.1 z.2.2.2.2.2.2.2.2.2.2.2.2=some O) (fun z=>⟨[(0,.ptr 161 0),(1,.val bl l1),(2,.b9 128 161),(3,aY q),(10,.clos 163 [26]),(11,ax (List.length l1:Int)),(12,ax (List.length v1.2.1:Int)),(13,.osl 37),(52,ax (aj ((List.length l1:Int)+(1:Int)))),(53,ax (z.1))],[(26,.cells [.row 160] 78),(37,.aZ 146 (.mp .str .bool) (z.2.1)),(161,.cells [bj (z.2.2.1),.val au (z.2.2.2.1),.val bn (z.2.2.2.2.1),.val av (z.2.2.2.2.2.1),.val av (z.2.2.2.2.2.2.1),bR (z.2.2.2.2.2.2.2.1),aY (z.2.2.2.2.2.2.2.2.1),.iter 162,.clos 161 [163]] 280),(162,.mp bk bo (z.2.2.2.2.2.2.2.2.2.1)),(163,.cells [.val (.ab .str) (z.2.2.2.2.2.2.2.2.2.2.1),.val au (z.2.2.2.2.2.2.2.2.2.2.2.1)] 25)],[(160,⟨4,.bool,(z.2.2.2.2.2.2.2.2.2.2.2.2)⟩)]⟩) ?_ (k:=k) (x:=((0:Int),List.set le ((0:Int)).toNat (some (some (cm (aQ .str) lq ([]:List UInt8) true))),v1.1,v1.2.1,v1.2.2.1,v1.2.2.2.1,v1.2.2.2.2.1,v1.2.2.2.2.2.1,v1.2.2.2.2.2.2.1,v1.2.2.2.2.2.2.2.1,v1.2.2.2.2.2.2.2.2.1,v1.2.2.2.2.2.2.2.2.2.1,v1.2.2.2.2.2.2.2.2.2.2)) h))))))))
   clear h
   rintro U ⟨t12,l6,t13,t14,t15,t16,t17,t18,t19,m3,t20,t21,t22⟩ h
   cases U with
   |zero=>exact absurd (show none=some _ from h) (by simp)
   |succ U=>
    have h:wo k l1 v1 q (iF k l1 v1 q U) t12 l6 t13 t14 t15 t16 t17 t18 t19 m3 t20 t21 t22=some O:=h
    unfold wo at h
    refine aI (aX (bC o [0,1,2,3,10,11,12,13,52,53,54] [26,37,161,162,163] [160] (orc:=[]) (by kernel_rfl) .n (aM (aI (dt (b:=decide (t12<(aj ((List.length l1:Int)+(1:Int))))) (by kernel_rfl) (fun ls=>?_) (fun ls=>?_))))))
    ·replace h:=eh ls h
     refine dA (aM (aI (fT (aI (aX (bC o [0,1,2,3,10,11,12,13,15,52,53] [26,37,161,162,163] [160] (orc:=[]) (by kernel_rfl) .n (aM (aI (aI (aX ?_))))))))))
     obtain⟨_,lt,h⟩:=bind_some h
     replace lt:=dj lt
     obtain⟨la,lb,h⟩:=bind_some h
     replace lb:=jH lb
     refine bC o [0,1,2,3,10,11,12,13,15,52,53,61] [26,37,161,162,163] [160] (orc:=[⟨.map .str .bool,la⟩,⟨.map .str .bool,la⟩]) (by kernel_rfl) (.c lt (.c lb (.c lb .n))) (aM (dt (b:=decide ((1024:Int)<(List.length (Option.getD la []):Int))) (by kernel_rfl) (fun lu=>?_) (fun lu=>?_)))
     ·replace h:=eh lu h
      refine aI (aX (cM o (st':=⟨[(0,.ptr 161 0),(2,.b9 128 161),(8,.row 8),(9,ax (9:Int))],[(161,.cells [bj t13,.val au t14,.val bn t15,.val av t16,.val av t17,bR t18,aY t19,.iter 162,.clos 161 [163]] 280),(162,.mp bk bo m3),(163,.cells [.val (.ab .str) t20,.val au t21] 25)],[(8,⟨9,.str,([]:List (List UInt8))⟩)]⟩) (orc:=[]) (by kernel_rfl) .n (aM (eU (dF (fW (dF (dF (fW (dF ?_))))))))))
      replace h:=Option.some.inj h
      subst h
      exact gc [0,2,8,9] [161,162,163] [8] [(161,161),(162,162),(163,163),(8,3500001)] (by kernel_rfl) (fm o.P [161,162,163] [3500001] (.inl rfl) (by kernel_rfl) (by kernel_rfl))
     ·replace h:=eg lu h
      refine dA (aM (aI (aX ?_)))
      obtain⟨_,lv,h⟩:=bind_some h
      replace lv:=dj lv
      refine cM o (orc:=[⟨.unit,()⟩,⟨.map .str .bool,la⟩]) (by kernel_rfl) (.c lv (.c lb .n)) (aM (fT (kC (α:=(List eI×List bw×List bw)) (fun n z=>kI k (iF k l1 v1 q U) t12 t13 t14 t15 t16 t17 t18 t19 m3 t20 t21 t22 l1 v1 q n z.1 z.2.1 z.2.2=some O) (fun z=>⟨[(0,.ptr 161 0),(1,.val bl l1),(2,.b9 128 161),(3,aY q),(10,.clos 163 [26]),(11,ax (List.length l1:Int)),(12,ax (List.length v1.2.1:Int)),(13,.osl 37),(15,ax t12),(52,ax (aj ((List.length l1:Int)+(1:Int)))),(53,ax t12),(66,.iter 66)],[(26,.cells [.row 160] 78),(37,.aZ 146 (.mp .str .bool) (z.1)),(66,.cv .str .bool (z.2.1) (z.2.2)),(161,.cells [bj t13,.val au t14,.val bn t15,.val av t16,.val av t17,bR t18,aY t19,.iter 162,.clos 161 [163]] 280),(162,.mp bk bo m3),(163,.cells [.val (.ab .str) t20,.val au t21] 25)],[(160,⟨4,.bool,t22⟩)]⟩) ?_ (k:=k) (x:=(List.set l6 (t12).toNat none,la.getD [],([]:List bw))) h)))
      clear h
      rintro W ⟨R,lf,lg⟩ h
      cases W with
      |zero=>exact absurd (show none=some _ from h) (by simp)
      |succ W=>
       have h:xU k (iF k l1 v1 q U) t12 t13 t14 t15 t16 t17 t18 t19 m3 t20 t21 t22 l1 v1 q (kI k (iF k l1 v1 q U) t12 t13 t14 t15 t16 t17 t18 t19 m3 t20 t21 t22 l1 v1 q W) R lf lg=some O:=h
       unfold xU at h
       refine aI (aX ?_)
       rcases vA h with ⟨lw,h⟩|⟨L,lw,h⟩
       ·exact uW o (d:=67) (b:=66) (k:=.str) (v:=.bool) (left:=lf) (last:=lg) (by kernel_rfl) (by kernel_rfl) lw (st':=⟨[(0,.ptr 161 0),(1,.val bl l1),(2,.b9 128 161),(3,aY q),(10,.clos 163 [26]),(11,ax (List.length l1:Int)),(12,ax (List.length v1.2.1:Int)),(13,.osl 37),(15,ax t12),(52,ax (aj ((List.length l1:Int)+(1:Int)))),(53,ax t12),(66,.iter 66),(67,.dD [gE false])],[(26,.cells [.row 160] 78),(37,.aZ 146 (.mp .str .bool) R),(66,.cv .str .bool lf lg),(161,.cells [bj t13,.val au t14,.val bn t15,.val av t16,.val av t17,bR t18,aY t19,.iter 162,.clos 161 [163]] 280),(162,.mp bk bo m3),(163,.cells [.val (.ab .str) t20,.val au t21] 25)],[(160,⟨4,.bool,t22⟩)]⟩) (by kernel_rfl) (bC o [0,1,2,3,10,11,12,13,15,52,53,66,68] [26,37,66,161,162,163] [160] (orc:=[]) (by kernel_rfl) .n (aM (aI (s6 (by kernel_rfl) (j8 (gf (gf (kF (jf (aM (aX (cM o (orc:=[]) (by kernel_rfl) .n (js (aj (t12+(1:Int)),R,t13,t14,t15,t16,t17,t18,t19,m3,t20,t21,t22) (Nat.lt_succ_self _) h)))))))))))))
       ·refine sZ o (d:=67) (b:=66) (k:=.str) (v:=.bool) (left:=lf) (last:=lg) (p:=L) (by kernel_rfl) (by kernel_rfl) lw (st':=⟨[(0,.ptr 161 0),(1,.val bl l1),(2,.b9 128 161),(3,aY q),(10,.clos 163 [26]),(11,ax (List.length l1:Int)),(12,ax (List.length v1.2.1:Int)),(13,.osl 37),(15,ax t12),(52,ax (aj ((List.length l1:Int)+(1:Int)))),(53,ax t12),(66,.iter 66),(67,.dD [gE true,rY L.1,gE L.2])],[(26,.cells [.row 160] 78),(37,.aZ 146 (.mp .str .bool) R),(66,.cv .str .bool ([]:List bw) [L]),(161,.cells [bj t13,.val au t14,.val bn t15,.val av t16,.val av t17,bR t18,aY t19,.iter 162,.clos 161 [163]] 280),(162,.mp bk bo m3),(163,.cells [.val (.ab .str) t20,.val au t21] 25)],[(160,⟨4,.bool,t22⟩)]⟩) (by kernel_rfl) (bC o [0,1,2,3,10,11,12,13,15,52,53,66,68] [26,37,66,161,162,163] [160] (orc:=[]) (by kernel_rfl) .n (aM (aI (vG (by kernel_rfl) (dA (aM (fT (aI (aX (bC o [0,1,2,3,10,11,12,13,15,16,52,53,66] [26,37,66,161,162,163] [160] (orc:=[]) (by kernel_rfl) .n (aM (aI (aI (aX ?_))))))))))))))
        obtain⟨v2,an,h⟩:=bind_some h
        refine cM o (st':=⟨[(0,.ptr 161 0),(1,.val bl l1),(2,.b9 128 161),(3,aY q),(10,.clos 163 [26]),(11,ax (List.length l1:Int)),(12,ax (List.length v1.2.1:Int)),(13,.osl 37),(15,ax t12),(16,bj L.1),(52,ax (aj ((List.length l1:Int)+(1:Int)))),(53,ax t12),(66,.iter 66),(77,aY (decide ((256:Int)<(aj ((aj (v2+(List.length l1:Int)))-t12)))))],[(26,.cells [.row 160] 78),(37,.aZ 146 (.mp .str .bool) R),(66,.cv .str .bool ([]:List bw) [L]),(161,.cells [bj t13,.val au t14,.val bn t15,.val av t16,.val av t17,bR t18,aY t19,.iter 162,.clos 161 [163]] 280),(162,.mp bk bo m3),(163,.cells [.val (.ab .str) t20,.val au t21] 25)],[(160,⟨4,.bool,t22⟩)]⟩) (orc:=[jQ v2]) (by kernel_rfl) (.c an .n) (aM (dt (b:=decide ((256:Int)<(aj ((aj (v2+(List.length l1:Int)))-t12)))) (by kernel_rfl) (fun lx=>?_) (fun lx=>?_)))
        ·replace h:=eh lx h
         refine aI (aX (bC o [0,2,8,9] [161,162,163] [8] (orc:=[]) (by kernel_rfl) .n (aM (eU (dF (fW (dF (fW (fW (dF (dF (fW (dF ?_)))))))))))))
         replace h:=Option.some.inj h
         subst h
         exact gc [0,2,8,9] [161,162,163] [8] [(161,161),(162,162),(163,163),(8,3500001)] (by kernel_rfl) (fm o.P [161,162,163] [3500001] (.inl rfl) (by kernel_rfl) (by kernel_rfl))
        ·replace h:=eg lx h
         refine dA (aM (aI (aX ?_)))
         obtain⟨v3,ao,h⟩:=bind_some h
         refine bC o [0,1,2,3,10,11,12,13,15,16,17,52,53,66] [26,37,66,161,162,163] [160] (orc:=[gE v3]) (by kernel_rfl) (.c ao .n) (aM (kx (α:=List eI) (fun z=>vd t12 l1 L (kI k (iF k l1 v1 q U) t12 t13 t14 t15 t16 t17 t18 t19 m3 t20 t21 t22 l1 v1 q W) v3 q z=some O) (fun Y=>⟨[(0,.ptr 161 0),(1,.val bl l1),(2,.b9 128 161),(3,aY q),(10,.clos 163 [26]),(11,ax (List.length l1:Int)),(12,ax (List.length v1.2.1:Int)),(13,.osl 37),(15,ax t12),(16,bj L.1),(17,aY v3),(52,ax (aj ((List.length l1:Int)+(1:Int)))),(53,ax t12),(66,.iter 66)],[(26,.cells [.row 160] 78),(37,.aZ 146 (.mp .str .bool) Y),(66,.cv .str .bool ([]:List bw) [L]),(161,.cells [bj t13,.val au t14,.val bn t15,.val av t16,.val av t17,bR t18,aY t19,.iter 162,.clos 161 [163]] 280),(162,.mp bk bo m3),(163,.cells [.val (.ab .str) t20,.val au t21] 25)],[(160,⟨4,.bool,t22⟩)]⟩) ?_ (fun lc=>?_)))
         ·rintro Y h
          unfold vd at h
          refine aI (aX (iv o 3 [0,1,2,3,10,11,12,13,15,16,52,53,66,118] [26,37,66,161,162,163] [160] (orc:=[]) (by kernel_rfl) .n (xg (α:=Bool) (fun z=>A5 t12 l1 L Y (kI k (iF k l1 v1 q U) t12 t13 t14 t15 t16 t17 t18 t19 m3 t20 t21 t22 l1 v1 q W) z=some O) (fun t23=>⟨[(0,.ptr 161 0),(1,.val bl l1),(2,.b9 128 161),(3,aY q),(10,.clos 163 [26]),(11,ax (List.length l1:Int)),(12,ax (List.length v1.2.1:Int)),(13,.osl 37),(15,ax t12),(16,bj L.1),(52,ax (aj ((List.length l1:Int)+(1:Int)))),(53,ax t12),(66,.iter 66),(120,aY t23)],[(26,.cells [.row 160] 78),(37,.aZ 146 (.mp .str .bool) Y),(66,.cv .str .bool ([]:List bw) [L]),(161,.cells [bj t13,.val au t14,.val bn t15,.val av t16,.val av t17,bR t18,aY t19,.iter 162,.clos 161 [163]] 280),(162,.mp bk bo m3),(163,.cells [.val (.ab .str) t20,.val au t21] 25)],[(160,⟨4,.bool,t22⟩)]⟩) 2 ?_ (fun l7=>?_))))
          ·rintro t23 h
           unfold A5 at h
           refine jL (aM (dt (b:=t23) (by kernel_rfl) (fun ly=>?_) (fun ly=>?_)))
           ·replace h:=eh ly h
            refine aI (aX (bC o [0,1,2,3,10,11,12,13,15,20,52,53,66] [26,37,66,161,162,163] [160] (orc:=[]) (by kernel_rfl) .n (aM (kx (α:=List UInt8) (fun z=>uG t12 Y (kI k (iF k l1 v1 q U) t12 t13 t14 t15 t16 t17 t18 t19 m3 t20 t21 t22 l1 v1 q W) L z=some O) (fun lz=>⟨[(0,.ptr 161 0),(1,.val bl l1),(2,.b9 128 161),(3,aY q),(10,.clos 163 [26]),(11,ax (List.length l1:Int)),(12,ax (List.length v1.2.1:Int)),(13,.osl 37),(15,ax t12),(20,bj lz),(52,ax (aj ((List.length l1:Int)+(1:Int)))),(53,ax t12),(66,.iter 66)],[(26,.cells [.row 160] 78),(37,.aZ 146 (.mp .str .bool) Y),(66,.cv .str .bool ([]:List bw) [L]),(161,.cells [bj t13,.val au t14,.val bn t15,.val av t16,.val av t17,bR t18,aY t19,.iter 162,.clos 161 [163]] 280),(162,.mp bk bo m3),(163,.cells [.val (.ab .str) t20,.val au t21] 25)],[(160,⟨4,.bool,t22⟩)]⟩) ?_ (fun lc=>?_)))))
            ·rintro lz h
             unfold uG at h
             refine aX ?_
             obtain⟨_,lA,h⟩:=bind_some h
             replace lA:=dj lA
             obtain⟨ap,lB,h⟩:=bind_some h
             replace lB:=jH lB
             obtain⟨l8,lC,h⟩:=bind_some h
             replace lC:=nX lC
             exact cM o (orc:=[⟨.map .str .bool,ap⟩,⟨.map .str .bool,some l8⟩]) (by kernel_rfl) (.c lA (.c lB (.c lC .n))) (jf (js (List.set Y (aj (t12+(1:Int))).toNat (some (some (cm (aQ .str) l8 lz true))),([]:List bw),[L]) (Nat.lt_succ_self _) h))
            refine aI (aX (bC o [0,1,2,3,10,11,12,13,15,20,52,53,66,124] [26,37,66,161,162,163] [160] (orc:=[]) (by kernel_rfl) .n (aM (dt (b:=decide (t12<(List.length l1:Int))) (by kernel_rfl) (fun lD=>?_) (fun lD=>?_)))))
            ·replace h:=eh lD h
             refine aX ?_
             obtain⟨l9,aq,h⟩:=bind_some h
             obtain⟨_,lE,h⟩:=bind_some h
             replace lE:=dj lE
             exact cM o (orc:=[tM l9]) (by kernel_rfl) (.c aq (.c lE .n)) (lc (L.1++((Utf8.encode l9).data.toList)) h)
            ·replace h:=eg lD h
             exact dA (jD (by kernel_rfl) (lc L.1 h))
           ·replace h:=eg ly h
            exact dA (jf (jD (by kernel_rfl) (js (Y,([]:List bw),[L]) (Nat.lt_succ_self _) h)))
          refine FI 118 (b:=!v3) (by kernel_rfl) (fun lF=>?_) (fun lF=>?_)
          ·rw[HB lF]at h
           exact cM o (orc:=[]) (by kernel_rfl) .n (l7 true h)
          ·rw[E3 lF]at h
           exact cM o (orc:=[]) (by kernel_rfl) .n (l7 q h)
         refine aI (aX (bC o [0,1,2,3,10,11,12,13,15,16,17,52,53,66,82] [26,37,66,161,162,163] [160] (orc:=[]) (by kernel_rfl) .n (aM (dt (b:=v3) (by kernel_rfl) (fun lG=>?_) (fun lG=>?_)))))
         ·replace h:=eh lG h
          refine aI (aX ?_)
          obtain⟨aa,ar,h⟩:=bind_some h
          refine iv o 8 [0,1,2,3,10,11,12,13,15,16,17,52,53,66,83,84,90] [26,37,66,161,162,163] [160] (orc:=[⟨bl,aa⟩]) (by kernel_rfl) (.c ar .n) ?_
          obtain⟨v4,ay,h⟩:=bind_some h
          refine tk o (yv k) (aa,t13,t14,t15,t16,t17,t18,t19,m3,t20,t21) v4 ay (ρ:=[(161,42),(162,43),(163,44)]) (ρ':=[(42,161),(43,162),(44,163),(5,91)]) (n:=42) (by kernel_rfl) [0,1,2,3,10,11,12,13,15,16,17,52,53,66,83,91] [26,37,66,161,162,163] [91,160] (by kernel_rfl) (by kernel_rfl) (st':=⟨[(0,.ptr 161 0),(1,.val bl l1),(2,.b9 128 161),(3,aY q),(10,.clos 163 [26]),(11,ax (List.length l1:Int)),(12,ax (List.length v1.2.1:Int)),(13,.osl 37),(15,ax t12),(16,bj L.1),(17,aY v3),(52,ax (aj ((List.length l1:Int)+(1:Int)))),(53,ax t12),(66,.iter 66),(83,bj L.1),(91,.row 91)],[(26,.cells [.row 160] 78),(37,.aZ 146 (.mp .str .bool) R),(66,.cv .str .bool ([]:List bw) [L]),(161,.cells [bj t13,.val au t14,.val bn t15,.val av t16,.val av t17,bR t18,aY t19,.iter 162,.clos 161 [163]] 280),(162,.mp bk bo m3),(163,.cells [.val (.ab .str) t20,.val au t21] 25)],[(91,⟨21,(.int .i32),v4⟩),(160,⟨4,.bool,t22⟩)]⟩) (by kernel_rfl) ?_
          obtain⟨_,lH,h⟩:=bind_some h
          replace lH:=dj lH
          obtain⟨_,lI,h⟩:=bind_some h
          replace lI:=dj lI
          refine bC o [0,1,2,3,10,11,12,13,15,16,17,18,52,53,66] [26,37,66,161,162,163] [160] (orc:=[]) (by kernel_rfl) (.c lH (.c lI .n)) (aM (aI (aX (bC o [0,1,2,3,10,11,12,13,15,16,17,18,19,52,53,66] [26,37,66,161,162,163] [160] (orc:=[]) (by kernel_rfl) .n (aM (kx (α:=bc) (fun z=>vg R t12 l1 L (kI k (iF k l1 v1 q U) t12 t13 t14 t15 t16 t17 t18 t19 m3 t20 t21 t22 l1 v1 q W) v3 q z.1 z.2=some O) (fun z=>⟨[(0,.ptr 161 0),(1,.val bl l1),(2,.b9 128 161),(3,aY q),(10,.clos 163 [26]),(11,ax (List.length l1:Int)),(12,ax (List.length v1.2.1:Int)),(13,.osl 37),(15,ax t12),(16,bj L.1),(17,aY v3),(18,bj (z.1)),(19,ax (z.2)),(52,ax (aj ((List.length l1:Int)+(1:Int)))),(53,ax t12),(66,.iter 66)],[(26,.cells [.row 160] 78),(37,.aZ 146 (.mp .str .bool) R),(66,.cv .str .bool ([]:List bw) [L]),(161,.cells [bj t13,.val au t14,.val bn t15,.val av t16,.val av t17,bR t18,aY t19,.iter 162,.clos 161 [163]] 280),(162,.mp bk bo m3),(163,.cells [.val (.ab .str) t20,.val au t21] 25)],[(160,⟨4,.bool,t22⟩)]⟩) ?_ (fun ab=>?_)))))))
          ·rintro⟨az,aA⟩ h
           unfold vg at h
           refine aX ?_
           obtain⟨_,lJ,h⟩:=bind_some h
           replace lJ:=dj lJ
           obtain⟨aB,lK,h⟩:=bind_some h
           replace lK:=jH lK
           obtain⟨ad,lL,h⟩:=bind_some h
           replace lL:=nX lL
           exact cM o (orc:=[⟨.map .str .bool,aB⟩,⟨.map .str .bool,some ad⟩]) (by kernel_rfl) (.c lJ (.c lK (.c lL .n))) (lc (List.set R (aA).toNat (some (some (cm (aQ .str) ad az true)))) h)
          refine aI (aX (bC o [0,1,2,3,10,11,12,13,15,16,17,18,19,52,53,66,98] [26,37,66,161,162,163] [160] (orc:=[]) (by kernel_rfl) .n (aM (dt (b:=(List.length v1.2.1:Int)==(0:Int)) (by kernel_rfl) (fun lM=>?_) (fun lM=>?_)))))
          ·replace h:=eh lM h
           refine kx (α:=List UInt8) (fun z=>rW R t12 l1 L (kI k (iF k l1 v1 q U) t12 t13 t14 t15 t16 t17 t18 t19 m3 t20 t21 t22 l1 v1 q W) v3 q v1 z=some O) (fun lN=>⟨[(0,.ptr 161 0),(1,.val bl l1),(2,.b9 128 161),(3,aY q),(10,.clos 163 [26]),(11,ax (List.length l1:Int)),(12,ax (List.length v1.2.1:Int)),(13,.osl 37),(15,ax t12),(16,bj L.1),(17,aY v3),(18,bj lN),(19,ax (aj (t12+(List.length v1.2.1:Int)))),(52,ax (aj ((List.length l1:Int)+(1:Int)))),(53,ax t12),(66,.iter 66)],[(26,.cells [.row 160] 78),(37,.aZ 146 (.mp .str .bool) R),(66,.cv .str .bool ([]:List bw) [L]),(161,.cells [bj t13,.val au t14,.val bn t15,.val av t16,.val av t17,bR t18,aY t19,.iter 162,.clos 161 [163]] 280),(162,.mp bk bo m3),(163,.cells [.val (.ab .str) t20,.val au t21] 25)],[(160,⟨4,.bool,t22⟩)]⟩) ?_ (fun ae=>?_)
           ·rintro lN h
            unfold rW at h
            exact aX (cM o (orc:=[]) (by kernel_rfl) .n (ab (lN,aj ((aj (t12+(List.length v1.2.1:Int)))+(1:Int))) h))
           refine aI (aX (bC o [0,1,2,3,10,11,12,13,15,16,17,18,19,52,53,66,101] [26,37,66,161,162,163] [160] (orc:=[]) (by kernel_rfl) .n (aM (dt (b:=decide (t12<(List.length l1:Int))) (by kernel_rfl) (fun lO=>?_) (fun lO=>?_)))))
           ·replace h:=eh lO h
            refine aX ?_
            obtain⟨af,aC,h⟩:=bind_some h
            obtain⟨_,lP,h⟩:=bind_some h
            replace lP:=dj lP
            exact cM o (orc:=[tM af]) (by kernel_rfl) (.c aC (.c lP .n)) (ae ((L.1++(cS v4))++((Utf8.encode af).data.toList)) h)
           ·replace h:=eg lO h
            exact dA (jD (by kernel_rfl) (ae (L.1++(cS v4)) h))
          ·replace h:=eg lM h
           exact dA (jD (by kernel_rfl) (ab (L.1++(cS v4),aj (t12+(List.length v1.2.1:Int))) h))
         ·replace h:=eg lG h
          exact dA (jD (by kernel_rfl) (lc R h))
    ·replace h:=eg ls h
     refine j8 (gf (gf (kF (aM (aI (aX ?_))))))
     obtain⟨_,lQ,h⟩:=bind_some h
     replace lQ:=dj lQ
     obtain⟨lR,lS,h⟩:=bind_some h
     replace lS:=jH lS
     refine bC o [0,2,21] [161,162,163] [] (orc:=[⟨.unit,()⟩,⟨.map .str .bool,lR⟩]) (by kernel_rfl) (.c lQ (.c lS .n)) (aM (aI (aI (aX (bC o [0,2,21,146] [161,162,163] [] (orc:=[]) (by kernel_rfl) .n (aM (dt (b:=decide ((1024:Int)<(List.length (lR.getD []):Int))) (by kernel_rfl) (fun lT=>?_) (fun lT=>?_))))))))
     ·replace h:=eh lT h
      refine aI (aX (cM o (st':=⟨[(0,.ptr 161 0),(2,.b9 128 161),(8,.row 8),(9,ax (9:Int))],[(161,.cells [bj t13,.val au t14,.val bn t15,.val av t16,.val av t17,bR t18,aY t19,.iter 162,.clos 161 [163]] 280),(162,.mp bk bo m3),(163,.cells [.val (.ab .str) t20,.val au t21] 25)],[(8,⟨9,.str,([]:List (List UInt8))⟩)]⟩) (orc:=[]) (by kernel_rfl) .n (aM (eU (dF ?_)))))
      replace h:=Option.some.inj h
      subst h
      exact gc [0,2,8,9] [161,162,163] [8] [(161,161),(162,162),(163,163),(8,3500001)] (by kernel_rfl) (fm o.P [161,162,163] [3500001] (.inl rfl) (by kernel_rfl) (by kernel_rfl))
     ·replace h:=eg lT h
      refine dA (aM (aI (aX (bC o [0,2,21,22] [161,162,163] [22] (orc:=[]) (by kernel_rfl) .n (aM (aI (aI (aX (cM o (orc:=[]) (by kernel_rfl) .n (aM (fT (kC (α:=(List bw×List bw×List (List UInt8))) (fun n z=>tP k t13 t14 t15 t16 t17 t18 t19 m3 t20 t21 n z.1 z.2.1 z.2.2=some O) (fun z=>⟨[(0,.ptr 161 0),(2,.b9 128 161),(22,.row 22),(148,.iter 148)],[(148,.cv .str .bool (z.1) (z.2.1)),(161,.cells [bj t13,.val au t14,.val bn t15,.val av t16,.val av t17,bR t18,aY t19,.iter 162,.clos 161 [163]] 280),(162,.mp bk bo m3),(163,.cells [.val (.ab .str) t20,.val au t21] 25)],[(22,⟨9,.str,(z.2.2)⟩)]⟩) ?_ (k:=k) (x:=(lR.getD [],([]:List bw),([]:List (List UInt8)))) h))))))))))))
      clear h
      rintro lU ⟨lh,gu,ld⟩ h
      cases lU with
      |zero=>exact absurd (show none=some _ from h) (by simp)
      |succ lU=>
       have h:Eo k t13 t14 t15 t16 t17 t18 t19 m3 t20 t21 (tP k t13 t14 t15 t16 t17 t18 t19 m3 t20 t21 lU) lh gu ld=some O:=h
       unfold Eo at h
       refine aI (aX ?_)
       rcases vA h with ⟨lV,h⟩|⟨Z,lV,h⟩
       ·refine uW o (d:=149) (b:=148) (k:=.str) (v:=.bool) (left:=lh) (last:=gu) (by kernel_rfl) (by kernel_rfl) lV (st':=⟨[(0,.ptr 161 0),(2,.b9 128 161),(22,.row 22),(148,.iter 148),(149,.dD [gE false])],[(148,.cv .str .bool lh gu),(161,.cells [bj t13,.val au t14,.val bn t15,.val av t16,.val av t17,bR t18,aY t19,.iter 162,.clos 161 [163]] 280),(162,.mp bk bo m3),(163,.cells [.val (.ab .str) t20,.val au t21] 25)],[(22,⟨9,.str,ld⟩)]⟩) (by kernel_rfl) (bC o [0,2,22,148,150] [148,161,162,163] [22] (orc:=[]) (by kernel_rfl) .n (aM (aI (s6 (by kernel_rfl) (j8 (gf (gf (kF (aM (aI (aX (bC o [0,2,8,9] [161,162,163] [22] (orc:=[]) (by kernel_rfl) .n (aM (eU ?_))))))))))))))
        replace h:=Option.some.inj h
        subst h
        exact gc [0,2,8,9] [161,162,163] [22] [(161,161),(162,162),(163,163),(22,3500001)] (by kernel_rfl) (fm o.P [161,162,163] [3500001] (.inl rfl) (by kernel_rfl) (by kernel_rfl))
       ·refine sZ o (d:=149) (b:=148) (k:=.str) (v:=.bool) (left:=lh) (last:=gu) (p:=Z) (by kernel_rfl) (by kernel_rfl) lV (st':=⟨[(0,.ptr 161 0),(2,.b9 128 161),(22,.row 22),(148,.iter 148),(149,.dD [gE true,rY Z.1,gE Z.2])],[(148,.cv .str .bool ([]:List bw) [Z]),(161,.cells [bj t13,.val au t14,.val bn t15,.val av t16,.val av t17,bR t18,aY t19,.iter 162,.clos 161 [163]] 280),(162,.mp bk bo m3),(163,.cells [.val (.ab .str) t20,.val au t21] 25)],[(22,⟨9,.str,ld⟩)]⟩) (by kernel_rfl) (bC o [0,2,22,148,150] [148,161,162,163] [22] (orc:=[]) (by kernel_rfl) .n (aM (aI (vG (by kernel_rfl) (dA (aM (fT (aI (aX (cM o (st':=⟨[(0,.ptr 161 0),(2,.b9 128 161),(22,.row 22),(23,bj Z.1),(148,.iter 148)],[(148,.cv .str .bool ([]:List bw) [Z]),(161,.cells [bj t13,.val au t14,.val bn t15,.val av t16,.val av t17,bR t18,aY t19,.iter 162,.clos 161 [163]] 280),(162,.mp bk bo m3),(163,.cells [.val (.ab .str) t20,.val au t21] 25)],[(22,⟨9,.str,ld⟩)]⟩) (orc:=[]) (by kernel_rfl) .n (aM (aI (aI (aX ?_))))))))))))))
        obtain⟨v5,aE,h⟩:=bind_some h
        refine bC o [0,2,22,23,148,155] [148,161,162,163] [22] (orc:=[jQ v5]) (by kernel_rfl) (.c aE .n) (aM (dt (b:=decide ((256:Int)<v5)) (by kernel_rfl) (fun lW=>?_) (fun lW=>?_)))
        ·replace h:=eh lW h
         refine aI (aX (bC o [0,2,8,9] [161,162,163] [8] (orc:=[]) (by kernel_rfl) .n (aM (eU (dF (fW (dF (fW (dF ?_)))))))))
         replace h:=Option.some.inj h
         subst h
         exact gc [0,2,8,9] [161,162,163] [8] [(161,161),(162,162),(163,163),(8,3500001)] (by kernel_rfl) (fm o.P [161,162,163] [3500001] (.inl rfl) (by kernel_rfl) (by kernel_rfl))
        ·replace h:=eg lW h
         refine dA (aM (aX ?_))
         obtain⟨_,lX,h⟩:=bind_some h
         replace lX:=dj lX
         exact cM o (orc:=[]) (by kernel_rfl) (.c lX .n) (jf (js (([]:List bw),[Z],ld++([Z.1]:List (List UInt8))) (Nat.lt_succ_self _) h))
noncomputable def I4(k:Nat):cD Tryz.prog am vQ b6:=⟨127,Jo k,fun st=>bu st [.ab 1 bl,.ab 3 .bool,.ad 161 0 .str,.ad 161 1 au,.ad 161 2 bn,.ad 161 3 av,.ad 161 4 av,.ad 161 5 (.int .u8),.ad 161 6 .bool,.mp 162 bk bo,.ad 163 0 (.ab .str),.ad 163 1 au],fun z=>o0 k (z.1) (z.2.1) (z.2.2.1) (z.2.2.2.1) (z.2.2.2.2.1) (z.2.2.2.2.2.1) (z.2.2.2.2.2.2.1) (z.2.2.2.2.2.2.2.1) (z.2.2.2.2.2.2.2.2.1) (z.2.2.2.2.2.2.2.2.2.1) (z.2.2.2.2.2.2.2.2.2.2.1) (z.2.2.2.2.2.2.2.2.2.2.2),(QT k),fun _ _ h=>h⟩
end Go.Ev
