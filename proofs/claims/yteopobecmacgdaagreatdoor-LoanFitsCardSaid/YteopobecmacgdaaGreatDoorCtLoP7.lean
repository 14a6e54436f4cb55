/- Contracts, by program. -/
import Derived.Test.YteopobecmacgdaaGreatDoorProg
import Derived.Test.YteopobecmacgdaaGreatDoorMM6
import Derived.Test.YteopobecmacgdaaGreatDoorMM9
import Derived.Test.YteopobecmacgdaaGreatDoorCtLoP1
import Derived.Test.YteopobecmacgdaaGreatDoorCtLoP4
import Derived.Test.YteopobecmacgdaaGreatDoorCtLoP6
import Derived.KernelRfl
import Derived.Test.YteopobecmacgdaaGreatDoorTyA
set_option linter.unusedSectionVars false
set_option linter.unusedVariables false
set_option linter.unusedSimpArgs false
namespace Go.Ev
open Go Go.Proofs
set_option linter.unusedVariables false
set_option maxRecDepth 100000
noncomputable def Fo(k:Nat):bU vQ b6 where
 n:=161
 S:=fun z=>⟨[(0,.ptr 161 0),(1,.val bl (z.1)),(2,.b9 129 161),(3,aY (z.2.1))],[(161,.cells [bj (z.2.2.1),.val au (z.2.2.2.1),.val bn (z.2.2.2.2.1),.val av (z.2.2.2.2.2.1),.val av (z.2.2.2.2.2.2.1),bR (z.2.2.2.2.2.2.2.1),aY (z.2.2.2.2.2.2.2.2.1),.iter 162,.clos 161 [163]] 280),(162,.mp bk bo (z.2.2.2.2.2.2.2.2.2.1)),(163,.cells [.val (.ab .str) (z.2.2.2.2.2.2.2.2.2.2.1),.val au (z.2.2.2.2.2.2.2.2.2.2.2)] 25)],[]⟩
 bJ:=fun z y=>⟨[],[(161,.cells [bj (y.2.1),.val au (y.2.2.1),.val bn (y.2.2.2.1),.val av (y.2.2.2.2.1),.val av (y.2.2.2.2.2.1),bR (y.2.2.2.2.2.2.1),aY (y.2.2.2.2.2.2.2.1),.iter 162,.clos 161 [163]] 280),(162,.mp bk bo (y.2.2.2.2.2.2.2.2.1)),(163,.cells [.val (.ab .str) (y.2.2.2.2.2.2.2.2.2.1),.val au (y.2.2.2.2.2.2.2.2.2.2.1)] 25)],[(3500001,⟨9,.str,(y.2.2.2.2.2.2.2.2.2.2.2)⟩)]⟩
 ap:=fun z y=>[.row 3500001,ax (y.1)]
 rel:=fun z y=>kP k (z.1) (z.2.1) (z.2.2.1) (z.2.2.2.1) (z.2.2.2.2.1) (z.2.2.2.2.2.1) (z.2.2.2.2.2.2.1) (z.2.2.2.2.2.2.2.1) (z.2.2.2.2.2.2.2.2.1) (z.2.2.2.2.2.2.2.2.2.1) (z.2.2.2.2.2.2.2.2.2.2.1) (z.2.2.2.2.2.2.2.2.2.2.2)=some y
noncomputable def Sh(k:Nat):Env:=cl Tryz.prog am 161 [CI k]
theorem Qa(k:Nat):cb Tryz.prog am 127 (Fo k):=by
 refine mY (fn:=Tryz.f127) Tryz.func127 (by kernel_rfl) rfl Tryz.ntmps127 ?_
 rintro cx ag ah ai ⟨l1,q,W,c2,c3,Y,c5,Z,la,m1,lb,lc⟩ O h
 have o:bv (Sh k) cx:=im ag ah ai
 replace h:kP k l1 q W c2 c3 Y c5 Z la m1 lb lc=some O:=h
 unfold kP at h
 refine aI (aX (bC o [0,1,2,3] [161,162,163] [] (orc:=[]) (by kernel_rfl) .n (aM (aI (aX (iv o 2 [0,1,2,3,24,25] [161,162,163] [] (orc:=[]) (by kernel_rfl) .n ?_))))))
 obtain⟨v1,ak,h⟩:=bind_some h
 refine ov o (H5 k) (l1,W,c2,c3,Y,c5,Z,la,m1,lb,lc) v1 ak (ρ:=[(161,6),(162,7),(163,8)]) (ρ':=[(2,26),(3,160),(6,161),(7,162),(8,163)]) (n:=6) (by kernel_rfl) [0,1,2,3,26] [26,160,161,162,163] [] (by kernel_rfl) (by kernel_rfl) (by kernel_rfl) (cM o (st':=⟨[(0,.ptr 161 0),(1,.val bl l1),(2,.b9 129 161),(3,aY q),(10,.clos 164 [26,160])],[(26,.cells [.ptr 161 0] 240),(160,.cells [.val bl v1] 61),(161,.cells [bj W,.val au c2,.val bn c3,.val av Y,.val av c5,bR Z,aY la,.iter 162,.clos 161 [163]] 280),(162,.mp bk bo m1),(163,.cells [.val (.ab .str) lb,.val au lc] 25)],[]⟩) (orc:=[]) (by kernel_rfl) .n (aM (aI (Cd o (by kernel_rfl) (by kernel_rfl) (Kz o [0,1,2,3,10,11,12] [26,160,161,162,163] [] (orc:=[]) (by kernel_rfl) .n (aM (aI (aX ?_))))))))
 obtain⟨_,lo,h⟩:=bind_some h
 replace lo:=dj lo
 obtain⟨_,lp,h⟩:=bind_some h
 replace lp:=dj lp
 refine bC o [0,1,2,3,10,11,12,13] [26,37,160,161,162,163] [] (orc:=[⟨.unit,()⟩]) (by kernel_rfl) (.c (show(List.replicate (aj ((List.length l1:Int)+(2:Int))).toNat (none:Option bQ))=List.replicate (List.length (List.replicate (aj ((List.length l1:Int)+(2:Int))).toNat (none:Option bQ))) ((none:Option bQ))/\0<List.length (List.replicate (aj ((List.length l1:Int)+(2:Int))).toNat (none:Option bQ))from FW (none:Option bQ) lo) (.c lp .n)) (aM (aI (aI (aX (cM o (orc:=[]) (by kernel_rfl) .n (aM (fT (kC (α:=(Int×List eI)) (fun n z=>vf k l1 c2 q v1 W c3 Y c5 Z la m1 lb lc n z.1 z.2=some O) (fun z=>⟨[(0,.ptr 161 0),(1,.val bl l1),(2,.b9 129 161),(3,aY q),(10,.clos 164 [26,160]),(11,ax (List.length l1:Int)),(12,ax (List.length c2:Int)),(13,.osl 37),(39,ax (List.length (List.map some (List.replicate (aj ((List.length l1:Int)+(2:Int))).toNat (none:Option bQ))):Int)),(40,ax (z.1))],[(26,.cells [.ptr 161 0] 240),(37,.aZ 146 (.mp .str .bool) (z.2)),(160,.cells [.val bl v1] 61),(161,.cells [bj W,.val au c2,.val bn c3,.val av Y,.val av c5,bR Z,aY la,.iter 162,.clos 161 [163]] 280),(162,.mp bk bo m1),(163,.cells [.val (.ab .str) lb,.val au lc] 25)],[]⟩) ?_ (k:=k) (x:=((0:Int),List.map some (List.replicate (aj ((List.length l1:Int)+(2:Int))).toNat (none:Option bQ)))) h))))))))
 clear h
 rintro lq ⟨t11,lk⟩ h
 cases lq with
 |zero=>exact absurd (show none=some _ from h) (by simp)
 |succ lq=>
  have h:wT k l1 c2 q v1 W c3 Y c5 Z la m1 lb lc (vf k l1 c2 q v1 W c3 Y c5 Z la m1 lb lc lq) t11 lk=some O:=h
  unfold wT at h
  refine aI (aX (bC o [0,1,2,3,10,11,12,13,39,40,41] [26,37,160,161,162,163] [] (orc:=[]) (by kernel_rfl) .n (aM (aI (dt (b:=decide (t11<(List.length (List.map some (List.replicate (aj ((List.length l1:Int)+(2:Int))).toNat (none:Option bQ))):Int))) (by kernel_rfl) (fun lr=>?_) (fun lr=>?_))))))
  ·replace h:=eh lr h
   refine dA (aM (aI (fT (aI (aX (bC o [0,1,2,3,10,11,12,13,14,39,40] [26,37,160,161,162,163] [] (orc:=[]) (by kernel_rfl) .n (aM (aX ?_))))))))
   obtain⟨_,ls,h⟩:=bind_some h
   replace ls:=dj ls
   obtain⟨_,lt,h⟩:=bind_some h
   replace lt:=dj lt
   exact bC o [0,1,2,3,10,11,12,13,39,40] [26,37,160,161,162,163] [] (orc:=[]) (by kernel_rfl) (.c ls (.c lt .n)) (jf (aM (aX (cM o (orc:=[]) (by kernel_rfl) .n (js (aj (t11+(1:Int)),List.set lk (t11).toNat (some (some ([]:List bw)))) (Nat.lt_succ_self _) h)))))
  ·replace h:=eg lr h
   refine j8 (gf (gf (kF (aM (aI (aX ?_))))))
   obtain⟨_,lu,h⟩:=bind_some h
   replace lu:=dj lu
   obtain⟨al,lv,h⟩:=bind_some h
   replace lv:=jH lv
   obtain⟨lw,lx,h⟩:=bind_some h
   replace lx:=nX lx
   refine cM o (st':=⟨[(0,.ptr 161 0),(1,.val bl l1),(2,.b9 129 161),(3,aY q),(10,.clos 164 [26,160]),(11,ax (List.length l1:Int)),(12,ax (List.length c2:Int)),(13,.osl 37)],[(26,.cells [.ptr 161 0] 240),(37,.aZ 146 (.mp .str .bool) (List.set lk ((0:Int)).toNat (some (some (cm (aQ .str) lw ([]:List UInt8) true))))),(160,.cells [.val bl v1] 61),(161,.cells [bj W,.val au c2,.val bn c3,.val av Y,.val av c5,bR Z,aY la,.iter 162,.clos 161 [163]] 280),(162,.mp bk bo m1),(163,.cells [.val (.ab .str) lb,.val au lc] 25)],[]⟩) (orc:=[⟨.map .str .bool,al⟩,⟨.map .str .bool,some lw⟩]) (by kernel_rfl) (.c lu (.c lv (.c lx .n))) (aM (aI (aI (aX (cM o (orc:=[]) (by kernel_rfl) .n (aM (fT (kC (α:=(Int×List eI×List (Int)×List UInt8×List aw×List bG×List aD×List aD×Int×Bool×List bY×List (List UInt8)×List aw)) (fun n z=>iA k l1 c2 q n z.1 z.2.1 z.2.2.1 z.2.2.2.1 z.2.2.2.2.1 z.2.2.2.2.2.1 z.2.2.2.2.2.2.1 z.2.2.2.2.2.2.2.1 z.2.2.2.2.2.2.2.2.1 z.2.2.2.2.2.2.2.2.2.1 z.2.2.2.2.2.2.2.2.2.2.1 z.2.2.2.2.2.2.2.2.2.2.2.1 z.2.2.2.2.2.2.2.2.2.2.2.2=some O) (fun z=>⟨[(0,.ptr 161 0),(1,.val bl l1),(2,.b9 129 161),(3,aY q),(10,.clos 164 [26,160]),(11,ax (List.length l1:Int)),(12,ax (List.length c2:Int)),(13,.osl 37),(52,ax (aj ((List.length l1:Int)+(1:Int)))),(53,ax (z.1))],[(26,.cells [.ptr 161 0] 240),(37,.aZ 146 (.mp .str .bool) (z.2.1)),(160,.cells [.val bl (z.2.2.1)] 61),(161,.cells [bj (z.2.2.2.1),.val au (z.2.2.2.2.1),.val bn (z.2.2.2.2.2.1),.val av (z.2.2.2.2.2.2.1),.val av (z.2.2.2.2.2.2.2.1),bR (z.2.2.2.2.2.2.2.2.1),aY (z.2.2.2.2.2.2.2.2.2.1),.iter 162,.clos 161 [163]] 280),(162,.mp bk bo (z.2.2.2.2.2.2.2.2.2.2.1)),(163,.cells [.val (.ab .str) (z.2.2.2.2.2.2.2.2.2.2.2.1),.val au (z.2.2.2.2.2.2.2.2.2.2.2.2)] 25)],[]⟩) ?_ (k:=k) (x:=((0:Int),List.set lk ((0:Int)).toNat (some (some (cm (aQ .str) lw ([]:List UInt8) true))),v1,W,c2,c3,Y,c5,Z,la,m1,lb,lc)) h))))))))
   clear h
   rintro U ⟨t12,l6,t13,t14,t15,t16,t17,t18,t19,t20,m3,t21,t22⟩ h
   cases U with
   |zero=>exact absurd (show none=some _ from h) (by simp)
   |succ U=>
    have h:yH k l1 c2 q (iA k l1 c2 q U) t12 l6 t13 t14 t15 t16 t17 t18 t19 t20 m3 t21 t22=some O:=h
    unfold yH at h
    refine aI (aX (bC o [0,1,2,3,10,11,12,13,52,53,54] [26,37,160,161,162,163] [] (orc:=[]) (by kernel_rfl) .n (aM (aI (dt (b:=decide (t12<(aj ((List.length l1:Int)+(1:Int))))) (by kernel_rfl) (fun ly=>?_) (fun ly=>?_))))))
    ·replace h:=eh ly h
     refine dA (aM (aI (fT (aI (aX (bC o [0,1,2,3,10,11,12,13,15,52,53] [26,37,160,161,162,163] [] (orc:=[]) (by kernel_rfl) .n (aM (aI (aI (aX ?_))))))))))
     obtain⟨_,lz,h⟩:=bind_some h
     replace lz:=dj lz
     obtain⟨lg,lh,h⟩:=bind_some h
     replace lh:=jH lh
     refine bC o [0,1,2,3,10,11,12,13,15,52,53,61] [26,37,160,161,162,163] [] (orc:=[⟨.map .str .bool,lg⟩,⟨.map .str .bool,lg⟩]) (by kernel_rfl) (.c lz (.c lh (.c lh .n))) (aM (dt (b:=decide ((1024:Int)<(List.length (Option.getD lg []):Int))) (by kernel_rfl) (fun lA=>?_) (fun lA=>?_)))
     ·replace h:=eh lA h
      refine aI (aX (cM o (st':=⟨[(0,.ptr 161 0),(2,.b9 129 161),(8,.row 8),(9,ax (9:Int))],[(161,.cells [bj t14,.val au t15,.val bn t16,.val av t17,.val av t18,bR t19,aY t20,.iter 162,.clos 161 [163]] 280),(162,.mp bk bo m3),(163,.cells [.val (.ab .str) t21,.val au t22] 25)],[(8,⟨9,.str,([]:List (List UInt8))⟩)]⟩) (orc:=[]) (by kernel_rfl) .n (aM (eU (dF (fW (dF (dF (fW (dF ?_))))))))))
      replace h:=Option.some.inj h
      subst h
      exact gc [0,2,8,9] [161,162,163] [8] [(161,161),(162,162),(163,163),(8,3500001)] (by kernel_rfl) (fm o.P [161,162,163] [3500001] (.inl rfl) (by kernel_rfl) (by kernel_rfl))
     ·replace h:=eg lA h
      refine dA (aM (aI (aX ?_)))
      obtain⟨_,lB,h⟩:=bind_some h
      replace lB:=dj lB
      refine cM o (orc:=[⟨.unit,()⟩,⟨.map .str .bool,lg⟩]) (by kernel_rfl) (.c lB (.c lh .n)) (aM (fT (kC (α:=(List eI×List bw×List bw×List UInt8×List aw×List bG×List aD×List aD×Int×Bool×List bY×List (List UInt8)×List aw)) (fun n z=>j6 k (iA k l1 c2 q U) t12 t13 l1 c2 q n z.1 z.2.1 z.2.2.1 z.2.2.2.1 z.2.2.2.2.1 z.2.2.2.2.2.1 z.2.2.2.2.2.2.1 z.2.2.2.2.2.2.2.1 z.2.2.2.2.2.2.2.2.1 z.2.2.2.2.2.2.2.2.2.1 z.2.2.2.2.2.2.2.2.2.2.1 z.2.2.2.2.2.2.2.2.2.2.2.1 z.2.2.2.2.2.2.2.2.2.2.2.2=some O) (fun z=>⟨[(0,.ptr 161 0),(1,.val bl l1),(2,.b9 129 161),(3,aY q),(10,.clos 164 [26,160]),(11,ax (List.length l1:Int)),(12,ax (List.length c2:Int)),(13,.osl 37),(15,ax t12),(52,ax (aj ((List.length l1:Int)+(1:Int)))),(53,ax t12),(66,.iter 66)],[(26,.cells [.ptr 161 0] 240),(37,.aZ 146 (.mp .str .bool) (z.1)),(66,.cv .str .bool (z.2.1) (z.2.2.1)),(160,.cells [.val bl t13] 61),(161,.cells [bj (z.2.2.2.1),.val au (z.2.2.2.2.1),.val bn (z.2.2.2.2.2.1),.val av (z.2.2.2.2.2.2.1),.val av (z.2.2.2.2.2.2.2.1),bR (z.2.2.2.2.2.2.2.2.1),aY (z.2.2.2.2.2.2.2.2.2.1),.iter 162,.clos 161 [163]] 280),(162,.mp bk bo (z.2.2.2.2.2.2.2.2.2.2.1)),(163,.cells [.val (.ab .str) (z.2.2.2.2.2.2.2.2.2.2.2.1),.val au (z.2.2.2.2.2.2.2.2.2.2.2.2)] 25)],[]⟩) ?_ (k:=k) (x:=(List.set l6 (t12).toNat none,lg.getD [],([]:List bw),t14,t15,t16,t17,t18,t19,t20,m3,t21,t22)) h)))
      clear h
      rintro ld ⟨R,ll,lm,t23,t24,t25,t26,t27,t28,t29,m4,t30,t31⟩ h
      cases ld with
      |zero=>exact absurd (show none=some _ from h) (by simp)
      |succ ld=>
       have h:xP k (iA k l1 c2 q U) t12 t13 l1 c2 q (j6 k (iA k l1 c2 q U) t12 t13 l1 c2 q ld) R ll lm t23 t24 t25 t26 t27 t28 t29 m4 t30 t31=some O:=h
       unfold xP at h
       refine aI (aX ?_)
       rcases vA h with ⟨lC,h⟩|⟨L,lC,h⟩
       ·exact uW o (d:=67) (b:=66) (k:=.str) (v:=.bool) (left:=ll) (last:=lm) (by kernel_rfl) (by kernel_rfl) lC (st':=⟨[(0,.ptr 161 0),(1,.val bl l1),(2,.b9 129 161),(3,aY q),(10,.clos 164 [26,160]),(11,ax (List.length l1:Int)),(12,ax (List.length c2:Int)),(13,.osl 37),(15,ax t12),(52,ax (aj ((List.length l1:Int)+(1:Int)))),(53,ax t12),(66,.iter 66),(67,.dD [gE false])],[(26,.cells [.ptr 161 0] 240),(37,.aZ 146 (.mp .str .bool) R),(66,.cv .str .bool ll lm),(160,.cells [.val bl t13] 61),(161,.cells [bj t23,.val au t24,.val bn t25,.val av t26,.val av t27,bR t28,aY t29,.iter 162,.clos 161 [163]] 280),(162,.mp bk bo m4),(163,.cells [.val (.ab .str) t30,.val au t31] 25)],[]⟩) (by kernel_rfl) (bC o [0,1,2,3,10,11,12,13,15,52,53,66,68] [26,37,66,160,161,162,163] [] (orc:=[]) (by kernel_rfl) .n (aM (aI (s6 (by kernel_rfl) (j8 (gf (gf (kF (jf (aM (aX (cM o (orc:=[]) (by kernel_rfl) .n (js (aj (t12+(1:Int)),R,t13,t23,t24,t25,t26,t27,t28,t29,m4,t30,t31) (Nat.lt_succ_self _) h)))))))))))))
       ·refine sZ o (d:=67) (b:=66) (k:=.str) (v:=.bool) (left:=ll) (last:=lm) (p:=L) (by kernel_rfl) (by kernel_rfl) lC (st':=⟨[(0,.ptr 161 0),(1,.val bl l1),(2,.b9 129 161),(3,aY q),(10,.clos 164 [26,160]),(11,ax (List.length l1:Int)),(12,ax (List.length c2:Int)),(13,.osl 37),(15,ax t12),(52,ax (aj ((List.length l1:Int)+(1:Int)))),(53,ax t12),(66,.iter 66),(67,.dD [gE true,rY L.1,gE L.2])],[(26,.cells [.ptr 161 0] 240),(37,.aZ 146 (.mp .str .bool) R),(66,.cv .str .bool ([]:List bw) [L]),(160,.cells [.val bl t13] 61),(161,.cells [bj t23,.val au t24,.val bn t25,.val av t26,.val av t27,bR t28,aY t29,.iter 162,.clos 161 [163]] 280),(162,.mp bk bo m4),(163,.cells [.val (.ab .str) t30,.val au t31] 25)],[]⟩) (by kernel_rfl) (bC o [0,1,2,3,10,11,12,13,15,52,53,66,68] [26,37,66,160,161,162,163] [] (orc:=[]) (by kernel_rfl) .n (aM (aI (vG (by kernel_rfl) (dA (aM (fT (aI (aX (bC o [0,1,2,3,10,11,12,13,15,16,52,53,66] [26,37,66,160,161,162,163] [] (orc:=[]) (by kernel_rfl) .n (aM (aI (aI (aX ?_))))))))))))))
        obtain⟨v2,an,h⟩:=bind_some h
        refine cM o (st':=⟨[(0,.ptr 161 0),(1,.val bl l1),(2,.b9 129 161),(3,aY q),(10,.clos 164 [26,160]),(11,ax (List.length l1:Int)),(12,ax (List.length c2:Int)),(13,.osl 37),(15,ax t12),(16,bj L.1),(52,ax (aj ((List.length l1:Int)+(1:Int)))),(53,ax t12),(66,.iter 66),(77,aY (decide ((256:Int)<(aj ((aj (v2+(List.length l1:Int)))-t12)))))],[(26,.cells [.ptr 161 0] 240),(37,.aZ 146 (.mp .str .bool) R),(66,.cv .str .bool ([]:List bw) [L]),(160,.cells [.val bl t13] 61),(161,.cells [bj t23,.val au t24,.val bn t25,.val av t26,.val av t27,bR t28,aY t29,.iter 162,.clos 161 [163]] 280),(162,.mp bk bo m4),(163,.cells [.val (.ab .str) t30,.val au t31] 25)],[]⟩) (orc:=[jQ v2]) (by kernel_rfl) (.c an .n) (aM (dt (b:=decide ((256:Int)<(aj ((aj (v2+(List.length l1:Int)))-t12)))) (by kernel_rfl) (fun lD=>?_) (fun lD=>?_)))
        ·replace h:=eh lD h
         refine aI (aX (bC o [0,2,8,9] [161,162,163] [8] (orc:=[]) (by kernel_rfl) .n (aM (eU (dF (fW (dF (fW (fW (dF (dF (fW (dF ?_)))))))))))))
         replace h:=Option.some.inj h
         subst h
         exact gc [0,2,8,9] [161,162,163] [8] [(161,161),(162,162),(163,163),(8,3500001)] (by kernel_rfl) (fm o.P [161,162,163] [3500001] (.inl rfl) (by kernel_rfl) (by kernel_rfl))
        ·replace h:=eg lD h
         refine dA (aM (aI (aX (iv o 3 [0,1,2,3,10,11,12,13,15,16,52,53,66,78,79,80] [26,37,66,160,161,162,163] [] (orc:=[]) (by kernel_rfl) .n ?_))))
         obtain⟨v3,ao,h⟩:=bind_some h
         refine ov o (HS k) (L.1,t12,t23,t24,t25,t26,t27,t28,t29,m4,t30,t31,t13) v3 ao (ρ:=[(26,19),(161,20),(162,21),(163,22),(160,23)]) (ρ':=[(19,26),(20,161),(21,162),(22,163),(23,160)]) (n:=19) (by kernel_rfl) [0,1,2,3,10,11,12,13,15,16,52,53,66,81] [26,37,66,160,161,162,163] [] (by kernel_rfl) (by kernel_rfl) (by kernel_rfl) (cM o (st':=⟨[(0,.ptr 161 0),(1,.val bl l1),(2,.b9 129 161),(3,aY q),(10,.clos 164 [26,160]),(11,ax (List.length l1:Int)),(12,ax (List.length c2:Int)),(13,.osl 37),(15,ax t12),(16,bj L.1),(17,aY v3.1),(52,ax (aj ((List.length l1:Int)+(1:Int)))),(53,ax t12),(66,.iter 66)],[(26,.cells [.ptr 161 0] 240),(37,.aZ 146 (.mp .str .bool) R),(66,.cv .str .bool ([]:List bw) [L]),(160,.cells [.val bl t13] 61),(161,.cells [bj v3.2.1,.val au v3.2.2.1,.val bn v3.2.2.2.1,.val av v3.2.2.2.2.1,.val av v3.2.2.2.2.2.1,bR v3.2.2.2.2.2.2.1,aY v3.2.2.2.2.2.2.2.1,.iter 162,.clos 161 [163]] 280),(162,.mp bk bo v3.2.2.2.2.2.2.2.2.1),(163,.cells [.val (.ab .str) v3.2.2.2.2.2.2.2.2.2.1,.val au v3.2.2.2.2.2.2.2.2.2.2] 25)],[]⟩) (orc:=[]) (by kernel_rfl) .n (aM (kx (α:=List eI) (fun z=>sS t12 l1 L (j6 k (iA k l1 c2 q U) t12 t13 l1 c2 q ld) v3 q z=some O) (fun le=>⟨[(0,.ptr 161 0),(1,.val bl l1),(2,.b9 129 161),(3,aY q),(10,.clos 164 [26,160]),(11,ax (List.length l1:Int)),(12,ax (List.length c2:Int)),(13,.osl 37),(15,ax t12),(16,bj L.1),(17,aY v3.1),(52,ax (aj ((List.length l1:Int)+(1:Int)))),(53,ax t12),(66,.iter 66)],[(26,.cells [.ptr 161 0] 240),(37,.aZ 146 (.mp .str .bool) le),(66,.cv .str .bool ([]:List bw) [L]),(160,.cells [.val bl t13] 61),(161,.cells [bj v3.2.1,.val au v3.2.2.1,.val bn v3.2.2.2.1,.val av v3.2.2.2.2.1,.val av v3.2.2.2.2.2.1,bR v3.2.2.2.2.2.2.1,aY v3.2.2.2.2.2.2.2.1,.iter 162,.clos 161 [163]] 280),(162,.mp bk bo v3.2.2.2.2.2.2.2.2.1),(163,.cells [.val (.ab .str) v3.2.2.2.2.2.2.2.2.2.1,.val au v3.2.2.2.2.2.2.2.2.2.2] 25)],[]⟩) ?_ (fun li=>?_))))
         ·rintro le h
          unfold sS at h
          refine aI (aX (iv o 3 [0,1,2,3,10,11,12,13,15,16,52,53,66,118] [26,37,66,160,161,162,163] [] (orc:=[]) (by kernel_rfl) .n (xg (α:=Bool) (fun z=>xL t12 l1 L le (j6 k (iA k l1 c2 q U) t12 t13 l1 c2 q ld) v3 z=some O) (fun t32=>⟨[(0,.ptr 161 0),(1,.val bl l1),(2,.b9 129 161),(3,aY q),(10,.clos 164 [26,160]),(11,ax (List.length l1:Int)),(12,ax (List.length c2:Int)),(13,.osl 37),(15,ax t12),(16,bj L.1),(52,ax (aj ((List.length l1:Int)+(1:Int)))),(53,ax t12),(66,.iter 66),(120,aY t32)],[(26,.cells [.ptr 161 0] 240),(37,.aZ 146 (.mp .str .bool) le),(66,.cv .str .bool ([]:List bw) [L]),(160,.cells [.val bl t13] 61),(161,.cells [bj v3.2.1,.val au v3.2.2.1,.val bn v3.2.2.2.1,.val av v3.2.2.2.2.1,.val av v3.2.2.2.2.2.1,bR v3.2.2.2.2.2.2.1,aY v3.2.2.2.2.2.2.2.1,.iter 162,.clos 161 [163]] 280),(162,.mp bk bo v3.2.2.2.2.2.2.2.2.1),(163,.cells [.val (.ab .str) v3.2.2.2.2.2.2.2.2.2.1,.val au v3.2.2.2.2.2.2.2.2.2.2] 25)],[]⟩) 2 ?_ (fun l7=>?_))))
          ·rintro t32 h
           unfold xL at h
           refine jL (aM (dt (b:=t32) (by kernel_rfl) (fun lE=>?_) (fun lE=>?_)))
           ·replace h:=eh lE h
            refine aI (aX (bC o [0,1,2,3,10,11,12,13,15,20,52,53,66] [26,37,66,160,161,162,163] [] (orc:=[]) (by kernel_rfl) .n (aM (kx (α:=List UInt8) (fun z=>ue t12 le (j6 k (iA k l1 c2 q U) t12 t13 l1 c2 q ld) L v3 z=some O) (fun lF=>⟨[(0,.ptr 161 0),(1,.val bl l1),(2,.b9 129 161),(3,aY q),(10,.clos 164 [26,160]),(11,ax (List.length l1:Int)),(12,ax (List.length c2:Int)),(13,.osl 37),(15,ax t12),(20,bj lF),(52,ax (aj ((List.length l1:Int)+(1:Int)))),(53,ax t12),(66,.iter 66)],[(26,.cells [.ptr 161 0] 240),(37,.aZ 146 (.mp .str .bool) le),(66,.cv .str .bool ([]:List bw) [L]),(160,.cells [.val bl t13] 61),(161,.cells [bj v3.2.1,.val au v3.2.2.1,.val bn v3.2.2.2.1,.val av v3.2.2.2.2.1,.val av v3.2.2.2.2.2.1,bR v3.2.2.2.2.2.2.1,aY v3.2.2.2.2.2.2.2.1,.iter 162,.clos 161 [163]] 280),(162,.mp bk bo v3.2.2.2.2.2.2.2.2.1),(163,.cells [.val (.ab .str) v3.2.2.2.2.2.2.2.2.2.1,.val au v3.2.2.2.2.2.2.2.2.2.2] 25)],[]⟩) ?_ (fun li=>?_)))))
            ·rintro lF h
             unfold ue at h
             refine aX ?_
             obtain⟨_,lG,h⟩:=bind_some h
             replace lG:=dj lG
             obtain⟨ap,lH,h⟩:=bind_some h
             replace lH:=jH lH
             obtain⟨l8,lI,h⟩:=bind_some h
             replace lI:=nX lI
             exact cM o (orc:=[⟨.map .str .bool,ap⟩,⟨.map .str .bool,some l8⟩]) (by kernel_rfl) (.c lG (.c lH (.c lI .n))) (jf (js (List.set le (aj (t12+(1:Int))).toNat (some (some (cm (aQ .str) l8 lF true))),([]:List bw),[L],v3.2.1,v3.2.2.1,v3.2.2.2.1,v3.2.2.2.2.1,v3.2.2.2.2.2.1,v3.2.2.2.2.2.2.1,v3.2.2.2.2.2.2.2.1,v3.2.2.2.2.2.2.2.2.1,v3.2.2.2.2.2.2.2.2.2.1,v3.2.2.2.2.2.2.2.2.2.2) (Nat.lt_succ_self _) h))
            refine aI (aX (bC o [0,1,2,3,10,11,12,13,15,20,52,53,66,124] [26,37,66,160,161,162,163] [] (orc:=[]) (by kernel_rfl) .n (aM (dt (b:=decide (t12<(List.length l1:Int))) (by kernel_rfl) (fun lJ=>?_) (fun lJ=>?_)))))
            ·replace h:=eh lJ h
             refine aX ?_
             obtain⟨l9,aq,h⟩:=bind_some h
             obtain⟨_,lK,h⟩:=bind_some h
             replace lK:=dj lK
             exact cM o (orc:=[tM l9]) (by kernel_rfl) (.c aq (.c lK .n)) (li (L.1++((Utf8.encode l9).data.toList)) h)
            ·replace h:=eg lJ h
             exact dA (jD (by kernel_rfl) (li L.1 h))
           ·replace h:=eg lE h
            exact dA (jf (jD (by kernel_rfl) (js (le,([]:List bw),[L],v3.2.1,v3.2.2.1,v3.2.2.2.1,v3.2.2.2.2.1,v3.2.2.2.2.2.1,v3.2.2.2.2.2.2.1,v3.2.2.2.2.2.2.2.1,v3.2.2.2.2.2.2.2.2.1,v3.2.2.2.2.2.2.2.2.2.1,v3.2.2.2.2.2.2.2.2.2.2) (Nat.lt_succ_self _) h)))
          refine FI 118 (b:=!v3.1) (by kernel_rfl) (fun lL=>?_) (fun lL=>?_)
          ·rw[HB lL]at h
           exact cM o (orc:=[]) (by kernel_rfl) .n (l7 true h)
          ·rw[E3 lL]at h
           exact cM o (orc:=[]) (by kernel_rfl) .n (l7 q h)
         refine aI (aX (bC o [0,1,2,3,10,11,12,13,15,16,17,52,53,66,82] [26,37,66,160,161,162,163] [] (orc:=[]) (by kernel_rfl) .n (aM (dt (b:=v3.1) (by kernel_rfl) (fun lM=>?_) (fun lM=>?_)))))
         ·replace h:=eh lM h
          refine aI (aX ?_)
          obtain⟨aa,ar,h⟩:=bind_some h
          refine iv o 8 [0,1,2,3,10,11,12,13,15,16,17,52,53,66,83,84,90] [26,37,66,160,161,162,163] [] (orc:=[⟨bl,aa⟩]) (by kernel_rfl) (.c ar .n) ?_
          obtain⟨v4,ay,h⟩:=bind_some h
          refine tk o (yv k) (aa,v3.2.1,v3.2.2.1,v3.2.2.2.1,v3.2.2.2.2.1,v3.2.2.2.2.2.1,v3.2.2.2.2.2.2.1,v3.2.2.2.2.2.2.2.1,v3.2.2.2.2.2.2.2.2.1,v3.2.2.2.2.2.2.2.2.2.1,v3.2.2.2.2.2.2.2.2.2.2) v4 ay (ρ:=[(161,42),(162,43),(163,44)]) (ρ':=[(42,161),(43,162),(44,163),(5,91)]) (n:=42) (by kernel_rfl) [0,1,2,3,10,11,12,13,15,16,17,52,53,66,83,91] [26,37,66,160,161,162,163] [91] (by kernel_rfl) (by kernel_rfl) (st':=⟨[(0,.ptr 161 0),(1,.val bl l1),(2,.b9 129 161),(3,aY q),(10,.clos 164 [26,160]),(11,ax (List.length l1:Int)),(12,ax (List.length c2:Int)),(13,.osl 37),(15,ax t12),(16,bj L.1),(17,aY v3.1),(52,ax (aj ((List.length l1:Int)+(1:Int)))),(53,ax t12),(66,.iter 66),(83,bj L.1),(91,.row 91)],[(26,.cells [.ptr 161 0] 240),(37,.aZ 146 (.mp .str .bool) R),(66,.cv .str .bool ([]:List bw) [L]),(160,.cells [.val bl t13] 61),(161,.cells [bj v3.2.1,.val au v3.2.2.1,.val bn v3.2.2.2.1,.val av v3.2.2.2.2.1,.val av v3.2.2.2.2.2.1,bR v3.2.2.2.2.2.2.1,aY v3.2.2.2.2.2.2.2.1,.iter 162,.clos 161 [163]] 280),(162,.mp bk bo v3.2.2.2.2.2.2.2.2.1),(163,.cells [.val (.ab .str) v3.2.2.2.2.2.2.2.2.2.1,.val au v3.2.2.2.2.2.2.2.2.2.2] 25)],[(91,⟨21,(.int .i32),v4⟩)]⟩) (by kernel_rfl) ?_
          obtain⟨_,lN,h⟩:=bind_some h
          replace lN:=dj lN
          obtain⟨_,lO,h⟩:=bind_some h
          replace lO:=dj lO
          refine bC o [0,1,2,3,10,11,12,13,15,16,17,18,52,53,66] [26,37,66,160,161,162,163] [] (orc:=[]) (by kernel_rfl) (.c lN (.c lO .n)) (aM (aI (aX (bC o [0,1,2,3,10,11,12,13,15,16,17,18,19,52,53,66] [26,37,66,160,161,162,163] [] (orc:=[]) (by kernel_rfl) .n (aM (kx (α:=bc) (fun z=>uS R t12 l1 L (j6 k (iA k l1 c2 q U) t12 t13 l1 c2 q ld) v3 q z.1 z.2=some O) (fun z=>⟨[(0,.ptr 161 0),(1,.val bl l1),(2,.b9 129 161),(3,aY q),(10,.clos 164 [26,160]),(11,ax (List.length l1:Int)),(12,ax (List.length c2:Int)),(13,.osl 37),(15,ax t12),(16,bj L.1),(17,aY v3.1),(18,bj (z.1)),(19,ax (z.2)),(52,ax (aj ((List.length l1:Int)+(1:Int)))),(53,ax t12),(66,.iter 66)],[(26,.cells [.ptr 161 0] 240),(37,.aZ 146 (.mp .str .bool) R),(66,.cv .str .bool ([]:List bw) [L]),(160,.cells [.val bl t13] 61),(161,.cells [bj v3.2.1,.val au v3.2.2.1,.val bn v3.2.2.2.1,.val av v3.2.2.2.2.1,.val av v3.2.2.2.2.2.1,bR v3.2.2.2.2.2.2.1,aY v3.2.2.2.2.2.2.2.1,.iter 162,.clos 161 [163]] 280),(162,.mp bk bo v3.2.2.2.2.2.2.2.2.1),(163,.cells [.val (.ab .str) v3.2.2.2.2.2.2.2.2.2.1,.val au v3.2.2.2.2.2.2.2.2.2.2] 25)],[]⟩) ?_ (fun ab=>?_)))))))
          ·rintro⟨az,aA⟩ h
           unfold uS at h
           refine aX ?_
           obtain⟨_,lP,h⟩:=bind_some h
           replace lP:=dj lP
           obtain⟨aB,lQ,h⟩:=bind_some h
           replace lQ:=jH lQ
           obtain⟨ad,lR,h⟩:=bind_some h
           replace lR:=nX lR
           exact cM o (orc:=[⟨.map .str .bool,aB⟩,⟨.map .str .bool,some ad⟩]) (by kernel_rfl) (.c lP (.c lQ (.c lR .n))) (li (List.set R (aA).toNat (some (some (cm (aQ .str) ad az true)))) h)
          refine aI (aX (bC o [0,1,2,3,10,11,12,13,15,16,17,18,19,52,53,66,98] [26,37,66,160,161,162,163] [] (orc:=[]) (by kernel_rfl) .n (aM (dt (b:=(List.length c2:Int)==(0:Int)) (by kernel_rfl) (fun lS=>?_) (fun lS=>?_)))))
          ·replace h:=eh lS h
           refine kx (α:=List UInt8) (fun z=>tW R t12 l1 L (j6 k (iA k l1 c2 q U) t12 t13 l1 c2 q ld) v3 q c2 z=some O) (fun lT=>⟨[(0,.ptr 161 0),(1,.val bl l1),(2,.b9 129 161),(3,aY q),(10,.clos 164 [26,160]),(11,ax (List.length l1:Int)),(12,ax (List.length c2:Int)),(13,.osl 37),(15,ax t12),(16,bj L.1),(17,aY v3.1),(18,bj lT),(19,ax (aj (t12+(List.length c2:Int)))),(52,ax (aj ((List.length l1:Int)+(1:Int)))),(53,ax t12),(66,.iter 66)],[(26,.cells [.ptr 161 0] 240),(37,.aZ 146 (.mp .str .bool) R),(66,.cv .str .bool ([]:List bw) [L]),(160,.cells [.val bl t13] 61),(161,.cells [bj v3.2.1,.val au v3.2.2.1,.val bn v3.2.2.2.1,.val av v3.2.2.2.2.1,.val av v3.2.2.2.2.2.1,bR v3.2.2.2.2.2.2.1,aY v3.2.2.2.2.2.2.2.1,.iter 162,.clos 161 [163]] 280),(162,.mp bk bo v3.2.2.2.2.2.2.2.2.1),(163,.cells [.val (.ab .str) v3.2.2.2.2.2.2.2.2.2.1,.val au v3.2.2.2.2.2.2.2.2.2.2] 25)],[]⟩) ?_ (fun ae=>?_)
           ·rintro lT h
            unfold tW at h
            exact aX (cM o (orc:=[]) (by kernel_rfl) .n (ab (lT,aj ((aj (t12+(List.length c2:Int)))+(1:Int))) h))
           refine aI (aX (bC o [0,1,2,3,10,11,12,13,15,16,17,18,19,52,53,66,101] [26,37,66,160,161,162,163] [] (orc:=[]) (by kernel_rfl) .n (aM (dt (b:=decide (t12<(List.length l1:Int))) (by kernel_rfl) (fun lU=>?_) (fun lU=>?_)))))
           ·replace h:=eh lU h
            refine aX ?_
            obtain⟨af,aC,h⟩:=bind_some h
            obtain⟨_,lV,h⟩:=bind_some h
            replace lV:=dj lV
            exact cM o (orc:=[tM af]) (by kernel_rfl) (.c aC (.c lV .n)) (ae ((L.1++(cS v4))++((Utf8.encode af).data.toList)) h)
           ·replace h:=eg lU h
            exact dA (jD (by kernel_rfl) (ae (L.1++(cS v4)) h))
          ·replace h:=eg lS h
           exact dA (jD (by kernel_rfl) (ab (L.1++(cS v4),aj (t12+(List.length c2:Int))) h))
         ·replace h:=eg lM h
          exact dA (jD (by kernel_rfl) (li R h))
    ·replace h:=eg ly h
     refine j8 (gf (gf (kF (aM (aI (aX ?_))))))
     obtain⟨_,lW,h⟩:=bind_some h
     replace lW:=dj lW
     obtain⟨lX,lY,h⟩:=bind_some h
     replace lY:=jH lY
     refine bC o [0,2,21] [161,162,163] [] (orc:=[⟨.unit,()⟩,⟨.map .str .bool,lX⟩]) (by kernel_rfl) (.c lW (.c lY .n)) (aM (aI (aI (aX (bC o [0,2,21,146] [161,162,163] [] (orc:=[]) (by kernel_rfl) .n (aM (dt (b:=decide ((1024:Int)<(List.length (lX.getD []):Int))) (by kernel_rfl) (fun lZ=>?_) (fun lZ=>?_))))))))
     ·replace h:=eh lZ h
      refine aI (aX (cM o (st':=⟨[(0,.ptr 161 0),(2,.b9 129 161),(8,.row 8),(9,ax (9:Int))],[(161,.cells [bj t14,.val au t15,.val bn t16,.val av t17,.val av t18,bR t19,aY t20,.iter 162,.clos 161 [163]] 280),(162,.mp bk bo m3),(163,.cells [.val (.ab .str) t21,.val au t22] 25)],[(8,⟨9,.str,([]:List (List UInt8))⟩)]⟩) (orc:=[]) (by kernel_rfl) .n (aM (eU (dF ?_)))))
      replace h:=Option.some.inj h
      subst h
      exact gc [0,2,8,9] [161,162,163] [8] [(161,161),(162,162),(163,163),(8,3500001)] (by kernel_rfl) (fm o.P [161,162,163] [3500001] (.inl rfl) (by kernel_rfl) (by kernel_rfl))
     ·replace h:=eg lZ h
      refine dA (aM (aI (aX (bC o [0,2,21,22] [161,162,163] [22] (orc:=[]) (by kernel_rfl) .n (aM (aI (aI (aX (cM o (orc:=[]) (by kernel_rfl) .n (aM (fT (kC (α:=(List bw×List bw×List (List UInt8))) (fun n z=>uh k t14 t15 t16 t17 t18 t19 t20 m3 t21 t22 n z.1 z.2.1 z.2.2=some O) (fun z=>⟨[(0,.ptr 161 0),(2,.b9 129 161),(22,.row 22),(148,.iter 148)],[(148,.cv .str .bool (z.1) (z.2.1)),(161,.cells [bj t14,.val au t15,.val bn t16,.val av t17,.val av t18,bR t19,aY t20,.iter 162,.clos 161 [163]] 280),(162,.mp bk bo m3),(163,.cells [.val (.ab .str) t21,.val au t22] 25)],[(22,⟨9,.str,(z.2.2)⟩)]⟩) ?_ (k:=k) (x:=(lX.getD [],([]:List bw),([]:List (List UInt8)))) h))))))))))))
      clear h
      rintro l0 ⟨ln,gu,lj⟩ h
      cases l0 with
      |zero=>exact absurd (show none=some _ from h) (by simp)
      |succ l0=>
       have h:zZ k t14 t15 t16 t17 t18 t19 t20 m3 t21 t22 (uh k t14 t15 t16 t17 t18 t19 t20 m3 t21 t22 l0) ln gu lj=some O:=h
       unfold zZ at h
       refine aI (aX ?_)
       rcases vA h with ⟨l3,h⟩|⟨lf,l3,h⟩
       ·refine uW o (d:=149) (b:=148) (k:=.str) (v:=.bool) (left:=ln) (last:=gu) (by kernel_rfl) (by kernel_rfl) l3 (st':=⟨[(0,.ptr 161 0),(2,.b9 129 161),(22,.row 22),(148,.iter 148),(149,.dD [gE false])],[(148,.cv .str .bool ln gu),(161,.cells [bj t14,.val au t15,.val bn t16,.val av t17,.val av t18,bR t19,aY t20,.iter 162,.clos 161 [163]] 280),(162,.mp bk bo m3),(163,.cells [.val (.ab .str) t21,.val au t22] 25)],[(22,⟨9,.str,lj⟩)]⟩) (by kernel_rfl) (bC o [0,2,22,148,150] [148,161,162,163] [22] (orc:=[]) (by kernel_rfl) .n (aM (aI (s6 (by kernel_rfl) (j8 (gf (gf (kF (aM (aI (aX (bC o [0,2,8,9] [161,162,163] [22] (orc:=[]) (by kernel_rfl) .n (aM (eU ?_))))))))))))))
        replace h:=Option.some.inj h
        subst h
        exact gc [0,2,8,9] [161,162,163] [22] [(161,161),(162,162),(163,163),(22,3500001)] (by kernel_rfl) (fm o.P [161,162,163] [3500001] (.inl rfl) (by kernel_rfl) (by kernel_rfl))
       ·refine sZ o (d:=149) (b:=148) (k:=.str) (v:=.bool) (left:=ln) (last:=gu) (p:=lf) (by kernel_rfl) (by kernel_rfl) l3 (st':=⟨[(0,.ptr 161 0),(2,.b9 129 161),(22,.row 22),(148,.iter 148),(149,.dD [gE true,rY lf.1,gE lf.2])],[(148,.cv .str .bool ([]:List bw) [lf]),(161,.cells [bj t14,.val au t15,.val bn t16,.val av t17,.val av t18,bR t19,aY t20,.iter 162,.clos 161 [163]] 280),(162,.mp bk bo m3),(163,.cells [.val (.ab .str) t21,.val au t22] 25)],[(22,⟨9,.str,lj⟩)]⟩) (by kernel_rfl) (bC o [0,2,22,148,150] [148,161,162,163] [22] (orc:=[]) (by kernel_rfl) .n (aM (aI (vG (by kernel_rfl) (dA (aM (fT (aI (aX (cM o (st':=⟨[(0,.ptr 161 0),(2,.b9 129 161),(22,.row 22),(23,bj lf.1),(148,.iter 148)],[(148,.cv .str .bool ([]:List bw) [lf]),(161,.cells [bj t14,.val au t15,.val bn t16,.val av t17,.val av t18,bR t19,aY t20,.iter 162,.clos 161 [163]] 280),(162,.mp bk bo m3),(163,.cells [.val (.ab .str) t21,.val au t22] 25)],[(22,⟨9,.str,lj⟩)]⟩) (orc:=[]) (by kernel_rfl) .n (aM (aI (aI (aX ?_))))))))))))))
        obtain⟨v5,aE,h⟩:=bind_some h
        refine bC o [0,2,22,23,148,155] [148,161,162,163] [22] (orc:=[jQ v5]) (by kernel_rfl) (.c aE .n) (aM (dt (b:=decide ((256:Int)<v5)) (by kernel_rfl) (fun l4=>?_) (fun l4=>?_)))
        ·replace h:=eh l4 h
         refine aI (aX (bC o [0,2,8,9] [161,162,163] [8] (orc:=[]) (by kernel_rfl) .n (aM (eU (dF (fW (dF (fW (dF ?_)))))))))
         replace h:=Option.some.inj h
         subst h
         exact gc [0,2,8,9] [161,162,163] [8] [(161,161),(162,162),(163,163),(8,3500001)] (by kernel_rfl) (fm o.P [161,162,163] [3500001] (.inl rfl) (by kernel_rfl) (by kernel_rfl))
        ·replace h:=eg l4 h
         refine dA (aM (aX ?_))
         obtain⟨_,l5,h⟩:=bind_some h
         replace l5:=dj l5
         exact cM o (orc:=[]) (by kernel_rfl) (.c l5 .n) (jf (js (([]:List bw),[lf],lj++([lf.1]:List (List UInt8))) (Nat.lt_succ_self _) h))
noncomputable def uI(k:Nat):cD Tryz.prog am vQ b6:=⟨127,Fo k,fun st=>bu st [.ab 1 bl,.ab 3 .bool,.ad 161 0 .str,.ad 161 1 au,.ad 161 2 bn,.ad 161 3 av,.ad 161 4 av,.ad 161 5 (.int .u8),.ad 161 6 .bool,.mp 162 bk bo,.ad 163 0 (.ab .str),.ad 163 1 au],fun z=>kP k (z.1) (z.2.1) (z.2.2.1) (z.2.2.2.1) (z.2.2.2.2.1) (z.2.2.2.2.2.1) (z.2.2.2.2.2.2.1) (z.2.2.2.2.2.2.2.1) (z.2.2.2.2.2.2.2.2.1) (z.2.2.2.2.2.2.2.2.2.1) (z.2.2.2.2.2.2.2.2.2.2.1) (z.2.2.2.2.2.2.2.2.2.2.2),(Qa k),fun _ _ h=>h⟩
end Go.Ev
