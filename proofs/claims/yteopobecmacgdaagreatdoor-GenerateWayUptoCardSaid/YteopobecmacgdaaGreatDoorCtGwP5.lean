/- Contracts, by program. -/
import Derived.Test.YteopobecmacgdaaGreatDoorProg
import Derived.Test.YteopobecmacgdaaGreatDoorMM6
import Derived.Test.YteopobecmacgdaaGreatDoorMM8
import Derived.Test.YteopobecmacgdaaGreatDoorCtGwP1
import Derived.Test.YteopobecmacgdaaGreatDoorCtGwP4
import Derived.KernelRfl
import Derived.Test.YteopobecmacgdaaGreatDoorTyA
set_option linter.unusedSectionVars false
set_option linter.unusedVariables false
set_option linter.unusedSimpArgs false
namespace Go.Ev
open Go Go.Proofs
set_option linter.unusedVariables false
set_option maxRecDepth 100000
noncomputable def H9(k:Nat):cY xJ cb where
 n:=161
 S:=fun z=>⟨[(0,.ptr 161 0),(1,.val bg (z.1)),(2,.ca 128 161),(3,aO (z.2.1))],[(161,.cells [aN (z.2.2.1),.val ax (z.2.2.2.1),.val br (z.2.2.2.2.1),.val az (z.2.2.2.2.2.1),.val az (z.2.2.2.2.2.2.1),bR (z.2.2.2.2.2.2.2.1),aO (z.2.2.2.2.2.2.2.2.1),.iter 162,.clos 161 [163]] 280),(162,.mp bn bo (z.2.2.2.2.2.2.2.2.2.1)),(163,.cells [.val (.ab .str) (z.2.2.2.2.2.2.2.2.2.2.1),.val ax (z.2.2.2.2.2.2.2.2.2.2.2)] 25)],[]⟩
 bq:=fun z y=>⟨[],[(161,.cells [aN (y.2.1),.val ax (y.2.2.1),.val br (y.2.2.2.1),.val az (y.2.2.2.2.1),.val az (y.2.2.2.2.2.1),bR (y.2.2.2.2.2.2.1),aO (y.2.2.2.2.2.2.2.1),.iter 162,.clos 161 [163]] 280),(162,.mp bn bo (y.2.2.2.2.2.2.2.2.1)),(163,.cells [.val (.ab .str) (y.2.2.2.2.2.2.2.2.2.1),.val ax (y.2.2.2.2.2.2.2.2.2.2.1)] 25)],[(3500001,⟨9,.str,(y.2.2.2.2.2.2.2.2.2.2.2)⟩)]⟩
 au:=fun z y=>[.row 3500001,ay (y.1)]
 rel:=fun z y=>pj k (z.1) (z.2.1) (z.2.2.1) (z.2.2.2.1) (z.2.2.2.2.1) (z.2.2.2.2.2.1) (z.2.2.2.2.2.2.1) (z.2.2.2.2.2.2.2.1) (z.2.2.2.2.2.2.2.2.1) (z.2.2.2.2.2.2.2.2.2.1) (z.2.2.2.2.2.2.2.2.2.2.1) (z.2.2.2.2.2.2.2.2.2.2.2)=some y
noncomputable def Tf(k:Nat):Env:=cK Tryz.prog aq 161 [Ea k,OV k]
theorem N2(k:Nat):dc Tryz.prog aq 127 (H9 k):=by
 refine ow (fn:=Tryz.f127) Tryz.func127 (by kernel_rfl) rfl Tryz.ntmps127 ?_
 rintro cx l7 l8 l9 ⟨l1,q,c1,c2,c3,c4,c5,c6,c7,m1,c8,c9⟩ O h
 have o:bE (Tf k) cx:=kK l7 l8 l9
 replace h:pj k l1 q c1 c2 c3 c4 c5 c6 c7 m1 c8 c9=some O:=h
 unfold pj at h
 refine aG (aP (bx o [0,1,2,3] [161,162,163] [] (orc:=[]) (by kernel_rfl) .n (aF (aG (aP (fm o 2 [0,1,2,3,24,25] [161,162,163] [] (orc:=[]) (by kernel_rfl) .n ?_))))))
 obtain⟨v1,ae,h⟩:=bind_some h
 refine DI o (HF k) (l1,c1,c2,c3,c4,c5,c6,c7,m1,c8,c9) v1 ae (ρ:=[(161,35),(162,36),(163,37)]) (ρ':=[(5,26),(35,161),(36,162),(37,163),(10,160)]) (n:=35) (by kernel_rfl) [0,1,2,3,26] [26,161,162,163] [160] (by kernel_rfl) (by kernel_rfl) (by kernel_rfl) (bN o (st':=⟨[(0,.ptr 161 0),(1,.val bg l1),(2,.ca 128 161),(3,aO q),(10,.clos 163 [26])],[(26,.cells [.row 160] 78),(161,.cells [aN v1.1,.val ax v1.2.1,.val br v1.2.2.1,.val az v1.2.2.2.1,.val az v1.2.2.2.2.1,bR v1.2.2.2.2.2.1,aO v1.2.2.2.2.2.2.1,.iter 162,.clos 161 [163]] 280),(162,.mp bn bo v1.2.2.2.2.2.2.2.1),(163,.cells [.val (.ab .str) v1.2.2.2.2.2.2.2.2.1,.val ax v1.2.2.2.2.2.2.2.2.2.1] 25)],[(160,⟨4,.bool,v1.2.2.2.2.2.2.2.2.2.2⟩)]⟩) (orc:=[]) (by kernel_rfl) .n (aF (aG (uU o (by kernel_rfl) (by kernel_rfl) (Bq o [0,1,2,3,10,11,12] [26,161,162,163] [160] (orc:=[]) (by kernel_rfl) .n (aF (aG (aP ?_))))))))
 obtain⟨_,lh,h⟩:=bind_some h
 replace lh:=dx lh
 obtain⟨_,li,h⟩:=bind_some h
 replace li:=dx li
 refine bx o [0,1,2,3,10,11,12,13] [26,37,161,162,163] [160] (orc:=[⟨.unit,()⟩]) (by kernel_rfl) (.c (show(List.replicate (am ((List.length l1:Int)+(2:Int))).toNat (none:Option bT))=List.replicate (List.length (List.replicate (am ((List.length l1:Int)+(2:Int))).toNat (none:Option bT))) ((none:Option bT))/\0<List.length (List.replicate (am ((List.length l1:Int)+(2:Int))).toNat (none:Option bT))from HH (none:Option bT) lh) (.c li .n)) (aF (aG (aG (aP (bN o (orc:=[]) (by kernel_rfl) .n (aF (fX (kA (α:=(Int×List eL)) (fun n z=>rj k l1 v1 q n z.1 z.2=some O) (fun z=>⟨[(0,.ptr 161 0),(1,.val bg l1),(2,.ca 128 161),(3,aO q),(10,.clos 163 [26]),(11,ay (List.length l1:Int)),(12,ay (List.length v1.2.1:Int)),(13,.osl 37),(39,ay (List.length (List.map some (List.replicate (am ((List.length l1:Int)+(2:Int))).toNat (none:Option bT))):Int)),(40,ay (z.1))],[(26,.cells [.row 160] 78),(37,.bd 146 (.mp .str .bool) (z.2)),(161,.cells [aN v1.1,.val ax v1.2.1,.val br v1.2.2.1,.val az v1.2.2.2.1,.val az v1.2.2.2.2.1,bR v1.2.2.2.2.2.1,aO v1.2.2.2.2.2.2.1,.iter 162,.clos 161 [163]] 280),(162,.mp bn bo v1.2.2.2.2.2.2.2.1),(163,.cells [.val (.ab .str) v1.2.2.2.2.2.2.2.2.1,.val ax v1.2.2.2.2.2.2.2.2.2.1] 25)],[(160,⟨4,.bool,v1.2.2.2.2.2.2.2.2.2.2⟩)]⟩) ?_ (k:=k) (x:=((0:Int),List.map some (List.replicate (am ((List.length l1:Int)+(2:Int))).toNat (none:Option bT)))) h))))))))
 clear h
 rintro lj ⟨t11,ld⟩ h
 cases lj with
 |zero=>exact absurd (show none=some _ from h) (by simp)
 |succ lj=>
  have h:xQ k l1 v1 q (rj k l1 v1 q lj) t11 ld=some O:=h
  unfold xQ at h
  refine aG (aP (bx o [0,1,2,3,10,11,12,13,39,40,41] [26,37,161,162,163] [160] (orc:=[]) (by kernel_rfl) .n (aF (aG (db (b:=decide (t11<(List.length (List.map some (List.replicate (am ((List.length l1:Int)+(2:Int))).toNat (none:Option bT))):Int))) (by kernel_rfl) (fun e4=>?_) (fun e4=>?_))))))
  ·replace h:=dD e4 h
   refine dh (aF (aG (fX (aG (aP (bx o [0,1,2,3,10,11,12,13,14,39,40] [26,37,161,162,163] [160] (orc:=[]) (by kernel_rfl) .n (aF (aP ?_))))))))
   obtain⟨_,lk,h⟩:=bind_some h
   replace lk:=dx lk
   obtain⟨_,ll,h⟩:=bind_some h
   replace ll:=dx ll
   exact bx o [0,1,2,3,10,11,12,13,39,40] [26,37,161,162,163] [160] (orc:=[]) (by kernel_rfl) (.c lk (.c ll .n)) (jC (aF (aP (bN o (orc:=[]) (by kernel_rfl) .n (je (am (t11+(1:Int)),List.set ld (t11).toNat (some (some ([]:List bH)))) (Nat.lt_succ_self _) h)))))
  ·replace h:=dH e4 h
   refine kR (gj (gj (kJ (aF (aG (aP ?_))))))
   obtain⟨_,lm,h⟩:=bind_some h
   replace lm:=dx lm
   obtain⟨aa,ln,h⟩:=bind_some h
   replace ln:=kV ln
   obtain⟨lo,lp,h⟩:=bind_some h
   replace lp:=qi lp
   refine bN o (st':=⟨[(0,.ptr 161 0),(1,.val bg l1),(2,.ca 128 161),(3,aO q),(10,.clos 163 [26]),(11,ay (List.length l1:Int)),(12,ay (List.length v1.2.1:Int)),(13,.osl 37)],[(26,.cells [.row 160] 78),(37,.bd 146 (.mp .str .bool) (List.set ld ((0:Int)).toNat (some (some (cl (aV .str) lo ([]:List UInt8) true))))),(161,.cells [aN v1.1,.val ax v1.2.1,.val br v1.2.2.1,.val az v1.2.2.2.1,.val az v1.2.2.2.2.1,bR v1.2.2.2.2.2.1,aO v1.2.2.2.2.2.2.1,.iter 162,.clos 161 [163]] 280),(162,.mp bn bo v1.2.2.2.2.2.2.2.1),(163,.cells [.val (.ab .str) v1.2.2.2.2.2.2.2.2.1,.val ax v1.2.2.2.2.2.2.2.2.2.1] 25)],[(160,⟨4,.bool,v1.2.2.2.2.2.2.2.2.2.2⟩)]⟩) (orc:=[⟨.map .str .bool,aa⟩,⟨.map .str .bool,some lo⟩]) (by kernel_rfl) (.c lm (.c ln (.c lp .n))) (aF (aG (aG (aP (bN o (orc:=[]) (by kernel_rfl) .n (aF (fX (kA (α:=(Int×List eL×List UInt8×List aH×List bM×List aK×List aK×Int×Bool×List bZ×List (List UInt8)×List aH×List (Bool))) (fun n z=>io k l1 v1 q n z.1 z.2.1 z.2.2.1 z.2.2.2.1 z.2.2.2.2.1 z.2.2.2.2.2.1 z.2.2.2.2.2.2.1 z.2.2.2.2.2.2.2.1 z.2.2.2.2.2.2.2.2.1 z.2.2.2.2.2.2.2.2.2.1 z.2.2.2.2.2.2.2.2.2.2.1 z.2.2.2.2.2.2.2.2.2.2.2.1 z.2.2.2.2.2.2.2.2.2.2.2.2=some O) (fun z=>⟨[(0,.ptr 161 0),(1,.val bg l1),(2,.ca 128 161),(3,aO q),(10,.clos 163 [26]),(11,ay (List.length l1:Int)),(12,ay (List.length v1.2.1:Int)),(13,.osl 37),(52,ay (am ((List.length l1:Int)+(1:Int)))),(53,ay (z.1))],[(26,.cells [.row 160] 78),(37,.bd 146 (.mp .str .bool) (z.2.1)),(161,.cells [aN (z.2.2.1),.val ax (z.2.2.2.1),.val br (z.2.2.2.2.1),.val az (z.2.2.2.2.2.1),.val az (z.2.2.2.2.2.2.1),bR (z.2.2.2.2.2.2.2.1),aO (z.2.2.2.2.2.2.2.2.1),.iter 162,.clos 161 [163]] 280),(162,.mp bn bo (z.2.2.2.2.2.2.2.2.2.1)),(163,.cells [.val (.ab .str) (z.2.2.2.2.2.2.2.2.2.2.1),.val ax (z.2.2.2.2.2.2.2.2.2.2.2.1)] 25)],[(160,⟨4,.bool,(z.2.2.2.2.2.2.2.2.2.2.2.2)⟩)]⟩) ?_ (k:=k) (x:=((0:Int),List.set ld ((0:Int)).toNat (some (some (cl (aV .str) lo ([]:List UInt8) true))),v1.1,v1.2.1,v1.2.2.1,v1.2.2.2.1,v1.2.2.2.2.1,v1.2.2.2.2.2.1,v1.2.2.2.2.2.2.1,v1.2.2.2.2.2.2.2.1,v1.2.2.2.2.2.2.2.2.1,v1.2.2.2.2.2.2.2.2.2.1,v1.2.2.2.2.2.2.2.2.2.2)) h))))))))
   clear h
   rintro U ⟨t12,lW,t13,t14,t15,t16,t17,t18,t19,m3,t20,t21,t22⟩ h
   cases U with
   |zero=>exact absurd (show none=some _ from h) (by simp)
   |succ U=>
    have h:vQ k l1 v1 q (io k l1 v1 q U) t12 lW t13 t14 t15 t16 t17 t18 t19 m3 t20 t21 t22=some O:=h
    unfold vQ at h
    refine aG (aP (bx o [0,1,2,3,10,11,12,13,52,53,54] [26,37,161,162,163] [160] (orc:=[]) (by kernel_rfl) .n (aF (aG (db (b:=decide (t12<(am ((List.length l1:Int)+(1:Int))))) (by kernel_rfl) (fun lq=>?_) (fun lq=>?_))))))
    ·replace h:=dD lq h
     refine dh (aF (aG (fX (aG (aP (bx o [0,1,2,3,10,11,12,13,15,52,53] [26,37,161,162,163] [160] (orc:=[]) (by kernel_rfl) .n (aF (aG (aG (aP ?_))))))))))
     obtain⟨_,lr,h⟩:=bind_some h
     replace lr:=dx lr
     obtain⟨Z,la,h⟩:=bind_some h
     replace la:=kV la
     refine bx o [0,1,2,3,10,11,12,13,15,52,53,61] [26,37,161,162,163] [160] (orc:=[⟨.map .str .bool,Z⟩,⟨.map .str .bool,Z⟩]) (by kernel_rfl) (.c lr (.c la (.c la .n))) (aF (db (b:=decide ((1024:Int)<(List.length (Option.getD Z []):Int))) (by kernel_rfl) (fun ls=>?_) (fun ls=>?_)))
     ·replace h:=dD ls h
      refine aG (aP (bN o (st':=⟨[(0,.ptr 161 0),(2,.ca 128 161),(8,.row 8),(9,ay (9:Int))],[(161,.cells [aN t13,.val ax t14,.val br t15,.val az t16,.val az t17,bR t18,aO t19,.iter 162,.clos 161 [163]] 280),(162,.mp bn bo m3),(163,.cells [.val (.ab .str) t20,.val ax t21] 25)],[(8,⟨9,.str,([]:List (List UInt8))⟩)]⟩) (orc:=[]) (by kernel_rfl) .n (aF (eM (df (fP (df (df (fP (df ?_))))))))))
      replace h:=Option.some.inj h
      subst h
      exact gr [0,2,8,9] [161,162,163] [8] [(161,161),(162,162),(163,163),(8,3500001)] (by kernel_rfl) (fZ o.P [161,162,163] [3500001] (.inl rfl) (by kernel_rfl) (by kernel_rfl))
     ·replace h:=dH ls h
      refine dh (aF (aG (aP ?_)))
      obtain⟨_,lt,h⟩:=bind_some h
      replace lt:=dx lt
      refine bN o (orc:=[⟨.unit,()⟩,⟨.map .str .bool,Z⟩]) (by kernel_rfl) (.c lt (.c la .n)) (aF (fX (kA (α:=(List eL×List bH×List bH)) (fun n z=>gz k (io k l1 v1 q U) t12 t13 t14 t15 t16 t17 t18 t19 m3 t20 t21 t22 l1 v1 q n z.1 z.2.1 z.2.2=some O) (fun z=>⟨[(0,.ptr 161 0),(1,.val bg l1),(2,.ca 128 161),(3,aO q),(10,.clos 163 [26]),(11,ay (List.length l1:Int)),(12,ay (List.length v1.2.1:Int)),(13,.osl 37),(15,ay t12),(52,ay (am ((List.length l1:Int)+(1:Int)))),(53,ay t12),(66,.iter 66)],[(26,.cells [.row 160] 78),(37,.bd 146 (.mp .str .bool) (z.1)),(66,.cu .str .bool (z.2.1) (z.2.2)),(161,.cells [aN t13,.val ax t14,.val br t15,.val az t16,.val az t17,bR t18,aO t19,.iter 162,.clos 161 [163]] 280),(162,.mp bn bo m3),(163,.cells [.val (.ab .str) t20,.val ax t21] 25)],[(160,⟨4,.bool,t22⟩)]⟩) ?_ (k:=k) (x:=(List.set lW (t12).toNat none,Z.getD [],([]:List bH))) h)))
      clear h
      rintro W ⟨R,le,lf⟩ h
      cases W with
      |zero=>exact absurd (show none=some _ from h) (by simp)
      |succ W=>
       have h:tS k (io k l1 v1 q U) t12 t13 t14 t15 t16 t17 t18 t19 m3 t20 t21 t22 l1 v1 q (gz k (io k l1 v1 q U) t12 t13 t14 t15 t16 t17 t18 t19 m3 t20 t21 t22 l1 v1 q W) R le lf=some O:=h
       unfold tS at h
       refine aG (aP ?_)
       rcases xn h with ⟨lu,h⟩|⟨ar,lu,h⟩
       ·exact zK o (d:=67) (b:=66) (k:=.str) (v:=.bool) (left:=le) (last:=lf) (by kernel_rfl) (by kernel_rfl) lu (st':=⟨[(0,.ptr 161 0),(1,.val bg l1),(2,.ca 128 161),(3,aO q),(10,.clos 163 [26]),(11,ay (List.length l1:Int)),(12,ay (List.length v1.2.1:Int)),(13,.osl 37),(15,ay t12),(52,ay (am ((List.length l1:Int)+(1:Int)))),(53,ay t12),(66,.iter 66),(67,.dI [gK false])],[(26,.cells [.row 160] 78),(37,.bd 146 (.mp .str .bool) R),(66,.cu .str .bool le lf),(161,.cells [aN t13,.val ax t14,.val br t15,.val az t16,.val az t17,bR t18,aO t19,.iter 162,.clos 161 [163]] 280),(162,.mp bn bo m3),(163,.cells [.val (.ab .str) t20,.val ax t21] 25)],[(160,⟨4,.bool,t22⟩)]⟩) (by kernel_rfl) (bx o [0,1,2,3,10,11,12,13,15,52,53,66,68] [26,37,66,161,162,163] [160] (orc:=[]) (by kernel_rfl) .n (aF (aG (yf (by kernel_rfl) (kR (gj (gj (kJ (jC (aF (aP (bN o (orc:=[]) (by kernel_rfl) .n (je (am (t12+(1:Int)),R,t13,t14,t15,t16,t17,t18,t19,m3,t20,t21,t22) (Nat.lt_succ_self _) h)))))))))))))
       ·refine vR o (d:=67) (b:=66) (k:=.str) (v:=.bool) (left:=le) (last:=lf) (p:=ar) (by kernel_rfl) (by kernel_rfl) lu (st':=⟨[(0,.ptr 161 0),(1,.val bg l1),(2,.ca 128 161),(3,aO q),(10,.clos 163 [26]),(11,ay (List.length l1:Int)),(12,ay (List.length v1.2.1:Int)),(13,.osl 37),(15,ay t12),(52,ay (am ((List.length l1:Int)+(1:Int)))),(53,ay t12),(66,.iter 66),(67,.dI [gK true,mI ar.1,gK ar.2])],[(26,.cells [.row 160] 78),(37,.bd 146 (.mp .str .bool) R),(66,.cu .str .bool ([]:List bH) [ar]),(161,.cells [aN t13,.val ax t14,.val br t15,.val az t16,.val az t17,bR t18,aO t19,.iter 162,.clos 161 [163]] 280),(162,.mp bn bo m3),(163,.cells [.val (.ab .str) t20,.val ax t21] 25)],[(160,⟨4,.bool,t22⟩)]⟩) (by kernel_rfl) (bx o [0,1,2,3,10,11,12,13,15,52,53,66,68] [26,37,66,161,162,163] [160] (orc:=[]) (by kernel_rfl) .n (aF (aG (yQ (by kernel_rfl) (dh (aF (fX (aG (aP (bx o [0,1,2,3,10,11,12,13,15,16,52,53,66] [26,37,66,161,162,163] [160] (orc:=[]) (by kernel_rfl) .n (aF (aG (aG (aP ?_))))))))))))))
        obtain⟨v2,ab,h⟩:=bind_some h
        refine bN o (st':=⟨[(0,.ptr 161 0),(1,.val bg l1),(2,.ca 128 161),(3,aO q),(10,.clos 163 [26]),(11,ay (List.length l1:Int)),(12,ay (List.length v1.2.1:Int)),(13,.osl 37),(15,ay t12),(16,aN ar.1),(52,ay (am ((List.length l1:Int)+(1:Int)))),(53,ay t12),(66,.iter 66),(77,aO (decide ((256:Int)<(am ((am (v2+(List.length l1:Int)))-t12)))))],[(26,.cells [.row 160] 78),(37,.bd 146 (.mp .str .bool) R),(66,.cu .str .bool ([]:List bH) [ar]),(161,.cells [aN t13,.val ax t14,.val br t15,.val az t16,.val az t17,bR t18,aO t19,.iter 162,.clos 161 [163]] 280),(162,.mp bn bo m3),(163,.cells [.val (.ab .str) t20,.val ax t21] 25)],[(160,⟨4,.bool,t22⟩)]⟩) (orc:=[k3 v2]) (by kernel_rfl) (.c ab .n) (aF (db (b:=decide ((256:Int)<(am ((am (v2+(List.length l1:Int)))-t12)))) (by kernel_rfl) (fun lv=>?_) (fun lv=>?_)))
        ·replace h:=dD lv h
         refine aG (aP (bx o [0,2,8,9] [161,162,163] [8] (orc:=[]) (by kernel_rfl) .n (aF (eM (df (fP (df (fP (fP (df (df (fP (df ?_)))))))))))))
         replace h:=Option.some.inj h
         subst h
         exact gr [0,2,8,9] [161,162,163] [8] [(161,161),(162,162),(163,163),(8,3500001)] (by kernel_rfl) (fZ o.P [161,162,163] [3500001] (.inl rfl) (by kernel_rfl) (by kernel_rfl))
        ·replace h:=dH lv h
         refine dh (aF (aG (aP ?_)))
         obtain⟨v3,ad,h⟩:=bind_some h
         refine bx o [0,1,2,3,10,11,12,13,15,16,17,52,53,66] [26,37,66,161,162,163] [160] (orc:=[gK v3]) (by kernel_rfl) (.c ad .n) (aF (kG (α:=List eL) (fun z=>pF t12 l1 ar (gz k (io k l1 v1 q U) t12 t13 t14 t15 t16 t17 t18 t19 m3 t20 t21 t22 l1 v1 q W) v3 q z=some O) (fun X=>⟨[(0,.ptr 161 0),(1,.val bg l1),(2,.ca 128 161),(3,aO q),(10,.clos 163 [26]),(11,ay (List.length l1:Int)),(12,ay (List.length v1.2.1:Int)),(13,.osl 37),(15,ay t12),(16,aN ar.1),(17,aO v3),(52,ay (am ((List.length l1:Int)+(1:Int)))),(53,ay t12),(66,.iter 66)],[(26,.cells [.row 160] 78),(37,.bd 146 (.mp .str .bool) X),(66,.cu .str .bool ([]:List bH) [ar]),(161,.cells [aN t13,.val ax t14,.val br t15,.val az t16,.val az t17,bR t18,aO t19,.iter 162,.clos 161 [163]] 280),(162,.mp bn bo m3),(163,.cells [.val (.ab .str) t20,.val ax t21] 25)],[(160,⟨4,.bool,t22⟩)]⟩) ?_ (fun lb=>?_)))
         ·rintro X h
          unfold pF at h
          refine aG (aP (fm o 3 [0,1,2,3,10,11,12,13,15,16,52,53,66,118] [26,37,66,161,162,163] [160] (orc:=[]) (by kernel_rfl) .n (iA (α:=Bool) (fun z=>ud t12 l1 ar X (gz k (io k l1 v1 q U) t12 t13 t14 t15 t16 t17 t18 t19 m3 t20 t21 t22 l1 v1 q W) z=some O) (fun t23=>⟨[(0,.ptr 161 0),(1,.val bg l1),(2,.ca 128 161),(3,aO q),(10,.clos 163 [26]),(11,ay (List.length l1:Int)),(12,ay (List.length v1.2.1:Int)),(13,.osl 37),(15,ay t12),(16,aN ar.1),(52,ay (am ((List.length l1:Int)+(1:Int)))),(53,ay t12),(66,.iter 66),(120,aO t23)],[(26,.cells [.row 160] 78),(37,.bd 146 (.mp .str .bool) X),(66,.cu .str .bool ([]:List bH) [ar]),(161,.cells [aN t13,.val ax t14,.val br t15,.val az t16,.val az t17,bR t18,aO t19,.iter 162,.clos 161 [163]] 280),(162,.mp bn bo m3),(163,.cells [.val (.ab .str) t20,.val ax t21] 25)],[(160,⟨4,.bool,t22⟩)]⟩) 2 ?_ (fun lX=>?_))))
          ·rintro t23 h
           unfold ud at h
           refine iE (aF (db (b:=t23) (by kernel_rfl) (fun lw=>?_) (fun lw=>?_)))
           ·replace h:=dD lw h
            refine aG (aP (bx o [0,1,2,3,10,11,12,13,15,20,52,53,66] [26,37,66,161,162,163] [160] (orc:=[]) (by kernel_rfl) .n (aF (kG (α:=List UInt8) (fun z=>qh t12 X (gz k (io k l1 v1 q U) t12 t13 t14 t15 t16 t17 t18 t19 m3 t20 t21 t22 l1 v1 q W) ar z=some O) (fun lx=>⟨[(0,.ptr 161 0),(1,.val bg l1),(2,.ca 128 161),(3,aO q),(10,.clos 163 [26]),(11,ay (List.length l1:Int)),(12,ay (List.length v1.2.1:Int)),(13,.osl 37),(15,ay t12),(20,aN lx),(52,ay (am ((List.length l1:Int)+(1:Int)))),(53,ay t12),(66,.iter 66)],[(26,.cells [.row 160] 78),(37,.bd 146 (.mp .str .bool) X),(66,.cu .str .bool ([]:List bH) [ar]),(161,.cells [aN t13,.val ax t14,.val br t15,.val az t16,.val az t17,bR t18,aO t19,.iter 162,.clos 161 [163]] 280),(162,.mp bn bo m3),(163,.cells [.val (.ab .str) t20,.val ax t21] 25)],[(160,⟨4,.bool,t22⟩)]⟩) ?_ (fun lb=>?_)))))
            ·rintro lx h
             unfold qh at h
             refine aP ?_
             obtain⟨_,ly,h⟩:=bind_some h
             replace ly:=dx ly
             obtain⟨af,lz,h⟩:=bind_some h
             replace lz:=kV lz
             obtain⟨lY,lA,h⟩:=bind_some h
             replace lA:=qi lA
             exact bN o (orc:=[⟨.map .str .bool,af⟩,⟨.map .str .bool,some lY⟩]) (by kernel_rfl) (.c ly (.c lz (.c lA .n))) (jC (je (List.set X (am (t12+(1:Int))).toNat (some (some (cl (aV .str) lY lx true))),([]:List bH),[ar]) (Nat.lt_succ_self _) h))
            refine aG (aP (bx o [0,1,2,3,10,11,12,13,15,20,52,53,66,124] [26,37,66,161,162,163] [160] (orc:=[]) (by kernel_rfl) .n (aF (db (b:=decide (t12<(List.length l1:Int))) (by kernel_rfl) (fun lB=>?_) (fun lB=>?_)))))
            ·replace h:=dD lB h
             refine aP ?_
             obtain⟨lZ,ag,h⟩:=bind_some h
             obtain⟨_,lC,h⟩:=bind_some h
             replace lC:=dx lC
             exact bN o (orc:=[yX lZ]) (by kernel_rfl) (.c ag (.c lC .n)) (lb (ar.1++((Utf8.encode lZ).data.toList)) h)
            ·replace h:=dH lB h
             exact dh (jH (by kernel_rfl) (lb ar.1 h))
           ·replace h:=dH lw h
            exact dh (jC (jH (by kernel_rfl) (je (X,([]:List bH),[ar]) (Nat.lt_succ_self _) h)))
          refine iW 118 (b:=!v3) (by kernel_rfl) (fun lD=>?_) (fun lD=>?_)
          ·rw[pS lD]at h
           exact bN o (orc:=[]) (by kernel_rfl) .n (lX true h)
          ·rw[pN lD]at h
           exact bN o (orc:=[]) (by kernel_rfl) .n (lX q h)
         refine aG (aP (bx o [0,1,2,3,10,11,12,13,15,16,17,52,53,66,82] [26,37,66,161,162,163] [160] (orc:=[]) (by kernel_rfl) .n (aF (db (b:=v3) (by kernel_rfl) (fun lE=>?_) (fun lE=>?_)))))
         ·replace h:=dD lE h
          refine aG (aP ?_)
          obtain⟨l0,ah,h⟩:=bind_some h
          refine fm o 8 [0,1,2,3,10,11,12,13,15,16,17,52,53,66,83,84,90] [26,37,66,161,162,163] [160] (orc:=[⟨bg,l0⟩]) (by kernel_rfl) (.c ah .n) ?_
          obtain⟨v4,ai,h⟩:=bind_some h
          refine Di o (D2 k) (l0,t13,t14,t15,t16,t17,t18,t19,m3,t20,t21) v4 ai (ρ:=[(161,42),(162,43),(163,44)]) (ρ':=[(42,161),(43,162),(44,163),(5,91)]) (n:=42) (by kernel_rfl) [0,1,2,3,10,11,12,13,15,16,17,52,53,66,83,91] [26,37,66,161,162,163] [91,160] (by kernel_rfl) (by kernel_rfl) (st':=⟨[(0,.ptr 161 0),(1,.val bg l1),(2,.ca 128 161),(3,aO q),(10,.clos 163 [26]),(11,ay (List.length l1:Int)),(12,ay (List.length v1.2.1:Int)),(13,.osl 37),(15,ay t12),(16,aN ar.1),(17,aO v3),(52,ay (am ((List.length l1:Int)+(1:Int)))),(53,ay t12),(66,.iter 66),(83,aN ar.1),(91,.row 91)],[(26,.cells [.row 160] 78),(37,.bd 146 (.mp .str .bool) R),(66,.cu .str .bool ([]:List bH) [ar]),(161,.cells [aN t13,.val ax t14,.val br t15,.val az t16,.val az t17,bR t18,aO t19,.iter 162,.clos 161 [163]] 280),(162,.mp bn bo m3),(163,.cells [.val (.ab .str) t20,.val ax t21] 25)],[(91,⟨21,(.int .i32),v4⟩),(160,⟨4,.bool,t22⟩)]⟩) (by kernel_rfl) ?_
          obtain⟨_,lF,h⟩:=bind_some h
          replace lF:=dx lF
          obtain⟨_,lG,h⟩:=bind_some h
          replace lG:=dx lG
          refine bx o [0,1,2,3,10,11,12,13,15,16,17,18,52,53,66] [26,37,66,161,162,163] [160] (orc:=[]) (by kernel_rfl) (.c lF (.c lG .n)) (aF (aG (aP (bx o [0,1,2,3,10,11,12,13,15,16,17,18,19,52,53,66] [26,37,66,161,162,163] [160] (orc:=[]) (by kernel_rfl) .n (aF (kG (α:=cw) (fun z=>qD R t12 l1 ar (gz k (io k l1 v1 q U) t12 t13 t14 t15 t16 t17 t18 t19 m3 t20 t21 t22 l1 v1 q W) v3 q z.1 z.2=some O) (fun z=>⟨[(0,.ptr 161 0),(1,.val bg l1),(2,.ca 128 161),(3,aO q),(10,.clos 163 [26]),(11,ay (List.length l1:Int)),(12,ay (List.length v1.2.1:Int)),(13,.osl 37),(15,ay t12),(16,aN ar.1),(17,aO v3),(18,aN (z.1)),(19,ay (z.2)),(52,ay (am ((List.length l1:Int)+(1:Int)))),(53,ay t12),(66,.iter 66)],[(26,.cells [.row 160] 78),(37,.bd 146 (.mp .str .bool) R),(66,.cu .str .bool ([]:List bH) [ar]),(161,.cells [aN t13,.val ax t14,.val br t15,.val az t16,.val az t17,bR t18,aO t19,.iter 162,.clos 161 [163]] 280),(162,.mp bn bo m3),(163,.cells [.val (.ab .str) t20,.val ax t21] 25)],[(160,⟨4,.bool,t22⟩)]⟩) ?_ (fun l3=>?_)))))))
          ·rintro⟨aj,ak⟩ h
           unfold qD at h
           refine aP ?_
           obtain⟨_,lH,h⟩:=bind_some h
           replace lH:=dx lH
           obtain⟨al,lI,h⟩:=bind_some h
           replace lI:=kV lI
           obtain⟨l4,lJ,h⟩:=bind_some h
           replace lJ:=qi lJ
           exact bN o (orc:=[⟨.map .str .bool,al⟩,⟨.map .str .bool,some l4⟩]) (by kernel_rfl) (.c lH (.c lI (.c lJ .n))) (lb (List.set R (ak).toNat (some (some (cl (aV .str) l4 aj true)))) h)
          refine aG (aP (bx o [0,1,2,3,10,11,12,13,15,16,17,18,19,52,53,66,98] [26,37,66,161,162,163] [160] (orc:=[]) (by kernel_rfl) .n (aF (db (b:=(List.length v1.2.1:Int)==(0:Int)) (by kernel_rfl) (fun lK=>?_) (fun lK=>?_)))))
          ·replace h:=dD lK h
           refine kG (α:=List UInt8) (fun z=>qd R t12 l1 ar (gz k (io k l1 v1 q U) t12 t13 t14 t15 t16 t17 t18 t19 m3 t20 t21 t22 l1 v1 q W) v3 q v1 z=some O) (fun lL=>⟨[(0,.ptr 161 0),(1,.val bg l1),(2,.ca 128 161),(3,aO q),(10,.clos 163 [26]),(11,ay (List.length l1:Int)),(12,ay (List.length v1.2.1:Int)),(13,.osl 37),(15,ay t12),(16,aN ar.1),(17,aO v3),(18,aN lL),(19,ay (am (t12+(List.length v1.2.1:Int)))),(52,ay (am ((List.length l1:Int)+(1:Int)))),(53,ay t12),(66,.iter 66)],[(26,.cells [.row 160] 78),(37,.bd 146 (.mp .str .bool) R),(66,.cu .str .bool ([]:List bH) [ar]),(161,.cells [aN t13,.val ax t14,.val br t15,.val az t16,.val az t17,bR t18,aO t19,.iter 162,.clos 161 [163]] 280),(162,.mp bn bo m3),(163,.cells [.val (.ab .str) t20,.val ax t21] 25)],[(160,⟨4,.bool,t22⟩)]⟩) ?_ (fun l5=>?_)
           ·rintro lL h
            unfold qd at h
            exact aP (bN o (orc:=[]) (by kernel_rfl) .n (l3 (lL,am ((am (t12+(List.length v1.2.1:Int)))+(1:Int))) h))
           refine aG (aP (bx o [0,1,2,3,10,11,12,13,15,16,17,18,19,52,53,66,101] [26,37,66,161,162,163] [160] (orc:=[]) (by kernel_rfl) .n (aF (db (b:=decide (t12<(List.length l1:Int))) (by kernel_rfl) (fun lM=>?_) (fun lM=>?_)))))
           ·replace h:=dD lM h
            refine aP ?_
            obtain⟨l6,an,h⟩:=bind_some h
            obtain⟨_,lN,h⟩:=bind_some h
            replace lN:=dx lN
            exact bN o (orc:=[yX l6]) (by kernel_rfl) (.c an (.c lN .n)) (l5 ((ar.1++(cz v4))++((Utf8.encode l6).data.toList)) h)
           ·replace h:=dH lM h
            exact dh (jH (by kernel_rfl) (l5 (ar.1++(cz v4)) h))
          ·replace h:=dH lK h
           exact dh (jH (by kernel_rfl) (l3 (ar.1++(cz v4),am (t12+(List.length v1.2.1:Int))) h))
         ·replace h:=dH lE h
          exact dh (jH (by kernel_rfl) (lb R h))
    ·replace h:=dH lq h
     refine kR (gj (gj (kJ (aF (aG (aP ?_))))))
     obtain⟨_,lO,h⟩:=bind_some h
     replace lO:=dx lO
     obtain⟨lP,lQ,h⟩:=bind_some h
     replace lQ:=kV lQ
     refine bx o [0,2,21] [161,162,163] [] (orc:=[⟨.unit,()⟩,⟨.map .str .bool,lP⟩]) (by kernel_rfl) (.c lO (.c lQ .n)) (aF (aG (aG (aP (bx o [0,2,21,146] [161,162,163] [] (orc:=[]) (by kernel_rfl) .n (aF (db (b:=decide ((1024:Int)<(List.length (lP.getD []):Int))) (by kernel_rfl) (fun lR=>?_) (fun lR=>?_))))))))
     ·replace h:=dD lR h
      refine aG (aP (bN o (st':=⟨[(0,.ptr 161 0),(2,.ca 128 161),(8,.row 8),(9,ay (9:Int))],[(161,.cells [aN t13,.val ax t14,.val br t15,.val az t16,.val az t17,bR t18,aO t19,.iter 162,.clos 161 [163]] 280),(162,.mp bn bo m3),(163,.cells [.val (.ab .str) t20,.val ax t21] 25)],[(8,⟨9,.str,([]:List (List UInt8))⟩)]⟩) (orc:=[]) (by kernel_rfl) .n (aF (eM (df ?_)))))
      replace h:=Option.some.inj h
      subst h
      exact gr [0,2,8,9] [161,162,163] [8] [(161,161),(162,162),(163,163),(8,3500001)] (by kernel_rfl) (fZ o.P [161,162,163] [3500001] (.inl rfl) (by kernel_rfl) (by kernel_rfl))
     ·replace h:=dH lR h
      refine dh (aF (aG (aP (bx o [0,2,21,22] [161,162,163] [22] (orc:=[]) (by kernel_rfl) .n (aF (aG (aG (aP (bN o (orc:=[]) (by kernel_rfl) .n (aF (fX (kA (α:=(List bH×List bH×List (List UInt8))) (fun n z=>pP k t13 t14 t15 t16 t17 t18 t19 m3 t20 t21 n z.1 z.2.1 z.2.2=some O) (fun z=>⟨[(0,.ptr 161 0),(2,.ca 128 161),(22,.row 22),(148,.iter 148)],[(148,.cu .str .bool (z.1) (z.2.1)),(161,.cells [aN t13,.val ax t14,.val br t15,.val az t16,.val az t17,bR t18,aO t19,.iter 162,.clos 161 [163]] 280),(162,.mp bn bo m3),(163,.cells [.val (.ab .str) t20,.val ax t21] 25)],[(22,⟨9,.str,(z.2.2)⟩)]⟩) ?_ (k:=k) (x:=(lP.getD [],([]:List bH),([]:List (List UInt8)))) h))))))))))))
      clear h
      rintro lS ⟨lg,gX,lc⟩ h
      cases lS with
      |zero=>exact absurd (show none=some _ from h) (by simp)
      |succ lS=>
       have h:sJ k t13 t14 t15 t16 t17 t18 t19 m3 t20 t21 (pP k t13 t14 t15 t16 t17 t18 t19 m3 t20 t21 lS) lg gX lc=some O:=h
       unfold sJ at h
       refine aG (aP ?_)
       rcases xn h with ⟨lT,h⟩|⟨Y,lT,h⟩
       ·refine zK o (d:=149) (b:=148) (k:=.str) (v:=.bool) (left:=lg) (last:=gX) (by kernel_rfl) (by kernel_rfl) lT (st':=⟨[(0,.ptr 161 0),(2,.ca 128 161),(22,.row 22),(148,.iter 148),(149,.dI [gK false])],[(148,.cu .str .bool lg gX),(161,.cells [aN t13,.val ax t14,.val br t15,.val az t16,.val az t17,bR t18,aO t19,.iter 162,.clos 161 [163]] 280),(162,.mp bn bo m3),(163,.cells [.val (.ab .str) t20,.val ax t21] 25)],[(22,⟨9,.str,lc⟩)]⟩) (by kernel_rfl) (bx o [0,2,22,148,150] [148,161,162,163] [22] (orc:=[]) (by kernel_rfl) .n (aF (aG (yf (by kernel_rfl) (kR (gj (gj (kJ (aF (aG (aP (bx o [0,2,8,9] [161,162,163] [22] (orc:=[]) (by kernel_rfl) .n (aF (eM ?_))))))))))))))
        replace h:=Option.some.inj h
        subst h
        exact gr [0,2,8,9] [161,162,163] [22] [(161,161),(162,162),(163,163),(22,3500001)] (by kernel_rfl) (fZ o.P [161,162,163] [3500001] (.inl rfl) (by kernel_rfl) (by kernel_rfl))
       ·refine vR o (d:=149) (b:=148) (k:=.str) (v:=.bool) (left:=lg) (last:=gX) (p:=Y) (by kernel_rfl) (by kernel_rfl) lT (st':=⟨[(0,.ptr 161 0),(2,.ca 128 161),(22,.row 22),(148,.iter 148),(149,.dI [gK true,mI Y.1,gK Y.2])],[(148,.cu .str .bool ([]:List bH) [Y]),(161,.cells [aN t13,.val ax t14,.val br t15,.val az t16,.val az t17,bR t18,aO t19,.iter 162,.clos 161 [163]] 280),(162,.mp bn bo m3),(163,.cells [.val (.ab .str) t20,.val ax t21] 25)],[(22,⟨9,.str,lc⟩)]⟩) (by kernel_rfl) (bx o [0,2,22,148,150] [148,161,162,163] [22] (orc:=[]) (by kernel_rfl) .n (aF (aG (yQ (by kernel_rfl) (dh (aF (fX (aG (aP (bN o (st':=⟨[(0,.ptr 161 0),(2,.ca 128 161),(22,.row 22),(23,aN Y.1),(148,.iter 148)],[(148,.cu .str .bool ([]:List bH) [Y]),(161,.cells [aN t13,.val ax t14,.val br t15,.val az t16,.val az t17,bR t18,aO t19,.iter 162,.clos 161 [163]] 280),(162,.mp bn bo m3),(163,.cells [.val (.ab .str) t20,.val ax t21] 25)],[(22,⟨9,.str,lc⟩)]⟩) (orc:=[]) (by kernel_rfl) .n (aF (aG (aG (aP ?_))))))))))))))
        obtain⟨v5,ao,h⟩:=bind_some h
        refine bx o [0,2,22,23,148,155] [148,161,162,163] [22] (orc:=[k3 v5]) (by kernel_rfl) (.c ao .n) (aF (db (b:=decide ((256:Int)<v5)) (by kernel_rfl) (fun lU=>?_) (fun lU=>?_)))
        ·replace h:=dD lU h
         refine aG (aP (bx o [0,2,8,9] [161,162,163] [8] (orc:=[]) (by kernel_rfl) .n (aF (eM (df (fP (df (fP (df ?_)))))))))
         replace h:=Option.some.inj h
         subst h
         exact gr [0,2,8,9] [161,162,163] [8] [(161,161),(162,162),(163,163),(8,3500001)] (by kernel_rfl) (fZ o.P [161,162,163] [3500001] (.inl rfl) (by kernel_rfl) (by kernel_rfl))
        ·replace h:=dH lU h
         refine dh (aF (aP ?_))
         obtain⟨_,lV,h⟩:=bind_some h
         replace lV:=dx lV
         exact bN o (orc:=[]) (by kernel_rfl) (.c lV .n) (jC (je (([]:List bH),[Y],lc++([Y.1]:List (List UInt8))) (Nat.lt_succ_self _) h))
noncomputable def QT(k:Nat):dM Tryz.prog aq xJ cb:=⟨127,H9 k,fun st=>cF st [.ab 1 bg,.ab 3 .bool,.ad 161 0 .str,.ad 161 1 ax,.ad 161 2 br,.ad 161 3 az,.ad 161 4 az,.ad 161 5 (.int .u8),.ad 161 6 .bool,.mp 162 bn bo,.ad 163 0 (.ab .str),.ad 163 1 ax],fun z=>pj k (z.1) (z.2.1) (z.2.2.1) (z.2.2.2.1) (z.2.2.2.2.1) (z.2.2.2.2.2.1) (z.2.2.2.2.2.2.1) (z.2.2.2.2.2.2.2.1) (z.2.2.2.2.2.2.2.2.1) (z.2.2.2.2.2.2.2.2.2.1) (z.2.2.2.2.2.2.2.2.2.2.1) (z.2.2.2.2.2.2.2.2.2.2.2),(N2 k),fun _ _ h=>h⟩
end Go.Ev
