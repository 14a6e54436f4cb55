/- Contracts, by program. -/
import Derived.Test.YteopobecmacgdaaGreatDoorProg
import Derived.Test.YteopobecmacgdaaGreatDoorMM6
import Derived.Test.YteopobecmacgdaaGreatDoorMM9
import Derived.Test.YteopobecmacgdaaGreatDoorMM10
import Derived.Test.YteopobecmacgdaaGreatDoorCtLoP1
import Derived.Test.YteopobecmacgdaaGreatDoorCtLoP4
import Derived.KernelRfl
import Derived.Test.YteopobecmacgdaaGreatDoorTyA
set_option linter.unusedSectionVars false
set_option linter.unusedVariables false
set_option linter.unusedSimpArgs false
namespace Go.Ev
open Go Go.Proofs
set_option linter.unusedVariables false
set_option maxRecDepth 100000
noncomputable def OM(k:Nat):b8 xz ch where
 n:=161
 S:=fun z=>⟨[(0,.ptr 161 0),(1,.val bq (z.1)),(2,.ck 128 161),(3,a8 (z.2.1))],[(161,.cells [bo (z.2.2.1),.val av (z.2.2.2.1),.val bt (z.2.2.2.2.1),.val aw (z.2.2.2.2.2.1),.val aw (z.2.2.2.2.2.2.1),bZ (z.2.2.2.2.2.2.2.1),a8 (z.2.2.2.2.2.2.2.2.1),.iter 162,.clos 161 [163]] 280),(162,.mp bp bu (z.2.2.2.2.2.2.2.2.2.1)),(163,.cells [.val (.ab .str) (z.2.2.2.2.2.2.2.2.2.2.1),.val av (z.2.2.2.2.2.2.2.2.2.2.2)] 25)],[]⟩
 bg:=fun z y=>⟨[],[(161,.cells [bo (y.2.1),.val av (y.2.2.1),.val bt (y.2.2.2.1),.val aw (y.2.2.2.2.1),.val aw (y.2.2.2.2.2.1),bZ (y.2.2.2.2.2.2.1),a8 (y.2.2.2.2.2.2.2.1),.iter 162,.clos 161 [163]] 280),(162,.mp bp bu (y.2.2.2.2.2.2.2.2.1)),(163,.cells [.val (.ab .str) (y.2.2.2.2.2.2.2.2.2.1),.val av (y.2.2.2.2.2.2.2.2.2.2.1)] 25)],[(3500001,⟨9,.str,(y.2.2.2.2.2.2.2.2.2.2.2)⟩)]⟩
 aq:=fun z y=>[.row 3500001,ay (y.1)]
 rel:=fun z y=>nj k (z.1) (z.2.1) (z.2.2.1) (z.2.2.2.1) (z.2.2.2.2.1) (z.2.2.2.2.2.1) (z.2.2.2.2.2.2.1) (z.2.2.2.2.2.2.2.1) (z.2.2.2.2.2.2.2.2.1) (z.2.2.2.2.2.2.2.2.2.1) (z.2.2.2.2.2.2.2.2.2.2.1) (z.2.2.2.2.2.2.2.2.2.2.2)=some y
noncomputable def Vo(k:Nat):Env:=cC Tryz.prog am 161 [Ec k,UJ k]
theorem ZT(k:Nat):cq Tryz.prog am 127 (OM k):=by
 refine pb (fn:=Tryz.f127) Tryz.func127 (by kernel_rfl) rfl Tryz.ntmps127 ?_
 rintro cx aa ab ad ⟨l1,q,c1,c2,c3,c4,c5,c6,c7,m1,c8,c9⟩ R h
 have o:bE (Vo k) cx:=jy aa ab ad
 replace h:nj k l1 q c1 c2 c3 c4 c5 c6 c7 m1 c8 c9=some R:=h
 unfold nj at h
 refine aM (aZ (bK o [0,1,2,3] [161,162,163] [] (orc:=[]) (by kernel_rfl) .n (aN (aM (aZ (jK o 2 [0,1,2,3,24,25] [161,162,163] [] (orc:=[]) (by kernel_rfl) .n ?_))))))
 obtain⟨v1,ae,h⟩:=bind_some h
 refine qA o (JE k) (l1,c1,c2,c3,c4,c5,c6,c7,m1,c8,c9) v1 ae (ρ:=[(161,35),(162,36),(163,37)]) (ρ':=[(5,26),(35,161),(36,162),(37,163),(10,160)]) (n:=35) (by kernel_rfl) [0,1,2,3,26] [26,161,162,163] [160] (by kernel_rfl) (by kernel_rfl) (by kernel_rfl) (dh o (st':=⟨[(0,.ptr 161 0),(1,.val bq l1),(2,.ck 128 161),(3,a8 q),(10,.clos 163 [26])],[(26,.cells [.row 160] 78),(161,.cells [bo v1.1,.val av v1.2.1,.val bt v1.2.2.1,.val aw v1.2.2.2.1,.val aw v1.2.2.2.2.1,bZ v1.2.2.2.2.2.1,a8 v1.2.2.2.2.2.2.1,.iter 162,.clos 161 [163]] 280),(162,.mp bp bu v1.2.2.2.2.2.2.2.1),(163,.cells [.val (.ab .str) v1.2.2.2.2.2.2.2.2.1,.val av v1.2.2.2.2.2.2.2.2.2.1] 25)],[(160,⟨4,.bool,v1.2.2.2.2.2.2.2.2.2.2⟩)]⟩) (orc:=[]) (by kernel_rfl) .n (aN (aM (GX o (by kernel_rfl) (by kernel_rfl) (Nr o [0,1,2,3,10,11,12] [26,161,162,163] [160] (orc:=[]) (by kernel_rfl) .n (aN (aM (aZ ?_))))))))
 obtain⟨_,lj,h⟩:=bind_some h
 replace lj:=dH lj
 obtain⟨_,lk,h⟩:=bind_some h
 replace lk:=dH lk
 refine bK o [0,1,2,3,10,11,12,13] [26,37,161,162,163] [160] (orc:=[⟨.unit,()⟩]) (by kernel_rfl) (.c (show(List.replicate (ag ((List.length l1:Int)+(2:Int))).toNat (none:Option bS))=List.replicate (List.length (List.replicate (ag ((List.length l1:Int)+(2:Int))).toNat (none:Option bS))) ((none:Option bS))/\0<List.length (List.replicate (ag ((List.length l1:Int)+(2:Int))).toNat (none:Option bS))from Io (none:Option bS) lj) (.c lk .n)) (aN (aM (aM (aZ (dh o (orc:=[]) (by kernel_rfl) .n (aN (gt (nd (α:=(Int×List eS)) (fun n z=>re k l1 v1 q n z.1 z.2=some R) (fun z=>⟨[(0,.ptr 161 0),(1,.val bq l1),(2,.ck 128 161),(3,a8 q),(10,.clos 163 [26]),(11,ay (List.length l1:Int)),(12,ay (List.length v1.2.1:Int)),(13,.osl 37),(39,ay (List.length (List.map some (List.replicate (ag ((List.length l1:Int)+(2:Int))).toNat (none:Option bS))):Int)),(40,ay (z.1))],[(26,.cells [.row 160] 78),(37,.ba 146 (.mp .str .bool) (z.2)),(161,.cells [bo v1.1,.val av v1.2.1,.val bt v1.2.2.1,.val aw v1.2.2.2.1,.val aw v1.2.2.2.2.1,bZ v1.2.2.2.2.2.1,a8 v1.2.2.2.2.2.2.1,.iter 162,.clos 161 [163]] 280),(162,.mp bp bu v1.2.2.2.2.2.2.2.1),(163,.cells [.val (.ab .str) v1.2.2.2.2.2.2.2.2.1,.val av v1.2.2.2.2.2.2.2.2.2.1] 25)],[(160,⟨4,.bool,v1.2.2.2.2.2.2.2.2.2.2⟩)]⟩) ?_ (k:=k) (x:=((0:Int),List.map some (List.replicate (ag ((List.length l1:Int)+(2:Int))).toNat (none:Option bS)))) h))))))))
 clear h
 rintro ll ⟨t11,lf⟩ h
 cases ll with
 |zero=>exact absurd (show none=some _ from h) (by simp)
 |succ ll=>
  have h:wY k l1 v1 q (re k l1 v1 q ll) t11 lf=some R:=h
  unfold wY at h
  refine aM (aZ (bK o [0,1,2,3,10,11,12,13,39,40,41] [26,37,161,162,163] [160] (orc:=[]) (by kernel_rfl) .n (aN (aM (dI (b:=decide (t11<(List.length (List.map some (List.replicate (ag ((List.length l1:Int)+(2:Int))).toNat (none:Option bS))):Int))) (by kernel_rfl) (fun lm=>?_) (fun lm=>?_))))))
  ·replace h:=eO lm h
   refine dV (aN (aM (gt (aM (aZ (bK o [0,1,2,3,10,11,12,13,14,39,40] [26,37,161,162,163] [160] (orc:=[]) (by kernel_rfl) .n (aN (aZ ?_))))))))
   obtain⟨_,ln,h⟩:=bind_some h
   replace ln:=dH ln
   obtain⟨_,lo,h⟩:=bind_some h
   replace lo:=dH lo
   exact bK o [0,1,2,3,10,11,12,13,39,40] [26,37,161,162,163] [160] (orc:=[]) (by kernel_rfl) (.c ln (.c lo .n)) (jS (aN (aZ (dh o (orc:=[]) (by kernel_rfl) .n (ka (ag (t11+(1:Int)),List.set lf (t11).toNat (some (some ([]:List bD)))) (Nat.lt_succ_self _) h)))))
  ·replace h:=eV lm h
   refine mC (gO (gO (mF (aN (aM (aZ ?_))))))
   obtain⟨_,lp,h⟩:=bind_some h
   replace lp:=dH lp
   obtain⟨af,lq,h⟩:=bind_some h
   replace lq:=kx lq
   obtain⟨lr,ls,h⟩:=bind_some h
   replace ls:=ru ls
   refine dh o (st':=⟨[(0,.ptr 161 0),(1,.val bq l1),(2,.ck 128 161),(3,a8 q),(10,.clos 163 [26]),(11,ay (List.length l1:Int)),(12,ay (List.length v1.2.1:Int)),(13,.osl 37)],[(26,.cells [.row 160] 78),(37,.ba 146 (.mp .str .bool) (List.set lf ((0:Int)).toNat (some (some (cn (aR .str) lr ([]:List UInt8) true))))),(161,.cells [bo v1.1,.val av v1.2.1,.val bt v1.2.2.1,.val aw v1.2.2.2.1,.val aw v1.2.2.2.2.1,bZ v1.2.2.2.2.2.1,a8 v1.2.2.2.2.2.2.1,.iter 162,.clos 161 [163]] 280),(162,.mp bp bu v1.2.2.2.2.2.2.2.1),(163,.cells [.val (.ab .str) v1.2.2.2.2.2.2.2.2.1,.val av v1.2.2.2.2.2.2.2.2.2.1] 25)],[(160,⟨4,.bool,v1.2.2.2.2.2.2.2.2.2.2⟩)]⟩) (orc:=[⟨.map .str .bool,af⟩,⟨.map .str .bool,some lr⟩]) (by kernel_rfl) (.c lp (.c lq (.c ls .n))) (aN (aM (aM (aZ (dh o (orc:=[]) (by kernel_rfl) .n (aN (gt (nd (α:=(Int×List eS×List UInt8×List ax×List bP×List aI×List aI×Int×Bool×List ca×List (List UInt8)×List ax×List (Bool))) (fun n z=>iC k l1 v1 q n z.1 z.2.1 z.2.2.1 z.2.2.2.1 z.2.2.2.2.1 z.2.2.2.2.2.1 z.2.2.2.2.2.2.1 z.2.2.2.2.2.2.2.1 z.2.2.2.2.2.2.2.2.1 z.2.2.2.2.2.2.2.2.2.1 z.2.2.2.2.2.2.2.2.2.2.1 z.2.2.2.2.2.2.2.2.2.2.2.1 z.2.2.2.2.2.2.2.2.2.2.2.2=some R) (fun z=>⟨[(0,.ptr 161 0),(1,.val bq l1),(2,.ck 128 161),(3,a8 q),(10,.clos 163 [26]),(11,ay (List.length l1:Int)),(12,ay (List.length v1.2.1:Int)),(13,.osl 37),(52,ay (ag ((List.length l1:Int)+(1:Int)))),(53,ay (z.1))],[(26,.cells [.row 160] 78),(37,.ba 146 (.mp .str .bool) (z.2.1)),(161,.cells [bo (z.2.2.1),.val av (z.2.2.2.1),.val bt (z.2.2.2.2.1),.val aw (z.2.2.2.2.2.1),.val aw (z.2.2.2.2.2.2.1),bZ (z.2.2.2.2.2.2.2.1),a8 (z.2.2.2.2.2.2.2.2.1),.iter 162,.clos 161 [163]] 280),(162,.mp bp bu (z.2.2.2.2.2.2.2.2.2.1)),(163,.cells [.val (.ab .str) (z.2.2.2.2.2.2.2.2.2.2.1),.val av (z.2.2.2.2.2.2.2.2.2.2.2.1)] 25)],[(160,⟨4,.bool,(z.2.2.2.2.2.2.2.2.2.2.2.2)⟩)]⟩) ?_ (k:=k) (x:=((0:Int),List.set lf ((0:Int)).toNat (some (some (cn (aR .str) lr ([]:List UInt8) true))),v1.1,v1.2.1,v1.2.2.1,v1.2.2.2.1,v1.2.2.2.2.1,v1.2.2.2.2.2.1,v1.2.2.2.2.2.2.1,v1.2.2.2.2.2.2.2.1,v1.2.2.2.2.2.2.2.2.1,v1.2.2.2.2.2.2.2.2.2.1,v1.2.2.2.2.2.2.2.2.2.2)) h))))))))
   clear h
   rintro W ⟨t12,lZ,t13,t14,t15,t16,t17,t18,t19,m3,t20,t21,t22⟩ h
   cases W with
   |zero=>exact absurd (show none=some _ from h) (by simp)
   |succ W=>
    have h:xT k l1 v1 q (iC k l1 v1 q W) t12 lZ t13 t14 t15 t16 t17 t18 t19 m3 t20 t21 t22=some R:=h
    unfold xT at h
    refine aM (aZ (bK o [0,1,2,3,10,11,12,13,52,53,54] [26,37,161,162,163] [160] (orc:=[]) (by kernel_rfl) .n (aN (aM (dI (b:=decide (t12<(ag ((List.length l1:Int)+(1:Int))))) (by kernel_rfl) (fun lt=>?_) (fun lt=>?_))))))
    ·replace h:=eO lt h
     refine dV (aN (aM (gt (aM (aZ (bK o [0,1,2,3,10,11,12,13,15,52,53] [26,37,161,162,163] [160] (orc:=[]) (by kernel_rfl) .n (aN (aM (aM (aZ ?_))))))))))
     obtain⟨_,lu,h⟩:=bind_some h
     replace lu:=dH lu
     obtain⟨lb,lc,h⟩:=bind_some h
     replace lc:=kx lc
     refine bK o [0,1,2,3,10,11,12,13,15,52,53,61] [26,37,161,162,163] [160] (orc:=[⟨.map .str .bool,lb⟩,⟨.map .str .bool,lb⟩]) (by kernel_rfl) (.c lu (.c lc (.c lc .n))) (aN (dI (b:=decide ((1024:Int)<(List.length (Option.getD lb []):Int))) (by kernel_rfl) (fun lv=>?_) (fun lv=>?_)))
     ·replace h:=eO lv h
      refine aM (aZ (dh o (st':=⟨[(0,.ptr 161 0),(2,.ck 128 161),(8,.row 8),(9,ay (9:Int))],[(161,.cells [bo t13,.val av t14,.val bt t15,.val aw t16,.val aw t17,bZ t18,a8 t19,.iter 162,.clos 161 [163]] 280),(162,.mp bp bu m3),(163,.cells [.val (.ab .str) t20,.val av t21] 25)],[(8,⟨9,.str,([]:List (List UInt8))⟩)]⟩) (orc:=[]) (by kernel_rfl) .n (aN (ft (dX (gK (dX (dX (gK (dX ?_))))))))))
      replace h:=Option.some.inj h
      subst h
      exact gW [0,2,8,9] [161,162,163] [8] [(161,161),(162,162),(163,163),(8,3500001)] (by kernel_rfl) (fN o.P [161,162,163] [3500001] (.inl rfl) (by kernel_rfl) (by kernel_rfl))
     ·replace h:=eV lv h
      refine dV (aN (aM (aZ ?_)))
      obtain⟨_,lw,h⟩:=bind_some h
      replace lw:=dH lw
      refine dh o (orc:=[⟨.unit,()⟩,⟨.map .str .bool,lb⟩]) (by kernel_rfl) (.c lw (.c lc .n)) (aN (gt (nd (α:=(List eS×List bD×List bD)) (fun n z=>gx k (iC k l1 v1 q W) t12 t13 t14 t15 t16 t17 t18 t19 m3 t20 t21 t22 l1 v1 q n z.1 z.2.1 z.2.2=some R) (fun z=>⟨[(0,.ptr 161 0),(1,.val bq l1),(2,.ck 128 161),(3,a8 q),(10,.clos 163 [26]),(11,ay (List.length l1:Int)),(12,ay (List.length v1.2.1:Int)),(13,.osl 37),(15,ay t12),(52,ay (ag ((List.length l1:Int)+(1:Int)))),(53,ay t12),(66,.iter 66)],[(26,.cells [.row 160] 78),(37,.ba 146 (.mp .str .bool) (z.1)),(66,.cM .str .bool (z.2.1) (z.2.2)),(161,.cells [bo t13,.val av t14,.val bt t15,.val aw t16,.val aw t17,bZ t18,a8 t19,.iter 162,.clos 161 [163]] 280),(162,.mp bp bu m3),(163,.cells [.val (.ab .str) t20,.val av t21] 25)],[(160,⟨4,.bool,t22⟩)]⟩) ?_ (k:=k) (x:=(List.set lZ (t12).toNat none,lb.getD [],([]:List bD))) h)))
      clear h
      rintro Y ⟨U,lg,lh⟩ h
      cases Y with
      |zero=>exact absurd (show none=some _ from h) (by simp)
      |succ Y=>
       have h:tK k (iC k l1 v1 q W) t12 t13 t14 t15 t16 t17 t18 t19 m3 t20 t21 t22 l1 v1 q (gx k (iC k l1 v1 q W) t12 t13 t14 t15 t16 t17 t18 t19 m3 t20 t21 t22 l1 v1 q Y) U lg lh=some R:=h
       unfold tK at h
       refine aM (aZ ?_)
       rcases wG h with ⟨lx,h⟩|⟨O,lx,h⟩
       ·exact wZ o (d:=67) (b:=66) (k:=.str) (v:=.bool) (left:=lg) (last:=lh) (by kernel_rfl) (by kernel_rfl) lx (st':=⟨[(0,.ptr 161 0),(1,.val bq l1),(2,.ck 128 161),(3,a8 q),(10,.clos 163 [26]),(11,ay (List.length l1:Int)),(12,ay (List.length v1.2.1:Int)),(13,.osl 37),(15,ay t12),(52,ay (ag ((List.length l1:Int)+(1:Int)))),(53,ay t12),(66,.iter 66),(67,.dW [im false])],[(26,.cells [.row 160] 78),(37,.ba 146 (.mp .str .bool) U),(66,.cM .str .bool lg lh),(161,.cells [bo t13,.val av t14,.val bt t15,.val aw t16,.val aw t17,bZ t18,a8 t19,.iter 162,.clos 161 [163]] 280),(162,.mp bp bu m3),(163,.cells [.val (.ab .str) t20,.val av t21] 25)],[(160,⟨4,.bool,t22⟩)]⟩) (by kernel_rfl) (bK o [0,1,2,3,10,11,12,13,15,52,53,66,68] [26,37,66,161,162,163] [160] (orc:=[]) (by kernel_rfl) .n (aN (aM (vQ (by kernel_rfl) (mC (gO (gO (mF (jS (aN (aZ (dh o (orc:=[]) (by kernel_rfl) .n (ka (ag (t12+(1:Int)),U,t13,t14,t15,t16,t17,t18,t19,m3,t20,t21,t22) (Nat.lt_succ_self _) h)))))))))))))
       ·refine zO o (d:=67) (b:=66) (k:=.str) (v:=.bool) (left:=lg) (last:=lh) (p:=O) (by kernel_rfl) (by kernel_rfl) lx (st':=⟨[(0,.ptr 161 0),(1,.val bq l1),(2,.ck 128 161),(3,a8 q),(10,.clos 163 [26]),(11,ay (List.length l1:Int)),(12,ay (List.length v1.2.1:Int)),(13,.osl 37),(15,ay t12),(52,ay (ag ((List.length l1:Int)+(1:Int)))),(53,ay t12),(66,.iter 66),(67,.dW [im true,yP O.1,im O.2])],[(26,.cells [.row 160] 78),(37,.ba 146 (.mp .str .bool) U),(66,.cM .str .bool ([]:List bD) [O]),(161,.cells [bo t13,.val av t14,.val bt t15,.val aw t16,.val aw t17,bZ t18,a8 t19,.iter 162,.clos 161 [163]] 280),(162,.mp bp bu m3),(163,.cells [.val (.ab .str) t20,.val av t21] 25)],[(160,⟨4,.bool,t22⟩)]⟩) (by kernel_rfl) (bK o [0,1,2,3,10,11,12,13,15,52,53,66,68] [26,37,66,161,162,163] [160] (orc:=[]) (by kernel_rfl) .n (aN (aM (vz (by kernel_rfl) (dV (aN (gt (aM (aZ (bK o [0,1,2,3,10,11,12,13,15,16,52,53,66] [26,37,66,161,162,163] [160] (orc:=[]) (by kernel_rfl) .n (aN (aM (aM (aZ ?_))))))))))))))
        obtain⟨v2,ah,h⟩:=bind_some h
        refine dh o (st':=⟨[(0,.ptr 161 0),(1,.val bq l1),(2,.ck 128 161),(3,a8 q),(10,.clos 163 [26]),(11,ay (List.length l1:Int)),(12,ay (List.length v1.2.1:Int)),(13,.osl 37),(15,ay t12),(16,bo O.1),(52,ay (ag ((List.length l1:Int)+(1:Int)))),(53,ay t12),(66,.iter 66),(77,a8 (decide ((256:Int)<(ag ((ag (v2+(List.length l1:Int)))-t12)))))],[(26,.cells [.row 160] 78),(37,.ba 146 (.mp .str .bool) U),(66,.cM .str .bool ([]:List bD) [O]),(161,.cells [bo t13,.val av t14,.val bt t15,.val aw t16,.val aw t17,bZ t18,a8 t19,.iter 162,.clos 161 [163]] 280),(162,.mp bp bu m3),(163,.cells [.val (.ab .str) t20,.val av t21] 25)],[(160,⟨4,.bool,t22⟩)]⟩) (orc:=[mW v2]) (by kernel_rfl) (.c ah .n) (aN (dI (b:=decide ((256:Int)<(ag ((ag (v2+(List.length l1:Int)))-t12)))) (by kernel_rfl) (fun ly=>?_) (fun ly=>?_)))
        ·replace h:=eO ly h
         refine aM (aZ (bK o [0,2,8,9] [161,162,163] [8] (orc:=[]) (by kernel_rfl) .n (aN (ft (dX (gK (dX (gK (gK (dX (dX (gK (dX ?_)))))))))))))
         replace h:=Option.some.inj h
         subst h
         exact gW [0,2,8,9] [161,162,163] [8] [(161,161),(162,162),(163,163),(8,3500001)] (by kernel_rfl) (fN o.P [161,162,163] [3500001] (.inl rfl) (by kernel_rfl) (by kernel_rfl))
        ·replace h:=eV ly h
         refine dV (aN (aM (aZ ?_)))
         obtain⟨v3,ai,h⟩:=bind_some h
         refine bK o [0,1,2,3,10,11,12,13,15,16,17,52,53,66] [26,37,66,161,162,163] [160] (orc:=[im v3]) (by kernel_rfl) (.c ai .n) (aN (my (α:=List eS) (fun z=>pj t12 l1 O (gx k (iC k l1 v1 q W) t12 t13 t14 t15 t16 t17 t18 t19 m3 t20 t21 t22 l1 v1 q Y) v3 q z=some R) (fun Z=>⟨[(0,.ptr 161 0),(1,.val bq l1),(2,.ck 128 161),(3,a8 q),(10,.clos 163 [26]),(11,ay (List.length l1:Int)),(12,ay (List.length v1.2.1:Int)),(13,.osl 37),(15,ay t12),(16,bo O.1),(17,a8 v3),(52,ay (ag ((List.length l1:Int)+(1:Int)))),(53,ay t12),(66,.iter 66)],[(26,.cells [.row 160] 78),(37,.ba 146 (.mp .str .bool) Z),(66,.cM .str .bool ([]:List bD) [O]),(161,.cells [bo t13,.val av t14,.val bt t15,.val aw t16,.val aw t17,bZ t18,a8 t19,.iter 162,.clos 161 [163]] 280),(162,.mp bp bu m3),(163,.cells [.val (.ab .str) t20,.val av t21] 25)],[(160,⟨4,.bool,t22⟩)]⟩) ?_ (fun ld=>?_)))
         ·rintro Z h
          unfold pj at h
          refine aM (aZ (jK o 3 [0,1,2,3,10,11,12,13,15,16,52,53,66,118] [26,37,66,161,162,163] [160] (orc:=[]) (by kernel_rfl) .n (Ed (α:=Bool) (fun z=>tO t12 l1 O Z (gx k (iC k l1 v1 q W) t12 t13 t14 t15 t16 t17 t18 t19 m3 t20 t21 t22 l1 v1 q Y) z=some R) (fun t23=>⟨[(0,.ptr 161 0),(1,.val bq l1),(2,.ck 128 161),(3,a8 q),(10,.clos 163 [26]),(11,ay (List.length l1:Int)),(12,ay (List.length v1.2.1:Int)),(13,.osl 37),(15,ay t12),(16,bo O.1),(52,ay (ag ((List.length l1:Int)+(1:Int)))),(53,ay t12),(66,.iter 66),(120,a8 t23)],[(26,.cells [.row 160] 78),(37,.ba 146 (.mp .str .bool) Z),(66,.cM .str .bool ([]:List bD) [O]),(161,.cells [bo t13,.val av t14,.val bt t15,.val aw t16,.val aw t17,bZ t18,a8 t19,.iter 162,.clos 161 [163]] 280),(162,.mp bp bu m3),(163,.cells [.val (.ab .str) t20,.val av t21] 25)],[(160,⟨4,.bool,t22⟩)]⟩) 2 ?_ (fun l0=>?_))))
          ·rintro t23 h
           unfold tO at h
           refine kN (aN (dI (b:=t23) (by kernel_rfl) (fun lz=>?_) (fun lz=>?_)))
           ·replace h:=eO lz h
            refine aM (aZ (bK o [0,1,2,3,10,11,12,13,15,20,52,53,66] [26,37,66,161,162,163] [160] (orc:=[]) (by kernel_rfl) .n (aN (my (α:=List UInt8) (fun z=>pY t12 Z (gx k (iC k l1 v1 q W) t12 t13 t14 t15 t16 t17 t18 t19 m3 t20 t21 t22 l1 v1 q Y) O z=some R) (fun lA=>⟨[(0,.ptr 161 0),(1,.val bq l1),(2,.ck 128 161),(3,a8 q),(10,.clos 163 [26]),(11,ay (List.length l1:Int)),(12,ay (List.length v1.2.1:Int)),(13,.osl 37),(15,ay t12),(20,bo lA),(52,ay (ag ((List.length l1:Int)+(1:Int)))),(53,ay t12),(66,.iter 66)],[(26,.cells [.row 160] 78),(37,.ba 146 (.mp .str .bool) Z),(66,.cM .str .bool ([]:List bD) [O]),(161,.cells [bo t13,.val av t14,.val bt t15,.val aw t16,.val aw t17,bZ t18,a8 t19,.iter 162,.clos 161 [163]] 280),(162,.mp bp bu m3),(163,.cells [.val (.ab .str) t20,.val av t21] 25)],[(160,⟨4,.bool,t22⟩)]⟩) ?_ (fun ld=>?_)))))
            ·rintro lA h
             unfold pY at h
             refine aZ ?_
             obtain⟨_,lB,h⟩:=bind_some h
             replace lB:=dH lB
             obtain⟨aj,lC,h⟩:=bind_some h
             replace lC:=kx lC
             obtain⟨l3,lD,h⟩:=bind_some h
             replace lD:=ru lD
             exact dh o (orc:=[⟨.map .str .bool,aj⟩,⟨.map .str .bool,some l3⟩]) (by kernel_rfl) (.c lB (.c lC (.c lD .n))) (jS (ka (List.set Z (ag (t12+(1:Int))).toNat (some (some (cn (aR .str) l3 lA true))),([]:List bD),[O]) (Nat.lt_succ_self _) h))
            refine aM (aZ (bK o [0,1,2,3,10,11,12,13,15,20,52,53,66,124] [26,37,66,161,162,163] [160] (orc:=[]) (by kernel_rfl) .n (aN (dI (b:=decide (t12<(List.length l1:Int))) (by kernel_rfl) (fun lE=>?_) (fun lE=>?_)))))
            ·replace h:=eO lE h
             refine aZ ?_
             obtain⟨l4,ak,h⟩:=bind_some h
             obtain⟨_,lF,h⟩:=bind_some h
             replace lF:=dH lF
             exact dh o (orc:=[yy l4]) (by kernel_rfl) (.c ak (.c lF .n)) (ld (O.1++((Utf8.encode l4).data.toList)) h)
            ·replace h:=eV lE h
             exact dV (kF (by kernel_rfl) (ld O.1 h))
           ·replace h:=eV lz h
            exact dV (jS (kF (by kernel_rfl) (ka (Z,([]:List bD),[O]) (Nat.lt_succ_self _) h)))
          refine IV 118 (b:=!v3) (by kernel_rfl) (fun lG=>?_) (fun lG=>?_)
          ·rw[Ph lG]at h
           exact dh o (orc:=[]) (by kernel_rfl) .n (l0 true h)
          ·rw[MR lG]at h
           exact dh o (orc:=[]) (by kernel_rfl) .n (l0 q h)
         refine aM (aZ (bK o [0,1,2,3,10,11,12,13,15,16,17,52,53,66,82] [26,37,66,161,162,163] [160] (orc:=[]) (by kernel_rfl) .n (aN (dI (b:=v3) (by kernel_rfl) (fun lH=>?_) (fun lH=>?_)))))
         ·replace h:=eO lH h
          refine aM (aZ ?_)
          obtain⟨l5,al,h⟩:=bind_some h
          refine jK o 8 [0,1,2,3,10,11,12,13,15,16,17,52,53,66,83,84,90] [26,37,66,161,162,163] [160] (orc:=[⟨bq,l5⟩]) (by kernel_rfl) (.c al .n) ?_
          obtain⟨v4,an,h⟩:=bind_some h
          refine wh o (DA k) (l5,t13,t14,t15,t16,t17,t18,t19,m3,t20,t21) v4 an (ρ:=[(161,42),(162,43),(163,44)]) (ρ':=[(42,161),(43,162),(44,163),(5,91)]) (n:=42) (by kernel_rfl) [0,1,2,3,10,11,12,13,15,16,17,52,53,66,83,91] [26,37,66,161,162,163] [91,160] (by kernel_rfl) (by kernel_rfl) (st':=⟨[(0,.ptr 161 0),(1,.val bq l1),(2,.ck 128 161),(3,a8 q),(10,.clos 163 [26]),(11,ay (List.length l1:Int)),(12,ay (List.length v1.2.1:Int)),(13,.osl 37),(15,ay t12),(16,bo O.1),(17,a8 v3),(52,ay (ag ((List.length l1:Int)+(1:Int)))),(53,ay t12),(66,.iter 66),(83,bo O.1),(91,.row 91)],[(26,.cells [.row 160] 78),(37,.ba 146 (.mp .str .bool) U),(66,.cM .str .bool ([]:List bD) [O]),(161,.cells [bo t13,.val av t14,.val bt t15,.val aw t16,.val aw t17,bZ t18,a8 t19,.iter 162,.clos 161 [163]] 280),(162,.mp bp bu m3),(163,.cells [.val (.ab .str) t20,.val av t21] 25)],[(91,⟨21,(.int .i32),v4⟩),(160,⟨4,.bool,t22⟩)]⟩) (by kernel_rfl) ?_
          obtain⟨_,lI,h⟩:=bind_some h
          replace lI:=dH lI
          obtain⟨_,lJ,h⟩:=bind_some h
          replace lJ:=dH lJ
          refine bK o [0,1,2,3,10,11,12,13,15,16,17,18,52,53,66] [26,37,66,161,162,163] [160] (orc:=[]) (by kernel_rfl) (.c lI (.c lJ .n)) (aN (aM (aZ (bK o [0,1,2,3,10,11,12,13,15,16,17,18,19,52,53,66] [26,37,66,161,162,163] [160] (orc:=[]) (by kernel_rfl) .n (aN (my (α:=bh) (fun z=>qQ U t12 l1 O (gx k (iC k l1 v1 q W) t12 t13 t14 t15 t16 t17 t18 t19 m3 t20 t21 t22 l1 v1 q Y) v3 q z.1 z.2=some R) (fun z=>⟨[(0,.ptr 161 0),(1,.val bq l1),(2,.ck 128 161),(3,a8 q),(10,.clos 163 [26]),(11,ay (List.length l1:Int)),(12,ay (List.length v1.2.1:Int)),(13,.osl 37),(15,ay t12),(16,bo O.1),(17,a8 v3),(18,bo (z.1)),(19,ay (z.2)),(52,ay (ag ((List.length l1:Int)+(1:Int)))),(53,ay t12),(66,.iter 66)],[(26,.cells [.row 160] 78),(37,.ba 146 (.mp .str .bool) U),(66,.cM .str .bool ([]:List bD) [O]),(161,.cells [bo t13,.val av t14,.val bt t15,.val aw t16,.val aw t17,bZ t18,a8 t19,.iter 162,.clos 161 [163]] 280),(162,.mp bp bu m3),(163,.cells [.val (.ab .str) t20,.val av t21] 25)],[(160,⟨4,.bool,t22⟩)]⟩) ?_ (fun l6=>?_)))))))
          ·rintro⟨ao,ap⟩ h
           unfold qQ at h
           refine aZ ?_
           obtain⟨_,lK,h⟩:=bind_some h
           replace lK:=dH lK
           obtain⟨aq,lL,h⟩:=bind_some h
           replace lL:=kx lL
           obtain⟨l7,lM,h⟩:=bind_some h
           replace lM:=ru lM
           exact dh o (orc:=[⟨.map .str .bool,aq⟩,⟨.map .str .bool,some l7⟩]) (by kernel_rfl) (.c lK (.c lL (.c lM .n))) (ld (List.set U (ap).toNat (some (some (cn (aR .str) l7 ao true)))) h)
          refine aM (aZ (bK o [0,1,2,3,10,11,12,13,15,16,17,18,19,52,53,66,98] [26,37,66,161,162,163] [160] (orc:=[]) (by kernel_rfl) .n (aN (dI (b:=(List.length v1.2.1:Int)==(0:Int)) (by kernel_rfl) (fun lN=>?_) (fun lN=>?_)))))
          ·replace h:=eO lN h
           refine my (α:=List UInt8) (fun z=>pL U t12 l1 O (gx k (iC k l1 v1 q W) t12 t13 t14 t15 t16 t17 t18 t19 m3 t20 t21 t22 l1 v1 q Y) v3 q v1 z=some R) (fun lO=>⟨[(0,.ptr 161 0),(1,.val bq l1),(2,.ck 128 161),(3,a8 q),(10,.clos 163 [26]),(11,ay (List.length l1:Int)),(12,ay (List.length v1.2.1:Int)),(13,.osl 37),(15,ay t12),(16,bo O.1),(17,a8 v3),(18,bo lO),(19,ay (ag (t12+(List.length v1.2.1:Int)))),(52,ay (ag ((List.length l1:Int)+(1:Int)))),(53,ay t12),(66,.iter 66)],[(26,.cells [.row 160] 78),(37,.ba 146 (.mp .str .bool) U),(66,.cM .str .bool ([]:List bD) [O]),(161,.cells [bo t13,.val av t14,.val bt t15,.val aw t16,.val aw t17,bZ t18,a8 t19,.iter 162,.clos 161 [163]] 280),(162,.mp bp bu m3),(163,.cells [.val (.ab .str) t20,.val av t21] 25)],[(160,⟨4,.bool,t22⟩)]⟩) ?_ (fun l8=>?_)
           ·rintro lO h
            unfold pL at h
            exact aZ (dh o (orc:=[]) (by kernel_rfl) .n (l6 (lO,ag ((ag (t12+(List.length v1.2.1:Int)))+(1:Int))) h))
           refine aM (aZ (bK o [0,1,2,3,10,11,12,13,15,16,17,18,19,52,53,66,101] [26,37,66,161,162,163] [160] (orc:=[]) (by kernel_rfl) .n (aN (dI (b:=decide (t12<(List.length l1:Int))) (by kernel_rfl) (fun lP=>?_) (fun lP=>?_)))))
           ·replace h:=eO lP h
            refine aZ ?_
            obtain⟨l9,ar,h⟩:=bind_some h
            obtain⟨_,lQ,h⟩:=bind_some h
            replace lQ:=dH lQ
            exact dh o (orc:=[yy l9]) (by kernel_rfl) (.c ar (.c lQ .n)) (l8 ((O.1++(cz v4))++((Utf8.encode l9).data.toList)) h)
           ·replace h:=eV lP h
            exact dV (kF (by kernel_rfl) (l8 (O.1++(cz v4)) h))
          ·replace h:=eV lN h
           exact dV (kF (by kernel_rfl) (l6 (O.1++(cz v4),ag (t12+(List.length v1.2.1:Int))) h))
         ·replace h:=eV lH h
          exact dV (kF (by kernel_rfl) (ld U h))
    ·replace h:=eV lt h
     refine mC (gO (gO (mF (aN (aM (aZ ?_))))))
     obtain⟨_,lR,h⟩:=bind_some h
     replace lR:=dH lR
     obtain⟨lS,lT,h⟩:=bind_some h
     replace lT:=kx lT
     refine bK o [0,2,21] [161,162,163] [] (orc:=[⟨.unit,()⟩,⟨.map .str .bool,lS⟩]) (by kernel_rfl) (.c lR (.c lT .n)) (aN (aM (aM (aZ (bK o [0,2,21,146] [161,162,163] [] (orc:=[]) (by kernel_rfl) .n (aN (dI (b:=decide ((1024:Int)<(List.length (lS.getD []):Int))) (by kernel_rfl) (fun lU=>?_) (fun lU=>?_))))))))
     ·replace h:=eO lU h
      refine aM (aZ (dh o (st':=⟨[(0,.ptr 161 0),(2,.ck 128 161),(8,.row 8),(9,ay (9:Int))],[(161,.cells [bo t13,.val av t14,.val bt t15,.val aw t16,.val aw t17,bZ t18,a8 t19,.iter 162,.clos 161 [163]] 280),(162,.mp bp bu m3),(163,.cells [.val (.ab .str) t20,.val av t21] 25)],[(8,⟨9,.str,([]:List (List UInt8))⟩)]⟩) (orc:=[]) (by kernel_rfl) .n (aN (ft (dX ?_)))))
      replace h:=Option.some.inj h
      subst h
      exact gW [0,2,8,9] [161,162,163] [8] [(161,161),(162,162),(163,163),(8,3500001)] (by kernel_rfl) (fN o.P [161,162,163] [3500001] (.inl rfl) (by kernel_rfl) (by kernel_rfl))
     ·replace h:=eV lU h
      refine dV (aN (aM (aZ (bK o [0,2,21,22] [161,162,163] [22] (orc:=[]) (by kernel_rfl) .n (aN (aM (aM (aZ (dh o (orc:=[]) (by kernel_rfl) .n (aN (gt (nd (α:=(List bD×List bD×List (List UInt8))) (fun n z=>o0 k t13 t14 t15 t16 t17 t18 t19 m3 t20 t21 n z.1 z.2.1 z.2.2=some R) (fun z=>⟨[(0,.ptr 161 0),(2,.ck 128 161),(22,.row 22),(148,.iter 148)],[(148,.cM .str .bool (z.1) (z.2.1)),(161,.cells [bo t13,.val av t14,.val bt t15,.val aw t16,.val aw t17,bZ t18,a8 t19,.iter 162,.clos 161 [163]] 280),(162,.mp bp bu m3),(163,.cells [.val (.ab .str) t20,.val av t21] 25)],[(22,⟨9,.str,(z.2.2)⟩)]⟩) ?_ (k:=k) (x:=(lS.getD [],([]:List bD),([]:List (List UInt8)))) h))))))))))))
      clear h
      rintro lV ⟨li,ik,le⟩ h
      cases lV with
      |zero=>exact absurd (show none=some _ from h) (by simp)
      |succ lV=>
       have h:ui k t13 t14 t15 t16 t17 t18 t19 m3 t20 t21 (o0 k t13 t14 t15 t16 t17 t18 t19 m3 t20 t21 lV) li ik le=some R:=h
       unfold ui at h
       refine aM (aZ ?_)
       rcases wG h with ⟨lW,h⟩|⟨la,lW,h⟩
       ·refine wZ o (d:=149) (b:=148) (k:=.str) (v:=.bool) (left:=li) (last:=ik) (by kernel_rfl) (by kernel_rfl) lW (st':=⟨[(0,.ptr 161 0),(2,.ck 128 161),(22,.row 22),(148,.iter 148),(149,.dW [im false])],[(148,.cM .str .bool li ik),(161,.cells [bo t13,.val av t14,.val bt t15,.val aw t16,.val aw t17,bZ t18,a8 t19,.iter 162,.clos 161 [163]] 280),(162,.mp bp bu m3),(163,.cells [.val (.ab .str) t20,.val av t21] 25)],[(22,⟨9,.str,le⟩)]⟩) (by kernel_rfl) (bK o [0,2,22,148,150] [148,161,162,163] [22] (orc:=[]) (by kernel_rfl) .n (aN (aM (vQ (by kernel_rfl) (mC (gO (gO (mF (aN (aM (aZ (bK o [0,2,8,9] [161,162,163] [22] (orc:=[]) (by kernel_rfl) .n (aN (ft ?_))))))))))))))
        replace h:=Option.some.inj h
        subst h
        exact gW [0,2,8,9] [161,162,163] [22] [(161,161),(162,162),(163,163),(22,3500001)] (by kernel_rfl) (fN o.P [161,162,163] [3500001] (.inl rfl) (by kernel_rfl) (by kernel_rfl))
       ·refine zO o (d:=149) (b:=148) (k:=.str) (v:=.bool) (left:=li) (last:=ik) (p:=la) (by kernel_rfl) (by kernel_rfl) lW (st':=⟨[(0,.ptr 161 0),(2,.ck 128 161),(22,.row 22),(148,.iter 148),(149,.dW [im true,yP la.1,im la.2])],[(148,.cM .str .bool ([]:List bD) [la]),(161,.cells [bo t13,.val av t14,.val bt t15,.val aw t16,.val aw t17,bZ t18,a8 t19,.iter 162,.clos 161 [163]] 280),(162,.mp bp bu m3),(163,.cells [.val (.ab .str) t20,.val av t21] 25)],[(22,⟨9,.str,le⟩)]⟩) (by kernel_rfl) (bK o [0,2,22,148,150] [148,161,162,163] [22] (orc:=[]) (by kernel_rfl) .n (aN (aM (vz (by kernel_rfl) (dV (aN (gt (aM (aZ (dh o (st':=⟨[(0,.ptr 161 0),(2,.ck 128 161),(22,.row 22),(23,bo la.1),(148,.iter 148)],[(148,.cM .str .bool ([]:List bD) [la]),(161,.cells [bo t13,.val av t14,.val bt t15,.val aw t16,.val aw t17,bZ t18,a8 t19,.iter 162,.clos 161 [163]] 280),(162,.mp bp bu m3),(163,.cells [.val (.ab .str) t20,.val av t21] 25)],[(22,⟨9,.str,le⟩)]⟩) (orc:=[]) (by kernel_rfl) .n (aN (aM (aM (aZ ?_))))))))))))))
        obtain⟨v5,au,h⟩:=bind_some h
        refine bK o [0,2,22,23,148,155] [148,161,162,163] [22] (orc:=[mW v5]) (by kernel_rfl) (.c au .n) (aN (dI (b:=decide ((256:Int)<v5)) (by kernel_rfl) (fun lX=>?_) (fun lX=>?_)))
        ·replace h:=eO lX h
         refine aM (aZ (bK o [0,2,8,9] [161,162,163] [8] (orc:=[]) (by kernel_rfl) .n (aN (ft (dX (gK (dX (gK (dX ?_)))))))))
         replace h:=Option.some.inj h
         subst h
         exact gW [0,2,8,9] [161,162,163] [8] [(161,161),(162,162),(163,163),(8,3500001)] (by kernel_rfl) (fN o.P [161,162,163] [3500001] (.inl rfl) (by kernel_rfl) (by kernel_rfl))
        ·replace h:=eV lX h
         refine dV (aN (aZ ?_))
         obtain⟨_,lY,h⟩:=bind_some h
         replace lY:=dH lY
         exact dh o (orc:=[]) (by kernel_rfl) (.c lY .n) (jS (ka (([]:List bD),[la],le++([la.1]:List (List UInt8))) (Nat.lt_succ_self _) h))
noncomputable def J4(k:Nat):cX Tryz.prog am xz ch:=⟨127,OM k,fun st=>bz st [.ab 1 bq,.ab 3 .bool,.ae 161 0 .str,.ae 161 1 av,.ae 161 2 bt,.ae 161 3 aw,.ae 161 4 aw,.ae 161 5 (.int .u8),.ae 161 6 .bool,.mp 162 bp bu,.ae 163 0 (.ab .str),.ae 163 1 av],fun z=>nj k (z.1) (z.2.1) (z.2.2.1) (z.2.2.2.1) (z.2.2.2.2.1) (z.2.2.2.2.2.1) (z.2.2.2.2.2.2.1) (z.2.2.2.2.2.2.2.1) (z.2.2.2.2.2.2.2.2.1) (z.2.2.2.2.2.2.2.2.2.1) (z.2.2.2.2.2.2.2.2.2.2.1) (z.2.2.2.2.2.2.2.2.2.2.2),(ZT k),fun _ _ h=>h⟩
end Go.Ev
