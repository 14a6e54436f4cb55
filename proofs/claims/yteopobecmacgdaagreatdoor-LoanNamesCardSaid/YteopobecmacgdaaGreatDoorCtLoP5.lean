/- Contracts, by program. -/
import Derived.Test.YteopobecmacgdaaGreatDoorProg
import Derived.Test.YteopobecmacgdaaGreatDoorMM6
import Derived.Test.YteopobecmacgdaaGreatDoorMM9
import Derived.Test.YteopobecmacgdaaGreatDoorCtLoP1
import Derived.Test.YteopobecmacgdaaGreatDoorCtLoP4
import Derived.KernelRfl
import Derived.Test.YteopobecmacgdaaGreatDoorTyA
set_option linter.unusedSectionVars false
set_option linter.unusedVariables false
set_option linter.unusedSimpArgs false
namespace Go.Ev
open Go Go.Proofs
set_option linter.unusedVariables false
set_option maxRecDepth 100000
noncomputable def H3(k:Nat):bP qt bU where
 n:=161
 S:=fun z=>⟨[(0,.ptr 161 0),(1,.val bk (z.1)),(2,.bW 128 161),(3,aU (z.2.1))],[(161,.cells [bg (z.2.2.1),.val au (z.2.2.2.1),.val bj (z.2.2.2.2.1),.val av (z.2.2.2.2.2.1),.val av (z.2.2.2.2.2.2.1),bN (z.2.2.2.2.2.2.2.1),aU (z.2.2.2.2.2.2.2.2.1),.iter 162,.clos 161 [163]] 280),(162,.mp bi bl (z.2.2.2.2.2.2.2.2.2.1)),(163,.cells [.val (.ab .str) (z.2.2.2.2.2.2.2.2.2.2.1),.val au (z.2.2.2.2.2.2.2.2.2.2.2)] 25)],[]⟩
 bE:=fun z y=>⟨[],[(161,.cells [bg (y.2.1),.val au (y.2.2.1),.val bj (y.2.2.2.1),.val av (y.2.2.2.2.1),.val av (y.2.2.2.2.2.1),bN (y.2.2.2.2.2.2.1),aU (y.2.2.2.2.2.2.2.1),.iter 162,.clos 161 [163]] 280),(162,.mp bi bl (y.2.2.2.2.2.2.2.2.1)),(163,.cells [.val (.ab .str) (y.2.2.2.2.2.2.2.2.2.1),.val au (y.2.2.2.2.2.2.2.2.2.2.1)] 25)],[(3500001,⟨9,.str,(y.2.2.2.2.2.2.2.2.2.2.2)⟩)]⟩
 ap:=fun z y=>[.row 3500001,ax (y.1)]
 rel:=fun z y=>nM k (z.1) (z.2.1) (z.2.2.1) (z.2.2.2.1) (z.2.2.2.2.1) (z.2.2.2.2.2.1) (z.2.2.2.2.2.2.1) (z.2.2.2.2.2.2.2.1) (z.2.2.2.2.2.2.2.2.1) (z.2.2.2.2.2.2.2.2.2.1) (z.2.2.2.2.2.2.2.2.2.2.1) (z.2.2.2.2.2.2.2.2.2.2.2)=some y
noncomputable def Ko(k:Nat):Env:=b8 Tryz.prog am 161 [CH k,N1 k]
theorem Oo(k:Nat):bZ Tryz.prog am 127 (H3 k):=by
 refine mh (fn:=Tryz.f127) Tryz.func127 (by kernel_rfl) rfl Tryz.ntmps127 ?_
 rintro cx ag ah aj ⟨l1,q,lY,c2,c3,lZ,c5,l0,l3,m1,l4,l5⟩ O h
 have o:br (Ko k) cx:=gU ag ah aj
 replace h:nM k l1 q lY c2 c3 lZ c5 l0 l3 m1 l4 l5=some O:=h
 unfold nM at h
 refine aG (aT (bz o [0,1,2,3] [161,162,163] [] (orc:=[]) (by kernel_rfl) .n (aH (aG (aT (ig o 2 [0,1,2,3,24,25] [161,162,163] [] (orc:=[]) (by kernel_rfl) .n ?_))))))
 obtain⟨v1,ak,h⟩:=bind_some h
 refine nE o (EH k) (l1,lY,c2,c3,lZ,c5,l0,l3,m1,l4,l5) v1 ak (ρ:=[(161,35),(162,36),(163,37)]) (ρ':=[(5,26),(35,161),(36,162),(37,163),(10,160)]) (n:=35) (by kernel_rfl) [0,1,2,3,26] [26,161,162,163] [160] (by kernel_rfl) (by kernel_rfl) (by kernel_rfl) (cA o (st':=⟨[(0,.ptr 161 0),(1,.val bk l1),(2,.bW 128 161),(3,aU q),(10,.clos 163 [26])],[(26,.cells [.row 160] 78),(161,.cells [bg v1.1,.val au v1.2.1,.val bj v1.2.2.1,.val av v1.2.2.2.1,.val av v1.2.2.2.2.1,bN v1.2.2.2.2.2.1,aU v1.2.2.2.2.2.2.1,.iter 162,.clos 161 [163]] 280),(162,.mp bi bl v1.2.2.2.2.2.2.2.1),(163,.cells [.val (.ab .str) v1.2.2.2.2.2.2.2.2.1,.val au v1.2.2.2.2.2.2.2.2.2.1] 25)],[(160,⟨4,.bool,v1.2.2.2.2.2.2.2.2.2.2⟩)]⟩) (orc:=[]) (by kernel_rfl) .n (aH (aG (zI o (by kernel_rfl) (by kernel_rfl) (Fq o [0,1,2,3,10,11,12] [26,161,162,163] [160] (orc:=[]) (by kernel_rfl) .n (aH (aG (aT ?_))))))))
 obtain⟨_,li,h⟩:=bind_some h
 replace li:=cV li
 obtain⟨_,lj,h⟩:=bind_some h
 replace lj:=cV lj
 refine bz o [0,1,2,3,10,11,12,13] [26,37,161,162,163] [160] (orc:=[⟨.unit,()⟩]) (by kernel_rfl) (.c (show(List.replicate (ai ((List.length l1:Int)+(2:Int))).toNat (none:Option bK))=List.replicate (List.length (List.replicate (ai ((List.length l1:Int)+(2:Int))).toNat (none:Option bK))) ((none:Option bK))/\0<List.length (List.replicate (ai ((List.length l1:Int)+(2:Int))).toNat (none:Option bK))from Fh (none:Option bK) li) (.c lj .n)) (aH (aG (aG (aT (cA o (orc:=[]) (by kernel_rfl) .n (aH (fy (js (α:=(Int×List dZ)) (fun n z=>rW k l1 v1 q n z.1 z.2=some O) (fun z=>⟨[(0,.ptr 161 0),(1,.val bk l1),(2,.bW 128 161),(3,aU q),(10,.clos 163 [26]),(11,ax (List.length l1:Int)),(12,ax (List.length v1.2.1:Int)),(13,.osl 37),(39,ax (List.length (List.map some (List.replicate (ai ((List.length l1:Int)+(2:Int))).toNat (none:Option bK))):Int)),(40,ax (z.1))],[(26,.cells [.row 160] 78),(37,.aX 146 (.mp .str .bool) (z.2)),(161,.cells [bg v1.1,.val au v1.2.1,.val bj v1.2.2.1,.val av v1.2.2.2.1,.val av v1.2.2.2.2.1,bN v1.2.2.2.2.2.1,aU v1.2.2.2.2.2.2.1,.iter 162,.clos 161 [163]] 280),(162,.mp bi bl v1.2.2.2.2.2.2.2.1),(163,.cells [.val (.ab .str) v1.2.2.2.2.2.2.2.2.1,.val au v1.2.2.2.2.2.2.2.2.2.1] 25)],[(160,⟨4,.bool,v1.2.2.2.2.2.2.2.2.2.2⟩)]⟩) ?_ (k:=k) (x:=((0:Int),List.map some (List.replicate (ai ((List.length l1:Int)+(2:Int))).toNat (none:Option bK)))) h))))))))
 clear h
 rintro lk ⟨t11,ld⟩ h
 cases lk with
 |zero=>exact absurd (show none=some _ from h) (by simp)
 |succ lk=>
  have h:uZ k l1 v1 q (rW k l1 v1 q lk) t11 ld=some O:=h
  unfold uZ at h
  refine aG (aT (bz o [0,1,2,3,10,11,12,13,39,40,41] [26,37,161,162,163] [160] (orc:=[]) (by kernel_rfl) .n (aH (aG (dg (b:=decide (t11<(List.length (List.map some (List.replicate (ai ((List.length l1:Int)+(2:Int))).toNat (none:Option bK))):Int))) (by kernel_rfl) (fun ll=>?_) (fun ll=>?_))))))
  ·replace h:=dS ll h
   refine dn (aH (aG (fy (aG (aT (bz o [0,1,2,3,10,11,12,13,14,39,40] [26,37,161,162,163] [160] (orc:=[]) (by kernel_rfl) .n (aH (aT ?_))))))))
   obtain⟨_,lm,h⟩:=bind_some h
   replace lm:=cV lm
   obtain⟨_,ln,h⟩:=bind_some h
   replace ln:=cV ln
   exact bz o [0,1,2,3,10,11,12,13,39,40] [26,37,161,162,163] [160] (orc:=[]) (by kernel_rfl) (.c lm (.c ln .n)) (iH (aH (aT (cA o (orc:=[]) (by kernel_rfl) .n (iy (ai (t11+(1:Int)),List.set ld (t11).toNat (some (some ([]:List bu)))) (Nat.lt_succ_self _) h)))))
  ·replace h:=dP ll h
   refine jS (fL (fL (jK (aH (aG (aT ?_))))))
   obtain⟨_,lo,h⟩:=bind_some h
   replace lo:=cV lo
   obtain⟨al,lp,h⟩:=bind_some h
   replace lp:=jk lp
   obtain⟨lq,lr,h⟩:=bind_some h
   replace lr:=nu lr
   refine cA o (st':=⟨[(0,.ptr 161 0),(1,.val bk l1),(2,.bW 128 161),(3,aU q),(10,.clos 163 [26]),(11,ax (List.length l1:Int)),(12,ax (List.length v1.2.1:Int)),(13,.osl 37)],[(26,.cells [.row 160] 78),(37,.aX 146 (.mp .str .bool) (List.set ld ((0:Int)).toNat (some (some (cU (aV .str) lq ([]:List UInt8) true))))),(161,.cells [bg v1.1,.val au v1.2.1,.val bj v1.2.2.1,.val av v1.2.2.2.1,.val av v1.2.2.2.2.1,bN v1.2.2.2.2.2.1,aU v1.2.2.2.2.2.2.1,.iter 162,.clos 161 [163]] 280),(162,.mp bi bl v1.2.2.2.2.2.2.2.1),(163,.cells [.val (.ab .str) v1.2.2.2.2.2.2.2.2.1,.val au v1.2.2.2.2.2.2.2.2.2.1] 25)],[(160,⟨4,.bool,v1.2.2.2.2.2.2.2.2.2.2⟩)]⟩) (orc:=[⟨.map .str .bool,al⟩,⟨.map .str .bool,some lq⟩]) (by kernel_rfl) (.c lo (.c lp (.c lr .n))) (aH (aG (aG (aT (cA o (orc:=[]) (by kernel_rfl) .n (aH (fy (js (α:=(Int×List dZ×List UInt8×List aw×List bD×List aC×List aC×Int×Bool×List bT×List (List UInt8)×List aw×List (Bool))) (fun n z=>gY k l1 v1 q n z.1 z.2.1 z.2.2.1 z.2.2.2.1 z.2.2.2.2.1 z.2.2.2.2.2.1 z.2.2.2.2.2.2.1 z.2.2.2.2.2.2.2.1 z.2.2.2.2.2.2.2.2.1 z.2.2.2.2.2.2.2.2.2.1 z.2.2.2.2.2.2.2.2.2.2.1 z.2.2.2.2.2.2.2.2.2.2.2.1 z.2.2.2.2.2.2.2.2.2.2.2.2=some O) (fun z=>⟨[(0,.ptr 161 0),(1,.val bk l1),(2,.bW 128 161),(3,aU q),(10,.clos 163 [26]),(11,ax (List.length l1:Int)),(12,ax (List.length v1.2.1:Int)),(13,.osl 37),(52,ax (ai ((List.length l1:Int)+(1:Int)))),(53,ax (z.1))],[(26,.cells [.row 160] 78),(37,.aX 146 (.mp .str .bool) (z.2.1)),(161,.cells [bg (z.2.2.1),.val au (z.2.2.2.1),.val bj (z.2.2.2.2.1),.val av (z.2.2.2.2.2.1),.val av (z.2.2.2.2.2.2.1),bN (z.2.2.2.2.2.2.2.1),aU (z.2.2.2.2.2.2.2.2.1),.iter 162,.clos 161 [163]] 280),(162,.mp bi bl (z.2.2.2.2.2.2.2.2.2.1)),(163,.cells [.val (.ab .str) (z.2.2.2.2.2.2.2.2.2.2.1),.val au (z.2.2.2.2.2.2.2.2.2.2.2.1)] 25)],[(160,⟨4,.bool,(z.2.2.2.2.2.2.2.2.2.2.2.2)⟩)]⟩) ?_ (k:=k) (x:=((0:Int),List.set ld ((0:Int)).toNat (some (some (cU (aV .str) lq ([]:List UInt8) true))),v1.1,v1.2.1,v1.2.2.1,v1.2.2.2.1,v1.2.2.2.2.1,v1.2.2.2.2.2.1,v1.2.2.2.2.2.2.1,v1.2.2.2.2.2.2.2.1,v1.2.2.2.2.2.2.2.2.1,v1.2.2.2.2.2.2.2.2.2.1,v1.2.2.2.2.2.2.2.2.2.2)) h))))))))
   clear h
   rintro U ⟨t12,l6,t13,t14,t15,t16,t17,t18,t19,m3,t20,t21,t22⟩ h
   cases U with
   |zero=>exact absurd (show none=some _ from h) (by simp)
   |succ U=>
    have h:yz k l1 v1 q (gY k l1 v1 q U) t12 l6 t13 t14 t15 t16 t17 t18 t19 m3 t20 t21 t22=some O:=h
    unfold yz at h
    refine aG (aT (bz o [0,1,2,3,10,11,12,13,52,53,54] [26,37,161,162,163] [160] (orc:=[]) (by kernel_rfl) .n (aH (aG (dg (b:=decide (t12<(ai ((List.length l1:Int)+(1:Int))))) (by kernel_rfl) (fun ls=>?_) (fun ls=>?_))))))
    ·replace h:=dS ls h
     refine dn (aH (aG (fy (aG (aT (bz o [0,1,2,3,10,11,12,13,15,52,53] [26,37,161,162,163] [160] (orc:=[]) (by kernel_rfl) .n (aH (aG (aG (aT ?_))))))))))
     obtain⟨_,lt,h⟩:=bind_some h
     replace lt:=cV lt
     obtain⟨Z,la,h⟩:=bind_some h
     replace la:=jk la
     refine bz o [0,1,2,3,10,11,12,13,15,52,53,61] [26,37,161,162,163] [160] (orc:=[⟨.map .str .bool,Z⟩,⟨.map .str .bool,Z⟩]) (by kernel_rfl) (.c lt (.c la (.c la .n))) (aH (dg (b:=decide ((1024:Int)<(List.length (Option.getD Z []):Int))) (by kernel_rfl) (fun lu=>?_) (fun lu=>?_)))
     ·replace h:=dS lu h
      refine aG (aT (cA o (st':=⟨[(0,.ptr 161 0),(2,.bW 128 161),(8,.row 8),(9,ax (9:Int))],[(161,.cells [bg t13,.val au t14,.val bj t15,.val av t16,.val av t17,bN t18,aU t19,.iter 162,.clos 161 [163]] 280),(162,.mp bi bl m3),(163,.cells [.val (.ab .str) t20,.val au t21] 25)],[(8,⟨9,.str,([]:List (List UInt8))⟩)]⟩) (orc:=[]) (by kernel_rfl) .n (aH (eF (dr (fD (dr (dr (fD (dr ?_))))))))))
      replace h:=Option.some.inj h
      subst h
      exact fI [0,2,8,9] [161,162,163] [8] [(161,161),(162,162),(163,163),(8,3500001)] (by kernel_rfl) (eV o.P [161,162,163] [3500001] (.inl rfl) (by kernel_rfl) (by kernel_rfl))
     ·replace h:=dP lu h
      refine dn (aH (aG (aT ?_)))
      obtain⟨_,lv,h⟩:=bind_some h
      replace lv:=cV lv
      refine cA o (orc:=[⟨.unit,()⟩,⟨.map .str .bool,Z⟩]) (by kernel_rfl) (.c lv (.c la .n)) (aH (fy (js (α:=(List dZ×List bu×List bu)) (fun n z=>ju k (gY k l1 v1 q U) t12 t13 t14 t15 t16 t17 t18 t19 m3 t20 t21 t22 l1 v1 q n z.1 z.2.1 z.2.2=some O) (fun z=>⟨[(0,.ptr 161 0),(1,.val bk l1),(2,.bW 128 161),(3,aU q),(10,.clos 163 [26]),(11,ax (List.length l1:Int)),(12,ax (List.length v1.2.1:Int)),(13,.osl 37),(15,ax t12),(52,ax (ai ((List.length l1:Int)+(1:Int)))),(53,ax t12),(66,.iter 66)],[(26,.cells [.row 160] 78),(37,.aX 146 (.mp .str .bool) (z.1)),(66,.cj .str .bool (z.2.1) (z.2.2)),(161,.cells [bg t13,.val au t14,.val bj t15,.val av t16,.val av t17,bN t18,aU t19,.iter 162,.clos 161 [163]] 280),(162,.mp bi bl m3),(163,.cells [.val (.ab .str) t20,.val au t21] 25)],[(160,⟨4,.bool,t22⟩)]⟩) ?_ (k:=k) (x:=(List.set l6 (t12).toNat none,Z.getD [],([]:List bu))) h)))
      clear h
      rintro V ⟨R,le,lf⟩ h
      cases V with
      |zero=>exact absurd (show none=some _ from h) (by simp)
      |succ V=>
       have h:zf k (gY k l1 v1 q U) t12 t13 t14 t15 t16 t17 t18 t19 m3 t20 t21 t22 l1 v1 q (ju k (gY k l1 v1 q U) t12 t13 t14 t15 t16 t17 t18 t19 m3 t20 t21 t22 l1 v1 q V) R le lf=some O:=h
       unfold zf at h
       refine aG (aT ?_)
       rcases qZ h with ⟨lw,h⟩|⟨L,lw,h⟩
       ·exact sh o (d:=67) (b:=66) (k:=.str) (v:=.bool) (left:=le) (last:=lf) (by kernel_rfl) (by kernel_rfl) lw (st':=⟨[(0,.ptr 161 0),(1,.val bk l1),(2,.bW 128 161),(3,aU q),(10,.clos 163 [26]),(11,ax (List.length l1:Int)),(12,ax (List.length v1.2.1:Int)),(13,.osl 37),(15,ax t12),(52,ax (ai ((List.length l1:Int)+(1:Int)))),(53,ax t12),(66,.iter 66),(67,.dq [fT false])],[(26,.cells [.row 160] 78),(37,.aX 146 (.mp .str .bool) R),(66,.cj .str .bool le lf),(161,.cells [bg t13,.val au t14,.val bj t15,.val av t16,.val av t17,bN t18,aU t19,.iter 162,.clos 161 [163]] 280),(162,.mp bi bl m3),(163,.cells [.val (.ab .str) t20,.val au t21] 25)],[(160,⟨4,.bool,t22⟩)]⟩) (by kernel_rfl) (bz o [0,1,2,3,10,11,12,13,15,52,53,66,68] [26,37,66,161,162,163] [160] (orc:=[]) (by kernel_rfl) .n (aH (aG (su (by kernel_rfl) (jS (fL (fL (jK (iH (aH (aT (cA o (orc:=[]) (by kernel_rfl) .n (iy (ai (t12+(1:Int)),R,t13,t14,t15,t16,t17,t18,t19,m3,t20,t21,t22) (Nat.lt_succ_self _) h)))))))))))))
       ·refine sj o (d:=67) (b:=66) (k:=.str) (v:=.bool) (left:=le) (last:=lf) (p:=L) (by kernel_rfl) (by kernel_rfl) lw (st':=⟨[(0,.ptr 161 0),(1,.val bk l1),(2,.bW 128 161),(3,aU q),(10,.clos 163 [26]),(11,ax (List.length l1:Int)),(12,ax (List.length v1.2.1:Int)),(13,.osl 37),(15,ax t12),(52,ax (ai ((List.length l1:Int)+(1:Int)))),(53,ax t12),(66,.iter 66),(67,.dq [fT true,sm L.1,fT L.2])],[(26,.cells [.row 160] 78),(37,.aX 146 (.mp .str .bool) R),(66,.cj .str .bool ([]:List bu) [L]),(161,.cells [bg t13,.val au t14,.val bj t15,.val av t16,.val av t17,bN t18,aU t19,.iter 162,.clos 161 [163]] 280),(162,.mp bi bl m3),(163,.cells [.val (.ab .str) t20,.val au t21] 25)],[(160,⟨4,.bool,t22⟩)]⟩) (by kernel_rfl) (bz o [0,1,2,3,10,11,12,13,15,52,53,66,68] [26,37,66,161,162,163] [160] (orc:=[]) (by kernel_rfl) .n (aH (aG (rI (by kernel_rfl) (dn (aH (fy (aG (aT (bz o [0,1,2,3,10,11,12,13,15,16,52,53,66] [26,37,66,161,162,163] [160] (orc:=[]) (by kernel_rfl) .n (aH (aG (aG (aT ?_))))))))))))))
        obtain⟨v2,an,h⟩:=bind_some h
        refine cA o (st':=⟨[(0,.ptr 161 0),(1,.val bk l1),(2,.bW 128 161),(3,aU q),(10,.clos 163 [26]),(11,ax (List.length l1:Int)),(12,ax (List.length v1.2.1:Int)),(13,.osl 37),(15,ax t12),(16,bg L.1),(52,ax (ai ((List.length l1:Int)+(1:Int)))),(53,ax t12),(66,.iter 66),(77,aU (decide ((256:Int)<(ai ((ai (v2+(List.length l1:Int)))-t12)))))],[(26,.cells [.row 160] 78),(37,.aX 146 (.mp .str .bool) R),(66,.cj .str .bool ([]:List bu) [L]),(161,.cells [bg t13,.val au t14,.val bj t15,.val av t16,.val av t17,bN t18,aU t19,.iter 162,.clos 161 [163]] 280),(162,.mp bi bl m3),(163,.cells [.val (.ab .str) t20,.val au t21] 25)],[(160,⟨4,.bool,t22⟩)]⟩) (orc:=[jD v2]) (by kernel_rfl) (.c an .n) (aH (dg (b:=decide ((256:Int)<(ai ((ai (v2+(List.length l1:Int)))-t12)))) (by kernel_rfl) (fun lx=>?_) (fun lx=>?_)))
        ·replace h:=dS lx h
         refine aG (aT (bz o [0,2,8,9] [161,162,163] [8] (orc:=[]) (by kernel_rfl) .n (aH (eF (dr (fD (dr (fD (fD (dr (dr (fD (dr ?_)))))))))))))
         replace h:=Option.some.inj h
         subst h
         exact fI [0,2,8,9] [161,162,163] [8] [(161,161),(162,162),(163,163),(8,3500001)] (by kernel_rfl) (eV o.P [161,162,163] [3500001] (.inl rfl) (by kernel_rfl) (by kernel_rfl))
        ·replace h:=dP lx h
         refine dn (aH (aG (aT ?_)))
         obtain⟨v3,ao,h⟩:=bind_some h
         refine bz o [0,1,2,3,10,11,12,13,15,16,17,52,53,66] [26,37,66,161,162,163] [160] (orc:=[fT v3]) (by kernel_rfl) (.c ao .n) (aH (jH (α:=List dZ) (fun z=>rs t12 l1 L (ju k (gY k l1 v1 q U) t12 t13 t14 t15 t16 t17 t18 t19 m3 t20 t21 t22 l1 v1 q V) v3 q z=some O) (fun W=>⟨[(0,.ptr 161 0),(1,.val bk l1),(2,.bW 128 161),(3,aU q),(10,.clos 163 [26]),(11,ax (List.length l1:Int)),(12,ax (List.length v1.2.1:Int)),(13,.osl 37),(15,ax t12),(16,bg L.1),(17,aU v3),(52,ax (ai ((List.length l1:Int)+(1:Int)))),(53,ax t12),(66,.iter 66)],[(26,.cells [.row 160] 78),(37,.aX 146 (.mp .str .bool) W),(66,.cj .str .bool ([]:List bu) [L]),(161,.cells [bg t13,.val au t14,.val bj t15,.val av t16,.val av t17,bN t18,aU t19,.iter 162,.clos 161 [163]] 280),(162,.mp bi bl m3),(163,.cells [.val (.ab .str) t20,.val au t21] 25)],[(160,⟨4,.bool,t22⟩)]⟩) ?_ (fun lb=>?_)))
         ·rintro W h
          unfold rs at h
          refine aG (aT (ig o 3 [0,1,2,3,10,11,12,13,15,16,52,53,66,118] [26,37,66,161,162,163] [160] (orc:=[]) (by kernel_rfl) .n (yW (α:=Bool) (fun z=>yV t12 l1 L W (ju k (gY k l1 v1 q U) t12 t13 t14 t15 t16 t17 t18 t19 m3 t20 t21 t22 l1 v1 q V) z=some O) (fun t23=>⟨[(0,.ptr 161 0),(1,.val bk l1),(2,.bW 128 161),(3,aU q),(10,.clos 163 [26]),(11,ax (List.length l1:Int)),(12,ax (List.length v1.2.1:Int)),(13,.osl 37),(15,ax t12),(16,bg L.1),(52,ax (ai ((List.length l1:Int)+(1:Int)))),(53,ax t12),(66,.iter 66),(120,aU t23)],[(26,.cells [.row 160] 78),(37,.aX 146 (.mp .str .bool) W),(66,.cj .str .bool ([]:List bu) [L]),(161,.cells [bg t13,.val au t14,.val bj t15,.val av t16,.val av t17,bN t18,aU t19,.iter 162,.clos 161 [163]] 280),(162,.mp bi bl m3),(163,.cells [.val (.ab .str) t20,.val au t21] 25)],[(160,⟨4,.bool,t22⟩)]⟩) 2 ?_ (fun l7=>?_))))
          ·rintro t23 h
           unfold yV at h
           refine jh (aH (dg (b:=t23) (by kernel_rfl) (fun ly=>?_) (fun ly=>?_)))
           ·replace h:=dS ly h
            refine aG (aT (bz o [0,1,2,3,10,11,12,13,15,20,52,53,66] [26,37,66,161,162,163] [160] (orc:=[]) (by kernel_rfl) .n (aH (jH (α:=List UInt8) (fun z=>rh t12 W (ju k (gY k l1 v1 q U) t12 t13 t14 t15 t16 t17 t18 t19 m3 t20 t21 t22 l1 v1 q V) L z=some O) (fun lz=>⟨[(0,.ptr 161 0),(1,.val bk l1),(2,.bW 128 161),(3,aU q),(10,.clos 163 [26]),(11,ax (List.length l1:Int)),(12,ax (List.length v1.2.1:Int)),(13,.osl 37),(15,ax t12),(20,bg lz),(52,ax (ai ((List.length l1:Int)+(1:Int)))),(53,ax t12),(66,.iter 66)],[(26,.cells [.row 160] 78),(37,.aX 146 (.mp .str .bool) W),(66,.cj .str .bool ([]:List bu) [L]),(161,.cells [bg t13,.val au t14,.val bj t15,.val av t16,.val av t17,bN t18,aU t19,.iter 162,.clos 161 [163]] 280),(162,.mp bi bl m3),(163,.cells [.val (.ab .str) t20,.val au t21] 25)],[(160,⟨4,.bool,t22⟩)]⟩) ?_ (fun lb=>?_)))))
            ·rintro lz h
             unfold rh at h
             refine aT ?_
             obtain⟨_,lA,h⟩:=bind_some h
             replace lA:=cV lA
             obtain⟨ap,lB,h⟩:=bind_some h
             replace lB:=jk lB
             obtain⟨l8,lC,h⟩:=bind_some h
             replace lC:=nu lC
             exact cA o (orc:=[⟨.map .str .bool,ap⟩,⟨.map .str .bool,some l8⟩]) (by kernel_rfl) (.c lA (.c lB (.c lC .n))) (iH (iy (List.set W (ai (t12+(1:Int))).toNat (some (some (cU (aV .str) l8 lz true))),([]:List bu),[L]) (Nat.lt_succ_self _) h))
            refine aG (aT (bz o [0,1,2,3,10,11,12,13,15,20,52,53,66,124] [26,37,66,161,162,163] [160] (orc:=[]) (by kernel_rfl) .n (aH (dg (b:=decide (t12<(List.length l1:Int))) (by kernel_rfl) (fun lD=>?_) (fun lD=>?_)))))
            ·replace h:=dS lD h
             refine aT ?_
             obtain⟨l9,aq,h⟩:=bind_some h
             obtain⟨_,lE,h⟩:=bind_some h
             replace lE:=cV lE
             exact cA o (orc:=[to l9]) (by kernel_rfl) (.c aq (.c lE .n)) (lb (L.1++((Utf8.encode l9).data.toList)) h)
            ·replace h:=dP lD h
             exact dn (jm (by kernel_rfl) (lb L.1 h))
           ·replace h:=dP ly h
            exact dn (iH (jm (by kernel_rfl) (iy (W,([]:List bu),[L]) (Nat.lt_succ_self _) h)))
          refine GB 118 (b:=!v3) (by kernel_rfl) (fun lF=>?_) (fun lF=>?_)
          ·rw[FG lF]at h
           exact cA o (orc:=[]) (by kernel_rfl) .n (l7 true h)
          ·rw[Ho lF]at h
           exact cA o (orc:=[]) (by kernel_rfl) .n (l7 q h)
         refine aG (aT (bz o [0,1,2,3,10,11,12,13,15,16,17,52,53,66,82] [26,37,66,161,162,163] [160] (orc:=[]) (by kernel_rfl) .n (aH (dg (b:=v3) (by kernel_rfl) (fun lG=>?_) (fun lG=>?_)))))
         ·replace h:=dS lG h
          refine aG (aT ?_)
          obtain⟨aa,ar,h⟩:=bind_some h
          refine ig o 8 [0,1,2,3,10,11,12,13,15,16,17,52,53,66,83,84,90] [26,37,66,161,162,163] [160] (orc:=[⟨bk,aa⟩]) (by kernel_rfl) (.c ar .n) ?_
          obtain⟨v4,ay,h⟩:=bind_some h
          refine qw o (yR k) (aa,t13,t14,t15,t16,t17,t18,t19,m3,t20,t21) v4 ay (ρ:=[(161,42),(162,43),(163,44)]) (ρ':=[(42,161),(43,162),(44,163),(5,91)]) (n:=42) (by kernel_rfl) [0,1,2,3,10,11,12,13,15,16,17,52,53,66,83,91] [26,37,66,161,162,163] [91,160] (by kernel_rfl) (by kernel_rfl) (st':=⟨[(0,.ptr 161 0),(1,.val bk l1),(2,.bW 128 161),(3,aU q),(10,.clos 163 [26]),(11,ax (List.length l1:Int)),(12,ax (List.length v1.2.1:Int)),(13,.osl 37),(15,ax t12),(16,bg L.1),(17,aU v3),(52,ax (ai ((List.length l1:Int)+(1:Int)))),(53,ax t12),(66,.iter 66),(83,bg L.1),(91,.row 91)],[(26,.cells [.row 160] 78),(37,.aX 146 (.mp .str .bool) R),(66,.cj .str .bool ([]:List bu) [L]),(161,.cells [bg t13,.val au t14,.val bj t15,.val av t16,.val av t17,bN t18,aU t19,.iter 162,.clos 161 [163]] 280),(162,.mp bi bl m3),(163,.cells [.val (.ab .str) t20,.val au t21] 25)],[(91,⟨21,(.int .i32),v4⟩),(160,⟨4,.bool,t22⟩)]⟩) (by kernel_rfl) ?_
          obtain⟨_,lH,h⟩:=bind_some h
          replace lH:=cV lH
          obtain⟨_,lI,h⟩:=bind_some h
          replace lI:=cV lI
          refine bz o [0,1,2,3,10,11,12,13,15,16,17,18,52,53,66] [26,37,66,161,162,163] [160] (orc:=[]) (by kernel_rfl) (.c lH (.c lI .n)) (aH (aG (aT (bz o [0,1,2,3,10,11,12,13,15,16,17,18,19,52,53,66] [26,37,66,161,162,163] [160] (orc:=[]) (by kernel_rfl) .n (aH (jH (α:=ba) (fun z=>rT R t12 l1 L (ju k (gY k l1 v1 q U) t12 t13 t14 t15 t16 t17 t18 t19 m3 t20 t21 t22 l1 v1 q V) v3 q z.1 z.2=some O) (fun z=>⟨[(0,.ptr 161 0),(1,.val bk l1),(2,.bW 128 161),(3,aU q),(10,.clos 163 [26]),(11,ax (List.length l1:Int)),(12,ax (List.length v1.2.1:Int)),(13,.osl 37),(15,ax t12),(16,bg L.1),(17,aU v3),(18,bg (z.1)),(19,ax (z.2)),(52,ax (ai ((List.length l1:Int)+(1:Int)))),(53,ax t12),(66,.iter 66)],[(26,.cells [.row 160] 78),(37,.aX 146 (.mp .str .bool) R),(66,.cj .str .bool ([]:List bu) [L]),(161,.cells [bg t13,.val au t14,.val bj t15,.val av t16,.val av t17,bN t18,aU t19,.iter 162,.clos 161 [163]] 280),(162,.mp bi bl m3),(163,.cells [.val (.ab .str) t20,.val au t21] 25)],[(160,⟨4,.bool,t22⟩)]⟩) ?_ (fun ab=>?_)))))))
          ·rintro⟨az,aA⟩ h
           unfold rT at h
           refine aT ?_
           obtain⟨_,lJ,h⟩:=bind_some h
           replace lJ:=cV lJ
           obtain⟨aB,lK,h⟩:=bind_some h
           replace lK:=jk lK
           obtain⟨ad,lL,h⟩:=bind_some h
           replace lL:=nu lL
           exact cA o (orc:=[⟨.map .str .bool,aB⟩,⟨.map .str .bool,some ad⟩]) (by kernel_rfl) (.c lJ (.c lK (.c lL .n))) (lb (List.set R (aA).toNat (some (some (cU (aV .str) ad az true)))) h)
          refine aG (aT (bz o [0,1,2,3,10,11,12,13,15,16,17,18,19,52,53,66,98] [26,37,66,161,162,163] [160] (orc:=[]) (by kernel_rfl) .n (aH (dg (b:=(List.length v1.2.1:Int)==(0:Int)) (by kernel_rfl) (fun lM=>?_) (fun lM=>?_)))))
          ·replace h:=dS lM h
           refine jH (α:=List UInt8) (fun z=>sT R t12 l1 L (ju k (gY k l1 v1 q U) t12 t13 t14 t15 t16 t17 t18 t19 m3 t20 t21 t22 l1 v1 q V) v3 q v1 z=some O) (fun lN=>⟨[(0,.ptr 161 0),(1,.val bk l1),(2,.bW 128 161),(3,aU q),(10,.clos 163 [26]),(11,ax (List.length l1:Int)),(12,ax (List.length v1.2.1:Int)),(13,.osl 37),(15,ax t12),(16,bg L.1),(17,aU v3),(18,bg lN),(19,ax (ai (t12+(List.length v1.2.1:Int)))),(52,ax (ai ((List.length l1:Int)+(1:Int)))),(53,ax t12),(66,.iter 66)],[(26,.cells [.row 160] 78),(37,.aX 146 (.mp .str .bool) R),(66,.cj .str .bool ([]:List bu) [L]),(161,.cells [bg t13,.val au t14,.val bj t15,.val av t16,.val av t17,bN t18,aU t19,.iter 162,.clos 161 [163]] 280),(162,.mp bi bl m3),(163,.cells [.val (.ab .str) t20,.val au t21] 25)],[(160,⟨4,.bool,t22⟩)]⟩) ?_ (fun ae=>?_)
           ·rintro lN h
            unfold sT at h
            exact aT (cA o (orc:=[]) (by kernel_rfl) .n (ab (lN,ai ((ai (t12+(List.length v1.2.1:Int)))+(1:Int))) h))
           refine aG (aT (bz o [0,1,2,3,10,11,12,13,15,16,17,18,19,52,53,66,101] [26,37,66,161,162,163] [160] (orc:=[]) (by kernel_rfl) .n (aH (dg (b:=decide (t12<(List.length l1:Int))) (by kernel_rfl) (fun lO=>?_) (fun lO=>?_)))))
           ·replace h:=dS lO h
            refine aT ?_
            obtain⟨af,aD,h⟩:=bind_some h
            obtain⟨_,lP,h⟩:=bind_some h
            replace lP:=cV lP
            exact cA o (orc:=[to af]) (by kernel_rfl) (.c aD (.c lP .n)) (ae ((L.1++(dC v4))++((Utf8.encode af).data.toList)) h)
           ·replace h:=dP lO h
            exact dn (jm (by kernel_rfl) (ae (L.1++(dC v4)) h))
          ·replace h:=dP lM h
           exact dn (jm (by kernel_rfl) (ab (L.1++(dC v4),ai (t12+(List.length v1.2.1:Int))) h))
         ·replace h:=dP lG h
          exact dn (jm (by kernel_rfl) (lb R h))
    ·replace h:=dP ls h
     refine jS (fL (fL (jK (aH (aG (aT ?_))))))
     obtain⟨_,lQ,h⟩:=bind_some h
     replace lQ:=cV lQ
     obtain⟨lR,lS,h⟩:=bind_some h
     replace lS:=jk lS
     refine bz o [0,2,21] [161,162,163] [] (orc:=[⟨.unit,()⟩,⟨.map .str .bool,lR⟩]) (by kernel_rfl) (.c lQ (.c lS .n)) (aH (aG (aG (aT (bz o [0,2,21,146] [161,162,163] [] (orc:=[]) (by kernel_rfl) .n (aH (dg (b:=decide ((1024:Int)<(List.length (lR.getD []):Int))) (by kernel_rfl) (fun lT=>?_) (fun lT=>?_))))))))
     ·replace h:=dS lT h
      refine aG (aT (cA o (st':=⟨[(0,.ptr 161 0),(2,.bW 128 161),(8,.row 8),(9,ax (9:Int))],[(161,.cells [bg t13,.val au t14,.val bj t15,.val av t16,.val av t17,bN t18,aU t19,.iter 162,.clos 161 [163]] 280),(162,.mp bi bl m3),(163,.cells [.val (.ab .str) t20,.val au t21] 25)],[(8,⟨9,.str,([]:List (List UInt8))⟩)]⟩) (orc:=[]) (by kernel_rfl) .n (aH (eF (dr ?_)))))
      replace h:=Option.some.inj h
      subst h
      exact fI [0,2,8,9] [161,162,163] [8] [(161,161),(162,162),(163,163),(8,3500001)] (by kernel_rfl) (eV o.P [161,162,163] [3500001] (.inl rfl) (by kernel_rfl) (by kernel_rfl))
     ·replace h:=dP lT h
      refine dn (aH (aG (aT (bz o [0,2,21,22] [161,162,163] [22] (orc:=[]) (by kernel_rfl) .n (aH (aG (aG (aT (cA o (orc:=[]) (by kernel_rfl) .n (aH (fy (js (α:=(List bu×List bu×List (List UInt8))) (fun n z=>sZ k t13 t14 t15 t16 t17 t18 t19 m3 t20 t21 n z.1 z.2.1 z.2.2=some O) (fun z=>⟨[(0,.ptr 161 0),(2,.bW 128 161),(22,.row 22),(148,.iter 148)],[(148,.cj .str .bool (z.1) (z.2.1)),(161,.cells [bg t13,.val au t14,.val bj t15,.val av t16,.val av t17,bN t18,aU t19,.iter 162,.clos 161 [163]] 280),(162,.mp bi bl m3),(163,.cells [.val (.ab .str) t20,.val au t21] 25)],[(22,⟨9,.str,(z.2.2)⟩)]⟩) ?_ (k:=k) (x:=(lR.getD [],([]:List bu),([]:List (List UInt8)))) h))))))))))))
      clear h
      rintro lU ⟨lg,lh,lc⟩ h
      cases lU with
      |zero=>exact absurd (show none=some _ from h) (by simp)
      |succ lU=>
       have h:xZ k t13 t14 t15 t16 t17 t18 t19 m3 t20 t21 (sZ k t13 t14 t15 t16 t17 t18 t19 m3 t20 t21 lU) lg lh lc=some O:=h
       unfold xZ at h
       refine aG (aT ?_)
       rcases qZ h with ⟨lV,h⟩|⟨Y,lV,h⟩
       ·refine sh o (d:=149) (b:=148) (k:=.str) (v:=.bool) (left:=lg) (last:=lh) (by kernel_rfl) (by kernel_rfl) lV (st':=⟨[(0,.ptr 161 0),(2,.bW 128 161),(22,.row 22),(148,.iter 148),(149,.dq [fT false])],[(148,.cj .str .bool lg lh),(161,.cells [bg t13,.val au t14,.val bj t15,.val av t16,.val av t17,bN t18,aU t19,.iter 162,.clos 161 [163]] 280),(162,.mp bi bl m3),(163,.cells [.val (.ab .str) t20,.val au t21] 25)],[(22,⟨9,.str,lc⟩)]⟩) (by kernel_rfl) (bz o [0,2,22,148,150] [148,161,162,163] [22] (orc:=[]) (by kernel_rfl) .n (aH (aG (su (by kernel_rfl) (jS (fL (fL (jK (aH (aG (aT (bz o [0,2,8,9] [161,162,163] [22] (orc:=[]) (by kernel_rfl) .n (aH (eF ?_))))))))))))))
        replace h:=Option.some.inj h
        subst h
        exact fI [0,2,8,9] [161,162,163] [22] [(161,161),(162,162),(163,163),(22,3500001)] (by kernel_rfl) (eV o.P [161,162,163] [3500001] (.inl rfl) (by kernel_rfl) (by kernel_rfl))
       ·refine sj o (d:=149) (b:=148) (k:=.str) (v:=.bool) (left:=lg) (last:=lh) (p:=Y) (by kernel_rfl) (by kernel_rfl) lV (st':=⟨[(0,.ptr 161 0),(2,.bW 128 161),(22,.row 22),(148,.iter 148),(149,.dq [fT true,sm Y.1,fT Y.2])],[(148,.cj .str .bool ([]:List bu) [Y]),(161,.cells [bg t13,.val au t14,.val bj t15,.val av t16,.val av t17,bN t18,aU t19,.iter 162,.clos 161 [163]] 280),(162,.mp bi bl m3),(163,.cells [.val (.ab .str) t20,.val au t21] 25)],[(22,⟨9,.str,lc⟩)]⟩) (by kernel_rfl) (bz o [0,2,22,148,150] [148,161,162,163] [22] (orc:=[]) (by kernel_rfl) .n (aH (aG (rI (by kernel_rfl) (dn (aH (fy (aG (aT (cA o (st':=⟨[(0,.ptr 161 0),(2,.bW 128 161),(22,.row 22),(23,bg Y.1),(148,.iter 148)],[(148,.cj .str .bool ([]:List bu) [Y]),(161,.cells [bg t13,.val au t14,.val bj t15,.val av t16,.val av t17,bN t18,aU t19,.iter 162,.clos 161 [163]] 280),(162,.mp bi bl m3),(163,.cells [.val (.ab .str) t20,.val au t21] 25)],[(22,⟨9,.str,lc⟩)]⟩) (orc:=[]) (by kernel_rfl) .n (aH (aG (aG (aT ?_))))))))))))))
        obtain⟨v5,aE,h⟩:=bind_some h
        refine bz o [0,2,22,23,148,155] [148,161,162,163] [22] (orc:=[jD v5]) (by kernel_rfl) (.c aE .n) (aH (dg (b:=decide ((256:Int)<v5)) (by kernel_rfl) (fun lW=>?_) (fun lW=>?_)))
        ·replace h:=dS lW h
         refine aG (aT (bz o [0,2,8,9] [161,162,163] [8] (orc:=[]) (by kernel_rfl) .n (aH (eF (dr (fD (dr (fD (dr ?_)))))))))
         replace h:=Option.some.inj h
         subst h
         exact fI [0,2,8,9] [161,162,163] [8] [(161,161),(162,162),(163,163),(8,3500001)] (by kernel_rfl) (eV o.P [161,162,163] [3500001] (.inl rfl) (by kernel_rfl) (by kernel_rfl))
        ·replace h:=dP lW h
         refine dn (aH (aT ?_))
         obtain⟨_,lX,h⟩:=bind_some h
         replace lX:=cV lX
         exact cA o (orc:=[]) (by kernel_rfl) (.c lX .n) (iH (iy (([]:List bu),[Y],lc++([Y.1]:List (List UInt8))) (Nat.lt_succ_self _) h))
noncomputable def G9(k:Nat):cn Tryz.prog am qt bU:=⟨127,H3 k,fun st=>bp st [.ab 1 bk,.ab 3 .bool,.ad 161 0 .str,.ad 161 1 au,.ad 161 2 bj,.ad 161 3 av,.ad 161 4 av,.ad 161 5 (.int .u8),.ad 161 6 .bool,.mp 162 bi bl,.ad 163 0 (.ab .str),.ad 163 1 au],fun z=>nM k (z.1) (z.2.1) (z.2.2.1) (z.2.2.2.1) (z.2.2.2.2.1) (z.2.2.2.2.2.1) (z.2.2.2.2.2.2.1) (z.2.2.2.2.2.2.2.1) (z.2.2.2.2.2.2.2.2.1) (z.2.2.2.2.2.2.2.2.2.1) (z.2.2.2.2.2.2.2.2.2.2.1) (z.2.2.2.2.2.2.2.2.2.2.2),(Oo k),fun _ _ h=>h⟩
end Go.Ev
