/- Contracts, by program. -/
import Derived.Test.YteopobecmacgdaaGreatDoorProg
import Derived.Test.YteopobecmacgdaaGreatDoorMM6
import Derived.Test.YteopobecmacgdaaGreatDoorMM9
import Derived.Test.YteopobecmacgdaaGreatDoorCtLoP1
import Derived.Test.YteopobecmacgdaaGreatDoorCtLoP4
import Derived.Test.YteopobecmacgdaaGreatDoorCtLoP6
import Derived.KernelRfl
import Derived.Test.YteopobecmacgdaaGreatDoorTyA
set_option linter.unusedSectionVars false
set_option linter.unusedVariables false
set_option linter.unusedSimpArgs false
namespace Go.Ev
open Go Go.Proofs
set_option linter.unusedVariables false
set_option maxRecDepth 100000
noncomputable def DH(k:Nat):bP qt bU where
 n:=161
 S:=fun z=>⟨[(0,.ptr 161 0),(1,.val bk (z.1)),(2,.bW 129 161),(3,aU (z.2.1))],[(161,.cells [bg (z.2.2.1),.val au (z.2.2.2.1),.val bj (z.2.2.2.2.1),.val av (z.2.2.2.2.2.1),.val av (z.2.2.2.2.2.2.1),bN (z.2.2.2.2.2.2.2.1),aU (z.2.2.2.2.2.2.2.2.1),.iter 162,.clos 161 [163]] 280),(162,.mp bi bl (z.2.2.2.2.2.2.2.2.2.1)),(163,.cells [.val (.ab .str) (z.2.2.2.2.2.2.2.2.2.2.1),.val au (z.2.2.2.2.2.2.2.2.2.2.2)] 25)],[]⟩
 bE:=fun z y=>⟨[],[(161,.cells [bg (y.2.1),.val au (y.2.2.1),.val bj (y.2.2.2.1),.val av (y.2.2.2.2.1),.val av (y.2.2.2.2.2.1),bN (y.2.2.2.2.2.2.1),aU (y.2.2.2.2.2.2.2.1),.iter 162,.clos 161 [163]] 280),(162,.mp bi bl (y.2.2.2.2.2.2.2.2.1)),(163,.cells [.val (.ab .str) (y.2.2.2.2.2.2.2.2.2.1),.val au (y.2.2.2.2.2.2.2.2.2.2.1)] 25)],[(3500001,⟨9,.str,(y.2.2.2.2.2.2.2.2.2.2.2)⟩)]⟩
 ap:=fun z y=>[.row 3500001,ax (y.1)]
 rel:=fun z y=>kA k (z.1) (z.2.1) (z.2.2.1) (z.2.2.2.1) (z.2.2.2.2.1) (z.2.2.2.2.2.1) (z.2.2.2.2.2.2.1) (z.2.2.2.2.2.2.2.1) (z.2.2.2.2.2.2.2.2.1) (z.2.2.2.2.2.2.2.2.2.1) (z.2.2.2.2.2.2.2.2.2.2.1) (z.2.2.2.2.2.2.2.2.2.2.2)=some y
noncomputable def OP(k:Nat):Env:=b8 Tryz.prog am 161 [CH k]
theorem RF(k:Nat):bZ Tryz.prog am 127 (DH k):=by
 refine mh (fn:=Tryz.f127) Tryz.func127 (by kernel_rfl) rfl Tryz.ntmps127 ?_
 rintro cx ag ah aj ⟨l1,q,V,c2,c3,W,c5,Y,Z,m1,la,lb⟩ O h
 have o:br (OP k) cx:=gU ag ah aj
 replace h:kA k l1 q V c2 c3 W c5 Y Z m1 la lb=some O:=h
 unfold kA at h
 refine aG (aT (bz o [0,1,2,3] [161,162,163] [] (orc:=[]) (by kernel_rfl) .n (aH (aG (aT (ig o 2 [0,1,2,3,24,25] [161,162,163] [] (orc:=[]) (by kernel_rfl) .n ?_))))))
 obtain⟨v1,ak,h⟩:=bind_some h
 refine nE o (Gw k) (l1,V,c2,c3,W,c5,Y,Z,m1,la,lb) v1 ak (ρ:=[(161,6),(162,7),(163,8)]) (ρ':=[(2,26),(3,160),(6,161),(7,162),(8,163)]) (n:=6) (by kernel_rfl) [0,1,2,3,26] [26,160,161,162,163] [] (by kernel_rfl) (by kernel_rfl) (by kernel_rfl) (cA o (st':=⟨[(0,.ptr 161 0),(1,.val bk l1),(2,.bW 129 161),(3,aU q),(10,.clos 164 [26,160])],[(26,.cells [.ptr 161 0] 240),(160,.cells [.val bk v1] 61),(161,.cells [bg V,.val au c2,.val bj c3,.val av W,.val av c5,bN Y,aU Z,.iter 162,.clos 161 [163]] 280),(162,.mp bi bl m1),(163,.cells [.val (.ab .str) la,.val au lb] 25)],[]⟩) (orc:=[]) (by kernel_rfl) .n (aH (aG (zI o (by kernel_rfl) (by kernel_rfl) (Fq o [0,1,2,3,10,11,12] [26,160,161,162,163] [] (orc:=[]) (by kernel_rfl) .n (aH (aG (aT ?_))))))))
 obtain⟨_,lo,h⟩:=bind_some h
 replace lo:=cV lo
 obtain⟨_,lp,h⟩:=bind_some h
 replace lp:=cV lp
 refine bz o [0,1,2,3,10,11,12,13] [26,37,160,161,162,163] [] (orc:=[⟨.unit,()⟩]) (by kernel_rfl) (.c (show(List.replicate (ai ((List.length l1:Int)+(2:Int))).toNat (none:Option bK))=List.replicate (List.length (List.replicate (ai ((List.length l1:Int)+(2:Int))).toNat (none:Option bK))) ((none:Option bK))/\0<List.length (List.replicate (ai ((List.length l1:Int)+(2:Int))).toNat (none:Option bK))from Fh (none:Option bK) lo) (.c lp .n)) (aH (aG (aG (aT (cA o (orc:=[]) (by kernel_rfl) .n (aH (fy (js (α:=(Int×List dZ)) (fun n z=>qn k l1 c2 q v1 V c3 W c5 Y Z m1 la lb n z.1 z.2=some O) (fun z=>⟨[(0,.ptr 161 0),(1,.val bk l1),(2,.bW 129 161),(3,aU q),(10,.clos 164 [26,160]),(11,ax (List.length l1:Int)),(12,ax (List.length c2:Int)),(13,.osl 37),(39,ax (List.length (List.map some (List.replicate (ai ((List.length l1:Int)+(2:Int))).toNat (none:Option bK))):Int)),(40,ax (z.1))],[(26,.cells [.ptr 161 0] 240),(37,.aX 146 (.mp .str .bool) (z.2)),(160,.cells [.val bk v1] 61),(161,.cells [bg V,.val au c2,.val bj c3,.val av W,.val av c5,bN Y,aU Z,.iter 162,.clos 161 [163]] 280),(162,.mp bi bl m1),(163,.cells [.val (.ab .str) la,.val au lb] 25)],[]⟩) ?_ (k:=k) (x:=((0:Int),List.map some (List.replicate (ai ((List.length l1:Int)+(2:Int))).toNat (none:Option bK)))) h))))))))
 clear h
 rintro lq ⟨t11,lj⟩ h
 cases lq with
 |zero=>exact absurd (show none=some _ from h) (by simp)
 |succ lq=>
  have h:xQ k l1 c2 q v1 V c3 W c5 Y Z m1 la lb (qn k l1 c2 q v1 V c3 W c5 Y Z m1 la lb lq) t11 lj=some O:=h
  unfold xQ at h
  refine aG (aT (bz o [0,1,2,3,10,11,12,13,39,40,41] [26,37,160,161,162,163] [] (orc:=[]) (by kernel_rfl) .n (aH (aG (dg (b:=decide (t11<(List.length (List.map some (List.replicate (ai ((List.length l1:Int)+(2:Int))).toNat (none:Option bK))):Int))) (by kernel_rfl) (fun lr=>?_) (fun lr=>?_))))))
  ·replace h:=dS lr h
   refine dn (aH (aG (fy (aG (aT (bz o [0,1,2,3,10,11,12,13,14,39,40] [26,37,160,161,162,163] [] (orc:=[]) (by kernel_rfl) .n (aH (aT ?_))))))))
   obtain⟨_,ls,h⟩:=bind_some h
   replace ls:=cV ls
   obtain⟨_,lt,h⟩:=bind_some h
   replace lt:=cV lt
   exact bz o [0,1,2,3,10,11,12,13,39,40] [26,37,160,161,162,163] [] (orc:=[]) (by kernel_rfl) (.c ls (.c lt .n)) (iH (aH (aT (cA o (orc:=[]) (by kernel_rfl) .n (iy (ai (t11+(1:Int)),List.set lj (t11).toNat (some (some ([]:List bu)))) (Nat.lt_succ_self _) h)))))
  ·replace h:=dP lr h
   refine jS (fL (fL (jK (aH (aG (aT ?_))))))
   obtain⟨_,lu,h⟩:=bind_some h
   replace lu:=cV lu
   obtain⟨al,lv,h⟩:=bind_some h
   replace lv:=jk lv
   obtain⟨lw,lx,h⟩:=bind_some h
   replace lx:=nu lx
   refine cA o (st':=⟨[(0,.ptr 161 0),(1,.val bk l1),(2,.bW 129 161),(3,aU q),(10,.clos 164 [26,160]),(11,ax (List.length l1:Int)),(12,ax (List.length c2:Int)),(13,.osl 37)],[(26,.cells [.ptr 161 0] 240),(37,.aX 146 (.mp .str .bool) (List.set lj ((0:Int)).toNat (some (some (cU (aV .str) lw ([]:List UInt8) true))))),(160,.cells [.val bk v1] 61),(161,.cells [bg V,.val au c2,.val bj c3,.val av W,.val av c5,bN Y,aU Z,.iter 162,.clos 161 [163]] 280),(162,.mp bi bl m1),(163,.cells [.val (.ab .str) la,.val au lb] 25)],[]⟩) (orc:=[⟨.map .str .bool,al⟩,⟨.map .str .bool,some lw⟩]) (by kernel_rfl) (.c lu (.c lv (.c lx .n))) (aH (aG (aG (aT (cA o (orc:=[]) (by kernel_rfl) .n (aH (fy (js (α:=(Int×List dZ×List (Int)×List UInt8×List aw×List bD×List aC×List aC×Int×Bool×List bT×List (List UInt8)×List aw)) (fun n z=>ic k l1 c2 q n z.1 z.2.1 z.2.2.1 z.2.2.2.1 z.2.2.2.2.1 z.2.2.2.2.2.1 z.2.2.2.2.2.2.1 z.2.2.2.2.2.2.2.1 z.2.2.2.2.2.2.2.2.1 z.2.2.2.2.2.2.2.2.2.1 z.2.2.2.2.2.2.2.2.2.2.1 z.2.2.2.2.2.2.2.2.2.2.2.1 z.2.2.2.2.2.2.2.2.2.2.2.2=some O) (fun z=>⟨[(0,.ptr 161 0),(1,.val bk l1),(2,.bW 129 161),(3,aU q),(10,.clos 164 [26,160]),(11,ax (List.length l1:Int)),(12,ax (List.length c2:Int)),(13,.osl 37),(52,ax (ai ((List.length l1:Int)+(1:Int)))),(53,ax (z.1))],[(26,.cells [.ptr 161 0] 240),(37,.aX 146 (.mp .str .bool) (z.2.1)),(160,.cells [.val bk (z.2.2.1)] 61),(161,.cells [bg (z.2.2.2.1),.val au (z.2.2.2.2.1),.val bj (z.2.2.2.2.2.1),.val av (z.2.2.2.2.2.2.1),.val av (z.2.2.2.2.2.2.2.1),bN (z.2.2.2.2.2.2.2.2.1),aU (z.2.2.2.2.2.2.2.2.2.1),.iter 162,.clos 161 [163]] 280),(162,.mp bi bl (z.2.2.2.2.2.2.2.2.2.2.1)),(163,.cells [.val (.ab .str) (z.2.2.2.2.2.2.2.2.2.2.2.1),.val au (z.2.2.2.2.2.2.2.2.2.2.2.2)] 25)],[]⟩) ?_ (k:=k) (x:=((0:Int),List.set lj ((0:Int)).toNat (some (some (cU (aV .str) lw ([]:List UInt8) true))),v1,V,c2,c3,W,c5,Y,Z,m1,la,lb)) h))))))))
   clear h
   rintro U ⟨t12,l6,t13,t14,t15,t16,t17,t18,t19,t20,m3,t21,t22⟩ h
   cases U with
   |zero=>exact absurd (show none=some _ from h) (by simp)
   |succ U=>
    have h:tq k l1 c2 q (ic k l1 c2 q U) t12 l6 t13 t14 t15 t16 t17 t18 t19 t20 m3 t21 t22=some O:=h
    unfold tq at h
    refine aG (aT (bz o [0,1,2,3,10,11,12,13,52,53,54] [26,37,160,161,162,163] [] (orc:=[]) (by kernel_rfl) .n (aH (aG (dg (b:=decide (t12<(ai ((List.length l1:Int)+(1:Int))))) (by kernel_rfl) (fun ly=>?_) (fun ly=>?_))))))
    ·replace h:=dS ly h
     refine dn (aH (aG (fy (aG (aT (bz o [0,1,2,3,10,11,12,13,15,52,53] [26,37,160,161,162,163] [] (orc:=[]) (by kernel_rfl) .n (aH (aG (aG (aT ?_))))))))))
     obtain⟨_,lz,h⟩:=bind_some h
     replace lz:=cV lz
     obtain⟨lf,lg,h⟩:=bind_some h
     replace lg:=jk lg
     refine bz o [0,1,2,3,10,11,12,13,15,52,53,61] [26,37,160,161,162,163] [] (orc:=[⟨.map .str .bool,lf⟩,⟨.map .str .bool,lf⟩]) (by kernel_rfl) (.c lz (.c lg (.c lg .n))) (aH (dg (b:=decide ((1024:Int)<(List.length (Option.getD lf []):Int))) (by kernel_rfl) (fun lA=>?_) (fun lA=>?_)))
     ·replace h:=dS lA h
      refine aG (aT (cA o (st':=⟨[(0,.ptr 161 0),(2,.bW 129 161),(8,.row 8),(9,ax (9:Int))],[(161,.cells [bg t14,.val au t15,.val bj t16,.val av t17,.val av t18,bN t19,aU t20,.iter 162,.clos 161 [163]] 280),(162,.mp bi bl m3),(163,.cells [.val (.ab .str) t21,.val au t22] 25)],[(8,⟨9,.str,([]:List (List UInt8))⟩)]⟩) (orc:=[]) (by kernel_rfl) .n (aH (eF (dr (fD (dr (dr (fD (dr ?_))))))))))
      replace h:=Option.some.inj h
      subst h
      exact fI [0,2,8,9] [161,162,163] [8] [(161,161),(162,162),(163,163),(8,3500001)] (by kernel_rfl) (eV o.P [161,162,163] [3500001] (.inl rfl) (by kernel_rfl) (by kernel_rfl))
     ·replace h:=dP lA h
      refine dn (aH (aG (aT ?_)))
      obtain⟨_,lB,h⟩:=bind_some h
      replace lB:=cV lB
      refine cA o (orc:=[⟨.unit,()⟩,⟨.map .str .bool,lf⟩]) (by kernel_rfl) (.c lB (.c lg .n)) (aH (fy (js (α:=(List dZ×List bu×List bu×List UInt8×List aw×List bD×List aC×List aC×Int×Bool×List bT×List (List UInt8)×List aw)) (fun n z=>jy k (ic k l1 c2 q U) t12 t13 l1 c2 q n z.1 z.2.1 z.2.2.1 z.2.2.2.1 z.2.2.2.2.1 z.2.2.2.2.2.1 z.2.2.2.2.2.2.1 z.2.2.2.2.2.2.2.1 z.2.2.2.2.2.2.2.2.1 z.2.2.2.2.2.2.2.2.2.1 z.2.2.2.2.2.2.2.2.2.2.1 z.2.2.2.2.2.2.2.2.2.2.2.1 z.2.2.2.2.2.2.2.2.2.2.2.2=some O) (fun z=>⟨[(0,.ptr 161 0),(1,.val bk l1),(2,.bW 129 161),(3,aU q),(10,.clos 164 [26,160]),(11,ax (List.length l1:Int)),(12,ax (List.length c2:Int)),(13,.osl 37),(15,ax t12),(52,ax (ai ((List.length l1:Int)+(1:Int)))),(53,ax t12),(66,.iter 66)],[(26,.cells [.ptr 161 0] 240),(37,.aX 146 (.mp .str .bool) (z.1)),(66,.cj .str .bool (z.2.1) (z.2.2.1)),(160,.cells [.val bk t13] 61),(161,.cells [bg (z.2.2.2.1),.val au (z.2.2.2.2.1),.val bj (z.2.2.2.2.2.1),.val av (z.2.2.2.2.2.2.1),.val av (z.2.2.2.2.2.2.2.1),bN (z.2.2.2.2.2.2.2.2.1),aU (z.2.2.2.2.2.2.2.2.2.1),.iter 162,.clos 161 [163]] 280),(162,.mp bi bl (z.2.2.2.2.2.2.2.2.2.2.1)),(163,.cells [.val (.ab .str) (z.2.2.2.2.2.2.2.2.2.2.2.1),.val au (z.2.2.2.2.2.2.2.2.2.2.2.2)] 25)],[]⟩) ?_ (k:=k) (x:=(List.set l6 (t12).toNat none,lf.getD [],([]:List bu),t14,t15,t16,t17,t18,t19,t20,m3,t21,t22)) h)))
      clear h
      rintro lc ⟨R,lk,ll,t23,t24,t25,t26,t27,t28,t29,m4,t30,t31⟩ h
      cases lc with
      |zero=>exact absurd (show none=some _ from h) (by simp)
      |succ lc=>
       have h:BO k (ic k l1 c2 q U) t12 t13 l1 c2 q (jy k (ic k l1 c2 q U) t12 t13 l1 c2 q lc) R lk ll t23 t24 t25 t26 t27 t28 t29 m4 t30 t31=some O:=h
       unfold BO at h
       refine aG (aT ?_)
       rcases qZ h with ⟨lC,h⟩|⟨L,lC,h⟩
       ·exact sh o (d:=67) (b:=66) (k:=.str) (v:=.bool) (left:=lk) (last:=ll) (by kernel_rfl) (by kernel_rfl) lC (st':=⟨[(0,.ptr 161 0),(1,.val bk l1),(2,.bW 129 161),(3,aU q),(10,.clos 164 [26,160]),(11,ax (List.length l1:Int)),(12,ax (List.length c2:Int)),(13,.osl 37),(15,ax t12),(52,ax (ai ((List.length l1:Int)+(1:Int)))),(53,ax t12),(66,.iter 66),(67,.dq [fT false])],[(26,.cells [.ptr 161 0] 240),(37,.aX 146 (.mp .str .bool) R),(66,.cj .str .bool lk ll),(160,.cells [.val bk t13] 61),(161,.cells [bg t23,.val au t24,.val bj t25,.val av t26,.val av t27,bN t28,aU t29,.iter 162,.clos 161 [163]] 280),(162,.mp bi bl m4),(163,.cells [.val (.ab .str) t30,.val au t31] 25)],[]⟩) (by kernel_rfl) (bz o [0,1,2,3,10,11,12,13,15,52,53,66,68] [26,37,66,160,161,162,163] [] (orc:=[]) (by kernel_rfl) .n (aH (aG (su (by kernel_rfl) (jS (fL (fL (jK (iH (aH (aT (cA o (orc:=[]) (by kernel_rfl) .n (iy (ai (t12+(1:Int)),R,t13,t23,t24,t25,t26,t27,t28,t29,m4,t30,t31) (Nat.lt_succ_self _) h)))))))))))))
       ·refine sj o (d:=67) (b:=66) (k:=.str) (v:=.bool) (left:=lk) (last:=ll) (p:=L) (by kernel_rfl) (by kernel_rfl) lC (st':=⟨[(0,.ptr 161 0),(1,.val bk l1),(2,.bW 129 161),(3,aU q),(10,.clos 164 [26,160]),(11,ax (List.length l1:Int)),(12,ax (List.length c2:Int)),(13,.osl 37),(15,ax t12),(52,ax (ai ((List.length l1:Int)+(1:Int)))),(53,ax t12),(66,.iter 66),(67,.dq [fT true,sm L.1,fT L.2])],[(26,.cells [.ptr 161 0] 240),(37,.aX 146 (.mp .str .bool) R),(66,.cj .str .bool ([]:List bu) [L]),(160,.cells [.val bk t13] 61),(161,.cells [bg t23,.val au t24,.val bj t25,.val av t26,.val av t27,bN t28,aU t29,.iter 162,.clos 161 [163]] 280),(162,.mp bi bl m4),(163,.cells [.val (.ab .str) t30,.val au t31] 25)],[]⟩) (by kernel_rfl) (bz o [0,1,2,3,10,11,12,13,15,52,53,66,68] [26,37,66,160,161,162,163] [] (orc:=[]) (by kernel_rfl) .n (aH (aG (rI (by kernel_rfl) (dn (aH (fy (aG (aT (bz o [0,1,2,3,10,11,12,13,15,16,52,53,66] [26,37,66,160,161,162,163] [] (orc:=[]) (by kernel_rfl) .n (aH (aG (aG (aT ?_))))))))))))))
        obtain⟨v2,an,h⟩:=bind_some h
        refine cA o (st':=⟨[(0,.ptr 161 0),(1,.val bk l1),(2,.bW 129 161),(3,aU q),(10,.clos 164 [26,160]),(11,ax (List.length l1:Int)),(12,ax (List.length c2:Int)),(13,.osl 37),(15,ax t12),(16,bg L.1),(52,ax (ai ((List.length l1:Int)+(1:Int)))),(53,ax t12),(66,.iter 66),(77,aU (decide ((256:Int)<(ai ((ai (v2+(List.length l1:Int)))-t12)))))],[(26,.cells [.ptr 161 0] 240),(37,.aX 146 (.mp .str .bool) R),(66,.cj .str .bool ([]:List bu) [L]),(160,.cells [.val bk t13] 61),(161,.cells [bg t23,.val au t24,.val bj t25,.val av t26,.val av t27,bN t28,aU t29,.iter 162,.clos 161 [163]] 280),(162,.mp bi bl m4),(163,.cells [.val (.ab .str) t30,.val au t31] 25)],[]⟩) (orc:=[jD v2]) (by kernel_rfl) (.c an .n) (aH (dg (b:=decide ((256:Int)<(ai ((ai (v2+(List.length l1:Int)))-t12)))) (by kernel_rfl) (fun lD=>?_) (fun lD=>?_)))
        ·replace h:=dS lD h
         refine aG (aT (bz o [0,2,8,9] [161,162,163] [8] (orc:=[]) (by kernel_rfl) .n (aH (eF (dr (fD (dr (fD (fD (dr (dr (fD (dr ?_)))))))))))))
         replace h:=Option.some.inj h
         subst h
         exact fI [0,2,8,9] [161,162,163] [8] [(161,161),(162,162),(163,163),(8,3500001)] (by kernel_rfl) (eV o.P [161,162,163] [3500001] (.inl rfl) (by kernel_rfl) (by kernel_rfl))
        ·replace h:=dP lD h
         refine dn (aH (aG (aT (ig o 3 [0,1,2,3,10,11,12,13,15,16,52,53,66,78,79,80] [26,37,66,160,161,162,163] [] (orc:=[]) (by kernel_rfl) .n ?_))))
         obtain⟨v3,ao,h⟩:=bind_some h
         refine nE o (Ef k) (L.1,t12,t23,t24,t25,t26,t27,t28,t29,m4,t30,t31,t13) v3 ao (ρ:=[(26,19),(161,20),(162,21),(163,22),(160,23)]) (ρ':=[(19,26),(20,161),(21,162),(22,163),(23,160)]) (n:=19) (by kernel_rfl) [0,1,2,3,10,11,12,13,15,16,52,53,66,81] [26,37,66,160,161,162,163] [] (by kernel_rfl) (by kernel_rfl) (by kernel_rfl) (cA o (st':=⟨[(0,.ptr 161 0),(1,.val bk l1),(2,.bW 129 161),(3,aU q),(10,.clos 164 [26,160]),(11,ax (List.length l1:Int)),(12,ax (List.length c2:Int)),(13,.osl 37),(15,ax t12),(16,bg L.1),(17,aU v3.1),(52,ax (ai ((List.length l1:Int)+(1:Int)))),(53,ax t12),(66,.iter 66)],[(26,.cells [.ptr 161 0] 240),(37,.aX 146 (.mp .str .bool) R),(66,.cj .str .bool ([]:List bu) [L]),(160,.cells [.val bk t13] 61),(161,.cells [bg v3.2.1,.val au v3.2.2.1,.val bj v3.2.2.2.1,.val av v3.2.2.2.2.1,.val av v3.2.2.2.2.2.1,bN v3.2.2.2.2.2.2.1,aU v3.2.2.2.2.2.2.2.1,.iter 162,.clos 161 [163]] 280),(162,.mp bi bl v3.2.2.2.2.2.2.2.2.1),(163,.cells [.val (.ab .str) v3.2.2.2.2.2.2.2.2.2.1,.val au v3.2.2.2.2.2.2.2.2.2.2] 25)],[]⟩) (orc:=[]) (by kernel_rfl) .n (aH (jH (α:=List dZ) (fun z=>qB t12 l1 L (jy k (ic k l1 c2 q U) t12 t13 l1 c2 q lc) v3 q z=some O) (fun ld=>⟨[(0,.ptr 161 0),(1,.val bk l1),(2,.bW 129 161),(3,aU q),(10,.clos 164 [26,160]),(11,ax (List.length l1:Int)),(12,ax (List.length c2:Int)),(13,.osl 37),(15,ax t12),(16,bg L.1),(17,aU v3.1),(52,ax (ai ((List.length l1:Int)+(1:Int)))),(53,ax t12),(66,.iter 66)],[(26,.cells [.ptr 161 0] 240),(37,.aX 146 (.mp .str .bool) ld),(66,.cj .str .bool ([]:List bu) [L]),(160,.cells [.val bk t13] 61),(161,.cells [bg v3.2.1,.val au v3.2.2.1,.val bj v3.2.2.2.1,.val av v3.2.2.2.2.1,.val av v3.2.2.2.2.2.1,bN v3.2.2.2.2.2.2.1,aU v3.2.2.2.2.2.2.2.1,.iter 162,.clos 161 [163]] 280),(162,.mp bi bl v3.2.2.2.2.2.2.2.2.1),(163,.cells [.val (.ab .str) v3.2.2.2.2.2.2.2.2.2.1,.val au v3.2.2.2.2.2.2.2.2.2.2] 25)],[]⟩) ?_ (fun lh=>?_))))
         ·rintro ld h
          unfold qB at h
          refine aG (aT (ig o 3 [0,1,2,3,10,11,12,13,15,16,52,53,66,118] [26,37,66,160,161,162,163] [] (orc:=[]) (by kernel_rfl) .n (yW (α:=Bool) (fun z=>Cv t12 l1 L ld (jy k (ic k l1 c2 q U) t12 t13 l1 c2 q lc) v3 z=some O) (fun t32=>⟨[(0,.ptr 161 0),(1,.val bk l1),(2,.bW 129 161),(3,aU q),(10,.clos 164 [26,160]),(11,ax (List.length l1:Int)),(12,ax (List.length c2:Int)),(13,.osl 37),(15,ax t12),(16,bg L.1),(52,ax (ai ((List.length l1:Int)+(1:Int)))),(53,ax t12),(66,.iter 66),(120,aU t32)],[(26,.cells [.ptr 161 0] 240),(37,.aX 146 (.mp .str .bool) ld),(66,.cj .str .bool ([]:List bu) [L]),(160,.cells [.val bk t13] 61),(161,.cells [bg v3.2.1,.val au v3.2.2.1,.val bj v3.2.2.2.1,.val av v3.2.2.2.2.1,.val av v3.2.2.2.2.2.1,bN v3.2.2.2.2.2.2.1,aU v3.2.2.2.2.2.2.2.1,.iter 162,.clos 161 [163]] 280),(162,.mp bi bl v3.2.2.2.2.2.2.2.2.1),(163,.cells [.val (.ab .str) v3.2.2.2.2.2.2.2.2.2.1,.val au v3.2.2.2.2.2.2.2.2.2.2] 25)],[]⟩) 2 ?_ (fun l7=>?_))))
          ·rintro t32 h
           unfold Cv at h
           refine jh (aH (dg (b:=t32) (by kernel_rfl) (fun lE=>?_) (fun lE=>?_)))
           ·replace h:=dS lE h
            refine aG (aT (bz o [0,1,2,3,10,11,12,13,15,20,52,53,66] [26,37,66,160,161,162,163] [] (orc:=[]) (by kernel_rfl) .n (aH (jH (α:=List UInt8) (fun z=>sY t12 ld (jy k (ic k l1 c2 q U) t12 t13 l1 c2 q lc) L v3 z=some O) (fun lF=>⟨[(0,.ptr 161 0),(1,.val bk l1),(2,.bW 129 161),(3,aU q),(10,.clos 164 [26,160]),(11,ax (List.length l1:Int)),(12,ax (List.length c2:Int)),(13,.osl 37),(15,ax t12),(20,bg lF),(52,ax (ai ((List.length l1:Int)+(1:Int)))),(53,ax t12),(66,.iter 66)],[(26,.cells [.ptr 161 0] 240),(37,.aX 146 (.mp .str .bool) ld),(66,.cj .str .bool ([]:List bu) [L]),(160,.cells [.val bk t13] 61),(161,.cells [bg v3.2.1,.val au v3.2.2.1,.val bj v3.2.2.2.1,.val av v3.2.2.2.2.1,.val av v3.2.2.2.2.2.1,bN v3.2.2.2.2.2.2.1,aU v3.2.2.2.2.2.2.2.1,.iter 162,.clos 161 [163]] 280),(162,.mp bi bl v3.2.2.2.2.2.2.2.2.1),(163,.cells [.val (.ab .str) v3.2.2.2.2.2.2.2.2.2.1,.val au v3.2.2.2.2.2.2.2.2.2.2] 25)],[]⟩) ?_ (fun lh=>?_)))))
            ·rintro lF h
             unfold sY at h
             refine aT ?_
             obtain⟨_,lG,h⟩:=bind_some h
             replace lG:=cV lG
             obtain⟨ap,lH,h⟩:=bind_some h
             replace lH:=jk lH
             obtain⟨l8,lI,h⟩:=bind_some h
             replace lI:=nu lI
             exact cA o (orc:=[⟨.map .str .bool,ap⟩,⟨.map .str .bool,some l8⟩]) (by kernel_rfl) (.c lG (.c lH (.c lI .n))) (iH (iy (List.set ld (ai (t12+(1:Int))).toNat (some (some (cU (aV .str) l8 lF true))),([]:List bu),[L],v3.2.1,v3.2.2.1,v3.2.2.2.1,v3.2.2.2.2.1,v3.2.2.2.2.2.1,v3.2.2.2.2.2.2.1,v3.2.2.2.2.2.2.2.1,v3.2.2.2.2.2.2.2.2.1,v3.2.2.2.2.2.2.2.2.2.1,v3.2.2.2.2.2.2.2.2.2.2) (Nat.lt_succ_self _) h))
            refine aG (aT (bz o [0,1,2,3,10,11,12,13,15,20,52,53,66,124] [26,37,66,160,161,162,163] [] (orc:=[]) (by kernel_rfl) .n (aH (dg (b:=decide (t12<(List.length l1:Int))) (by kernel_rfl) (fun lJ=>?_) (fun lJ=>?_)))))
            ·replace h:=dS lJ h
             refine aT ?_
             obtain⟨l9,aq,h⟩:=bind_some h
             obtain⟨_,lK,h⟩:=bind_some h
             replace lK:=cV lK
             exact cA o (orc:=[to l9]) (by kernel_rfl) (.c aq (.c lK .n)) (lh (L.1++((Utf8.encode l9).data.toList)) h)
            ·replace h:=dP lJ h
             exact dn (jm (by kernel_rfl) (lh L.1 h))
           ·replace h:=dP lE h
            exact dn (iH (jm (by kernel_rfl) (iy (ld,([]:List bu),[L],v3.2.1,v3.2.2.1,v3.2.2.2.1,v3.2.2.2.2.1,v3.2.2.2.2.2.1,v3.2.2.2.2.2.2.1,v3.2.2.2.2.2.2.2.1,v3.2.2.2.2.2.2.2.2.1,v3.2.2.2.2.2.2.2.2.2.1,v3.2.2.2.2.2.2.2.2.2.2) (Nat.lt_succ_self _) h)))
          refine GB 118 (b:=!v3.1) (by kernel_rfl) (fun lL=>?_) (fun lL=>?_)
          ·rw[FG lL]at h
           exact cA o (orc:=[]) (by kernel_rfl) .n (l7 true h)
          ·rw[Ho lL]at h
           exact cA o (orc:=[]) (by kernel_rfl) .n (l7 q h)
         refine aG (aT (bz o [0,1,2,3,10,11,12,13,15,16,17,52,53,66,82] [26,37,66,160,161,162,163] [] (orc:=[]) (by kernel_rfl) .n (aH (dg (b:=v3.1) (by kernel_rfl) (fun lM=>?_) (fun lM=>?_)))))
         ·replace h:=dS lM h
          refine aG (aT ?_)
          obtain⟨aa,ar,h⟩:=bind_some h
          refine ig o 8 [0,1,2,3,10,11,12,13,15,16,17,52,53,66,83,84,90] [26,37,66,160,161,162,163] [] (orc:=[⟨bk,aa⟩]) (by kernel_rfl) (.c ar .n) ?_
          obtain⟨v4,ay,h⟩:=bind_some h
          refine qw o (yR k) (aa,v3.2.1,v3.2.2.1,v3.2.2.2.1,v3.2.2.2.2.1,v3.2.2.2.2.2.1,v3.2.2.2.2.2.2.1,v3.2.2.2.2.2.2.2.1,v3.2.2.2.2.2.2.2.2.1,v3.2.2.2.2.2.2.2.2.2.1,v3.2.2.2.2.2.2.2.2.2.2) v4 ay (ρ:=[(161,42),(162,43),(163,44)]) (ρ':=[(42,161),(43,162),(44,163),(5,91)]) (n:=42) (by kernel_rfl) [0,1,2,3,10,11,12,13,15,16,17,52,53,66,83,91] [26,37,66,160,161,162,163] [91] (by kernel_rfl) (by kernel_rfl) (st':=⟨[(0,.ptr 161 0),(1,.val bk l1),(2,.bW 129 161),(3,aU q),(10,.clos 164 [26,160]),(11,ax (List.length l1:Int)),(12,ax (List.length c2:Int)),(13,.osl 37),(15,ax t12),(16,bg L.1),(17,aU v3.1),(52,ax (ai ((List.length l1:Int)+(1:Int)))),(53,ax t12),(66,.iter 66),(83,bg L.1),(91,.row 91)],[(26,.cells [.ptr 161 0] 240),(37,.aX 146 (.mp .str .bool) R),(66,.cj .str .bool ([]:List bu) [L]),(160,.cells [.val bk t13] 61),(161,.cells [bg v3.2.1,.val au v3.2.2.1,.val bj v3.2.2.2.1,.val av v3.2.2.2.2.1,.val av v3.2.2.2.2.2.1,bN v3.2.2.2.2.2.2.1,aU v3.2.2.2.2.2.2.2.1,.iter 162,.clos 161 [163]] 280),(162,.mp bi bl v3.2.2.2.2.2.2.2.2.1),(163,.cells [.val (.ab .str) v3.2.2.2.2.2.2.2.2.2.1,.val au v3.2.2.2.2.2.2.2.2.2.2] 25)],[(91,⟨21,(.int .i32),v4⟩)]⟩) (by kernel_rfl) ?_
          obtain⟨_,lN,h⟩:=bind_some h
          replace lN:=cV lN
          obtain⟨_,lO,h⟩:=bind_some h
          replace lO:=cV lO
          refine bz o [0,1,2,3,10,11,12,13,15,16,17,18,52,53,66] [26,37,66,160,161,162,163] [] (orc:=[]) (by kernel_rfl) (.c lN (.c lO .n)) (aH (aG (aT (bz o [0,1,2,3,10,11,12,13,15,16,17,18,19,52,53,66] [26,37,66,160,161,162,163] [] (orc:=[]) (by kernel_rfl) .n (aH (jH (α:=ba) (fun z=>so R t12 l1 L (jy k (ic k l1 c2 q U) t12 t13 l1 c2 q lc) v3 q z.1 z.2=some O) (fun z=>⟨[(0,.ptr 161 0),(1,.val bk l1),(2,.bW 129 161),(3,aU q),(10,.clos 164 [26,160]),(11,ax (List.length l1:Int)),(12,ax (List.length c2:Int)),(13,.osl 37),(15,ax t12),(16,bg L.1),(17,aU v3.1),(18,bg (z.1)),(19,ax (z.2)),(52,ax (ai ((List.length l1:Int)+(1:Int)))),(53,ax t12),(66,.iter 66)],[(26,.cells [.ptr 161 0] 240),(37,.aX 146 (.mp .str .bool) R),(66,.cj .str .bool ([]:List bu) [L]),(160,.cells [.val bk t13] 61),(161,.cells [bg v3.2.1,.val au v3.2.2.1,.val bj v3.2.2.2.1,.val av v3.2.2.2.2.1,.val av v3.2.2.2.2.2.1,bN v3.2.2.2.2.2.2.1,aU v3.2.2.2.2.2.2.2.1,.iter 162,.clos 161 [163]] 280),(162,.mp bi bl v3.2.2.2.2.2.2.2.2.1),(163,.cells [.val (.ab .str) v3.2.2.2.2.2.2.2.2.2.1,.val au v3.2.2.2.2.2.2.2.2.2.2] 25)],[]⟩) ?_ (fun ab=>?_)))))))
          ·rintro⟨az,aA⟩ h
           unfold so at h
           refine aT ?_
           obtain⟨_,lP,h⟩:=bind_some h
           replace lP:=cV lP
           obtain⟨aB,lQ,h⟩:=bind_some h
           replace lQ:=jk lQ
           obtain⟨ad,lR,h⟩:=bind_some h
           replace lR:=nu lR
           exact cA o (orc:=[⟨.map .str .bool,aB⟩,⟨.map .str .bool,some ad⟩]) (by kernel_rfl) (.c lP (.c lQ (.c lR .n))) (lh (List.set R (aA).toNat (some (some (cU (aV .str) ad az true)))) h)
          refine aG (aT (bz o [0,1,2,3,10,11,12,13,15,16,17,18,19,52,53,66,98] [26,37,66,160,161,162,163] [] (orc:=[]) (by kernel_rfl) .n (aH (dg (b:=(List.length c2:Int)==(0:Int)) (by kernel_rfl) (fun lS=>?_) (fun lS=>?_)))))
          ·replace h:=dS lS h
           refine jH (α:=List UInt8) (fun z=>sR R t12 l1 L (jy k (ic k l1 c2 q U) t12 t13 l1 c2 q lc) v3 q c2 z=some O) (fun lT=>⟨[(0,.ptr 161 0),(1,.val bk l1),(2,.bW 129 161),(3,aU q),(10,.clos 164 [26,160]),(11,ax (List.length l1:Int)),(12,ax (List.length c2:Int)),(13,.osl 37),(15,ax t12),(16,bg L.1),(17,aU v3.1),(18,bg lT),(19,ax (ai (t12+(List.length c2:Int)))),(52,ax (ai ((List.length l1:Int)+(1:Int)))),(53,ax t12),(66,.iter 66)],[(26,.cells [.ptr 161 0] 240),(37,.aX 146 (.mp .str .bool) R),(66,.cj .str .bool ([]:List bu) [L]),(160,.cells [.val bk t13] 61),(161,.cells [bg v3.2.1,.val au v3.2.2.1,.val bj v3.2.2.2.1,.val av v3.2.2.2.2.1,.val av v3.2.2.2.2.2.1,bN v3.2.2.2.2.2.2.1,aU v3.2.2.2.2.2.2.2.1,.iter 162,.clos 161 [163]] 280),(162,.mp bi bl v3.2.2.2.2.2.2.2.2.1),(163,.cells [.val (.ab .str) v3.2.2.2.2.2.2.2.2.2.1,.val au v3.2.2.2.2.2.2.2.2.2.2] 25)],[]⟩) ?_ (fun ae=>?_)
           ·rintro lT h
            unfold sR at h
            exact aT (cA o (orc:=[]) (by kernel_rfl) .n (ab (lT,ai ((ai (t12+(List.length c2:Int)))+(1:Int))) h))
           refine aG (aT (bz o [0,1,2,3,10,11,12,13,15,16,17,18,19,52,53,66,101] [26,37,66,160,161,162,163] [] (orc:=[]) (by kernel_rfl) .n (aH (dg (b:=decide (t12<(List.length l1:Int))) (by kernel_rfl) (fun lU=>?_) (fun lU=>?_)))))
           ·replace h:=dS lU h
            refine aT ?_
            obtain⟨af,aD,h⟩:=bind_some h
            obtain⟨_,lV,h⟩:=bind_some h
            replace lV:=cV lV
            exact cA o (orc:=[to af]) (by kernel_rfl) (.c aD (.c lV .n)) (ae ((L.1++(dC v4))++((Utf8.encode af).data.toList)) h)
           ·replace h:=dP lU h
            exact dn (jm (by kernel_rfl) (ae (L.1++(dC v4)) h))
          ·replace h:=dP lS h
           exact dn (jm (by kernel_rfl) (ab (L.1++(dC v4),ai (t12+(List.length c2:Int))) h))
         ·replace h:=dP lM h
          exact dn (jm (by kernel_rfl) (lh R h))
    ·replace h:=dP ly h
     refine jS (fL (fL (jK (aH (aG (aT ?_))))))
     obtain⟨_,lW,h⟩:=bind_some h
     replace lW:=cV lW
     obtain⟨lX,lY,h⟩:=bind_some h
     replace lY:=jk lY
     refine bz o [0,2,21] [161,162,163] [] (orc:=[⟨.unit,()⟩,⟨.map .str .bool,lX⟩]) (by kernel_rfl) (.c lW (.c lY .n)) (aH (aG (aG (aT (bz o [0,2,21,146] [161,162,163] [] (orc:=[]) (by kernel_rfl) .n (aH (dg (b:=decide ((1024:Int)<(List.length (lX.getD []):Int))) (by kernel_rfl) (fun lZ=>?_) (fun lZ=>?_))))))))
     ·replace h:=dS lZ h
      refine aG (aT (cA o (st':=⟨[(0,.ptr 161 0),(2,.bW 129 161),(8,.row 8),(9,ax (9:Int))],[(161,.cells [bg t14,.val au t15,.val bj t16,.val av t17,.val av t18,bN t19,aU t20,.iter 162,.clos 161 [163]] 280),(162,.mp bi bl m3),(163,.cells [.val (.ab .str) t21,.val au t22] 25)],[(8,⟨9,.str,([]:List (List UInt8))⟩)]⟩) (orc:=[]) (by kernel_rfl) .n (aH (eF (dr ?_)))))
      replace h:=Option.some.inj h
      subst h
      exact fI [0,2,8,9] [161,162,163] [8] [(161,161),(162,162),(163,163),(8,3500001)] (by kernel_rfl) (eV o.P [161,162,163] [3500001] (.inl rfl) (by kernel_rfl) (by kernel_rfl))
     ·replace h:=dP lZ h
      refine dn (aH (aG (aT (bz o [0,2,21,22] [161,162,163] [22] (orc:=[]) (by kernel_rfl) .n (aH (aG (aG (aT (cA o (orc:=[]) (by kernel_rfl) .n (aH (fy (js (α:=(List bu×List bu×List (List UInt8))) (fun n z=>rB k t14 t15 t16 t17 t18 t19 t20 m3 t21 t22 n z.1 z.2.1 z.2.2=some O) (fun z=>⟨[(0,.ptr 161 0),(2,.bW 129 161),(22,.row 22),(148,.iter 148)],[(148,.cj .str .bool (z.1) (z.2.1)),(161,.cells [bg t14,.val au t15,.val bj t16,.val av t17,.val av t18,bN t19,aU t20,.iter 162,.clos 161 [163]] 280),(162,.mp bi bl m3),(163,.cells [.val (.ab .str) t21,.val au t22] 25)],[(22,⟨9,.str,(z.2.2)⟩)]⟩) ?_ (k:=k) (x:=(lX.getD [],([]:List bu),([]:List (List UInt8)))) h))))))))))))
      clear h
      rintro l0 ⟨lm,ln,li⟩ h
      cases l0 with
      |zero=>exact absurd (show none=some _ from h) (by simp)
      |succ l0=>
       have h:vp k t14 t15 t16 t17 t18 t19 t20 m3 t21 t22 (rB k t14 t15 t16 t17 t18 t19 t20 m3 t21 t22 l0) lm ln li=some O:=h
       unfold vp at h
       refine aG (aT ?_)
       rcases qZ h with ⟨l3,h⟩|⟨le,l3,h⟩
       ·refine sh o (d:=149) (b:=148) (k:=.str) (v:=.bool) (left:=lm) (last:=ln) (by kernel_rfl) (by kernel_rfl) l3 (st':=⟨[(0,.ptr 161 0),(2,.bW 129 161),(22,.row 22),(148,.iter 148),(149,.dq [fT false])],[(148,.cj .str .bool lm ln),(161,.cells [bg t14,.val au t15,.val bj t16,.val av t17,.val av t18,bN t19,aU t20,.iter 162,.clos 161 [163]] 280),(162,.mp bi bl m3),(163,.cells [.val (.ab .str) t21,.val au t22] 25)],[(22,⟨9,.str,li⟩)]⟩) (by kernel_rfl) (bz o [0,2,22,148,150] [148,161,162,163] [22] (orc:=[]) (by kernel_rfl) .n (aH (aG (su (by kernel_rfl) (jS (fL (fL (jK (aH (aG (aT (bz o [0,2,8,9] [161,162,163] [22] (orc:=[]) (by kernel_rfl) .n (aH (eF ?_))))))))))))))
        replace h:=Option.some.inj h
        subst h
        exact fI [0,2,8,9] [161,162,163] [22] [(161,161),(162,162),(163,163),(22,3500001)] (by kernel_rfl) (eV o.P [161,162,163] [3500001] (.inl rfl) (by kernel_rfl) (by kernel_rfl))
       ·refine sj o (d:=149) (b:=148) (k:=.str) (v:=.bool) (left:=lm) (last:=ln) (p:=le) (by kernel_rfl) (by kernel_rfl) l3 (st':=⟨[(0,.ptr 161 0),(2,.bW 129 161),(22,.row 22),(148,.iter 148),(149,.dq [fT true,sm le.1,fT le.2])],[(148,.cj .str .bool ([]:List bu) [le]),(161,.cells [bg t14,.val au t15,.val bj t16,.val av t17,.val av t18,bN t19,aU t20,.iter 162,.clos 161 [163]] 280),(162,.mp bi bl m3),(163,.cells [.val (.ab .str) t21,.val au t22] 25)],[(22,⟨9,.str,li⟩)]⟩) (by kernel_rfl) (bz o [0,2,22,148,150] [148,161,162,163] [22] (orc:=[]) (by kernel_rfl) .n (aH (aG (rI (by kernel_rfl) (dn (aH (fy (aG (aT (cA o (st':=⟨[(0,.ptr 161 0),(2,.bW 129 161),(22,.row 22),(23,bg le.1),(148,.iter 148)],[(148,.cj .str .bool ([]:List bu) [le]),(161,.cells [bg t14,.val au t15,.val bj t16,.val av t17,.val av t18,bN t19,aU t20,.iter 162,.clos 161 [163]] 280),(162,.mp bi bl m3),(163,.cells [.val (.ab .str) t21,.val au t22] 25)],[(22,⟨9,.str,li⟩)]⟩) (orc:=[]) (by kernel_rfl) .n (aH (aG (aG (aT ?_))))))))))))))
        obtain⟨v5,aE,h⟩:=bind_some h
        refine bz o [0,2,22,23,148,155] [148,161,162,163] [22] (orc:=[jD v5]) (by kernel_rfl) (.c aE .n) (aH (dg (b:=decide ((256:Int)<v5)) (by kernel_rfl) (fun l4=>?_) (fun l4=>?_)))
        ·replace h:=dS l4 h
         refine aG (aT (bz o [0,2,8,9] [161,162,163] [8] (orc:=[]) (by kernel_rfl) .n (aH (eF (dr (fD (dr (fD (dr ?_)))))))))
         replace h:=Option.some.inj h
         subst h
         exact fI [0,2,8,9] [161,162,163] [8] [(161,161),(162,162),(163,163),(8,3500001)] (by kernel_rfl) (eV o.P [161,162,163] [3500001] (.inl rfl) (by kernel_rfl) (by kernel_rfl))
        ·replace h:=dP l4 h
         refine dn (aH (aT ?_))
         obtain⟨_,l5,h⟩:=bind_some h
         replace l5:=cV l5
         exact cA o (orc:=[]) (by kernel_rfl) (.c l5 .n) (iH (iy (([]:List bu),[le],li++([le.1]:List (List UInt8))) (Nat.lt_succ_self _) h))
noncomputable def qu(k:Nat):cn Tryz.prog am qt bU:=⟨127,DH k,fun st=>bp st [.ab 1 bk,.ab 3 .bool,.ad 161 0 .str,.ad 161 1 au,.ad 161 2 bj,.ad 161 3 av,.ad 161 4 av,.ad 161 5 (.int .u8),.ad 161 6 .bool,.mp 162 bi bl,.ad 163 0 (.ab .str),.ad 163 1 au],fun z=>kA k (z.1) (z.2.1) (z.2.2.1) (z.2.2.2.1) (z.2.2.2.2.1) (z.2.2.2.2.2.1) (z.2.2.2.2.2.2.1) (z.2.2.2.2.2.2.2.1) (z.2.2.2.2.2.2.2.2.1) (z.2.2.2.2.2.2.2.2.2.1) (z.2.2.2.2.2.2.2.2.2.2.1) (z.2.2.2.2.2.2.2.2.2.2.2),(RF k),fun _ _ h=>h⟩
end Go.Ev
