/- Contracts, by program. -/
import Derived.Test.YtgkgdfmldioddaaGreatDoorProg
import Derived.Test.YtgkgdfmldioddaaGreatDoorMM6
import Derived.Test.YtgkgdfmldioddaaGreatDoorMM8
import Derived.Test.YtgkgdfmldioddaaGreatDoorMM9
import Derived.Test.YtgkgdfmldioddaaGreatDoorCtCfP5
import Derived.Test.YtgkgdfmldioddaaGreatDoorCtCfP7
import Derived.KernelRfl
import Derived.Test.YtgkgdfmldioddaaGreatDoorTyA
set_option linter.unusedSectionVars false
set_option linter.unusedVariables false
set_option linter.unusedSimpArgs false
namespace Go.Ev
open Go Go.Proofs
set_option linter.unusedVariables false
set_option maxRecDepth 100000
noncomputable def Lp(k:Nat):cJ xw b7 where
 n:=161
 S:=fun z=>⟨[(0,.ptr 161 0),(1,.val bg (z.1)),(2,.bX 138 161),(3,aM (z.2.1))],[(161,.cells [bd (z.2.2.1),.val aq (z.2.2.2.1),.val bh (z.2.2.2.2.1),.val au (z.2.2.2.2.2.1),.val au (z.2.2.2.2.2.2.1),bO (z.2.2.2.2.2.2.2.1),aM (z.2.2.2.2.2.2.2.2.1),.iter 162,.clos 163 [163]] 241),(162,.mp bf bi (z.2.2.2.2.2.2.2.2.2.1)),(163,.cells [.val (.ab .str) (z.2.2.2.2.2.2.2.2.2.2.1),.val aq (z.2.2.2.2.2.2.2.2.2.2.2)] 25)],[]⟩
 be:=fun z y=>⟨[],[(161,.cells [bd (y.2.1),.val aq (y.2.2.1),.val bh (y.2.2.2.1),.val au (y.2.2.2.2.1),.val au (y.2.2.2.2.2.1),bO (y.2.2.2.2.2.2.1),aM (y.2.2.2.2.2.2.2.1),.iter 162,.clos 163 [163]] 241),(162,.mp bf bi (y.2.2.2.2.2.2.2.2.1)),(163,.cells [.val (.ab .str) (y.2.2.2.2.2.2.2.2.2.1),.val aq (y.2.2.2.2.2.2.2.2.2.2.1)] 25)],[(3500001,⟨9,.str,(y.2.2.2.2.2.2.2.2.2.2.2)⟩)]⟩
 ar:=fun z y=>[.row 3500001,aw (y.1)]
 rel:=fun z y=>ol k (z.1) (z.2.1) (z.2.2.1) (z.2.2.2.1) (z.2.2.2.2.1) (z.2.2.2.2.2.1) (z.2.2.2.2.2.2.1) (z.2.2.2.2.2.2.2.1) (z.2.2.2.2.2.2.2.2.1) (z.2.2.2.2.2.2.2.2.2.1) (z.2.2.2.2.2.2.2.2.2.2.1) (z.2.2.2.2.2.2.2.2.2.2.2)=some y
noncomputable def Ow(k:Nat):Env:=cy Tryz.prog an 161 [Jf k]
theorem O4(k:Nat):cF Tryz.prog an 136 (Lp k):=by
 refine oL (fn:=Tryz.f136) Tryz.func136 (by kernel_rfl) rfl Tryz.ntmps136 ?_
 rintro cx ag ah aj ⟨l1,O,c1,c2,c3,c4,c5,c6,c7,m1,c8,c9⟩ W h
 have o:br (Ow k) cx:=kb ag ah aj
 replace h:ol k l1 O c1 c2 c3 c4 c5 c6 c7 m1 c8 c9=some W:=h
 unfold ol at h
 refine ay (aK (bl o [0,1,2,3] [161,162,163] [] (orc:=[]) (by kernel_rfl) .n (ax (ay (aK (fE o 2 [0,1,2,3,24,25] [161,162,163] [] (orc:=[]) (by kernel_rfl) .n ?_))))))
 obtain⟨v1,ak,h⟩:=bind_some h
 refine qA o (GX k) (l1,c1,c2,c3,c4,c5,c6,c7,m1,c8,c9) v1 ak (ρ:=[(161,6),(162,7),(163,8)]) (ρ':=[(2,26),(3,160),(6,161),(7,162),(8,163)]) (n:=6) (by kernel_rfl) [0,1,2,3,26] [26,160,161,162,163] [] (by kernel_rfl) (by kernel_rfl) (by kernel_rfl) (bF o (st':=⟨[(0,.ptr 161 0),(1,.val bg l1),(2,.bX 138 161),(3,aM O),(10,.clos 170 [26,160])],[(26,.cells [.ptr 161 0] 212),(160,.cells [.val bg v1] 50),(161,.cells [bd c1,.val aq c2,.val bh c3,.val au c4,.val au c5,bO c6,aM c7,.iter 162,.clos 163 [163]] 241),(162,.mp bf bi m1),(163,.cells [.val (.ab .str) c8,.val aq c9] 25)],[]⟩) (orc:=[]) (by kernel_rfl) .n (ax (ay (Cs o (by kernel_rfl) (by kernel_rfl) (H3 o [0,1,2,3,10,11,12] [26,160,161,162,163] [] (orc:=[]) (by kernel_rfl) .n (ax (ay (aK ?_))))))))
 obtain⟨_,ln,h⟩:=bind_some h
 replace ln:=dy ln
 obtain⟨_,lo,h⟩:=bind_some h
 replace lo:=dy lo
 refine bl o [0,1,2,3,10,11,12,13] [26,37,160,161,162,163] [] (orc:=[⟨.unit,()⟩]) (by kernel_rfl) (.c (show(List.replicate (ai ((List.length l1:Int)+(2:Int))).toNat (none:Option bP))=List.replicate (List.length (List.replicate (ai ((List.length l1:Int)+(2:Int))).toNat (none:Option bP))) ((none:Option bP))/\0<List.length (List.replicate (ai ((List.length l1:Int)+(2:Int))).toNat (none:Option bP))from HS (none:Option bP) ln) (.c lo .n)) (ax (ay (ay (aK (bF o (orc:=[]) (by kernel_rfl) .n (ax (fF (jN (α:=(Int×List eO)) (fun n z=>rp k l1 c2 O v1 c1 c3 c4 c5 c6 c7 m1 c8 c9 n z.1 z.2=some W) (fun z=>⟨[(0,.ptr 161 0),(1,.val bg l1),(2,.bX 138 161),(3,aM O),(10,.clos 170 [26,160]),(11,aw (List.length l1:Int)),(12,aw (List.length c2:Int)),(13,.osl 37),(39,aw (List.length (List.map some (List.replicate (ai ((List.length l1:Int)+(2:Int))).toNat (none:Option bP))):Int)),(40,aw (z.1))],[(26,.cells [.ptr 161 0] 212),(37,.aT 120 (.mp .str .bool) (z.2)),(160,.cells [.val bg v1] 50),(161,.cells [bd c1,.val aq c2,.val bh c3,.val au c4,.val au c5,bO c6,aM c7,.iter 162,.clos 163 [163]] 241),(162,.mp bf bi m1),(163,.cells [.val (.ab .str) c8,.val aq c9] 25)],[]⟩) ?_ (k:=k) (x:=((0:Int),List.map some (List.replicate (ai ((List.length l1:Int)+(2:Int))).toNat (none:Option bP)))) h))))))))
 clear h
 rintro lp ⟨t11,lj⟩ h
 cases lp with
 |zero=>exact absurd (show none=some _ from h) (by simp)
 |succ lp=>
  have h:zF k l1 c2 O v1 c1 c3 c4 c5 c6 c7 m1 c8 c9 (rp k l1 c2 O v1 c1 c3 c4 c5 c6 c7 m1 c8 c9 lp) t11 lj=some W:=h
  unfold zF at h
  refine ay (aK (bl o [0,1,2,3,10,11,12,13,39,40,41] [26,37,160,161,162,163] [] (orc:=[]) (by kernel_rfl) .n (ax (ay (da (b:=decide (t11<(List.length (List.map some (List.replicate (ai ((List.length l1:Int)+(2:Int))).toNat (none:Option bP))):Int))) (by kernel_rfl) (fun lq=>?_) (fun lq=>?_))))))
  ·replace h:=dw lq h
   refine dc (ax (ay (fF (ay (aK (bl o [0,1,2,3,10,11,12,13,14,39,40] [26,37,160,161,162,163] [] (orc:=[]) (by kernel_rfl) .n (ax (aK ?_))))))))
   obtain⟨_,lr,h⟩:=bind_some h
   replace lr:=dy lr
   obtain⟨_,lt,h⟩:=bind_some h
   replace lt:=dy lt
   exact bl o [0,1,2,3,10,11,12,13,39,40] [26,37,160,161,162,163] [] (orc:=[]) (by kernel_rfl) (.c lr (.c lt .n)) (iO (ax (aK (bF o (orc:=[]) (by kernel_rfl) .n (jc (ai (t11+(1:Int)),List.set lj (t11).toNat (some (some ([]:List bv)))) (Nat.lt_succ_self _) h)))))
  ·replace h:=dr lq h
   refine jR (fW (fW (kB (ax (ay (aK ?_))))))
   obtain⟨_,lu,h⟩:=bind_some h
   replace lu:=dy lu
   obtain⟨am,lv,h⟩:=bind_some h
   replace lv:=kZ lv
   obtain⟨lw,lx,h⟩:=bind_some h
   replace lx:=qv lx
   refine bF o (st':=⟨[(0,.ptr 161 0),(1,.val bg l1),(2,.bX 138 161),(3,aM O),(10,.clos 170 [26,160]),(11,aw (List.length l1:Int)),(12,aw (List.length c2:Int)),(13,.osl 37)],[(26,.cells [.ptr 161 0] 212),(37,.aT 120 (.mp .str .bool) (List.set lj ((0:Int)).toNat (some (some (cb (aD .str) lw ([]:List UInt8) true))))),(160,.cells [.val bg v1] 50),(161,.cells [bd c1,.val aq c2,.val bh c3,.val au c4,.val au c5,bO c6,aM c7,.iter 162,.clos 163 [163]] 241),(162,.mp bf bi m1),(163,.cells [.val (.ab .str) c8,.val aq c9] 25)],[]⟩) (orc:=[⟨.map .str .bool,am⟩,⟨.map .str .bool,some lw⟩]) (by kernel_rfl) (.c lu (.c lv (.c lx .n))) (ax (ay (ay (aK (bF o (orc:=[]) (by kernel_rfl) .n (ax (fF (jN (α:=(Int×List eO×List (Int)×List UInt8×List av×List bG×List aB×List aB×Int×Bool×List bV×List (List UInt8)×List av)) (fun n z=>iH k l1 c2 O n z.1 z.2.1 z.2.2.1 z.2.2.2.1 z.2.2.2.2.1 z.2.2.2.2.2.1 z.2.2.2.2.2.2.1 z.2.2.2.2.2.2.2.1 z.2.2.2.2.2.2.2.2.1 z.2.2.2.2.2.2.2.2.2.1 z.2.2.2.2.2.2.2.2.2.2.1 z.2.2.2.2.2.2.2.2.2.2.2.1 z.2.2.2.2.2.2.2.2.2.2.2.2=some W) (fun z=>⟨[(0,.ptr 161 0),(1,.val bg l1),(2,.bX 138 161),(3,aM O),(10,.clos 170 [26,160]),(11,aw (List.length l1:Int)),(12,aw (List.length c2:Int)),(13,.osl 37),(52,aw (ai ((List.length l1:Int)+(1:Int)))),(53,aw (z.1))],[(26,.cells [.ptr 161 0] 212),(37,.aT 120 (.mp .str .bool) (z.2.1)),(160,.cells [.val bg (z.2.2.1)] 50),(161,.cells [bd (z.2.2.2.1),.val aq (z.2.2.2.2.1),.val bh (z.2.2.2.2.2.1),.val au (z.2.2.2.2.2.2.1),.val au (z.2.2.2.2.2.2.2.1),bO (z.2.2.2.2.2.2.2.2.1),aM (z.2.2.2.2.2.2.2.2.2.1),.iter 162,.clos 163 [163]] 241),(162,.mp bf bi (z.2.2.2.2.2.2.2.2.2.2.1)),(163,.cells [.val (.ab .str) (z.2.2.2.2.2.2.2.2.2.2.2.1),.val aq (z.2.2.2.2.2.2.2.2.2.2.2.2)] 25)],[]⟩) ?_ (k:=k) (x:=((0:Int),List.set lj ((0:Int)).toNat (some (some (cb (aD .str) lw ([]:List UInt8) true))),v1,c1,c2,c3,c4,c5,c6,c7,m1,c8,c9)) h))))))))
   clear h
   rintro Z ⟨t12,l6,t13,t14,t15,t16,t17,t18,t19,t20,m3,t21,t22⟩ h
   cases Z with
   |zero=>exact absurd (show none=some _ from h) (by simp)
   |succ Z=>
    have h:xL k l1 c2 O (iH k l1 c2 O Z) t12 l6 t13 t14 t15 t16 t17 t18 t19 t20 m3 t21 t22=some W:=h
    unfold xL at h
    refine ay (aK (bl o [0,1,2,3,10,11,12,13,52,53,54] [26,37,160,161,162,163] [] (orc:=[]) (by kernel_rfl) .n (ax (ay (da (b:=decide (t12<(ai ((List.length l1:Int)+(1:Int))))) (by kernel_rfl) (fun ly=>?_) (fun ly=>?_))))))
    ·replace h:=dw ly h
     refine dc (ax (ay (fF (ay (aK (bl o [0,1,2,3,10,11,12,13,15,52,53] [26,37,160,161,162,163] [] (orc:=[]) (by kernel_rfl) .n (ax (ay (ay (aK ?_))))))))))
     obtain⟨_,lz,h⟩:=bind_some h
     replace lz:=dy lz
     obtain⟨lf,lg,h⟩:=bind_some h
     replace lg:=kZ lg
     refine bl o [0,1,2,3,10,11,12,13,15,52,53,61] [26,37,160,161,162,163] [] (orc:=[⟨.map .str .bool,lf⟩,⟨.map .str .bool,lf⟩]) (by kernel_rfl) (.c lz (.c lg (.c lg .n))) (ax (da (b:=decide ((1024:Int)<(List.length (Option.getD lf []):Int))) (by kernel_rfl) (fun lA=>?_) (fun lA=>?_)))
     ·replace h:=dw lA h
      refine ay (aK (bF o (st':=⟨[(0,.ptr 161 0),(2,.bX 138 161),(8,.row 8),(9,aw (9:Int))],[(161,.cells [bd t14,.val aq t15,.val bh t16,.val au t17,.val au t18,bO t19,aM t20,.iter 162,.clos 163 [163]] 241),(162,.mp bf bi m3),(163,.cells [.val (.ab .str) t21,.val aq t22] 25)],[(8,⟨9,.str,([]:List (List UInt8))⟩)]⟩) (orc:=[]) (by kernel_rfl) .n (ax (ep (cQ (fl (cQ (cQ (fl (cQ ?_))))))))))
      replace h:=Option.some.inj h
      subst h
      exact hU [0,2,8,9] [161,162,163] [8] [(161,161),(162,162),(163,163),(8,3500001)] (by kernel_rfl) (fT o.P [161,162,163] [3500001] (.inl rfl) (by kernel_rfl) (by kernel_rfl))
     ·replace h:=dr lA h
      refine dc (ax (ay (aK ?_)))
      obtain⟨_,lB,h⟩:=bind_some h
      replace lB:=dy lB
      refine bF o (orc:=[⟨.unit,()⟩,⟨.map .str .bool,lf⟩]) (by kernel_rfl) (.c lB (.c lg .n)) (ax (fF (jN (α:=(List eO×List bv×List bv×List UInt8×List av×List bG×List aB×List aB×Int×Bool×List bV×List (List UInt8)×List av)) (fun n z=>gM k (iH k l1 c2 O Z) t12 t13 l1 c2 O n z.1 z.2.1 z.2.2.1 z.2.2.2.1 z.2.2.2.2.1 z.2.2.2.2.2.1 z.2.2.2.2.2.2.1 z.2.2.2.2.2.2.2.1 z.2.2.2.2.2.2.2.2.1 z.2.2.2.2.2.2.2.2.2.1 z.2.2.2.2.2.2.2.2.2.2.1 z.2.2.2.2.2.2.2.2.2.2.2.1 z.2.2.2.2.2.2.2.2.2.2.2.2=some W) (fun z=>⟨[(0,.ptr 161 0),(1,.val bg l1),(2,.bX 138 161),(3,aM O),(10,.clos 170 [26,160]),(11,aw (List.length l1:Int)),(12,aw (List.length c2:Int)),(13,.osl 37),(15,aw t12),(52,aw (ai ((List.length l1:Int)+(1:Int)))),(53,aw t12),(66,.iter 66)],[(26,.cells [.ptr 161 0] 212),(37,.aT 120 (.mp .str .bool) (z.1)),(66,.cp .str .bool (z.2.1) (z.2.2.1)),(160,.cells [.val bg t13] 50),(161,.cells [bd (z.2.2.2.1),.val aq (z.2.2.2.2.1),.val bh (z.2.2.2.2.2.1),.val au (z.2.2.2.2.2.2.1),.val au (z.2.2.2.2.2.2.2.1),bO (z.2.2.2.2.2.2.2.2.1),aM (z.2.2.2.2.2.2.2.2.2.1),.iter 162,.clos 163 [163]] 241),(162,.mp bf bi (z.2.2.2.2.2.2.2.2.2.2.1)),(163,.cells [.val (.ab .str) (z.2.2.2.2.2.2.2.2.2.2.2.1),.val aq (z.2.2.2.2.2.2.2.2.2.2.2.2)] 25)],[]⟩) ?_ (k:=k) (x:=(List.set l6 (t12).toNat none,lf.getD [],([]:List bv),t14,t15,t16,t17,t18,t19,t20,m3,t21,t22)) h)))
      clear h
      rintro la ⟨Y,lk,ll,t23,t24,t25,t26,t27,t28,t29,m4,t30,t31⟩ h
      cases la with
      |zero=>exact absurd (show none=some _ from h) (by simp)
      |succ la=>
       have h:vD k (iH k l1 c2 O Z) t12 t13 l1 c2 O (gM k (iH k l1 c2 O Z) t12 t13 l1 c2 O la) Y lk ll t23 t24 t25 t26 t27 t28 t29 m4 t30 t31=some W:=h
       unfold vD at h
       refine ay (aK ?_)
       rcases zh h with ⟨lC,h⟩|⟨U,lC,h⟩
       ·exact wi o (d:=67) (b:=66) (k:=.str) (v:=.bool) (left:=lk) (last:=ll) (by kernel_rfl) (by kernel_rfl) lC (st':=⟨[(0,.ptr 161 0),(1,.val bg l1),(2,.bX 138 161),(3,aM O),(10,.clos 170 [26,160]),(11,aw (List.length l1:Int)),(12,aw (List.length c2:Int)),(13,.osl 37),(15,aw t12),(52,aw (ai ((List.length l1:Int)+(1:Int)))),(53,aw t12),(66,.iter 66),(67,.dP [gY false])],[(26,.cells [.ptr 161 0] 212),(37,.aT 120 (.mp .str .bool) Y),(66,.cp .str .bool lk ll),(160,.cells [.val bg t13] 50),(161,.cells [bd t23,.val aq t24,.val bh t25,.val au t26,.val au t27,bO t28,aM t29,.iter 162,.clos 163 [163]] 241),(162,.mp bf bi m4),(163,.cells [.val (.ab .str) t30,.val aq t31] 25)],[]⟩) (by kernel_rfl) (bl o [0,1,2,3,10,11,12,13,15,52,53,66,68] [26,37,66,160,161,162,163] [] (orc:=[]) (by kernel_rfl) .n (ax (ay (vL (by kernel_rfl) (jR (fW (fW (kB (iO (ax (aK (bF o (orc:=[]) (by kernel_rfl) .n (jc (ai (t12+(1:Int)),Y,t13,t23,t24,t25,t26,t27,t28,t29,m4,t30,t31) (Nat.lt_succ_self _) h)))))))))))))
       ·refine yI o (d:=67) (b:=66) (k:=.str) (v:=.bool) (left:=lk) (last:=ll) (p:=U) (by kernel_rfl) (by kernel_rfl) lC (st':=⟨[(0,.ptr 161 0),(1,.val bg l1),(2,.bX 138 161),(3,aM O),(10,.clos 170 [26,160]),(11,aw (List.length l1:Int)),(12,aw (List.length c2:Int)),(13,.osl 37),(15,aw t12),(52,aw (ai ((List.length l1:Int)+(1:Int)))),(53,aw t12),(66,.iter 66),(67,.dP [gY true,yK U.1,gY U.2])],[(26,.cells [.ptr 161 0] 212),(37,.aT 120 (.mp .str .bool) Y),(66,.cp .str .bool ([]:List bv) [U]),(160,.cells [.val bg t13] 50),(161,.cells [bd t23,.val aq t24,.val bh t25,.val au t26,.val au t27,bO t28,aM t29,.iter 162,.clos 163 [163]] 241),(162,.mp bf bi m4),(163,.cells [.val (.ab .str) t30,.val aq t31] 25)],[]⟩) (by kernel_rfl) (bl o [0,1,2,3,10,11,12,13,15,52,53,66,68] [26,37,66,160,161,162,163] [] (orc:=[]) (by kernel_rfl) .n (ax (ay (zd (by kernel_rfl) (dc (ax (fF (ay (aK (bl o [0,1,2,3,10,11,12,13,15,16,52,53,66] [26,37,66,160,161,162,163] [] (orc:=[]) (by kernel_rfl) .n (ax (ay (ay (aK ?_))))))))))))))
        obtain⟨v2,ao,h⟩:=bind_some h
        refine bF o (st':=⟨[(0,.ptr 161 0),(1,.val bg l1),(2,.bX 138 161),(3,aM O),(10,.clos 170 [26,160]),(11,aw (List.length l1:Int)),(12,aw (List.length c2:Int)),(13,.osl 37),(15,aw t12),(16,bd U.1),(52,aw (ai ((List.length l1:Int)+(1:Int)))),(53,aw t12),(66,.iter 66),(77,aM (decide ((256:Int)<(ai ((ai (v2+(List.length l1:Int)))-t12)))))],[(26,.cells [.ptr 161 0] 212),(37,.aT 120 (.mp .str .bool) Y),(66,.cp .str .bool ([]:List bv) [U]),(160,.cells [.val bg t13] 50),(161,.cells [bd t23,.val aq t24,.val bh t25,.val au t26,.val au t27,bO t28,aM t29,.iter 162,.clos 163 [163]] 241),(162,.mp bf bi m4),(163,.cells [.val (.ab .str) t30,.val aq t31] 25)],[]⟩) (orc:=[mn v2]) (by kernel_rfl) (.c ao .n) (ax (da (b:=decide ((256:Int)<(ai ((ai (v2+(List.length l1:Int)))-t12)))) (by kernel_rfl) (fun lD=>?_) (fun lD=>?_)))
        ·replace h:=dw lD h
         refine ay (aK (bl o [0,2,8,9] [161,162,163] [8] (orc:=[]) (by kernel_rfl) .n (ax (ep (cQ (fl (cQ (fl (fl (cQ (cQ (fl (cQ ?_)))))))))))))
         replace h:=Option.some.inj h
         subst h
         exact hU [0,2,8,9] [161,162,163] [8] [(161,161),(162,162),(163,163),(8,3500001)] (by kernel_rfl) (fT o.P [161,162,163] [3500001] (.inl rfl) (by kernel_rfl) (by kernel_rfl))
        ·replace h:=dr lD h
         refine dc (ax (ay (aK (fE o 3 [0,1,2,3,10,11,12,13,15,16,52,53,66,78,79,80] [26,37,66,160,161,162,163] [] (orc:=[]) (by kernel_rfl) .n ?_))))
         obtain⟨v3,ap,h⟩:=bind_some h
         refine qA o (HI k) (U.1,t12,t23,t24,t25,t26,t27,t28,t29,m4,t30,t31,t13) v3 ap (ρ:=[(26,19),(161,20),(162,21),(163,22),(160,23)]) (ρ':=[(19,26),(20,161),(21,162),(22,163),(23,160)]) (n:=19) (by kernel_rfl) [0,1,2,3,10,11,12,13,15,16,52,53,66,81] [26,37,66,160,161,162,163] [] (by kernel_rfl) (by kernel_rfl) (by kernel_rfl) (bF o (st':=⟨[(0,.ptr 161 0),(1,.val bg l1),(2,.bX 138 161),(3,aM O),(10,.clos 170 [26,160]),(11,aw (List.length l1:Int)),(12,aw (List.length c2:Int)),(13,.osl 37),(15,aw t12),(16,bd U.1),(17,aM v3.1),(52,aw (ai ((List.length l1:Int)+(1:Int)))),(53,aw t12),(66,.iter 66)],[(26,.cells [.ptr 161 0] 212),(37,.aT 120 (.mp .str .bool) Y),(66,.cp .str .bool ([]:List bv) [U]),(160,.cells [.val bg t13] 50),(161,.cells [bd v3.2.1,.val aq v3.2.2.1,.val bh v3.2.2.2.1,.val au v3.2.2.2.2.1,.val au v3.2.2.2.2.2.1,bO v3.2.2.2.2.2.2.1,aM v3.2.2.2.2.2.2.2.1,.iter 162,.clos 163 [163]] 241),(162,.mp bf bi v3.2.2.2.2.2.2.2.2.1),(163,.cells [.val (.ab .str) v3.2.2.2.2.2.2.2.2.2.1,.val aq v3.2.2.2.2.2.2.2.2.2.2] 25)],[]⟩) (orc:=[]) (by kernel_rfl) .n (ax (my (α:=List eO) (fun z=>pQ t12 l1 U (gM k (iH k l1 c2 O Z) t12 t13 l1 c2 O la) v3 O z=some W) (fun lc=>⟨[(0,.ptr 161 0),(1,.val bg l1),(2,.bX 138 161),(3,aM O),(10,.clos 170 [26,160]),(11,aw (List.length l1:Int)),(12,aw (List.length c2:Int)),(13,.osl 37),(15,aw t12),(16,bd U.1),(17,aM v3.1),(52,aw (ai ((List.length l1:Int)+(1:Int)))),(53,aw t12),(66,.iter 66)],[(26,.cells [.ptr 161 0] 212),(37,.aT 120 (.mp .str .bool) lc),(66,.cp .str .bool ([]:List bv) [U]),(160,.cells [.val bg t13] 50),(161,.cells [bd v3.2.1,.val aq v3.2.2.1,.val bh v3.2.2.2.1,.val au v3.2.2.2.2.1,.val au v3.2.2.2.2.2.1,bO v3.2.2.2.2.2.2.1,aM v3.2.2.2.2.2.2.2.1,.iter 162,.clos 163 [163]] 241),(162,.mp bf bi v3.2.2.2.2.2.2.2.2.1),(163,.cells [.val (.ab .str) v3.2.2.2.2.2.2.2.2.2.1,.val aq v3.2.2.2.2.2.2.2.2.2.2] 25)],[]⟩) ?_ (fun lh=>?_))))
         ·rintro lc h
          unfold pQ at h
          refine ay (aK (fE o 3 [0,1,2,3,10,11,12,13,15,16,52,53,66,118] [26,37,66,160,161,162,163] [] (orc:=[]) (by kernel_rfl) .n (ji (α:=Bool) (fun z=>uX t12 l1 U lc (gM k (iH k l1 c2 O Z) t12 t13 l1 c2 O la) v3 z=some W) (fun t32=>⟨[(0,.ptr 161 0),(1,.val bg l1),(2,.bX 138 161),(3,aM O),(10,.clos 170 [26,160]),(11,aw (List.length l1:Int)),(12,aw (List.length c2:Int)),(13,.osl 37),(15,aw t12),(16,bd U.1),(52,aw (ai ((List.length l1:Int)+(1:Int)))),(53,aw t12),(66,.iter 66),(120,aM t32)],[(26,.cells [.ptr 161 0] 212),(37,.aT 120 (.mp .str .bool) lc),(66,.cp .str .bool ([]:List bv) [U]),(160,.cells [.val bg t13] 50),(161,.cells [bd v3.2.1,.val aq v3.2.2.1,.val bh v3.2.2.2.1,.val au v3.2.2.2.2.1,.val au v3.2.2.2.2.2.1,bO v3.2.2.2.2.2.2.1,aM v3.2.2.2.2.2.2.2.1,.iter 162,.clos 163 [163]] 241),(162,.mp bf bi v3.2.2.2.2.2.2.2.2.1),(163,.cells [.val (.ab .str) v3.2.2.2.2.2.2.2.2.2.1,.val aq v3.2.2.2.2.2.2.2.2.2.2] 25)],[]⟩) 2 ?_ (fun l7=>?_))))
          ·rintro t32 h
           unfold uX at h
           refine jg (ax (da (b:=t32) (by kernel_rfl) (fun lE=>?_) (fun lE=>?_)))
           ·replace h:=dw lE h
            refine ay (aK (bl o [0,1,2,3,10,11,12,13,15,20,52,53,66] [26,37,66,160,161,162,163] [] (orc:=[]) (by kernel_rfl) .n (ax (my (α:=List UInt8) (fun z=>qr t12 lc (gM k (iH k l1 c2 O Z) t12 t13 l1 c2 O la) U v3 z=some W) (fun lF=>⟨[(0,.ptr 161 0),(1,.val bg l1),(2,.bX 138 161),(3,aM O),(10,.clos 170 [26,160]),(11,aw (List.length l1:Int)),(12,aw (List.length c2:Int)),(13,.osl 37),(15,aw t12),(20,bd lF),(52,aw (ai ((List.length l1:Int)+(1:Int)))),(53,aw t12),(66,.iter 66)],[(26,.cells [.ptr 161 0] 212),(37,.aT 120 (.mp .str .bool) lc),(66,.cp .str .bool ([]:List bv) [U]),(160,.cells [.val bg t13] 50),(161,.cells [bd v3.2.1,.val aq v3.2.2.1,.val bh v3.2.2.2.1,.val au v3.2.2.2.2.1,.val au v3.2.2.2.2.2.1,bO v3.2.2.2.2.2.2.1,aM v3.2.2.2.2.2.2.2.1,.iter 162,.clos 163 [163]] 241),(162,.mp bf bi v3.2.2.2.2.2.2.2.2.1),(163,.cells [.val (.ab .str) v3.2.2.2.2.2.2.2.2.2.1,.val aq v3.2.2.2.2.2.2.2.2.2.2] 25)],[]⟩) ?_ (fun lh=>?_)))))
            ·rintro lF h
             unfold qr at h
             refine aK ?_
             obtain⟨_,lG,h⟩:=bind_some h
             replace lG:=dy lG
             obtain⟨ar,lH,h⟩:=bind_some h
             replace lH:=kZ lH
             obtain⟨l8,lI,h⟩:=bind_some h
             replace lI:=qv lI
             exact bF o (orc:=[⟨.map .str .bool,ar⟩,⟨.map .str .bool,some l8⟩]) (by kernel_rfl) (.c lG (.c lH (.c lI .n))) (iO (jc (List.set lc (ai (t12+(1:Int))).toNat (some (some (cb (aD .str) l8 lF true))),([]:List bv),[U],v3.2.1,v3.2.2.1,v3.2.2.2.1,v3.2.2.2.2.1,v3.2.2.2.2.2.1,v3.2.2.2.2.2.2.1,v3.2.2.2.2.2.2.2.1,v3.2.2.2.2.2.2.2.2.1,v3.2.2.2.2.2.2.2.2.2.1,v3.2.2.2.2.2.2.2.2.2.2) (Nat.lt_succ_self _) h))
            refine ay (aK (bl o [0,1,2,3,10,11,12,13,15,20,52,53,66,124] [26,37,66,160,161,162,163] [] (orc:=[]) (by kernel_rfl) .n (ax (da (b:=decide (t12<(List.length l1:Int))) (by kernel_rfl) (fun lJ=>?_) (fun lJ=>?_)))))
            ·replace h:=dw lJ h
             refine aK ?_
             obtain⟨l9,az,h⟩:=bind_some h
             obtain⟨_,lK,h⟩:=bind_some h
             replace lK:=dy lK
             exact bF o (orc:=[w4 l9]) (by kernel_rfl) (.c az (.c lK .n)) (lh (U.1++((Utf8.encode l9).data.toList)) h)
            ·replace h:=dr lJ h
             exact dc (kO (by kernel_rfl) (lh U.1 h))
           ·replace h:=dr lE h
            exact dc (iO (kO (by kernel_rfl) (jc (lc,([]:List bv),[U],v3.2.1,v3.2.2.1,v3.2.2.2.1,v3.2.2.2.2.1,v3.2.2.2.2.2.1,v3.2.2.2.2.2.2.1,v3.2.2.2.2.2.2.2.1,v3.2.2.2.2.2.2.2.2.1,v3.2.2.2.2.2.2.2.2.2.1,v3.2.2.2.2.2.2.2.2.2.2) (Nat.lt_succ_self _) h)))
          refine jt 118 (b:=!v3.1) (by kernel_rfl) (fun lL=>?_) (fun lL=>?_)
          ·rw[sA lL]at h
           exact bF o (orc:=[]) (by kernel_rfl) .n (l7 true h)
          ·rw[u5 lL]at h
           exact bF o (orc:=[]) (by kernel_rfl) .n (l7 O h)
         refine ay (aK (bl o [0,1,2,3,10,11,12,13,15,16,17,52,53,66,82] [26,37,66,160,161,162,163] [] (orc:=[]) (by kernel_rfl) .n (ax (da (b:=v3.1) (by kernel_rfl) (fun lM=>?_) (fun lM=>?_)))))
         ·replace h:=dw lM h
          refine ay (aK ?_)
          obtain⟨aa,aA,h⟩:=bind_some h
          refine fE o 8 [0,1,2,3,10,11,12,13,15,16,17,52,53,66,83,84,90] [26,37,66,160,161,162,163] [] (orc:=[⟨bg,aa⟩]) (by kernel_rfl) (.c aA .n) ?_
          obtain⟨v4,aC,h⟩:=bind_some h
          refine yQ o (A8 k) (aa,v3.2.1,v3.2.2.1,v3.2.2.2.1,v3.2.2.2.2.1,v3.2.2.2.2.2.1,v3.2.2.2.2.2.2.1,v3.2.2.2.2.2.2.2.1,v3.2.2.2.2.2.2.2.2.1,v3.2.2.2.2.2.2.2.2.2.1,v3.2.2.2.2.2.2.2.2.2.2) v4 aC (ρ:=[(161,42),(162,43),(163,44)]) (ρ':=[(42,161),(43,162),(44,163),(5,91)]) (n:=42) (by kernel_rfl) [0,1,2,3,10,11,12,13,15,16,17,52,53,66,83,91] [26,37,66,160,161,162,163] [91] (by kernel_rfl) (by kernel_rfl) (st':=⟨[(0,.ptr 161 0),(1,.val bg l1),(2,.bX 138 161),(3,aM O),(10,.clos 170 [26,160]),(11,aw (List.length l1:Int)),(12,aw (List.length c2:Int)),(13,.osl 37),(15,aw t12),(16,bd U.1),(17,aM v3.1),(52,aw (ai ((List.length l1:Int)+(1:Int)))),(53,aw t12),(66,.iter 66),(83,bd U.1),(91,.row 91)],[(26,.cells [.ptr 161 0] 212),(37,.aT 120 (.mp .str .bool) Y),(66,.cp .str .bool ([]:List bv) [U]),(160,.cells [.val bg t13] 50),(161,.cells [bd v3.2.1,.val aq v3.2.2.1,.val bh v3.2.2.2.1,.val au v3.2.2.2.2.1,.val au v3.2.2.2.2.2.1,bO v3.2.2.2.2.2.2.1,aM v3.2.2.2.2.2.2.2.1,.iter 162,.clos 163 [163]] 241),(162,.mp bf bi v3.2.2.2.2.2.2.2.2.1),(163,.cells [.val (.ab .str) v3.2.2.2.2.2.2.2.2.2.1,.val aq v3.2.2.2.2.2.2.2.2.2.2] 25)],[(91,⟨21,(.int .i32),v4⟩)]⟩) (by kernel_rfl) ?_
          obtain⟨_,lN,h⟩:=bind_some h
          replace lN:=dy lN
          obtain⟨_,lO,h⟩:=bind_some h
          replace lO:=dy lO
          refine bl o [0,1,2,3,10,11,12,13,15,16,17,18,52,53,66] [26,37,66,160,161,162,163] [] (orc:=[]) (by kernel_rfl) (.c lN (.c lO .n)) (ax (ay (aK (bl o [0,1,2,3,10,11,12,13,15,16,17,18,19,52,53,66] [26,37,66,160,161,162,163] [] (orc:=[]) (by kernel_rfl) .n (ax (my (α:=eB) (fun z=>ru Y t12 l1 U (gM k (iH k l1 c2 O Z) t12 t13 l1 c2 O la) v3 O z.1 z.2=some W) (fun z=>⟨[(0,.ptr 161 0),(1,.val bg l1),(2,.bX 138 161),(3,aM O),(10,.clos 170 [26,160]),(11,aw (List.length l1:Int)),(12,aw (List.length c2:Int)),(13,.osl 37),(15,aw t12),(16,bd U.1),(17,aM v3.1),(18,bd (z.1)),(19,aw (z.2)),(52,aw (ai ((List.length l1:Int)+(1:Int)))),(53,aw t12),(66,.iter 66)],[(26,.cells [.ptr 161 0] 212),(37,.aT 120 (.mp .str .bool) Y),(66,.cp .str .bool ([]:List bv) [U]),(160,.cells [.val bg t13] 50),(161,.cells [bd v3.2.1,.val aq v3.2.2.1,.val bh v3.2.2.2.1,.val au v3.2.2.2.2.1,.val au v3.2.2.2.2.2.1,bO v3.2.2.2.2.2.2.1,aM v3.2.2.2.2.2.2.2.1,.iter 162,.clos 163 [163]] 241),(162,.mp bf bi v3.2.2.2.2.2.2.2.2.1),(163,.cells [.val (.ab .str) v3.2.2.2.2.2.2.2.2.2.1,.val aq v3.2.2.2.2.2.2.2.2.2.2] 25)],[]⟩) ?_ (fun ab=>?_)))))))
          ·rintro⟨aE,aF⟩ h
           unfold ru at h
           refine aK ?_
           obtain⟨_,lP,h⟩:=bind_some h
           replace lP:=dy lP
           obtain⟨aG,lQ,h⟩:=bind_some h
           replace lQ:=kZ lQ
           obtain⟨ad,lR,h⟩:=bind_some h
           replace lR:=qv lR
           exact bF o (orc:=[⟨.map .str .bool,aG⟩,⟨.map .str .bool,some ad⟩]) (by kernel_rfl) (.c lP (.c lQ (.c lR .n))) (lh (List.set Y (aF).toNat (some (some (cb (aD .str) ad aE true)))) h)
          refine ay (aK (bl o [0,1,2,3,10,11,12,13,15,16,17,18,19,52,53,66,98] [26,37,66,160,161,162,163] [] (orc:=[]) (by kernel_rfl) .n (ax (da (b:=(List.length c2:Int)==(0:Int)) (by kernel_rfl) (fun lS=>?_) (fun lS=>?_)))))
          ·replace h:=dw lS h
           refine my (α:=List UInt8) (fun z=>qX Y t12 l1 U (gM k (iH k l1 c2 O Z) t12 t13 l1 c2 O la) v3 O c2 z=some W) (fun lT=>⟨[(0,.ptr 161 0),(1,.val bg l1),(2,.bX 138 161),(3,aM O),(10,.clos 170 [26,160]),(11,aw (List.length l1:Int)),(12,aw (List.length c2:Int)),(13,.osl 37),(15,aw t12),(16,bd U.1),(17,aM v3.1),(18,bd lT),(19,aw (ai (t12+(List.length c2:Int)))),(52,aw (ai ((List.length l1:Int)+(1:Int)))),(53,aw t12),(66,.iter 66)],[(26,.cells [.ptr 161 0] 212),(37,.aT 120 (.mp .str .bool) Y),(66,.cp .str .bool ([]:List bv) [U]),(160,.cells [.val bg t13] 50),(161,.cells [bd v3.2.1,.val aq v3.2.2.1,.val bh v3.2.2.2.1,.val au v3.2.2.2.2.1,.val au v3.2.2.2.2.2.1,bO v3.2.2.2.2.2.2.1,aM v3.2.2.2.2.2.2.2.1,.iter 162,.clos 163 [163]] 241),(162,.mp bf bi v3.2.2.2.2.2.2.2.2.1),(163,.cells [.val (.ab .str) v3.2.2.2.2.2.2.2.2.2.1,.val aq v3.2.2.2.2.2.2.2.2.2.2] 25)],[]⟩) ?_ (fun ae=>?_)
           ·rintro lT h
            unfold qX at h
            exact aK (bF o (orc:=[]) (by kernel_rfl) .n (ab (lT,ai ((ai (t12+(List.length c2:Int)))+(1:Int))) h))
           refine ay (aK (bl o [0,1,2,3,10,11,12,13,15,16,17,18,19,52,53,66,101] [26,37,66,160,161,162,163] [] (orc:=[]) (by kernel_rfl) .n (ax (da (b:=decide (t12<(List.length l1:Int))) (by kernel_rfl) (fun lU=>?_) (fun lU=>?_)))))
           ·replace h:=dw lU h
            refine aK ?_
            obtain⟨af,aH,h⟩:=bind_some h
            obtain⟨_,lV,h⟩:=bind_some h
            replace lV:=dy lV
            exact bF o (orc:=[w4 af]) (by kernel_rfl) (.c aH (.c lV .n)) (ae ((U.1++(cM v4))++((Utf8.encode af).data.toList)) h)
           ·replace h:=dr lU h
            exact dc (kO (by kernel_rfl) (ae (U.1++(cM v4)) h))
          ·replace h:=dr lS h
           exact dc (kO (by kernel_rfl) (ab (U.1++(cM v4),ai (t12+(List.length c2:Int))) h))
         ·replace h:=dr lM h
          exact dc (kO (by kernel_rfl) (lh Y h))
    ·replace h:=dr ly h
     refine jR (fW (fW (kB (ax (ay (aK ?_))))))
     obtain⟨_,lW,h⟩:=bind_some h
     replace lW:=dy lW
     obtain⟨lX,lY,h⟩:=bind_some h
     replace lY:=kZ lY
     refine bl o [0,2,21] [161,162,163] [] (orc:=[⟨.unit,()⟩,⟨.map .str .bool,lX⟩]) (by kernel_rfl) (.c lW (.c lY .n)) (ax (ay (ay (aK (bl o [0,2,21,146] [161,162,163] [] (orc:=[]) (by kernel_rfl) .n (ax (da (b:=decide ((1024:Int)<(List.length (lX.getD []):Int))) (by kernel_rfl) (fun lZ=>?_) (fun lZ=>?_))))))))
     ·replace h:=dw lZ h
      refine ay (aK (bF o (st':=⟨[(0,.ptr 161 0),(2,.bX 138 161),(8,.row 8),(9,aw (9:Int))],[(161,.cells [bd t14,.val aq t15,.val bh t16,.val au t17,.val au t18,bO t19,aM t20,.iter 162,.clos 163 [163]] 241),(162,.mp bf bi m3),(163,.cells [.val (.ab .str) t21,.val aq t22] 25)],[(8,⟨9,.str,([]:List (List UInt8))⟩)]⟩) (orc:=[]) (by kernel_rfl) .n (ax (ep (cQ ?_)))))
      replace h:=Option.some.inj h
      subst h
      exact hU [0,2,8,9] [161,162,163] [8] [(161,161),(162,162),(163,163),(8,3500001)] (by kernel_rfl) (fT o.P [161,162,163] [3500001] (.inl rfl) (by kernel_rfl) (by kernel_rfl))
     ·replace h:=dr lZ h
      refine dc (ax (ay (aK (bl o [0,2,21,22] [161,162,163] [22] (orc:=[]) (by kernel_rfl) .n (ax (ay (ay (aK (bF o (orc:=[]) (by kernel_rfl) .n (ax (fF (jN (α:=(List bv×List bv×List (List UInt8))) (fun n z=>oF k t14 t15 t16 t17 t18 t19 t20 m3 t21 t22 n z.1 z.2.1 z.2.2=some W) (fun z=>⟨[(0,.ptr 161 0),(2,.bX 138 161),(22,.row 22),(148,.iter 148)],[(148,.cp .str .bool (z.1) (z.2.1)),(161,.cells [bd t14,.val aq t15,.val bh t16,.val au t17,.val au t18,bO t19,aM t20,.iter 162,.clos 163 [163]] 241),(162,.mp bf bi m3),(163,.cells [.val (.ab .str) t21,.val aq t22] 25)],[(22,⟨9,.str,(z.2.2)⟩)]⟩) ?_ (k:=k) (x:=(lX.getD [],([]:List bv),([]:List (List UInt8)))) h))))))))))))
      clear h
      rintro l0 ⟨lm,dS,li⟩ h
      cases l0 with
      |zero=>exact absurd (show none=some _ from h) (by simp)
      |succ l0=>
       have h:uL k t14 t15 t16 t17 t18 t19 t20 m3 t21 t22 (oF k t14 t15 t16 t17 t18 t19 t20 m3 t21 t22 l0) lm dS li=some W:=h
       unfold uL at h
       refine ay (aK ?_)
       rcases zh h with ⟨l3,h⟩|⟨ld,l3,h⟩
       ·refine wi o (d:=149) (b:=148) (k:=.str) (v:=.bool) (left:=lm) (last:=dS) (by kernel_rfl) (by kernel_rfl) l3 (st':=⟨[(0,.ptr 161 0),(2,.bX 138 161),(22,.row 22),(148,.iter 148),(149,.dP [gY false])],[(148,.cp .str .bool lm dS),(161,.cells [bd t14,.val aq t15,.val bh t16,.val au t17,.val au t18,bO t19,aM t20,.iter 162,.clos 163 [163]] 241),(162,.mp bf bi m3),(163,.cells [.val (.ab .str) t21,.val aq t22] 25)],[(22,⟨9,.str,li⟩)]⟩) (by kernel_rfl) (bl o [0,2,22,148,150] [148,161,162,163] [22] (orc:=[]) (by kernel_rfl) .n (ax (ay (vL (by kernel_rfl) (jR (fW (fW (kB (ax (ay (aK (bl o [0,2,8,9] [161,162,163] [22] (orc:=[]) (by kernel_rfl) .n (ax (ep ?_))))))))))))))
        replace h:=Option.some.inj h
        subst h
        exact hU [0,2,8,9] [161,162,163] [22] [(161,161),(162,162),(163,163),(22,3500001)] (by kernel_rfl) (fT o.P [161,162,163] [3500001] (.inl rfl) (by kernel_rfl) (by kernel_rfl))
       ·refine yI o (d:=149) (b:=148) (k:=.str) (v:=.bool) (left:=lm) (last:=dS) (p:=ld) (by kernel_rfl) (by kernel_rfl) l3 (st':=⟨[(0,.ptr 161 0),(2,.bX 138 161),(22,.row 22),(148,.iter 148),(149,.dP [gY true,yK ld.1,gY ld.2])],[(148,.cp .str .bool ([]:List bv) [ld]),(161,.cells [bd t14,.val aq t15,.val bh t16,.val au t17,.val au t18,bO t19,aM t20,.iter 162,.clos 163 [163]] 241),(162,.mp bf bi m3),(163,.cells [.val (.ab .str) t21,.val aq t22] 25)],[(22,⟨9,.str,li⟩)]⟩) (by kernel_rfl) (bl o [0,2,22,148,150] [148,161,162,163] [22] (orc:=[]) (by kernel_rfl) .n (ax (ay (zd (by kernel_rfl) (dc (ax (fF (ay (aK (bF o (st':=⟨[(0,.ptr 161 0),(2,.bX 138 161),(22,.row 22),(23,bd ld.1),(148,.iter 148)],[(148,.cp .str .bool ([]:List bv) [ld]),(161,.cells [bd t14,.val aq t15,.val bh t16,.val au t17,.val au t18,bO t19,aM t20,.iter 162,.clos 163 [163]] 241),(162,.mp bf bi m3),(163,.cells [.val (.ab .str) t21,.val aq t22] 25)],[(22,⟨9,.str,li⟩)]⟩) (orc:=[]) (by kernel_rfl) .n (ax (ay (ay (aK ?_))))))))))))))
        obtain⟨v5,aI,h⟩:=bind_some h
        refine bl o [0,2,22,23,148,155] [148,161,162,163] [22] (orc:=[mn v5]) (by kernel_rfl) (.c aI .n) (ax (da (b:=decide ((256:Int)<v5)) (by kernel_rfl) (fun l4=>?_) (fun l4=>?_)))
        ·replace h:=dw l4 h
         refine ay (aK (bl o [0,2,8,9] [161,162,163] [8] (orc:=[]) (by kernel_rfl) .n (ax (ep (cQ (fl (cQ (fl (cQ ?_)))))))))
         replace h:=Option.some.inj h
         subst h
         exact hU [0,2,8,9] [161,162,163] [8] [(161,161),(162,162),(163,163),(8,3500001)] (by kernel_rfl) (fT o.P [161,162,163] [3500001] (.inl rfl) (by kernel_rfl) (by kernel_rfl))
        ·replace h:=dr l4 h
         refine dc (ax (aK ?_))
         obtain⟨_,l5,h⟩:=bind_some h
         replace l5:=dy l5
         exact bF o (orc:=[]) (by kernel_rfl) (.c l5 .n) (iO (jc (([]:List bv),[ld],li++([ld.1]:List (List UInt8))) (Nat.lt_succ_self _) h))
noncomputable def KR(k:Nat):dp Tryz.prog an xw b7:=⟨136,Lp k,fun st=>bW st [.ab 1 bg,.ab 3 .bool,.ad 161 0 .str,.ad 161 1 aq,.ad 161 2 bh,.ad 161 3 au,.ad 161 4 au,.ad 161 5 (.int .u8),.ad 161 6 .bool,.mp 162 bf bi,.ad 163 0 (.ab .str),.ad 163 1 aq],fun z=>ol k (z.1) (z.2.1) (z.2.2.1) (z.2.2.2.1) (z.2.2.2.2.1) (z.2.2.2.2.2.1) (z.2.2.2.2.2.2.1) (z.2.2.2.2.2.2.2.1) (z.2.2.2.2.2.2.2.2.1) (z.2.2.2.2.2.2.2.2.2.1) (z.2.2.2.2.2.2.2.2.2.2.1) (z.2.2.2.2.2.2.2.2.2.2.2),(O4 k),fun _ _ h=>h⟩
end Go.Ev
