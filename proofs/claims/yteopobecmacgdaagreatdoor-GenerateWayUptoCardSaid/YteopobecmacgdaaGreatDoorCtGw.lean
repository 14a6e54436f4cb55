/- Contracts, by program. -/
import Derived.Test.YteopobecmacgdaaGreatDoorProg
import Derived.Test.YteopobecmacgdaaGreatDoorMM6
import Derived.Test.YteopobecmacgdaaGreatDoorMM8
import Derived.Test.YteopobecmacgdaaGreatDoorCtGwP1
import Derived.Test.YteopobecmacgdaaGreatDoorCtGwP2
import Derived.Test.YteopobecmacgdaaGreatDoorCtGwP3
import Derived.Test.YteopobecmacgdaaGreatDoorCtGwP4
import Derived.Test.YteopobecmacgdaaGreatDoorCtGwP5
import Derived.Test.YteopobecmacgdaaGreatDoorCtGwP6
import Derived.Test.YteopobecmacgdaaGreatDoorCtGwP7
import Derived.Test.YteopobecmacgdaaGreatDoorCtGwP8
import Derived.KernelRfl
import Derived.Test.YteopobecmacgdaaGreatDoorTyA
set_option linter.unusedSectionVars false
set_option linter.unusedVariables false
set_option linter.unusedSimpArgs false
namespace Go.Ev
open Go Go.Proofs
set_option linter.unusedVariables false
set_option maxRecDepth 100000
noncomputable def Ha(k:Nat):aX:=⟨[js,(.int .i64),(.int .i64)],[.bool],[],fun x=>oJ k (x.1) (x.2.1) (x.2.2)⟩
noncomputable def UH(k:Nat):Env:=cK Tryz.prog aq 223 [S5 k,Wa k,LC k,QS k,J4 k,Oy k,HG k,G9 k]
theorem Jn(k:Nat):a8 Tryz.prog aq 3 (Ha k).aW:=by
 refine ER bl (fn:=Tryz.f3) Tryz.func3 (by kernel_rfl) rfl (Pj Tryz.ntmps3 (by kernel_rfl)) ?_
 rintro w0 M _ _ lW h
 obtain⟨⟨t1,O,R⟩,U,rfl,rfl,h⟩:=kE h
 change dg at t1
 change Int at O
 change Int at R
 change Bool at U
 replace h:oJ k t1 O R=some U:=h
 have o:bE (UH k) ⟨Tryz.prog,Tryz.f3.ntmps,w0,M,fun _=>False,fun _=>undef⟩:=kK rfl Tryz.ntmps3 lW
 unfold oJ at h
 refine aG (aP (bx o [1,2,3] [3] [] (orc:=[]) (by kernel_rfl) .n (aF (aG (aP ?_)))))
 obtain⟨v1,ae,h⟩:=bind_some h
 refine bx o [1,2,3,7] [3] [] (orc:=[gK v1]) (by kernel_rfl) (.c ae .n) (aF (aG (aG (aP (bx o [1,2,3,21] [3] [] (orc:=[]) (by kernel_rfl) .n (aF (db (b:=!v1) (by kernel_rfl) (fun le=>?_) (fun le=>?_))))))))
 ·replace h:=dD le h
  refine aG (aP (bN o (st':=⟨[(6,aO false)],[],[]⟩) (orc:=[]) (by kernel_rfl) .n (aF (eM (df ?_)))))
  cases h
  exact nw (.inl rfl) (by kernel_rfl)
 ·replace h:=dH le h
  refine dh (aF (aG (aG (aP ?_))))
  obtain⟨v2,lX,h⟩:=bind_some h
  refine bx o [1,2,3,23] [3] [] (orc:=[gK v2]) (by kernel_rfl) (.c lX .n) (aF (db (b:=v2) (by kernel_rfl) (fun e4=>?_) (fun e4=>?_)))
  ·replace h:=dD e4 h
   refine aG (aP (bx o [6] [] [] (orc:=[]) (by kernel_rfl) .n (aF (eM (df ?_)))))
   cases h
   exact nw (.inl rfl) (by kernel_rfl)
  ·replace h:=dH e4 h
   refine dh (aF (aG (aP ?_)))
   obtain⟨v3,lY,h⟩:=bind_some h
   refine bx o [1,2,3,8,9] [3] [] (orc:=[mI v3.1,k3 v3.2]) (by kernel_rfl) (.c lY .n) (aF (aG (aP ?_)))
   obtain⟨v4,lZ,h⟩:=bind_some h
   refine bx o [1,2,3,8,9,10,11] [3] [] (orc:=[⟨iD,v4.1⟩,k3 v4.2]) (by kernel_rfl) (.c lZ .n) (aF (aG (aG (aP (bN o (st':=⟨[(1,ay O),(2,ay R),(3,.ptr 3 0),(8,aN v3.1),(9,ay v3.2),(10,.val iD v4.1),(11,ay v4.2),(39,aO (v3.2 !=(0:Int)))],[(3,.cells [.val (.ab .str) t1.1.1,.val ax t1.1.2.1,dV t1.2.1,dV t1.2.2.1,.val hq t1.2.2.2.1,.val gY t1.2.2.2.2.1,.val fN t1.2.2.2.2.2.1,.val (.ab .str) t1.2.2.2.2.2.2.1] 31)],[]⟩) (orc:=[]) (by kernel_rfl) .n (aF (db (b:=v3.2 !=(0:Int)) (by kernel_rfl) (fun lf=>?_) (fun lf=>?_))))))))
   ·replace h:=dD lf h
    refine aG (aP (fm o 4 [8,10,43] [] [] (orc:=[]) (by kernel_rfl) .n (iA (α:=Bool) (fun z=>pO v3 z=some U) (fun t2=>⟨[(8,aN v3.1),(47,aO t2)],[],[]⟩) 4 ?_ (fun lB=>?_))))
    ·rintro t2 h
     unfold pO at h
     refine fm o 1 [8,48] [] [] (orc:=[]) (by kernel_rfl) .n (iA (α:=Bool) (fun z=>ph z=some U) (fun t3=>⟨[(51,aO t3)],[],[]⟩) 3 ?_ (fun lC=>?_))
     ·rintro t3 h
      unfold ph at h
      refine bx o [6] [] [] (orc:=[]) (by kernel_rfl) .n (aF (eM (df ?_)))
      cases h
      exact nw (.inl rfl) (by kernel_rfl)
     refine iW 48 (b:=t2) (by kernel_rfl) (fun lg=>?_) (fun lg=>?_)
     ·rw[oC lg]at h
      exact bN o (orc:=[]) (by kernel_rfl) .n (lC (v3.1==([]:List UInt8)) h)
     ·rw[pk lg]at h
      exact bN o (orc:=[]) (by kernel_rfl) .n (lC false h)
    refine iW 43 (b:=v4.2==v3.2) (by kernel_rfl) (fun lh=>?_) (fun lh=>?_)
    ·rw[oC lh]at h
     exact bN o (orc:=[]) (by kernel_rfl) .n (lB ((List.length v4.1:Int)==(0:Int)) h)
    ·rw[pk lh]at h
     exact bN o (orc:=[]) (by kernel_rfl) .n (lB false h)
   ·replace h:=dH lf h
    refine dh (aF (aG (aG (aP (fm o 3 [1,2,3,8,10,54] [3] [] (orc:=[]) (by kernel_rfl) .n (iA (α:=Bool) (fun z=>wT k t1 O v4 R v3 z=some U) (fun t4=>⟨[(1,ay O),(2,ay R),(3,.ptr 3 0),(8,aN v3.1),(10,.val iD v4.1),(57,aO t4)],[(3,.cells [.val (.ab .str) t1.1.1,.val ax t1.1.2.1,dV t1.2.1,dV t1.2.2.1,.val hq t1.2.2.2.1,.val gY t1.2.2.2.2.1,.val fN t1.2.2.2.2.2.1,.val (.ab .str) t1.2.2.2.2.2.2.1] 31)],[]⟩) 3 ?_ (fun lD=>?_)))))))
    ·rintro t4 h
     unfold wT at h
     refine fm o 1 [1,2,3,8,10,58] [3] [] (orc:=[]) (by kernel_rfl) .n (iA (α:=Bool) (fun z=>yN k t1 O v4 R v3 z=some U) (fun t5=>⟨[(1,ay O),(2,ay R),(3,.ptr 3 0),(8,aN v3.1),(10,.val iD v4.1),(64,aO t5)],[(3,.cells [.val (.ab .str) t1.1.1,.val ax t1.1.2.1,dV t1.2.1,dV t1.2.2.1,.val hq t1.2.2.2.1,.val gY t1.2.2.2.2.1,.val fN t1.2.2.2.2.2.1,.val (.ab .str) t1.2.2.2.2.2.2.1] 31)],[]⟩) 6 ?_ (fun lE=>?_))
     ·rintro t5 h
      unfold yN at h
      refine iE (aF (db (b:=t5) (by kernel_rfl) (fun li=>?_) (fun li=>?_)))
      ·replace h:=dD li h
       refine aG (aP (bx o [6] [] [] (orc:=[]) (by kernel_rfl) .n (aF (eM (df ?_)))))
       cases h
       exact nw (.inl rfl) (by kernel_rfl)
      ·replace h:=dH li h
       refine dh (aF (aG (aP ?_)))
       obtain⟨q,l0,h⟩:=bind_some h
       refine bx o [1,2,3,8,10,12] [3,12] [] (orc:=[⟨tT,q⟩]) (by kernel_rfl) (.c l0 .n) (aF (aG (aP (bx o [1,2,3,8,10,12,13] [3,12] [] (orc:=[]) (by kernel_rfl) .n (aF (aG (aG (aP (bN o (orc:=[]) (by kernel_rfl) .n (aF (fX (kA (α:=cw) (fun n z=>jD k v4 t1 q R O v3 n z.1 z.2=some U) (fun z=>⟨[(1,ay O),(2,ay R),(3,.ptr 3 0),(8,aN v3.1),(10,.val iD v4.1),(12,.ptr 12 0),(13,aN (z.1)),(14,ay (z.2))],[(3,.cells [.val (.ab .str) t1.1.1,.val ax t1.1.2.1,dV t1.2.1,dV t1.2.2.1,.val hq t1.2.2.2.1,.val gY t1.2.2.2.2.1,.val fN t1.2.2.2.2.2.1,.val (.ab .str) t1.2.2.2.2.2.2.1] 31),(12,.cells [aN q.1,ay q.2.1,aN q.2.2.1,ay q.2.2.2.1] 41)],[]⟩) ?_ (k:=k) (x:=(q.1,(0:Int))) h))))))))))))
       clear h
       rintro X ⟨la,i1⟩ h
       cases X with
       |zero=>exact absurd (show none=some _ from h) (by simp)
       |succ X=>
        have h:wu k v4 t1 q R O v3 (jD k v4 t1 q R O v3 X) la i1=some U:=h
        unfold wu at h
        refine aG (aG (aP (bx o [1,2,3,8,10,12,13,14,75] [3,12] [] (orc:=[]) (by kernel_rfl) .n (aF (db (b:=decide (i1<(List.length v4.1:Int))) (by kernel_rfl) (fun lj=>?_) (fun lj=>?_))))))
        ·replace h:=dD lj h
         refine dh (aF (aG (fX (aG (aG (uU o (by kernel_rfl) (by kernel_rfl) ?_))))))
         obtain⟨lb,lF,h⟩:=bind_some h
         refine wH o 8 [1,2,3,8,10,12,13,14,85] [3,12] [] (orc:=[⟨jh,lb⟩]) (by kernel_rfl) (.c lF .n) (yv (α:=Bool) (fun z=>zj v4 i1 (jD k v4 t1 q R O v3 X) t1 z=some U) (fun t6=>⟨[(1,ay O),(2,ay R),(3,.ptr 3 0),(8,aN v3.1),(10,.val iD v4.1),(12,.ptr 12 0),(14,ay i1),(93,aO t6)],[(3,.cells [.val (.ab .str) t1.1.1,.val ax t1.1.2.1,dV t1.2.1,dV t1.2.2.1,.val hq t1.2.2.2.1,.val gY t1.2.2.2.2.1,.val fN t1.2.2.2.2.2.1,.val (.ab .str) t1.2.2.2.2.2.2.1] 31),(12,.cells [aN q.1,ay q.2.1,aN q.2.2.1,ay q.2.2.2.1] 41)],[]⟩) 8 ?_ (fun lc lG=>?_))
         ·rintro t6 h
          unfold zj at h
          refine wH o 1 [1,2,3,8,10,12,14,94] [3,12] [] (orc:=[]) (by kernel_rfl) .n (yv (α:=Bool) (fun z=>tP v4 i1 (jD k v4 t1 q R O v3 X) t1 z=some U) (fun t7=>⟨[(1,ay O),(2,ay R),(3,.ptr 3 0),(8,aN v3.1),(10,.val iD v4.1),(12,.ptr 12 0),(14,ay i1),(101,aO t7)],[(3,.cells [.val (.ab .str) t1.1.1,.val ax t1.1.2.1,dV t1.2.1,dV t1.2.2.1,.val hq t1.2.2.2.1,.val gY t1.2.2.2.2.1,.val fN t1.2.2.2.2.2.1,.val (.ab .str) t1.2.2.2.2.2.2.1] 31),(12,.cells [aN q.1,ay q.2.1,aN q.2.2.1,ay q.2.2.2.1] 41)],[]⟩) 7 ?_ (fun lc lH=>?_))
          ·rintro t7 h
           unfold tP at h
           refine wH o 1 [1,2,3,8,10,12,14,102] [3,12] [] (orc:=[]) (by kernel_rfl) .n (yv (α:=Bool) (fun z=>sP v4 i1 (jD k v4 t1 q R O v3 X) z=some U) (fun t8=>⟨[(1,ay O),(2,ay R),(3,.ptr 3 0),(8,aN v3.1),(10,.val iD v4.1),(12,.ptr 12 0),(14,ay i1),(112,aO t8)],[(3,.cells [.val (.ab .str) t1.1.1,.val ax t1.1.2.1,dV t1.2.1,dV t1.2.2.1,.val hq t1.2.2.2.1,.val gY t1.2.2.2.2.1,.val fN t1.2.2.2.2.2.1,.val (.ab .str) t1.2.2.2.2.2.2.1] 31),(12,.cells [aN q.1,ay q.2.1,aN q.2.2.1,ay q.2.2.2.1] 41)],[]⟩) 10 ?_ (fun lc lI=>?_))
           ·rintro t8 h
            unfold sP at h
            refine wH o 1 [1,2,3,8,10,12,14,113] [3,12] [] (orc:=[]) (by kernel_rfl) .n (yv (α:=Bool) (fun z=>qr v4 i1 (jD k v4 t1 q R O v3 X) z=some U) (fun t9=>⟨[(1,ay O),(2,ay R),(3,.ptr 3 0),(8,aN v3.1),(10,.val iD v4.1),(12,.ptr 12 0),(14,ay i1),(130,aO t9)],[(3,.cells [.val (.ab .str) t1.1.1,.val ax t1.1.2.1,dV t1.2.1,dV t1.2.2.1,.val hq t1.2.2.2.1,.val gY t1.2.2.2.2.1,.val fN t1.2.2.2.2.2.1,.val (.ab .str) t1.2.2.2.2.2.2.1] 31),(12,.cells [aN q.1,ay q.2.1,aN q.2.2.1,ay q.2.2.2.1] 41)],[]⟩) 17 ?_ (fun lc lJ=>?_))
            ·rintro t9 h
             unfold qr at h
             refine PT (aF (db (b:=t9) (by kernel_rfl) (fun lk=>?_) (fun lk=>?_)))
             ·replace h:=dD lk h
              refine aG (aP (bx o [6] [] [] (orc:=[]) (by kernel_rfl) .n (aF (eM (df (fP (df (df (fP (df ?_))))))))))
              cases h
              exact nw (.inl rfl) (by kernel_rfl)
             ·replace h:=dH lk h
              refine dh (aF (aP ?_))
              obtain⟨lK,l3,h⟩:=bind_some h
              exact bx o [1,2,3,8,10,12,13,14] [3,12] [] (orc:=[⟨jh,lK⟩]) (by kernel_rfl) (.c l3 .n) (jC (aF (aP (bN o (orc:=[]) (by kernel_rfl) .n (je (lK.2.2.1,am (i1+(1:Int))) (Nat.lt_succ_self _) h)))))
            refine vn 113 (b:=t8) (by kernel_rfl) (fun ll=>?_) (fun ll=>?_)
            ·replace h:=dD ll h
             exact kN o (orc:=[]) (by kernel_rfl) .n (lJ true h)
            ·replace h:=dH ll h
             refine Wy o 3 [1,2,3,8,10,12,14,113,116] [3,12] [] (orc:=[]) (by kernel_rfl) .n (Hm (α:=Bool) (fun z=>tt v4 i1 (jD k v4 t1 q R O v3 X) z=some U) (fun t10=>⟨[(1,ay O),(2,ay R),(3,.ptr 3 0),(8,aN v3.1),(10,.val iD v4.1),(12,.ptr 12 0),(14,ay i1),(113,aO false),(129,aO t10)],[(3,.cells [.val (.ab .str) t1.1.1,.val ax t1.1.2.1,dV t1.2.1,dV t1.2.2.1,.val hq t1.2.2.2.1,.val gY t1.2.2.2.2.1,.val fN t1.2.2.2.2.2.1,.val (.ab .str) t1.2.2.2.2.2.2.1] 31),(12,.cells [aN q.1,ay q.2.1,aN q.2.2.1,ay q.2.2.2.1] 41)],[]⟩) 13 ?_ (fun lc lL=>?_))
             ·rintro t10 h
              unfold tt at h
              exact kN o (orc:=[]) (by kernel_rfl) .n (lJ t10 h)
             refine vn 116 (b:=decide ((0:Int)<i1)) (by kernel_rfl) (fun lm=>?_) (fun lm=>?_)
             ·replace h:=dD lm h
              obtain⟨lM,l4,h⟩:=bind_some h
              obtain⟨lN,l5,h⟩:=bind_some h
              exact kN o (orc:=[⟨jh,lM⟩,⟨jh,lN⟩]) (by kernel_rfl) (.c l4 (.c l5 .n)) (lL (decide (lM.1<=lN.1)) h)
             ·replace h:=dH lm h
              exact kN o (orc:=[]) (by kernel_rfl) .n (lL false h)
           refine vn 102 (b:=t7) (by kernel_rfl) (fun ln=>?_) (fun ln=>?_)
           ·replace h:=dD ln h
            exact kN o (orc:=[]) (by kernel_rfl) .n (lI true h)
           ·replace h:=dH ln h
            obtain⟨lO,l6,h⟩:=bind_some h
            exact kN o (orc:=[⟨jh,lO⟩]) (by kernel_rfl) (.c l6 .n) (lI (decide ((List.length t1.2.2.2.2.2.1:Int)<=lO.1)) h)
          refine vn 94 (b:=t6) (by kernel_rfl) (fun lo=>?_) (fun lo=>?_)
          ·replace h:=dD lo h
           exact kN o (orc:=[]) (by kernel_rfl) .n (lH true h)
          ·replace h:=dH lo h
           obtain⟨lP,l7,h⟩:=bind_some h
           exact kN o (orc:=[⟨jh,lP⟩]) (by kernel_rfl) (.c l7 .n) (lH (decide (lP.1<(-2:Int))) h)
         refine vn 85 (b:=!(lb.2.1==la)) (by kernel_rfl) (fun lp=>?_) (fun lp=>?_)
         ·rw[pS lp]at h
          exact kN o (orc:=[]) (by kernel_rfl) .n (lG true h)
         ·rw[pN lp]at h
          exact kN o (orc:=[⟨jh,lb⟩]) (by kernel_rfl) (.c lF .n) (lG (lb.2.2.1==la) h)
        ·replace h:=dH lj h
         refine kR (gj (gj (kJ (aF (aG (aG (aP (fm o 4 [1,2,3,8,12,139] [3,12] [] (orc:=[]) (by kernel_rfl) .n (iA (α:=Bool) (fun z=>pY k t1 q R O v3 z=some U) (fun t11=>⟨[(1,ay O),(2,ay R),(3,.ptr 3 0),(8,aN v3.1),(12,.ptr 12 0),(143,aO t11)],[(3,.cells [.val (.ab .str) t1.1.1,.val ax t1.1.2.1,dV t1.2.1,dV t1.2.2.1,.val hq t1.2.2.2.1,.val gY t1.2.2.2.2.1,.val fN t1.2.2.2.2.2.1,.val (.ab .str) t1.2.2.2.2.2.2.1] 31),(12,.cells [aN q.1,ay q.2.1,aN q.2.2.1,ay q.2.2.2.1] 41)],[]⟩) 4 ?_ (fun lQ=>?_))))))))))
         ·rintro t11 h
          unfold pY at h
          refine fm o 1 [1,2,3,8,12,144] [3,12] [] (orc:=[]) (by kernel_rfl) .n (iA (α:=Bool) (fun z=>xw k t1 q R O v3 z=some U) (fun t12=>⟨[(1,ay O),(2,ay R),(3,.ptr 3 0),(8,aN v3.1),(12,.ptr 12 0),(151,aO t12)],[(3,.cells [.val (.ab .str) t1.1.1,.val ax t1.1.2.1,dV t1.2.1,dV t1.2.2.1,.val hq t1.2.2.2.1,.val gY t1.2.2.2.2.1,.val fN t1.2.2.2.2.2.1,.val (.ab .str) t1.2.2.2.2.2.2.1] 31),(12,.cells [aN q.1,ay q.2.1,aN q.2.2.1,ay q.2.2.2.1] 41)],[]⟩) 7 ?_ (fun lR=>?_))
          ·rintro t12 h
           unfold xw at h
           refine iE (aF (db (b:=t12) (by kernel_rfl) (fun lq=>?_) (fun lq=>?_)))
           ·replace h:=dD lq h
            refine aG (aP (bx o [6] [] [] (orc:=[]) (by kernel_rfl) .n (aF (eM (df ?_)))))
            cases h
            exact nw (.inl rfl) (by kernel_rfl)
           ·replace h:=dH lq h
            refine dh (aF (aG (uU o (by kernel_rfl) (by kernel_rfl) ?_)))
            obtain⟨l8,l9,h⟩:=bind_some h
            obtain⟨v5,aa,h⟩:=bind_some h
            refine Bq o [1,2,3,8,9,15] [3] [] (orc:=[⟨rG,l8⟩,mI v5.1,k3 v5.2]) (by kernel_rfl) (.c l9 (.c aa .n)) (aF (kG (α:=(Int×List UInt8)) (fun z=>qL k t1 O R v3 z.1 z.2=some U) (fun z=>⟨[(1,ay O),(2,ay R),(3,.ptr 3 0),(8,aN v3.1),(9,ay (z.1)),(15,aN (z.2))],[(3,.cells [.val (.ab .str) t1.1.1,.val ax t1.1.2.1,dV t1.2.1,dV t1.2.2.1,.val hq t1.2.2.2.1,.val gY t1.2.2.2.2.1,.val fN t1.2.2.2.2.2.1,.val (.ab .str) t1.2.2.2.2.2.2.1] 31)],[]⟩) ?_ (fun Z=>?_)))
            ·rintro⟨ae,ar⟩ h
             unfold qL at h
             refine aG (aP ?_)
             obtain⟨Y,ab,h⟩:=bind_some h
             refine bx o [3,8,9,11,15,16] [3] [] (orc:=[mI Y.1,k3 Y.2]) (by kernel_rfl) (.c ab .n) (aF (aG (aP ?_)))
             obtain⟨W,ad,h⟩:=bind_some h
             refine bx o [8,9,11,15,16,17,18] [] [] (orc:=[mI W.1,k3 W.2]) (by kernel_rfl) (.c ad .n) (aF (aG (aP (fm o 3 [8,11,15,16,17,18,205] [] [] (orc:=[]) (by kernel_rfl) .n (iA (α:=Bool) (fun z=>zo W v3 Y ar z=some U) (fun t13=>⟨[(8,aN v3.1),(15,aN ar),(16,aN Y.1),(17,aN W.1),(18,ay W.2),(208,aO t13)],[],[]⟩) 3 ?_ (fun lS=>?_))))))
             ·rintro t13 h
              unfold zo at h
              refine fm o 1 [8,15,16,17,18,209] [] [] (orc:=[]) (by kernel_rfl) .n (iA (α:=Bool) (fun z=>Ab W v3 z=some U) (fun t14=>⟨[(8,aN v3.1),(17,aN W.1),(18,ay W.2),(213,aO t14)],[],[]⟩) 4 ?_ (fun lT=>?_))
              ·rintro t14 h
               unfold Ab at h
               refine fm o 1 [8,17,18,214] [] [] (orc:=[]) (by kernel_rfl) .n (iA (α:=Bool) (fun z=>zy W v3 z=some U) (fun t15=>⟨[(8,aN v3.1),(17,aN W.1),(217,aO t15)],[],[]⟩) 3 ?_ (fun lU=>?_))
               ·rintro t15 h
                unfold zy at h
                refine fm o 1 [8,17,218] [] [] (orc:=[]) (by kernel_rfl) .n (iA (α:=Bool) (fun z=>xi z=some U) (fun t16=>⟨[(222,aO t16)],[],[]⟩) 4 ?_ (fun Z=>?_))
                ·rintro t16 h
                 unfold xi at h
                 refine bx o [6] [] [] (orc:=[]) (by kernel_rfl) .n (aF (eM ?_))
                 cases h
                 exact nw (.inl rfl) (by kernel_rfl)
                refine iW 218 (b:=t15) (by kernel_rfl) (fun lr=>?_) (fun lr=>?_)
                ·rw[oC lr]at h
                 exact bN o (orc:=[]) (by kernel_rfl) .n (Z (W.1==v3.1) h)
                ·rw[pk lr]at h
                 exact bN o (orc:=[]) (by kernel_rfl) .n (Z false h)
               refine iW 214 (b:=t14) (by kernel_rfl) (fun ls=>?_) (fun ls=>?_)
               ·rw[oC ls]at h
                exact bN o (orc:=[]) (by kernel_rfl) .n (lU (W.2==(0:Int)) h)
               ·rw[pk ls]at h
                exact bN o (orc:=[]) (by kernel_rfl) .n (lU false h)
              refine iW 209 (b:=t13) (by kernel_rfl) (fun lt=>?_) (fun lt=>?_)
              ·rw[oC lt]at h
               exact bN o (orc:=[]) (by kernel_rfl) .n (lT (Y.1==ar) h)
              ·rw[pk lt]at h
               exact bN o (orc:=[]) (by kernel_rfl) .n (lT false h)
             refine iW 205 (b:=ae==(0:Int)) (by kernel_rfl) (fun lu=>?_) (fun lu=>?_)
             ·rw[oC lu]at h
              exact bN o (orc:=[]) (by kernel_rfl) .n (lS (Y.2==(0:Int)) h)
             ·rw[pk lu]at h
              exact bN o (orc:=[]) (by kernel_rfl) .n (lS false h)
            refine aG (aP (fm o 3 [1,2,3,8,9,15,171] [3] [] (orc:=[]) (by kernel_rfl) .n (iA (α:=Bool) (fun z=>za k t1 v5 O R v3 z=some U) (fun t17=>⟨[(1,ay O),(2,ay R),(3,.ptr 3 0),(8,aN v3.1),(9,ay v5.2),(15,aN v5.1),(175,aO t17)],[(3,.cells [.val (.ab .str) t1.1.1,.val ax t1.1.2.1,dV t1.2.1,dV t1.2.2.1,.val hq t1.2.2.2.1,.val gY t1.2.2.2.2.1,.val fN t1.2.2.2.2.2.1,.val (.ab .str) t1.2.2.2.2.2.2.1] 31)],[]⟩) 4 ?_ (fun lV=>?_))))
            ·rintro t17 h
             unfold za at h
             refine iE (aF (db (b:=t17) (by kernel_rfl) (fun lv=>?_) (fun lv=>?_)))
             ·replace h:=dD lv h
              refine aP ?_
              obtain⟨ld,af,h⟩:=bind_some h
              exact bN o (orc:=[mI ld.1,k3 ld.2]) (by kernel_rfl) (.c af .n) (Z (ld.2,ld.1) h)
             ·replace h:=dH lv h
              exact dh (jH (by kernel_rfl) (Z (v5.2,v5.1) h))
            refine iW 171 (b:=v5.2==(0:Int)) (by kernel_rfl) (fun lw=>?_) (fun lw=>?_)
            ·rw[oC lw]at h
             exact bN o (orc:=[]) (by kernel_rfl) .n (lV (t1.2.2.1 !=(0:Int)) h)
            ·rw[pk lw]at h
             exact bN o (orc:=[]) (by kernel_rfl) .n (lV false h)
          refine iW 144 (b:=t11) (by kernel_rfl) (fun lx=>?_) (fun lx=>?_)
          ·rw[pS lx]at h
           exact bN o (orc:=[]) (by kernel_rfl) .n (lR true h)
          ·rw[pN lx]at h
           exact bN o (orc:=[]) (by kernel_rfl) .n (lR (decide ((List.length t1.2.2.2.1:Int)<=q.2.1)) h)
         refine iW 139 (b:=!(la==v3.1)) (by kernel_rfl) (fun ly=>?_) (fun ly=>?_)
         ·rw[pS ly]at h
          exact bN o (orc:=[]) (by kernel_rfl) .n (lQ true h)
         ·rw[pN ly]at h
          exact bN o (orc:=[]) (by kernel_rfl) .n (lQ (decide (q.2.1<(0:Int))) h)
     refine iW 58 (b:=t4) (by kernel_rfl) (fun lz=>?_) (fun lz=>?_)
     ·rw[pS lz]at h
      exact bN o (orc:=[]) (by kernel_rfl) .n (lE true h)
     ·rw[pN lz]at h
      exact bN o (orc:=[]) (by kernel_rfl) .n (lE (decide ((List.length t1.2.2.2.2.1:Int)<=O)) h)
    refine iW 54 (b:=v4.2 !=(0:Int)) (by kernel_rfl) (fun lA=>?_) (fun lA=>?_)
    ·rw[pS lA]at h
     exact bN o (orc:=[]) (by kernel_rfl) .n (lD true h)
    ·rw[pN lA]at h
     exact bN o (orc:=[]) (by kernel_rfl) .n (lD (decide (O<(0:Int))) h)
noncomputable def Yb(k:Nat):aL Tryz.prog aq:=⟨3,Ha k,Jn k⟩
end Go.Ev
