/- Contracts, by program. -/
import Derived.Test.YtgkgdfmldioddaaGreatDoorProg
import Derived.Test.YtgkgdfmldioddaaGreatDoorMM6
import Derived.Test.YtgkgdfmldioddaaGreatDoorMM8
import Derived.Test.YtgkgdfmldioddaaGreatDoorMM9
import Derived.Test.YtgkgdfmldioddaaGreatDoorCtCfP1
import Derived.KernelRfl
import Derived.Test.YtgkgdfmldioddaaGreatDoorTyA
set_option linter.unusedSectionVars false
set_option linter.unusedVariables false
set_option linter.unusedSimpArgs false
namespace Go.Ev
open Go Go.Proofs
set_option linter.unusedVariables false
set_option maxRecDepth 100000
noncomputable def ET(k:Nat):aZ:=⟨[ck,(.ab hd)],[xP],[],fun x=>rE k (x.1) (x.2)⟩
theorem N5(k:Nat):aY Tryz.prog an 50 (ET k).ba:=bt bq Tryz.func50 (by kernel_rfl) rfl Tryz.ntmps50 (ET k) (by kernel_rfl) [] (fun x=>.ah 5 (.bw [.ab 19 (.int .i64),.ad 2 0 (.ab .str),.ad 2 1 aq,.mp 16 dU (.int .i64)] (aR [2,5,17,18,19] [2,5,16] []) (fun n=>zG (o6 k (x.2) n)) k fun O o=>.ah 2 (.c (.ah 2 (.a hd fun U=>.ah 1 (.bw [.ab 25 (.int .i64),.mp 16 dU (.int .i64)] (aR [2,5,17,18,19,23,24,25] [2,5,16] []) (fun n=>cT (oK U (yF O) (o.1) (o.2.1) (o.2.2.1) n)) k fun _ _=>.ah 2 (.t (.ah 3 (.nD [] [0,1] 2 3 4 5 6 .z)))))) (.ah 3 (.bw [.ab 41 (.int .i64),.mp 37 (.int .i32) (.int .i64)] (aR [5,10,39,40,41] [5,10,16,37] []) (fun n=>cT (mP k (o.2.2.1) (o.2.2.2) n)) k fun _ _=>.ah 2 (.f (.ah 4 (.bN (GV k) [(16,4)] [(1,53),(4,16)] (fun _=>.bN (IS k) [(53,12),(16,13),(5,14),(10,15),(37,16)] [(12,53),(13,16),(14,5),(15,10),(16,37),(17,55)] (fun v2=>.bw [.ab 57 (.int .i64),.rw 13 56 kN] (aR [5,13,55,56,57] [5,16] [13,55]) (fun n=>cT (oh v2 (o.2.2.2) n)) k fun _ _=>.ah 2 (.t (.ah 3 (.u 0 (.cU [[],[0],[1],[2],[3],[1,0],[2,0],[3,0],[2,1],[3,1],[3,2],[2,1,0],[3,1,0],[3,2,0],[3,2,1],[4,3,2],[3,2,1,0],[4,3,2,0],[4,3,2,1],[4,3,2,1,0],[5,4,3,2,1],[5,4,3,2,1,0],[6,5,4,3,2,1],[6,5,4,3,2,1,0],[7,6,5,4,3,2,1,0],[8,7,6,5,4,3,2,1,0]] .z)))))))))))))) (by kernel_rfl)
noncomputable def Q2(k:Nat):aL Tryz.prog an:=⟨50,ET k,N5 k⟩
noncomputable def zJ(k:Nat):aZ:=⟨[ck,(.ab (.arr 2 .str))],[xP,(.int .i64)],[],fun x=>I9 k (x.1) (x.2)⟩
theorem TH(k:Nat):aY Tryz.prog an 43 (zJ k).ba:=bt bq Tryz.func43 (by kernel_rfl) rfl Tryz.ntmps43 (zJ k) (by kernel_rfl) [P7 k,Q2 k] (fun _=>.z) (by kernel_rfl)
noncomputable def T4(k:Nat):aL Tryz.prog an:=⟨43,zJ k,TH k⟩
noncomputable def BB(k:Nat):aZ:=⟨[(.int .i32),(.int .i32),(.int .i64)],[kN],[],fun x=>zb k (x.1) (x.2.1) (x.2.2)⟩
theorem Vv(k:Nat):aY Tryz.prog an 26 (BB k).ba:=bt bq Tryz.func26 (by kernel_rfl) rfl Tryz.ntmps26 (BB k) (by kernel_rfl) [] (fun _=>.z) (by kernel_rfl)
noncomputable def UB(k:Nat):aL Tryz.prog an:=⟨26,BB k,Vv k⟩
noncomputable def Ds(k:Nat):aZ:=⟨[],[.bool],[],fun _=>Dz k⟩
theorem Up(k:Nat):aY Tryz.prog an 17 (Ds k).ba:=bt bq Tryz.func17 (by kernel_rfl) rfl Tryz.ntmps17 (Ds k) (by kernel_rfl) [OH k,Vi k,T4 k,UB k] (fun _=>.ah 4 (.ac [xP,(.int .i64)] fun v3=>.ah 2 (.cg 3 (.g 5 (Fu k v3) .z .z (fun _=>.g 5 (Bg k v3) .z .z (fun _=>.g 5 EG .z .z (fun _=>.z))))))) (by kernel_rfl)
noncomputable def WA(k:Nat):aL Tryz.prog an:=⟨17,Ds k,Up k⟩
noncomputable def D3(k:Nat):aZ:=⟨[ck,(.ab (.arr 2 .str))],[.bool],[],fun x=>uJ k (x.1) (x.2)⟩
theorem Og(k:Nat):aY Tryz.prog an 44 (D3 k).ba:=bt bq Tryz.func44 (by kernel_rfl) rfl Tryz.ntmps44 (D3 k) (by kernel_rfl) [] (fun x=>.ah 3 (.cg 4 (.kR 8 [.ab 25 .bool] (aR [1,25] [] []) (xG k (x.2)) .z (.ah 4 (.cg 3 .z)) (fun _=>.cg 3 (.f (.ah 2 (.bw [.ab 5 (.int .i64)] (aR [1,5] [] []) (uk (x.2)) k fun o O=>.ah 2 (.t (.ah 4 (.g 7 (wb o O) .z (.ah 3 (.u 1 .z)) (fun _=>.z))))))))))) (by kernel_rfl)
noncomputable def Vd(k:Nat):aL Tryz.prog an:=⟨44,D3 k,Og k⟩
noncomputable def L1(k:Nat):aZ:=⟨[kF],[.bool],[],fun x=>r8 k x⟩
noncomputable def Re(k:Nat):Env:=cy Tryz.prog an 114 [Vd k]
theorem Qq(k:Nat):aY Tryz.prog an 18 (L1 k).ba:=by
 refine zi bq (fn:=Tryz.f18) Tryz.func18 (by kernel_rfl) rfl (Kx Tryz.ntmps18 (by kernel_rfl)) ?_
 rintro bC M _ _ lI h
 obtain⟨f1,U,rfl,rfl,h⟩:=kA h
 change dq at f1
 change Bool at U
 replace h:r8 k f1=some U:=h
 have o:br (Re k) ⟨Tryz.prog,Tryz.f18.ntmps,bC,M,fun _=>False,fun _=>undef⟩:=kb rfl Tryz.ntmps18 lI
 unfold r8 at h
 refine ay (aK (bl o [1] [1] [] (orc:=[]) (by kernel_rfl) .n (ax (ay (ay (aK (fE o 5 [1,10] [1] [] (orc:=[]) (by kernel_rfl) .n (ji (α:=Bool) (fun z=>xX k f1 z=some U) (fun t1=>⟨[(1,.ptr 1 0),(15,aM t1)],[(1,.cells [.val (.ab .str) f1.1.1,.val aq f1.1.2.1,.val fY f1.2.1] 28)],[]⟩) 5 ?_ (fun lt=>?_)))))))))
 ·rintro t1 h
  unfold xX at h
  refine fE o 1 [1,16] [1] [] (orc:=[]) (by kernel_rfl) .n (ji (α:=Bool) (fun z=>yq k f1 z=some U) (fun t2=>⟨[(1,.ptr 1 0),(21,aM t2)],[(1,.cells [.val (.ab .str) f1.1.1,.val aq f1.1.2.1,.val fY f1.2.1] 28)],[]⟩) 5 ?_ (fun lu=>?_))
  ·rintro t2 h
   unfold yq at h
   refine fE o 1 [1,22] [1] [] (orc:=[]) (by kernel_rfl) .n (ji (α:=Bool) (fun z=>sV k f1 z=some U) (fun t3=>⟨[(1,.ptr 1 0),(26,aM t3)],[(1,.cells [.val (.ab .str) f1.1.1,.val aq f1.1.2.1,.val fY f1.2.1] 28)],[]⟩) 4 ?_ (fun lv=>?_))
   ·rintro t3 h
    unfold sV at h
    refine jg (ax (da (b:=t3) (by kernel_rfl) (fun lc=>?_) (fun lc=>?_)))
    ·replace h:=dw lc h
     refine ay (aK (bl o [2] [] [] (orc:=[]) (by kernel_rfl) .n (ax (ep (cQ ?_)))))
     cases h
     exact mq (.inl rfl) (by kernel_rfl)
    ·replace h:=dr lc h
     refine dc (ax (ay (ay (aK (bF o (orc:=[]) (by kernel_rfl) .n (ax (fF (jN (α:=(Int×List (List UInt8)×List av×List dY)) (fun n z=>hZ k n z.1 z.2.1 z.2.2.1 z.2.2.2=some U) (fun z=>⟨[(1,.ptr 1 0),(3,aw (z.1))],[(1,.cells [.val (.ab .str) (z.2.1),.val aq (z.2.2.1),.val fY (z.2.2.2)] 28)],[]⟩) ?_ (k:=k) (x:=((0:Int),f1.1.1,f1.1.2.1,f1.2.1)) h))))))))
     clear h
     rintro W ⟨i1,f2,f3,f4⟩ h
     cases W with
     |zero=>exact absurd (show none=some _ from h) (by simp)
     |succ W=>
      have h:zp k (hZ k W) i1 f2 f3 f4=some U:=h
      unfold zp at h
      refine ay (ay (aK (bl o [1,3,31] [1] [] (orc:=[]) (by kernel_rfl) .n (ax (da (b:=decide (i1<(List.length f4:Int))) (by kernel_rfl) (fun ld=>?_) (fun ld=>?_))))))
      ·replace h:=dw ld h
       refine dc (ax (ay (fF (ay (aK ?_)))))
       obtain⟨O,lJ,h⟩:=bind_some h
       refine bl o [1,3,4] [1] [] (orc:=[⟨wW,O⟩]) (by kernel_rfl) (.c lJ .n) (ax (ay (ay (aK (fE o 4 [1,3,4,43] [1] [] (orc:=[]) (by kernel_rfl) .n (ji (α:=Bool) (fun z=>zr k O (hZ k W) i1 f2 f3 f4 z=some U) (fun t4=>⟨[(1,.ptr 1 0),(3,aw i1),(4,.val jd O.2.2.1),(47,aM t4)],[(1,.cells [.val (.ab .str) f2,.val aq f3,.val fY f4] 28)],[]⟩) 4 ?_ (fun lw=>?_)))))))
       ·rintro t4 h
        unfold zr at h
        refine fE o 1 [1,3,4,48] [1] [] (orc:=[]) (by kernel_rfl) .n (ji (α:=Bool) (fun z=>we k O (hZ k W) i1 f2 f3 f4 z=some U) (fun t5=>⟨[(1,.ptr 1 0),(3,aw i1),(4,.val jd O.2.2.1),(52,aM t5)],[(1,.cells [.val (.ab .str) f2,.val aq f3,.val fY f4] 28)],[]⟩) 4 ?_ (fun lx=>?_))
        ·rintro t5 h
         unfold we at h
         refine fE o 1 [1,3,4,53] [1] [] (orc:=[]) (by kernel_rfl) .n (ji (α:=Bool) (fun z=>uu k O (hZ k W) i1 f2 f3 f4 z=some U) (fun t6=>⟨[(1,.ptr 1 0),(3,aw i1),(4,.val jd O.2.2.1),(62,aM t6)],[(1,.cells [.val (.ab .str) f2,.val aq f3,.val fY f4] 28)],[]⟩) 9 ?_ (fun ly=>?_))
         ·rintro t6 h
          unfold uu at h
          refine jg (ax (da (b:=t6) (by kernel_rfl) (fun lf=>?_) (fun lf=>?_)))
          ·replace h:=dw lf h
           refine ay (aK (bl o [2] [] [] (orc:=[]) (by kernel_rfl) .n (ax (ep (cQ (fl (cQ (cQ (fl (cQ ?_))))))))))
           cases h
           exact mq (.inl rfl) (by kernel_rfl)
          ·replace h:=dr lf h
           refine dc (ax (ay (aK (bF o (orc:=[]) (by kernel_rfl) .n (ax (fF (jN (α:=Int) (fun n z=>jb O (hZ k W) i1 f2 f3 f4 n z=some U) (fun Y=>⟨[(1,.ptr 1 0),(3,aw i1),(4,.val jd O.2.2.1),(5,aw Y)],[(1,.cells [.val (.ab .str) f2,.val aq f3,.val fY f4] 28)],[]⟩) ?_ (k:=k) (x:=(0:Int)) h)))))))
           clear h
           rintro Z Y h
           cases Z with
           |zero=>exact absurd (show none=some _ from h) (by simp)
           |succ Z=>
            have h:yA O (hZ k W) i1 f2 f3 f4 (jb O (hZ k W) i1 f2 f3 f4 Z) Y=some U:=h
            unfold yA at h
            refine ay (ay (aK (bl o [1,3,4,5,66] [1] [] (orc:=[]) (by kernel_rfl) .n (ax (da (b:=decide (Y<(List.length O.2.2.1:Int))) (by kernel_rfl) (fun lg=>?_) (fun lg=>?_))))))
            ·replace h:=dw lg h
             refine dc (ax (ay (fF (ay (aK ?_)))))
             obtain⟨la,lz,h⟩:=bind_some h
             refine fE o 9 [1,3,4,5,77] [1] [] (orc:=[⟨gR,la⟩]) (by kernel_rfl) (.c lz .n) (ji (α:=Bool) (fun z=>vH (jb O (hZ k W) i1 f2 f3 f4 Z) Y O z=some U) (fun t7=>⟨[(1,.ptr 1 0),(3,aw i1),(4,.val jd O.2.2.1),(5,aw Y),(86,aM t7)],[(1,.cells [.val (.ab .str) f2,.val aq f3,.val fY f4] 28)],[]⟩) 9 ?_ (fun lA=>?_))
             ·rintro t7 h
              unfold vH at h
              refine fE o 1 [1,3,4,5,87] [1] [] (orc:=[]) (by kernel_rfl) .n (ji (α:=Bool) (fun z=>rQ (jb O (hZ k W) i1 f2 f3 f4 Z) Y O z=some U) (fun t8=>⟨[(1,.ptr 1 0),(3,aw i1),(4,.val jd O.2.2.1),(5,aw Y),(95,aM t8)],[(1,.cells [.val (.ab .str) f2,.val aq f3,.val fY f4] 28)],[]⟩) 8 ?_ (fun lB=>?_))
              ·rintro t8 h
               unfold rQ at h
               refine fE o 1 [1,3,4,5,96] [1] [] (orc:=[]) (by kernel_rfl) .n (ji (α:=Bool) (fun z=>qZ (jb O (hZ k W) i1 f2 f3 f4 Z) Y O z=some U) (fun t9=>⟨[(1,.ptr 1 0),(3,aw i1),(4,.val jd O.2.2.1),(5,aw Y),(104,aM t9)],[(1,.cells [.val (.ab .str) f2,.val aq f3,.val fY f4] 28)],[]⟩) 8 ?_ (fun lC=>?_))
               ·rintro t9 h
                unfold qZ at h
                refine fE o 1 [1,3,4,5,105] [1] [] (orc:=[]) (by kernel_rfl) .n (ji (α:=Bool) (fun z=>rf (jb O (hZ k W) i1 f2 f3 f4 Z) Y z=some U) (fun t10=>⟨[(1,.ptr 1 0),(3,aw i1),(4,.val jd O.2.2.1),(5,aw Y),(113,aM t10)],[(1,.cells [.val (.ab .str) f2,.val aq f3,.val fY f4] 28)],[]⟩) 8 ?_ (fun lD=>?_))
                ·rintro t10 h
                 unfold rf at h
                 refine jg (ax (da (b:=t10) (by kernel_rfl) (fun lh=>?_) (fun lh=>?_)))
                 ·replace h:=dw lh h
                  refine ay (aK (bl o [2] [] [] (orc:=[]) (by kernel_rfl) .n (ax (ep (fl (cQ (cQ (fl (fl (cQ (cQ (fl (cQ ?_)))))))))))))
                  cases h
                  exact mq (.inl rfl) (by kernel_rfl)
                 ·replace h:=dr lh h
                  exact dc (iO (ax (aK (bF o (orc:=[]) (by kernel_rfl) .n (jc (ai (Y+(1:Int))) (Nat.lt_succ_self _) h)))))
                refine jt 105 (b:=t9) (by kernel_rfl) (fun li=>?_) (fun li=>?_)
                ·replace h:=dw li h
                 exact bF o (orc:=[]) (by kernel_rfl) .n (lD true h)
                ·replace h:=dr li h
                 obtain⟨lE,lK,h⟩:=bind_some h
                 exact bF o (orc:=[⟨gR,lE⟩]) (by kernel_rfl) (.c lK .n) (lD (decide ((1000:Int)<(List.length lE.1:Int))) h)
               refine jt 96 (b:=t8) (by kernel_rfl) (fun lj=>?_) (fun lj=>?_)
               ·replace h:=dw lj h
                exact bF o (orc:=[]) (by kernel_rfl) .n (lC true h)
               ·replace h:=dr lj h
                obtain⟨lF,lL,h⟩:=bind_some h
                exact bF o (orc:=[⟨gR,lF⟩]) (by kernel_rfl) (.c lL .n) (lC (decide ((100:Int)<(List.length lF.2.2.1:Int))) h)
              refine jt 87 (b:=t7) (by kernel_rfl) (fun lk=>?_) (fun lk=>?_)
              ·replace h:=dw lk h
               exact bF o (orc:=[]) (by kernel_rfl) .n (lB true h)
              ·replace h:=dr lk h
               obtain⟨lG,lM,h⟩:=bind_some h
               exact bF o (orc:=[⟨gR,lG⟩]) (by kernel_rfl) (.c lM .n) (lB (decide ((100:Int)<(List.length lG.2.1:Int))) h)
             refine jt 77 (b:=decide ((20:Int)<(List.length la.2.2.2.1.1:Int))) (by kernel_rfl) (fun ll=>?_) (fun ll=>?_)
             ·rw[sA ll]at h
              exact bF o (orc:=[]) (by kernel_rfl) .n (lA true h)
             ·rw[u5 ll]at h
              exact bF o (orc:=[⟨gR,la⟩]) (by kernel_rfl) (.c lz .n) (lA (decide ((20:Int)<(List.length la.2.2.2.2.1.1:Int))) h)
            ·replace h:=dr lg h
             exact jR (fW (fW (kB (iO (ax (aK (bF o (orc:=[]) (by kernel_rfl) .n (jc (ai (i1+(1:Int)),f2,f3,f4) (Nat.lt_succ_self _) h))))))))
         refine jt 53 (b:=t5) (by kernel_rfl) (fun lm=>?_) (fun lm=>?_)
         ·replace h:=dw lm h
          exact bF o (orc:=[]) (by kernel_rfl) .n (ly true h)
         ·replace h:=dr lm h
          obtain⟨lH,lN,h⟩:=bind_some h
          exact bF o (orc:=[⟨wW,lH⟩]) (by kernel_rfl) (.c lN .n) (ly (decide ((1000:Int)<(List.length lH.1:Int))) h)
        refine jt 48 (b:=t4) (by kernel_rfl) (fun ln=>?_) (fun ln=>?_)
        ·rw[sA ln]at h
         exact bF o (orc:=[]) (by kernel_rfl) .n (lx true h)
        ·rw[u5 ln]at h
         exact bF o (orc:=[]) (by kernel_rfl) .n (lx (decide ((200:Int)<(List.length O.2.2.1:Int))) h)
       refine jt 43 (b:=decide ((4:Int)<(List.length O.2.2.1:Int))) (by kernel_rfl) (fun lo=>?_) (fun lo=>?_)
       ·rw[Mb lo]at h
        exact bF o (orc:=[]) (by kernel_rfl) .n (lw (decide ((List.length O.2.2.1:Int)<=(64:Int))) h)
       ·rw[KK lo]at h
        exact bF o (orc:=[]) (by kernel_rfl) .n (lw false h)
      ·replace h:=dr ld h
       refine jR (fW (fW (kB (ax (ay (aK (bl o [2] [] [] (orc:=[]) (by kernel_rfl) .n (ax (ep ?_)))))))))
       cases h
       exact mq (.inl rfl) (by kernel_rfl)
   refine jt 22 (b:=t2) (by kernel_rfl) (fun lp=>?_) (fun lp=>?_)
   ·replace h:=dw lp h
    exact bF o (orc:=[]) (by kernel_rfl) .n (lv true h)
   ·replace h:=dr lp h
    obtain⟨v1,lO,h⟩:=bind_some h
    exact bF o (orc:=[gY v1]) (by kernel_rfl) (.c lO .n) (lv v1 h)
  refine jt 16 (b:=t1) (by kernel_rfl) (fun lq=>?_) (fun lq=>?_)
  ·rw[sA lq]at h
   exact bF o (orc:=[]) (by kernel_rfl) .n (lu true h)
  ·rw[u5 lq]at h
   exact bF o (orc:=[]) (by kernel_rfl) .n (lu (decide ((100:Int)<(List.length f1.2.1:Int))) h)
 refine jt 10 (b:=decide ((8:Int)<(List.length f1.2.1:Int))) (by kernel_rfl) (fun lr=>?_) (fun lr=>?_)
 ·rw[Mb lr]at h
  exact bF o (orc:=[]) (by kernel_rfl) .n (lt (decide ((List.length f1.2.1:Int)<=(32:Int))) h)
 ·rw[KK lr]at h
  exact bF o (orc:=[]) (by kernel_rfl) .n (lt false h)
noncomputable def P4(k:Nat):aL Tryz.prog an:=⟨18,L1 k,Qq k⟩
noncomputable def CU(k:Nat):aZ:=⟨[(.int .i32)],[.bool],[],fun x=>xr k x⟩
theorem QY(k:Nat):aY Tryz.prog an 90 (CU k).ba:=bt bq Tryz.func90 (by kernel_rfl) rfl Tryz.ntmps90 (CU k) (by kernel_rfl) [] (fun x=>.ah 2 (.cg 2 (.kR 6 [.ab 16 .bool] (aR [0,16] [] []) (vS x) (.ah 3 (.cg 2 .z)) .z (fun _=>.cg 2 .z)))) (by kernel_rfl)
noncomputable def xm(k:Nat):aL Tryz.prog an:=⟨90,CU k,QY k⟩
noncomputable def Eh(k:Nat):aZ:=⟨[.str,(.fn 90 .unit),.bool],[(.int .i64)],[],fun x=>zY k (x.1) (x.2.1) (x.2.2)⟩
theorem VI(k:Nat):aY Tryz.prog an 154 (Eh k).ba:=bt bq Tryz.func154 (by kernel_rfl) rfl Tryz.ntmps154 (Eh k) (by kernel_rfl) [xm k] (fun x=>.ah 3 (.bw [.it 10] (aR [1,2,10] [10] []) (sj k (x.1) (x.2.2)) k fun _ _=>.ah 1 (.c (.ah 1 (.T .z)) (.ah 1 (.F .z))))) (by kernel_rfl)
noncomputable def NQ(k:Nat):aL Tryz.prog an:=⟨154,Eh k,VI k⟩
noncomputable def zP(k:Nat):aZ:=⟨[.str,(.fn 90 .unit)],[(.int .i64)],[],fun x=>EQ k (x.1) (x.2)⟩
theorem P1(k:Nat):aY Tryz.prog an 123 (zP k).ba:=bt bq Tryz.func123 (by kernel_rfl) rfl Tryz.ntmps123 (zP k) (by kernel_rfl) [xm k,NQ k] (fun _=>.z) (by kernel_rfl)
noncomputable def Sa(k:Nat):aL Tryz.prog an:=⟨123,zP k,P1 k⟩
noncomputable def FG(k:Nat):aZ:=⟨[.str,(.fn 90 .unit)],[.bool],[],fun x=>Dg k (x.1) (x.2)⟩
theorem TV(k:Nat):aY Tryz.prog an 89 (FG k).ba:=bt bq Tryz.func89 (by kernel_rfl) rfl Tryz.ntmps89 (FG k) (by kernel_rfl) [xm k,Sa k] (fun _=>.z) (by kernel_rfl)
noncomputable def Tq(k:Nat):aL Tryz.prog an:=⟨89,FG k,TV k⟩
noncomputable def E0(k:Nat):aZ:=⟨[.str],[.bool],[],fun x=>vZ k x⟩
theorem WC(k:Nat):aY Tryz.prog an 64 (E0 k).ba:=bt bq Tryz.func64 (by kernel_rfl) rfl Tryz.ntmps64 (E0 k) (by kernel_rfl) [xm k,Tq k] (fun _=>.ah 2 (.cg 3 (.g 3 AC .z .z (fun _=>.z)))) (by kernel_rfl)
noncomputable def SG(k:Nat):aL Tryz.prog an:=⟨64,E0 k,WC k⟩
noncomputable def DX(k:Nat):aZ:=⟨[fY],[.bool],[],fun x=>oG k x⟩
theorem PB(k:Nat):aY Tryz.prog an 36 (DX k).ba:=bt bq Tryz.func36 (by kernel_rfl) rfl Tryz.ntmps36 (DX k) (by kernel_rfl) [SG k] (fun x=>.ah 3 (.cg 3 (.g 5 (r9 k x) .z .z (fun _=>.g 6 (rL k x) .z .z (fun _=>.f (.ah 3 (.bw [.ab 34 (.int .i64),.mp 31 .str .unit] (aR [3,32,33,34] [31] []) (fun n=>cT (nG k x n)) k fun O o=>.ah 2 (.t (.ah 2 (.a wW fun U=>.ah 3 (.g 4 (wC (eC O) (o.1) (o.2) U) .z .z (fun _=>.kR 13 [.ab 67 .bool] (aR [3,5,32,33,34,67] [5,31] []) (pW (eC O) (o.1) (o.2) U) .z (.ah 3 (.kR 9 [.ab 66 .bool] (aR [3,5,32,33,34,53,66] [5,31] []) (sd (eC O) (o.1) (o.2) U) (.ah 4 (.cg 4 .z)) .z (fun _=>.z))) (fun _=>.z))))))))))))) (by kernel_rfl)
noncomputable def Ri(k:Nat):aL Tryz.prog an:=⟨36,DX k,PB k⟩
noncomputable def CM(k:Nat):aZ:=⟨[.str],[.bool],[],fun x=>wj k x⟩
theorem TR(k:Nat):aY Tryz.prog an 91 (CM k).ba:=bt bq Tryz.func91 (by kernel_rfl) rfl Tryz.ntmps91 (CM k) (by kernel_rfl) [IG k] (fun _=>.ah 2 (.g 3 E9 .z .z (fun _=>.z))) (by kernel_rfl)
noncomputable def Nc(k:Nat):aL Tryz.prog an:=⟨91,CM k,TR k⟩
noncomputable def DO(k:Nat):aZ:=⟨[ck,(.int .i32)],[.bool],[],fun x=>qT k (x.1) (x.2)⟩
theorem QG(k:Nat):aY Tryz.prog an 124 (DO k).ba:=bt bq Tryz.func124 (by kernel_rfl) rfl Tryz.ntmps124 (DO k) (by kernel_rfl) [xk k] (fun _=>.z) (by kernel_rfl)
noncomputable def Dx(k:Nat):aL Tryz.prog an:=⟨124,DO k,QG k⟩
end Go.Ev
