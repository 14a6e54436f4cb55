/- The evaluator as one function is right. -/
import Derived.Test.YtgkgdfmldioddaaGreatDoorMM5
import Derived.Test.YtgkgdfmldioddaaGreatDoorMM4
import Derived.Test.YtgkgdfmldioddaaGreatDoorMM1
import Derived.Shelf.SlSortCmp.Insertion
import Derived.Test.YtgkgdfmldioddaaGreatDoorTyA
set_option linter.unusedSectionVars false
set_option linter.unusedVariables false
set_option linter.unusedSimpArgs false
namespace Go.Ev
open Go Go.RowKit
variable [Dr]
variable {R : Type} {P : Program} {G : World -> Prop}
variable {cx : Cx} {st st' : St} {T : Array Value} {w : World} {E : Env} {Q : Post} {ops : Array Oper} {l : List Oper}
theorem WL_one (hE : EnvOK E cx) {o : Oper} (hw : wantSV ops st o = some true) {orc : List TV} {ob : List Prop} (he : evO E st o orc = some (st', [], ob)) (hob : allP ob) (h : WL cx ops Q l st') : WL cx ops Q (o :: l) st := by
 refine WL_take hE 1 (orc := orc) (ob := ob ++ []) ?_ (by rw [List.append_nil]; exact hob) h
 show evL E ops [o] st orc = _
 unfold evL
 rw [hw]
 simp only [he, evL]
theorem fin_sound {r : R} {o : Oper} {k : KT P G R} {orc : List TV} {ps : List Prop} {h : Hi P G R} {kn : List KN} (hg : Gd (fin E st o k orc ps h kn) r) (hp : allP ps) :
  ∃ st' ob, evO E st o orc = some (st', [], ob) /\ allP ob /\ Gd (k st' h kn) r := by
 unfold fin at hg
 split at hg
 ·rename_i st' ob he
  obtain ⟨e, hg2⟩ := hg.eqp
  exact ⟨st', _, he, e ▸ hp, hg2⟩
 ·exact hg.no
theorem stepO1_sound {fs : List (PF P G)} {nn : Nat} (hE : EnvOK (envOf P G nn fs) cx) {r : R} {o : Oper} {h : Hi P G R} {kn : List KN} {k : KT P G R} (hw : wantSV ops st o = some true) (hkn : KnOK kn)
  (hg : Gd (stepO1 fs (envOf P G nn fs) st o h kn k) r) (hk : ∀ st' h' kn', KnOK kn' -> Gd (k st' h' kn') r -> WL cx ops Q l st') : WL cx ops Q (o :: l) st := by
 unfold stepO1 at hg
 split at hg
 ·rename_i I h' _
  split at hg
  ·rename_i r0 hen
   split at hg
   ·rename_i c hc
    split at hg
    ·rename_i xs hxs hce
     split at hg
     ·rename_i st' hlv
      have hcc := rowC_eq (Nat.eq_of_beq_eq_true hce) hxs
      subst hcc
      exact WL_callI0 hE I.ok xs (I.fn xs) rfl r0 hw hen hc hlv (hk _ _ _ hkn hg)
     ·exact hg.no
    ·exact hg.no
   ·exact hg.no
  ·exact hg.no
 ·rename_i α β B ρ ρ' hf _
  split at hg
  ·rename_i S0 hen
   split at hg
   ·rename_i x hx
    obtain ⟨e, hg2⟩ := hg.eqs
    obtain ⟨y, h1, hg3⟩ := hg2.ask
    split at hg3
    ·rename_i st' hlv
     exact WL_callB0 hE B.ok x y (B.rel x y h1) rfl hw (hen.trans e) hlv (hk _ _ _ hkn hg3)
    ·exact hg3.no
   ·exact hg.no
  ·exact hg.no
 ·rename_i α β B i j ρ ρ' hf _
  split at hg
  ·rename_i st1 hgh
   split at hg
   ·rename_i S0 hen
    split at hg
    ·rename_i x hx
     obtain ⟨e, hg2⟩ := hg.eqs
     obtain ⟨y, h1, hg3⟩ := hg2.ask
     split at hg3
     ·rename_i st' hlv
      exact WL_callN hE B.ok x y (B.rel x y h1) rfl hgh hw (hen.trans e) hlv (hk _ _ _ hkn hg3)
     ·exact hg3.no
    ·exact hg.no
   ·exact hg.no
  ·exact hg.no
 ·have last : ∀ {orc : List TV} {q : Qs} {h : Hi P G R}, Gd (askTr q h kn orc [] (fin (envOf P G nn fs) st o k)) r -> WL cx ops Q (o :: l) st := fun hg => by
   obtain ⟨orc, ps, h', kn', hp, hkn', hg⟩ := zb1 (ps := []) _ hkn trivial hg
   obtain ⟨st', ob, he, hob, hg⟩ := fin_sound hg hp
   exact WL_one hE hw he hob (hk _ _ _ hkn' hg)
  split at hg
  ·split at hg
   ·exact last hg
   ·exact last hg
  split at hg
  ·split at hg
   ·split at hg
    ·rcases hg.ite with ⟨hb, hg⟩ | ⟨hb, hg⟩
     ·obtain ⟨st', ob, he, hob, hg⟩ := fin_sound hg ⟨of_decide_eq_true hb, trivial⟩
      exact WL_one hE hw he hob (hk _ _ _ hkn hg)
     ·obtain ⟨st', ob, he, hob, hg⟩ := fin_sound hg ⟨Nat.le_of_not_lt (of_decide_eq_false hb), trivial⟩
      exact WL_one hE hw he hob (hk _ _ _ hkn hg)
    ·exact hg.no
   ·exact hg.no
  ·split at hg
   ·split at hg
    ·exact last hg
    ·exact last hg
   ·exact last hg
theorem wantSV_none {o : Oper} (h : o.guard = none) : wantSV ops st o = some true := by unfold wantSV; rw [h]
theorem stepO_sound {fs : List (PF P G)} {nn : Nat} (hE : EnvOK (envOf P G nn fs) cx) {r : R} {o : Oper} {h : Hi P G R} {kn : List KN} {k : KT P G R} (hw : wantSV ops st o = some true) (hkn : KnOK kn)
  (hg : Gd (stepO fs (envOf P G nn fs) st o h kn k) r) (hk : ∀ st' h' kn', KnOK kn' -> Gd (k st' h' kn') r -> WL cx ops Q l st') : WL cx ops Q (o :: l) st := by
 unfold stepO at hg
 split at hg
 ·split at hg
  ·rename_i c hc hgd
   have := stepO1_sound (l := l) (ops := ops) (Q := Q) hE (wantSV_none hgd) hkn hg hk
   rintro T w ⟨m, hm⟩
   exact this T w ⟨m, hm.freeze (zak hc)⟩
  ·exact hg.no
 ·exact stepO1_sound hE hw hkn hg hk
structure RX (cx : Cx) (ops : Array Oper) (nc : Nat) (r : R) (I : Type) (W : I -> List Oper -> St -> Prop) (N : I -> St -> Prop) (mu : St -> List Oper -> Option (St × List Oper)) (step : StepT P G R) (seg : List Oper -> St -> Option (St × List TV × List Prop)) : Prop where
 nil : ∀ i st, N i st -> W i [] st
 norm : ∀ i st st' ks bs rs, st.norm ks bs rs = some st' -> N i st' -> N i st
 normW : ∀ i l st st' ks bs rs, st.norm ks bs rs = some st' -> W i l st' -> W i l st
 step : ∀ i o l st h kn (k : KT P G R), wantSV ops st o = some true -> KnOK kn -> Gd (step st o h kn k) r -> (∀ st' h' kn', KnOK kn' -> Gd (k st' h' kn') r -> W i l st') -> W i (o :: l) st
 undef : ∀ i o l st, wantSV ops st o = some false -> (match o.dst with
  | some d => Nat.blt d nc = true /\ W i l (st.put d .undef)
  | none => W i l st) -> W i (o :: l) st
 join : ∀ i n l st (A : Type) (F : A -> Prop) (S : A -> St), (∀ a, F a -> W i (l.drop n) (S a)) -> (∀ i', (∀ a, F a -> N i' (S a)) -> W i' (l.take n) st) -> W i l st
 mu : ∀ i l st st' l', mu st l = some (st', l') -> W i l' st' -> W i l st
 seg : ∀ i m l st s, seg (l.take m) st = some (s, [], []) -> W i (l.drop m) s -> W i l st
theorem segB_some {seg : List Oper -> St -> Option (St × List TV × List Prop)} {l : List Oper} {st : St} {gs d : Nat} {b : Bool} {s : St} {x : Bool} (h : segB seg l st gs b d = some (s, x)) :
  ∃ s0, seg l (setB st gs b) = some (s0, [], []) /\ s0.norm (d :: keysOf (del (delS st gs).sl d)) (keysOf st.bx) (keysOf st.rw) = some s := by
 unfold segB at h
 split at h
 ·rename_i s0 h1
  split at h
  ·split at h
   ·rename_i s' h2
    cases h
    exact ⟨s0, h1, h2⟩
   ·cases h
  ·cases h
 ·cases h
theorem arrive_sound {r : R} {hs : List Ho} {S : HT hs -> St} {J : HT hs -> Option R} (hg : Gd (arrive hs S J st) r) : ∃ z, st.norm (keysOf (S z).sl) (keysOf (S z).bx) (keysOf (S z).rw) = some (S z) /\ J z = some r := by
 unfold arrive at hg
 split at hg
 ·rename_i z _
  obtain ⟨h1, hg⟩ := hg.eqs
  exact ⟨z, h1, hg.den⟩
 ·exact hg.no
theorem arriveB_sound {r : R} {st0 : St} {d : Nat} {J : Bool -> Option R} (hg : Gd (arriveB st0 d J st) r) : ∃ v, st.norm (d :: keysOf (del st0.sl d)) (keysOf st0.bx) (keysOf st0.rw) = some (st0.put d (.val .bool v)) /\ J v = some r := by
 unfold arriveB at hg
 split at hg
 ·rename_i v _
  obtain ⟨h1, hg⟩ := hg.eqs
  exact ⟨v, h1, hg.den⟩
 ·exact hg.no
theorem zb2 {nc : Nat} {r : R} {I : Type} {W : I -> List Oper -> St -> Prop} {N : I -> St -> Prop} {mu : St -> List Oper -> Option (St × List Oper)} {step : StepT P G R} {seg : List Oper -> St -> Option (St × List TV × List Prop)}
  (X : RX cx ops nc r I W N mu step seg) : ∀ (n : Nat) {i : I} {l : List Oper} {st : St} {h : Hi P G R} {kn : List KN} {K : KT P G R}, (∀ st' h' kn', KnOK kn' -> Gd (K st' h' kn') r -> N i st') -> KnOK kn ->
   Gd (runX nc mu step seg ops n l st h kn K) r -> W i l st := by
 intro n
 induction n with
 | zero => intro i l st h kn K _ _ hg; exact hg.no
 | succ n ih =>
  intro i l st h kn K hK hkn hg
  unfold runX at hg
  split at hg
  ·exact X.nil i st (hK _ _ _ hkn hg)
  ·rename_i o l
   have meet : ∀ (m gs : Nat) (b : Bool) (i : I), setB st gs b = st -> (∀ b', b = b' -> W i ((o :: l).take (m + 1)) (setB st gs b')) -> W i ((o :: l).take (m + 1)) st := fun m gs b i he hb => he ▸ hb b rfl
   split at hg
   ·rename_i hgd
    split at hg
    ·rename_i st' l' hmu
     exact X.mu i _ st st' l' hmu (ih hK hkn hg)
    ·exact X.step i o l st h kn _ (wantSV_none hgd) hkn hg fun st' h' kn' hk' hg' => ih hK hk' hg'
   ·rename_i g hgd
    split at hg
    ·rename_i m h'
     split at hg
     ·rename_i gs b d hgs hd
      split at hg
      ·rename_i s1 x1 s2 x2 h1 h2
       obtain ⟨he, hg1⟩ := hg.eqs
       obtain ⟨e1, hg2⟩ := hg1.eqs
       obtain ⟨e2, hg3⟩ := hg2.eqs
       have e1 := Option.some.inj e1
       have e2 := Option.some.inj e2
       have hr := ih (i := i) hK hkn hg3
       have he := Option.some.inj he
       cases b with
       | true =>
        obtain ⟨s0, k1, k2⟩ := segB_some h1
        refine X.seg i (m + 1) (o :: l) st s0 (by rw [he] at k1; exact k1) ?_
        exact X.normW i _ _ _ _ _ _ k2 (e1 ▸ hr)
       | false =>
        obtain ⟨s0, k1, k2⟩ := segB_some h2
        refine X.seg i (m + 1) (o :: l) st s0 (by rw [he] at k1; exact k1) ?_
        exact X.normW i _ _ _ _ _ _ k2 (e2 ▸ hr)
      ·exact hg.no
     ·exact hg.no
    ·rename_i m J hz
     split at hg
     ·rename_i gs b d hgs hd
      split at hg
      ·rename_i s1 x1 s2 x2 h1 h2
       obtain ⟨he, hg1⟩ := hg.eqs
       obtain ⟨e1, hg2⟩ := hg1.eqs
       obtain ⟨e2, hg3⟩ := hg2.eqs
       have e1 := Option.some.inj e1
       have e2 := Option.some.inj e2
       obtain ⟨hb, hg4⟩ := hg3.lab
       have hr := ih (i := i) hK KnOK.nil (hb _ hg4.den)
       have he := Option.some.inj he
       cases b with
       | true =>
        obtain ⟨s0, k1, k2⟩ := segB_some h1
        refine X.seg i (m + 1) (o :: l) st s0 (by rw [he] at k1; exact k1) ?_
        exact X.normW i _ _ _ _ _ _ k2 (e1 ▸ hr)
       | false =>
        obtain ⟨s0, k1, k2⟩ := segB_some h2
        refine X.seg i (m + 1) (o :: l) st s0 (by rw [he] at k1; exact k1) ?_
        exact X.normW i _ _ _ _ _ _ k2 (e2 ▸ hr)
      ·exact hg.no
     ·exact hg.no
    ·rename_i m J hx hy hz
     split at hg
     ·rename_i gs b d hgs hd
      obtain ⟨he, hg⟩ := hg.eqs
      obtain ⟨hb, hg⟩ := hg.lab
      have he := Option.some.inj he
      refine X.join i (m + 1) (o :: l) st Bool (fun v => J v = some r) (fun v => (delS st gs).put d (.val .bool v)) (fun v hv => ih hK KnOK.nil (hb v hv)) fun i' hN => ?_
      have fin : ∀ st' (h' : Hi P G R) (kn' : List KN), KnOK kn' -> Gd (arriveB (delS st gs) d J st') r -> N i' st' := fun st' _ _ _ hg' => by
       obtain ⟨v, k1, k2⟩ := arriveB_sound hg'
       exact X.norm i' _ _ _ _ _ k1 (hN v k2)
      refine meet m gs b i' he fun b' hb' => ?_
      subst hb'
      rcases hg.ite with ⟨e, hg5⟩ | ⟨e, hg5⟩
      ·rw [e]; exact ih fin hkn hg5
      ·rw [e]; exact ih fin hkn hg5
     ·exact hg.no
    ·rename_i m hs S J hx hy hz
     split at hg
     ·rename_i gs b hgs
      obtain ⟨he, hg⟩ := hg.eqs
      obtain ⟨hb, hg⟩ := hg.lab
      have he := Option.some.inj he
      refine X.join i (m + 1) (o :: l) st (HT hs) (fun v => J v = some r) (S st) (fun v hv => ih hK KnOK.nil (hb v hv)) fun i' hN => ?_
      have fin : ∀ st' (h' : Hi P G R) (kn' : List KN), KnOK kn' -> Gd (arrive hs (S st) J st') r -> N i' st' := fun st' _ _ _ hg' => by
       obtain ⟨v, k1, k2⟩ := arrive_sound hg'
       exact X.norm i' _ _ _ _ _ k1 (hN v k2)
      refine meet m gs b i' he fun b' hb' => ?_
      subst hb'
      rcases hg.ite with ⟨e, hg5⟩ | ⟨e, hg5⟩
      ·rw [e]; exact ih fin hkn hg5
      ·rw [e]; exact ih fin hkn hg5
     ·exact hg.no
    ·split at hg
     ·rename_i hw
      exact X.step i o l st _ kn _ hw hkn hg fun st' h' kn' hk' hg' => ih hK hk' hg'
     ·rename_i hw
      refine X.undef i o l st hw ?_
      split at hg
      ·rename_i d hd
       split at hg
       ·rename_i hdn
        try rw [hd]
        exact ⟨hdn, ih hK hkn hg⟩
       ·exact hg.no
      ·rename_i hd
       try rw [hd]
       exact ih hK hkn hg
     ·exact hg.no
theorem RX_L {fs : List (PF P G)} {nn : Nat} (hE : EnvOK (envOf P G nn fs) cx) (r : R) : RX cx ops nn r Post (fun Q l st => WL cx ops Q l st) (fun Q st => N cx Q .normal st) (upd3 (envOf P G nn fs)) (stepO fs (envOf P G nn fs)) (fun l st => evL (envOf P G nn fs) ops l st []) where
 nil := fun _ _ h => WL_nil h
 norm := fun _ _ _ _ _ _ hs h => h.norm hs
 normW := fun _ _ _ _ _ _ _ hs h => h.norm hs
 step := fun _ _ _ _ _ _ _ hw hkn hg hk => stepO_sound hE hw hkn hg hk
 undef := fun Q o l st hw h => by
  split at h
  ·rename_i d hd
   refine WL_take hE 1 (orc := []) (ob := []) ?_ trivial h.2
   show evL _ ops [o] st [] = _
   unfold evL
   rw [hw]
   simp only [hd, show Nat.blt d (envOf P G nn fs).n = true from h.1, evL]
  ·rename_i hd
   refine WL_take hE 1 (orc := []) (ob := []) ?_ trivial h
   show evL _ ops [o] st [] = _
   unfold evL
   rw [hw]
   simp only [hd, evL]
 join := fun _ n _ _ _ F S hy hx => WL_join F S n hy fun h => hx _ h
 mu := fun _ _ _ _ _ hu h => upd3_sound hE hu h
 seg := fun _ m _ _ _ hs h => WL_take hE m hs trivial h
theorem RX_D {fs : List (PF P G)} {nn : Nat} (hE : EnvOK (envOf P G nn fs) cx) (r : R) : RX cx ops nn r (World -> Act -> Prop) (fun K l st => WDK cx ops K l st) (fun K st => ND cx K st) (fun _ _ => none) (stepD fs (envOf P G nn fs)) (fun l st => evD (envOf P G nn fs) ops l st []) where
 nil := fun _ _ h => WDK_nil h
 norm := fun _ _ _ _ _ _ hs h => fun T w hR => h T w (hR.norm hs)
 normW := fun _ _ _ _ _ _ _ hs h => fun T w hR => h T w (hR.norm hs)
 step := fun K o l st h kn k hw hkn hg hk => by
  unfold stepD at hg
  split at hg
  ·rename_i d hd
   split at hg
   ·rename_i hdn
    obtain ⟨orc, ps, h', kn', hp, hkn', hg⟩ := zb1 (orc := []) (ps := []) _ hkn trivial hg
    unfold finD at hg
    split at hg
    ·rename_i sv ob he
     obtain ⟨e, hg2⟩ := hg.eqp
     intro T w hR
     have hk' := hk _ _ _ hkn' hg2
     have := zbx (P := cx.P) (ops := ops) (l1 := [o]) (l2 := l) (C := Ext w) (Q' := K w) (a := ⟨T, []⟩)
      (evD_sound hE (l := [o]) (orc := orc) (orc' := []) (ob := ob ++ []) hR (by unfold evD; rw [hw]; simp only [hd, he, hdn, evD]) (by rw [List.append_nil, e]; exact hp) fun T' hR' => hk' T' w hR')
     exact this
    ·exact hg.no
   ·exact hg.no
  ·exact hg.no
 undef := fun K o l st hw h => by
  intro T w hR
  have key : ∀ st', evD (envOf P G nn fs) ops [o] st [] = some (st', [], []) -> WDK cx ops K l st' -> wpQuiet cx.P ops (Ext w) (K w) (o :: l) ⟨T, []⟩ := fun st' he hW =>
   zbx (P := cx.P) (ops := ops) (l1 := [o]) (l2 := l) (evD_sound hE hR he trivial fun T' hR' => hW T' w hR')
  split at h
  ·rename_i d hd
   refine key (st.put d .undef) ?_ h.2
   unfold evD
   rw [hw]
   simp only [hd, show Nat.blt d (envOf P G nn fs).n = true from h.1, evD]
  ·rename_i hd
   refine key st ?_ h
   unfold evD
   rw [hw]
   simp only [hd, evD]
 mu := fun _ _ _ _ _ hu _ => by cases hu
 join := fun _ n _ _ _ F S hy hx => WDK_join F S n hy fun K h => hx K h
 seg := fun K m l st s hs h => by
  intro T w hR
  have := zbx (P := cx.P) (ops := ops) (l1 := l.take m) (l2 := l.drop m) (evD_sound hE hR hs trivial fun T' hR' => h T' w hR')
  rwa [List.take_append_drop] at this
theorem RX_C {fs : List (PF P G)} {nn : Nat} (hE : EnvOK (envOf P G nn fs) cx) (r : R) : RX cx ops nn r (World -> Act -> Prop) (fun K l st => WCK cx ops K l st) (fun K st => ND cx K st) (fun _ _ => none) (stepC fs (envOf P G nn fs)) (fun _ _ => none) where
 nil := fun _ _ h => WCK_nil h
 norm := fun _ _ _ _ _ _ hs h => fun T w hR => h T w (hR.norm hs)
 normW := fun _ _ _ _ _ _ _ hs h => fun T w hR => h T w (hR.norm hs)
 step := fun K o l st h kn k hw hkn hg hk => by
  unfold stepC at hg
  split at hg
  ·rename_i d hd
   split at hg
   ·rename_i hdn
    obtain ⟨orc, ps, h', kn', hp, hkn', hg⟩ := zb1 (orc := []) (ps := []) _ hkn trivial hg
    unfold finC at hg
    split at hg
    ·rename_i sv ob he
     split at hg
     ·rename_i hcs
      obtain ⟨e, hg2⟩ := hg.eqp
      have hk' := hk _ _ _ hkn' hg2
      exact WCK_take hE (orc := orc) (ob := ob ++ []) (by unfold evC; rw [hw]; simp only [hd, he, hdn, hcs, evC]) (by rw [List.append_nil, e]; exact hp) hk'
     ·exact hg.no
    ·exact hg.no
   ·exact hg.no
  ·exact hg.no
 undef := fun K o l st hw h => by
  split at h
  ·rename_i d hd
   refine WCK_take hE (orc := []) (ob := []) (st' := st.put d .undef) ?_ trivial h.2
   unfold evC
   rw [hw]
   simp only [hd, show Nat.blt d (envOf P G nn fs).n = true from h.1, evC]
  ·rename_i hd
   refine WCK_take hE (orc := []) (ob := []) (st' := st) ?_ trivial h
   unfold evC
   rw [hw]
   simp only [hd, evC]
 mu := fun _ _ _ _ _ hu _ => by cases hu
 join := fun _ n _ _ _ F S hy hx => WCK_join F S n hy fun K h => hx K h
 seg := fun _ _ _ _ _ hs _ => by cases hs
theorem runF_sound {fs : List (PF P G)} {nn : Nat} (hE : EnvOK (envOf P G nn fs) cx) {r : R} {o : Oper} {d : Nat} {orc : List TV} {ps : List Prop} {C2 : List Nat} {K : KT P G R} (hl : isLd o = true) (hp : allP ps) (hK : ∀ st' h' kn', KnOK kn' -> Gd (K st' h' kn') r -> N cx Q .normal st') :
  ∀ (C1 : List Nat) {st : St} {h : Hi P G R} {kn : List KN}, KnOK kn -> Gd (runF fs (envOf P G nn fs) ops o d orc ps C2 K C1 st h kn) r -> ∀ T w, Ev.R cx st T w -> flt cx.P ops (OnlyN Q) o d C2 C1 ⟨T, []⟩ w := by
 intro C1
 induction C1 with
 | nil =>
  intro st h kn hkn hg T w hR
  unfold runF runLs at hg
  unfold flt
  refine zb2 (RX_L hE r) 5000 (i := OnlyN Q) ?_ hkn hg T w hR
  exact fun st' h' kn' hkn' hg' T w hR => ⟨rfl, hK _ _ _ hkn' hg' T w hR⟩
 | cons c C1 ih =>
  intro st h kn hkn hg T w hR
  unfold runF at hg
  split at hg
  case h_2 => exact hg.no
  rename_i oc hc
  split at hg
  case h_2 => exact hg.no
  rename_i hw
  refine flt_cons hc (stepO_sound (ops := ops) (l := []) (Q := FlQ cx ops o d C2 C1 Q) hE hw hkn hg fun st' h' kn' hkn' hg' => ?_) hR
  split at hg'
  case h_2 => exact hg'.no
  rename_i pr sv hev hs
  split at hg'
  case h_2 => exact hg'.no
  rename_i hd
  obtain ⟨e1, hg2⟩ := hg'.eqs
  obtain ⟨e2, hg3⟩ := hg2.eqp
  have e1 := Option.some.inj e1
  simp only [St.mk.injEq, List.cons.injEq, Prod.mk.injEq, and_true, true_and] at e1
  subst e1
  exact WL_nil fun T' w' hR' => ⟨rfl, redo hE hR' hl hev (e2 ▸ hp) hs hd, ih hkn' hg3 T' w' hR'⟩
theorem runE_sound {fs : List (PF P G)} {nn : Nat} (hE : EnvOK (envOf P G nn fs) cx) {r : R} {K : KT P G R} {w0 : World} (hK : ∀ st' h' kn', KnOK kn' -> Gd (K st' h' kn') r -> N cx Q .normal st') :
  ∀ (C : List Nat) {st : St} {h : Hi P G R} {kn : List KN}, KnOK kn -> Gd (runE fs (envOf P G nn fs) ops K C st h kn) r -> ∀ T w, Ev.R cx st T w -> Ext w0 w -> wpListH cx.P ops (OnlyN Q) (Ext w0) (pickO ops C) ⟨T, []⟩ w := by
 intro C
 induction C with
 | nil =>
  intro st h kn hkn hg T w hR he
  exact ⟨rfl, hK _ _ _ hkn hg T w hR⟩
 | cons c C ih =>
  intro st h kn hkn hg
  unfold runE at hg
  split at hg
  case h_2 => exact hg.no
  rename_i o hc
  split at hg
  case h_2 => exact hg.no
  rename_i d hw hd
  split at hg
  case h_2 => exact hg.no
  rename_i hdn
  obtain ⟨orc, ps, h', kn', hp, hkn', hg⟩ := zb1 (orc := []) (ps := []) _ hkn trivial hg
  dsimp only at hg
  split at hg
  case h_2 => exact hg.no
  rename_i sv orc' ob hev
  obtain ⟨e, hg2⟩ := hg.eqp
  unfold pickO
  rw [hc]
  exact heldH_cons hE hw hd hdn hev (e ▸ hp) (ih hkn' hg2)
theorem W_tailK {id : Nat} {l : List Oper} (n : Nat) (hm : cx.P.follows .mixedOrders = true) (hB : Region.lexTailB .any l.toArray n = true)
  (h : WDK cx l.toArray (fun w a => ∀ w', Ext w w' -> wpList cx.P l.toArray Q (l.drop n) a w') (l.take n) st) : W cx Q (.region id l.toArray true) st := by
 intro T w hR
 exact wp_region_quiet_tail (C := Ext w) n hm hB (Ext.refl w).drew (h T w hR)
theorem preR_sound {h : Hi P G R} {s : St} {e : Exit} (hs : preR h st = some s) (hN : N cx Q e s) : N cx Q e st := by
 unfold preR at hs
 split at hs
 ·exact N_renI _ _ _ _ hs hN
 ·cases hs; exact hN
theorem ends_sound {r : R} {a : St -> Tr R} {K : KC P G R} {Q' : Act -> World -> Prop} (ha : ∀ st, Gd (a st) r -> N cx (Exit.then Q' Q) .normal st) (hK : ∀ e st h kn, KnOK kn -> Gd (K e st h kn) r -> N cx Q e st) :
  ∀ e st h kn, KnOK kn -> Gd (ends a K e st h kn) r -> N cx (Exit.then Q' Q) e st := by
 intro e st h kn hkn hg
 cases e with
 | normal =>
  unfold ends at hg
  dsimp only at hg
  split at hg
  ·rename_i s hs
   exact preR_sound hs (ha s hg)
  ·exact hg.no
 | _ => exact hK _ st h kn hkn hg
/-! Regions gone through in any order. -/
theorem lookLA_mem {las : List (Nat × LA P G)} {n : Nat} {v : LA P G} (h : lookLA las n = some v) : ∃ k, (k, v) ∈ las := by
 induction las with
 | nil => cases h
 | cons p r ih =>
  obtain ⟨k, u⟩ := p
  unfold lookLA at h
  cases hb : Nat.beq k n with
  | true => rw [hb] at h; cases h; exact ⟨k, List.mem_cons_self⟩
  | false =>
   rw [hb] at h
   obtain ⟨k', hk⟩ := ih h
   exact ⟨k', List.mem_cons_of_mem _ hk⟩
theorem latFin_sound {r : R} {o : Oper} {K : St -> Hi P G R -> List KN -> LA P G -> Tr R} {q : Qs} {h : Hi P G R} {kn : List KN} {orc : List TV} (hkn : KnOK kn) (hg : Gd (askTr q h kn orc [] (latFin E st o K)) r) :
  ∃ st' h' kn' la, KnOK kn' /\ LAOK la /\ Gd (K st' h' kn' la) r := by
 obtain ⟨orc, ps, h', kn', hp, hkn', hg⟩ := zb1 (ps := []) _ hkn trivial hg
 unfold latFin at hg
 split at hg
 ·exact ⟨_, _, _, .o orc ps, hkn', hp, hg⟩
 ·exact hg.no
theorem frz_sound {s : St} {z : Option Nat} (h : frz st z = some s) (hs : WL cx ops Q l s) : WL cx ops Q l st := by
 unfold frz at h
 split at h
 ·cases h; exact hs
 ·split at h
  ·rename_i c hc
   cases h
   rintro T w ⟨m, hm⟩
   exact hs T w ⟨m, hm.freeze (zak hc)⟩
  ·cases h
theorem latCB_sound {r : R} {o : Oper} {z : Option Nat} {h : Hi P G R} {kn : List KN} {K : St -> Hi P G R -> List KN -> LA P G -> Tr R} (hkn : KnOK kn) (hg : Gd (latCB E st o z h kn K) r) :
  ∃ st' h' kn' la, KnOK kn' /\ LAOK la /\ Gd (K st' h' kn' la) r := by
 unfold latCB at hg
 split at hg
 ·rename_i α β B ρ ρ' hf
  split at hg
  ·split at hg
   ·split at hg
    ·obtain ⟨_, hg2⟩ := hg.eqs
     obtain ⟨y, h1, hg3⟩ := hg2.ask
     split at hg3
     ·exact ⟨_, _, _, .b z B ρ ρ' _ y, hkn, h1, hg3⟩
     ·exact hg3.no
    ·exact hg.no
   ·exact hg.no
  ·exact hg.no
 ·exact hg.no
theorem latOne_sound {fs : List (PF P G)} {r : R} {o : Oper} {h : Hi P G R} {kn : List KN} {K : St -> Hi P G R -> List KN -> LA P G -> Tr R} (hkn : KnOK kn) (hg : Gd (latOne fs E st o h kn K) r) :
  ∃ st' h' kn' la, KnOK kn' /\ LAOK la /\ Gd (K st' h' kn' la) r := by
 unfold latOne at hg
 split at hg
 ·exact latCB_sound hkn hg
 ·exact latCB_sound hkn hg
 ·split at hg
  ·split at hg
   ·exact latFin_sound hkn hg
   ·exact latFin_sound hkn hg
  ·split at hg
   ·split at hg
    ·exact latFin_sound hkn hg
    ·exact latFin_sound hkn hg
   ·exact latFin_sound hkn hg
theorem latRun_sound {fs : List (PF P G)} {r : R} {K : Hi P G R -> List KN -> List (Nat × LA P G) -> Tr R} : ∀ (is : List Nat) {st : St} {h : Hi P G R} {kn : List KN} {las : List (Nat × LA P G)}, KnOK kn -> (∀ p ∈ las, LAOK p.2) ->
  Gd (latRun fs E ops is st h kn las K) r -> ∃ h' kn' las', KnOK kn' /\ (∀ p ∈ las', LAOK p.2) /\ Gd (K h' kn' las') r
 | [], st, h, kn, las, hkn, hla, hg => ⟨h, kn, las, hkn, hla, hg⟩
 | i :: is, st, h, kn, las, hkn, hla, hg => by
  unfold latRun at hg
  split at hg
  ·obtain ⟨st', h', kn', la, hkn', hl, hg⟩ := latOne_sound hkn hg
   refine latRun_sound is hkn' (fun p hp => ?_) hg
   rcases List.mem_cons.1 hp with rfl | hp
   ·exact hl
   ·exact hla p hp
  ·exact hg.no
theorem latChk_sound {fs : List (PF P G)} {nn : Nat} (hE : EnvOK (envOf P G nn fs) cx) {r : R} {s t : St} {o : Oper} {rest : Tr R} {la : LA P G} (hl : LAOK la) (hgd : o.guard = none) (hg : Gd (latChk (envOf P G nn fs) s o t rest la) r) : Leads cx ops o s t /\ Gd rest r := by
 unfold latChk at hg
 split at hg
 ·split at hg
  ·rename_i s' ob he
   obtain ⟨e1, hg⟩ := hg.eqs
   obtain ⟨e2, hg⟩ := hg.eqp
   exact ⟨fun Q hN => WL_one hE (wantSV_none hgd) he (e2 ▸ hl) (WL_nil (hN.norm e1)), hg⟩
  ·exact hg.no
 ·rename_i z α β B ρ ρ' x y
  split at hg
  ·rename_i s2 hz
   split at hg
   ·rename_i S0 s' h1 h2
    obtain ⟨e0, hg⟩ := hg.eqs
    obtain ⟨e1, hg⟩ := hg.eqs
    exact ⟨fun Q hN => frz_sound hz (WL_callB0 hE B.ok x y (B.rel x y hl) rfl (wantSV_none hgd) (h1.trans e0) h2 (WL_nil (hN.norm e1))), hg⟩
   ·exact hg.no
  ·exact hg.no
theorem latAll_sound {fs : List (PF P G)} {nn : Nat} (hE : EnvOK (envOf P G nn fs) cx) {r : R} {las : List (Nat × LA P G)} {st : St} {rest : Tr R} (hla : ∀ p ∈ las, LAOK p.2) : ∀ (l : List (List Nat × Nat)), Gd (latAll (envOf P G nn fs) ops las st l rest) r ->
  (∀ p ∈ l, ∃ o s s', ops[p.2]? = some o /\ latS (envOf P G nn fs) ops las st p.1 = some s /\ latS (envOf P G nn fs) ops las st (insD p.2 p.1) = some s' /\ Leads cx ops o s s') /\ Gd rest r
 | [], hg => ⟨fun p hp => (by cases hp), hg⟩
 | (D, i) :: l, hg => by
  unfold latAll at hg
  split at hg
  ·rename_i s t o la h1 h2 h3 h4
   split at hg
   ·rename_i hgd
    obtain ⟨k, hk⟩ := lookLA_mem h4
    obtain ⟨hl, hg⟩ := latChk_sound (ops := ops) hE (hla _ hk) hgd hg
    obtain ⟨i1, i2⟩ := latAll_sound hE hla l hg
    refine ⟨fun p hp => ?_, i2⟩
    rcases List.mem_cons.1 hp with rfl | hp
    ·exact ⟨o, s, t, h3, h1, h2, hl⟩
    ·exact i1 p hp
   ·exact hg.no
  ·exact hg.no
theorem latT_sound {fs : List (PF P G)} {nn : Nat} (hE : EnvOK (envOf P G nn fs) cx) {r : R} {id : Nat} {ds : List (List Nat)} {h : Hi P G R} {kn : List KN} {K : KT P G R} {Q : Post}
  (hK : ∀ st' h' kn', KnOK kn' -> Gd (K st' h' kn') r -> N cx Q .normal st') (hkn : KnOK kn) (hg : Gd (latT fs (envOf P G nn fs) ops ds st h kn K) r) : W cx Q (.region id ops true) st := by
 unfold latT at hg
 split at hg
 ·rename_i hm hB
  obtain ⟨h', kn', las, hkn', hla, hg⟩ := latRun_sound _ hkn (fun p hp => (by cases hp)) hg
  split at hg
  ·rename_i t ht
   obtain ⟨h1, h2⟩ := latAll_sound (cx := cx) hE hla _ hg
   refine W_latS (by rw [hE.P]; exact hm) hB (S := latS (envOf P G nn fs) ops las st) (fun D hD i hi => ?_) rfl fun s hs => ?_
   ·exact h1 (D, i) (List.mem_flatMap.2 ⟨D, hD, List.mem_map.2 ⟨i, hi, rfl⟩⟩)
   ·rw [ht] at hs
    cases hs
    exact hK _ _ _ hkn' h2
  ·exact hg.no
 ·exact hg.no
theorem runR_sound {fs : List (PF P G)} {nn : Nat} (hE : EnvOK (envOf P G nn fs) cx) {r : R} {id : Nat} {ops : Array Oper} {draw : Bool} {st : St} {h : Hi P G R} {kn : List KN} {K : KC P G R} {Q : Post}
  (hK : ∀ e st' h' kn', KnOK kn' -> Gd (K e st' h' kn') r -> N cx Q e st') (hkn : KnOK kn) (hg : Gd (runR fs (envOf P G nn fs) ops draw st h kn K) r) : W cx Q (.region id ops draw) st := by
 obtain ⟨l⟩ := ops
 unfold runR at hg
 have hK' : ∀ st' h' kn', KnOK kn' -> Gd (K .normal st' h' kn') r -> N cx Q .normal st' := fun _ _ _ => hK _ _ _ _
 split at hg
 ·exact zbt (zb2 (RX_L hE r) 5000 (i := Q) hK' hkn hg)
 ·split at hg
  ·rename_i m h'
   split at hg
   ·rename_i hm hB
    refine W_tailK m (by rw [hE.P]; exact hm) hB ?_
    refine zb2 (RX_D hE r) 5000 (i := fun w a => ∀ w', Ext w w' -> wpList cx.P l.toArray Q (l.drop m) a w') ?_ hkn hg
    intro st' h' kn' hkn' hg' T w hR w' he
    exact zb2 (RX_L hE r) 5000 (i := Q) hK' hkn' hg' T w' (hR.ext he)
   ·exact hg.no
  ·rename_i a b c h'
   split at hg
   ·rename_i hm hB hn
    refine W_mixK (Q := Q) a b c (by rw [hE.P]; exact hm) hB (Nat.eq_of_beq_eq_true hn) ?_
    refine zb2 (RX_C hE r) 5000 (i := fun w a' => wpQuiet cx.P l.toArray (Ext w) (fun a' => ∀ w', Ext w w' -> wpList cx.P l.toArray (OnlyN Q) (pickO l.toArray c) a' w') (pickO l.toArray b) a') ?_ hkn hg
    intro st' h' kn' hkn' hg' T w hR
    refine zb2 (RX_D hE r) 5000 (i := fun w a' => ∀ w', Ext w w' -> wpList cx.P l.toArray (OnlyN Q) (pickO l.toArray c) a' w') ?_ hkn' hg' T w hR
    intro st' h' kn' hkn' hg' T w hR w' he
    refine zb2 (RX_L hE r) 5000 (i := OnlyN Q) ?_ hkn' hg' T w' (hR.ext he)
    intro st' h' kn' hkn' hg' T w hR
    exact ⟨rfl, hK' _ _ _ hkn' hg' T w hR⟩
   ·exact hg.no
  ·rename_i a b i c c2 h'
   split at hg
   case h_2 => exact hg.no
   rename_i o hi
   split at hg
   case h_2 => exact hg.no
   rename_i d hd hgd hx hm hB
   rw [hd] at hx
   simp only [Bool.and_eq_true, Bool.not_eq_true', Option.getD_some] at hx
   obtain ⟨hl, hlk, hdn, hn⟩ := hx
   refine W_floatK (Q := Q) hE a b i c c2 hm hB (Nat.eq_of_beq_eq_true hn) hi hd hgd hlk hdn ?_
   refine zb2 (RX_C hE r) 5000 (i := fun w a' => wpQuiet cx.P l.toArray (Ext w) (fun a' => ∀ w', Ext w w' -> d < a'.tmps.size /\ ∃ v, (execOp a'.eval o).run cx.P w' = .ok (.value v) w' /\ flt cx.P l.toArray (OnlyN Q) o d c2 c (a'.put o.dst v) w') (pickO l.toArray b) a') ?_ hkn hg
   intro st' h' kn' hkn' hg' T w hR
   refine zb2 (RX_D hE r) 5000 (i := fun w a' => ∀ w', Ext w w' -> d < a'.tmps.size /\ ∃ v, (execOp a'.eval o).run cx.P w' = .ok (.value v) w' /\ flt cx.P l.toArray (OnlyN Q) o d c2 c (a'.put o.dst v) w') ?_ hkn' hg' T w hR
   intro st' h' kn' hkn' hg' T w hR w' he
   unfold askF at hg'
   obtain ⟨orc, ps, h', kn', hp, hkn', hg'⟩ := zb1 (orc := []) (ps := []) _ hkn' trivial hg'
   dsimp only at hg'
   split at hg'
   case h_2 => exact hg'.no
   rename_i pr hev
   obtain ⟨e, hg'⟩ := hg'.eqp
   have hdn' : d < cx.n := by rw [hE.n]; exact zax hdn
   obtain ⟨m, hm2⟩ := hR.ext he
   obtain ⟨v, h5, h6⟩ := ld_run hE hm2 hl hev (e ▸ hp)
   refine ⟨by rw [hm2.size]; exact hdn', v, h5 w' (Ext.refl w'), ?_⟩
   rw [hd]
   exact runF_sound hE hl hp hK' c hkn' hg' _ _ ⟨m, hm2.put hdn' h6⟩
  ·rename_i a b c2 c3 c4 c5 c6 h'
   split at hg
   case h_2 => exact hg.no
   rename_i C hm hB hn hC
   refine W_cntK (Q := Q) hE a b c2 c3 c4 c5 c6 hm hB (Nat.eq_of_beq_eq_true hn) hC ?_
   refine zb2 (RX_C hE r) 5000 (i := fun w a' => wpQuiet cx.P l.toArray (Ext w) (fun a' => ∀ w', Ext w w' -> ∃ v2 v3 v4 v5 w1 w2, CnFacts cx.P (OnlyN Q) C a' w' v2 v3 v4 v5 w1 w2) (pickO l.toArray b) a') ?_ hkn hg
   intro st' h' kn' hkn' hg' T w hR
   refine zb2 (RX_D hE r) 5000 (i := fun w a' => ∀ w', Ext w w' -> ∃ v2 v3 v4 v5 w1 w2, CnFacts cx.P (OnlyN Q) C a' w' v2 v3 v4 v5 w1 w2) ?_ hkn' hg' T w hR
   intro st' h' kn' hkn' hg' T w hR w' he
   split at hg'
   case h_2 => exact hg'.no
   rename_i st2 hev
   obtain ⟨m, hm2⟩ := hR.ext he
   obtain ⟨v2, v3, v4, v5, w1, w2, F⟩ := cnt_sound hE hm2 hev
   exact ⟨v2, v3, v4, v5, w1, w2, F (hK' _ _ _ hkn' hg')⟩
  ·rename_i a b c d h'
   split at hg
   case h_2 => exact hg.no
   rename_i hm hB hn
   refine W_mdK (Q := Q) a b c d (by rw [hE.P]; exact hm) hB (Nat.eq_of_beq_eq_true hn) ?_
   refine zb2 (RX_C hE r) 5000 (i := fun w a' => wpQuiet cx.P l.toArray (Ext w) (fun a' => ∀ w', Ext w w' -> wpList cx.P l.toArray (MdQ cx l.toArray d Q) (pickO l.toArray c) a' w') (pickO l.toArray b) a') ?_ hkn hg
   intro st' h' kn' hkn' hg' T w hR
   refine zb2 (RX_D hE r) 5000 (i := fun w a' => ∀ w', Ext w w' -> wpList cx.P l.toArray (MdQ cx l.toArray d Q) (pickO l.toArray c) a' w') ?_ hkn' hg' T w hR
   intro st' h' kn' hkn' hg' T w hR w' he
   refine zb2 (RX_L hE r) 5000 (i := MdQ cx l.toArray d Q) ?_ hkn' hg' T w' (hR.ext he)
   intro st' h' kn' hkn' hg' T w hR
   refine ⟨rfl, ?_⟩
   refine zb2 (RX_D hE r) 5000 (i := fun w a => ∀ w', Ext w w' -> OnlyN Q .normal a w') ?_ hkn' hg' T w hR
   intro st' h' kn' hkn' hg' T w hR w' he
   exact ⟨rfl, hK' _ _ _ hkn' hg' T w' (hR.ext he)⟩
  ·rename_i b c h'
   split at hg
   case h_2 => exact hg.no
   rename_i hm hB hn
   refine W_heldK (Q := Q) b c (by rw [hE.P]; exact hm) hB (Nat.eq_of_beq_eq_true hn) ?_
   refine zb2 (RX_D hE r) 5000 (i := fun w a' => ∀ w', Ext w w' -> wpListH cx.P l.toArray (OnlyN Q) (Ext w) (pickO l.toArray c) a' w') ?_ hkn hg
   intro st' h' kn' hkn' hg' T w hR w' he
   exact runE_sound hE hK' c hkn' hg' T w' (hR.ext he) he
  ·rename_i ds h'
   exact latT_sound hE hK' hkn hg
  ·split at hg
   ·rename_i hm hB
    refine W_draw hE hm hB ?_
    refine zb2 (RX_D hE r) 5000 (i := fun w a => ∀ w', Ext w w' -> Q .normal a w') ?_ hkn hg
    intro st' h' kn' hkn' hg' T w hR w' he
    exact hK' _ _ _ hkn' hg' T w' (hR.ext he)
   ·exact hg.no
theorem run_sound {fs : List (PF P G)} {nn : Nat} (hE : EnvOK (envOf P G nn fs) cx) {r : R} : ∀ (c : Code) {st : St} {h : Hi P G R} {kn : List KN} {K : KC P G R} {Q : Post},
  (∀ e st' h' kn', KnOK kn' -> Gd (K e st' h' kn') r -> N cx Q e st') -> KnOK kn -> Gd (run fs (envOf P G nn fs) c st h kn K) r -> W cx Q c st := by
 intro c
 induction c with
 | skip => intro st h kn K Q hK hkn hg; exact W_skip (hK _ _ _ _ hkn hg)
 | exit id => intro st h kn K Q hK hkn hg; exact W_exit (hK _ _ _ _ hkn hg)
 | ret => intro st h kn K Q hK hkn hg; exact W_ret (hK _ _ _ _ hkn hg)
 | block id c ih =>
  intro st h kn K Q hK hkn hg
  refine W_block (ih ?_ hkn hg)
  intro e st' h' kn' hkn' hg'
  split at hg'
  ·exact N_block (hK _ _ _ _ hkn' hg')
  ·exact zbr (hK _ _ _ _ hkn' hg')
  ·rename_i i
   split at hg'
   ·rename_i hi
    have hi := Nat.eq_of_beq_eq_true hi
    subst hi
    exact zbs (hK _ _ _ _ hkn' hg')
   ·rename_i hi
    exact N_block_out hi (hK _ _ _ _ hkn' hg')
  ·exact hg'.no
 | seq x y ihx ihy =>
  intro st h kn K Q hK hkn hg
  unfold run at hg
  split at hg
  ·rename_i hs S J hx hy
   obtain ⟨hb, hg2⟩ := hg.lab
   refine W_join (α := HT hs) (fun z => J z = some r) (S st) (fun z hz => ihy hK KnOK.nil (hb z hz)) fun hN => ?_
   refine ihx (ends_sound (fun st' hg' => ?_) hK) hkn hg2
   obtain ⟨z, k1, k2⟩ := arrive_sound hg'
   exact (hN z k2).norm k1
  ·refine W_seq (ihx ?_ hkn hg)
   intro e st' h' kn' hkn' hg'
   cases e with
   | normal => exact N_then (ihy hK hkn' hg')
   | _ => exact hK _ st' h' kn' hkn' hg'
 | cond c x y ihx ihy =>
  intro st h kn K Q hK hkn hg
  unfold run at hg
  split at hg
  ·rename_i b hc
   split at hg
   ·obtain ⟨e, hg2⟩ := hg.eqb
    exact W_cond hc (fun _ => ihx hK hkn hg2) fun h => by rw [e] at h; cases h
   ·obtain ⟨e, hg2⟩ := hg.eqb
    exact W_cond hc (fun h => by rw [e] at h; cases h) fun _ => ihy hK hkn hg2
   ·rcases hg.ite with ⟨e, hg2⟩ | ⟨e, hg2⟩
    ·exact W_cond hc (fun _ => ihx hK hkn hg2) fun h => by rw [e] at h; cases h
    ·exact W_cond hc (fun h => by rw [e] at h; cases h) fun _ => ihy hK hkn hg2
  ·exact hg.no
 | loop c ih =>
  intro st h kn K Q hK hkn hg
  unfold run at hg
  split at hg
  ·rename_i hs S F k hb
   split at hg
   ·rename_i z0 hz0
    obtain ⟨h0, h1, hg2⟩ := hg.lop
    obtain ⟨e, hg3⟩ := hg2.eqs
    refine W.norm (W_loop (fun n z => F n z = some r) (S st) ?_ hg3.den) e
    intro n z hz
    cases n with
    | zero => rw [h0] at hz; cases hz
    | succ n =>
     refine ih (ends_sound (fun st' hg' => ?_) hK) KnOK.nil (h1 n z hz)
     obtain ⟨z', k1, k2⟩ := arrive_sound hg'
     exact (N_round (F := fun n z => F n z = some r) z' (Nat.lt_succ_self n) k2).norm k1
   ·exact hg.no
  ·exact hg.no
 | region id ops draw =>
  intro st h kn K Q hK hkn hg
  unfold run at hg
  split at hg
  ·rename_i r0 h'
   split at hg
   ·rename_i c hc
    rintro T w ⟨m, hm⟩
    exact runR_sound hE hK hkn hg T w ⟨m, hm.freeze (zak hc)⟩
   ·exact hg.no
  ·split at hg
   ·rename_i st' hs
    exact W.norm (runR_sound hE hK hkn hg) hs
   ·exact hg.no
  ·exact runR_sound hE hK hkn hg
 | _ => intro st h kn K Q hK hkn hg; exact hg.no
def cK {α : Type} (b : Bool) (o : Option α) : Option α := bif b then o else none
theorem cK_some {α : Type} {b : Bool} {o : Option α} {y : α} (h : cK b o = some y) : b = true /\ o = some y := by
 cases b with
 | true => exact ⟨rfl, h⟩
 | false => cases h
/-! Contracts. -/
def endC (P0 : Program) (rv : List ResultVar) (cod : List Ty) : KC P G (PE cod) := fun e st _ _ =>
 match e with
 | .ret => match evRes P0 (freezeAll st) rv with
  | some rs => .ret (castL cod rs)
  | none => .ret none
 | .normal => match evRes P0 (freezeAll st) rv with
  | some rs => .ret (castL cod rs)
  | none => .ret none
 | _ => .ret none
def bodyT (P : Program) (G : World -> Prop) (n : Nat) (fs : List (PF P G)) (c : Code) (rv : List ResultVar) (F : FnF) (h : PE F.dom -> Hi P G (PE F.cod)) (x : PE F.dom) : Tr (PE F.cod) :=
 run fs (envOf P G n fs) c ⟨argSl 0 (splitTV F.dom x), [], []⟩ (h x) [] (endC P rv F.cod)
theorem rel_of {F : FnF} {as0 rs : List TV} (h : F.toC.rel as0 rs) : ∃ x y, as0 = splitTV F.dom x /\ rs = splitTV F.cod y /\ F.fn x = some y := by
 have h : (match castL F.dom as0, castL F.cod rs with
  | some x, some y => F.fn x = some y
  | _, _ => False) := h
 split at h
 ·rename_i x y hx hy
  exact ⟨x, y, split_castL _ _ _ hx, split_castL _ _ _ hy, h⟩
 ·exact h.elim
theorem mkC {P : Program} {G : World -> Prop} (hst : ∀ w w', Frame w w' (fun _ => False) -> G w -> G w') {f : FuncId} {fn : Func} {c : Code} (hf : P.funcs[f]? = some fn) (hname : (fn.name == "runtime.NumGoroutine") = false) (hb : fn.body = some c)
  {n : Nat} (hn : fn.ntmps = n) (F : FnF) (hd : Nat.ble F.dom.length n = true) (fs : List (PF P G)) (h : PE F.dom -> Hi P G (PE F.cod))
  (hc : (fun x => ((bodyT P G n fs c fn.results.toList F h x).lft, (bodyT P G n fs c fn.results.toList F h x).den)) = fun x => ((bodyT P G n fs c fn.results.toList F h x).rgt, F.fn x)) : Contract P G f F.toC := by
 refine contract_of hst hf hname hb ?_ ?_
 ·intro as0 rs h
  obtain ⟨x, y, rfl, rfl, _⟩ := rel_of h
  refine ⟨by rw [split_len, hn]; exact Nat.le_of_ble_eq_true hd, split_len _ _, fun hfl u hu => ?_⟩
  exact List.all_eq_true.1 hfl _ (split_ty _ _ u hu)
 ·intro w0 M as0 rs hG h
  obtain ⟨x, y, rfl, rfl, hxy⟩ := rel_of h
  have hE : EnvOK (envOf P G n fs) ⟨P, fn.ntmps, w0, M, fun _ => False, fun _ => undef⟩ := envOf_ok rfl hn hG
  have hx := congrFun hc x
  simp only [Prod.mk.injEq] at hx
  refine run_sound hE c (r := y) ?_ KnOK.nil ⟨Tr.ok_of _ hx.1, hx.2.trans hxy⟩
  intro e st' h' kn' _ hg
  have key : ∀ e', (e' = .ret \/ e' = .normal) -> Gd (match evRes P (freezeAll st') fn.results.toList with
    | some rs => Tr.ret (castL F.cod rs)
    | none => .ret none) y -> N ⟨P, fn.ntmps, w0, M, fun _ => False, fun _ => undef⟩ (Owes P fn M w0 (splitTV F.cod y)) e' st' := by
   intro e' he hg
   split at hg
   ·rename_i rs hrs
    exact N_end he (by rw [hrs, split_castL _ _ _ hg.den])
   ·exact hg.no
  cases e with
  | ret => exact key _ (.inl rfl) hg
  | normal => exact key _ (.inr rfl) hg
  | _ => exact hg.no
theorem mkCc {P : Program} {G : World -> Prop} (hst : ∀ w w', Frame w w' (fun _ => False) -> G w -> G w') {f : FuncId} {fn : Func} {c : Code} (hf : P.funcs[f]? = some fn) (hname : (fn.name == "runtime.NumGoroutine") = false) (hb : fn.body = some c)
  {n : Nat} (hn : fn.ntmps = n) (F : FnF) (hd : Nat.ble F.dom.length n = true) (fs : List (PF P G)) (dom' : List Ty) (inj : PE dom' -> PE F.dom) (fn' : PE dom' -> Option (PE F.cod)) (hinj : ∀ z y, F.fn z = some y -> ∃ x, inj x = z /\ fn' x = some y) (h : PE dom' -> Hi P G (PE F.cod))
  (hc : (fun x => ((bodyT P G n fs c fn.results.toList F (fun _ => h x) (inj x)).lft, (bodyT P G n fs c fn.results.toList F (fun _ => h x) (inj x)).den)) = fun x => ((bodyT P G n fs c fn.results.toList F (fun _ => h x) (inj x)).rgt, fn' x)) : Contract P G f F.toC := by
 refine contract_of hst hf hname hb ?_ ?_
 ·intro as0 rs h
  obtain ⟨x, y, rfl, rfl, _⟩ := rel_of h
  refine ⟨by rw [split_len, hn]; exact Nat.le_of_ble_eq_true hd, split_len _ _, fun hfl u hu => ?_⟩
  exact List.all_eq_true.1 hfl _ (split_ty _ _ u hu)
 ·intro w0 M as0 rs hG h1
  obtain ⟨z, y, rfl, rfl, hzy⟩ := rel_of h1
  obtain ⟨x, rfl, hxy⟩ := hinj z y hzy
  have hE : EnvOK (envOf P G n fs) ⟨P, fn.ntmps, w0, M, fun _ => False, fun _ => undef⟩ := envOf_ok rfl hn hG
  have hx := congrFun hc x
  simp only [Prod.mk.injEq] at hx
  refine run_sound hE c (r := y) ?_ KnOK.nil ⟨Tr.ok_of _ hx.1, hx.2.trans hxy⟩
  intro e st' h' kn' _ hg
  have key : ∀ e', (e' = .ret \/ e' = .normal) -> Gd (match evRes P (freezeAll st') fn.results.toList with
    | some rs => Tr.ret (castL F.cod rs)
    | none => .ret none) y -> N ⟨P, fn.ntmps, w0, M, fun _ => False, fun _ => undef⟩ (Owes P fn M w0 (splitTV F.cod y)) e' st' := by
   intro e' he hg
   split at hg
   ·rename_i rs hrs
    exact N_end he (by rw [hrs, split_castL _ _ _ hg.den])
   ·exact hg.no
  cases e with
  | ret => exact key _ (.inl rfl) hg
  | normal => exact key _ (.inr rfl) hg
  | _ => exact hg.no
theorem mkC0 {P : Program} {G : World -> Prop} {f : FuncId} {fn : Func} {c : Code} (hf : P.funcs[f]? = some fn) (hname : (fn.name == "runtime.NumGoroutine") = false) (hb : fn.body = some c) (F : FnF) (h : ∀ x, F.fn x = none) : Contract P G f F.toC where
 enters := zbv hf hname hb
 shape := fun as0 rs hr => by
  obtain ⟨x, y, _, _, e⟩ := rel_of hr
  rw [h] at e
  cases e
 calls := fun w M vs as0 rs _ _ hr => by
  obtain ⟨x, y, _, _, e⟩ := rel_of hr
  rw [h] at e
  cases e
/-! Contracts of functions that change what their caller owns. -/
def argSlR : Nat -> List SV -> List (Nat × SV)
 | _, [] => []
 | k, s :: l => (k, s) :: argSlR (k + 1) l
def endB1 {α β : Type} (P0 : Program) (rv : List ResultVar) (F : FnB α β) (Y : St -> Option β) (bs rws : List Nat) (x : α) (st : St) : Tr β :=
 match evResS P0 st rv, st.norm [] bs rws with
 | some rs, some s => match Y ⟨argSlR 0 rs, s.bx, s.rw⟩ with
  | some y => .eqs (some ⟨argSlR 0 rs, s.bx, s.rw⟩) (some ⟨argSlR 0 (F.rs x y), (F.S' x y).bx, (F.S' x y).rw⟩) (.eqs (some s) (some (F.S' x y)) (.ret (some y)))
  | none => .ret none
 | _, _ => .ret none
def endB {α β : Type} (P0 : Program) (rv : List ResultVar) (F : FnB α β) (Y : St -> Option β) (bs rws : List Nat) (x : α) : KC P G β := fun e st h _ =>
 let t := match preR h st with
  | some st => endB1 P0 rv F Y bs rws x st
  | none => .ret none
 match e with
 | .ret => t
 | .normal => t
 | _ => .ret none
theorem argSlR_inj : ∀ {k : Nat} {a b : List SV}, argSlR k a = argSlR k b -> a = b
 | _, [], [], _ => rfl
 | _, [], _ :: _, h => by cases h
 | _, _ :: _, [], h => by cases h
 | k, x :: a, y :: b, h => by
  simp only [argSlR, List.cons.injEq, Prod.mk.injEq, true_and] at h
  rw [h.1, argSlR_inj h.2]
def bodyB (P : Program) (G : World -> Prop) {α β : Type} (fs : List (PF P G)) (c : Code) (rv : List ResultVar) (F : FnB α β) (Y : St -> Option β) (bs rws : List Nat) (h : α -> Hi P G β) (x : α) : Tr β :=
 run fs (envOf P G F.n fs) c (F.S x) (h x) [] (endB P rv F Y bs rws x)
theorem mkB {P : Program} {G : World -> Prop} {f : FuncId} {fn : Func} {c : Code} {α β : Type} (hf : P.funcs[f]? = some fn) (hname : (fn.name == "runtime.NumGoroutine") = false) (hb : fn.body = some c)
  (F : FnB α β) (hn : fn.ntmps = F.n) (fs : List (PF P G)) (fnn : α -> Option β) (hrel : ∀ x y, F.rel x y -> fnn x = some y) (Y : St -> Option β) (bs rws : List Nat) (h : α -> Hi P G β)
  (hc : (fun x => ((bodyB P G fs c fn.results.toList F Y bs rws h x).lft, (bodyB P G fs c fn.results.toList F Y bs rws h x).den)) = fun x => ((bodyB P G fs c fn.results.toList F Y bs rws h x).rgt, fnn x)) : BC P G f F := by
 refine bc_of hf hname hb hn ?_
 intro cx hP hn' hG x y hxy
 have hE : EnvOK (envOf P G F.n fs) cx := envOf_ok hP hn' hG
 have hx := congrFun hc x
 simp only [Prod.mk.injEq] at hx
 refine run_sound hE c (r := y) ?_ KnOK.nil ⟨Tr.ok_of _ hx.1, hx.2.trans (hrel x y hxy)⟩
 intro e st' h' kn' _ hg
 have key : ∀ e', (e' = .ret \/ e' = .normal) -> Gd (match preR h' st' with
   | some st' => endB1 P fn.results.toList F Y bs rws x st'
   | none => .ret none) y -> N cx (OwesB cx.P fn cx (F.S' x y) (F.rs x y)) e' st' := by
  intro e' he hg
  split at hg
  ·rename_i st2 hpre
   refine preR_sound hpre ?_
   unfold endB1 at hg
   split at hg
   ·rename_i rs s hrs hs
    split at hg
    ·obtain ⟨e1, hg2⟩ := hg.eqs
     obtain ⟨e2, hg3⟩ := hg2.eqs
     have e3 := Option.some.inj hg3.den
     subst e3
     have e1 := Option.some.inj e1
     simp only [St.mk.injEq] at e1
     exact N_endB hP bs rws he (by rw [hrs, argSlR_inj e1.1]) (by rw [hs, Option.some.inj e2])
    ·exact hg.no
   ·exact hg.no
  ·exact hg.no
 cases e with
 | ret => exact key _ (.inl rfl) hg
 | normal => exact key _ (.inr rfl) hg
 | _ => exact hg.no
theorem ofC {P : Program} {G : World -> Prop} {f : Nat} {C : FnC} (h : Contract P G f C) (F : FnF) (hr : ∀ x y, F.fn x = some y -> C.rel (splitTV F.dom x) (splitTV F.cod y)) : Contract P G f F.toC where
 enters := h.enters
 shape := fun as0 rs hh => by
  obtain ⟨x, y, rfl, rfl, _⟩ := rel_of hh
  exact ⟨split_len _ _, fun hfl u hu => List.all_eq_true.1 hfl _ (split_ty _ _ u hu)⟩
 calls := fun w M vs as0 rs hG hM hh => by
  obtain ⟨x, y, rfl, rfl, e⟩ := rel_of hh
  exact h.calls w M vs _ _ hG hM (hr x y e)
theorem mkB0 {P : Program} {G : World -> Prop} {f : FuncId} {fn : Func} {c : Code} {α β : Type} (hf : P.funcs[f]? = some fn) (hname : (fn.name == "runtime.NumGoroutine") = false) (hb : fn.body = some c) (F : FnB α β) (h : ∀ x y, F.rel x y -> False) : BC P G f F where
 enters := zbv hf hname hb
 calls := fun _ _ _ _ x y hr => (h x y hr).elim
def Un0 {γ : Type} (f : γ) : Unit -> γ := fun _ => f
def Un2 {α0 α1 γ : Type} (f : α0 -> α1 -> γ) : α0 × α1 -> γ := fun z => f z.1 z.2
def Cn2 {α0 α1 γ : Type} (g : α0 × α1 -> γ) : α0 -> α1 -> γ := fun x0 x1 => g (x0, x1)
def Un3 {α0 α1 α2 γ : Type} (f : α0 -> α1 -> α2 -> γ) : α0 × α1 × α2 -> γ := fun z => f z.1 z.2.1 z.2.2
def Cn3 {α0 α1 α2 γ : Type} (g : α0 × α1 × α2 -> γ) : α0 -> α1 -> α2 -> γ := fun x0 x1 x2 => g (x0, x1, x2)
def Un4 {α0 α1 α2 α3 γ : Type} (f : α0 -> α1 -> α2 -> α3 -> γ) : α0 × α1 × α2 × α3 -> γ := fun z => f z.1 z.2.1 z.2.2.1 z.2.2.2
def Cn4 {α0 α1 α2 α3 γ : Type} (g : α0 × α1 × α2 × α3 -> γ) : α0 -> α1 -> α2 -> α3 -> γ := fun x0 x1 x2 x3 => g (x0, x1, x2, x3)
def Un11 {α0 α1 α2 α3 α4 α5 α6 α7 α8 α9 α10 γ : Type} (f : α0 -> α1 -> α2 -> α3 -> α4 -> α5 -> α6 -> α7 -> α8 -> α9 -> α10 -> γ) : α0 × α1 × α2 × α3 × α4 × α5 × α6 × α7 × α8 × α9 × α10 -> γ := fun z => f z.1 z.2.1 z.2.2.1 z.2.2.2.1 z.2.2.2.2.1 z.2.2.2.2.2.1 z.2.2.2.2.2.2.1 z.2.2.2.2.2.2.2.1 z.2.2.2.2.2.2.2.2.1 z.2.2.2.2.2.2.2.2.2.1 z.2.2.2.2.2.2.2.2.2.2
def Un12 {α0 α1 α2 α3 α4 α5 α6 α7 α8 α9 α10 α11 γ : Type} (f : α0 -> α1 -> α2 -> α3 -> α4 -> α5 -> α6 -> α7 -> α8 -> α9 -> α10 -> α11 -> γ) : α0 × α1 × α2 × α3 × α4 × α5 × α6 × α7 × α8 × α9 × α10 × α11 -> γ := fun z => f z.1 z.2.1 z.2.2.1 z.2.2.2.1 z.2.2.2.2.1 z.2.2.2.2.2.1 z.2.2.2.2.2.2.1 z.2.2.2.2.2.2.2.1 z.2.2.2.2.2.2.2.2.1 z.2.2.2.2.2.2.2.2.2.1 z.2.2.2.2.2.2.2.2.2.2.1 z.2.2.2.2.2.2.2.2.2.2.2
def Cn12 {α0 α1 α2 α3 α4 α5 α6 α7 α8 α9 α10 α11 γ : Type} (g : α0 × α1 × α2 × α3 × α4 × α5 × α6 × α7 × α8 × α9 × α10 × α11 -> γ) : α0 -> α1 -> α2 -> α3 -> α4 -> α5 -> α6 -> α7 -> α8 -> α9 -> α10 -> α11 -> γ := fun x0 x1 x2 x3 x4 x5 x6 x7 x8 x9 x10 x11 => g (x0, x1, x2, x3, x4, x5, x6, x7, x8, x9, x10, x11)
def Un14 {α0 α1 α2 α3 α4 α5 α6 α7 α8 α9 α10 α11 α12 α13 γ : Type} (f : α0 -> α1 -> α2 -> α3 -> α4 -> α5 -> α6 -> α7 -> α8 -> α9 -> α10 -> α11 -> α12 -> α13 -> γ) : α0 × α1 × α2 × α3 × α4 × α5 × α6 × α7 × α8 × α9 × α10 × α11 × α12 × α13 -> γ := fun z => f z.1 z.2.1 z.2.2.1 z.2.2.2.1 z.2.2.2.2.1 z.2.2.2.2.2.1 z.2.2.2.2.2.2.1 z.2.2.2.2.2.2.2.1 z.2.2.2.2.2.2.2.2.1 z.2.2.2.2.2.2.2.2.2.1 z.2.2.2.2.2.2.2.2.2.2.1 z.2.2.2.2.2.2.2.2.2.2.2.1 z.2.2.2.2.2.2.2.2.2.2.2.2.1 z.2.2.2.2.2.2.2.2.2.2.2.2.2
def Un15 {α0 α1 α2 α3 α4 α5 α6 α7 α8 α9 α10 α11 α12 α13 α14 γ : Type} (f : α0 -> α1 -> α2 -> α3 -> α4 -> α5 -> α6 -> α7 -> α8 -> α9 -> α10 -> α11 -> α12 -> α13 -> α14 -> γ) : α0 × α1 × α2 × α3 × α4 × α5 × α6 × α7 × α8 × α9 × α10 × α11 × α12 × α13 × α14 -> γ := fun z => f z.1 z.2.1 z.2.2.1 z.2.2.2.1 z.2.2.2.2.1 z.2.2.2.2.2.1 z.2.2.2.2.2.2.1 z.2.2.2.2.2.2.2.1 z.2.2.2.2.2.2.2.2.1 z.2.2.2.2.2.2.2.2.2.1 z.2.2.2.2.2.2.2.2.2.2.1 z.2.2.2.2.2.2.2.2.2.2.2.1 z.2.2.2.2.2.2.2.2.2.2.2.2.1 z.2.2.2.2.2.2.2.2.2.2.2.2.2.1 z.2.2.2.2.2.2.2.2.2.2.2.2.2.2
def Cn15 {α0 α1 α2 α3 α4 α5 α6 α7 α8 α9 α10 α11 α12 α13 α14 γ : Type} (g : α0 × α1 × α2 × α3 × α4 × α5 × α6 × α7 × α8 × α9 × α10 × α11 × α12 × α13 × α14 -> γ) : α0 -> α1 -> α2 -> α3 -> α4 -> α5 -> α6 -> α7 -> α8 -> α9 -> α10 -> α11 -> α12 -> α13 -> α14 -> γ := fun x0 x1 x2 x3 x4 x5 x6 x7 x8 x9 x10 x11 x12 x13 x14 => g (x0, x1, x2, x3, x4, x5, x6, x7, x8, x9, x10, x11, x12, x13, x14)
def Un19 {α0 α1 α2 α3 α4 α5 α6 α7 α8 α9 α10 α11 α12 α13 α14 α15 α16 α17 α18 γ : Type} (f : α0 -> α1 -> α2 -> α3 -> α4 -> α5 -> α6 -> α7 -> α8 -> α9 -> α10 -> α11 -> α12 -> α13 -> α14 -> α15 -> α16 -> α17 -> α18 -> γ) : α0 × α1 × α2 × α3 × α4 × α5 × α6 × α7 × α8 × α9 × α10 × α11 × α12 × α13 × α14 × α15 × α16 × α17 × α18 -> γ := fun z => f z.1 z.2.1 z.2.2.1 z.2.2.2.1 z.2.2.2.2.1 z.2.2.2.2.2.1 z.2.2.2.2.2.2.1 z.2.2.2.2.2.2.2.1 z.2.2.2.2.2.2.2.2.1 z.2.2.2.2.2.2.2.2.2.1 z.2.2.2.2.2.2.2.2.2.2.1 z.2.2.2.2.2.2.2.2.2.2.2.1 z.2.2.2.2.2.2.2.2.2.2.2.2.1 z.2.2.2.2.2.2.2.2.2.2.2.2.2.1 z.2.2.2.2.2.2.2.2.2.2.2.2.2.2.1 z.2.2.2.2.2.2.2.2.2.2.2.2.2.2.2.1 z.2.2.2.2.2.2.2.2.2.2.2.2.2.2.2.2.1 z.2.2.2.2.2.2.2.2.2.2.2.2.2.2.2.2.2.1 z.2.2.2.2.2.2.2.2.2.2.2.2.2.2.2.2.2.2
def Cn19 {α0 α1 α2 α3 α4 α5 α6 α7 α8 α9 α10 α11 α12 α13 α14 α15 α16 α17 α18 γ : Type} (g : α0 × α1 × α2 × α3 × α4 × α5 × α6 × α7 × α8 × α9 × α10 × α11 × α12 × α13 × α14 × α15 × α16 × α17 × α18 -> γ) : α0 -> α1 -> α2 -> α3 -> α4 -> α5 -> α6 -> α7 -> α8 -> α9 -> α10 -> α11 -> α12 -> α13 -> α14 -> α15 -> α16 -> α17 -> α18 -> γ := fun x0 x1 x2 x3 x4 x5 x6 x7 x8 x9 x10 x11 x12 x13 x14 x15 x16 x17 x18 => g (x0, x1, x2, x3, x4, x5, x6, x7, x8, x9, x10, x11, x12, x13, x14, x15, x16, x17, x18)
end Go.Ev
namespace Go.Ev
open Go
set_option linter.unusedVariables false
def l27_sample (k : Nat)  : Option yT10 :=
 some (((([] : List (List UInt8)), ([((97 : Int), (0 : Int), (0 : Int), ()), ((98 : Int), (0 : Int), (0 : Int), ())] : List yT61), ()), ([(([112] : List UInt8), (-1 : Int), ([] : List yT26), ()), (([113] : List UInt8), (0 : Int), ([] : List yT26), ())] : List yT24), ()))
def zb3 (s2 : List UInt8) (go1 : (List UInt8) -> Option (List UInt8)) (t1 : Bool) : Option (List UInt8) :=
 if t1 then
  (
   Option.bind (sub? s2 (0 : Int) (wi64 ((List.length s2 : Int) - (1 : Int)))) fun s3 =>
   go1 s3
  )
 else
  some (s2)
def strings_trimRightByte_b1 (c1 : Int) (go1 : (List UInt8) -> Option (List UInt8)) (s2 : List UInt8) : Option (List UInt8) :=
 if decide ((0 : Int) < (List.length s2 : Int)) then
  (
   Option.bind (byteAt s2 (wi64 ((List.length s2 : Int) - (1 : Int)))) fun b1 =>
   zb3 s2 go1 (b1 == c1)
  )
 else
  zb3 s2 go1 false
def zb4 (c1 : Int) : Nat -> (List UInt8) -> Option (List UInt8)
 | 0, _ => none
 | n + 1, s2 => strings_trimRightByte_b1 c1 (zb4 c1 n) s2
def strings_trimRightByte (k : Nat) (s1 : List UInt8) (c1 : Int) : Option (List UInt8) :=
 zb4 c1 k s1
def zb5 (s2 : List UInt8) (go1 : (List UInt8) -> Option (List UInt8)) (t1 : Bool) : Option (List UInt8) :=
 if t1 then
  (
   Option.bind (sub? s2 (1 : Int) (s2.length : Int)) fun s3 =>
   go1 s3
  )
 else
  some (s2)
def strings_trimLeftByte_b1 (c1 : Int) (go1 : (List UInt8) -> Option (List UInt8)) (s2 : List UInt8) : Option (List UInt8) :=
 if decide ((0 : Int) < (List.length s2 : Int)) then
  (
   Option.bind (byteAt s2 (0 : Int)) fun b1 =>
   zb5 s2 go1 (b1 == c1)
  )
 else
  zb5 s2 go1 false
def zb6 (c1 : Int) : Nat -> (List UInt8) -> Option (List UInt8)
 | 0, _ => none
 | n + 1, s2 => strings_trimLeftByte_b1 c1 (zb6 c1 n) s2
def strings_trimLeftByte (k : Nat) (s1 : List UInt8) (c1 : Int) : Option (List UInt8) :=
 zb6 c1 k s1
def strings_makeASCIISet_b1 (chars1 : List UInt8) (go1 : Int -> (List (Bool)) -> Option (List (Bool) × Bool)) (i1 : Int) (blk1 : List (Bool)) : Option (List (Bool) × Bool) :=
 if decide (i1 < (List.length chars1 : Int)) then
  (
   Option.bind (byteAt chars1 i1) fun b1 =>
   if decide ((128 : Int) <= b1) then
    some (blk1, false)
   else
    (
     Option.bind (chk (0 <= b1 /\ b1 < (256 : Int))) fun _ =>
     Option.bind (at? blk1 b1) fun x1 =>
     go1 (wi64 (i1 + (1 : Int))) (List.set blk1 (b1).toNat true)
    )
  )
 else
  some (blk1, true)
def zb7 (chars1 : List UInt8) : Nat -> Int -> (List (Bool)) -> Option (List (Bool) × Bool)
 | 0, _, _ => none
 | n + 1, i1, blk1 => strings_makeASCIISet_b1 chars1 (zb7 chars1 n) i1 blk1
def zb8 (k : Nat) (chars1 : List UInt8) : Option (List (Bool) × Bool) :=
 zb7 chars1 k (0 : Int) (List.replicate 256 false)
def zb9 (k : Nat) (as1 : List (Bool)) (c1 : Int) : Option Bool :=
 Option.bind (at? as1 c1) fun x1 =>
 some (x1)
def zca  (s2 : List UInt8) : Option (List UInt8) :=
 some (s2)
def zcb (k : Nat) (as1 : List (Bool)) (go1 : (List UInt8) -> Option (List UInt8)) (s3 : List UInt8) : Option (List UInt8) :=
 if decide ((0 : Int) < (List.length s3 : Int)) then
  (
   Option.bind (byteAt s3 (wi64 ((List.length s3 : Int) - (1 : Int)))) fun b1 =>
   Option.bind (zb9 k as1 b1) fun v1 =>
   if !v1 then
    zca s3
   else
    (
     Option.bind (sub? s3 (0 : Int) (wi64 ((List.length s3 : Int) - (1 : Int)))) fun s4 =>
     go1 s4
    )
  )
 else
  zca s3
def zcc (k : Nat) (as1 : List (Bool)) : Nat -> (List UInt8) -> Option (List UInt8)
 | 0, _ => none
 | n + 1, s3 => zcb k as1 (zcc k as1 n) s3
def zcd (k : Nat) (s1 : List UInt8) (as1 : List (Bool)) : Option (List UInt8) :=
 zcc k as1 k s1
def zce  (s2 : List UInt8) : Option (List UInt8) :=
 some (s2)
def zcf (k : Nat) (as1 : List (Bool)) (go1 : (List UInt8) -> Option (List UInt8)) (s3 : List UInt8) : Option (List UInt8) :=
 if decide ((0 : Int) < (List.length s3 : Int)) then
  (
   Option.bind (byteAt s3 (0 : Int)) fun b1 =>
   Option.bind (zb9 k as1 b1) fun v1 =>
   if !v1 then
    zce s3
   else
    (
     Option.bind (sub? s3 (1 : Int) (s3.length : Int)) fun s4 =>
     go1 s4
    )
  )
 else
  zce s3
def zcg (k : Nat) (as1 : List (Bool)) : Nat -> (List UInt8) -> Option (List UInt8)
 | 0, _ => none
 | n + 1, s3 => zcf k as1 (zcg k as1 n) s3
def zch (k : Nat) (s1 : List UInt8) (as1 : List (Bool)) : Option (List UInt8) :=
 zcg k as1 k s1
def zci (k : Nat) (s1 : List UInt8) (cutset1 : List UInt8) : Option (List UInt8) :=
 none
def strings_trimLeftUnicode (k : Nat) (s1 : List UInt8) (cutset1 : List UInt8) : Option (List UInt8) :=
 none
def zcj (k : Nat) (cutset1 : List UInt8) (s1 : List UInt8) (t2 : Bool) : Option (List UInt8) :=
 if t2 then
  (
   Option.bind (byteAt cutset1 (0 : Int)) fun b1 =>
   Option.bind (strings_trimRightByte k s1 b1) fun v1 =>
   Option.bind (byteAt cutset1 (0 : Int)) fun b2 =>
   Option.bind (strings_trimLeftByte k v1 b2) fun v2 =>
   some (v2)
  )
 else
  (
   Option.bind (zb8 k cutset1) fun v3 =>
   if v3.2 then
    (
     Option.bind (zcd k s1 v3.1) fun v4 =>
     Option.bind (zch k v4 v3.1) fun v5 =>
     some (v5)
    )
   else
    (
     Option.bind (zci k s1 cutset1) fun v6 =>
     Option.bind (strings_trimLeftUnicode k v6 cutset1) fun v7 =>
     some (v7)
    )
  )
def strings_Trim_j1 (k : Nat) (s1 : List UInt8) (cutset1 : List UInt8) (t1 : Bool) : Option (List UInt8) :=
 if t1 then
  some (s1)
 else
  (
   if (List.length cutset1 : Int) == (1 : Int) then
    (
     Option.bind (byteAt cutset1 (0 : Int)) fun b3 =>
     zcj k cutset1 s1 (decide (b3 < (128 : Int)))
    )
   else
    zcj k cutset1 s1 false
  )
def zck (k : Nat) (s1 : List UInt8) (cutset1 : List UInt8) : Option (List UInt8) :=
 strings_Trim_j1 k s1 cutset1 ((s1 == ([] : List UInt8)) || (cutset1 == ([] : List UInt8)))
def zcl  (t2 : Bool) : Option Bool :=
 some (t2)
def feature_named_j1 (k : Nat) (s1 : List UInt8) (t1 : Bool) : Option Bool :=
 if t1 then
  (
   Option.bind (zck k s1 ([97, 98, 99, 100, 101, 102, 103, 104, 105, 106, 107, 108, 109, 110, 111, 112, 113, 114, 115, 116, 117, 118, 119, 120, 121, 122] : List UInt8)) fun v1 =>
   zcl (v1 == ([] : List UInt8))
  )
 else
  zcl false
def zcm (k : Nat) (s1 : List UInt8) : Option Bool :=
 feature_named_j1 k s1 ((!(s1 == ([] : List UInt8))) && (decide ((List.length s1 : Int) <= (32 : Int))))
def zcn  (t2 : Bool) : Option Bool :=
 if t2 then
  some (false)
 else
  some (true)
def zco (r1 : Int) (t1 : Bool) : Option Bool :=
 if t1 then
  some (true)
 else
  (
   if decide (r1 < (161 : Int)) then
    zcn (decide (r1 < (161 : Int)))
   else
    (
     if decide ((1114111 : Int) < r1) then
      zcn (decide ((1114111 : Int) < r1))
     else
      (
       if r1 == (65533 : Int) then
        zcn (r1 == (65533 : Int))
       else
        (
         Option.bind (chk (0 <= (11 : Int))) fun _ =>
         zcn ((Int.fdiv r1 (2 ^ min ((11 : Int)).toNat 32)) == (27 : Int))
        )
      )
    )
  )
def zcp (r1 : Int) (t4 : Bool) : Option Bool :=
 zco r1 t4
def zcq (r1 : Int) (t3 : Bool) : Option Bool :=
 if t3 then
  zco r1 t3
 else
  zcp r1 (decide ((65 : Int) <= r1) && (decide (r1 <= (90 : Int))))
def zcr (k : Nat) (r1 : Int) : Option Bool :=
 zcq r1 (decide ((97 : Int) <= r1) && (decide (r1 <= (122 : Int))))
def feature_within_j1  (t1 : Bool) : Option Bool :=
 some (t1)
def zcs (k : Nat) (a1 : yT42) (plus1 : Int) (minus1 : Int) : Option Bool :=
 Option.bind (chk (0 <= (List.length a1.1 : Int))) fun _ =>
 feature_within_j1 (((Int.fdiv (wu32 (BitVec.toNat (BitVec.ofInt 32 plus1 ||| BitVec.ofInt 32 minus1))) (2 ^ min ((List.length a1.1 : Int)).toNat 32)) == (0 : Int)) && ((wu32 (BitVec.toNat (BitVec.ofInt 32 plus1 &&& BitVec.ofInt 32 minus1))) == (0 : Int)))
def feature_Check_j3 (go1 : Int -> yT62 -> Option Int) (t3 : Int) (m1 : List yT68) (x1 : List UInt8) (t4 : Bool) : Option Int :=
 if t4 then
  some ((7 : Int))
 else
  go1 (wi64 (t3 + (1 : Int))) (mset (eqEl .str) m1 x1 true)
def zct (go2 : Int -> yT69 -> Option Int) (t5 : Int) (m2 : List (Int × Bool)) (x2 : yT64) (t7 : Bool) : Option Int :=
 if t7 then
  some ((7 : Int))
 else
  go2 (wi64 (t5 + (1 : Int))) (mset (eqEl (.int .i32)) m2 x2.1 true)
def feature_Check_j4 (k : Nat) (go2 : Int -> yT69 -> Option Int) (t5 : Int) (m2 : List (Int × Bool)) (x2 : yT64) (a1 : yT42) (t6 : Bool) : Option Int :=
 if t6 then
  zct go2 t5 m2 x2 true
 else
  (
   Option.bind (zcs k (a1.1, a1.2.1, ()) x2.2.1 x2.2.2.1) fun v3 =>
   zct go2 t5 m2 x2 (!v3)
  )
def feature_Check_b2 (k : Nat) (a1 : yT42) (go2 : Int -> yT69 -> Option Int) (t5 : Int) (m2 : List (Int × Bool)) : Option Int :=
 if decide (t5 < (List.length a1.2.1 : Int)) then
  (
   Option.bind (at? a1.2.1 t5) fun x2 =>
   Option.bind (zcr k x2.1) fun v2 =>
   feature_Check_j4 k go2 t5 m2 x2 a1 ((!v2) || ((mget (eqEl (.int .i32)) m2 x2.1).getD false))
  )
 else
  some ((0 : Int))
def zcu (k : Nat) (a1 : yT42) : Nat -> Int -> yT69 -> Option Int
 | 0, _, _ => none
 | n + 1, t5, m2 => feature_Check_b2 k a1 (zcu k a1 n) t5 m2
def feature_Check_b1 (k : Nat) (a1 : yT42) (go1 : Int -> yT62 -> Option Int) (t3 : Int) (m1 : List yT68) : Option Int :=
 if decide (t3 < (List.length a1.1 : Int)) then
  (
   Option.bind (at? a1.1 t3) fun x1 =>
   Option.bind (zcm k x1) fun v1 =>
   feature_Check_j3 go1 t3 m1 x1 ((!v1) || ((mget (eqEl .str) m1 x1).getD false))
  )
 else
  zcu k a1 k (0 : Int) ([] : List (Int × Bool))
def zcv (k : Nat) (a1 : yT42) : Nat -> Int -> yT62 -> Option Int
 | 0, _, _ => none
 | n + 1, t3, m1 => feature_Check_b1 k a1 (zcv k a1 n) t3 m1
def feature_Check_j2 (k : Nat) (a1 : yT42) (t2 : Bool) : Option Int :=
 if t2 then
  some ((7 : Int))
 else
  zcv k a1 k (0 : Int) ([] : List yT68)
def feature_Check_j1 (k : Nat) (a1 : yT42) (t1 : Bool) : Option Int :=
 feature_Check_j2 k a1 (t1 || (decide ((128 : Int) < (List.length a1.2.1 : Int))))
def zcw (k : Nat) (a1 : yT42) : Option Int :=
 feature_Check_j1 k a1 (decide ((24 : Int) < (List.length a1.1 : Int)) || (decide ((List.length a1.2.1 : Int) < (1 : Int))))
def family_named_c1_j3  (t3 : Bool) : Option Bool :=
 some (t3)
def zcx (r1 : Int) (t2 : Bool) : Option Bool :=
 family_named_c1_j3 (t2 && (r1 != (45 : Int)))
def family_named_c1_j4 (r1 : Int) (t4 : Bool) : Option Bool :=
 zcx r1 t4
def family_named_c1_j1 (r1 : Int) (t1 : Bool) : Option Bool :=
 if t1 then
  family_named_c1_j4 r1 (decide (r1 < (48 : Int)) || (decide ((57 : Int) < r1)))
 else
  zcx r1 false
def family_named_c1 (k : Nat) (r1 : Int) : Option Bool :=
 family_named_c1_j1 r1 (decide (r1 < (97 : Int)) || (decide ((122 : Int) < r1)))
def zcy (k : Nat) (s1 : List UInt8) (truth1 : Bool) (go1 : Nat -> Option Int) (pos1 : Nat) : Option Int :=
 if decide (pos1 < List.length s1) then
  (
   Option.bind (family_named_c1 k (runeAt s1 pos1)) fun v1 =>
   if v1 == truth1 then
    some ((pos1 : Int))
   else
    go1 (pos1 + widthAt s1 pos1)
  )
 else
  some ((-1 : Int))
def zcz (k : Nat) (s1 : List UInt8) (truth1 : Bool) : Nat -> Nat -> Option Int
 | 0, _ => none
 | n + 1, pos1 => zcy k s1 truth1 (zcz k s1 truth1 n) pos1
def zc0 (k : Nat) (s1 : List UInt8) (f1 : (Unit)) (truth1 : Bool) : Option Int :=
 zcz k s1 truth1 k 0
def zc1 (k : Nat) (s1 : List UInt8) (f1 : (Unit)) : Option Int :=
 Option.bind (zc0 k s1 f1 true) fun v1 =>
 some (v1)
def zc2 (k : Nat) (s1 : List UInt8) (f1 : (Unit)) : Option Bool :=
 Option.bind (zc1 k s1 f1) fun v1 =>
 some (decide ((0 : Int) <= v1))
def family_named_j2  (t2 : Bool) : Option Bool :=
 some (t2)
def family_named_j1 (k : Nat) (s1 : List UInt8) (t1 : Bool) : Option Bool :=
 if t1 then
  (
   Option.bind (zc2 k s1 (())) fun v1 =>
   family_named_j2 (!v1)
  )
 else
  family_named_j2 false
def family_named (k : Nat) (s1 : List UInt8) : Option Bool :=
 family_named_j1 k s1 ((!(s1 == ([] : List UInt8))) && (decide ((List.length s1 : Int) <= (32 : Int))))
def zc3 (go1 : Int -> yT60 -> Option Bool) (t4 : Int) (m1 : List (List UInt8 × (Unit))) (x1 : yT25) (t6 : Bool) : Option Bool :=
 if t6 then
  some (false)
 else
  go1 (wi64 (t4 + (1 : Int))) (mset (eqEl .str) m1 x1.1 (()))
def zc4 (go1 : Int -> yT60 -> Option Bool) (t4 : Int) (m1 : List (List UInt8 × (Unit))) (x1 : yT25) (t7 : Bool) : Option Bool :=
 zc3 go1 t4 m1 x1 t7
def family_shaped_j7 (go1 : Int -> yT60 -> Option Bool) (t4 : Int) (m1 : List (List UInt8 × (Unit))) (x1 : yT25) (t8 : Bool) : Option Bool :=
 zc4 go1 t4 m1 x1 t8
def zc5 (go1 : Int -> yT60 -> Option Bool) (t4 : Int) (m1 : List (List UInt8 × (Unit))) (x1 : yT25) (t5 : Bool) : Option Bool :=
 if t5 then
  zc3 go1 t4 m1 x1 true
 else
  (
   if decide ((0 : Int) < t4) then
    family_shaped_j7 go1 t4 m1 x1 (decide (x1.2.1 < (0 : Int)) || (decide (t4 <= x1.2.1)))
   else
    zc4 go1 t4 m1 x1 false
  )
def family_shaped_b1 (k : Nat) (l1 : List yT24) (go1 : Int -> yT60 -> Option Bool) (t4 : Int) (m1 : List (List UInt8 × (Unit))) : Option Bool :=
 if decide (t4 < (List.length l1 : Int)) then
  (
   Option.bind (at? l1 t4) fun x1 =>
   if (mget (eqEl .str) m1 x1.1).isSome then
    zc5 go1 t4 m1 x1 true
   else
    (
     Option.bind (family_named k x1.1) fun v1 =>
     zc5 go1 t4 m1 x1 (!v1)
    )
  )
 else
  some (true)
def zc6 (k : Nat) (l1 : List yT24) : Nat -> Int -> yT60 -> Option Bool
 | 0, _, _ => none
 | n + 1, t4, m1 => family_shaped_b1 k l1 (zc6 k l1 n) t4 m1
def zc7 (k : Nat) (l1 : List yT24) (t3 : Bool) : Option Bool :=
 if t3 then
  some (false)
 else
  zc6 k l1 k (0 : Int) ([] : List (List UInt8 × (Unit)))
def zc8 (k : Nat) (l1 : List yT24) (t2 : Bool) : Option Bool :=
 if t2 then
  zc7 k l1 true
 else
  (
   Option.bind (at? l1 (0 : Int)) fun x2 =>
   zc7 k l1 (decide ((0 : Int) < (List.length x2.2.2.1 : Int)))
  )
def zc9 (k : Nat) (l1 : List yT24) (t1 : Bool) : Option Bool :=
 if t1 then
  zc8 k l1 true
 else
  (
   Option.bind (at? l1 (0 : Int)) fun x3 =>
   zc8 k l1 (x3.2.1 != (-1 : Int))
  )
def zda (k : Nat) (l1 : List yT24) : Option Bool :=
 zc9 k l1 (((List.length l1 : Int) == (0 : Int)) || (decide ((32 : Int) < (List.length l1 : Int))))
def rule_named_j1  (t1 : Bool) : Option Bool :=
 some (t1)
def rule_named (k : Nat) (s1 : List UInt8) : Option Bool :=
 if decide ((List.length s1 : Int) <= (32 : Int)) then
  (
   Option.bind (zck k s1 ([97, 98, 99, 100, 101, 102, 103, 104, 105, 106, 107, 108, 109, 110, 111, 112, 113, 114, 115, 116, 117, 118, 119, 120, 121, 122, 48, 49, 50, 51, 52, 53, 54, 55, 56, 57, 45] : List UInt8)) fun v1 =>
   rule_named_j1 (v1 == ([] : List UInt8))
  )
 else
  rule_named_j1 false
def feature_Of_c1 (k : Nat) (l1 : yT64) (t1 : Int) : Option Bool :=
 some (l1.1 == t1)
def zdb (k : Nat) (s1 : List yT61) (f1 : (Int × Unit)) (go1 : Int -> Option Int) (t1 : Int) : Option Int :=
 if decide (t1 < (List.length s1 : Int)) then
  (
   Option.bind (at? s1 t1) fun x1 =>
   Option.bind (feature_Of_c1 k x1 f1.1) fun v1 =>
   if v1 then
    some (t1)
   else
    go1 (wi64 (t1 + (1 : Int)))
  )
 else
  some ((-1 : Int))
def zdc (k : Nat) (s1 : List yT61) (f1 : (Int × Unit)) : Nat -> Int -> Option Int
 | 0, _ => none
 | n + 1, t1 => zdb k s1 f1 (zdc k s1 f1 n) t1
def zdd (k : Nat) (s1 : List yT61) (f1 : (Int × Unit)) : Option Int :=
 zdc k s1 f1 k (0 : Int)
def feature_Of (k : Nat) (a1 : yT42) (r1 : Int) : Option (yT64 × Int) :=
 Option.bind (zcw k (a1.1, a1.2.1, ())) fun v1 =>
 if v1 != (0 : Int) then
  some (((0 : Int), (0 : Int), (0 : Int), ()), v1)
 else
  (
   Option.bind (zdd k a1.2.1 (r1, ())) fun v2 =>
   if decide (v2 < (0 : Int)) then
    some (((0 : Int), (0 : Int), (0 : Int), ()), (5 : Int))
   else
    (
     Option.bind (at? a1.2.1 v2) fun x1 =>
     some ((x1.1, x1.2.1, x1.2.2.1, ()), (0 : Int))
    )
  )
def rule_letter (k : Nat) (a1 : yT42) (r1 : Int) : Option Bool :=
 Option.bind (feature_Of k (a1.1, a1.2.1, ()) r1) fun v1 =>
 some (v1.2 == (0 : Int))
def zde (k : Nat) (s1 : List UInt8) (l1 : List (Int)) : Option (Option (Option (Nat × Int)) × Int × List (Int)) :=
 Option.bind (bld_copyCheck k l1) fun v1 =>
 Option.bind (chk (List.length l1 + List.length (bytesEl s1) <= lim)) fun _ =>
 some ((none : Option (Option (Nat × Int))), (List.length s1 : Int), l1 ++ (bytesEl s1))
def zdf (go1 : Int -> (List (Int)) -> Option yT71) (t1 : Int) (t3 : List (Int)) : Option yT71 :=
 go1 (wi64 (t1 + (1 : Int))) t3
def feature_Text_b1 (k : Nat) (a1 : yT42) (plus1 : Int) (minus1 : Int) (go1 : Int -> (List (Int)) -> Option yT71) (t1 : Int) (t2 : List (Int)) : Option yT71 :=
 if decide (t1 < (List.length a1.1 : Int)) then
  (
   Option.bind (at? a1.1 t1) fun x1 =>
   Option.bind (chk (0 <= t1)) fun _ =>
   if (wu32 (BitVec.toNat (BitVec.ofInt 32 (Int.fdiv plus1 (2 ^ min (t1).toNat 32)) &&& BitVec.ofInt 32 (1 : Int)))) == (1 : Int) then
    (
     Option.bind (chk (List.length ([43] : List UInt8) + List.length x1 <= lim)) fun _ =>
     Option.bind (zde k (([43] : List UInt8) ++ x1) t2) fun v3 =>
     zdf go1 t1 v3.2.2
    )
   else
    (
     Option.bind (chk (0 <= t1)) fun _ =>
     if (wu32 (BitVec.toNat (BitVec.ofInt 32 (Int.fdiv minus1 (2 ^ min (t1).toNat 32)) &&& BitVec.ofInt 32 (1 : Int)))) == (1 : Int) then
      (
       Option.bind (chk (List.length ([45] : List UInt8) + List.length x1 <= lim)) fun _ =>
       Option.bind (zde k (([45] : List UInt8) ++ x1) t2) fun v4 =>
       zdf go1 t1 v4.2.2
      )
     else
      zdf go1 t1 t2
    )
  )
 else
  (
   Option.bind (bld_String k t2) fun v5 =>
   some (v5, (0 : Int))
  )
def zdg (k : Nat) (a1 : yT42) (plus1 : Int) (minus1 : Int) : Nat -> Int -> (List (Int)) -> Option yT71
 | 0, _, _ => none
 | n + 1, t1, t2 => feature_Text_b1 k a1 plus1 minus1 (zdg k a1 plus1 minus1 n) t1 t2
def feature_Text (k : Nat) (a1 : yT42) (plus1 : Int) (minus1 : Int) : Option yT71 :=
 Option.bind (zcw k (a1.1, a1.2.1, ())) fun v1 =>
 if v1 != (0 : Int) then
  some (([] : List UInt8), v1)
 else
  (
   Option.bind (zcs k (a1.1, a1.2.1, ()) plus1 minus1) fun v2 =>
   if !v2 then
    some (([] : List UInt8), (20 : Int))
   else
    zdg k a1 plus1 minus1 k (0 : Int) ([] : List (Int))
  )
def rule_class (k : Nat) (a1 : yT42) (plus1 : Int) (minus1 : Int) : Option Bool :=
 Option.bind (feature_Text k (a1.1, a1.2.1, ()) plus1 minus1) fun v1 =>
 some (v1.2 == (0 : Int))
def rule_either_j1  (t1 : Bool) : Option Bool :=
 some (t1)
def rule_either (k : Nat) (a1 : yT42) (r1 : Int) (plus1 : Int) (minus1 : Int) : Option Bool :=
 if r1 != (0 : Int) then
  (
   Option.bind (rule_letter k (a1.1, a1.2.1, ()) r1) fun v1 =>
   rule_either_j1 (v1 && ((wu32 (BitVec.toNat (BitVec.ofInt 32 plus1 ||| BitVec.ofInt 32 minus1))) == (0 : Int)))
  )
 else
  (
   Option.bind (rule_class k (a1.1, a1.2.1, ()) plus1 minus1) fun v2 =>
   some (v2)
  )
def zdh (k : Nat) (a1 : yT42) (s1 : yT59) (t2 : Bool) : Option Bool :=
 if t2 then
  some (false)
 else
  (
   Option.bind (rule_either k (a1.1, a1.2.1, ()) s1.1 s1.2.2.1 s1.2.2.2.1) fun v1 =>
   some (v1)
  )
def rule_swap_j3 (k : Nat) (a1 : yT42) (s1 : yT59) (t3 : Bool) : Option Bool :=
 zdh k a1 s1 t3
def rule_swap_j4 (k : Nat) (a1 : yT42) (s1 : yT59) (t4 : Bool) : Option Bool :=
 rule_swap_j3 k a1 s1 t4
def rule_swap_j1 (k : Nat) (a1 : yT42) (s1 : yT59) (slots1 : Int) (t1 : Bool) : Option Bool :=
 if t1 then
  zdh k a1 s1 true
 else
  (
   if s1.1 == (0 : Int) then
    rule_swap_j4 k a1 s1 (decide (s1.2.1 < (0 : Int)) || (decide (slots1 <= s1.2.1)))
   else
    rule_swap_j3 k a1 s1 false
  )
def rule_swap (k : Nat) (a1 : yT42) (s1 : yT59) (slots1 : Int) : Option Bool :=
 rule_swap_j1 k a1 s1 slots1 ((s1.1 != (0 : Int)) && (s1.2.1 != (0 : Int)))
def zdi (s1 : List (Bool)) (v1 : Bool) (go1 : Int -> Option Int) (t1 : Int) : Option Int :=
 if decide (t1 < (List.length s1 : Int)) then
  (
   Option.bind (at? s1 t1) fun x1 =>
   if v1 == x1 then
    some (t1)
   else
    go1 (wi64 (t1 + (1 : Int)))
  )
 else
  some ((-1 : Int))
def zdj (s1 : List (Bool)) (v1 : Bool) : Nat -> Int -> Option Int
 | 0, _ => none
 | n + 1, t1 => zdi s1 v1 (zdj s1 v1 n) t1
def zdk (k : Nat) (s1 : List (Bool)) (v1 : Bool) : Option Int :=
 zdj s1 v1 k (0 : Int)
def zdl (k : Nat) (s1 : List (Bool)) (v1 : Bool) : Option Bool :=
 Option.bind (zdk k s1 v1) fun v2 =>
 some (decide ((0 : Int) <= v2))
def zdm (t7 : List (Bool)) (x2 : Int) (go2 : Int -> (List (Bool)) -> Option Bool) (t6 : Int) (t9 : Bool) : Option Bool :=
 if t9 then
  some (false)
 else
  (
   Option.bind (at? t7 x2) fun x3 =>
   go2 (wi64 (t6 + (1 : Int))) (List.set t7 (x2).toNat true)
  )
def pattern_tree_j5 (t7 : List (Bool)) (x2 : Int) (go2 : Int -> (List (Bool)) -> Option Bool) (t6 : Int) (t8 : Bool) : Option Bool :=
 if t8 then
  zdm t7 x2 go2 t6 true
 else
  (
   Option.bind (at? t7 x2) fun x4 =>
   zdm t7 x2 go2 t6 x4
  )
def pattern_tree_b2 (x1 : yT49) (t2 : Int) (p1 : yT43) (go1 : Int -> (List (Bool)) -> Option Bool) (go2 : Int -> (List (Bool)) -> Option Bool) (t6 : Int) (t7 : List (Bool)) : Option Bool :=
 if decide (t6 < (List.length x1.2.2.2.2.1 : Int)) then
  (
   Option.bind (at? x1.2.2.2.2.1 t6) fun x2 =>
   pattern_tree_j5 t7 x2 go2 t6 (decide (x2 <= t2) || (decide ((List.length p1.1 : Int) <= x2)))
  )
 else
  go1 (wi64 (t2 + (1 : Int))) t7
def zdn (x1 : yT49) (t2 : Int) (p1 : yT43) (go1 : Int -> (List (Bool)) -> Option Bool) : Nat -> Int -> (List (Bool)) -> Option Bool
 | 0, _, _ => none
 | n + 1, t6, t7 => pattern_tree_b2 x1 t2 p1 go1 (zdn x1 t2 p1 go1 n) t6 t7
def zdo (k : Nat) (x1 : yT49) (t2 : Int) (p1 : yT43) (go1 : Int -> (List (Bool)) -> Option Bool) (t3 : List (Bool)) (t5 : Bool) : Option Bool :=
 if t5 then
  some (false)
 else
  zdn x1 t2 p1 go1 k (0 : Int) t3
def pattern_tree_j7 (k : Nat) (x1 : yT49) (t2 : Int) (p1 : yT43) (go1 : Int -> (List (Bool)) -> Option Bool) (t3 : List (Bool)) (t10 : Bool) : Option Bool :=
 zdo k x1 t2 p1 go1 t3 t10
def pattern_tree_j3 (k : Nat) (x1 : yT49) (t2 : Int) (p1 : yT43) (go1 : Int -> (List (Bool)) -> Option Bool) (t3 : List (Bool)) (t4 : Bool) : Option Bool :=
 if t4 then
  zdo k x1 t2 p1 go1 t3 true
 else
  pattern_tree_j7 k x1 t2 p1 go1 t3 (((wu32 (BitVec.toNat (BitVec.ofInt 32 x1.2.2.1 ||| BitVec.ofInt 32 x1.2.2.2.1))) != (0 : Int)) && (x1.1 != (3 : Int)))
def zdp (k : Nat) (x1 : yT49) (t2 : Int) (p1 : yT43) (go1 : Int -> (List (Bool)) -> Option Bool) (t3 : List (Bool)) : Option Bool :=
 pattern_tree_j3 k x1 t2 p1 go1 t3 ((x1.2.1 != (0 : Int)) && (x1.1 != (2 : Int)))
def zdq (k : Nat) (x1 : yT49) (t2 : Int) (p1 : yT43) (go1 : Int -> (List (Bool)) -> Option Bool) (t3 : List (Bool)) (t13 : Bool) : Option Bool :=
 if t13 then
  (
   if (List.length x1.2.2.2.2.1 : Int) != (0 : Int) then
    some (false)
   else
    zdp k x1 t2 p1 go1 t3
  )
 else
  some (false)
def zdr (k : Nat) (x1 : yT49) (t2 : Int) (p1 : yT43) (go1 : Int -> (List (Bool)) -> Option Bool) (t3 : List (Bool)) (t12 : Bool) : Option Bool :=
 if t12 then
  (
   if (List.length x1.2.2.2.2.1 : Int) != (1 : Int) then
    some (false)
   else
    zdp k x1 t2 p1 go1 t3
  )
 else
  (
   if x1.1 == (1 : Int) then
    zdq k x1 t2 p1 go1 t3 (x1.1 == (1 : Int))
   else
    (
     if x1.1 == (2 : Int) then
      zdq k x1 t2 p1 go1 t3 (x1.1 == (2 : Int))
     else
      (
       if x1.1 == (3 : Int) then
        zdq k x1 t2 p1 go1 t3 (x1.1 == (3 : Int))
       else
        (
         if x1.1 == (4 : Int) then
          zdq k x1 t2 p1 go1 t3 (x1.1 == (4 : Int))
         else
          zdq k x1 t2 p1 go1 t3 (x1.1 == (5 : Int))
        )
      )
    )
  )
def zds (k : Nat) (x1 : yT49) (t2 : Int) (p1 : yT43) (go1 : Int -> (List (Bool)) -> Option Bool) (t3 : List (Bool)) (t11 : Bool) : Option Bool :=
 if t11 then
  zdp k x1 t2 p1 go1 t3
 else
  (
   if x1.1 == (8 : Int) then
    zdr k x1 t2 p1 go1 t3 (x1.1 == (8 : Int))
   else
    zdr k x1 t2 p1 go1 t3 (x1.1 == (9 : Int))
  )
def pattern_tree_b1 (k : Nat) (p1 : yT43) (go1 : Int -> (List (Bool)) -> Option Bool) (t2 : Int) (t3 : List (Bool)) : Option Bool :=
 if decide (t2 < (List.length p1.1 : Int)) then
  (
   Option.bind (at? p1.1 t2) fun x1 =>
   if x1.1 == (6 : Int) then
    zds k x1 t2 p1 go1 t3 (x1.1 == (6 : Int))
   else
    zds k x1 t2 p1 go1 t3 (x1.1 == (7 : Int))
  )
 else
  (
   Option.bind (sub? t3 (1 : Int) (t3.length : Int)) fun s1 =>
   Option.bind (zdl k s1 false) fun v1 =>
   some (!v1)
  )
def zdt (k : Nat) (p1 : yT43) : Nat -> Int -> (List (Bool)) -> Option Bool
 | 0, _, _ => none
 | n + 1, t2, t3 => pattern_tree_b1 k p1 (zdt k p1 n) t2 t3
def pattern_tree_j1 (k : Nat) (p1 : yT43) (t1 : Bool) : Option Bool :=
 if t1 then
  some (false)
 else
  (
   Option.bind (chk (0 <= (List.length p1.1 : Int) /\ (List.length p1.1 : Int) <= (List.length p1.1 : Int) /\ (List.length p1.1 : Int) <= (lim : Int))) fun _ =>
   zdt k p1 k (0 : Int) (List.replicate ((List.length p1.1 : Int)).toNat false)
  )
def zdu (k : Nat) (p1 : yT43) : Option Bool :=
 pattern_tree_j1 k p1 (decide ((List.length p1.1 : Int) < (1 : Int)) || (decide ((256 : Int) < (List.length p1.1 : Int))))
def zdv (go1 : Int -> Option Int) (t1 : Int) : Option Int :=
 go1 (wi64 (t1 + (1 : Int)))
def pattern_Check_b1 (k : Nat) (p1 : yT43) (a1 : yT42) (go1 : Int -> Option Int) (t1 : Int) : Option Int :=
 if decide (t1 < (List.length p1.1 : Int)) then
  (
   Option.bind (at? p1.1 t1) fun x1 =>
   if x1.1 == (2 : Int) then
    (
     Option.bind (feature_Of k (a1.1, a1.2.1, ()) x1.2.1) fun v3 =>
     if v3.2 != (0 : Int) then
      some ((40 : Int))
     else
      zdv go1 t1
    )
   else
    (
     if x1.1 == (3 : Int) then
      (
       Option.bind (feature_Text k (a1.1, a1.2.1, ()) x1.2.2.1 x1.2.2.2.1) fun v4 =>
       if v4.2 != (0 : Int) then
        some ((40 : Int))
       else
        zdv go1 t1
      )
     else
      zdv go1 t1
    )
  )
 else
  some ((0 : Int))
def zdw (k : Nat) (p1 : yT43) (a1 : yT42) : Nat -> Int -> Option Int
 | 0, _ => none
 | n + 1, t1 => pattern_Check_b1 k p1 a1 (zdw k p1 a1 n) t1
def zdx (k : Nat) (a1 : yT42) (p1 : yT43) : Option Int :=
 Option.bind (zcw k (a1.1, a1.2.1, ())) fun v1 =>
 if v1 != (0 : Int) then
  some (v1)
 else
  (
   Option.bind (zdu k (p1.1, ())) fun v2 =>
   if !v2 then
    some ((40 : Int))
   else
    zdw k p1 a1 k (0 : Int)
  )
def zdy  (t8 : Bool) : Option Int :=
 if t8 then
  some ((70 : Int))
 else
  some ((0 : Int))
def rule_Check_b2 (k : Nat) (r1 : yT27) (a1 : yT42) (go2 : Int -> Option Int) (t7 : Int) : Option Int :=
 if decide (t7 < (List.length r1.2.2.1 : Int)) then
  (
   Option.bind (at? r1.2.2.1 t7) fun x2 =>
   Option.bind (rule_swap k (a1.1, a1.2.1, ()) (x2.1, x2.2.1, x2.2.2.1, x2.2.2.2.1, ()) (List.length r1.2.1 : Int)) fun v4 =>
   if !v4 then
    some ((70 : Int))
   else
    go2 (wi64 (t7 + (1 : Int)))
  )
 else
  (
   Option.bind (zdx k (a1.1, a1.2.1, ()) (r1.2.2.2.1.1, ())) fun v5 =>
   if v5 != (0 : Int) then
    zdy true
   else
    (
     Option.bind (zdx k (a1.1, a1.2.1, ()) (r1.2.2.2.2.1.1, ())) fun v6 =>
     zdy (v6 != (0 : Int))
    )
  )
def zdz (k : Nat) (r1 : yT27) (a1 : yT42) : Nat -> Int -> Option Int
 | 0, _ => none
 | n + 1, t7 => rule_Check_b2 k r1 a1 (zdz k r1 a1 n) t7
def rule_Check_b1 (k : Nat) (r1 : yT27) (a1 : yT42) (go1 : Int -> Option Int) (t6 : Int) : Option Int :=
 if decide (t6 < (List.length r1.2.1 : Int)) then
  (
   Option.bind (at? r1.2.1 t6) fun x1 =>
   Option.bind (rule_either k (a1.1, a1.2.1, ()) x1.1 x1.2.1 x1.2.2.1) fun v3 =>
   if !v3 then
    some ((70 : Int))
   else
    go1 (wi64 (t6 + (1 : Int)))
  )
 else
  zdz k r1 a1 k (0 : Int)
def zd0 (k : Nat) (r1 : yT27) (a1 : yT42) : Nat -> Int -> Option Int
 | 0, _ => none
 | n + 1, t6 => rule_Check_b1 k r1 a1 (zd0 k r1 a1 n) t6
def rule_Check_j5 (k : Nat) (r1 : yT27) (a1 : yT42) (t5 : Bool) : Option Int :=
 if t5 then
  some ((70 : Int))
 else
  zd0 k r1 a1 k (0 : Int)
def rule_Check_j4 (k : Nat) (r1 : yT27) (a1 : yT42) (t4 : Bool) : Option Int :=
 rule_Check_j5 k r1 a1 (t4 || ((wi64 ((List.length r1.2.1 : Int) + (List.length r1.2.2.1 : Int))) == (0 : Int)))
def rule_Check_j3 (k : Nat) (r1 : yT27) (a1 : yT42) (t3 : Bool) : Option Int :=
 rule_Check_j4 k r1 a1 (t3 || (decide ((8 : Int) < (List.length r1.2.2.1 : Int))))
def rule_Check_j2 (k : Nat) (r1 : yT27) (a1 : yT42) (t2 : Bool) : Option Int :=
 rule_Check_j3 k r1 a1 (t2 || (decide ((8 : Int) < (List.length r1.2.1 : Int))))
def rule_Check_j1 (k : Nat) (r1 : yT27) (a1 : yT42) (t1 : Bool) : Option Int :=
 rule_Check_j2 k r1 a1 (t1 || (decide ((3 : Int) < r1.2.2.2.2.2.1)))
def rule_Check (k : Nat) (a1 : yT42) (r1 : yT27) : Option Int :=
 Option.bind (zcw k (a1.1, a1.2.1, ())) fun v1 =>
 if v1 != (0 : Int) then
  some (v1)
 else
  (
   Option.bind (rule_named k r1.1) fun v2 =>
   rule_Check_j1 k r1 a1 ((!v2) || (decide (r1.2.2.2.2.2.1 < (1 : Int))))
  )
def law_Check_b1 (k : Nat) (l1 : List yT26) (a1 : yT42) (go1 : Int -> Option Int) (t1 : Int) : Option Int :=
 if decide (t1 < (List.length l1 : Int)) then
  (
   Option.bind (at? l1 t1) fun x1 =>
   Option.bind (rule_Check k (a1.1, a1.2.1, ()) (x1.1, x1.2.1, x1.2.2.1, (x1.2.2.2.1.1, ()), (x1.2.2.2.2.1.1, ()), x1.2.2.2.2.2.1, x1.2.2.2.2.2.2.1, ())) fun v2 =>
   if v2 != (0 : Int) then
    some (v2)
   else
    go1 (wi64 (t1 + (1 : Int)))
  )
 else
  some ((0 : Int))
def zd1 (k : Nat) (l1 : List yT26) (a1 : yT42) : Nat -> Int -> Option Int
 | 0, _ => none
 | n + 1, t1 => law_Check_b1 k l1 a1 (zd1 k l1 a1 n) t1
def law_Check (k : Nat) (a1 : yT42) (l1 : List yT26) : Option Int :=
 Option.bind (zcw k (a1.1, a1.2.1, ())) fun v1 =>
 if v1 != (0 : Int) then
  some (v1)
 else
  (
   if decide ((64 : Int) < (List.length l1 : Int)) then
    some ((4 : Int))
   else
    zd1 k l1 a1 k (0 : Int)
  )
def family_Check_b1 (k : Nat) (f1 : yT10) (go1 : Int -> Option Int) (t1 : Int) : Option Int :=
 if decide (t1 < (List.length f1.2.1 : Int)) then
  (
   Option.bind (at? f1.2.1 t1) fun x1 =>
   Option.bind (law_Check k (f1.1.1, f1.1.2.1, ()) x1.2.2.1) fun v3 =>
   if v3 != (0 : Int) then
    some (v3)
   else
    go1 (wi64 (t1 + (1 : Int)))
  )
 else
  some ((0 : Int))
def zd2 (k : Nat) (f1 : yT10) : Nat -> Int -> Option Int
 | 0, _ => none
 | n + 1, t1 => family_Check_b1 k f1 (zd2 k f1 n) t1
def zd3 (k : Nat) (f1 : yT10) : Option Int :=
 Option.bind (zcw k (f1.1.1, f1.1.2.1, ())) fun v1 =>
 if v1 != (0 : Int) then
  some (v1)
 else
  (
   Option.bind (zda k f1.2.1) fun v2 =>
   if !v2 then
    some ((270 : Int))
   else
    zd2 k f1 k (0 : Int)
  )
def family_asked_j1 (go1 : Int -> Option Int) (t1 : Int) (t2 : Bool) : Option Int :=
 if t2 then
  some ((8 : Int))
 else
  go1 (wi64 (t1 + (1 : Int)))
def family_asked_b1 (tongues1 : List (Int)) (f1 : yT10) (go1 : Int -> Option Int) (t1 : Int) : Option Int :=
 if decide (t1 < (List.length tongues1 : Int)) then
  (
   Option.bind (at? tongues1 t1) fun x1 =>
   family_asked_j1 go1 t1 (decide (x1 < (0 : Int)) || (decide ((List.length f1.2.1 : Int) <= x1)))
  )
 else
  some ((0 : Int))
def zd4 (tongues1 : List (Int)) (f1 : yT10) : Nat -> Int -> Option Int
 | 0, _ => none
 | n + 1, t1 => family_asked_b1 tongues1 f1 (zd4 tongues1 f1 n) t1
def zd5 (k : Nat) (f1 : yT10) (tongues1 : List (Int)) : Option Int :=
 Option.bind (zd3 k ((f1.1.1, f1.1.2.1, ()), f1.2.1, ())) fun v1 =>
 if v1 != (0 : Int) then
  some (v1)
 else
  zd4 tongues1 f1 k (0 : Int)
def zd6 (go1 : Int -> (List (Int)) -> Option (List (Int))) (t2 : Int) (t4 : List (Int)) : Option (List (Int)) :=
 go1 (wi64 (t2 + (1 : Int))) t4
def family_Text_c1_i1_b1 (c3 : List yT24) (tongue1 : Int) (rec1 : Int -> Int -> yT70 -> yT54 -> yT23 -> (List (Int)) -> Option (List (Int))) (deep1 : Int) (c1 : List (List UInt8)) (c2 : List yT61) (go1 : Int -> (List (Int)) -> Option (List (Int))) (t2 : Int) (t3 : List (Int)) : Option (List (Int)) :=
 if decide (t2 < (List.length c3 : Int)) then
  (
   Option.bind (at? c3 t2) fun x2 =>
   if x2.2.1 == tongue1 then
    (
     Option.bind (rec1 t2 (wi64 (deep1 + (1 : Int))) c1 c2 c3 t3) fun v3 =>
     zd6 go1 t2 v3
    )
   else
    zd6 go1 t2 t3
  )
 else
  some t3
def zd7 (c3 : List yT24) (tongue1 : Int) (rec1 : Int -> Int -> yT70 -> yT54 -> yT23 -> (List (Int)) -> Option (List (Int))) (deep1 : Int) (c1 : List (List UInt8)) (c2 : List yT61) : Nat -> Int -> (List (Int)) -> Option (List (Int))
 | 0, _, _ => none
 | n + 1, t2, t3 => family_Text_c1_i1_b1 c3 tongue1 rec1 deep1 c1 c2 (zd7 c3 tongue1 rec1 deep1 c1 c2 n) t2 t3
def zd8 : Nat -> Int -> Int -> yT70 -> yT54 -> yT23 -> (List (Int)) -> Option (List (Int))
 | 0, _, _, _, _, _, _ => none
 | k + 1, tongue1, deep1, c1, c2, c3, l1 =>
  Option.bind (strings_Repeat k ([32, 32] : List UInt8) deep1) fun v1 =>
  Option.bind (at? c3 tongue1) fun x1 =>
  Option.bind (chk (List.length v1 + List.length x1.1 <= lim)) fun _ =>
  Option.bind (chk (List.length (v1 ++ x1.1) + List.length ([10] : List UInt8) <= lim)) fun _ =>
  Option.bind (zde k ((v1 ++ x1.1) ++ ([10] : List UInt8)) l1) fun v2 =>
  zd7 c3 tongue1 (zd8 k) deep1 c1 c2 k (0 : Int) v2.2.2
def family_Text (k : Nat) (f1 : yT10) : Option yT71 :=
 Option.bind (zd5 k ((f1.1.1, f1.1.2.1, ()), f1.2.1, ()) ([] : List (Int))) fun v1 =>
 if v1 != (0 : Int) then
  some (([] : List UInt8), v1)
 else
  (
   Option.bind (zd8 k (0 : Int) (0 : Int) f1.1.1 f1.1.2.1 f1.2.1 ([] : List (Int))) fun v2 =>
   Option.bind (bld_String k v2) fun v3 =>
   some (v3, (0 : Int))
  )
def l27_awake_j1  (t1 : Bool) : Option Bool :=
 some (t1)
def l27_awake (k : Nat)  : Option Bool :=
 Option.bind (l27_sample k) fun v1 =>
 Option.bind (family_Text k v1) fun v2 =>
 l27_awake_j1 ((v2.2 == (0 : Int)) && (v2.1 == ([112, 10, 32, 32, 113, 10] : List UInt8)))
def l27_large_j2 (go1 : Int -> Int -> Option Bool) (i1 : Int) (n2 : Int) : Option Bool :=
 go1 n2 (wi64 (i1 + (1 : Int)))
def l27_large_j1 (f1 : yT10) (i1 : Int) (go1 : Int -> Int -> Option Bool) (n1 : Int) (t1 : Bool) : Option Bool :=
 if t1 then
  (
   Option.bind (at? f1.2.1 i1) fun x1 =>
   if decide ((List.length x1.2.2.1 : Int) <= (64 : Int)) then
    l27_large_j2 go1 i1 (wi64 (n1 + (List.length x1.2.2.1 : Int)))
   else
    l27_large_j2 go1 i1 n1
  )
 else
  some (decide ((60 : Int) < n1))
def l27_large_b1 (f1 : yT10) (go1 : Int -> Int -> Option Bool) (n1 : Int) (i1 : Int) : Option Bool :=
 l27_large_j1 f1 i1 go1 n1 (decide (i1 < (List.length f1.2.1 : Int)) && (decide (i1 < (40 : Int))))
def l27_large_l1 (f1 : yT10) : Nat -> Int -> Int -> Option Bool
 | 0, _, _ => none
 | n + 1, n1, i1 => l27_large_b1 f1 (l27_large_l1 f1 n) n1 i1
def l27_large (k : Nat) (f1 : yT10) : Option Bool :=
 l27_large_l1 f1 k (0 : Int) (0 : Int)
def family_path_b1 (f1 : yT10) (go1 : Int -> (List (Int)) -> Option (List (Int))) (tongue2 : Int) (out1 : List (Int)) : Option (List (Int)) :=
 if decide ((0 : Int) <= tongue2) then
  (
   Option.bind (chk (List.length out1 + List.length ([tongue2] : List (Int)) <= lim)) fun _ =>
   Option.bind (at? f1.2.1 tongue2) fun x1 =>
   go1 x1.2.1 (out1 ++ ([tongue2] : List (Int)))
  )
 else
  some (List.reverse out1)
def zd9 (f1 : yT10) : Nat -> Int -> (List (Int)) -> Option (List (Int))
 | 0, _, _ => none
 | n + 1, tongue2, out1 => family_path_b1 f1 (zd9 f1 n) tongue2 out1
def family_path (k : Nat) (f1 : yT10) (tongue1 : Int) : Option (List (Int)) :=
 zd9 f1 k tongue1 ([] : List (Int))
end Go.Ev
namespace Go.Ev
open Go
set_option linter.unusedVariables false
end Go.Ev
namespace Go.Ev
open Go Go.Proofs Go.Sort
section
variable {X : Type}
def ltO (c : X -> X -> Option Int) (x y : X) : Bool := match c x y with
 | some n => decide (n < 0)
 | none => false
def good [DecidableEq X] (c : X -> X -> Option Int) (l : List X) : Bool :=
 l.all fun x => l.all fun y => (c x y).isSome && (bif decide (x = y) then !ltO c x y else (ltO c x y || ltO c y x) && !(ltO c x y && ltO c y x)) && l.all fun z => !(ltO c x y && ltO c y z) || ltO c x z
structure Parts (lt : X -> X -> Bool) (S : X -> Prop) : Prop where
 irr : ∀ x, S x -> lt x x = false
 tr : ∀ x y z, S x -> S y -> S z -> lt x y = true -> lt y z = true -> lt x z = true
 tot : ∀ x y, S x -> S y -> x ≠ y -> lt x y = true \/ lt y x = true
end
end Go.Ev
namespace Go.Ev
open Go
end Go.Ev
namespace Go.Ev
open Go
set_option linter.unusedVariables false
end Go.Ev
namespace Go.Ev
open Go
set_option linter.unusedVariables false
def word_ranks_b1 (a1 : yT42) (go1 : Int -> yT72 -> Option (Option yT72 × Int)) (t1 : Int) (m1 : List (Int × Int)) : Option (Option yT72 × Int) :=
 if decide (t1 < (List.length a1.2.1 : Int)) then
  (
   Option.bind (at? a1.2.1 t1) fun x1 =>
   go1 (wi64 (t1 + (1 : Int))) (mset (eqEl (.int .i32)) m1 x1.1 t1)
  )
 else
  some (some m1, (0 : Int))
def word_ranks_l1 (a1 : yT42) : Nat -> Int -> yT72 -> Option (Option yT72 × Int)
 | 0, _, _ => none
 | n + 1, t1, m1 => word_ranks_b1 a1 (word_ranks_l1 a1 n) t1 m1
def word_ranks (k : Nat) (a1 : yT42) : Option (Option yT72 × Int) :=
 Option.bind (zcw k (a1.1, a1.2.1, ())) fun v1 =>
 if v1 != (0 : Int) then
  some ((none : Option yT72), v1)
 else
  word_ranks_l1 a1 k (0 : Int) ([] : List (Int × Int))
def runes_long (k : Nat) (s1 : List UInt8) : Option Int :=
 if decide ((65536 : Int) < (List.length s1 : Int)) then
  some ((3 : Int))
 else
  some ((0 : Int))
def unicode_utf8_RuneLen_j1 (r1 : Int) (t1 : Bool) : Option Int :=
 if t1 then
  some ((-1 : Int))
 else
  (
   if decide (r1 <= (65535 : Int)) then
    some ((3 : Int))
   else
    (
     if decide (r1 <= (1114111 : Int)) then
      some ((4 : Int))
     else
      some ((-1 : Int))
    )
  )
def zea (k : Nat) (r1 : Int) : Option Int :=
 if decide (r1 < (0 : Int)) then
  some ((-1 : Int))
 else
  (
   if decide (r1 <= (127 : Int)) then
    some ((1 : Int))
   else
    (
     if decide (r1 <= (2047 : Int)) then
      some ((2 : Int))
     else
      unicode_utf8_RuneLen_j1 r1 (decide ((55296 : Int) <= r1) && (decide (r1 <= (57343 : Int))))
    )
  )
def zeb (k : Nat) (p1 : yT58) (l1 : List yT55) : Option (Bool × List yT55) :=
 Option.bind (chk (List.length l1 + List.length ([(p1.1, p1.2.1, p1.2.2.1, p1.2.2.2.1, ())] : List yT55) <= lim)) fun _ =>
 some (true, l1 ++ ([(p1.1, p1.2.1, p1.2.2.1, p1.2.2.2.1, ())] : List yT55))
def zec (k : Nat) (s1 : List UInt8) (pos1 : Nat) (t2 : List yT55) (go1 : Nat -> yT51 -> Option yT51) (p1 : Int) (p2 : Bool) : Option yT51 :=
 Option.bind (zeb k (runeAt s1 pos1, (pos1 : Int), p1, p2, ()) t2) fun v2 =>
 if !v2.1 then
  some v2.2
 else
  go1 (pos1 + widthAt s1 pos1) v2.2
def runes_each_i1_b1 (k : Nat) (s1 : List UInt8) (go1 : Nat -> yT51 -> Option yT51) (pos1 : Nat) (t2 : List yT55) : Option yT51 :=
 if decide (pos1 < List.length s1) then
  (
   Option.bind (zea k (runeAt s1 pos1)) fun v1 =>
   if (runeAt s1 pos1) == (65533 : Int) then
    (
     Option.bind (sub? s1 (pos1 : Int) (s1.length : Int)) fun s2 =>
     Option.bind (utf8_DecodeRuneInString k s2) fun v3 =>
     if v3.2 == (1 : Int) then
      zec k s1 pos1 t2 go1 (1 : Int) true
     else
      zec k s1 pos1 t2 go1 v1 false
    )
   else
    zec k s1 pos1 t2 go1 v1 false
  )
 else
  some t2
def zed (k : Nat) (s1 : List UInt8) : Nat -> Nat -> yT51 -> Option yT51
 | 0, _, _ => none
 | n + 1, pos1, t2 => runes_each_i1_b1 k s1 (zed k s1 n) pos1 t2
def runes_each_i1 (k : Nat) (s1 : List UInt8) (l1 : List yT55) : Option yT51 :=
 zed k s1 k 0 l1
def runes_Pieces (k : Nat) (s1 : List UInt8) : Option (List yT55 × Int) :=
 Option.bind (runes_long k s1) fun v1 =>
 if v1 != (0 : Int) then
  some (([] : List yT55), v1)
 else
  (
   Option.bind (runes_each_i1 k s1 ([] : List yT55)) fun v2 =>
   some (v2, (0 : Int))
  )
def word_read_b1 (v1 : (List yT55 × Int)) (m1 : Option yT72) (go1 : Int -> (List (Int)) -> Option yT73) (t1 : Int) (out1 : List (Int)) : Option yT73 :=
 if decide (t1 < (List.length v1.1 : Int)) then
  (
   Option.bind (at? v1.1 t1) fun x1 =>
   if x1.2.2.2.1 then
    some (([] : List (Int)), (6 : Int))
   else
    (
     if !((mget (eqEl (.int .i32)) (m1.getD []) x1.1).isSome) then
      some (([] : List (Int)), (5 : Int))
     else
      (
       if (List.length out1 : Int) == (64 : Int) then
        some (([] : List (Int)), (4 : Int))
       else
        (
         Option.bind (chk (List.length out1 + List.length ([x1.1] : List (Int)) <= lim)) fun _ =>
         go1 (wi64 (t1 + (1 : Int))) (out1 ++ ([x1.1] : List (Int)))
        )
      )
    )
  )
 else
  some (out1, (0 : Int))
def word_read_l1 (v1 : (List yT55 × Int)) (m1 : Option yT72) : Nat -> Int -> (List (Int)) -> Option yT73
 | 0, _, _ => none
 | n + 1, t1, out1 => word_read_b1 v1 m1 (word_read_l1 v1 m1 n) t1 out1
def word_read_j1 (k : Nat) (m1 : Option yT72) (w2 : List UInt8) : Option yT73 :=
 Option.bind (runes_Pieces k w2) fun v1 =>
 if v1.2 != (0 : Int) then
  some (([] : List (Int)), v1.2)
 else
  word_read_l1 v1 m1 k (0 : Int) ([] : List (Int))
def word_read (k : Nat) (m1 : Option yT72) (w1 : List UInt8) : Option yT73 :=
 if decide ((65536 : Int) < (List.length w1 : Int)) then
  (
   Option.bind (sub? w1 (0 : Int) (65536 : Int)) fun s1 =>
   word_read_j1 k m1 s1
  )
 else
  word_read_j1 k m1 w1
def word_Letters (k : Nat) (a1 : yT42) (w1 : List UInt8) : Option yT73 :=
 Option.bind (word_ranks k (a1.1, a1.2.1, ())) fun v1 =>
 if v1.2 != (0 : Int) then
  some (([] : List (Int)), v1.2)
 else
  (
   Option.bind (word_read k v1.1 w1) fun v2 =>
   some (v2.1, v2.2)
  )
def zee (k : Nat) (x1 : Int) : Option Int :=
 Option.bind (chk (0 <= (24 : Int))) fun _ =>
 Option.bind (byteAt ([0, 1, 1, 2, 1, 2, 2, 3, 1, 2, 2, 3, 2, 3, 3, 4, 1, 2, 2, 3, 2, 3, 3, 4, 2, 3, 3, 4, 3, 4, 4, 5, 1, 2, 2, 3, 2, 3, 3, 4, 2, 3, 3, 4, 3, 4, 4, 5, 2, 3, 3, 4, 3, 4, 4, 5, 3, 4, 4, 5, 4, 5, 5, 6, 1, 2, 2, 3, 2, 3, 3, 4, 2, 3, 3, 4, 3, 4, 4, 5, 2, 3, 3, 4, 3, 4, 4, 5, 3, 4, 4, 5, 4, 5, 5, 6, 2, 3, 3, 4, 3, 4, 4, 5, 3, 4, 4, 5, 4, 5, 5, 6, 3, 4, 4, 5, 4, 5, 5, 6, 4, 5, 5, 6, 5, 6, 6, 7, 1, 2, 2, 3, 2, 3, 3, 4, 2, 3, 3, 4, 3, 4, 4, 5, 2, 3, 3, 4, 3, 4, 4, 5, 3, 4, 4, 5, 4, 5, 5, 6, 2, 3, 3, 4, 3, 4, 4, 5, 3, 4, 4, 5, 4, 5, 5, 6, 3, 4, 4, 5, 4, 5, 5, 6, 4, 5, 5, 6, 5, 6, 6, 7, 2, 3, 3, 4, 3, 4, 4, 5, 3, 4, 4, 5, 4, 5, 5, 6, 3, 4, 4, 5, 4, 5, 5, 6, 4, 5, 5, 6, 5, 6, 6, 7, 3, 4, 4, 5, 4, 5, 5, 6, 4, 5, 5, 6, 5, 6, 6, 7, 4, 5, 5, 6, 5, 6, 6, 7, 5, 6, 6, 7, 6, 7, 7, 8] : List UInt8) (Int.fdiv x1 (2 ^ min ((24 : Int)).toNat 32))) fun b1 =>
 Option.bind (chk (0 <= (16 : Int))) fun _ =>
 Option.bind (byteAt ([0, 1, 1, 2, 1, 2, 2, 3, 1, 2, 2, 3, 2, 3, 3, 4, 1, 2, 2, 3, 2, 3, 3, 4, 2, 3, 3, 4, 3, 4, 4, 5, 1, 2, 2, 3, 2, 3, 3, 4, 2, 3, 3, 4, 3, 4, 4, 5, 2, 3, 3, 4, 3, 4, 4, 5, 3, 4, 4, 5, 4, 5, 5, 6, 1, 2, 2, 3, 2, 3, 3, 4, 2, 3, 3, 4, 3, 4, 4, 5, 2, 3, 3, 4, 3, 4, 4, 5, 3, 4, 4, 5, 4, 5, 5, 6, 2, 3, 3, 4, 3, 4, 4, 5, 3, 4, 4, 5, 4, 5, 5, 6, 3, 4, 4, 5, 4, 5, 5, 6, 4, 5, 5, 6, 5, 6, 6, 7, 1, 2, 2, 3, 2, 3, 3, 4, 2, 3, 3, 4, 3, 4, 4, 5, 2, 3, 3, 4, 3, 4, 4, 5, 3, 4, 4, 5, 4, 5, 5, 6, 2, 3, 3, 4, 3, 4, 4, 5, 3, 4, 4, 5, 4, 5, 5, 6, 3, 4, 4, 5, 4, 5, 5, 6, 4, 5, 5, 6, 5, 6, 6, 7, 2, 3, 3, 4, 3, 4, 4, 5, 3, 4, 4, 5, 4, 5, 5, 6, 3, 4, 4, 5, 4, 5, 5, 6, 4, 5, 5, 6, 5, 6, 6, 7, 3, 4, 4, 5, 4, 5, 5, 6, 4, 5, 5, 6, 5, 6, 6, 7, 4, 5, 5, 6, 5, 6, 6, 7, 5, 6, 6, 7, 6, 7, 7, 8] : List UInt8) (wu32 (BitVec.toNat (BitVec.ofInt 32 (Int.fdiv x1 (2 ^ min ((16 : Int)).toNat 32)) &&& BitVec.ofInt 32 (255 : Int))))) fun b2 =>
 Option.bind (chk (0 <= (8 : Int))) fun _ =>
 Option.bind (byteAt ([0, 1, 1, 2, 1, 2, 2, 3, 1, 2, 2, 3, 2, 3, 3, 4, 1, 2, 2, 3, 2, 3, 3, 4, 2, 3, 3, 4, 3, 4, 4, 5, 1, 2, 2, 3, 2, 3, 3, 4, 2, 3, 3, 4, 3, 4, 4, 5, 2, 3, 3, 4, 3, 4, 4, 5, 3, 4, 4, 5, 4, 5, 5, 6, 1, 2, 2, 3, 2, 3, 3, 4, 2, 3, 3, 4, 3, 4, 4, 5, 2, 3, 3, 4, 3, 4, 4, 5, 3, 4, 4, 5, 4, 5, 5, 6, 2, 3, 3, 4, 3, 4, 4, 5, 3, 4, 4, 5, 4, 5, 5, 6, 3, 4, 4, 5, 4, 5, 5, 6, 4, 5, 5, 6, 5, 6, 6, 7, 1, 2, 2, 3, 2, 3, 3, 4, 2, 3, 3, 4, 3, 4, 4, 5, 2, 3, 3, 4, 3, 4, 4, 5, 3, 4, 4, 5, 4, 5, 5, 6, 2, 3, 3, 4, 3, 4, 4, 5, 3, 4, 4, 5, 4, 5, 5, 6, 3, 4, 4, 5, 4, 5, 5, 6, 4, 5, 5, 6, 5, 6, 6, 7, 2, 3, 3, 4, 3, 4, 4, 5, 3, 4, 4, 5, 4, 5, 5, 6, 3, 4, 4, 5, 4, 5, 5, 6, 4, 5, 5, 6, 5, 6, 6, 7, 3, 4, 4, 5, 4, 5, 5, 6, 4, 5, 5, 6, 5, 6, 6, 7, 4, 5, 5, 6, 5, 6, 6, 7, 5, 6, 6, 7, 6, 7, 7, 8] : List UInt8) (wu32 (BitVec.toNat (BitVec.ofInt 32 (Int.fdiv x1 (2 ^ min ((8 : Int)).toNat 32)) &&& BitVec.ofInt 32 (255 : Int))))) fun b3 =>
 Option.bind (byteAt ([0, 1, 1, 2, 1, 2, 2, 3, 1, 2, 2, 3, 2, 3, 3, 4, 1, 2, 2, 3, 2, 3, 3, 4, 2, 3, 3, 4, 3, 4, 4, 5, 1, 2, 2, 3, 2, 3, 3, 4, 2, 3, 3, 4, 3, 4, 4, 5, 2, 3, 3, 4, 3, 4, 4, 5, 3, 4, 4, 5, 4, 5, 5, 6, 1, 2, 2, 3, 2, 3, 3, 4, 2, 3, 3, 4, 3, 4, 4, 5, 2, 3, 3, 4, 3, 4, 4, 5, 3, 4, 4, 5, 4, 5, 5, 6, 2, 3, 3, 4, 3, 4, 4, 5, 3, 4, 4, 5, 4, 5, 5, 6, 3, 4, 4, 5, 4, 5, 5, 6, 4, 5, 5, 6, 5, 6, 6, 7, 1, 2, 2, 3, 2, 3, 3, 4, 2, 3, 3, 4, 3, 4, 4, 5, 2, 3, 3, 4, 3, 4, 4, 5, 3, 4, 4, 5, 4, 5, 5, 6, 2, 3, 3, 4, 3, 4, 4, 5, 3, 4, 4, 5, 4, 5, 5, 6, 3, 4, 4, 5, 4, 5, 5, 6, 4, 5, 5, 6, 5, 6, 6, 7, 2, 3, 3, 4, 3, 4, 4, 5, 3, 4, 4, 5, 4, 5, 5, 6, 3, 4, 4, 5, 4, 5, 5, 6, 4, 5, 5, 6, 5, 6, 6, 7, 3, 4, 4, 5, 4, 5, 5, 6, 4, 5, 5, 6, 5, 6, 6, 7, 4, 5, 5, 6, 5, 6, 6, 7, 5, 6, 6, 7, 6, 7, 7, 8] : List UInt8) (wu32 (BitVec.toNat (BitVec.ofInt 32 x1 &&& BitVec.ofInt 32 (255 : Int))))) fun b4 =>
 some (wi64 (wu8 ((wu8 ((wu8 (b1 + b2)) + b3)) + b4)))
def zef (k : Nat) (x1 : yT64) (y1 : yT64) : Option Int :=
 Option.bind (zee k (wu32 (BitVec.toNat (BitVec.ofInt 32 (wu32 (BitVec.toNat (BitVec.ofInt 32 x1.2.1 ^^^ BitVec.ofInt 32 y1.2.1))) ||| BitVec.ofInt 32 (wu32 (BitVec.toNat (BitVec.ofInt 32 x1.2.2.1 ^^^ BitVec.ofInt 32 y1.2.2.1))))))) fun v1 =>
 some (v1)
end Go.Ev
