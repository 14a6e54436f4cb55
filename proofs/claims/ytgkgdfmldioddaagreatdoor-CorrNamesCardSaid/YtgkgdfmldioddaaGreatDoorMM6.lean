/- The evaluator as one function is right. -/
import Derived.Test.YtgkgdfmldioddaaGreatDoorMM5
import Derived.Test.YtgkgdfmldioddaaGreatDoorMM4
import Derived.Test.YtgkgdfmldioddaaGreatDoorMM1
import Derived.Shelf.SlSortCmp.Insertion
import Derived.Test.YtgkgdfmldioddaaGreatDoorTyA
set_option linter.unusedSectionVars false
set_option linter.unusedVariables false
set_option linter.unusedSimpArgs false
namespace Go.Ev
open Go Go.RowKit
variable [Dr]
variable {R : Type} {P : Program} {G : World -> Prop}
variable {cx : Cx} {st st' : St} {T : Array Value} {w : World} {E : Env} {Q : Post} {ops : Array Oper} {l : List Oper}
theorem WL_one (hE : EnvOK E cx) {o : Oper} (hw : wantSV ops st o = some true) {orc : List TV} {ob : List Prop} (he : evO E st o orc = some (st', [], ob)) (hob : allP ob) (h : WL cx ops Q l st') : WL cx ops Q (o :: l) st := by
 refine WL_take hE 1 (orc := orc) (ob := ob ++ []) ?_ (by rw [List.append_nil]; exact hob) h
 show evL E ops [o] st orc = _
 unfold evL
 rw [hw]
 simp only [he, evL]
theorem fin_sound {r : R} {o : Oper} {k : KT P G R} {orc : List TV} {ps : List Prop} {h : Hi P G R} {kn : List KN} (hg : Gd (fin E st o k orc ps h kn) r) (hp : allP ps) :
  ∃ st' ob, evO E st o orc = some (st', [], ob) /\ allP ob /\ Gd (k st' h kn) r := by
 unfold fin at hg
 split at hg
 ·rename_i st' ob he
  obtain ⟨e, hg2⟩ := hg.eqp
  exact ⟨st', _, he, e ▸ hp, hg2⟩
 ·exact hg.no
theorem stepO1_sound {fs : List (PF P G)} {nn : Nat} (hE : EnvOK (envOf P G nn fs) cx) {r : R} {o : Oper} {h : Hi P G R} {kn : List KN} {k : KT P G R} (hw : wantSV ops st o = some true) (hkn : KnOK kn)
  (hg : Gd (stepO1 fs (envOf P G nn fs) st o h kn k) r) (hk : ∀ st' h' kn', KnOK kn' -> Gd (k st' h' kn') r -> WL cx ops Q l st') : WL cx ops Q (o :: l) st := by
 unfold stepO1 at hg
 split at hg
 ·rename_i I h' _
  split at hg
  ·rename_i r0 hen
   split at hg
   ·rename_i c hc
    split at hg
    ·rename_i xs hxs hce
     split at hg
     ·rename_i st' hlv
      have hcc := rowC_eq (Nat.eq_of_beq_eq_true hce) hxs
      subst hcc
      exact WL_callI0 hE I.ok xs (I.fn xs) rfl r0 hw hen hc hlv (hk _ _ _ hkn hg)
     ·exact hg.no
    ·exact hg.no
   ·exact hg.no
  ·exact hg.no
 ·rename_i α β B ρ ρ' hf _
  split at hg
  ·rename_i S0 hen
   split at hg
   ·rename_i x hx
    obtain ⟨e, hg2⟩ := hg.eqs
    obtain ⟨y, h1, hg3⟩ := hg2.ask
    split at hg3
    ·rename_i st' hlv
     exact WL_callB0 hE B.ok x y (B.rel x y h1) rfl hw (hen.trans e) hlv (hk _ _ _ hkn hg3)
    ·exact hg3.no
   ·exact hg.no
  ·exact hg.no
 ·rename_i α β B i j ρ ρ' hf _
  split at hg
  ·rename_i st1 hgh
   split at hg
   ·rename_i S0 hen
    split at hg
    ·rename_i x hx
     obtain ⟨e, hg2⟩ := hg.eqs
     obtain ⟨y, h1, hg3⟩ := hg2.ask
     split at hg3
     ·rename_i st' hlv
      exact WL_callN hE B.ok x y (B.rel x y h1) rfl hgh hw (hen.trans e) hlv (hk _ _ _ hkn hg3)
     ·exact hg3.no
    ·exact hg.no
   ·exact hg.no
  ·exact hg.no
 ·have last : ∀ {orc : List TV} {q : Qs} {h : Hi P G R}, Gd (askTr q h kn orc [] (fin (envOf P G nn fs) st o k)) r -> WL cx ops Q (o :: l) st := fun hg => by
   obtain ⟨orc, ps, h', kn', hp, hkn', hg⟩ := askTr_sound (ps := []) _ hkn trivial hg
   obtain ⟨st', ob, he, hob, hg⟩ := fin_sound hg hp
   exact WL_one hE hw he hob (hk _ _ _ hkn' hg)
  split at hg
  ·split at hg
   ·exact last hg
   ·exact last hg
  split at hg
  ·split at hg
   ·split at hg
    ·rcases hg.ite with ⟨hb, hg⟩ | ⟨hb, hg⟩
     ·obtain ⟨st', ob, he, hob, hg⟩ := fin_sound hg ⟨of_decide_eq_true hb, trivial⟩
      exact WL_one hE hw he hob (hk _ _ _ hkn hg)
     ·obtain ⟨st', ob, he, hob, hg⟩ := fin_sound hg ⟨Nat.le_of_not_lt (of_decide_eq_false hb), trivial⟩
      exact WL_one hE hw he hob (hk _ _ _ hkn hg)
    ·exact hg.no
   ·exact hg.no
  ·split at hg
   ·split at hg
    ·exact last hg
    ·exact last hg
   ·exact last hg
theorem wantSV_none {o : Oper} (h : o.guard = none) : wantSV ops st o = some true := by unfold wantSV; rw [h]
theorem stepO_sound {fs : List (PF P G)} {nn : Nat} (hE : EnvOK (envOf P G nn fs) cx) {r : R} {o : Oper} {h : Hi P G R} {kn : List KN} {k : KT P G R} (hw : wantSV ops st o = some true) (hkn : KnOK kn)
  (hg : Gd (stepO fs (envOf P G nn fs) st o h kn k) r) (hk : ∀ st' h' kn', KnOK kn' -> Gd (k st' h' kn') r -> WL cx ops Q l st') : WL cx ops Q (o :: l) st := by
 unfold stepO at hg
 split at hg
 ·split at hg
  ·rename_i c hc hgd
   have := stepO1_sound (l := l) (ops := ops) (Q := Q) hE (wantSV_none hgd) hkn hg hk
   rintro T w ⟨m, hm⟩
   exact this T w ⟨m, hm.freeze (look_mem hc)⟩
  ·exact hg.no
 ·exact stepO1_sound hE hw hkn hg hk
structure RX (cx : Cx) (ops : Array Oper) (nc : Nat) (r : R) (I : Type) (W : I -> List Oper -> St -> Prop) (N : I -> St -> Prop) (mu : St -> List Oper -> Option (St × List Oper)) (step : StepT P G R) (seg : List Oper -> St -> Option (St × List TV × List Prop)) : Prop where
 nil : ∀ i st, N i st -> W i [] st
 norm : ∀ i st st' ks bs rs, st.norm ks bs rs = some st' -> N i st' -> N i st
 normW : ∀ i l st st' ks bs rs, st.norm ks bs rs = some st' -> W i l st' -> W i l st
 step : ∀ i o l st h kn (k : KT P G R), wantSV ops st o = some true -> KnOK kn -> Gd (step st o h kn k) r -> (∀ st' h' kn', KnOK kn' -> Gd (k st' h' kn') r -> W i l st') -> W i (o :: l) st
 undef : ∀ i o l st, wantSV ops st o = some false -> (match o.dst with
  | some d => Nat.blt d nc = true /\ W i l (st.put d .undef)
  | none => W i l st) -> W i (o :: l) st
 join : ∀ i n l st (A : Type) (F : A -> Prop) (S : A -> St), (∀ a, F a -> W i (l.drop n) (S a)) -> (∀ i', (∀ a, F a -> N i' (S a)) -> W i' (l.take n) st) -> W i l st
 mu : ∀ i l st st' l', mu st l = some (st', l') -> W i l' st' -> W i l st
 seg : ∀ i m l st s, seg (l.take m) st = some (s, [], []) -> W i (l.drop m) s -> W i l st
theorem segB_some {seg : List Oper -> St -> Option (St × List TV × List Prop)} {l : List Oper} {st : St} {gs d : Nat} {b : Bool} {s : St} {x : Bool} (h : segB seg l st gs b d = some (s, x)) :
  ∃ s0, seg l (setB st gs b) = some (s0, [], []) /\ s0.norm (d :: keysOf (del (delS st gs).sl d)) (keysOf st.bx) (keysOf st.rw) = some s := by
 unfold segB at h
 split at h
 ·rename_i s0 h1
  split at h
  ·split at h
   ·rename_i s' h2
    cases h
    exact ⟨s0, h1, h2⟩
   ·cases h
  ·cases h
 ·cases h
theorem arrive_sound {r : R} {hs : List Ho} {S : HT hs -> St} {J : HT hs -> Option R} (hg : Gd (arrive hs S J st) r) : ∃ z, st.norm (keysOf (S z).sl) (keysOf (S z).bx) (keysOf (S z).rw) = some (S z) /\ J z = some r := by
 unfold arrive at hg
 split at hg
 ·rename_i z _
  obtain ⟨h1, hg⟩ := hg.eqs
  exact ⟨z, h1, hg.den⟩
 ·exact hg.no
theorem arriveB_sound {r : R} {st0 : St} {d : Nat} {J : Bool -> Option R} (hg : Gd (arriveB st0 d J st) r) : ∃ v, st.norm (d :: keysOf (del st0.sl d)) (keysOf st0.bx) (keysOf st0.rw) = some (st0.put d (.val .bool v)) /\ J v = some r := by
 unfold arriveB at hg
 split at hg
 ·rename_i v _
  obtain ⟨h1, hg⟩ := hg.eqs
  exact ⟨v, h1, hg.den⟩
 ·exact hg.no
theorem runX_sound {nc : Nat} {r : R} {I : Type} {W : I -> List Oper -> St -> Prop} {N : I -> St -> Prop} {mu : St -> List Oper -> Option (St × List Oper)} {step : StepT P G R} {seg : List Oper -> St -> Option (St × List TV × List Prop)}
  (X : RX cx ops nc r I W N mu step seg) : ∀ (n : Nat) {i : I} {l : List Oper} {st : St} {h : Hi P G R} {kn : List KN} {K : KT P G R}, (∀ st' h' kn', KnOK kn' -> Gd (K st' h' kn') r -> N i st') -> KnOK kn ->
   Gd (runX nc mu step seg ops n l st h kn K) r -> W i l st := by
 intro n
 induction n with
 | zero => intro i l st h kn K _ _ hg; exact hg.no
 | succ n ih =>
  intro i l st h kn K hK hkn hg
  unfold runX at hg
  split at hg
  ·exact X.nil i st (hK _ _ _ hkn hg)
  ·rename_i o l
   have meet : ∀ (m gs : Nat) (b : Bool) (i : I), setB st gs b = st -> (∀ b', b = b' -> W i ((o :: l).take (m + 1)) (setB st gs b')) -> W i ((o :: l).take (m + 1)) st := fun m gs b i he hb => he ▸ hb b rfl
   split at hg
   ·rename_i hgd
    split at hg
    ·rename_i st' l' hmu
     exact X.mu i _ st st' l' hmu (ih hK hkn hg)
    ·exact X.step i o l st h kn _ (wantSV_none hgd) hkn hg fun st' h' kn' hk' hg' => ih hK hk' hg'
   ·rename_i g hgd
    split at hg
    ·rename_i m h'
     split at hg
     ·rename_i gs b d hgs hd
      split at hg
      ·rename_i s1 x1 s2 x2 h1 h2
       obtain ⟨he, hg1⟩ := hg.eqs
       obtain ⟨e1, hg2⟩ := hg1.eqs
       obtain ⟨e2, hg3⟩ := hg2.eqs
       have e1 := Option.some.inj e1
       have e2 := Option.some.inj e2
       have hr := ih (i := i) hK hkn hg3
       have he := Option.some.inj he
       cases b with
       | true =>
        obtain ⟨s0, k1, k2⟩ := segB_some h1
        refine X.seg i (m + 1) (o :: l) st s0 (by rw [he] at k1; exact k1) ?_
        exact X.normW i _ _ _ _ _ _ k2 (e1 ▸ hr)
       | false =>
        obtain ⟨s0, k1, k2⟩ := segB_some h2
        refine X.seg i (m + 1) (o :: l) st s0 (by rw [he] at k1; exact k1) ?_
        exact X.normW i _ _ _ _ _ _ k2 (e2 ▸ hr)
      ·exact hg.no
     ·exact hg.no
    ·rename_i m J hz
     split at hg
     ·rename_i gs b d hgs hd
      split at hg
      ·rename_i s1 x1 s2 x2 h1 h2
       obtain ⟨he, hg1⟩ := hg.eqs
       obtain ⟨e1, hg2⟩ := hg1.eqs
       obtain ⟨e2, hg3⟩ := hg2.eqs
       have e1 := Option.some.inj e1
       have e2 := Option.some.inj e2
       obtain ⟨hb, hg4⟩ := hg3.lab
       have hr := ih (i := i) hK KnOK.nil (hb _ hg4.den)
       have he := Option.some.inj he
       cases b with
       | true =>
        obtain ⟨s0, k1, k2⟩ := segB_some h1
        refine X.seg i (m + 1) (o :: l) st s0 (by rw [he] at k1; exact k1) ?_
        exact X.normW i _ _ _ _ _ _ k2 (e1 ▸ hr)
       | false =>
        obtain ⟨s0, k1, k2⟩ := segB_some h2
        refine X.seg i (m + 1) (o :: l) st s0 (by rw [he] at k1; exact k1) ?_
        exact X.normW i _ _ _ _ _ _ k2 (e2 ▸ hr)
      ·exact hg.no
     ·exact hg.no
    ·rename_i m J hx hy hz
     split at hg
     ·rename_i gs b d hgs hd
      obtain ⟨he, hg⟩ := hg.eqs
      obtain ⟨hb, hg⟩ := hg.lab
      have he := Option.some.inj he
      refine X.join i (m + 1) (o :: l) st Bool (fun v => J v = some r) (fun v => (delS st gs).put d (.val .bool v)) (fun v hv => ih hK KnOK.nil (hb v hv)) fun i' hN => ?_
      have fin : ∀ st' (h' : Hi P G R) (kn' : List KN), KnOK kn' -> Gd (arriveB (delS st gs) d J st') r -> N i' st' := fun st' _ _ _ hg' => by
       obtain ⟨v, k1, k2⟩ := arriveB_sound hg'
       exact X.norm i' _ _ _ _ _ k1 (hN v k2)
      refine meet m gs b i' he fun b' hb' => ?_
      subst hb'
      rcases hg.ite with ⟨e, hg5⟩ | ⟨e, hg5⟩
      ·rw [e]; exact ih fin hkn hg5
      ·rw [e]; exact ih fin hkn hg5
     ·exact hg.no
    ·rename_i m hs S J hx hy hz
     split at hg
     ·rename_i gs b hgs
      obtain ⟨he, hg⟩ := hg.eqs
      obtain ⟨hb, hg⟩ := hg.lab
      have he := Option.some.inj he
      refine X.join i (m + 1) (o :: l) st (HT hs) (fun v => J v = some r) (S st) (fun v hv => ih hK KnOK.nil (hb v hv)) fun i' hN => ?_
      have fin : ∀ st' (h' : Hi P G R) (kn' : List KN), KnOK kn' -> Gd (arrive hs (S st) J st') r -> N i' st' := fun st' _ _ _ hg' => by
       obtain ⟨v, k1, k2⟩ := arrive_sound hg'
       exact X.norm i' _ _ _ _ _ k1 (hN v k2)
      refine meet m gs b i' he fun b' hb' => ?_
      subst hb'
      rcases hg.ite with ⟨e, hg5⟩ | ⟨e, hg5⟩
      ·rw [e]; exact ih fin hkn hg5
      ·rw [e]; exact ih fin hkn hg5
     ·exact hg.no
    ·split at hg
     ·rename_i hw
      exact X.step i o l st _ kn _ hw hkn hg fun st' h' kn' hk' hg' => ih hK hk' hg'
     ·rename_i hw
      refine X.undef i o l st hw ?_
      split at hg
      ·rename_i d hd
       split at hg
       ·rename_i hdn
        try rw [hd]
        exact ⟨hdn, ih hK hkn hg⟩
       ·exact hg.no
      ·rename_i hd
       try rw [hd]
       exact ih hK hkn hg
     ·exact hg.no
theorem RX_L {fs : List (PF P G)} {nn : Nat} (hE : EnvOK (envOf P G nn fs) cx) (r : R) : RX cx ops nn r Post (fun Q l st => WL cx ops Q l st) (fun Q st => N cx Q .normal st) (upd3 (envOf P G nn fs)) (stepO fs (envOf P G nn fs)) (fun l st => evL (envOf P G nn fs) ops l st []) where
 nil := fun _ _ h => WL_nil h
 norm := fun _ _ _ _ _ _ hs h => h.norm hs
 normW := fun _ _ _ _ _ _ _ hs h => h.norm hs
 step := fun _ _ _ _ _ _ _ hw hkn hg hk => stepO_sound hE hw hkn hg hk
 undef := fun Q o l st hw h => by
  split at h
  ·rename_i d hd
   refine WL_take hE 1 (orc := []) (ob := []) ?_ trivial h.2
   show evL _ ops [o] st [] = _
   unfold evL
   rw [hw]
   simp only [hd, show Nat.blt d (envOf P G nn fs).n = true from h.1, evL]
  ·rename_i hd
   refine WL_take hE 1 (orc := []) (ob := []) ?_ trivial h
   show evL _ ops [o] st [] = _
   unfold evL
   rw [hw]
   simp only [hd, evL]
 join := fun _ n _ _ _ F S hy hx => WL_join F S n hy fun h => hx _ h
 mu := fun _ _ _ _ _ hu h => upd3_sound hE hu h
 seg := fun _ m _ _ _ hs h => WL_take hE m hs trivial h
theorem RX_D {fs : List (PF P G)} {nn : Nat} (hE : EnvOK (envOf P G nn fs) cx) (r : R) : RX cx ops nn r (World -> Act -> Prop) (fun K l st => WDK cx ops K l st) (fun K st => ND cx K st) (fun _ _ => none) (stepD fs (envOf P G nn fs)) (fun l st => evD (envOf P G nn fs) ops l st []) where
 nil := fun _ _ h => WDK_nil h
 norm := fun _ _ _ _ _ _ hs h => fun T w hR => h T w (hR.norm hs)
 normW := fun _ _ _ _ _ _ _ hs h => fun T w hR => h T w (hR.norm hs)
 step := fun K o l st h kn k hw hkn hg hk => by
  unfold stepD at hg
  split at hg
  ·rename_i d hd
   split at hg
   ·rename_i hdn
    obtain ⟨orc, ps, h', kn', hp, hkn', hg⟩ := askTr_sound (orc := []) (ps := []) _ hkn trivial hg
    unfold finD at hg
    split at hg
    ·rename_i sv ob he
     obtain ⟨e, hg2⟩ := hg.eqp
     intro T w hR
     have hk' := hk _ _ _ hkn' hg2
     have := wpQuiet_append (P := cx.P) (ops := ops) (l1 := [o]) (l2 := l) (C := Ext w) (Q' := K w) (a := ⟨T, []⟩)
      (evD_sound hE (l := [o]) (orc := orc) (orc' := []) (ob := ob ++ []) hR (by unfold evD; rw [hw]; simp only [hd, he, hdn, evD]) (by rw [List.append_nil, e]; exact hp) fun T' hR' => hk' T' w hR')
     exact this
    ·exact hg.no
   ·exact hg.no
  ·exact hg.no
 undef := fun K o l st hw h => by
  intro T w hR
  have key : ∀ st', evD (envOf P G nn fs) ops [o] st [] = some (st', [], []) -> WDK cx ops K l st' -> wpQuiet cx.P ops (Ext w) (K w) (o :: l) ⟨T, []⟩ := fun st' he hW =>
   wpQuiet_append (P := cx.P) (ops := ops) (l1 := [o]) (l2 := l) (evD_sound hE hR he trivial fun T' hR' => hW T' w hR')
  split at h
  ·rename_i d hd
   refine key (st.put d .undef) ?_ h.2
   unfold evD
   rw [hw]
   simp only [hd, show Nat.blt d (envOf P G nn fs).n = true from h.1, evD]
  ·rename_i hd
   refine key st ?_ h
   unfold evD
   rw [hw]
   simp only [hd, evD]
 mu := fun _ _ _ _ _ hu _ => by cases hu
 join := fun _ n _ _ _ F S hy hx => WDK_join F S n hy fun K h => hx K h
 seg := fun K m l st s hs h => by
  intro T w hR
  have := wpQuiet_append (P := cx.P) (ops := ops) (l1 := l.take m) (l2 := l.drop m) (evD_sound hE hR hs trivial fun T' hR' => h T' w hR')
  rwa [List.take_append_drop] at this
theorem RX_C {fs : List (PF P G)} {nn : Nat} (hE : EnvOK (envOf P G nn fs) cx) (r : R) : RX cx ops nn r (World -> Act -> Prop) (fun K l st => WCK cx ops K l st) (fun K st => ND cx K st) (fun _ _ => none) (stepC fs (envOf P G nn fs)) (fun _ _ => none) where
 nil := fun _ _ h => WCK_nil h
 norm := fun _ _ _ _ _ _ hs h => fun T w hR => h T w (hR.norm hs)
 normW := fun _ _ _ _ _ _ _ hs h => fun T w hR => h T w (hR.norm hs)
 step := fun K o l st h kn k hw hkn hg hk => by
  unfold stepC at hg
  split at hg
  ·rename_i d hd
   split at hg
   ·rename_i hdn
    obtain ⟨orc, ps, h', kn', hp, hkn', hg⟩ := askTr_sound (orc := []) (ps := []) _ hkn trivial hg
    unfold finC at hg
    split at hg
    ·rename_i sv ob he
     split at hg
     ·rename_i hcs
      obtain ⟨e, hg2⟩ := hg.eqp
      have hk' := hk _ _ _ hkn' hg2
      exact WCK_take hE (orc := orc) (ob := ob ++ []) (by unfold evC; rw [hw]; simp only [hd, he, hdn, hcs, evC]) (by rw [List.append_nil, e]; exact hp) hk'
     ·exact hg.no
    ·exact hg.no
   ·exact hg.no
  ·exact hg.no
 undef := fun K o l st hw h => by
  split at h
  ·rename_i d hd
   refine WCK_take hE (orc := []) (ob := []) (st' := st.put d .undef) ?_ trivial h.2
   unfold evC
   rw [hw]
   simp only [hd, show Nat.blt d (envOf P G nn fs).n = true from h.1, evC]
  ·rename_i hd
   refine WCK_take hE (orc := []) (ob := []) (st' := st) ?_ trivial h
   unfold evC
   rw [hw]
   simp only [hd, evC]
 mu := fun _ _ _ _ _ hu _ => by cases hu
 join := fun _ n _ _ _ F S hy hx => WCK_join F S n hy fun K h => hx K h
 seg := fun _ _ _ _ _ hs _ => by cases hs
theorem runF_sound {fs : List (PF P G)} {nn : Nat} (hE : EnvOK (envOf P G nn fs) cx) {r : R} {o : Oper} {d : Nat} {orc : List TV} {ps : List Prop} {C2 : List Nat} {K : KT P G R} (hl : isLd o = true) (hp : allP ps) (hK : ∀ st' h' kn', KnOK kn' -> Gd (K st' h' kn') r -> N cx Q .normal st') :
  ∀ (C1 : List Nat) {st : St} {h : Hi P G R} {kn : List KN}, KnOK kn -> Gd (runF fs (envOf P G nn fs) ops o d orc ps C2 K C1 st h kn) r -> ∀ T w, Ev.R cx st T w -> flt cx.P ops (OnlyN Q) o d C2 C1 ⟨T, []⟩ w := by
 intro C1
 induction C1 with
 | nil =>
  intro st h kn hkn hg T w hR
  unfold runF runLs at hg
  unfold flt
  refine runX_sound (RX_L hE r) 5000 (i := OnlyN Q) ?_ hkn hg T w hR
  exact fun st' h' kn' hkn' hg' T w hR => ⟨rfl, hK _ _ _ hkn' hg' T w hR⟩
 | cons c C1 ih =>
  intro st h kn hkn hg T w hR
  unfold runF at hg
  split at hg
  case h_2 => exact hg.no
  rename_i oc hc
  split at hg
  case h_2 => exact hg.no
  rename_i hw
  refine flt_cons hc (stepO_sound (ops := ops) (l := []) (Q := FlQ cx ops o d C2 C1 Q) hE hw hkn hg fun st' h' kn' hkn' hg' => ?_) hR
  split at hg'
  case h_2 => exact hg'.no
  rename_i pr sv hev hs
  split at hg'
  case h_2 => exact hg'.no
  rename_i hd
  obtain ⟨e1, hg2⟩ := hg'.eqs
  obtain ⟨e2, hg3⟩ := hg2.eqp
  have e1 := Option.some.inj e1
  simp only [St.mk.injEq, List.cons.injEq, Prod.mk.injEq, and_true, true_and] at e1
  subst e1
  exact WL_nil fun T' w' hR' => ⟨rfl, redo hE hR' hl hev (e2 ▸ hp) hs hd, ih hkn' hg3 T' w' hR'⟩
theorem runE_sound {fs : List (PF P G)} {nn : Nat} (hE : EnvOK (envOf P G nn fs) cx) {r : R} {K : KT P G R} {w0 : World} (hK : ∀ st' h' kn', KnOK kn' -> Gd (K st' h' kn') r -> N cx Q .normal st') :
  ∀ (C : List Nat) {st : St} {h : Hi P G R} {kn : List KN}, KnOK kn -> Gd (runE fs (envOf P G nn fs) ops K C st h kn) r -> ∀ T w, Ev.R cx st T w -> Ext w0 w -> wpListH cx.P ops (OnlyN Q) (Ext w0) (pickO ops C) ⟨T, []⟩ w := by
 intro C
 induction C with
 | nil =>
  intro st h kn hkn hg T w hR he
  exact ⟨rfl, hK _ _ _ hkn hg T w hR⟩
 | cons c C ih =>
  intro st h kn hkn hg
  unfold runE at hg
  split at hg
  case h_2 => exact hg.no
  rename_i o hc
  split at hg
  case h_2 => exact hg.no
  rename_i d hw hd
  split at hg
  case h_2 => exact hg.no
  rename_i hdn
  obtain ⟨orc, ps, h', kn', hp, hkn', hg⟩ := askTr_sound (orc := []) (ps := []) _ hkn trivial hg
  dsimp only at hg
  split at hg
  case h_2 => exact hg.no
  rename_i sv orc' ob hev
  obtain ⟨e, hg2⟩ := hg.eqp
  unfold pickO
  rw [hc]
  exact heldH_cons hE hw hd hdn hev (e ▸ hp) (ih hkn' hg2)
theorem W_tailK {id : Nat} {l : List Oper} (n : Nat) (hm : cx.P.follows .mixedOrders = true) (hB : Region.lexTailB .any l.toArray n = true)
  (h : WDK cx l.toArray (fun w a => ∀ w', Ext w w' -> wpList cx.P l.toArray Q (l.drop n) a w') (l.take n) st) : W cx Q (.region id l.toArray true) st := by
 intro T w hR
 exact wp_region_quiet_tail (C := Ext w) n hm hB (Ext.refl w).drew (h T w hR)
theorem preR_sound {h : Hi P G R} {s : St} {e : Exit} (hs : preR h st = some s) (hN : N cx Q e s) : N cx Q e st := by
 unfold preR at hs
 split at hs
 ·exact N_renI _ _ _ _ hs hN
 ·cases hs; exact hN
theorem ends_sound {r : R} {a : St -> Tr R} {K : KC P G R} {Q' : Act -> World -> Prop} (ha : ∀ st, Gd (a st) r -> N cx (Exit.then Q' Q) .normal st) (hK : ∀ e st h kn, KnOK kn -> Gd (K e st h kn) r -> N cx Q e st) :
  ∀ e st h kn, KnOK kn -> Gd (ends a K e st h kn) r -> N cx (Exit.then Q' Q) e st := by
 intro e st h kn hkn hg
 cases e with
 | normal =>
  unfold ends at hg
  dsimp only at hg
  split at hg
  ·rename_i s hs
   exact preR_sound hs (ha s hg)
  ·exact hg.no
 | _ => exact hK _ st h kn hkn hg
/-! Regions gone through in any order. -/
theorem lookLA_mem {las : List (Nat × LA P G)} {n : Nat} {v : LA P G} (h : lookLA las n = some v) : ∃ k, (k, v) ∈ las := by
 induction las with
 | nil => cases h
 | cons p r ih =>
  obtain ⟨k, u⟩ := p
  unfold lookLA at h
  cases hb : Nat.beq k n with
  | true => rw [hb] at h; cases h; exact ⟨k, List.mem_cons_self⟩
  | false =>
   rw [hb] at h
   obtain ⟨k', hk⟩ := ih h
   exact ⟨k', List.mem_cons_of_mem _ hk⟩
theorem latFin_sound {r : R} {o : Oper} {K : St -> Hi P G R -> List KN -> LA P G -> Tr R} {q : Qs} {h : Hi P G R} {kn : List KN} {orc : List TV} (hkn : KnOK kn) (hg : Gd (askTr q h kn orc [] (latFin E st o K)) r) :
  ∃ st' h' kn' la, KnOK kn' /\ LAOK la /\ Gd (K st' h' kn' la) r := by
 obtain ⟨orc, ps, h', kn', hp, hkn', hg⟩ := askTr_sound (ps := []) _ hkn trivial hg
 unfold latFin at hg
 split at hg
 ·exact ⟨_, _, _, .o orc ps, hkn', hp, hg⟩
 ·exact hg.no
theorem frz_sound {s : St} {z : Option Nat} (h : frz st z = some s) (hs : WL cx ops Q l s) : WL cx ops Q l st := by
 unfold frz at h
 split at h
 ·cases h; exact hs
 ·split at h
  ·rename_i c hc
   cases h
   rintro T w ⟨m, hm⟩
   exact hs T w ⟨m, hm.freeze (look_mem hc)⟩
  ·cases h
theorem latCB_sound {r : R} {o : Oper} {z : Option Nat} {h : Hi P G R} {kn : List KN} {K : St -> Hi P G R -> List KN -> LA P G -> Tr R} (hkn : KnOK kn) (hg : Gd (latCB E st o z h kn K) r) :
  ∃ st' h' kn' la, KnOK kn' /\ LAOK la /\ Gd (K st' h' kn' la) r := by
 unfold latCB at hg
 split at hg
 ·rename_i α β B ρ ρ' hf
  split at hg
  ·split at hg
   ·split at hg
    ·obtain ⟨_, hg2⟩ := hg.eqs
     obtain ⟨y, h1, hg3⟩ := hg2.ask
     split at hg3
     ·exact ⟨_, _, _, .b z B ρ ρ' _ y, hkn, h1, hg3⟩
     ·exact hg3.no
    ·exact hg.no
   ·exact hg.no
  ·exact hg.no
 ·exact hg.no
theorem latOne_sound {fs : List (PF P G)} {r : R} {o : Oper} {h : Hi P G R} {kn : List KN} {K : St -> Hi P G R -> List KN -> LA P G -> Tr R} (hkn : KnOK kn) (hg : Gd (latOne fs E st o h kn K) r) :
  ∃ st' h' kn' la, KnOK kn' /\ LAOK la /\ Gd (K st' h' kn' la) r := by
 unfold latOne at hg
 split at hg
 ·exact latCB_sound hkn hg
 ·exact latCB_sound hkn hg
 ·split at hg
  ·split at hg
   ·exact latFin_sound hkn hg
   ·exact latFin_sound hkn hg
  ·split at hg
   ·split at hg
    ·exact latFin_sound hkn hg
    ·exact latFin_sound hkn hg
   ·exact latFin_sound hkn hg
theorem latRun_sound {fs : List (PF P G)} {r : R} {K : Hi P G R -> List KN -> List (Nat × LA P G) -> Tr R} : ∀ (is : List Nat) {st : St} {h : Hi P G R} {kn : List KN} {las : List (Nat × LA P G)}, KnOK kn -> (∀ p ∈ las, LAOK p.2) ->
  Gd (latRun fs E ops is st h kn las K) r -> ∃ h' kn' las', KnOK kn' /\ (∀ p ∈ las', LAOK p.2) /\ Gd (K h' kn' las') r
 | [], st, h, kn, las, hkn, hla, hg => ⟨h, kn, las, hkn, hla, hg⟩
 | i :: is, st, h, kn, las, hkn, hla, hg => by
  unfold latRun at hg
  split at hg
  ·obtain ⟨st', h', kn', la, hkn', hl, hg⟩ := latOne_sound hkn hg
   refine latRun_sound is hkn' (fun p hp => ?_) hg
   rcases List.mem_cons.1 hp with rfl | hp
   ·exact hl
   ·exact hla p hp
  ·exact hg.no
theorem latChk_sound {fs : List (PF P G)} {nn : Nat} (hE : EnvOK (envOf P G nn fs) cx) {r : R} {s t : St} {o : Oper} {rest : Tr R} {la : LA P G} (hl : LAOK la) (hgd : o.guard = none) (hg : Gd (latChk (envOf P G nn fs) s o t rest la) r) : Leads cx ops o s t /\ Gd rest r := by
 unfold latChk at hg
 split at hg
 ·split at hg
  ·rename_i s' ob he
   obtain ⟨e1, hg⟩ := hg.eqs
   obtain ⟨e2, hg⟩ := hg.eqp
   exact ⟨fun Q hN => WL_one hE (wantSV_none hgd) he (e2 ▸ hl) (WL_nil (hN.norm e1)), hg⟩
  ·exact hg.no
 ·rename_i z α β B ρ ρ' x y
  split at hg
  ·rename_i s2 hz
   split at hg
   ·rename_i S0 s' h1 h2
    obtain ⟨e0, hg⟩ := hg.eqs
    obtain ⟨e1, hg⟩ := hg.eqs
    exact ⟨fun Q hN => frz_sound hz (WL_callB0 hE B.ok x y (B.rel x y hl) rfl (wantSV_none hgd) (h1.trans e0) h2 (WL_nil (hN.norm e1))), hg⟩
   ·exact hg.no
  ·exact hg.no
theorem latAll_sound {fs : List (PF P G)} {nn : Nat} (hE : EnvOK (envOf P G nn fs) cx) {r : R} {las : List (Nat × LA P G)} {st : St} {rest : Tr R} (hla : ∀ p ∈ las, LAOK p.2) : ∀ (l : List (List Nat × Nat)), Gd (latAll (envOf P G nn fs) ops las st l rest) r ->
  (∀ p ∈ l, ∃ o s s', ops[p.2]? = some o /\ latS (envOf P G nn fs) ops las st p.1 = some s /\ latS (envOf P G nn fs) ops las st (insD p.2 p.1) = some s' /\ Leads cx ops o s s') /\ Gd rest r
 | [], hg => ⟨fun p hp => (by cases hp), hg⟩
 | (D, i) :: l, hg => by
  unfold latAll at hg
  split at hg
  ·rename_i s t o la h1 h2 h3 h4
   split at hg
   ·rename_i hgd
    obtain ⟨k, hk⟩ := lookLA_mem h4
    obtain ⟨hl, hg⟩ := latChk_sound (ops := ops) hE (hla _ hk) hgd hg
    obtain ⟨i1, i2⟩ := latAll_sound hE hla l hg
    refine ⟨fun p hp => ?_, i2⟩
    rcases List.mem_cons.1 hp with rfl | hp
    ·exact ⟨o, s, t, h3, h1, h2, hl⟩
    ·exact i1 p hp
   ·exact hg.no
  ·exact hg.no
theorem latT_sound {fs : List (PF P G)} {nn : Nat} (hE : EnvOK (envOf P G nn fs) cx) {r : R} {id : Nat} {ds : List (List Nat)} {h : Hi P G R} {kn : List KN} {K : KT P G R} {Q : Post}
  (hK : ∀ st' h' kn', KnOK kn' -> Gd (K st' h' kn') r -> N cx Q .normal st') (hkn : KnOK kn) (hg : Gd (latT fs (envOf P G nn fs) ops ds st h kn K) r) : W cx Q (.region id ops true) st := by
 unfold latT at hg
 split at hg
 ·rename_i hm hB
  obtain ⟨h', kn', las, hkn', hla, hg⟩ := latRun_sound _ hkn (fun p hp => (by cases hp)) hg
  split at hg
  ·rename_i t ht
   obtain ⟨h1, h2⟩ := latAll_sound (cx := cx) hE hla _ hg
   refine W_latS (by rw [hE.P]; exact hm) hB (S := latS (envOf P G nn fs) ops las st) (fun D hD i hi => ?_) rfl fun s hs => ?_
   ·exact h1 (D, i) (List.mem_flatMap.2 ⟨D, hD, List.mem_map.2 ⟨i, hi, rfl⟩⟩)
   ·rw [ht] at hs
    cases hs
    exact hK _ _ _ hkn' h2
  ·exact hg.no
 ·exact hg.no
theorem runR_sound {fs : List (PF P G)} {nn : Nat} (hE : EnvOK (envOf P G nn fs) cx) {r : R} {id : Nat} {ops : Array Oper} {draw : Bool} {st : St} {h : Hi P G R} {kn : List KN} {K : KC P G R} {Q : Post}
  (hK : ∀ e st' h' kn', KnOK kn' -> Gd (K e st' h' kn') r -> N cx Q e st') (hkn : KnOK kn) (hg : Gd (runR fs (envOf P G nn fs) ops draw st h kn K) r) : W cx Q (.region id ops draw) st := by
 obtain ⟨l⟩ := ops
 unfold runR at hg
 have hK' : ∀ st' h' kn', KnOK kn' -> Gd (K .normal st' h' kn') r -> N cx Q .normal st' := fun _ _ _ => hK _ _ _ _
 split at hg
 ·exact W_region (runX_sound (RX_L hE r) 5000 (i := Q) hK' hkn hg)
 ·split at hg
  ·rename_i m h'
   split at hg
   ·rename_i hm hB
    refine W_tailK m (by rw [hE.P]; exact hm) hB ?_
    refine runX_sound (RX_D hE r) 5000 (i := fun w a => ∀ w', Ext w w' -> wpList cx.P l.toArray Q (l.drop m) a w') ?_ hkn hg
    intro st' h' kn' hkn' hg' T w hR w' he
    exact runX_sound (RX_L hE r) 5000 (i := Q) hK' hkn' hg' T w' (hR.ext he)
   ·exact hg.no
  ·rename_i a b c h'
   split at hg
   ·rename_i hm hB hn
    refine W_mixK (Q := Q) a b c (by rw [hE.P]; exact hm) hB (Nat.eq_of_beq_eq_true hn) ?_
    refine runX_sound (RX_C hE r) 5000 (i := fun w a' => wpQuiet cx.P l.toArray (Ext w) (fun a' => ∀ w', Ext w w' -> wpList cx.P l.toArray (OnlyN Q) (pickO l.toArray c) a' w') (pickO l.toArray b) a') ?_ hkn hg
    intro st' h' kn' hkn' hg' T w hR
    refine runX_sound (RX_D hE r) 5000 (i := fun w a' => ∀ w', Ext w w' -> wpList cx.P l.toArray (OnlyN Q) (pickO l.toArray c) a' w') ?_ hkn' hg' T w hR
    intro st' h' kn' hkn' hg' T w hR w' he
    refine runX_sound (RX_L hE r) 5000 (i := OnlyN Q) ?_ hkn' hg' T w' (hR.ext he)
    intro st' h' kn' hkn' hg' T w hR
    exact ⟨rfl, hK' _ _ _ hkn' hg' T w hR⟩
   ·exact hg.no
  ·rename_i a b i c c2 h'
   split at hg
   case h_2 => exact hg.no
   rename_i o hi
   split at hg
   case h_2 => exact hg.no
   rename_i d hd hgd hx hm hB
   rw [hd] at hx
   simp only [Bool.and_eq_true, Bool.not_eq_true', Option.getD_some] at hx
   obtain ⟨hl, hlk, hdn, hn⟩ := hx
   refine W_floatK (Q := Q) hE a b i c c2 hm hB (Nat.eq_of_beq_eq_true hn) hi hd hgd hlk hdn ?_
   refine runX_sound (RX_C hE r) 5000 (i := fun w a' => wpQuiet cx.P l.toArray (Ext w) (fun a' => ∀ w', Ext w w' -> d < a'.tmps.size /\ ∃ v, (execOp a'.eval o).run cx.P w' = .ok (.value v) w' /\ flt cx.P l.toArray (OnlyN Q) o d c2 c (a'.put o.dst v) w') (pickO l.toArray b) a') ?_ hkn hg
   intro st' h' kn' hkn' hg' T w hR
   refine runX_sound (RX_D hE r) 5000 (i := fun w a' => ∀ w', Ext w w' -> d < a'.tmps.size /\ ∃ v, (execOp a'.eval o).run cx.P w' = .ok (.value v) w' /\ flt cx.P l.toArray (OnlyN Q) o d c2 c (a'.put o.dst v) w') ?_ hkn' hg' T w hR
   intro st' h' kn' hkn' hg' T w hR w' he
   unfold askF at hg'
   obtain ⟨orc, ps, h', kn', hp, hkn', hg'⟩ := askTr_sound (orc := []) (ps := []) _ hkn' trivial hg'
   dsimp only at hg'
   split at hg'
   case h_2 => exact hg'.no
   rename_i pr hev
   obtain ⟨e, hg'⟩ := hg'.eqp
   have hdn' : d < cx.n := by rw [hE.n]; exact blt_true hdn
   obtain ⟨m, hm2⟩ := hR.ext he
   obtain ⟨v, h5, h6⟩ := ld_run hE hm2 hl hev (e ▸ hp)
   refine ⟨by rw [hm2.size]; exact hdn', v, h5 w' (Ext.refl w'), ?_⟩
   rw [hd]
   exact runF_sound hE hl hp hK' c hkn' hg' _ _ ⟨m, hm2.put hdn' h6⟩
  ·rename_i a b c2 c3 c4 c5 c6 h'
   split at hg
   case h_2 => exact hg.no
   rename_i C hm hB hn hC
   refine W_cntK (Q := Q) hE a b c2 c3 c4 c5 c6 hm hB (Nat.eq_of_beq_eq_true hn) hC ?_
   refine runX_sound (RX_C hE r) 5000 (i := fun w a' => wpQuiet cx.P l.toArray (Ext w) (fun a' => ∀ w', Ext w w' -> ∃ v2 v3 v4 v5 w1 w2, CnFacts cx.P (OnlyN Q) C a' w' v2 v3 v4 v5 w1 w2) (pickO l.toArray b) a') ?_ hkn hg
   intro st' h' kn' hkn' hg' T w hR
   refine runX_sound (RX_D hE r) 5000 (i := fun w a' => ∀ w', Ext w w' -> ∃ v2 v3 v4 v5 w1 w2, CnFacts cx.P (OnlyN Q) C a' w' v2 v3 v4 v5 w1 w2) ?_ hkn' hg' T w hR
   intro st' h' kn' hkn' hg' T w hR w' he
   split at hg'
   case h_2 => exact hg'.no
   rename_i st2 hev
   obtain ⟨m, hm2⟩ := hR.ext he
   obtain ⟨v2, v3, v4, v5, w1, w2, F⟩ := cnt_sound hE hm2 hev
   exact ⟨v2, v3, v4, v5, w1, w2, F (hK' _ _ _ hkn' hg')⟩
  ·rename_i a b c d h'
   split at hg
   case h_2 => exact hg.no
   rename_i hm hB hn
   refine W_mdK (Q := Q) a b c d (by rw [hE.P]; exact hm) hB (Nat.eq_of_beq_eq_true hn) ?_
   refine runX_sound (RX_C hE r) 5000 (i := fun w a' => wpQuiet cx.P l.toArray (Ext w) (fun a' => ∀ w', Ext w w' -> wpList cx.P l.toArray (MdQ cx l.toArray d Q) (pickO l.toArray c) a' w') (pickO l.toArray b) a') ?_ hkn hg
   intro st' h' kn' hkn' hg' T w hR
   refine runX_sound (RX_D hE r) 5000 (i := fun w a' => ∀ w', Ext w w' -> wpList cx.P l.toArray (MdQ cx l.toArray d Q) (pickO l.toArray c) a' w') ?_ hkn' hg' T w hR
   intro st' h' kn' hkn' hg' T w hR w' he
   refine runX_sound (RX_L hE r) 5000 (i := MdQ cx l.toArray d Q) ?_ hkn' hg' T w' (hR.ext he)
   intro st' h' kn' hkn' hg' T w hR
   refine ⟨rfl, ?_⟩
   refine runX_sound (RX_D hE r) 5000 (i := fun w a => ∀ w', Ext w w' -> OnlyN Q .normal a w') ?_ hkn' hg' T w hR
   intro st' h' kn' hkn' hg' T w hR w' he
   exact ⟨rfl, hK' _ _ _ hkn' hg' T w' (hR.ext he)⟩
  ·rename_i b c h'
   split at hg
   case h_2 => exact hg.no
   rename_i hm hB hn
   refine W_heldK (Q := Q) b c (by rw [hE.P]; exact hm) hB (Nat.eq_of_beq_eq_true hn) ?_
   refine runX_sound (RX_D hE r) 5000 (i := fun w a' => ∀ w', Ext w w' -> wpListH cx.P l.toArray (OnlyN Q) (Ext w) (pickO l.toArray c) a' w') ?_ hkn hg
   intro st' h' kn' hkn' hg' T w hR w' he
   exact runE_sound hE hK' c hkn' hg' T w' (hR.ext he) he
  ·rename_i ds h'
   exact latT_sound hE hK' hkn hg
  ·split at hg
   ·rename_i hm hB
    refine W_draw hE hm hB ?_
    refine runX_sound (RX_D hE r) 5000 (i := fun w a => ∀ w', Ext w w' -> Q .normal a w') ?_ hkn hg
    intro st' h' kn' hkn' hg' T w hR w' he
    exact hK' _ _ _ hkn' hg' T w' (hR.ext he)
   ·exact hg.no
theorem run_sound {fs : List (PF P G)} {nn : Nat} (hE : EnvOK (envOf P G nn fs) cx) {r : R} : ∀ (c : Code) {st : St} {h : Hi P G R} {kn : List KN} {K : KC P G R} {Q : Post},
  (∀ e st' h' kn', KnOK kn' -> Gd (K e st' h' kn') r -> N cx Q e st') -> KnOK kn -> Gd (run fs (envOf P G nn fs) c st h kn K) r -> W cx Q c st := by
 intro c
 induction c with
 | skip => intro st h kn K Q hK hkn hg; exact W_skip (hK _ _ _ _ hkn hg)
 | exit id => intro st h kn K Q hK hkn hg; exact W_exit (hK _ _ _ _ hkn hg)
 | ret => intro st h kn K Q hK hkn hg; exact W_ret (hK _ _ _ _ hkn hg)
 | block id c ih =>
  intro st h kn K Q hK hkn hg
  refine W_block (ih ?_ hkn hg)
  intro e st' h' kn' hkn' hg'
  split at hg'
  ·exact N_block (hK _ _ _ _ hkn' hg')
  ·exact N_block_ret (hK _ _ _ _ hkn' hg')
  ·rename_i i
   split at hg'
   ·rename_i hi
    have hi := Nat.eq_of_beq_eq_true hi
    subst hi
    exact N_block_exit (hK _ _ _ _ hkn' hg')
   ·rename_i hi
    exact N_block_out hi (hK _ _ _ _ hkn' hg')
  ·exact hg'.no
 | seq x y ihx ihy =>
  intro st h kn K Q hK hkn hg
  unfold run at hg
  split at hg
  ·rename_i hs S J hx hy
   obtain ⟨hb, hg2⟩ := hg.lab
   refine W_join (α := HT hs) (fun z => J z = some r) (S st) (fun z hz => ihy hK KnOK.nil (hb z hz)) fun hN => ?_
   refine ihx (ends_sound (fun st' hg' => ?_) hK) hkn hg2
   obtain ⟨z, k1, k2⟩ := arrive_sound hg'
   exact (hN z k2).norm k1
  ·refine W_seq (ihx ?_ hkn hg)
   intro e st' h' kn' hkn' hg'
   cases e with
   | normal => exact N_then (ihy hK hkn' hg')
   | _ => exact hK _ st' h' kn' hkn' hg'
 | cond c x y ihx ihy =>
  intro st h kn K Q hK hkn hg
  unfold run at hg
  split at hg
  ·rename_i b hc
   split at hg
   ·obtain ⟨e, hg2⟩ := hg.eqb
    exact W_cond hc (fun _ => ihx hK hkn hg2) fun h => by rw [e] at h; cases h
   ·obtain ⟨e, hg2⟩ := hg.eqb
    exact W_cond hc (fun h => by rw [e] at h; cases h) fun _ => ihy hK hkn hg2
   ·rcases hg.ite with ⟨e, hg2⟩ | ⟨e, hg2⟩
    ·exact W_cond hc (fun _ => ihx hK hkn hg2) fun h => by rw [e] at h; cases h
    ·exact W_cond hc (fun h => by rw [e] at h; cases h) fun _ => ihy hK hkn hg2
  ·exact hg.no
 | loop c ih =>
  intro st h kn K Q hK hkn hg
  unfold run at hg
  split at hg
  ·rename_i hs S F k hb
   split at hg
   ·rename_i z0 hz0
    obtain ⟨h0, h1, hg2⟩ := hg.lop
    obtain ⟨e, hg3⟩ := hg2.eqs
    refine W.norm (W_loop (fun n z => F n z = some r) (S st) ?_ hg3.den) e
    intro n z hz
    cases n with
    | zero => rw [h0] at hz; cases hz
    | succ n =>
     refine ih (ends_sound (fun st' hg' => ?_) hK) KnOK.nil (h1 n z hz)
     obtain ⟨z', k1, k2⟩ := arrive_sound hg'
     exact (N_round (F := fun n z => F n z = some r) z' (Nat.lt_succ_self n) k2).norm k1
   ·exact hg.no
  ·exact hg.no
 | region id ops draw =>
  intro st h kn K Q hK hkn hg
  unfold run at hg
  split at hg
  ·rename_i r0 h'
   split at hg
   ·rename_i c hc
    rintro T w ⟨m, hm⟩
    exact runR_sound hE hK hkn hg T w ⟨m, hm.freeze (look_mem hc)⟩
   ·exact hg.no
  ·split at hg
   ·rename_i st' hs
    exact W.norm (runR_sound hE hK hkn hg) hs
   ·exact hg.no
  ·exact runR_sound hE hK hkn hg
 | _ => intro st h kn K Q hK hkn hg; exact hg.no
def cK {α : Type} (b : Bool) (o : Option α) : Option α := bif b then o else none
theorem cK_some {α : Type} {b : Bool} {o : Option α} {y : α} (h : cK b o = some y) : b = true /\ o = some y := by
 cases b with
 | true => exact ⟨rfl, h⟩
 | false => cases h
/-! Contracts. -/
def endC (P0 : Program) (rv : List ResultVar) (cod : List Ty) : KC P G (PE cod) := fun e st _ _ =>
 match e with
 | .ret => match evRes P0 (freezeAll st) rv with
  | some rs => .ret (castL cod rs)
  | none => .ret none
 | .normal => match evRes P0 (freezeAll st) rv with
  | some rs => .ret (castL cod rs)
  | none => .ret none
 | _ => .ret none
def bodyT (P : Program) (G : World -> Prop) (n : Nat) (fs : List (PF P G)) (c : Code) (rv : List ResultVar) (F : FnF) (h : PE F.dom -> Hi P G (PE F.cod)) (x : PE F.dom) : Tr (PE F.cod) :=
 run fs (envOf P G n fs) c ⟨argSl 0 (splitTV F.dom x), [], []⟩ (h x) [] (endC P rv F.cod)
theorem rel_of {F : FnF} {as0 rs : List TV} (h : F.toC.rel as0 rs) : ∃ x y, as0 = splitTV F.dom x /\ rs = splitTV F.cod y /\ F.fn x = some y := by
 have h : (match castL F.dom as0, castL F.cod rs with
  | some x, some y => F.fn x = some y
  | _, _ => False) := h
 split at h
 ·rename_i x y hx hy
  exact ⟨x, y, split_castL _ _ _ hx, split_castL _ _ _ hy, h⟩
 ·exact h.elim
theorem mkC {P : Program} {G : World -> Prop} (hst : ∀ w w', Frame w w' (fun _ => False) -> G w -> G w') {f : FuncId} {fn : Func} {c : Code} (hf : P.funcs[f]? = some fn) (hname : (fn.name == "runtime.NumGoroutine") = false) (hb : fn.body = some c)
  {n : Nat} (hn : fn.ntmps = n) (F : FnF) (hd : Nat.ble F.dom.length n = true) (fs : List (PF P G)) (h : PE F.dom -> Hi P G (PE F.cod))
  (hc : (fun x => ((bodyT P G n fs c fn.results.toList F h x).lft, (bodyT P G n fs c fn.results.toList F h x).den)) = fun x => ((bodyT P G n fs c fn.results.toList F h x).rgt, F.fn x)) : Contract P G f F.toC := by
 refine contract_of hst hf hname hb ?_ ?_
 ·intro as0 rs h
  obtain ⟨x, y, rfl, rfl, _⟩ := rel_of h
  refine ⟨by rw [split_len, hn]; exact Nat.le_of_ble_eq_true hd, split_len _ _, fun hfl u hu => ?_⟩
  exact List.all_eq_true.1 hfl _ (split_ty _ _ u hu)
 ·intro w0 M as0 rs hG h
  obtain ⟨x, y, rfl, rfl, hxy⟩ := rel_of h
  have hE : EnvOK (envOf P G n fs) ⟨P, fn.ntmps, w0, M, fun _ => False, fun _ => undef⟩ := envOf_ok rfl hn hG
  have hx := congrFun hc x
  simp only [Prod.mk.injEq] at hx
  refine run_sound hE c (r := y) ?_ KnOK.nil ⟨Tr.ok_of _ hx.1, hx.2.trans hxy⟩
  intro e st' h' kn' _ hg
  have key : ∀ e', (e' = .ret \/ e' = .normal) -> Gd (match evRes P (freezeAll st') fn.results.toList with
    | some rs => Tr.ret (castL F.cod rs)
    | none => .ret none) y -> N ⟨P, fn.ntmps, w0, M, fun _ => False, fun _ => undef⟩ (Owes P fn M w0 (splitTV F.cod y)) e' st' := by
   intro e' he hg
   split at hg
   ·rename_i rs hrs
    exact N_end he (by rw [hrs, split_castL _ _ _ hg.den])
   ·exact hg.no
  cases e with
  | ret => exact key _ (.inl rfl) hg
  | normal => exact key _ (.inr rfl) hg
  | _ => exact hg.no
theorem mkCc {P : Program} {G : World -> Prop} (hst : ∀ w w', Frame w w' (fun _ => False) -> G w -> G w') {f : FuncId} {fn : Func} {c : Code} (hf : P.funcs[f]? = some fn) (hname : (fn.name == "runtime.NumGoroutine") = false) (hb : fn.body = some c)
  {n : Nat} (hn : fn.ntmps = n) (F : FnF) (hd : Nat.ble F.dom.length n = true) (fs : List (PF P G)) (dom' : List Ty) (inj : PE dom' -> PE F.dom) (fn' : PE dom' -> Option (PE F.cod)) (hinj : ∀ z y, F.fn z = some y -> ∃ x, inj x = z /\ fn' x = some y) (h : PE dom' -> Hi P G (PE F.cod))
  (hc : (fun x => ((bodyT P G n fs c fn.results.toList F (fun _ => h x) (inj x)).lft, (bodyT P G n fs c fn.results.toList F (fun _ => h x) (inj x)).den)) = fun x => ((bodyT P G n fs c fn.results.toList F (fun _ => h x) (inj x)).rgt, fn' x)) : Contract P G f F.toC := by
 refine contract_of hst hf hname hb ?_ ?_
 ·intro as0 rs h
  obtain ⟨x, y, rfl, rfl, _⟩ := rel_of h
  refine ⟨by rw [split_len, hn]; exact Nat.le_of_ble_eq_true hd, split_len _ _, fun hfl u hu => ?_⟩
  exact List.all_eq_true.1 hfl _ (split_ty _ _ u hu)
 ·intro w0 M as0 rs hG h1
  obtain ⟨z, y, rfl, rfl, hzy⟩ := rel_of h1
  obtain ⟨x, rfl, hxy⟩ := hinj z y hzy
  have hE : EnvOK (envOf P G n fs) ⟨P, fn.ntmps, w0, M, fun _ => False, fun _ => undef⟩ := envOf_ok rfl hn hG
  have hx := congrFun hc x
  simp only [Prod.mk.injEq] at hx
  refine run_sound hE c (r := y) ?_ KnOK.nil ⟨Tr.ok_of _ hx.1, hx.2.trans hxy⟩
  intro e st' h' kn' _ hg
  have key : ∀ e', (e' = .ret \/ e' = .normal) -> Gd (match evRes P (freezeAll st') fn.results.toList with
    | some rs => Tr.ret (castL F.cod rs)
    | none => .ret none) y -> N ⟨P, fn.ntmps, w0, M, fun _ => False, fun _ => undef⟩ (Owes P fn M w0 (splitTV F.cod y)) e' st' := by
   intro e' he hg
   split at hg
   ·rename_i rs hrs
    exact N_end he (by rw [hrs, split_castL _ _ _ hg.den])
   ·exact hg.no
  cases e with
  | ret => exact key _ (.inl rfl) hg
  | normal => exact key _ (.inr rfl) hg
  | _ => exact hg.no
theorem mkC0 {P : Program} {G : World -> Prop} {f : FuncId} {fn : Func} {c : Code} (hf : P.funcs[f]? = some fn) (hname : (fn.name == "runtime.NumGoroutine") = false) (hb : fn.body = some c) (F : FnF) (h : ∀ x, F.fn x = none) : Contract P G f F.toC where
 enters := enters_of hf hname hb
 shape := fun as0 rs hr => by
  obtain ⟨x, y, _, _, e⟩ := rel_of hr
  rw [h] at e
  cases e
 calls := fun w M vs as0 rs _ _ hr => by
  obtain ⟨x, y, _, _, e⟩ := rel_of hr
  rw [h] at e
  cases e
/-! Contracts of functions that change what their caller owns. -/
def argSlR : Nat -> List SV -> List (Nat × SV)
 | _, [] => []
 | k, s :: l => (k, s) :: argSlR (k + 1) l
def endB1 {α β : Type} (P0 : Program) (rv : List ResultVar) (F : FnB α β) (Y : St -> Option β) (bs rws : List Nat) (x : α) (st : St) : Tr β :=
 match evResS P0 st rv, st.norm [] bs rws with
 | some rs, some s => match Y ⟨argSlR 0 rs, s.bx, s.rw⟩ with
  | some y => .eqs (some ⟨argSlR 0 rs, s.bx, s.rw⟩) (some ⟨argSlR 0 (F.rs x y), (F.S' x y).bx, (F.S' x y).rw⟩) (.eqs (some s) (some (F.S' x y)) (.ret (some y)))
  | none => .ret none
 | _, _ => .ret none
def endB {α β : Type} (P0 : Program) (rv : List ResultVar) (F : FnB α β) (Y : St -> Option β) (bs rws : List Nat) (x : α) : KC P G β := fun e st h _ =>
 let t := match preR h st with
  | some st => endB1 P0 rv F Y bs rws x st
  | none => .ret none
 match e with
 | .ret => t
 | .normal => t
 | _ => .ret none
theorem argSlR_inj : ∀ {k : Nat} {a b : List SV}, argSlR k a = argSlR k b -> a = b
 | _, [], [], _ => rfl
 | _, [], _ :: _, h => by cases h
 | _, _ :: _, [], h => by cases h
 | k, x :: a, y :: b, h => by
  simp only [argSlR, List.cons.injEq, Prod.mk.injEq, true_and] at h
  rw [h.1, argSlR_inj h.2]
def bodyB (P : Program) (G : World -> Prop) {α β : Type} (fs : List (PF P G)) (c : Code) (rv : List ResultVar) (F : FnB α β) (Y : St -> Option β) (bs rws : List Nat) (h : α -> Hi P G β) (x : α) : Tr β :=
 run fs (envOf P G F.n fs) c (F.S x) (h x) [] (endB P rv F Y bs rws x)
theorem mkB {P : Program} {G : World -> Prop} {f : FuncId} {fn : Func} {c : Code} {α β : Type} (hf : P.funcs[f]? = some fn) (hname : (fn.name == "runtime.NumGoroutine") = false) (hb : fn.body = some c)
  (F : FnB α β) (hn : fn.ntmps = F.n) (fs : List (PF P G)) (fnn : α -> Option β) (hrel : ∀ x y, F.rel x y -> fnn x = some y) (Y : St -> Option β) (bs rws : List Nat) (h : α -> Hi P G β)
  (hc : (fun x => ((bodyB P G fs c fn.results.toList F Y bs rws h x).lft, (bodyB P G fs c fn.results.toList F Y bs rws h x).den)) = fun x => ((bodyB P G fs c fn.results.toList F Y bs rws h x).rgt, fnn x)) : BC P G f F := by
 refine bc_of hf hname hb hn ?_
 intro cx hP hn' hG x y hxy
 have hE : EnvOK (envOf P G F.n fs) cx := envOf_ok hP hn' hG
 have hx := congrFun hc x
 simp only [Prod.mk.injEq] at hx
 refine run_sound hE c (r := y) ?_ KnOK.nil ⟨Tr.ok_of _ hx.1, hx.2.trans (hrel x y hxy)⟩
 intro e st' h' kn' _ hg
 have key : ∀ e', (e' = .ret \/ e' = .normal) -> Gd (match preR h' st' with
   | some st' => endB1 P fn.results.toList F Y bs rws x st'
   | none => .ret none) y -> N cx (OwesB cx.P fn cx (F.S' x y) (F.rs x y)) e' st' := by
  intro e' he hg
  split at hg
  ·rename_i st2 hpre
   refine preR_sound hpre ?_
   unfold endB1 at hg
   split at hg
   ·rename_i rs s hrs hs
    split at hg
    ·obtain ⟨e1, hg2⟩ := hg.eqs
     obtain ⟨e2, hg3⟩ := hg2.eqs
     have e3 := Option.some.inj hg3.den
     subst e3
     have e1 := Option.some.inj e1
     simp only [St.mk.injEq] at e1
     exact N_endB hP bs rws he (by rw [hrs, argSlR_inj e1.1]) (by rw [hs, Option.some.inj e2])
    ·exact hg.no
   ·exact hg.no
  ·exact hg.no
 cases e with
 | ret => exact key _ (.inl rfl) hg
 | normal => exact key _ (.inr rfl) hg
 | _ => exact hg.no
theorem toC_shape {F : FnF} {fn : Func} {n : Nat} (hn : fn.ntmps = n) (hd : Nat.ble F.dom.length n = true) : ∀ as0 rs, F.toC.rel as0 rs -> as0.length <= fn.ntmps /\ rs.length = F.toC.nres /\ (F.toC.flat = true -> ∀ u ∈ rs, u.t.flat = true) := by
 intro as0 rs h
 obtain ⟨x, y, rfl, rfl, _⟩ := rel_of h
 exact ⟨by rw [split_len, hn]; exact Nat.le_of_ble_eq_true hd, split_len _ _, fun hfl u hu => List.all_eq_true.1 hfl _ (split_ty _ _ u hu)⟩
theorem ofC {P : Program} {G : World -> Prop} {f : Nat} {C : FnC} (h : Contract P G f C) (F : FnF) (hr : ∀ x y, F.fn x = some y -> C.rel (splitTV F.dom x) (splitTV F.cod y)) : Contract P G f F.toC where
 enters := h.enters
 shape := fun as0 rs hh => by
  obtain ⟨x, y, rfl, rfl, _⟩ := rel_of hh
  exact ⟨split_len _ _, fun hfl u hu => List.all_eq_true.1 hfl _ (split_ty _ _ u hu)⟩
 calls := fun w M vs as0 rs hG hM hh => by
  obtain ⟨x, y, rfl, rfl, e⟩ := rel_of hh
  exact h.calls w M vs _ _ hG hM (hr x y e)
theorem mkB0 {P : Program} {G : World -> Prop} {f : FuncId} {fn : Func} {c : Code} {α β : Type} (hf : P.funcs[f]? = some fn) (hname : (fn.name == "runtime.NumGoroutine") = false) (hb : fn.body = some c) (F : FnB α β) (h : ∀ x y, F.rel x y -> False) : BC P G f F where
 enters := enters_of hf hname hb
 calls := fun _ _ _ _ x y hr => (h x y hr).elim
def Un0 {γ : Type} (f : γ) : Unit -> γ := fun _ => f
def Un2 {α0 α1 γ : Type} (f : α0 -> α1 -> γ) : α0 × α1 -> γ := fun z => f z.1 z.2
def Cn2 {α0 α1 γ : Type} (g : α0 × α1 -> γ) : α0 -> α1 -> γ := fun x0 x1 => g (x0, x1)
def Un3 {α0 α1 α2 γ : Type} (f : α0 -> α1 -> α2 -> γ) : α0 × α1 × α2 -> γ := fun z => f z.1 z.2.1 z.2.2
def Cn3 {α0 α1 α2 γ : Type} (g : α0 × α1 × α2 -> γ) : α0 -> α1 -> α2 -> γ := fun x0 x1 x2 => g (x0, x1, x2)
def Un4 {α0 α1 α2 α3 γ : Type} (f : α0 -> α1 -> α2 -> α3 -> γ) : α0 × α1 × α2 × α3 -> γ := fun z => f z.1 z.2.1 z.2.2.1 z.2.2.2
def Cn4 {α0 α1 α2 α3 γ : Type} (g : α0 × α1 × α2 × α3 -> γ) : α0 -> α1 -> α2 -> α3 -> γ := fun x0 x1 x2 x3 => g (x0, x1, x2, x3)
def Un5 {α0 α1 α2 α3 α4 γ : Type} (f : α0 -> α1 -> α2 -> α3 -> α4 -> γ) : α0 × α1 × α2 × α3 × α4 -> γ := fun z => f z.1 z.2.1 z.2.2.1 z.2.2.2.1 z.2.2.2.2
def Cn5 {α0 α1 α2 α3 α4 γ : Type} (g : α0 × α1 × α2 × α3 × α4 -> γ) : α0 -> α1 -> α2 -> α3 -> α4 -> γ := fun x0 x1 x2 x3 x4 => g (x0, x1, x2, x3, x4)
def Un11 {α0 α1 α2 α3 α4 α5 α6 α7 α8 α9 α10 γ : Type} (f : α0 -> α1 -> α2 -> α3 -> α4 -> α5 -> α6 -> α7 -> α8 -> α9 -> α10 -> γ) : α0 × α1 × α2 × α3 × α4 × α5 × α6 × α7 × α8 × α9 × α10 -> γ := fun z => f z.1 z.2.1 z.2.2.1 z.2.2.2.1 z.2.2.2.2.1 z.2.2.2.2.2.1 z.2.2.2.2.2.2.1 z.2.2.2.2.2.2.2.1 z.2.2.2.2.2.2.2.2.1 z.2.2.2.2.2.2.2.2.2.1 z.2.2.2.2.2.2.2.2.2.2
def Un12 {α0 α1 α2 α3 α4 α5 α6 α7 α8 α9 α10 α11 γ : Type} (f : α0 -> α1 -> α2 -> α3 -> α4 -> α5 -> α6 -> α7 -> α8 -> α9 -> α10 -> α11 -> γ) : α0 × α1 × α2 × α3 × α4 × α5 × α6 × α7 × α8 × α9 × α10 × α11 -> γ := fun z => f z.1 z.2.1 z.2.2.1 z.2.2.2.1 z.2.2.2.2.1 z.2.2.2.2.2.1 z.2.2.2.2.2.2.1 z.2.2.2.2.2.2.2.1 z.2.2.2.2.2.2.2.2.1 z.2.2.2.2.2.2.2.2.2.1 z.2.2.2.2.2.2.2.2.2.2.1 z.2.2.2.2.2.2.2.2.2.2.2
def Cn12 {α0 α1 α2 α3 α4 α5 α6 α7 α8 α9 α10 α11 γ : Type} (g : α0 × α1 × α2 × α3 × α4 × α5 × α6 × α7 × α8 × α9 × α10 × α11 -> γ) : α0 -> α1 -> α2 -> α3 -> α4 -> α5 -> α6 -> α7 -> α8 -> α9 -> α10 -> α11 -> γ := fun x0 x1 x2 x3 x4 x5 x6 x7 x8 x9 x10 x11 => g (x0, x1, x2, x3, x4, x5, x6, x7, x8, x9, x10, x11)
def Un14 {α0 α1 α2 α3 α4 α5 α6 α7 α8 α9 α10 α11 α12 α13 γ : Type} (f : α0 -> α1 -> α2 -> α3 -> α4 -> α5 -> α6 -> α7 -> α8 -> α9 -> α10 -> α11 -> α12 -> α13 -> γ) : α0 × α1 × α2 × α3 × α4 × α5 × α6 × α7 × α8 × α9 × α10 × α11 × α12 × α13 -> γ := fun z => f z.1 z.2.1 z.2.2.1 z.2.2.2.1 z.2.2.2.2.1 z.2.2.2.2.2.1 z.2.2.2.2.2.2.1 z.2.2.2.2.2.2.2.1 z.2.2.2.2.2.2.2.2.1 z.2.2.2.2.2.2.2.2.2.1 z.2.2.2.2.2.2.2.2.2.2.1 z.2.2.2.2.2.2.2.2.2.2.2.1 z.2.2.2.2.2.2.2.2.2.2.2.2.1 z.2.2.2.2.2.2.2.2.2.2.2.2.2
def Un15 {α0 α1 α2 α3 α4 α5 α6 α7 α8 α9 α10 α11 α12 α13 α14 γ : Type} (f : α0 -> α1 -> α2 -> α3 -> α4 -> α5 -> α6 -> α7 -> α8 -> α9 -> α10 -> α11 -> α12 -> α13 -> α14 -> γ) : α0 × α1 × α2 × α3 × α4 × α5 × α6 × α7 × α8 × α9 × α10 × α11 × α12 × α13 × α14 -> γ := fun z => f z.1 z.2.1 z.2.2.1 z.2.2.2.1 z.2.2.2.2.1 z.2.2.2.2.2.1 z.2.2.2.2.2.2.1 z.2.2.2.2.2.2.2.1 z.2.2.2.2.2.2.2.2.1 z.2.2.2.2.2.2.2.2.2.1 z.2.2.2.2.2.2.2.2.2.2.1 z.2.2.2.2.2.2.2.2.2.2.2.1 z.2.2.2.2.2.2.2.2.2.2.2.2.1 z.2.2.2.2.2.2.2.2.2.2.2.2.2.1 z.2.2.2.2.2.2.2.2.2.2.2.2.2.2
def Cn15 {α0 α1 α2 α3 α4 α5 α6 α7 α8 α9 α10 α11 α12 α13 α14 γ : Type} (g : α0 × α1 × α2 × α3 × α4 × α5 × α6 × α7 × α8 × α9 × α10 × α11 × α12 × α13 × α14 -> γ) : α0 -> α1 -> α2 -> α3 -> α4 -> α5 -> α6 -> α7 -> α8 -> α9 -> α10 -> α11 -> α12 -> α13 -> α14 -> γ := fun x0 x1 x2 x3 x4 x5 x6 x7 x8 x9 x10 x11 x12 x13 x14 => g (x0, x1, x2, x3, x4, x5, x6, x7, x8, x9, x10, x11, x12, x13, x14)
def Un19 {α0 α1 α2 α3 α4 α5 α6 α7 α8 α9 α10 α11 α12 α13 α14 α15 α16 α17 α18 γ : Type} (f : α0 -> α1 -> α2 -> α3 -> α4 -> α5 -> α6 -> α7 -> α8 -> α9 -> α10 -> α11 -> α12 -> α13 -> α14 -> α15 -> α16 -> α17 -> α18 -> γ) : α0 × α1 × α2 × α3 × α4 × α5 × α6 × α7 × α8 × α9 × α10 × α11 × α12 × α13 × α14 × α15 × α16 × α17 × α18 -> γ := fun z => f z.1 z.2.1 z.2.2.1 z.2.2.2.1 z.2.2.2.2.1 z.2.2.2.2.2.1 z.2.2.2.2.2.2.1 z.2.2.2.2.2.2.2.1 z.2.2.2.2.2.2.2.2.1 z.2.2.2.2.2.2.2.2.2.1 z.2.2.2.2.2.2.2.2.2.2.1 z.2.2.2.2.2.2.2.2.2.2.2.1 z.2.2.2.2.2.2.2.2.2.2.2.2.1 z.2.2.2.2.2.2.2.2.2.2.2.2.2.1 z.2.2.2.2.2.2.2.2.2.2.2.2.2.2.1 z.2.2.2.2.2.2.2.2.2.2.2.2.2.2.2.1 z.2.2.2.2.2.2.2.2.2.2.2.2.2.2.2.2.1 z.2.2.2.2.2.2.2.2.2.2.2.2.2.2.2.2.2.1 z.2.2.2.2.2.2.2.2.2.2.2.2.2.2.2.2.2.2
def Cn19 {α0 α1 α2 α3 α4 α5 α6 α7 α8 α9 α10 α11 α12 α13 α14 α15 α16 α17 α18 γ : Type} (g : α0 × α1 × α2 × α3 × α4 × α5 × α6 × α7 × α8 × α9 × α10 × α11 × α12 × α13 × α14 × α15 × α16 × α17 × α18 -> γ) : α0 -> α1 -> α2 -> α3 -> α4 -> α5 -> α6 -> α7 -> α8 -> α9 -> α10 -> α11 -> α12 -> α13 -> α14 -> α15 -> α16 -> α17 -> α18 -> γ := fun x0 x1 x2 x3 x4 x5 x6 x7 x8 x9 x10 x11 x12 x13 x14 x15 x16 x17 x18 => g (x0, x1, x2, x3, x4, x5, x6, x7, x8, x9, x10, x11, x12, x13, x14, x15, x16, x17, x18)
end Go.Ev
namespace Go.Ev
open Go
set_option linter.unusedVariables false
def cmp_Or_int__b1 (vals1 : List (Int)) (go1 : Int -> Option Int) (t1 : Int) : Option Int :=
 if decide (t1 < (List.length vals1 : Int)) then
  (
   Option.bind (at? vals1 t1) fun x1 =>
   if x1 != (0 : Int) then
    some (x1)
   else
    go1 (wi64 (t1 + (1 : Int)))
  )
 else
  some ((0 : Int))
def cmp_Or_int__l1 (vals1 : List (Int)) : Nat -> Int -> Option Int
 | 0, _ => none
 | n + 1, t1 => cmp_Or_int__b1 vals1 (cmp_Or_int__l1 vals1 n) t1
def cmp_Or_int_ (k : Nat) (vals1 : List (Int)) : Option Int :=
 cmp_Or_int__l1 vals1 k (0 : Int)
def corr_counted_c1 (k : Nat) (p1 : (Int × Int × Unit)) (q1 : (Int × Int × Unit)) (t1 : Option yT71) (t2 : Option yT90) : Option Int :=
 Option.bind (cmp_Or_int_ k ([wi64 (((mget (eqEl yT58) (t1.getD []) (q1.1, q1.2.1, ())).getD (0 : Int)) - ((mget (eqEl yT58) (t1.getD []) (p1.1, p1.2.1, ())).getD (0 : Int))), wi64 (((mget (eqEl (.int .i32)) (t2.getD []) p1.1).getD (0 : Int)) - ((mget (eqEl (.int .i32)) (t2.getD []) q1.1).getD (0 : Int))), wi64 (((mget (eqEl (.int .i32)) (t2.getD []) p1.2.1).getD (0 : Int)) - ((mget (eqEl (.int .i32)) (t2.getD []) q1.2.1).getD (0 : Int)))] : List (Int))) fun v1 =>
 some (v1)
end Go.Ev
namespace Go.Ev
open Go Go.Proofs Go.Sort
section
variable {X : Type}
def ins (lt : X -> X -> Bool) (x : X) : List X -> List X
 | [] => [x]
 | y :: l => bif lt y x then y :: ins lt x l else x :: y :: l
def isort (lt : X -> X -> Bool) : List X -> List X
 | [] => []
 | x :: l => ins lt x (isort lt l)
def ltO (c : X -> X -> Option Int) (x y : X) : Bool := match c x y with
 | some n => decide (n < 0)
 | none => false
def good [DecidableEq X] (c : X -> X -> Option Int) (l : List X) : Bool :=
 l.all fun x => l.all fun y => (c x y).isSome && (bif decide (x = y) then !ltO c x y else (ltO c x y || ltO c y x) && !(ltO c x y && ltO c y x)) && l.all fun z => !(ltO c x y && ltO c y z) || ltO c x z
def srt [DecidableEq X] (c : X -> X -> Option Int) (l : List X) : Option (List X) := bif good c l then some (isort (ltO c) l) else none
theorem ins_perm (lt : X -> X -> Bool) (x : X) : ∀ l, (ins lt x l).Perm (x :: l)
 | [] => List.Perm.refl _
 | y :: l => by
  unfold ins
  cases lt y x with
  | true => exact ((ins_perm lt x l).cons y).trans (List.Perm.swap x y l)
  | false => exact List.Perm.refl _
theorem isort_perm (lt : X -> X -> Bool) : ∀ l, (isort lt l).Perm l
 | [] => List.Perm.refl _
 | x :: l => (ins_perm lt x _).trans ((isort_perm lt l).cons x)
structure Parts (lt : X -> X -> Bool) (S : X -> Prop) : Prop where
 irr : ∀ x, S x -> lt x x = false
 tr : ∀ x y z, S x -> S y -> S z -> lt x y = true -> lt y z = true -> lt x z = true
 tot : ∀ x y, S x -> S y -> x ≠ y -> lt x y = true \/ lt y x = true
theorem Parts.asym {lt : X -> X -> Bool} {S : X -> Prop} (h : Parts lt S) {x y : X} (hx : S x) (hy : S y) (h1 : lt x y = true) : lt y x = false := by
 cases h2 : lt y x with
 | false => rfl
 | true => have := h.tr x y x hx hy hx h1 h2; rw [h.irr x hx] at this; cases this
theorem Parts.nt {lt : X -> X -> Bool} {S : X -> Prop} (h : Parts lt S) {x y z : X} (hx : S x) (hy : S y) (hz : S z) (h1 : lt x y = false) (h2 : lt y z = false) : lt x z = false := by
 by_cases e1 : x = y
 ·rw [e1]; exact h2
 by_cases e2 : y = z
 ·rw [<- e2]; exact h1
 rcases h.tot x y hx hy e1 with h3 | h3
 ·rw [h1] at h3; cases h3
 rcases h.tot y z hy hz e2 with h4 | h4
 ·rw [h2] at h4; cases h4
 exact h.asym hz hx (h.tr z y x hz hy hx h4 h3)
theorem ins_sorted {lt : X -> X -> Bool} {S : X -> Prop} (h : Parts lt S) {x : X} (hx : S x) : ∀ {l : List X}, (∀ y ∈ l, S y) -> l.Pairwise (fun a b => lt b a = false) -> (ins lt x l).Pairwise (fun a b => lt b a = false)
 | [], _, _ => by simp [ins]
 | y :: l, hS, hp => by
  obtain ⟨h1, h2⟩ := List.pairwise_cons.1 hp
  have hy := hS y List.mem_cons_self
  have hl : ∀ z ∈ l, S z := fun z hz => hS z (List.mem_cons_of_mem _ hz)
  unfold ins
  cases hb : lt y x with
  | true =>
   refine List.pairwise_cons.2 ⟨fun z hz => ?_, ins_sorted h hx hl h2⟩
   rcases List.mem_cons.1 ((ins_perm lt x l).mem_iff.1 hz) with rfl | hz
   ·exact h.asym hy hx hb
   ·exact h1 z hz
  | false =>
   refine List.pairwise_cons.2 ⟨fun z hz => ?_, hp⟩
   rcases List.mem_cons.1 hz with rfl | hz
   ·exact hb
   ·exact h.nt (hl z hz) hy hx (h1 z hz) hb
theorem isort_sorted {lt : X -> X -> Bool} {S : X -> Prop} (h : Parts lt S) : ∀ {l : List X}, (∀ y ∈ l, S y) -> (isort lt l).Pairwise (fun a b => lt b a = false)
 | [], _ => List.Pairwise.nil
 | x :: l, hS => ins_sorted h (hS x List.mem_cons_self) (fun y hy => hS y (List.mem_cons_of_mem _ ((isort_perm lt l).mem_iff.1 hy))) (isort_sorted h fun y hy => hS y (List.mem_cons_of_mem _ hy))
theorem isort_eq {lt : X -> X -> Bool} {S : X -> Prop} (h : Parts lt S) {l m : List X} (hS : ∀ y ∈ l, S y) (hp : m.Perm l) (hs : m.Pairwise (fun a b => lt b a = false)) : m = isort lt l := by
 refine List.Perm.eq_of_pairwise (le := fun a b => lt b a = false) (fun a b ha hb h1 h2 => ?_) hs (isort_sorted h hS) (hp.trans (isort_perm lt l).symm)
 have sa := hS a (hp.mem_iff.1 ha)
 have sb := hS b ((isort_perm lt l).mem_iff.1 hb)
 refine Classical.byContradiction fun hne => ?_
 rcases h.tot a b sa sb hne with h3 | h3
 ·rw [h2] at h3; cases h3
 ·rw [h1] at h3; cases h3
theorem good_parts [DecidableEq X] {c : X -> X -> Option Int} {l : List X} (h : good c l = true) : Parts (ltO c) (· ∈ l) /\ ∀ x ∈ l, ∀ y ∈ l, ∃ n, c x y = some n := by
 have key : ∀ x ∈ l, ∀ y ∈ l, (c x y).isSome = true /\ (bif decide (x = y) then !ltO c x y else (ltO c x y || ltO c y x) && !(ltO c x y && ltO c y x)) = true /\ ∀ z ∈ l, (!(ltO c x y && ltO c y z) || ltO c x z) = true := by
  intro x hx y hy
  have := List.all_eq_true.1 (List.all_eq_true.1 h x hx) y hy
  simp only [Bool.and_eq_true, List.all_eq_true] at this
  exact ⟨this.1.1, this.1.2, this.2⟩
 refine ⟨⟨fun x hx => ?_, fun x y z hx hy hz h1 h2 => ?_, fun x y hx hy hne => ?_⟩, fun x hx y hy => Option.isSome_iff_exists.1 (key x hx y hy).1⟩
 ·have := (key x hx x hx).2.1
  simpa using this
 ·have := (key x hx y hy).2.2 z hz
  rw [h1, h2] at this
  simpa using this
 ·have := (key x hx y hy).2.1
  rw [decide_eq_false hne] at this
  simp only [cond_false, Bool.and_eq_true, Bool.or_eq_true] at this
  exact this.1
theorem Parts.swo {lt : X -> X -> Bool} {S : X -> Prop} (h : Parts lt S) {cf : {x : X // S x} -> {x : X // S x} -> Int} (hc : ∀ x y, ltOf cf x y = lt x.1 y.1) : SWO (ltOf cf) where
 irrefl x := by rw [hc]; exact h.irr _ x.2
 trans x y z := by rw [hc, hc, hc]; exact h.tr _ _ _ x.2 y.2 z.2
 ntrans x y z := by rw [hc, hc, hc]; exact h.nt x.2 y.2 z.2
theorem sortedIn_pairwise {α : Type} [Inhabited α] {lt : α -> α -> Bool} {d : Array α} (h : SortedIn lt 0 d.size d) : d.toList.Pairwise (fun a b => lt b a = false) := by
 rw [List.pairwise_iff_getElem]
 intro i j hi hj hij
 have hi' : i < d.size := by simpa using hi
 have hj' : j < d.size := by simpa using hj
 have := h i j (Nat.zero_le _) hij hj'
 rw [getElem!_pos d j hj', getElem!_pos d i hi'] at this
 simpa using this
theorem permIn_perm {α : Type} [Inhabited α] {d d' : Array α} (h : PermIn 0 d.size d d') : d'.toList.Perm d.toList /\ d'.size = d.size := by
 obtain ⟨h1, _, h2⟩ := h
 refine ⟨?_, h1⟩
 have e1 : d.extract 0 d.size = d := Array.extract_size
 have e2 : d'.extract 0 d.size = d' := by rw [<- h1]; exact Array.extract_size
 rw [e1, e2] at h2
 exact h2
end
end Go.Ev
namespace Go.Ev
open Go
def sortedPairs (k : Nat) (ps : List ((Int × Int × Unit) × Int)) (os : List (Int × Int)) : Option (List (Int × Int × Unit)) :=
 bif Nat.blt ps.length 1000000 then srt (fun x y => corr_counted_c1 k x y (some ps) (some os)) (ps.map (·.1)) else none
end Go.Ev
