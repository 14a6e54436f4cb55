/- The evaluator as one function is right. -/
import Derived.Test.YtfmcmfjcaljflaaDoorMM5
import Derived.Test.YtfmcmfjcaljflaaDoorMM4
import Derived.Test.YtfmcmfjcaljflaaDoorMM1
import Derived.Shelf.SlSortCmp.Insertion
import Derived.Sort.MapsRangeIn
import Derived.RangeFuncStops
import Derived.RangeFuncBox
import Derived.Test.YtfmcmfjcaljflaaDoorProg
import Derived.KernelRfl
import Derived.RangeFuncNested
import Derived.RangeFuncBound
import Derived.RangeFuncCalls
import Derived.RangeFuncLeaves
import Derived.Shelf.RegionOpenPlain
import Derived.WalkKit
import Derived.OwnWalkIn
import Derived.TacticsInMore
import Derived.LoopNIn
import Derived.LoopIn
import Derived.Maps.AppendAt
import Derived.Shelf.SlSortCmp.WholeK
import Derived.Shelf.SlicesE.Reverse
import Derived.Shelf.SlicesQ.Reverse
import Derived.Shelf.SlSortCmp.NoneTotal
set_option linter.unusedSectionVars false
set_option linter.unusedVariables false
set_option linter.unusedSimpArgs false
namespace Go.Ev
open Go Go.RowKit
variable [Dr]
variable {R : Type} {P : Program} {G : World → Prop}
variable {cx : Cx} {st st' : St} {T : Array Value} {w : World} {E : Env} {Q : Post} {ops : Array Oper} {l : List Oper}

theorem WL_one (hE : EnvOK E cx) {o : Oper} (hw : wantSV ops st o = some true) {orc : List TV} {ob : List Prop} (he : evO E st o orc = some (st', [], ob)) (hob : allP ob) (h : WL cx ops Q l st') : WL cx ops Q (o :: l) st := by
  refine WL_take hE 1 (orc := orc) (ob := ob ++ []) ?_ (by rw [List.append_nil]; exact hob) h
  show evL E ops [o] st orc = _
  unfold evL
  rw [hw]
  simp only [he, evL]
theorem fin_sound {r : R} {o : Oper} {k : KT P G R} {orc : List TV} {ps : List Prop} {h : Hi P G R} {kn : List KN} (hg : Gd (fin E st o k orc ps h kn) r) (hp : allP ps) :
    ∃ st' ob, evO E st o orc = some (st', [], ob) ∧ allP ob ∧ Gd (k st' h kn) r := by
  unfold fin at hg
  split at hg
  · rename_i st' ob he
    obtain ⟨e, hg2⟩ := hg.eqp
    exact ⟨st', _, he, e ▸ hp, hg2⟩
  · exact hg.no
theorem stepO1_sound {fs : List (PF P G)} {nn : Nat} (hE : EnvOK (envOf P G nn fs) cx) {r : R} {o : Oper} {h : Hi P G R} {kn : List KN} {k : KT P G R} (hw : wantSV ops st o = some true) (hkn : KnOK kn)
    (hg : Gd (stepO1 fs (envOf P G nn fs) st o h kn k) r) (hk : ∀ st' h' kn', KnOK kn' → Gd (k st' h' kn') r → WL cx ops Q l st') : WL cx ops Q (o :: l) st := by
  unfold stepO1 at hg
  split at hg
  · rename_i I h' _
    split at hg
    · rename_i r0 hen
      split at hg
      · rename_i c hc
        split at hg
        · rename_i xs hxs hce
          split at hg
          · rename_i st' hlv
            have hcc := rowC_eq (Nat.eq_of_beq_eq_true hce) hxs
            subst hcc
            exact WL_callI0 hE I.ok xs (I.fn xs) rfl r0 hw hen hc hlv (hk _ _ _ hkn hg)
          · exact hg.no
        · exact hg.no
      · exact hg.no
    · exact hg.no
  · rename_i α β B ρ ρ' hf _
    split at hg
    · rename_i S0 hen
      split at hg
      · rename_i x hx
        obtain ⟨e, hg2⟩ := hg.eqs
        obtain ⟨y, h1, hg3⟩ := hg2.ask
        split at hg3
        · rename_i st' hlv
          exact WL_callB0 hE B.ok x y (B.rel x y h1) rfl hw (hen.trans e) hlv (hk _ _ _ hkn hg3)
        · exact hg3.no
      · exact hg.no
    · exact hg.no
  · rename_i α β B i j ρ ρ' hf _
    split at hg
    · rename_i st1 hgh
      split at hg
      · rename_i S0 hen
        split at hg
        · rename_i x hx
          obtain ⟨e, hg2⟩ := hg.eqs
          obtain ⟨y, h1, hg3⟩ := hg2.ask
          split at hg3
          · rename_i st' hlv
            exact WL_callN hE B.ok x y (B.rel x y h1) rfl hgh hw (hen.trans e) hlv (hk _ _ _ hkn hg3)
          · exact hg3.no
        · exact hg.no
      · exact hg.no
    · exact hg.no
  · have last : ∀ {orc : List TV} {q : Qs} {h : Hi P G R}, Gd (askTr q h kn orc [] (fin (envOf P G nn fs) st o k)) r → WL cx ops Q (o :: l) st := fun hg => by
      obtain ⟨orc, ps, h', kn', hp, hkn', hg⟩ := askTr_sound (ps := []) _ hkn trivial hg
      obtain ⟨st', ob, he, hob, hg⟩ := fin_sound hg hp
      exact WL_one hE hw he hob (hk _ _ _ hkn' hg)
    split at hg
    · split at hg
      · exact last hg
      · exact last hg
    split at hg
    · split at hg
      · split at hg
        · rcases hg.ite with ⟨hb, hg⟩ | ⟨hb, hg⟩
          · obtain ⟨st', ob, he, hob, hg⟩ := fin_sound hg ⟨of_decide_eq_true hb, trivial⟩
            exact WL_one hE hw he hob (hk _ _ _ hkn hg)
          · obtain ⟨st', ob, he, hob, hg⟩ := fin_sound hg ⟨Nat.le_of_not_lt (of_decide_eq_false hb), trivial⟩
            exact WL_one hE hw he hob (hk _ _ _ hkn hg)
        · exact hg.no
      · exact hg.no
    · obtain ⟨orc, ps, h', kn', hp, hkn', hg⟩ := askTr_sound (orc := []) (ps := []) _ hkn trivial hg
      obtain ⟨st', ob, he, hob, hg⟩ := fin_sound hg hp
      exact WL_one hE hw he hob (hk _ _ _ hkn' hg)

theorem wantSV_none {o : Oper} (h : o.guard = none) : wantSV ops st o = some true := by unfold wantSV; rw [h]
theorem stepO_sound {fs : List (PF P G)} {nn : Nat} (hE : EnvOK (envOf P G nn fs) cx) {r : R} {o : Oper} {h : Hi P G R} {kn : List KN} {k : KT P G R} (hw : wantSV ops st o = some true) (hkn : KnOK kn)
    (hg : Gd (stepO fs (envOf P G nn fs) st o h kn k) r) (hk : ∀ st' h' kn', KnOK kn' → Gd (k st' h' kn') r → WL cx ops Q l st') : WL cx ops Q (o :: l) st := by
  unfold stepO at hg
  split at hg
  · split at hg
    · rename_i c hc hgd
      have := stepO1_sound (l := l) (ops := ops) (Q := Q) hE (wantSV_none hgd) hkn hg hk
      rintro T w ⟨m, hm⟩
      exact this T w ⟨m, hm.freeze (look_mem hc)⟩
    · exact hg.no
  · exact stepO1_sound hE hw hkn hg hk
/-- The rules by which lists of operations are gone through. -/
structure RX (cx : Cx) (ops : Array Oper) (nc : Nat) (r : R) (I : Type) (W : I → List Oper → St → Prop) (N : I → St → Prop) (mu : St → List Oper → Option (St × List Oper)) (step : StepT P G R) (seg : List Oper → St → Option (St × List TV × List Prop)) : Prop where
  nil : ∀ i st, N i st → W i [] st
  norm : ∀ i st st' ks bs rs, st.norm ks bs rs = some st' → N i st' → N i st
  normW : ∀ i l st st' ks bs rs, st.norm ks bs rs = some st' → W i l st' → W i l st
  step : ∀ i o l st h kn (k : KT P G R), wantSV ops st o = some true → KnOK kn → Gd (step st o h kn k) r → (∀ st' h' kn', KnOK kn' → Gd (k st' h' kn') r → W i l st') → W i (o :: l) st
  undef : ∀ i o l st, wantSV ops st o = some false → (match o.dst with
    | some d => Nat.blt d nc = true ∧ W i l (st.put d .undef)
    | none => W i l st) → W i (o :: l) st
  join : ∀ i n l st (A : Type) (F : A → Prop) (S : A → St), (∀ a, F a → W i (l.drop n) (S a)) → (∀ i', (∀ a, F a → N i' (S a)) → W i' (l.take n) st) → W i l st
  mu : ∀ i l st st' l', mu st l = some (st', l') → W i l' st' → W i l st
  seg : ∀ i m l st s, seg (l.take m) st = some (s, [], []) → W i (l.drop m) s → W i l st

theorem segB_some {seg : List Oper → St → Option (St × List TV × List Prop)} {l : List Oper} {st : St} {gs d : Nat} {b : Bool} {s : St} {x : Bool} (h : segB seg l st gs b d = some (s, x)) :
    ∃ s0, seg l (setB st gs b) = some (s0, [], []) ∧ s0.norm (d :: keysOf (del (delS st gs).sl d)) (keysOf st.bx) (keysOf st.rw) = some s := by
  unfold segB at h
  split at h
  · rename_i s0 h1
    split at h
    · split at h
      · rename_i s' h2
        cases h
        exact ⟨s0, h1, h2⟩
      · cases h
    · cases h
  · cases h
theorem arrive_sound {r : R} {hs : List Ho} {S : HT hs → St} {J : HT hs → Option R} (hg : Gd (arrive hs S J st) r) : ∃ z, st.norm (keysOf (S z).sl) (keysOf (S z).bx) (keysOf (S z).rw) = some (S z) ∧ J z = some r := by
  unfold arrive at hg
  split at hg
  · rename_i z _
    obtain ⟨h1, hg⟩ := hg.eqs
    exact ⟨z, h1, hg.den⟩
  · exact hg.no
theorem arriveB_sound {r : R} {st0 : St} {d : Nat} {J : Bool → Option R} (hg : Gd (arriveB st0 d J st) r) : ∃ v, st.norm (d :: keysOf (del st0.sl d)) (keysOf st0.bx) (keysOf st0.rw) = some (st0.put d (.val .bool v)) ∧ J v = some r := by
  unfold arriveB at hg
  split at hg
  · rename_i v _
    obtain ⟨h1, hg⟩ := hg.eqs
    exact ⟨v, h1, hg.den⟩
  · exact hg.no

theorem runX_sound {nc : Nat} {r : R} {I : Type} {W : I → List Oper → St → Prop} {N : I → St → Prop} {mu : St → List Oper → Option (St × List Oper)} {step : StepT P G R} {seg : List Oper → St → Option (St × List TV × List Prop)}
    (X : RX cx ops nc r I W N mu step seg) : ∀ (n : Nat) {i : I} {l : List Oper} {st : St} {h : Hi P G R} {kn : List KN} {K : KT P G R}, (∀ st' h' kn', KnOK kn' → Gd (K st' h' kn') r → N i st') → KnOK kn →
      Gd (runX nc mu step seg ops n l st h kn K) r → W i l st := by
  intro n
  induction n with
  | zero => intro i l st h kn K _ _ hg; exact hg.no
  | succ n ih =>
    intro i l st h kn K hK hkn hg
    unfold runX at hg
    split at hg
    · exact X.nil i st (hK _ _ _ hkn hg)
    · rename_i o l
      have meet : ∀ (m gs : Nat) (b : Bool) (i : I), setB st gs b = st → (∀ b', b = b' → W i ((o :: l).take (m + 1)) (setB st gs b')) → W i ((o :: l).take (m + 1)) st := fun m gs b i he hb => he ▸ hb b rfl
      split at hg
      · rename_i hgd
        split at hg
        · rename_i st' l' hmu
          exact X.mu i _ st st' l' hmu (ih hK hkn hg)
        · exact X.step i o l st h kn _ (wantSV_none hgd) hkn hg fun st' h' kn' hk' hg' => ih hK hk' hg'
      · rename_i g hgd
        split at hg
        · rename_i m h'
          split at hg
          · rename_i gs b d hgs hd
            split at hg
            · rename_i s1 x1 s2 x2 h1 h2
              obtain ⟨he, hg1⟩ := hg.eqs
              obtain ⟨e1, hg2⟩ := hg1.eqs
              obtain ⟨e2, hg3⟩ := hg2.eqs
              have e1 := Option.some.inj e1
              have e2 := Option.some.inj e2
              have hr := ih (i := i) hK hkn hg3
              have he := Option.some.inj he
              cases b with
              | true =>
                obtain ⟨s0, k1, k2⟩ := segB_some h1
                refine X.seg i (m + 1) (o :: l) st s0 (by rw [he] at k1; exact k1) ?_
                exact X.normW i _ _ _ _ _ _ k2 (e1 ▸ hr)
              | false =>
                obtain ⟨s0, k1, k2⟩ := segB_some h2
                refine X.seg i (m + 1) (o :: l) st s0 (by rw [he] at k1; exact k1) ?_
                exact X.normW i _ _ _ _ _ _ k2 (e2 ▸ hr)
            · exact hg.no
          · exact hg.no
        · rename_i m J hz
          split at hg
          · rename_i gs b d hgs hd
            split at hg
            · rename_i s1 x1 s2 x2 h1 h2
              obtain ⟨he, hg1⟩ := hg.eqs
              obtain ⟨e1, hg2⟩ := hg1.eqs
              obtain ⟨e2, hg3⟩ := hg2.eqs
              have e1 := Option.some.inj e1
              have e2 := Option.some.inj e2
              obtain ⟨hb, hg4⟩ := hg3.lab
              have hr := ih (i := i) hK KnOK.nil (hb _ hg4.den)
              have he := Option.some.inj he
              cases b with
              | true =>
                obtain ⟨s0, k1, k2⟩ := segB_some h1
                refine X.seg i (m + 1) (o :: l) st s0 (by rw [he] at k1; exact k1) ?_
                exact X.normW i _ _ _ _ _ _ k2 (e1 ▸ hr)
              | false =>
                obtain ⟨s0, k1, k2⟩ := segB_some h2
                refine X.seg i (m + 1) (o :: l) st s0 (by rw [he] at k1; exact k1) ?_
                exact X.normW i _ _ _ _ _ _ k2 (e2 ▸ hr)
            · exact hg.no
          · exact hg.no
        · rename_i m J hx hy hz
          split at hg
          · rename_i gs b d hgs hd
            obtain ⟨he, hg⟩ := hg.eqs
            obtain ⟨hb, hg⟩ := hg.lab
            have he := Option.some.inj he
            refine X.join i (m + 1) (o :: l) st Bool (fun v => J v = some r) (fun v => (delS st gs).put d (.val .bool v)) (fun v hv => ih hK KnOK.nil (hb v hv)) fun i' hN => ?_
            have fin : ∀ st' (h' : Hi P G R) (kn' : List KN), KnOK kn' → Gd (arriveB (delS st gs) d J st') r → N i' st' := fun st' _ _ _ hg' => by
              obtain ⟨v, k1, k2⟩ := arriveB_sound hg'
              exact X.norm i' _ _ _ _ _ k1 (hN v k2)
            refine meet m gs b i' he fun b' hb' => ?_
            subst hb'
            rcases hg.ite with ⟨e, hg5⟩ | ⟨e, hg5⟩
            · rw [e]; exact ih fin hkn hg5
            · rw [e]; exact ih fin hkn hg5
          · exact hg.no
        · rename_i m hs S J hx hy hz
          split at hg
          · rename_i gs b hgs
            obtain ⟨he, hg⟩ := hg.eqs
            obtain ⟨hb, hg⟩ := hg.lab
            have he := Option.some.inj he
            refine X.join i (m + 1) (o :: l) st (HT hs) (fun v => J v = some r) (S st) (fun v hv => ih hK KnOK.nil (hb v hv)) fun i' hN => ?_
            have fin : ∀ st' (h' : Hi P G R) (kn' : List KN), KnOK kn' → Gd (arrive hs (S st) J st') r → N i' st' := fun st' _ _ _ hg' => by
              obtain ⟨v, k1, k2⟩ := arrive_sound hg'
              exact X.norm i' _ _ _ _ _ k1 (hN v k2)
            refine meet m gs b i' he fun b' hb' => ?_
            subst hb'
            rcases hg.ite with ⟨e, hg5⟩ | ⟨e, hg5⟩
            · rw [e]; exact ih fin hkn hg5
            · rw [e]; exact ih fin hkn hg5
          · exact hg.no
        · split at hg
          · rename_i hw
            exact X.step i o l st _ kn _ hw hkn hg fun st' h' kn' hk' hg' => ih hK hk' hg'
          · rename_i hw
            refine X.undef i o l st hw ?_
            split at hg
            · rename_i d hd
              split at hg
              · rename_i hdn
                rw [hd]
                exact ⟨hdn, ih hK hkn hg⟩
              · exact hg.no
            · rename_i hd
              rw [hd]
              exact ih hK hkn hg
          · exact hg.no

theorem RX_L {fs : List (PF P G)} {nn : Nat} (hE : EnvOK (envOf P G nn fs) cx) (r : R) : RX cx ops nn r Post (fun Q l st => WL cx ops Q l st) (fun Q st => N cx Q .normal st) (upd3 (envOf P G nn fs)) (stepO fs (envOf P G nn fs)) (fun l st => evL (envOf P G nn fs) ops l st []) where
  nil := fun _ _ h => WL_nil h
  norm := fun _ _ _ _ _ _ hs h => h.norm hs
  normW := fun _ _ _ _ _ _ _ hs h => h.norm hs
  step := fun _ _ _ _ _ _ _ hw hkn hg hk => stepO_sound hE hw hkn hg hk
  undef := fun Q o l st hw h => by
    split at h
    · rename_i d hd
      refine WL_take hE 1 (orc := []) (ob := []) ?_ trivial h.2
      show evL _ ops [o] st [] = _
      unfold evL
      rw [hw]
      simp only [hd, show Nat.blt d (envOf P G nn fs).n = true from h.1, evL]
    · rename_i hd
      refine WL_take hE 1 (orc := []) (ob := []) ?_ trivial h
      show evL _ ops [o] st [] = _
      unfold evL
      rw [hw]
      simp only [hd, evL]
  join := fun _ n _ _ _ F S hy hx => WL_join F S n hy fun h => hx _ h
  mu := fun _ _ _ _ _ hu h => upd3_sound hE hu h
  seg := fun _ m _ _ _ hs h => WL_take hE m hs trivial h

theorem RX_D {fs : List (PF P G)} {nn : Nat} (hE : EnvOK (envOf P G nn fs) cx) (r : R) : RX cx ops nn r (World → Act → Prop) (fun K l st => WDK cx ops K l st) (fun K st => ND cx K st) (fun _ _ => none) (stepD fs (envOf P G nn fs)) (fun l st => evD (envOf P G nn fs) ops l st []) where
  nil := fun _ _ h => WDK_nil h
  norm := fun _ _ _ _ _ _ hs h => fun T w hR => h T w (hR.norm hs)
  normW := fun _ _ _ _ _ _ _ hs h => fun T w hR => h T w (hR.norm hs)
  step := fun K o l st h kn k hw hkn hg hk => by
    unfold stepD at hg
    split at hg
    · rename_i d hd
      split at hg
      · rename_i hdn
        obtain ⟨orc, ps, h', kn', hp, hkn', hg⟩ := askTr_sound (orc := []) (ps := []) _ hkn trivial hg
        unfold finD at hg
        split at hg
        · rename_i sv ob he
          obtain ⟨e, hg2⟩ := hg.eqp
          intro T w hR
          have hk' := hk _ _ _ hkn' hg2
          have := wpQuiet_append (P := cx.P) (ops := ops) (l1 := [o]) (l2 := l) (C := Ext w) (Q' := K w) (a := ⟨T, []⟩)
            (evD_sound hE (l := [o]) (orc := orc) (orc' := []) (ob := ob ++ []) hR (by unfold evD; rw [hw]; simp only [hd, he, hdn, evD]) (by rw [List.append_nil, e]; exact hp) fun T' hR' => hk' T' w hR')
          exact this
        · exact hg.no
      · exact hg.no
    · exact hg.no
  undef := fun K o l st hw h => by
    intro T w hR
    have key : ∀ st', evD (envOf P G nn fs) ops [o] st [] = some (st', [], []) → WDK cx ops K l st' → wpQuiet cx.P ops (Ext w) (K w) (o :: l) ⟨T, []⟩ := fun st' he hW =>
      wpQuiet_append (P := cx.P) (ops := ops) (l1 := [o]) (l2 := l) (evD_sound hE hR he trivial fun T' hR' => hW T' w hR')
    split at h
    · rename_i d hd
      refine key (st.put d .undef) ?_ h.2
      unfold evD
      rw [hw]
      simp only [hd, show Nat.blt d (envOf P G nn fs).n = true from h.1, evD]
    · rename_i hd
      refine key st ?_ h
      unfold evD
      rw [hw]
      simp only [hd, evD]
  mu := fun _ _ _ _ _ hu _ => by cases hu
  join := fun _ n _ _ _ F S hy hx => WDK_join F S n hy fun K h => hx K h
  seg := fun K m l st s hs h => by
    intro T w hR
    have := wpQuiet_append (P := cx.P) (ops := ops) (l1 := l.take m) (l2 := l.drop m) (evD_sound hE hR hs trivial fun T' hR' => h T' w hR')
    rwa [List.take_append_drop] at this

theorem RX_C {fs : List (PF P G)} {nn : Nat} (hE : EnvOK (envOf P G nn fs) cx) (r : R) : RX cx ops nn r (World → Act → Prop) (fun K l st => WCK cx ops K l st) (fun K st => ND cx K st) (fun _ _ => none) (stepC fs (envOf P G nn fs)) (fun _ _ => none) where
  nil := fun _ _ h => WCK_nil h
  norm := fun _ _ _ _ _ _ hs h => fun T w hR => h T w (hR.norm hs)
  normW := fun _ _ _ _ _ _ _ hs h => fun T w hR => h T w (hR.norm hs)
  step := fun K o l st h kn k hw hkn hg hk => by
    unfold stepC at hg
    split at hg
    · rename_i d hd
      split at hg
      · rename_i hdn
        obtain ⟨orc, ps, h', kn', hp, hkn', hg⟩ := askTr_sound (orc := []) (ps := []) _ hkn trivial hg
        unfold finC at hg
        split at hg
        · rename_i sv ob he
          split at hg
          · rename_i hcs
            obtain ⟨e, hg2⟩ := hg.eqp
            have hk' := hk _ _ _ hkn' hg2
            exact WCK_take hE (orc := orc) (ob := ob ++ []) (by unfold evC; rw [hw]; simp only [hd, he, hdn, hcs, evC]) (by rw [List.append_nil, e]; exact hp) hk'
          · exact hg.no
        · exact hg.no
      · exact hg.no
    · exact hg.no
  undef := fun K o l st hw h => by
    split at h
    · rename_i d hd
      refine WCK_take hE (orc := []) (ob := []) (st' := st.put d .undef) ?_ trivial h.2
      unfold evC
      rw [hw]
      simp only [hd, show Nat.blt d (envOf P G nn fs).n = true from h.1, evC]
    · rename_i hd
      refine WCK_take hE (orc := []) (ob := []) (st' := st) ?_ trivial h
      unfold evC
      rw [hw]
      simp only [hd, evC]
  mu := fun _ _ _ _ _ hu _ => by cases hu
  join := fun _ n _ _ _ F S hy hx => WCK_join F S n hy fun K h => hx K h
  seg := fun _ _ _ _ _ hs _ => by cases hs

theorem runF_sound {fs : List (PF P G)} {nn : Nat} (hE : EnvOK (envOf P G nn fs) cx) {r : R} {o : Oper} {d : Nat} {orc : List TV} {ps : List Prop} {C2 : List Nat} {K : KT P G R} (hl : isLd o = true) (hp : allP ps) (hK : ∀ st' h' kn', KnOK kn' → Gd (K st' h' kn') r → N cx Q .normal st') :
    ∀ (C1 : List Nat) {st : St} {h : Hi P G R} {kn : List KN}, KnOK kn → Gd (runF fs (envOf P G nn fs) ops o d orc ps C2 K C1 st h kn) r → ∀ T w, Ev.R cx st T w → flt cx.P ops (OnlyN Q) o d C2 C1 ⟨T, []⟩ w := by
  intro C1
  induction C1 with
  | nil =>
    intro st h kn hkn hg T w hR
    unfold runF runLs at hg
    unfold flt
    refine runX_sound (RX_L hE r) 5000 (i := OnlyN Q) ?_ hkn hg T w hR
    exact fun st' h' kn' hkn' hg' T w hR => ⟨rfl, hK _ _ _ hkn' hg' T w hR⟩
  | cons c C1 ih =>
    intro st h kn hkn hg T w hR
    unfold runF at hg
    split at hg
    case h_2 => exact hg.no
    rename_i oc hc
    split at hg
    case h_2 => exact hg.no
    rename_i hw
    refine flt_cons hc (stepO_sound (ops := ops) (l := []) (Q := FlQ cx ops o d C2 C1 Q) hE hw hkn hg fun st' h' kn' hkn' hg' => ?_) hR
    split at hg'
    case h_2 => exact hg'.no
    rename_i pr sv hev hs
    split at hg'
    case h_2 => exact hg'.no
    rename_i hd
    obtain ⟨e1, hg2⟩ := hg'.eqs
    obtain ⟨e2, hg3⟩ := hg2.eqp
    have e1 := Option.some.inj e1
    simp only [St.mk.injEq, List.cons.injEq, Prod.mk.injEq, and_true, true_and] at e1
    subst e1
    exact WL_nil fun T' w' hR' => ⟨rfl, redo hE hR' hl hev (e2 ▸ hp) hs hd, ih hkn' hg3 T' w' hR'⟩
theorem W_tailK {id : Nat} {l : List Oper} (n : Nat) (hm : cx.P.follows .mixedOrders = true) (hB : Region.lexTailB .any l.toArray n = true)
    (h : WDK cx l.toArray (fun w a => ∀ w', Ext w w' → wpList cx.P l.toArray Q (l.drop n) a w') (l.take n) st) : W cx Q (.region id l.toArray true) st := by
  intro T w hR
  exact wp_region_quiet_tail (C := Ext w) n hm hB (Ext.refl w).drew (h T w hR)

theorem ends_sound {r : R} {a : St → Tr R} {K : KC P G R} {Q' : Act → World → Prop} (ha : ∀ st, Gd (a st) r → N cx (Exit.then Q' Q) .normal st) (hK : ∀ e st h kn, KnOK kn → Gd (K e st h kn) r → N cx Q e st) :
    ∀ e st h kn, KnOK kn → Gd (ends a K e st h kn) r → N cx (Exit.then Q' Q) e st := by
  intro e st h kn hkn hg
  cases e with
  | normal => exact ha st hg
  | _ => exact hK _ st h kn hkn hg
theorem run_sound {fs : List (PF P G)} {nn : Nat} (hE : EnvOK (envOf P G nn fs) cx) {r : R} : ∀ (c : Code) {st : St} {h : Hi P G R} {kn : List KN} {K : KC P G R} {Q : Post},
    (∀ e st' h' kn', KnOK kn' → Gd (K e st' h' kn') r → N cx Q e st') → KnOK kn → Gd (run fs (envOf P G nn fs) c st h kn K) r → W cx Q c st := by
  intro c
  induction c with
  | skip => intro st h kn K Q hK hkn hg; exact W_skip (hK _ _ _ _ hkn hg)
  | exit id => intro st h kn K Q hK hkn hg; exact W_exit (hK _ _ _ _ hkn hg)
  | ret => intro st h kn K Q hK hkn hg; exact W_ret (hK _ _ _ _ hkn hg)
  | block id c ih =>
    intro st h kn K Q hK hkn hg
    refine W_block (ih ?_ hkn hg)
    intro e st' h' kn' hkn' hg'
    split at hg'
    · exact N_block (hK _ _ _ _ hkn' hg')
    · exact N_block_ret (hK _ _ _ _ hkn' hg')
    · rename_i i
      split at hg'
      · rename_i hi
        have hi := Nat.eq_of_beq_eq_true hi
        subst hi
        exact N_block_exit (hK _ _ _ _ hkn' hg')
      · rename_i hi
        exact N_block_out hi (hK _ _ _ _ hkn' hg')
    · exact hg'.no
  | seq x y ihx ihy =>
    intro st h kn K Q hK hkn hg
    unfold run at hg
    split at hg
    · rename_i hs S J hx hy
      obtain ⟨hb, hg2⟩ := hg.lab
      refine W_join (α := HT hs) (fun z => J z = some r) (S st) (fun z hz => ihy hK KnOK.nil (hb z hz)) fun hN => ?_
      refine ihx (ends_sound (fun st' hg' => ?_) hK) hkn hg2
      obtain ⟨z, k1, k2⟩ := arrive_sound hg'
      exact (hN z k2).norm k1
    · refine W_seq (ihx ?_ hkn hg)
      intro e st' h' kn' hkn' hg'
      cases e with
      | normal => exact N_then (ihy hK hkn' hg')
      | _ => exact hK _ st' h' kn' hkn' hg'
  | cond c x y ihx ihy =>
    intro st h kn K Q hK hkn hg
    unfold run at hg
    split at hg
    · rename_i b hc
      split at hg
      · obtain ⟨e, hg2⟩ := hg.eqb
        exact W_cond hc (fun _ => ihx hK hkn hg2) fun h => by rw [e] at h; cases h
      · obtain ⟨e, hg2⟩ := hg.eqb
        exact W_cond hc (fun h => by rw [e] at h; cases h) fun _ => ihy hK hkn hg2
      · rcases hg.ite with ⟨e, hg2⟩ | ⟨e, hg2⟩
        · exact W_cond hc (fun _ => ihx hK hkn hg2) fun h => by rw [e] at h; cases h
        · exact W_cond hc (fun h => by rw [e] at h; cases h) fun _ => ihy hK hkn hg2
    · exact hg.no
  | loop c ih =>
    intro st h kn K Q hK hkn hg
    unfold run at hg
    split at hg
    · rename_i hs S F k hb
      split at hg
      · rename_i z0 hz0
        obtain ⟨h0, h1, hg2⟩ := hg.lop
        obtain ⟨e, hg3⟩ := hg2.eqs
        refine W.norm (W_loop (fun n z => F n z = some r) (S st) ?_ hg3.den) e
        intro n z hz
        cases n with
        | zero => rw [h0] at hz; cases hz
        | succ n =>
          refine ih (ends_sound (fun st' hg' => ?_) hK) KnOK.nil (h1 n z hz)
          obtain ⟨z', k1, k2⟩ := arrive_sound hg'
          exact (N_round (F := fun n z => F n z = some r) z' (Nat.lt_succ_self n) k2).norm k1
      · exact hg.no
    · exact hg.no
  | region id ops draw =>
    intro st h kn K Q hK hkn hg
    obtain ⟨l⟩ := ops
    unfold run at hg
    have hK' : ∀ st' h' kn', KnOK kn' → Gd (K .normal st' h' kn') r → N cx Q .normal st' := fun _ _ _ => hK _ _ _ _
    split at hg
    · exact W_region (runX_sound (RX_L hE r) 5000 (i := Q) hK' hkn hg)
    · split at hg
      · rename_i m h'
        split at hg
        · rename_i hm hB
          refine W_tailK m (by rw [hE.P]; exact hm) hB ?_
          refine runX_sound (RX_D hE r) 5000 (i := fun w a => ∀ w', Ext w w' → wpList cx.P l.toArray Q (l.drop m) a w') ?_ hkn hg
          intro st' h' kn' hkn' hg' T w hR w' he
          exact runX_sound (RX_L hE r) 5000 (i := Q) hK' hkn' hg' T w' (hR.ext he)
        · exact hg.no
      · rename_i a b c h'
        split at hg
        · rename_i hm hB hn
          refine W_mixK (Q := Q) a b c (by rw [hE.P]; exact hm) hB (Nat.eq_of_beq_eq_true hn) ?_
          refine runX_sound (RX_C hE r) 5000 (i := fun w a' => wpQuiet cx.P l.toArray (Ext w) (fun a' => ∀ w', Ext w w' → wpList cx.P l.toArray (OnlyN Q) (pickO l.toArray c) a' w') (pickO l.toArray b) a') ?_ hkn hg
          intro st' h' kn' hkn' hg' T w hR
          refine runX_sound (RX_D hE r) 5000 (i := fun w a' => ∀ w', Ext w w' → wpList cx.P l.toArray (OnlyN Q) (pickO l.toArray c) a' w') ?_ hkn' hg' T w hR
          intro st' h' kn' hkn' hg' T w hR w' he
          refine runX_sound (RX_L hE r) 5000 (i := OnlyN Q) ?_ hkn' hg' T w' (hR.ext he)
          intro st' h' kn' hkn' hg' T w hR
          exact ⟨rfl, hK' _ _ _ hkn' hg' T w hR⟩
        · exact hg.no
      · rename_i a b i c c2 h'
        split at hg
        case h_2 => exact hg.no
        rename_i o hi
        split at hg
        case h_2 => exact hg.no
        rename_i d hd hgd hx hm hB
        rw [hd] at hx
        simp only [Bool.and_eq_true, Bool.not_eq_true', Option.getD_some] at hx
        obtain ⟨hl, hlk, hdn, hn⟩ := hx
        refine W_floatK (Q := Q) hE a b i c c2 hm hB (Nat.eq_of_beq_eq_true hn) hi hd hgd hlk hdn ?_
        refine runX_sound (RX_C hE r) 5000 (i := fun w a' => wpQuiet cx.P l.toArray (Ext w) (fun a' => ∀ w', Ext w w' → d < a'.tmps.size ∧ ∃ v, (execOp a'.eval o).run cx.P w' = .ok (.value v) w' ∧ flt cx.P l.toArray (OnlyN Q) o d c2 c (a'.put o.dst v) w') (pickO l.toArray b) a') ?_ hkn hg
        intro st' h' kn' hkn' hg' T w hR
        refine runX_sound (RX_D hE r) 5000 (i := fun w a' => ∀ w', Ext w w' → d < a'.tmps.size ∧ ∃ v, (execOp a'.eval o).run cx.P w' = .ok (.value v) w' ∧ flt cx.P l.toArray (OnlyN Q) o d c2 c (a'.put o.dst v) w') ?_ hkn' hg' T w hR
        intro st' h' kn' hkn' hg' T w hR w' he
        unfold askF at hg'
        obtain ⟨orc, ps, h', kn', hp, hkn', hg'⟩ := askTr_sound (orc := []) (ps := []) _ hkn' trivial hg'
        dsimp only at hg'
        split at hg'
        case h_2 => exact hg'.no
        rename_i pr hev
        obtain ⟨e, hg'⟩ := hg'.eqp
        have hdn' : d < cx.n := by rw [hE.n]; exact blt_true hdn
        obtain ⟨m, hm2⟩ := hR.ext he
        obtain ⟨v, h5, h6⟩ := ld_run hE hm2 hl hev (e ▸ hp)
        refine ⟨by rw [hm2.size]; exact hdn', v, h5 w' (Ext.refl w'), ?_⟩
        rw [hd]
        exact runF_sound hE hl hp hK' c hkn' hg' _ _ ⟨m, hm2.put hdn' h6⟩
      · rename_i a b c2 c3 c4 c5 c6 h'
        split at hg
        case h_2 => exact hg.no
        rename_i C hm hB hn hC
        refine W_cntK (Q := Q) hE a b c2 c3 c4 c5 c6 hm hB (Nat.eq_of_beq_eq_true hn) hC ?_
        refine runX_sound (RX_C hE r) 5000 (i := fun w a' => wpQuiet cx.P l.toArray (Ext w) (fun a' => ∀ w', Ext w w' → ∃ v2 v3 v4 v5 w1 w2, CnFacts cx.P (OnlyN Q) C a' w' v2 v3 v4 v5 w1 w2) (pickO l.toArray b) a') ?_ hkn hg
        intro st' h' kn' hkn' hg' T w hR
        refine runX_sound (RX_D hE r) 5000 (i := fun w a' => ∀ w', Ext w w' → ∃ v2 v3 v4 v5 w1 w2, CnFacts cx.P (OnlyN Q) C a' w' v2 v3 v4 v5 w1 w2) ?_ hkn' hg' T w hR
        intro st' h' kn' hkn' hg' T w hR w' he
        split at hg'
        case h_2 => exact hg'.no
        rename_i st2 hev
        obtain ⟨m, hm2⟩ := hR.ext he
        obtain ⟨v2, v3, v4, v5, w1, w2, F⟩ := cnt_sound hE hm2 hev
        exact ⟨v2, v3, v4, v5, w1, w2, F (hK' _ _ _ hkn' hg')⟩
      · rename_i a b c d h'
        split at hg
        case h_2 => exact hg.no
        rename_i hm hB hn
        refine W_mdK (Q := Q) a b c d (by rw [hE.P]; exact hm) hB (Nat.eq_of_beq_eq_true hn) ?_
        refine runX_sound (RX_C hE r) 5000 (i := fun w a' => wpQuiet cx.P l.toArray (Ext w) (fun a' => ∀ w', Ext w w' → wpList cx.P l.toArray (MdQ cx l.toArray d Q) (pickO l.toArray c) a' w') (pickO l.toArray b) a') ?_ hkn hg
        intro st' h' kn' hkn' hg' T w hR
        refine runX_sound (RX_D hE r) 5000 (i := fun w a' => ∀ w', Ext w w' → wpList cx.P l.toArray (MdQ cx l.toArray d Q) (pickO l.toArray c) a' w') ?_ hkn' hg' T w hR
        intro st' h' kn' hkn' hg' T w hR w' he
        refine runX_sound (RX_L hE r) 5000 (i := MdQ cx l.toArray d Q) ?_ hkn' hg' T w' (hR.ext he)
        intro st' h' kn' hkn' hg' T w hR
        refine ⟨rfl, ?_⟩
        refine runX_sound (RX_D hE r) 5000 (i := fun w a => ∀ w', Ext w w' → OnlyN Q .normal a w') ?_ hkn' hg' T w hR
        intro st' h' kn' hkn' hg' T w hR w' he
        exact ⟨rfl, hK' _ _ _ hkn' hg' T w' (hR.ext he)⟩
      · split at hg
        · rename_i hm hB
          refine W_draw hE hm hB ?_
          refine runX_sound (RX_D hE r) 5000 (i := fun w a => ∀ w', Ext w w' → Q .normal a w') ?_ hkn hg
          intro st' h' kn' hkn' hg' T w hR w' he
          exact hK' _ _ _ hkn' hg' T w' (hR.ext he)
        · exact hg.no
  | _ => intro st h kn K Q hK hkn hg; exact hg.no

/-! Contracts. -/
def endC (P0 : Program) (rv : List ResultVar) (cod : List Ty) : KC P G (PE cod) := fun e st _ _ =>
  match e with
  | .ret => match evRes P0 (freezeAll st) rv with
    | some rs => .ret (castL cod rs)
    | none => .ret none
  | .normal => match evRes P0 (freezeAll st) rv with
    | some rs => .ret (castL cod rs)
    | none => .ret none
  | _ => .ret none
def bodyT (P : Program) (G : World → Prop) (n : Nat) (fs : List (PF P G)) (c : Code) (rv : List ResultVar) (F : FnF) (h : PE F.dom → Hi P G (PE F.cod)) (x : PE F.dom) : Tr (PE F.cod) :=
  run fs (envOf P G n fs) c ⟨argSl 0 (splitTV F.dom x), [], []⟩ (h x) [] (endC P rv F.cod)
theorem rel_of {F : FnF} {as0 rs : List TV} (h : F.toC.rel as0 rs) : ∃ x y, as0 = splitTV F.dom x ∧ rs = splitTV F.cod y ∧ F.fn x = some y := by
  have h : (match castL F.dom as0, castL F.cod rs with
    | some x, some y => F.fn x = some y
    | _, _ => False) := h
  split at h
  · rename_i x y hx hy
    exact ⟨x, y, split_castL _ _ _ hx, split_castL _ _ _ hy, h⟩
  · exact h.elim
theorem mkC {P : Program} {G : World → Prop} (hst : ∀ w w', Frame w w' (fun _ => False) → G w → G w') {f : FuncId} {fn : Func} {c : Code} (hf : P.funcs[f]? = some fn) (hname : (fn.name == "runtime.NumGoroutine") = false) (hb : fn.body = some c)
    {n : Nat} (hn : fn.ntmps = n) (F : FnF) (hd : Nat.ble F.dom.length n = true) (fs : List (PF P G)) (h : PE F.dom → Hi P G (PE F.cod))
    (hc : (fun x => ((bodyT P G n fs c fn.results.toList F h x).lft, (bodyT P G n fs c fn.results.toList F h x).den)) = fun x => ((bodyT P G n fs c fn.results.toList F h x).rgt, F.fn x)) : Contract P G f F.toC := by
  refine contract_of hst hf hname hb ?_ ?_
  · intro as0 rs h
    obtain ⟨x, y, rfl, rfl, _⟩ := rel_of h
    refine ⟨by rw [split_len, hn]; exact Nat.le_of_ble_eq_true hd, split_len _ _, fun hfl u hu => ?_⟩
    exact List.all_eq_true.1 hfl _ (split_ty _ _ u hu)
  · intro w0 M as0 rs hG h
    obtain ⟨x, y, rfl, rfl, hxy⟩ := rel_of h
    have hE : EnvOK (envOf P G n fs) ⟨P, fn.ntmps, w0, M, fun _ => False, fun _ => undef⟩ := envOf_ok rfl hn hG
    have hx := congrFun hc x
    simp only [Prod.mk.injEq] at hx
    refine run_sound hE c (r := y) ?_ KnOK.nil ⟨Tr.ok_of _ hx.1, hx.2.trans hxy⟩
    intro e st' h' kn' _ hg
    have key : ∀ e', (e' = .ret ∨ e' = .normal) → Gd (match evRes P (freezeAll st') fn.results.toList with
        | some rs => Tr.ret (castL F.cod rs)
        | none => .ret none) y → N ⟨P, fn.ntmps, w0, M, fun _ => False, fun _ => undef⟩ (Owes P fn M w0 (splitTV F.cod y)) e' st' := by
      intro e' he hg
      split at hg
      · rename_i rs hrs
        exact N_end he (by rw [hrs, split_castL _ _ _ hg.den])
      · exact hg.no
    cases e with
    | ret => exact key _ (.inl rfl) hg
    | normal => exact key _ (.inr rfl) hg
    | _ => exact hg.no
/-- What never answers has every contract. -/
theorem mkC0 {P : Program} {G : World → Prop} {f : FuncId} {fn : Func} {c : Code} (hf : P.funcs[f]? = some fn) (hname : (fn.name == "runtime.NumGoroutine") = false) (hb : fn.body = some c) (F : FnF) (h : ∀ x, F.fn x = none) : Contract P G f F.toC where
  enters := enters_of hf hname hb
  shape := fun as0 rs hr => by
    obtain ⟨x, y, _, _, e⟩ := rel_of hr
    rw [h] at e
    cases e
  calls := fun w M vs as0 rs _ _ hr => by
    obtain ⟨x, y, _, _, e⟩ := rel_of hr
    rw [h] at e
    cases e

/-! Contracts of functions that change what their caller owns. -/
def argSlR : Nat → List SV → List (Nat × SV)
  | _, [] => []
  | k, s :: l => (k, s) :: argSlR (k + 1) l
/-- The end of such a function: its results as0 slots 0, 1, .. ; its boxes and rows. -/
def endB {α β : Type} (P0 : Program) (rv : List ResultVar) (F : FnB α β) (Y : St → Option β) (bs rws : List Nat) (x : α) : KC P G β := fun e st _ _ =>
  let t := match evResS P0 st rv, st.norm [] bs rws with
    | some rs, some s => match Y ⟨argSlR 0 rs, s.bx, s.rw⟩ with
      | some y => .eqs (some ⟨argSlR 0 rs, s.bx, s.rw⟩) (some ⟨argSlR 0 (F.rs x y), (F.S' x y).bx, (F.S' x y).rw⟩) (.eqs (some s) (some (F.S' x y)) (.ret (some y)))
      | none => .ret none
    | _, _ => .ret none
  match e with
  | .ret => t
  | .normal => t
  | _ => .ret none
theorem argSlR_inj : ∀ {k : Nat} {a b : List SV}, argSlR k a = argSlR k b → a = b
  | _, [], [], _ => rfl
  | _, [], _ :: _, h => by cases h
  | _, _ :: _, [], h => by cases h
  | k, x :: a, y :: b, h => by
    simp only [argSlR, List.cons.injEq, Prod.mk.injEq, true_and] at h
    rw [h.1, argSlR_inj h.2]
def bodyB (P : Program) (G : World → Prop) {α β : Type} (fs : List (PF P G)) (c : Code) (rv : List ResultVar) (F : FnB α β) (Y : St → Option β) (bs rws : List Nat) (h : α → Hi P G β) (x : α) : Tr β :=
  run fs (envOf P G F.n fs) c (F.S x) (h x) [] (endB P rv F Y bs rws x)
theorem mkB {P : Program} {G : World → Prop} {f : FuncId} {fn : Func} {c : Code} {α β : Type} (hf : P.funcs[f]? = some fn) (hname : (fn.name == "runtime.NumGoroutine") = false) (hb : fn.body = some c)
    (F : FnB α β) (hn : fn.ntmps = F.n) (fs : List (PF P G)) (fnn : α → Option β) (hrel : ∀ x y, F.rel x y → fnn x = some y) (Y : St → Option β) (bs rws : List Nat) (h : α → Hi P G β)
    (hc : (fun x => ((bodyB P G fs c fn.results.toList F Y bs rws h x).lft, (bodyB P G fs c fn.results.toList F Y bs rws h x).den)) = fun x => ((bodyB P G fs c fn.results.toList F Y bs rws h x).rgt, fnn x)) : BC P G f F := by
  refine bc_of hf hname hb hn ?_
  intro cx hP hn' hG x y hxy
  have hE : EnvOK (envOf P G F.n fs) cx := envOf_ok hP hn' hG
  have hx := congrFun hc x
  simp only [Prod.mk.injEq] at hx
  refine run_sound hE c (r := y) ?_ KnOK.nil ⟨Tr.ok_of _ hx.1, hx.2.trans (hrel x y hxy)⟩
  intro e st' h' kn' _ hg
  have key : ∀ e', (e' = .ret ∨ e' = .normal) → Gd (match evResS P st' fn.results.toList, st'.norm [] bs rws with
      | some rs, some s => match Y ⟨argSlR 0 rs, s.bx, s.rw⟩ with
        | some y => Tr.eqs (some ⟨argSlR 0 rs, s.bx, s.rw⟩) (some ⟨argSlR 0 (F.rs x y), (F.S' x y).bx, (F.S' x y).rw⟩) (.eqs (some s) (some (F.S' x y)) (.ret (some y)))
        | none => .ret none
      | _, _ => .ret none) y → N cx (OwesB cx.P fn cx (F.S' x y) (F.rs x y)) e' st' := by
    intro e' he hg
    split at hg
    · rename_i rs s hrs hs
      split at hg
      · obtain ⟨e1, hg2⟩ := hg.eqs
        obtain ⟨e2, hg3⟩ := hg2.eqs
        have e3 := Option.some.inj hg3.den
        subst e3
        have e1 := Option.some.inj e1
        simp only [St.mk.injEq] at e1
        exact N_endB hP bs rws he (by rw [hrs, argSlR_inj e1.1]) (by rw [hs, Option.some.inj e2])
      · exact hg.no
    · exact hg.no
  cases e with
  | ret => exact key _ (.inl rfl) hg
  | normal => exact key _ (.inr rfl) hg
  | _ => exact hg.no
theorem toC_shape {F : FnF} {fn : Func} {n : Nat} (hn : fn.ntmps = n) (hd : Nat.ble F.dom.length n = true) : ∀ as0 rs, F.toC.rel as0 rs → as0.length ≤ fn.ntmps ∧ rs.length = F.toC.nres ∧ (F.toC.flat = true → ∀ u ∈ rs, u.t.flat = true) := by
  intro as0 rs h
  obtain ⟨x, y, rfl, rfl, _⟩ := rel_of h
  exact ⟨by rw [split_len, hn]; exact Nat.le_of_ble_eq_true hd, split_len _ _, fun hfl u hu => List.all_eq_true.1 hfl _ (split_ty _ _ u hu)⟩
theorem ofC {P : Program} {G : World → Prop} {f : Nat} {C : FnC} (h : Contract P G f C) (F : FnF) (hr : ∀ x y, F.fn x = some y → C.rel (splitTV F.dom x) (splitTV F.cod y)) : Contract P G f F.toC where
  enters := h.enters
  shape := fun as0 rs hh => by
    obtain ⟨x, y, rfl, rfl, _⟩ := rel_of hh
    exact ⟨split_len _ _, fun hfl u hu => List.all_eq_true.1 hfl _ (split_ty _ _ u hu)⟩
  calls := fun w M vs as0 rs hG hM hh => by
    obtain ⟨x, y, rfl, rfl, e⟩ := rel_of hh
    exact h.calls w M vs _ _ hG hM (hr x y e)
theorem mkB0 {P : Program} {G : World → Prop} {f : FuncId} {fn : Func} {c : Code} {α β : Type} (hf : P.funcs[f]? = some fn) (hname : (fn.name == "runtime.NumGoroutine") = false) (hb : fn.body = some c) (F : FnB α β) (h : ∀ x y, F.rel x y → False) : BC P G f F where
  enters := enters_of hf hname hb
  calls := fun _ _ _ _ x y hr => (h x y hr).elim
/-- A parameter that is a constant. -/
def cK {α : Type} (b : Bool) (o : Option α) : Option α := bif b then o else none
theorem cK_some {α : Type} {b : Bool} {o : Option α} {y : α} (h : cK b o = some y) : b = true ∧ o = some y := by
  cases b with
  | true => exact ⟨rfl, h⟩
  | false => cases h
def Un0 {γ : Type} (f : γ) : Unit → γ := fun _ => f
def Cn0 {γ : Type} (g : Unit → γ) : γ := g ()
def Un2 {α0 α1 γ : Type} (f : α0 → α1 → γ) : α0 × α1 → γ := fun z => f z.1 z.2
def Cn2 {α0 α1 γ : Type} (g : α0 × α1 → γ) : α0 → α1 → γ := fun x0 x1 => g (x0, x1)
def Un3 {α0 α1 α2 γ : Type} (f : α0 → α1 → α2 → γ) : α0 × α1 × α2 → γ := fun z => f z.1 z.2.1 z.2.2
def Cn3 {α0 α1 α2 γ : Type} (g : α0 × α1 × α2 → γ) : α0 → α1 → α2 → γ := fun x0 x1 x2 => g (x0, x1, x2)
def Un4 {α0 α1 α2 α3 γ : Type} (f : α0 → α1 → α2 → α3 → γ) : α0 × α1 × α2 × α3 → γ := fun z => f z.1 z.2.1 z.2.2.1 z.2.2.2
def Cn4 {α0 α1 α2 α3 γ : Type} (g : α0 × α1 × α2 × α3 → γ) : α0 → α1 → α2 → α3 → γ := fun x0 x1 x2 x3 => g (x0, x1, x2, x3)
def Un5 {α0 α1 α2 α3 α4 γ : Type} (f : α0 → α1 → α2 → α3 → α4 → γ) : α0 × α1 × α2 × α3 × α4 → γ := fun z => f z.1 z.2.1 z.2.2.1 z.2.2.2.1 z.2.2.2.2
def Cn5 {α0 α1 α2 α3 α4 γ : Type} (g : α0 × α1 × α2 × α3 × α4 → γ) : α0 → α1 → α2 → α3 → α4 → γ := fun x0 x1 x2 x3 x4 => g (x0, x1, x2, x3, x4)
def Un6 {α0 α1 α2 α3 α4 α5 γ : Type} (f : α0 → α1 → α2 → α3 → α4 → α5 → γ) : α0 × α1 × α2 × α3 × α4 × α5 → γ := fun z => f z.1 z.2.1 z.2.2.1 z.2.2.2.1 z.2.2.2.2.1 z.2.2.2.2.2
def Cn6 {α0 α1 α2 α3 α4 α5 γ : Type} (g : α0 × α1 × α2 × α3 × α4 × α5 → γ) : α0 → α1 → α2 → α3 → α4 → α5 → γ := fun x0 x1 x2 x3 x4 x5 => g (x0, x1, x2, x3, x4, x5)
def Un7 {α0 α1 α2 α3 α4 α5 α6 γ : Type} (f : α0 → α1 → α2 → α3 → α4 → α5 → α6 → γ) : α0 × α1 × α2 × α3 × α4 × α5 × α6 → γ := fun z => f z.1 z.2.1 z.2.2.1 z.2.2.2.1 z.2.2.2.2.1 z.2.2.2.2.2.1 z.2.2.2.2.2.2
def Cn7 {α0 α1 α2 α3 α4 α5 α6 γ : Type} (g : α0 × α1 × α2 × α3 × α4 × α5 × α6 → γ) : α0 → α1 → α2 → α3 → α4 → α5 → α6 → γ := fun x0 x1 x2 x3 x4 x5 x6 => g (x0, x1, x2, x3, x4, x5, x6)
def Un8 {α0 α1 α2 α3 α4 α5 α6 α7 γ : Type} (f : α0 → α1 → α2 → α3 → α4 → α5 → α6 → α7 → γ) : α0 × α1 × α2 × α3 × α4 × α5 × α6 × α7 → γ := fun z => f z.1 z.2.1 z.2.2.1 z.2.2.2.1 z.2.2.2.2.1 z.2.2.2.2.2.1 z.2.2.2.2.2.2.1 z.2.2.2.2.2.2.2
def Cn8 {α0 α1 α2 α3 α4 α5 α6 α7 γ : Type} (g : α0 × α1 × α2 × α3 × α4 × α5 × α6 × α7 → γ) : α0 → α1 → α2 → α3 → α4 → α5 → α6 → α7 → γ := fun x0 x1 x2 x3 x4 x5 x6 x7 => g (x0, x1, x2, x3, x4, x5, x6, x7)
def Un9 {α0 α1 α2 α3 α4 α5 α6 α7 α8 γ : Type} (f : α0 → α1 → α2 → α3 → α4 → α5 → α6 → α7 → α8 → γ) : α0 × α1 × α2 × α3 × α4 × α5 × α6 × α7 × α8 → γ := fun z => f z.1 z.2.1 z.2.2.1 z.2.2.2.1 z.2.2.2.2.1 z.2.2.2.2.2.1 z.2.2.2.2.2.2.1 z.2.2.2.2.2.2.2.1 z.2.2.2.2.2.2.2.2
def Cn9 {α0 α1 α2 α3 α4 α5 α6 α7 α8 γ : Type} (g : α0 × α1 × α2 × α3 × α4 × α5 × α6 × α7 × α8 → γ) : α0 → α1 → α2 → α3 → α4 → α5 → α6 → α7 → α8 → γ := fun x0 x1 x2 x3 x4 x5 x6 x7 x8 => g (x0, x1, x2, x3, x4, x5, x6, x7, x8)
def Un10 {α0 α1 α2 α3 α4 α5 α6 α7 α8 α9 γ : Type} (f : α0 → α1 → α2 → α3 → α4 → α5 → α6 → α7 → α8 → α9 → γ) : α0 × α1 × α2 × α3 × α4 × α5 × α6 × α7 × α8 × α9 → γ := fun z => f z.1 z.2.1 z.2.2.1 z.2.2.2.1 z.2.2.2.2.1 z.2.2.2.2.2.1 z.2.2.2.2.2.2.1 z.2.2.2.2.2.2.2.1 z.2.2.2.2.2.2.2.2.1 z.2.2.2.2.2.2.2.2.2
def Cn10 {α0 α1 α2 α3 α4 α5 α6 α7 α8 α9 γ : Type} (g : α0 × α1 × α2 × α3 × α4 × α5 × α6 × α7 × α8 × α9 → γ) : α0 → α1 → α2 → α3 → α4 → α5 → α6 → α7 → α8 → α9 → γ := fun x0 x1 x2 x3 x4 x5 x6 x7 x8 x9 => g (x0, x1, x2, x3, x4, x5, x6, x7, x8, x9)
def Un11 {α0 α1 α2 α3 α4 α5 α6 α7 α8 α9 α10 γ : Type} (f : α0 → α1 → α2 → α3 → α4 → α5 → α6 → α7 → α8 → α9 → α10 → γ) : α0 × α1 × α2 × α3 × α4 × α5 × α6 × α7 × α8 × α9 × α10 → γ := fun z => f z.1 z.2.1 z.2.2.1 z.2.2.2.1 z.2.2.2.2.1 z.2.2.2.2.2.1 z.2.2.2.2.2.2.1 z.2.2.2.2.2.2.2.1 z.2.2.2.2.2.2.2.2.1 z.2.2.2.2.2.2.2.2.2.1 z.2.2.2.2.2.2.2.2.2.2
def Cn11 {α0 α1 α2 α3 α4 α5 α6 α7 α8 α9 α10 γ : Type} (g : α0 × α1 × α2 × α3 × α4 × α5 × α6 × α7 × α8 × α9 × α10 → γ) : α0 → α1 → α2 → α3 → α4 → α5 → α6 → α7 → α8 → α9 → α10 → γ := fun x0 x1 x2 x3 x4 x5 x6 x7 x8 x9 x10 => g (x0, x1, x2, x3, x4, x5, x6, x7, x8, x9, x10)
def Un12 {α0 α1 α2 α3 α4 α5 α6 α7 α8 α9 α10 α11 γ : Type} (f : α0 → α1 → α2 → α3 → α4 → α5 → α6 → α7 → α8 → α9 → α10 → α11 → γ) : α0 × α1 × α2 × α3 × α4 × α5 × α6 × α7 × α8 × α9 × α10 × α11 → γ := fun z => f z.1 z.2.1 z.2.2.1 z.2.2.2.1 z.2.2.2.2.1 z.2.2.2.2.2.1 z.2.2.2.2.2.2.1 z.2.2.2.2.2.2.2.1 z.2.2.2.2.2.2.2.2.1 z.2.2.2.2.2.2.2.2.2.1 z.2.2.2.2.2.2.2.2.2.2.1 z.2.2.2.2.2.2.2.2.2.2.2
def Cn12 {α0 α1 α2 α3 α4 α5 α6 α7 α8 α9 α10 α11 γ : Type} (g : α0 × α1 × α2 × α3 × α4 × α5 × α6 × α7 × α8 × α9 × α10 × α11 → γ) : α0 → α1 → α2 → α3 → α4 → α5 → α6 → α7 → α8 → α9 → α10 → α11 → γ := fun x0 x1 x2 x3 x4 x5 x6 x7 x8 x9 x10 x11 => g (x0, x1, x2, x3, x4, x5, x6, x7, x8, x9, x10, x11)
end Go.Ev

namespace Go.Ev
open Go
set_option linter.unusedVariables false

def strings_trimRightByte_j1 (s2 : List UInt8) (go1 : (List UInt8) → Option (List UInt8)) (t1 : Bool) : Option (List UInt8) :=
  if t1 then
    (
      Option.bind (sub? s2 (0 : Int) (wi64 ((List.length s2 : Int) - (1 : Int)))) fun s3 =>
      go1 s3
    )
  else
    some (s2)
def strings_trimRightByte_b1 (c1 : Int) (go1 : (List UInt8) → Option (List UInt8)) (s2 : List UInt8) : Option (List UInt8) :=
  if decide ((0 : Int) < (List.length s2 : Int)) then
    (
      Option.bind (byteAt s2 (wi64 ((List.length s2 : Int) - (1 : Int)))) fun b1 =>
      strings_trimRightByte_j1 s2 go1 (b1 == c1)
    )
  else
    strings_trimRightByte_j1 s2 go1 false
def strings_trimRightByte_l1 (c1 : Int) : Nat → (List UInt8) → Option (List UInt8)
  | 0, _ => none
  | n + 1, s2 => strings_trimRightByte_b1 c1 (strings_trimRightByte_l1 c1 n) s2
/-- strings.trimRightByte -/
def strings_trimRightByte (k : Nat) (s1 : List UInt8) (c1 : Int) : Option (List UInt8) :=
  strings_trimRightByte_l1 c1 k s1

def strings_trimLeftByte_j1 (s2 : List UInt8) (go1 : (List UInt8) → Option (List UInt8)) (t1 : Bool) : Option (List UInt8) :=
  if t1 then
    (
      Option.bind (sub? s2 (1 : Int) (s2.length : Int)) fun s3 =>
      go1 s3
    )
  else
    some (s2)
def strings_trimLeftByte_b1 (c1 : Int) (go1 : (List UInt8) → Option (List UInt8)) (s2 : List UInt8) : Option (List UInt8) :=
  if decide ((0 : Int) < (List.length s2 : Int)) then
    (
      Option.bind (byteAt s2 (0 : Int)) fun b1 =>
      strings_trimLeftByte_j1 s2 go1 (b1 == c1)
    )
  else
    strings_trimLeftByte_j1 s2 go1 false
def strings_trimLeftByte_l1 (c1 : Int) : Nat → (List UInt8) → Option (List UInt8)
  | 0, _ => none
  | n + 1, s2 => strings_trimLeftByte_b1 c1 (strings_trimLeftByte_l1 c1 n) s2
/-- strings.trimLeftByte -/
def strings_trimLeftByte (k : Nat) (s1 : List UInt8) (c1 : Int) : Option (List UInt8) :=
  strings_trimLeftByte_l1 c1 k s1

def strings_makeASCIISet_b1 (chars1 : List UInt8) (go1 : Int → (List (Bool)) → Option (List (Bool) × Bool)) (i1 : Int) (blk1 : List (Bool)) : Option (List (Bool) × Bool) :=
  if decide (i1 < (List.length chars1 : Int)) then
    (
      Option.bind (byteAt chars1 i1) fun b1 =>
      if decide ((128 : Int) ≤ b1) then
        some (blk1, false)
      else
        (
          Option.bind (chk (0 ≤ b1 ∧ b1 < (256 : Int))) fun _ =>
          Option.bind (at? blk1 b1) fun x1 =>
          go1 (wi64 (i1 + (1 : Int))) (List.set blk1 (b1).toNat true)
        )
    )
  else
    some (blk1, true)
def strings_makeASCIISet_l1 (chars1 : List UInt8) : Nat → Int → (List (Bool)) → Option (List (Bool) × Bool)
  | 0, _, _ => none
  | n + 1, i1, blk1 => strings_makeASCIISet_b1 chars1 (strings_makeASCIISet_l1 chars1 n) i1 blk1
/-- strings.makeASCIISet -/
def strings_makeASCIISet (k : Nat) (chars1 : List UInt8) : Option (List (Bool) × Bool) :=
  strings_makeASCIISet_l1 chars1 k (0 : Int) (List.replicate 256 false)

/-- (*strings.asciiSet).contains -/
def strings_asciiSet_contains (k : Nat) (as1 : List (Bool)) (c1 : Int) : Option Bool :=
  Option.bind (at? as1 c1) fun x1 =>
  some (x1)

def strings_trimRightASCII_j1  (s2 : List UInt8) : Option (List UInt8) :=
  some (s2)
def strings_trimRightASCII_b1 (k : Nat) (as1 : List (Bool)) (go1 : (List UInt8) → Option (List UInt8)) (s3 : List UInt8) : Option (List UInt8) :=
  if decide ((0 : Int) < (List.length s3 : Int)) then
    (
      Option.bind (byteAt s3 (wi64 ((List.length s3 : Int) - (1 : Int)))) fun b1 =>
      Option.bind (strings_asciiSet_contains k as1 b1) fun v1 =>
      if !v1 then
        strings_trimRightASCII_j1 s3
      else
        (
          Option.bind (sub? s3 (0 : Int) (wi64 ((List.length s3 : Int) - (1 : Int)))) fun s4 =>
          go1 s4
        )
    )
  else
    strings_trimRightASCII_j1 s3
def strings_trimRightASCII_l1 (k : Nat) (as1 : List (Bool)) : Nat → (List UInt8) → Option (List UInt8)
  | 0, _ => none
  | n + 1, s3 => strings_trimRightASCII_b1 k as1 (strings_trimRightASCII_l1 k as1 n) s3
/-- strings.trimRightASCII -/
def strings_trimRightASCII (k : Nat) (s1 : List UInt8) (as1 : List (Bool)) : Option (List UInt8) :=
  strings_trimRightASCII_l1 k as1 k s1

def strings_trimLeftASCII_j1  (s2 : List UInt8) : Option (List UInt8) :=
  some (s2)
def strings_trimLeftASCII_b1 (k : Nat) (as1 : List (Bool)) (go1 : (List UInt8) → Option (List UInt8)) (s3 : List UInt8) : Option (List UInt8) :=
  if decide ((0 : Int) < (List.length s3 : Int)) then
    (
      Option.bind (byteAt s3 (0 : Int)) fun b1 =>
      Option.bind (strings_asciiSet_contains k as1 b1) fun v1 =>
      if !v1 then
        strings_trimLeftASCII_j1 s3
      else
        (
          Option.bind (sub? s3 (1 : Int) (s3.length : Int)) fun s4 =>
          go1 s4
        )
    )
  else
    strings_trimLeftASCII_j1 s3
def strings_trimLeftASCII_l1 (k : Nat) (as1 : List (Bool)) : Nat → (List UInt8) → Option (List UInt8)
  | 0, _ => none
  | n + 1, s3 => strings_trimLeftASCII_b1 k as1 (strings_trimLeftASCII_l1 k as1 n) s3
/-- strings.trimLeftASCII -/
def strings_trimLeftASCII (k : Nat) (s1 : List UInt8) (as1 : List (Bool)) : Option (List UInt8) :=
  strings_trimLeftASCII_l1 k as1 k s1

/-- strings.trimRightUnicode -/
def strings_trimRightUnicode (k : Nat) (s1 : List UInt8) (cutset1 : List UInt8) : Option (List UInt8) :=
  none

/-- strings.trimLeftUnicode -/
def strings_trimLeftUnicode (k : Nat) (s1 : List UInt8) (cutset1 : List UInt8) : Option (List UInt8) :=
  none

def strings_Trim_j2 (k : Nat) (cutset1 : List UInt8) (s1 : List UInt8) (t2 : Bool) : Option (List UInt8) :=
  if t2 then
    (
      Option.bind (byteAt cutset1 (0 : Int)) fun b1 =>
      Option.bind (strings_trimRightByte k s1 b1) fun v1 =>
      Option.bind (byteAt cutset1 (0 : Int)) fun b2 =>
      Option.bind (strings_trimLeftByte k v1 b2) fun v2 =>
      some (v2)
    )
  else
    (
      Option.bind (strings_makeASCIISet k cutset1) fun v3 =>
      if v3.2 then
        (
          Option.bind (strings_trimRightASCII k s1 v3.1) fun v4 =>
          Option.bind (strings_trimLeftASCII k v4 v3.1) fun v5 =>
          some (v5)
        )
      else
        (
          Option.bind (strings_trimRightUnicode k s1 cutset1) fun v6 =>
          Option.bind (strings_trimLeftUnicode k v6 cutset1) fun v7 =>
          some (v7)
        )
    )
def strings_Trim_j1 (k : Nat) (s1 : List UInt8) (cutset1 : List UInt8) (t1 : Bool) : Option (List UInt8) :=
  if t1 then
    some (s1)
  else
    (
      if (List.length cutset1 : Int) == (1 : Int) then
        (
          Option.bind (byteAt cutset1 (0 : Int)) fun b3 =>
          strings_Trim_j2 k cutset1 s1 (decide (b3 < (128 : Int)))
        )
      else
        strings_Trim_j2 k cutset1 s1 false
    )
/-- strings.Trim -/
def strings_Trim (k : Nat) (s1 : List UInt8) (cutset1 : List UInt8) : Option (List UInt8) :=
  strings_Trim_j1 k s1 cutset1 ((s1 == ([] : List UInt8)) || (cutset1 == ([] : List UInt8)))

def feature_named_j2  (t2 : Bool) : Option Bool :=
  some (t2)
def feature_named_j1 (k : Nat) (s1 : List UInt8) (t1 : Bool) : Option Bool :=
  if t1 then
    (
      Option.bind (strings_Trim k s1 ([97, 98, 99, 100, 101, 102, 103, 104, 105, 106, 107, 108, 109, 110, 111, 112, 113, 114, 115, 116, 117, 118, 119, 120, 121, 122] : List UInt8)) fun v1 =>
      feature_named_j2 (v1 == ([] : List UInt8))
    )
  else
    feature_named_j2 false
/-- cognate/feature.named -/
def feature_named (k : Nat) (s1 : List UInt8) : Option Bool :=
  feature_named_j1 k s1 ((!(s1 == ([] : List UInt8))) && (decide ((List.length s1 : Int) ≤ (32 : Int))))

def feature_lettered_j2  (t2 : Bool) : Option Bool :=
  if t2 then
    some (false)
  else
    some (true)
def feature_lettered_j1 (r1 : Int) (t1 : Bool) : Option Bool :=
  if t1 then
    some (true)
  else
    (
      if decide (r1 < (161 : Int)) then
        feature_lettered_j2 (decide (r1 < (161 : Int)))
      else
        (
          if decide ((1114111 : Int) < r1) then
            feature_lettered_j2 (decide ((1114111 : Int) < r1))
          else
            (
              if r1 == (65533 : Int) then
                feature_lettered_j2 (r1 == (65533 : Int))
              else
                (
                  Option.bind (chk (0 ≤ (11 : Int))) fun _ =>
                  feature_lettered_j2 ((Int.fdiv r1 (2 ^ min ((11 : Int)).toNat 32)) == (27 : Int))
                )
            )
        )
    )
def feature_lettered_j4 (r1 : Int) (t4 : Bool) : Option Bool :=
  feature_lettered_j1 r1 t4
def feature_lettered_j3 (r1 : Int) (t3 : Bool) : Option Bool :=
  if t3 then
    feature_lettered_j1 r1 t3
  else
    feature_lettered_j4 r1 (decide ((65 : Int) ≤ r1) && (decide (r1 ≤ (90 : Int))))
/-- cognate/feature.lettered -/
def feature_lettered (k : Nat) (r1 : Int) : Option Bool :=
  feature_lettered_j3 r1 (decide ((97 : Int) ≤ r1) && (decide (r1 ≤ (122 : Int))))

def feature_within_j1  (t1 : Bool) : Option Bool :=
  some (t1)
/-- cognate/feature.within -/
def feature_within (k : Nat) (a1 : (List (List UInt8) × List ((Int × Int × Int × Unit)) × Unit)) (plus1 : Int) (minus1 : Int) : Option Bool :=
  Option.bind (chk (0 ≤ (List.length a1.1 : Int))) fun _ =>
  feature_within_j1 (((Int.fdiv (wu32 (BitVec.toNat (BitVec.ofInt 32 plus1 ||| BitVec.ofInt 32 minus1))) (2 ^ min ((List.length a1.1 : Int)).toNat 32)) == (0 : Int)) && ((wu32 (BitVec.toNat (BitVec.ofInt 32 plus1 &&& BitVec.ofInt 32 minus1))) == (0 : Int)))

def feature_Check_j3 (go1 : Int → (List (List UInt8 × Bool)) → Option Int) (t3 : Int) (m1 : List (List UInt8 × Bool)) (x1 : List UInt8) (t4 : Bool) : Option Int :=
  if t4 then
    some ((7 : Int))
  else
    go1 (wi64 (t3 + (1 : Int))) (mset (eqEl .str) m1 x1 true)
def feature_Check_j5 (go2 : Int → (List (Int × Bool)) → Option Int) (t5 : Int) (m2 : List (Int × Bool)) (x2 : (Int × Int × Int × Unit)) (t7 : Bool) : Option Int :=
  if t7 then
    some ((7 : Int))
  else
    go2 (wi64 (t5 + (1 : Int))) (mset (eqEl (.int .i32)) m2 x2.1 true)
def feature_Check_j4 (k : Nat) (go2 : Int → (List (Int × Bool)) → Option Int) (t5 : Int) (m2 : List (Int × Bool)) (x2 : (Int × Int × Int × Unit)) (a1 : (List (List UInt8) × List ((Int × Int × Int × Unit)) × Unit)) (t6 : Bool) : Option Int :=
  if t6 then
    feature_Check_j5 go2 t5 m2 x2 true
  else
    (
      Option.bind (feature_within k (a1.1, a1.2.1, ()) x2.2.1 x2.2.2.1) fun v3 =>
      feature_Check_j5 go2 t5 m2 x2 (!v3)
    )
def feature_Check_b2 (k : Nat) (a1 : (List (List UInt8) × List ((Int × Int × Int × Unit)) × Unit)) (go2 : Int → (List (Int × Bool)) → Option Int) (t5 : Int) (m2 : List (Int × Bool)) : Option Int :=
  if decide (t5 < (List.length a1.2.1 : Int)) then
    (
      Option.bind (at? a1.2.1 t5) fun x2 =>
      Option.bind (feature_lettered k x2.1) fun v2 =>
      feature_Check_j4 k go2 t5 m2 x2 a1 ((!v2) || ((mget (eqEl (.int .i32)) m2 x2.1).getD false))
    )
  else
    some ((0 : Int))
def feature_Check_l2 (k : Nat) (a1 : (List (List UInt8) × List ((Int × Int × Int × Unit)) × Unit)) : Nat → Int → (List (Int × Bool)) → Option Int
  | 0, _, _ => none
  | n + 1, t5, m2 => feature_Check_b2 k a1 (feature_Check_l2 k a1 n) t5 m2
def feature_Check_b1 (k : Nat) (a1 : (List (List UInt8) × List ((Int × Int × Int × Unit)) × Unit)) (go1 : Int → (List (List UInt8 × Bool)) → Option Int) (t3 : Int) (m1 : List (List UInt8 × Bool)) : Option Int :=
  if decide (t3 < (List.length a1.1 : Int)) then
    (
      Option.bind (at? a1.1 t3) fun x1 =>
      Option.bind (feature_named k x1) fun v1 =>
      feature_Check_j3 go1 t3 m1 x1 ((!v1) || ((mget (eqEl .str) m1 x1).getD false))
    )
  else
    feature_Check_l2 k a1 k (0 : Int) ([] : List (Int × Bool))
def feature_Check_l1 (k : Nat) (a1 : (List (List UInt8) × List ((Int × Int × Int × Unit)) × Unit)) : Nat → Int → (List (List UInt8 × Bool)) → Option Int
  | 0, _, _ => none
  | n + 1, t3, m1 => feature_Check_b1 k a1 (feature_Check_l1 k a1 n) t3 m1
def feature_Check_j2 (k : Nat) (a1 : (List (List UInt8) × List ((Int × Int × Int × Unit)) × Unit)) (t2 : Bool) : Option Int :=
  if t2 then
    some ((7 : Int))
  else
    feature_Check_l1 k a1 k (0 : Int) ([] : List (List UInt8 × Bool))
def feature_Check_j1 (k : Nat) (a1 : (List (List UInt8) × List ((Int × Int × Int × Unit)) × Unit)) (t1 : Bool) : Option Int :=
  feature_Check_j2 k a1 (t1 || (decide ((128 : Int) < (List.length a1.2.1 : Int))))
/-- cognate/feature.Check -/
def feature_Check (k : Nat) (a1 : (List (List UInt8) × List ((Int × Int × Int × Unit)) × Unit)) : Option Int :=
  feature_Check_j1 k a1 (decide ((24 : Int) < (List.length a1.1 : Int)) || (decide ((List.length a1.2.1 : Int) < (1 : Int))))

/-- cognate/feature.Of.1 -/
def feature_Of_c1 (k : Nat) (l1 : (Int × Int × Int × Unit)) (t1 : Int) : Option Bool :=
  some (l1.1 == t1)

def slices_IndexFunc___api_Letter_api_Letter__Of_c1_b1 (k : Nat) (s1 : List ((Int × Int × Int × Unit))) (f1 : (Int × Unit)) (go1 : Int → Option Int) (t1 : Int) : Option Int :=
  if decide (t1 < (List.length s1 : Int)) then
    (
      Option.bind (at? s1 t1) fun x1 =>
      Option.bind (feature_Of_c1 k x1 f1.1) fun v1 =>
      if v1 then
        some (t1)
      else
        go1 (wi64 (t1 + (1 : Int)))
    )
  else
    some ((-1 : Int))
def slices_IndexFunc___api_Letter_api_Letter__Of_c1_l1 (k : Nat) (s1 : List ((Int × Int × Int × Unit))) (f1 : (Int × Unit)) : Nat → Int → Option Int
  | 0, _ => none
  | n + 1, t1 => slices_IndexFunc___api_Letter_api_Letter__Of_c1_b1 k s1 f1 (slices_IndexFunc___api_Letter_api_Letter__Of_c1_l1 k s1 f1 n) t1
/-- slices.IndexFunc[[]cognate/api.Letter,cognate/api.Letter] -/
def slices_IndexFunc___api_Letter_api_Letter__Of_c1 (k : Nat) (s1 : List ((Int × Int × Int × Unit))) (f1 : (Int × Unit)) : Option Int :=
  slices_IndexFunc___api_Letter_api_Letter__Of_c1_l1 k s1 f1 k (0 : Int)

/-- cognate/feature.Of -/
def feature_Of (k : Nat) (a1 : (List (List UInt8) × List ((Int × Int × Int × Unit)) × Unit)) (r1 : Int) : Option ((Int × Int × Int × Unit) × Int) :=
  Option.bind (feature_Check k (a1.1, a1.2.1, ())) fun v1 =>
  if v1 != (0 : Int) then
    some (((0 : Int), (0 : Int), (0 : Int), ()), v1)
  else
    (
      Option.bind (slices_IndexFunc___api_Letter_api_Letter__Of_c1 k a1.2.1 (r1, ())) fun v2 =>
      if decide (v2 < (0 : Int)) then
        some (((0 : Int), (0 : Int), (0 : Int), ()), (5 : Int))
      else
        (
          Option.bind (at? a1.2.1 v2) fun x1 =>
          some ((x1.1, x1.2.1, x1.2.2.1, ()), (0 : Int))
        )
    )

end Go.Ev

namespace Go.Ev
open Go
set_option linter.unusedVariables false

def cmp_Or_int__b1 (vals1 : List (Int)) (go1 : Int → Option Int) (t1 : Int) : Option Int :=
  if decide (t1 < (List.length vals1 : Int)) then
    (
      Option.bind (at? vals1 t1) fun x1 =>
      if x1 != (0 : Int) then
        some (x1)
      else
        go1 (wi64 (t1 + (1 : Int)))
    )
  else
    some ((0 : Int))
def cmp_Or_int__l1 (vals1 : List (Int)) : Nat → Int → Option Int
  | 0, _ => none
  | n + 1, t1 => cmp_Or_int__b1 vals1 (cmp_Or_int__l1 vals1 n) t1
/-- cmp.Or[int] -/
def cmp_Or_int_ (k : Nat) (vals1 : List (Int)) : Option Int :=
  cmp_Or_int__l1 vals1 k (0 : Int)

/-- cognate/corr.counted.1 -/
def corr_counted_c1 (k : Nat) (p1 : (Int × Int × Unit)) (q1 : (Int × Int × Unit)) (t1 : Option (List ((Int × Int × Unit) × Int))) (t2 : Option (List (Int × Int))) : Option Int :=
  Option.bind (cmp_Or_int_ k ([wi64 (((mget (eqEl (.pair (.int .i32) (.pair (.int .i32) .unit))) (t1.getD []) (q1.1, q1.2.1, ())).getD (0 : Int)) - ((mget (eqEl (.pair (.int .i32) (.pair (.int .i32) .unit))) (t1.getD []) (p1.1, p1.2.1, ())).getD (0 : Int))), wi64 (((mget (eqEl (.int .i32)) (t2.getD []) p1.1).getD (0 : Int)) - ((mget (eqEl (.int .i32)) (t2.getD []) q1.1).getD (0 : Int))), wi64 (((mget (eqEl (.int .i32)) (t2.getD []) p1.2.1).getD (0 : Int)) - ((mget (eqEl (.int .i32)) (t2.getD []) q1.2.1).getD (0 : Int)))] : List (Int))) fun v1 =>
  some (v1)

end Go.Ev

namespace Go.Ev
open Go Go.Proofs Go.Sort
section
variable {X : Type}
def ins (lt : X → X → Bool) (x : X) : List X → List X
  | [] => [x]
  | y :: l => bif lt y x then y :: ins lt x l else x :: y :: l
def isort (lt : X → X → Bool) : List X → List X
  | [] => []
  | x :: l => ins lt x (isort lt l)
def ltO (c : X → X → Option Int) (x y : X) : Bool := match c x y with
  | some n => decide (n < 0)
  | none => false
/-- The comparison answers on a list, and parts whatever differs. -/
def good [DecidableEq X] (c : X → X → Option Int) (l : List X) : Bool :=
  l.all fun x => l.all fun y => (c x y).isSome && (bif decide (x = y) then !ltO c x y else (ltO c x y || ltO c y x) && !(ltO c x y && ltO c y x)) && l.all fun z => !(ltO c x y && ltO c y z) || ltO c x z
/-- The list sorted, if it is told. -/
def srt [DecidableEq X] (c : X → X → Option Int) (l : List X) : Option (List X) := bif good c l then some (isort (ltO c) l) else none

theorem ins_perm (lt : X → X → Bool) (x : X) : ∀ l, (ins lt x l).Perm (x :: l)
  | [] => List.Perm.refl _
  | y :: l => by
    unfold ins
    cases lt y x with
    | true => exact ((ins_perm lt x l).cons y).trans (List.Perm.swap x y l)
    | false => exact List.Perm.refl _
theorem isort_perm (lt : X → X → Bool) : ∀ l, (isort lt l).Perm l
  | [] => List.Perm.refl _
  | x :: l => (ins_perm lt x _).trans ((isort_perm lt l).cons x)

/-- What is asked of an order on a list. -/
structure Parts (lt : X → X → Bool) (S : X → Prop) : Prop where
  irr : ∀ x, S x → lt x x = false
  tr : ∀ x y z, S x → S y → S z → lt x y = true → lt y z = true → lt x z = true
  tot : ∀ x y, S x → S y → x ≠ y → lt x y = true ∨ lt y x = true
theorem Parts.asym {lt : X → X → Bool} {S : X → Prop} (h : Parts lt S) {x y : X} (hx : S x) (hy : S y) (h1 : lt x y = true) : lt y x = false := by
  cases h2 : lt y x with
  | false => rfl
  | true => have := h.tr x y x hx hy hx h1 h2; rw [h.irr x hx] at this; cases this
theorem Parts.nt {lt : X → X → Bool} {S : X → Prop} (h : Parts lt S) {x y z : X} (hx : S x) (hy : S y) (hz : S z) (h1 : lt x y = false) (h2 : lt y z = false) : lt x z = false := by
  by_cases e1 : x = y
  · rw [e1]; exact h2
  by_cases e2 : y = z
  · rw [← e2]; exact h1
  rcases h.tot x y hx hy e1 with h3 | h3
  · rw [h1] at h3; cases h3
  rcases h.tot y z hy hz e2 with h4 | h4
  · rw [h2] at h4; cases h4
  exact h.asym hz hx (h.tr z y x hz hy hx h4 h3)
theorem ins_sorted {lt : X → X → Bool} {S : X → Prop} (h : Parts lt S) {x : X} (hx : S x) : ∀ {l : List X}, (∀ y ∈ l, S y) → l.Pairwise (fun a b => lt b a = false) → (ins lt x l).Pairwise (fun a b => lt b a = false)
  | [], _, _ => by simp [ins]
  | y :: l, hS, hp => by
    obtain ⟨h1, h2⟩ := List.pairwise_cons.1 hp
    have hy := hS y List.mem_cons_self
    have hl : ∀ z ∈ l, S z := fun z hz => hS z (List.mem_cons_of_mem _ hz)
    unfold ins
    cases hb : lt y x with
    | true =>
      refine List.pairwise_cons.2 ⟨fun z hz => ?_, ins_sorted h hx hl h2⟩
      rcases List.mem_cons.1 ((ins_perm lt x l).mem_iff.1 hz) with rfl | hz
      · exact h.asym hy hx hb
      · exact h1 z hz
    | false =>
      refine List.pairwise_cons.2 ⟨fun z hz => ?_, hp⟩
      rcases List.mem_cons.1 hz with rfl | hz
      · exact hb
      · exact h.nt (hl z hz) hy hx (h1 z hz) hb
theorem isort_sorted {lt : X → X → Bool} {S : X → Prop} (h : Parts lt S) : ∀ {l : List X}, (∀ y ∈ l, S y) → (isort lt l).Pairwise (fun a b => lt b a = false)
  | [], _ => List.Pairwise.nil
  | x :: l, hS => ins_sorted h (hS x List.mem_cons_self) (fun y hy => hS y (List.mem_cons_of_mem _ ((isort_perm lt l).mem_iff.1 hy))) (isort_sorted h fun y hy => hS y (List.mem_cons_of_mem _ hy))
theorem isort_eq {lt : X → X → Bool} {S : X → Prop} (h : Parts lt S) {l m : List X} (hS : ∀ y ∈ l, S y) (hp : m.Perm l) (hs : m.Pairwise (fun a b => lt b a = false)) : m = isort lt l := by
  refine List.Perm.eq_of_pairwise (le := fun a b => lt b a = false) (fun a b ha hb h1 h2 => ?_) hs (isort_sorted h hS) (hp.trans (isort_perm lt l).symm)
  have sa := hS a (hp.mem_iff.1 ha)
  have sb := hS b ((isort_perm lt l).mem_iff.1 hb)
  refine Classical.byContradiction fun hne => ?_
  rcases h.tot a b sa sb hne with h3 | h3
  · rw [h2] at h3; cases h3
  · rw [h1] at h3; cases h3
theorem good_parts [DecidableEq X] {c : X → X → Option Int} {l : List X} (h : good c l = true) : Parts (ltO c) (· ∈ l) ∧ ∀ x ∈ l, ∀ y ∈ l, ∃ n, c x y = some n := by
  have key : ∀ x ∈ l, ∀ y ∈ l, (c x y).isSome = true ∧ (bif decide (x = y) then !ltO c x y else (ltO c x y || ltO c y x) && !(ltO c x y && ltO c y x)) = true ∧ ∀ z ∈ l, (!(ltO c x y && ltO c y z) || ltO c x z) = true := by
    intro x hx y hy
    have := List.all_eq_true.1 (List.all_eq_true.1 h x hx) y hy
    simp only [Bool.and_eq_true, List.all_eq_true] at this
    exact ⟨this.1.1, this.1.2, this.2⟩
  refine ⟨⟨fun x hx => ?_, fun x y z hx hy hz h1 h2 => ?_, fun x y hx hy hne => ?_⟩, fun x hx y hy => Option.isSome_iff_exists.1 (key x hx y hy).1⟩
  · have := (key x hx x hx).2.1
    simpa using this
  · have := (key x hx y hy).2.2 z hz
    rw [h1, h2] at this
    simpa using this
  · have := (key x hx y hy).2.1
    rw [decide_eq_false hne] at this
    simp only [cond_false, Bool.and_eq_true, Bool.or_eq_true] at this
    exact this.1
/-- The same order as0 the kit's sorting asks it. -/
theorem Parts.swo {lt : X → X → Bool} {S : X → Prop} (h : Parts lt S) {cf : {x : X // S x} → {x : X // S x} → Int} (hc : ∀ x y, ltOf cf x y = lt x.1 y.1) : SWO (ltOf cf) where
  irrefl x := by rw [hc]; exact h.irr _ x.2
  trans x y z := by rw [hc, hc, hc]; exact h.tr _ _ _ x.2 y.2 z.2
  ntrans x y z := by rw [hc, hc, hc]; exact h.nt x.2 y.2 z.2
theorem sortedIn_pairwise {α : Type} [Inhabited α] {lt : α → α → Bool} {d : Array α} (h : SortedIn lt 0 d.size d) : d.toList.Pairwise (fun a b => lt b a = false) := by
  rw [List.pairwise_iff_getElem]
  intro i j hi hj hij
  have hi' : i < d.size := by simpa using hi
  have hj' : j < d.size := by simpa using hj
  have := h i j (Nat.zero_le _) hij hj'
  rw [getElem!_pos d j hj', getElem!_pos d i hi'] at this
  simpa using this
theorem permIn_perm {α : Type} [Inhabited α] {d d' : Array α} (h : PermIn 0 d.size d d') : d'.toList.Perm d.toList ∧ d'.size = d.size := by
  obtain ⟨h1, _, h2⟩ := h
  refine ⟨?_, h1⟩
  have e1 : d.extract 0 d.size = d := Array.extract_size
  have e2 : d'.extract 0 d.size = d' := by rw [← h1]; exact Array.extract_size
  rw [e1, e2] at h2
  exact h2
end
end Go.Ev

namespace Go.Ev
open Go
/-- slices.SortedFunc(maps.Keys(times), by corr.counted's comparison) -/
def sortedPairs (k : Nat) (ps : List ((Int × Int × Unit) × Int)) (os : List (Int × Int)) : Option (List (Int × Int × Unit)) :=
  bif Nat.blt ps.length 1000000 then srt (fun x y => corr_counted_c1 k x y (some ps) (some os)) (ps.map (·.1)) else none
end Go.Ev

namespace Go.Ev
open Go
set_option linter.unusedVariables false

/-- cognate/cognatelaw28.letters -/
def l28_letters (k : Nat)  : Option (List (List UInt8) × List ((Int × Int × Int × Unit)) × Unit) :=
  some ((([([118, 111, 105, 99, 101, 100] : List UInt8), ([110, 97, 115, 97, 108] : List UInt8), ([118, 111, 119, 101, 108] : List UInt8)] : List (List UInt8)), ([((112 : Int), (0 : Int), (7 : Int), ()), ((98 : Int), (1 : Int), (6 : Int), ()), ((109 : Int), (3 : Int), (4 : Int), ()), ((97 : Int), (4 : Int), (3 : Int), ())] : List ((Int × Int × Int × Unit))), ()))

/-- cognate/cognatelaw28.three -/
def l28_three (k : Nat)  : Option (List (List (List UInt8))) :=
  some (([([([112, 97] : List UInt8), ([98, 97] : List UInt8)] : List (List UInt8)), ([([97, 112] : List UInt8), ([97, 98] : List UInt8)] : List (List UInt8)), ([([112, 97] : List UInt8), ([97] : List UInt8)] : List (List UInt8))] : List (List (List UInt8))))

def word_ranks_b1 (a1 : (List (List UInt8) × List ((Int × Int × Int × Unit)) × Unit)) (go1 : Int → (List (Int × Int)) → Option (Option (List (Int × Int)) × Int)) (t1 : Int) (m1 : List (Int × Int)) : Option (Option (List (Int × Int)) × Int) :=
  if decide (t1 < (List.length a1.2.1 : Int)) then
    (
      Option.bind (at? a1.2.1 t1) fun x1 =>
      go1 (wi64 (t1 + (1 : Int))) (mset (eqEl (.int .i32)) m1 x1.1 t1)
    )
  else
    some (some m1, (0 : Int))
def word_ranks_l1 (a1 : (List (List UInt8) × List ((Int × Int × Int × Unit)) × Unit)) : Nat → Int → (List (Int × Int)) → Option (Option (List (Int × Int)) × Int)
  | 0, _, _ => none
  | n + 1, t1, m1 => word_ranks_b1 a1 (word_ranks_l1 a1 n) t1 m1
/-- cognate/word.ranks -/
def word_ranks (k : Nat) (a1 : (List (List UInt8) × List ((Int × Int × Int × Unit)) × Unit)) : Option (Option (List (Int × Int)) × Int) :=
  Option.bind (feature_Check k (a1.1, a1.2.1, ())) fun v1 =>
  if v1 != (0 : Int) then
    some ((none : Option (List (Int × Int))), v1)
  else
    word_ranks_l1 a1 k (0 : Int) ([] : List (Int × Int))

/-- cognate/runes.long -/
def runes_long (k : Nat) (s1 : List UInt8) : Option Int :=
  if decide ((65536 : Int) < (List.length s1 : Int)) then
    some ((3 : Int))
  else
    some ((0 : Int))

def unicode_utf8_RuneLen_j1 (r1 : Int) (t1 : Bool) : Option Int :=
  if t1 then
    some ((-1 : Int))
  else
    (
      if decide (r1 ≤ (65535 : Int)) then
        some ((3 : Int))
      else
        (
          if decide (r1 ≤ (1114111 : Int)) then
            some ((4 : Int))
          else
            some ((-1 : Int))
        )
    )
/-- unicode/utf8.RuneLen -/
def unicode_utf8_RuneLen (k : Nat) (r1 : Int) : Option Int :=
  if decide (r1 < (0 : Int)) then
    some ((-1 : Int))
  else
    (
      if decide (r1 ≤ (127 : Int)) then
        some ((1 : Int))
      else
        (
          if decide (r1 ≤ (2047 : Int)) then
            some ((2 : Int))
          else
            unicode_utf8_RuneLen_j1 r1 (decide ((55296 : Int) ≤ r1) && (decide (r1 ≤ (57343 : Int))))
        )
    )

/-- cognate/runes.Pieces.1 -/
def runes_Pieces_c1_i1 (k : Nat) (p1 : (Int × Int × Int × Bool × Unit)) (l1 : List ((Int × Int × Int × Bool × Unit))) : Option (Bool × List ((Int × Int × Int × Bool × Unit))) :=
  Option.bind (chk (List.length l1 + List.length ([(p1.1, p1.2.1, p1.2.2.1, p1.2.2.2.1, ())] : List ((Int × Int × Int × Bool × Unit))) ≤ lim)) fun _ =>
  some (true, l1 ++ ([(p1.1, p1.2.1, p1.2.2.1, p1.2.2.2.1, ())] : List ((Int × Int × Int × Bool × Unit))))

def runes_each_i1_j1 (k : Nat) (s1 : List UInt8) (pos1 : Nat) (t2 : List ((Int × Int × Int × Bool × Unit))) (go1 : Nat → (List ((Int × Int × Int × Bool × Unit))) → Option (List ((Int × Int × Int × Bool × Unit)))) (p1 : Int) (p2 : Bool) : Option (List ((Int × Int × Int × Bool × Unit))) :=
  Option.bind (runes_Pieces_c1_i1 k (runeAt s1 pos1, (pos1 : Int), p1, p2, ()) t2) fun v2 =>
  if !v2.1 then
    some v2.2
  else
    go1 (pos1 + widthAt s1 pos1) v2.2
def runes_each_i1_b1 (k : Nat) (s1 : List UInt8) (go1 : Nat → (List ((Int × Int × Int × Bool × Unit))) → Option (List ((Int × Int × Int × Bool × Unit)))) (pos1 : Nat) (t2 : List ((Int × Int × Int × Bool × Unit))) : Option (List ((Int × Int × Int × Bool × Unit))) :=
  if decide (pos1 < List.length s1) then
    (
      Option.bind (unicode_utf8_RuneLen k (runeAt s1 pos1)) fun v1 =>
      if (runeAt s1 pos1) == (65533 : Int) then
        (
          Option.bind (sub? s1 (pos1 : Int) (s1.length : Int)) fun s2 =>
          Option.bind (utf8_DecodeRuneInString k s2) fun v3 =>
          if v3.2 == (1 : Int) then
            runes_each_i1_j1 k s1 pos1 t2 go1 (1 : Int) true
          else
            runes_each_i1_j1 k s1 pos1 t2 go1 v1 false
        )
      else
        runes_each_i1_j1 k s1 pos1 t2 go1 v1 false
    )
  else
    some t2
def runes_each_i1_l1 (k : Nat) (s1 : List UInt8) : Nat → Nat → (List ((Int × Int × Int × Bool × Unit))) → Option (List ((Int × Int × Int × Bool × Unit)))
  | 0, _, _ => none
  | n + 1, pos1, t2 => runes_each_i1_b1 k s1 (runes_each_i1_l1 k s1 n) pos1 t2
/-- cognate/runes.each -/
def runes_each_i1 (k : Nat) (s1 : List UInt8) (l1 : List ((Int × Int × Int × Bool × Unit))) : Option (List ((Int × Int × Int × Bool × Unit))) :=
  runes_each_i1_l1 k s1 k 0 l1

/-- cognate/runes.Pieces -/
def runes_Pieces (k : Nat) (s1 : List UInt8) : Option (List ((Int × Int × Int × Bool × Unit)) × Int) :=
  Option.bind (runes_long k s1) fun v1 =>
  if v1 != (0 : Int) then
    some (([] : List ((Int × Int × Int × Bool × Unit))), v1)
  else
    (
      Option.bind (runes_each_i1 k s1 ([] : List ((Int × Int × Int × Bool × Unit)))) fun v2 =>
      some (v2, (0 : Int))
    )

def word_read_b1 (v1 : (List ((Int × Int × Int × Bool × Unit)) × Int)) (m1 : Option (List (Int × Int))) (go1 : Int → (List (Int)) → Option (List (Int) × Int)) (t1 : Int) (out1 : List (Int)) : Option (List (Int) × Int) :=
  if decide (t1 < (List.length v1.1 : Int)) then
    (
      Option.bind (at? v1.1 t1) fun x1 =>
      if x1.2.2.2.1 then
        some (([] : List (Int)), (6 : Int))
      else
        (
          if !((mget (eqEl (.int .i32)) (m1.getD []) x1.1).isSome) then
            some (([] : List (Int)), (5 : Int))
          else
            (
              if (List.length out1 : Int) == (64 : Int) then
                some (([] : List (Int)), (4 : Int))
              else
                (
                  Option.bind (chk (List.length out1 + List.length ([x1.1] : List (Int)) ≤ lim)) fun _ =>
                  go1 (wi64 (t1 + (1 : Int))) (out1 ++ ([x1.1] : List (Int)))
                )
            )
        )
    )
  else
    some (out1, (0 : Int))
def word_read_l1 (v1 : (List ((Int × Int × Int × Bool × Unit)) × Int)) (m1 : Option (List (Int × Int))) : Nat → Int → (List (Int)) → Option (List (Int) × Int)
  | 0, _, _ => none
  | n + 1, t1, out1 => word_read_b1 v1 m1 (word_read_l1 v1 m1 n) t1 out1
def word_read_j1 (k : Nat) (m1 : Option (List (Int × Int))) (w2 : List UInt8) : Option (List (Int) × Int) :=
  Option.bind (runes_Pieces k w2) fun v1 =>
  if v1.2 != (0 : Int) then
    some (([] : List (Int)), v1.2)
  else
    word_read_l1 v1 m1 k (0 : Int) ([] : List (Int))
/-- cognate/word.read -/
def word_read (k : Nat) (m1 : Option (List (Int × Int))) (w1 : List UInt8) : Option (List (Int) × Int) :=
  if decide ((65536 : Int) < (List.length w1 : Int)) then
    (
      Option.bind (sub? w1 (0 : Int) (65536 : Int)) fun s1 =>
      word_read_j1 k m1 s1
    )
  else
    word_read_j1 k m1 w1

/-- cognate/word.Letters -/
def word_Letters (k : Nat) (a1 : (List (List UInt8) × List ((Int × Int × Int × Unit)) × Unit)) (w1 : List UInt8) : Option (List (Int) × Int) :=
  Option.bind (word_ranks k (a1.1, a1.2.1, ())) fun v1 =>
  if v1.2 != (0 : Int) then
    some (([] : List (Int)), v1.2)
  else
    (
      Option.bind (word_read k v1.1 w1) fun v2 =>
      some (v2.1, v2.2)
    )

/-- math/bits.OnesCount32 -/
def math_bits_OnesCount32 (k : Nat) (x1 : Int) : Option Int :=
  Option.bind (chk (0 ≤ (24 : Int))) fun _ =>
  Option.bind (byteAt ([0, 1, 1, 2, 1, 2, 2, 3, 1, 2, 2, 3, 2, 3, 3, 4, 1, 2, 2, 3, 2, 3, 3, 4, 2, 3, 3, 4, 3, 4, 4, 5, 1, 2, 2, 3, 2, 3, 3, 4, 2, 3, 3, 4, 3, 4, 4, 5, 2, 3, 3, 4, 3, 4, 4, 5, 3, 4, 4, 5, 4, 5, 5, 6, 1, 2, 2, 3, 2, 3, 3, 4, 2, 3, 3, 4, 3, 4, 4, 5, 2, 3, 3, 4, 3, 4, 4, 5, 3, 4, 4, 5, 4, 5, 5, 6, 2, 3, 3, 4, 3, 4, 4, 5, 3, 4, 4, 5, 4, 5, 5, 6, 3, 4, 4, 5, 4, 5, 5, 6, 4, 5, 5, 6, 5, 6, 6, 7, 1, 2, 2, 3, 2, 3, 3, 4, 2, 3, 3, 4, 3, 4, 4, 5, 2, 3, 3, 4, 3, 4, 4, 5, 3, 4, 4, 5, 4, 5, 5, 6, 2, 3, 3, 4, 3, 4, 4, 5, 3, 4, 4, 5, 4, 5, 5, 6, 3, 4, 4, 5, 4, 5, 5, 6, 4, 5, 5, 6, 5, 6, 6, 7, 2, 3, 3, 4, 3, 4, 4, 5, 3, 4, 4, 5, 4, 5, 5, 6, 3, 4, 4, 5, 4, 5, 5, 6, 4, 5, 5, 6, 5, 6, 6, 7, 3, 4, 4, 5, 4, 5, 5, 6, 4, 5, 5, 6, 5, 6, 6, 7, 4, 5, 5, 6, 5, 6, 6, 7, 5, 6, 6, 7, 6, 7, 7, 8] : List UInt8) (Int.fdiv x1 (2 ^ min ((24 : Int)).toNat 32))) fun b1 =>
  Option.bind (chk (0 ≤ (16 : Int))) fun _ =>
  Option.bind (byteAt ([0, 1, 1, 2, 1, 2, 2, 3, 1, 2, 2, 3, 2, 3, 3, 4, 1, 2, 2, 3, 2, 3, 3, 4, 2, 3, 3, 4, 3, 4, 4, 5, 1, 2, 2, 3, 2, 3, 3, 4, 2, 3, 3, 4, 3, 4, 4, 5, 2, 3, 3, 4, 3, 4, 4, 5, 3, 4, 4, 5, 4, 5, 5, 6, 1, 2, 2, 3, 2, 3, 3, 4, 2, 3, 3, 4, 3, 4, 4, 5, 2, 3, 3, 4, 3, 4, 4, 5, 3, 4, 4, 5, 4, 5, 5, 6, 2, 3, 3, 4, 3, 4, 4, 5, 3, 4, 4, 5, 4, 5, 5, 6, 3, 4, 4, 5, 4, 5, 5, 6, 4, 5, 5, 6, 5, 6, 6, 7, 1, 2, 2, 3, 2, 3, 3, 4, 2, 3, 3, 4, 3, 4, 4, 5, 2, 3, 3, 4, 3, 4, 4, 5, 3, 4, 4, 5, 4, 5, 5, 6, 2, 3, 3, 4, 3, 4, 4, 5, 3, 4, 4, 5, 4, 5, 5, 6, 3, 4, 4, 5, 4, 5, 5, 6, 4, 5, 5, 6, 5, 6, 6, 7, 2, 3, 3, 4, 3, 4, 4, 5, 3, 4, 4, 5, 4, 5, 5, 6, 3, 4, 4, 5, 4, 5, 5, 6, 4, 5, 5, 6, 5, 6, 6, 7, 3, 4, 4, 5, 4, 5, 5, 6, 4, 5, 5, 6, 5, 6, 6, 7, 4, 5, 5, 6, 5, 6, 6, 7, 5, 6, 6, 7, 6, 7, 7, 8] : List UInt8) (wu32 (BitVec.toNat (BitVec.ofInt 32 (Int.fdiv x1 (2 ^ min ((16 : Int)).toNat 32)) &&& BitVec.ofInt 32 (255 : Int))))) fun b2 =>
  Option.bind (chk (0 ≤ (8 : Int))) fun _ =>
  Option.bind (byteAt ([0, 1, 1, 2, 1, 2, 2, 3, 1, 2, 2, 3, 2, 3, 3, 4, 1, 2, 2, 3, 2, 3, 3, 4, 2, 3, 3, 4, 3, 4, 4, 5, 1, 2, 2, 3, 2, 3, 3, 4, 2, 3, 3, 4, 3, 4, 4, 5, 2, 3, 3, 4, 3, 4, 4, 5, 3, 4, 4, 5, 4, 5, 5, 6, 1, 2, 2, 3, 2, 3, 3, 4, 2, 3, 3, 4, 3, 4, 4, 5, 2, 3, 3, 4, 3, 4, 4, 5, 3, 4, 4, 5, 4, 5, 5, 6, 2, 3, 3, 4, 3, 4, 4, 5, 3, 4, 4, 5, 4, 5, 5, 6, 3, 4, 4, 5, 4, 5, 5, 6, 4, 5, 5, 6, 5, 6, 6, 7, 1, 2, 2, 3, 2, 3, 3, 4, 2, 3, 3, 4, 3, 4, 4, 5, 2, 3, 3, 4, 3, 4, 4, 5, 3, 4, 4, 5, 4, 5, 5, 6, 2, 3, 3, 4, 3, 4, 4, 5, 3, 4, 4, 5, 4, 5, 5, 6, 3, 4, 4, 5, 4, 5, 5, 6, 4, 5, 5, 6, 5, 6, 6, 7, 2, 3, 3, 4, 3, 4, 4, 5, 3, 4, 4, 5, 4, 5, 5, 6, 3, 4, 4, 5, 4, 5, 5, 6, 4, 5, 5, 6, 5, 6, 6, 7, 3, 4, 4, 5, 4, 5, 5, 6, 4, 5, 5, 6, 5, 6, 6, 7, 4, 5, 5, 6, 5, 6, 6, 7, 5, 6, 6, 7, 6, 7, 7, 8] : List UInt8) (wu32 (BitVec.toNat (BitVec.ofInt 32 (Int.fdiv x1 (2 ^ min ((8 : Int)).toNat 32)) &&& BitVec.ofInt 32 (255 : Int))))) fun b3 =>
  Option.bind (byteAt ([0, 1, 1, 2, 1, 2, 2, 3, 1, 2, 2, 3, 2, 3, 3, 4, 1, 2, 2, 3, 2, 3, 3, 4, 2, 3, 3, 4, 3, 4, 4, 5, 1, 2, 2, 3, 2, 3, 3, 4, 2, 3, 3, 4, 3, 4, 4, 5, 2, 3, 3, 4, 3, 4, 4, 5, 3, 4, 4, 5, 4, 5, 5, 6, 1, 2, 2, 3, 2, 3, 3, 4, 2, 3, 3, 4, 3, 4, 4, 5, 2, 3, 3, 4, 3, 4, 4, 5, 3, 4, 4, 5, 4, 5, 5, 6, 2, 3, 3, 4, 3, 4, 4, 5, 3, 4, 4, 5, 4, 5, 5, 6, 3, 4, 4, 5, 4, 5, 5, 6, 4, 5, 5, 6, 5, 6, 6, 7, 1, 2, 2, 3, 2, 3, 3, 4, 2, 3, 3, 4, 3, 4, 4, 5, 2, 3, 3, 4, 3, 4, 4, 5, 3, 4, 4, 5, 4, 5, 5, 6, 2, 3, 3, 4, 3, 4, 4, 5, 3, 4, 4, 5, 4, 5, 5, 6, 3, 4, 4, 5, 4, 5, 5, 6, 4, 5, 5, 6, 5, 6, 6, 7, 2, 3, 3, 4, 3, 4, 4, 5, 3, 4, 4, 5, 4, 5, 5, 6, 3, 4, 4, 5, 4, 5, 5, 6, 4, 5, 5, 6, 5, 6, 6, 7, 3, 4, 4, 5, 4, 5, 5, 6, 4, 5, 5, 6, 5, 6, 6, 7, 4, 5, 5, 6, 5, 6, 6, 7, 5, 6, 6, 7, 6, 7, 7, 8] : List UInt8) (wu32 (BitVec.toNat (BitVec.ofInt 32 x1 &&& BitVec.ofInt 32 (255 : Int))))) fun b4 =>
  some (wi64 (wu8 ((wu8 ((wu8 (b1 + b2)) + b3)) + b4)))

/-- cognate/feature.unlike -/
def feature_unlike (k : Nat) (x1 : (Int × Int × Int × Unit)) (y1 : (Int × Int × Int × Unit)) : Option Int :=
  Option.bind (math_bits_OnesCount32 k (wu32 (BitVec.toNat (BitVec.ofInt 32 (wu32 (BitVec.toNat (BitVec.ofInt 32 x1.2.1 ^^^ BitVec.ofInt 32 y1.2.1))) ||| BitVec.ofInt 32 (wu32 (BitVec.toNat (BitVec.ofInt 32 x1.2.2.1 ^^^ BitVec.ofInt 32 y1.2.2.1))))))) fun v1 =>
  some (v1)

/-- cognate/feature.Far -/
def feature_Far (k : Nat) (a1 : (List (List UInt8) × List ((Int × Int × Int × Unit)) × Unit)) (x1 : Int) (y1 : Int) : Option (Int × Int) :=
  Option.bind (feature_Of k (a1.1, a1.2.1, ()) x1) fun v1 =>
  if v1.2 != (0 : Int) then
    some ((0 : Int), v1.2)
  else
    (
      Option.bind (feature_Of k (a1.1, a1.2.1, ()) y1) fun v2 =>
      if v2.2 != (0 : Int) then
        some ((0 : Int), v2.2)
      else
        (
          Option.bind (feature_unlike k (v1.1.1, v1.1.2.1, v1.1.2.2.1, ()) (v2.1.1, v2.1.2.1, v2.1.2.2.1, ())) fun v3 =>
          some (v3, (0 : Int))
        )
    )

def align_far_j1 (k : Nat) (a1 : (List (List UInt8) × List ((Int × Int × Int × Unit)) × Unit)) (x1 : Int) (y1 : Int) (t1 : Bool) : Option Int :=
  if t1 then
    some ((5 : Int))
  else
    (
      Option.bind (feature_Far k (a1.1, a1.2.1, ()) x1 y1) fun v1 =>
      some (wi64 ((2 : Int) + v1.1))
    )
/-- cognate/align.far -/
def align_far (k : Nat) (a1 : (List (List UInt8) × List ((Int × Int × Int × Unit)) × Unit)) (x1 : Int) (y1 : Int) : Option Int :=
  if x1 == y1 then
    some ((0 : Int))
  else
    align_far_j1 k a1 x1 y1 ((x1 == (0 : Int)) || (y1 == (0 : Int)))

def align_filled_i1_j1 (go2 : Int → (List (Int) × List (Int) × List (List (Int)) × List (List (Int)) × Unit) → Option (List (Int) × List (Int) × List (List (Int)) × List (List (Int)) × Unit)) (k1 : Int) (blk4 : (List (Int) × List (Int) × List (List (Int)) × List (List (Int)) × Unit)) : Option (List (Int) × List (Int) × List (List (Int)) × List (List (Int)) × Unit) :=
  go2 (wi64 (k1 - (1 : Int))) blk4
def align_filled_i1_j8 (i1 : Int) (k1 : Int) (blk3 : (List (Int) × List (Int) × List (List (Int)) × List (List (Int)) × Unit)) (go2 : Int → (List (Int) × List (Int) × List (List (Int)) × List (List (Int)) × Unit) → Option (List (Int) × List (Int) × List (List (Int)) × List (List (Int)) × Unit)) (both1 : Int) (left1 : Int) (right1 : Int) (n3 : Int) : Option (List (Int) × List (Int) × List (List (Int)) × List (List (Int)) × Unit) :=
  Option.bind (chk (0 ≤ i1 ∧ i1 < (65 : Int))) fun _ =>
  Option.bind (chk (0 ≤ k1 ∧ k1 < (65 : Int))) fun _ =>
  Option.bind (chk (0 ≤ i1 ∧ i1 < (65 : Int))) fun _ =>
  Option.bind (at? blk3.2.2.1 i1) fun x4 =>
  Option.bind (at? x4 k1) fun x5 =>
  Option.bind (chk (0 ≤ k1 ∧ k1 < (65 : Int))) fun _ =>
  Option.bind (at? blk3.2.2.2.1 i1) fun x6 =>
  Option.bind (at? x6 k1) fun x7 =>
  align_filled_i1_j1 go2 k1 (blk3.1, blk3.2.1, List.set blk3.2.2.1 (i1).toNat (List.set x4 (k1).toNat (mnI (mnI both1 left1) right1)), List.set blk3.2.2.2.1 (i1).toNat (List.set x6 (k1).toNat (mnI n3 (1048577 : Int))), ())
def align_filled_i1_j7 (right1 : Int) (both1 : Int) (left1 : Int) (i1 : Int) (k1 : Int) (blk3 : (List (Int) × List (Int) × List (List (Int)) × List (List (Int)) × Unit)) (go2 : Int → (List (Int) × List (Int) × List (List (Int)) × List (List (Int)) × Unit) → Option (List (Int) × List (Int) × List (List (Int)) × List (List (Int)) × Unit)) (n2 : Int) : Option (List (Int) × List (Int) × List (List (Int)) × List (List (Int)) × Unit) :=
  if right1 == (mnI (mnI both1 left1) right1) then
    (
      Option.bind (chk (0 ≤ i1 ∧ i1 < (65 : Int))) fun _ =>
      Option.bind (chk (0 ≤ (wi64 (k1 + (1 : Int))) ∧ (wi64 (k1 + (1 : Int))) < (65 : Int))) fun _ =>
      Option.bind (at? blk3.2.2.2.1 i1) fun x8 =>
      Option.bind (at? x8 (wi64 (k1 + (1 : Int)))) fun x9 =>
      align_filled_i1_j8 i1 k1 blk3 go2 both1 left1 right1 (wi64 (n2 + x9))
    )
  else
    align_filled_i1_j8 i1 k1 blk3 go2 both1 left1 right1 n2
def align_filled_i1_j6 (left1 : Int) (both1 : Int) (right1 : Int) (i1 : Int) (k1 : Int) (blk3 : (List (Int) × List (Int) × List (List (Int)) × List (List (Int)) × Unit)) (go2 : Int → (List (Int) × List (Int) × List (List (Int)) × List (List (Int)) × Unit) → Option (List (Int) × List (Int) × List (List (Int)) × List (List (Int)) × Unit)) (n1 : Int) : Option (List (Int) × List (Int) × List (List (Int)) × List (List (Int)) × Unit) :=
  if left1 == (mnI (mnI both1 left1) right1) then
    (
      Option.bind (chk (0 ≤ (wi64 (i1 + (1 : Int))) ∧ (wi64 (i1 + (1 : Int))) < (65 : Int))) fun _ =>
      Option.bind (chk (0 ≤ k1 ∧ k1 < (65 : Int))) fun _ =>
      Option.bind (at? blk3.2.2.2.1 (wi64 (i1 + (1 : Int)))) fun x10 =>
      Option.bind (at? x10 k1) fun x11 =>
      align_filled_i1_j7 right1 both1 left1 i1 k1 blk3 go2 (wi64 (n1 + x11))
    )
  else
    align_filled_i1_j7 right1 both1 left1 i1 k1 blk3 go2 n1
def align_filled_i1_j5 (both1 : Int) (left1 : Int) (i1 : Int) (k1 : Int) (blk3 : (List (Int) × List (Int) × List (List (Int)) × List (List (Int)) × Unit)) (go2 : Int → (List (Int) × List (Int) × List (List (Int)) × List (List (Int)) × Unit) → Option (List (Int) × List (Int) × List (List (Int)) × List (List (Int)) × Unit)) (right1 : Int) : Option (List (Int) × List (Int) × List (List (Int)) × List (List (Int)) × Unit) :=
  if both1 == (mnI (mnI both1 left1) right1) then
    (
      Option.bind (chk (0 ≤ (wi64 (i1 + (1 : Int))) ∧ (wi64 (i1 + (1 : Int))) < (65 : Int))) fun _ =>
      Option.bind (chk (0 ≤ (wi64 (k1 + (1 : Int))) ∧ (wi64 (k1 + (1 : Int))) < (65 : Int))) fun _ =>
      Option.bind (at? blk3.2.2.2.1 (wi64 (i1 + (1 : Int)))) fun x12 =>
      Option.bind (at? x12 (wi64 (k1 + (1 : Int)))) fun x13 =>
      align_filled_i1_j6 left1 both1 right1 i1 k1 blk3 go2 (wi64 ((0 : Int) + x13))
    )
  else
    align_filled_i1_j6 left1 both1 right1 i1 k1 blk3 go2 (0 : Int)
def align_filled_i1_j4 (k1 : Int) (y1 : List (Int)) (i1 : Int) (blk3 : (List (Int) × List (Int) × List (List (Int)) × List (List (Int)) × Unit)) (both1 : Int) (go2 : Int → (List (Int) × List (Int) × List (List (Int)) × List (List (Int)) × Unit) → Option (List (Int) × List (Int) × List (List (Int)) × List (List (Int)) × Unit)) (left1 : Int) : Option (List (Int) × List (Int) × List (List (Int)) × List (List (Int)) × Unit) :=
  if decide (k1 < (List.length y1 : Int)) then
    (
      Option.bind (chk (0 ≤ i1 ∧ i1 < (65 : Int))) fun _ =>
      Option.bind (chk (0 ≤ (wi64 (k1 + (1 : Int))) ∧ (wi64 (k1 + (1 : Int))) < (65 : Int))) fun _ =>
      Option.bind (at? blk3.2.2.1 i1) fun x14 =>
      Option.bind (at? x14 (wi64 (k1 + (1 : Int)))) fun x15 =>
      align_filled_i1_j5 both1 left1 i1 k1 blk3 go2 (wi64 ((5 : Int) + x15))
    )
  else
    align_filled_i1_j5 both1 left1 i1 k1 blk3 go2 (1073741824 : Int)
def align_filled_i1_j3 (i1 : Int) (x1 : List (Int)) (k1 : Int) (blk3 : (List (Int) × List (Int) × List (List (Int)) × List (List (Int)) × Unit)) (y1 : List (Int)) (go2 : Int → (List (Int) × List (Int) × List (List (Int)) × List (List (Int)) × Unit) → Option (List (Int) × List (Int) × List (List (Int)) × List (List (Int)) × Unit)) (both1 : Int) : Option (List (Int) × List (Int) × List (List (Int)) × List (List (Int)) × Unit) :=
  if decide (i1 < (List.length x1 : Int)) then
    (
      Option.bind (chk (0 ≤ (wi64 (i1 + (1 : Int))) ∧ (wi64 (i1 + (1 : Int))) < (65 : Int))) fun _ =>
      Option.bind (chk (0 ≤ k1 ∧ k1 < (65 : Int))) fun _ =>
      Option.bind (at? blk3.2.2.1 (wi64 (i1 + (1 : Int)))) fun x16 =>
      Option.bind (at? x16 k1) fun x17 =>
      align_filled_i1_j4 k1 y1 i1 blk3 both1 go2 (wi64 ((5 : Int) + x17))
    )
  else
    align_filled_i1_j4 k1 y1 i1 blk3 both1 go2 (1073741824 : Int)
def align_filled_i1_j9 (k : Nat) (x1 : List (Int)) (i1 : Int) (y1 : List (Int)) (k1 : Int) (a2 : List (List UInt8)) (a3 : List ((Int × Int × Int × Unit))) (blk3 : (List (Int) × List (Int) × List (List (Int)) × List (List (Int)) × Unit)) (go2 : Int → (List (Int) × List (Int) × List (List (Int)) × List (List (Int)) × Unit) → Option (List (Int) × List (Int) × List (List (Int)) × List (List (Int)) × Unit)) (t2 : Bool) : Option (List (Int) × List (Int) × List (List (Int)) × List (List (Int)) × Unit) :=
  if t2 then
    (
      Option.bind (at? x1 i1) fun x18 =>
      Option.bind (at? y1 k1) fun x19 =>
      Option.bind (align_far k (a2, a3, ()) x18 x19) fun v1 =>
      Option.bind (chk (0 ≤ (wi64 (i1 + (1 : Int))) ∧ (wi64 (i1 + (1 : Int))) < (65 : Int))) fun _ =>
      Option.bind (chk (0 ≤ (wi64 (k1 + (1 : Int))) ∧ (wi64 (k1 + (1 : Int))) < (65 : Int))) fun _ =>
      Option.bind (at? blk3.2.2.1 (wi64 (i1 + (1 : Int)))) fun x20 =>
      Option.bind (at? x20 (wi64 (k1 + (1 : Int)))) fun x21 =>
      align_filled_i1_j3 i1 x1 k1 blk3 y1 go2 (wi64 (v1 + x21))
    )
  else
    align_filled_i1_j3 i1 x1 k1 blk3 y1 go2 (1073741824 : Int)
def align_filled_i1_j2 (k : Nat) (go2 : Int → (List (Int) × List (Int) × List (List (Int)) × List (List (Int)) × Unit) → Option (List (Int) × List (Int) × List (List (Int)) × List (List (Int)) × Unit)) (k1 : Int) (blk3 : (List (Int) × List (Int) × List (List (Int)) × List (List (Int)) × Unit)) (x1 : List (Int)) (i1 : Int) (y1 : List (Int)) (a2 : List (List UInt8)) (a3 : List ((Int × Int × Int × Unit))) (t1 : Bool) : Option (List (Int) × List (Int) × List (List (Int)) × List (List (Int)) × Unit) :=
  if t1 then
    align_filled_i1_j1 go2 k1 blk3
  else
    align_filled_i1_j9 k x1 i1 y1 k1 a2 a3 blk3 go2 (decide (i1 < (List.length x1 : Int)) && (decide (k1 < (List.length y1 : Int))))
def align_filled_i1_b2 (k : Nat) (x1 : List (Int)) (i1 : Int) (y1 : List (Int)) (a2 : List (List UInt8)) (a3 : List ((Int × Int × Int × Unit))) (go1 : Int → (List (List UInt8)) → (List ((Int × Int × Int × Unit))) → (List (Int) × List (Int) × List (List (Int)) × List (List (Int)) × Unit) → Option (List (Int) × List (Int) × List (List (Int)) × List (List (Int)) × Unit)) (go2 : Int → (List (Int) × List (Int) × List (List (Int)) × List (List (Int)) × Unit) → Option (List (Int) × List (Int) × List (List (Int)) × List (List (Int)) × Unit)) (k1 : Int) (blk3 : (List (Int) × List (Int) × List (List (Int)) × List (List (Int)) × Unit)) : Option (List (Int) × List (Int) × List (List (Int)) × List (List (Int)) × Unit) :=
  if decide ((0 : Int) ≤ k1) then
    align_filled_i1_j2 k go2 k1 blk3 x1 i1 y1 a2 a3 ((i1 == (List.length x1 : Int)) && (k1 == (List.length y1 : Int)))
  else
    go1 (wi64 (i1 - (1 : Int))) a2 a3 blk3
def align_filled_i1_l2 (k : Nat) (x1 : List (Int)) (i1 : Int) (y1 : List (Int)) (a2 : List (List UInt8)) (a3 : List ((Int × Int × Int × Unit))) (go1 : Int → (List (List UInt8)) → (List ((Int × Int × Int × Unit))) → (List (Int) × List (Int) × List (List (Int)) × List (List (Int)) × Unit) → Option (List (Int) × List (Int) × List (List (Int)) × List (List (Int)) × Unit)) : Nat → Int → (List (Int) × List (Int) × List (List (Int)) × List (List (Int)) × Unit) → Option (List (Int) × List (Int) × List (List (Int)) × List (List (Int)) × Unit)
  | 0, _, _ => none
  | n + 1, k1, blk3 => align_filled_i1_b2 k x1 i1 y1 a2 a3 go1 (align_filled_i1_l2 k x1 i1 y1 a2 a3 go1 n) k1 blk3
def align_filled_i1_b1 (k : Nat) (x1 : List (Int)) (y1 : List (Int)) (go1 : Int → (List (List UInt8)) → (List ((Int × Int × Int × Unit))) → (List (Int) × List (Int) × List (List (Int)) × List (List (Int)) × Unit) → Option (List (Int) × List (Int) × List (List (Int)) × List (List (Int)) × Unit)) (i1 : Int) (a2 : List (List UInt8)) (a3 : List ((Int × Int × Int × Unit))) (blk2 : (List (Int) × List (Int) × List (List (Int)) × List (List (Int)) × Unit)) : Option (List (Int) × List (Int) × List (List (Int)) × List (List (Int)) × Unit) :=
  if decide ((0 : Int) ≤ i1) then
    align_filled_i1_l2 k x1 i1 y1 a2 a3 go1 k (List.length y1 : Int) blk2
  else
    some blk2
def align_filled_i1_l1 (k : Nat) (x1 : List (Int)) (y1 : List (Int)) : Nat → Int → (List (List UInt8)) → (List ((Int × Int × Int × Unit))) → (List (Int) × List (Int) × List (List (Int)) × List (List (Int)) × Unit) → Option (List (Int) × List (Int) × List (List (Int)) × List (List (Int)) × Unit)
  | 0, _, _, _, _ => none
  | n + 1, i1, a2, a3, blk2 => align_filled_i1_b1 k x1 y1 (align_filled_i1_l1 k x1 y1 n) i1 a2 a3 blk2
/-- cognate/align.filled -/
def align_filled_i1 (k : Nat) (a1 : (List (List UInt8) × List ((Int × Int × Int × Unit)) × Unit)) (x1 : List (Int)) (y1 : List (Int)) : Option (List (Int) × List (Int) × List (List (Int)) × List (List (Int)) × Unit) :=
  Option.bind (chk (0 ≤ (List.length x1 : Int) ∧ (List.length x1 : Int) < (65 : Int))) fun _ =>
  Option.bind (chk (0 ≤ (List.length y1 : Int) ∧ (List.length y1 : Int) < (65 : Int))) fun _ =>
  Option.bind (at? (List.replicate 65 (List.replicate 65 (0 : Int))) (List.length x1 : Int)) fun x2 =>
  Option.bind (at? x2 (List.length y1 : Int)) fun x3 =>
  align_filled_i1_l1 k x1 y1 k (List.length x1 : Int) a1.1 a1.2.1 (x1, y1, (List.replicate 65 (List.replicate 65 (0 : Int))), List.set (List.replicate 65 (List.replicate 65 (0 : Int))) ((List.length x1 : Int)).toNat (List.set x2 ((List.length y1 : Int)).toNat (1 : Int)), ())

/-- cognate/align.tabled -/
def align_tabled_i1 (k : Nat) (a1 : (List (List UInt8) × List ((Int × Int × Int × Unit)) × Unit)) (x1 : List UInt8) (y1 : List UInt8) : Option (Sum Int (Int × (List (Int) × List (Int) × List (List (Int)) × List (List (Int)) × Unit))) :=
  Option.bind (word_Letters k (a1.1, a1.2.1, ()) x1) fun v1 =>
  if v1.2 != (0 : Int) then
    some (.inl v1.2)
  else
    (
      Option.bind (word_Letters k (a1.1, a1.2.1, ()) y1) fun v2 =>
      if v2.2 != (0 : Int) then
        some (.inl v2.2)
      else
        (
          Option.bind (align_filled_i1 k (a1.1, a1.2.1, ()) v1.1 v2.1) fun v3 =>
          some (.inr ((0 : Int), v3))
        )
    )

def align_table_first_j4 (t1 : (List (Int) × List (Int) × List (List (Int)) × List (List (Int)) × Unit)) (i1 : Int) (l1 : List ((Int × Int × Unit))) (go1 : Int → Int → (List ((Int × Int × Unit))) → Option (List ((Int × Int × Unit)))) (k1 : Int) (t5 : Bool) : Option (List ((Int × Int × Unit))) :=
  if t5 then
    (
      Option.bind (at? t1.1 i1) fun x5 =>
      Option.bind (chk (List.length l1 + List.length ([(x5, (0 : Int), ())] : List ((Int × Int × Unit))) ≤ lim)) fun _ =>
      go1 (wi64 (i1 + (1 : Int))) k1 (l1 ++ ([(x5, (0 : Int), ())] : List ((Int × Int × Unit))))
    )
  else
    (
      Option.bind (at? t1.2.1 k1) fun x6 =>
      Option.bind (chk (List.length l1 + List.length ([((0 : Int), x6, ())] : List ((Int × Int × Unit))) ≤ lim)) fun _ =>
      go1 i1 (wi64 (k1 + (1 : Int))) (l1 ++ ([((0 : Int), x6, ())] : List ((Int × Int × Unit))))
    )
def align_table_first_j3 (t1 : (List (Int) × List (Int) × List (List (Int)) × List (List (Int)) × Unit)) (i1 : Int) (k1 : Int) (l1 : List ((Int × Int × Unit))) (go1 : Int → Int → (List ((Int × Int × Unit))) → Option (List ((Int × Int × Unit)))) (x2 : Int) (t4 : Bool) : Option (List ((Int × Int × Unit))) :=
  if t4 then
    (
      Option.bind (at? t1.1 i1) fun x3 =>
      Option.bind (at? t1.2.1 k1) fun x4 =>
      Option.bind (chk (List.length l1 + List.length ([(x3, x4, ())] : List ((Int × Int × Unit))) ≤ lim)) fun _ =>
      go1 (wi64 (i1 + (1 : Int))) (wi64 (k1 + (1 : Int))) (l1 ++ ([(x3, x4, ())] : List ((Int × Int × Unit))))
    )
  else
    (
      if decide (i1 < (List.length t1.1 : Int)) then
        (
          Option.bind (at? t1.2.2.1 (wi64 (i1 + (1 : Int)))) fun x7 =>
          Option.bind (at? x7 k1) fun x8 =>
          align_table_first_j4 t1 i1 l1 go1 k1 (x2 == (wi64 ((5 : Int) + x8)))
        )
      else
        align_table_first_j4 t1 i1 l1 go1 k1 false
    )
def align_table_first_j2 (k : Nat) (t1 : (List (Int) × List (Int) × List (List (Int)) × List (List (Int)) × Unit)) (i1 : Int) (k1 : Int) (a1 : (List (List UInt8) × List ((Int × Int × Int × Unit)) × Unit)) (l1 : List ((Int × Int × Unit))) (go1 : Int → Int → (List ((Int × Int × Unit))) → Option (List ((Int × Int × Unit)))) (x2 : Int) (t3 : Bool) : Option (List ((Int × Int × Unit))) :=
  if t3 then
    (
      Option.bind (at? t1.1 i1) fun x9 =>
      Option.bind (at? t1.2.1 k1) fun x10 =>
      Option.bind (align_far k (a1.1, a1.2.1, ()) x9 x10) fun v1 =>
      Option.bind (at? t1.2.2.1 (wi64 (i1 + (1 : Int)))) fun x11 =>
      Option.bind (at? x11 (wi64 (k1 + (1 : Int)))) fun x12 =>
      align_table_first_j3 t1 i1 k1 l1 go1 x2 (x2 == (wi64 (v1 + x12)))
    )
  else
    align_table_first_j3 t1 i1 k1 l1 go1 x2 false
def align_table_first_j1 (k : Nat) (t1 : (List (Int) × List (Int) × List (List (Int)) × List (List (Int)) × Unit)) (i1 : Int) (k1 : Int) (a1 : (List (List UInt8) × List ((Int × Int × Int × Unit)) × Unit)) (l1 : List ((Int × Int × Unit))) (go1 : Int → Int → (List ((Int × Int × Unit))) → Option (List ((Int × Int × Unit)))) (t2 : Bool) : Option (List ((Int × Int × Unit))) :=
  if t2 then
    (
      Option.bind (at? t1.2.2.1 i1) fun x1 =>
      Option.bind (at? x1 k1) fun x2 =>
      align_table_first_j2 k t1 i1 k1 a1 l1 go1 x2 (decide (i1 < (List.length t1.1 : Int)) && (decide (k1 < (List.length t1.2.1 : Int))))
    )
  else
    some (l1)
def align_table_first_b1 (k : Nat) (t1 : (List (Int) × List (Int) × List (List (Int)) × List (List (Int)) × Unit)) (a1 : (List (List UInt8) × List ((Int × Int × Int × Unit)) × Unit)) (go1 : Int → Int → (List ((Int × Int × Unit))) → Option (List ((Int × Int × Unit)))) (i1 : Int) (k1 : Int) (l1 : List ((Int × Int × Unit))) : Option (List ((Int × Int × Unit))) :=
  align_table_first_j1 k t1 i1 k1 a1 l1 go1 (decide (i1 < (List.length t1.1 : Int)) || (decide (k1 < (List.length t1.2.1 : Int))))
def align_table_first_l1 (k : Nat) (t1 : (List (Int) × List (Int) × List (List (Int)) × List (List (Int)) × Unit)) (a1 : (List (List UInt8) × List ((Int × Int × Int × Unit)) × Unit)) : Nat → Int → Int → (List ((Int × Int × Unit))) → Option (List ((Int × Int × Unit)))
  | 0, _, _, _ => none
  | n + 1, i1, k1, l1 => align_table_first_b1 k t1 a1 (align_table_first_l1 k t1 a1 n) i1 k1 l1
/-- (*cognate/align.table).first -/
def align_table_first (k : Nat) (t1 : (List (Int) × List (Int) × List (List (Int)) × List (List (Int)) × Unit)) (a1 : (List (List UInt8) × List ((Int × Int × Int × Unit)) × Unit)) : Option (List ((Int × Int × Unit))) :=
  align_table_first_l1 k t1 a1 k (0 : Int) (0 : Int) ([] : List ((Int × Int × Unit)))

def align_table_first_i1_j4 (blk1 : (List (Int) × List (Int) × List (List (Int)) × List (List (Int)) × Unit)) (i1 : Int) (l2 : List ((Int × Int × Unit))) (go1 : Int → Int → (List ((Int × Int × Unit))) → Option (List ((Int × Int × Unit)))) (k1 : Int) (t4 : Bool) : Option (List ((Int × Int × Unit))) :=
  if t4 then
    (
      Option.bind (at? blk1.1 i1) fun x5 =>
      Option.bind (chk (List.length l2 + List.length ([(x5, (0 : Int), ())] : List ((Int × Int × Unit))) ≤ lim)) fun _ =>
      go1 (wi64 (i1 + (1 : Int))) k1 (l2 ++ ([(x5, (0 : Int), ())] : List ((Int × Int × Unit))))
    )
  else
    (
      Option.bind (at? blk1.2.1 k1) fun x6 =>
      Option.bind (chk (List.length l2 + List.length ([((0 : Int), x6, ())] : List ((Int × Int × Unit))) ≤ lim)) fun _ =>
      go1 i1 (wi64 (k1 + (1 : Int))) (l2 ++ ([((0 : Int), x6, ())] : List ((Int × Int × Unit))))
    )
def align_table_first_i1_j3 (blk1 : (List (Int) × List (Int) × List (List (Int)) × List (List (Int)) × Unit)) (i1 : Int) (k1 : Int) (l2 : List ((Int × Int × Unit))) (go1 : Int → Int → (List ((Int × Int × Unit))) → Option (List ((Int × Int × Unit)))) (x2 : Int) (t3 : Bool) : Option (List ((Int × Int × Unit))) :=
  if t3 then
    (
      Option.bind (at? blk1.1 i1) fun x3 =>
      Option.bind (at? blk1.2.1 k1) fun x4 =>
      Option.bind (chk (List.length l2 + List.length ([(x3, x4, ())] : List ((Int × Int × Unit))) ≤ lim)) fun _ =>
      go1 (wi64 (i1 + (1 : Int))) (wi64 (k1 + (1 : Int))) (l2 ++ ([(x3, x4, ())] : List ((Int × Int × Unit))))
    )
  else
    (
      if decide (i1 < (List.length blk1.1 : Int)) then
        (
          Option.bind (chk (0 ≤ (wi64 (i1 + (1 : Int))) ∧ (wi64 (i1 + (1 : Int))) < (65 : Int))) fun _ =>
          Option.bind (chk (0 ≤ k1 ∧ k1 < (65 : Int))) fun _ =>
          Option.bind (at? blk1.2.2.1 (wi64 (i1 + (1 : Int)))) fun x7 =>
          Option.bind (at? x7 k1) fun x8 =>
          align_table_first_i1_j4 blk1 i1 l2 go1 k1 (x2 == (wi64 ((5 : Int) + x8)))
        )
      else
        align_table_first_i1_j4 blk1 i1 l2 go1 k1 false
    )
def align_table_first_i1_j2 (k : Nat) (blk1 : (List (Int) × List (Int) × List (List (Int)) × List (List (Int)) × Unit)) (i1 : Int) (k1 : Int) (a1 : (List (List UInt8) × List ((Int × Int × Int × Unit)) × Unit)) (l2 : List ((Int × Int × Unit))) (go1 : Int → Int → (List ((Int × Int × Unit))) → Option (List ((Int × Int × Unit)))) (x2 : Int) (t2 : Bool) : Option (List ((Int × Int × Unit))) :=
  if t2 then
    (
      Option.bind (at? blk1.1 i1) fun x9 =>
      Option.bind (at? blk1.2.1 k1) fun x10 =>
      Option.bind (align_far k (a1.1, a1.2.1, ()) x9 x10) fun v1 =>
      Option.bind (chk (0 ≤ (wi64 (i1 + (1 : Int))) ∧ (wi64 (i1 + (1 : Int))) < (65 : Int))) fun _ =>
      Option.bind (chk (0 ≤ (wi64 (k1 + (1 : Int))) ∧ (wi64 (k1 + (1 : Int))) < (65 : Int))) fun _ =>
      Option.bind (at? blk1.2.2.1 (wi64 (i1 + (1 : Int)))) fun x11 =>
      Option.bind (at? x11 (wi64 (k1 + (1 : Int)))) fun x12 =>
      align_table_first_i1_j3 blk1 i1 k1 l2 go1 x2 (x2 == (wi64 (v1 + x12)))
    )
  else
    align_table_first_i1_j3 blk1 i1 k1 l2 go1 x2 false
def align_table_first_i1_j1 (k : Nat) (i1 : Int) (k1 : Int) (blk1 : (List (Int) × List (Int) × List (List (Int)) × List (List (Int)) × Unit)) (a1 : (List (List UInt8) × List ((Int × Int × Int × Unit)) × Unit)) (l2 : List ((Int × Int × Unit))) (go1 : Int → Int → (List ((Int × Int × Unit))) → Option (List ((Int × Int × Unit)))) (t1 : Bool) : Option (List ((Int × Int × Unit))) :=
  if t1 then
    (
      Option.bind (chk (0 ≤ i1 ∧ i1 < (65 : Int))) fun _ =>
      Option.bind (chk (0 ≤ k1 ∧ k1 < (65 : Int))) fun _ =>
      Option.bind (at? blk1.2.2.1 i1) fun x1 =>
      Option.bind (at? x1 k1) fun x2 =>
      align_table_first_i1_j2 k blk1 i1 k1 a1 l2 go1 x2 (decide (i1 < (List.length blk1.1 : Int)) && (decide (k1 < (List.length blk1.2.1 : Int))))
    )
  else
    some l2
def align_table_first_i1_b1 (k : Nat) (blk1 : (List (Int) × List (Int) × List (List (Int)) × List (List (Int)) × Unit)) (a1 : (List (List UInt8) × List ((Int × Int × Int × Unit)) × Unit)) (go1 : Int → Int → (List ((Int × Int × Unit))) → Option (List ((Int × Int × Unit)))) (i1 : Int) (k1 : Int) (l2 : List ((Int × Int × Unit))) : Option (List ((Int × Int × Unit))) :=
  align_table_first_i1_j1 k i1 k1 blk1 a1 l2 go1 (decide (i1 < (List.length blk1.1 : Int)) || (decide (k1 < (List.length blk1.2.1 : Int))))
def align_table_first_i1_l1 (k : Nat) (blk1 : (List (Int) × List (Int) × List (List (Int)) × List (List (Int)) × Unit)) (a1 : (List (List UInt8) × List ((Int × Int × Int × Unit)) × Unit)) : Nat → Int → Int → (List ((Int × Int × Unit))) → Option (List ((Int × Int × Unit)))
  | 0, _, _, _ => none
  | n + 1, i1, k1, l2 => align_table_first_i1_b1 k blk1 a1 (align_table_first_i1_l1 k blk1 a1 n) i1 k1 l2
/-- (*cognate/align.table).first -/
def align_table_first_i1 (k : Nat) (a1 : (List (List UInt8) × List ((Int × Int × Int × Unit)) × Unit)) (blk1 : (List (Int) × List (Int) × List (List (Int)) × List (List (Int)) × Unit)) : Option (List ((Int × Int × Unit))) :=
  align_table_first_i1_l1 k blk1 a1 k (0 : Int) (0 : Int) ([] : List ((Int × Int × Unit)))

/-- cognate/align.Words -/
def align_Words (k : Nat) (a1 : (List (List UInt8) × List ((Int × Int × Int × Unit)) × Unit)) (x1 : List UInt8) (y1 : List UInt8) : Option (Int × List ((Int × Int × Unit)) × Int) :=
  Option.bind (align_tabled_i1 k (a1.1, a1.2.1, ()) x1 y1) fun v1 => sumCase v1 (fun v2 =>
    if v2 != (0 : Int) then
      some ((0 : Int), ([] : List ((Int × Int × Unit))), v2)
    else
      none
  ) fun v3 =>
  if v3.1 != (0 : Int) then
    some ((0 : Int), ([] : List ((Int × Int × Unit))), v3.1)
  else
    (
      Option.bind (chk (0 ≤ (0 : Int) ∧ (0 : Int) < (65 : Int))) fun _ =>
      Option.bind (chk (0 ≤ (0 : Int) ∧ (0 : Int) < (65 : Int))) fun _ =>
      Option.bind (at? v3.2.2.2.1 (0 : Int)) fun x2 =>
      Option.bind (at? x2 (0 : Int)) fun x3 =>
      Option.bind (align_table_first_i1 k (a1.1, a1.2.1, ()) v3.2) fun v4 =>
      some (x3, v4, (0 : Int))
    )

def corr_aligned_b1 (k : Nat) (l1 : List (List (List UInt8))) (a1 : (List (List UInt8) × List ((Int × Int × Int × Unit)) × Unit)) (go1 : Int → (List (List ((Int × Int × Unit)))) → Option (List (List ((Int × Int × Unit))) × Int)) (t1 : Int) (out1 : List (List ((Int × Int × Unit)))) : Option (List (List ((Int × Int × Unit))) × Int) :=
  if decide (t1 < (List.length l1 : Int)) then
    (
      Option.bind (at? l1 t1) fun x1 =>
      Option.bind (chk (0 ≤ (0 : Int) ∧ (0 : Int) < (2 : Int))) fun _ =>
      Option.bind (at? x1 (0 : Int)) fun x2 =>
      Option.bind (chk (0 ≤ (1 : Int) ∧ (1 : Int) < (2 : Int))) fun _ =>
      Option.bind (at? x1 (1 : Int)) fun x3 =>
      Option.bind (align_Words k (a1.1, a1.2.1, ()) x2 x3) fun v2 =>
      if v2.2.2 != (0 : Int) then
        some (([] : List (List ((Int × Int × Unit)))), v2.2.2)
      else
        (
          Option.bind (chk (List.length out1 + List.length ([v2.2.1] : List (List ((Int × Int × Unit)))) ≤ lim)) fun _ =>
          go1 (wi64 (t1 + (1 : Int))) (out1 ++ ([v2.2.1] : List (List ((Int × Int × Unit)))))
        )
    )
  else
    some (out1, (0 : Int))
def corr_aligned_l1 (k : Nat) (l1 : List (List (List UInt8))) (a1 : (List (List UInt8) × List ((Int × Int × Int × Unit)) × Unit)) : Nat → Int → (List (List ((Int × Int × Unit)))) → Option (List (List ((Int × Int × Unit))) × Int)
  | 0, _, _ => none
  | n + 1, t1, out1 => corr_aligned_b1 k l1 a1 (corr_aligned_l1 k l1 a1 n) t1 out1
/-- cognate/corr.aligned -/
def corr_aligned (k : Nat) (a1 : (List (List UInt8) × List ((Int × Int × Int × Unit)) × Unit)) (l1 : List (List (List UInt8))) : Option (List (List ((Int × Int × Unit))) × Int) :=
  Option.bind (feature_Check k (a1.1, a1.2.1, ())) fun v1 =>
  if v1 != (0 : Int) then
    some (([] : List (List ((Int × Int × Unit)))), v1)
  else
    (
      if decide ((4096 : Int) < (List.length l1 : Int)) then
        some (([] : List (List ((Int × Int × Unit)))), (4 : Int))
      else
        corr_aligned_l1 k l1 a1 k (0 : Int) ([] : List (List ((Int × Int × Unit))))
    )

/-- maps.Keys[map[cognate/api.Pair]int,cognate/api.Pair,int] -/
def maps_Keys_map_api_Pair_int_api_Pair_int__i1 (k : Nat) (m1 : List ((Int × Int × Unit) × Int)) : Option Unit :=
  some ()

def corr_counted_b2 (x1 : List ((Int × Int × Unit))) (go1 : Int → (List (List UInt8)) → (List ((Int × Int × Int × Unit))) → (List ((Int × Int × Unit) × Int)) → Option (List (((Int × Int × Unit) × Int × Unit)))) (t1 : Int) (a2 : List (List UInt8)) (a3 : List ((Int × Int × Int × Unit))) (go2 : Int → (List ((Int × Int × Unit) × Int)) → Option (List (((Int × Int × Unit) × Int × Unit)))) (t2 : Int) (m2 : List ((Int × Int × Unit) × Int)) : Option (List (((Int × Int × Unit) × Int × Unit))) :=
  if decide (t2 < (List.length x1 : Int)) then
    (
      Option.bind (at? x1 t2) fun x2 =>
      go2 (wi64 (t2 + (1 : Int))) (mset (eqEl (.pair (.int .i32) (.pair (.int .i32) .unit))) m2 (x2.1, x2.2.1, ()) (wi64 (((mget (eqEl (.pair (.int .i32) (.pair (.int .i32) .unit))) m2 (x2.1, x2.2.1, ())).getD (0 : Int)) + (1 : Int))))
    )
  else
    go1 (wi64 (t1 + (1 : Int))) a2 a3 m2
def corr_counted_l2 (x1 : List ((Int × Int × Unit))) (go1 : Int → (List (List UInt8)) → (List ((Int × Int × Int × Unit))) → (List ((Int × Int × Unit) × Int)) → Option (List (((Int × Int × Unit) × Int × Unit)))) (t1 : Int) (a2 : List (List UInt8)) (a3 : List ((Int × Int × Int × Unit))) : Nat → Int → (List ((Int × Int × Unit) × Int)) → Option (List (((Int × Int × Unit) × Int × Unit)))
  | 0, _, _ => none
  | n + 1, t2, m2 => corr_counted_b2 x1 go1 t1 a2 a3 (corr_counted_l2 x1 go1 t1 a2 a3 n) t2 m2
def corr_counted_b4 (v2 : List ((Int × Int × Unit))) (m1 : List ((Int × Int × Unit) × Int)) (go4 : Int → (List (((Int × Int × Unit) × Int × Unit))) → Option (List (((Int × Int × Unit) × Int × Unit)))) (t4 : Int) (out1 : List (((Int × Int × Unit) × Int × Unit))) : Option (List (((Int × Int × Unit) × Int × Unit))) :=
  if decide (t4 < (List.length v2 : Int)) then
    (
      Option.bind (at? v2 t4) fun x4 =>
      Option.bind (chk (List.length out1 + List.length ([((x4.1, x4.2.1, ()), (mget (eqEl (.pair (.int .i32) (.pair (.int .i32) .unit))) m1 (x4.1, x4.2.1, ())).getD (0 : Int), ())] : List (((Int × Int × Unit) × Int × Unit))) ≤ lim)) fun _ =>
      go4 (wi64 (t4 + (1 : Int))) (out1 ++ ([((x4.1, x4.2.1, ()), (mget (eqEl (.pair (.int .i32) (.pair (.int .i32) .unit))) m1 (x4.1, x4.2.1, ())).getD (0 : Int), ())] : List (((Int × Int × Unit) × Int × Unit))))
    )
  else
    some (out1)
def corr_counted_l4 (v2 : List ((Int × Int × Unit))) (m1 : List ((Int × Int × Unit) × Int)) : Nat → Int → (List (((Int × Int × Unit) × Int × Unit))) → Option (List (((Int × Int × Unit) × Int × Unit)))
  | 0, _, _ => none
  | n + 1, t4, out1 => corr_counted_b4 v2 m1 (corr_counted_l4 v2 m1 n) t4 out1
def corr_counted_b3 (k : Nat) (a3 : List ((Int × Int × Int × Unit))) (m1 : List ((Int × Int × Unit) × Int)) (go3 : Int → (List (Int × Int)) → Option (List (((Int × Int × Unit) × Int × Unit)))) (t3 : Int) (m3 : List (Int × Int)) : Option (List (((Int × Int × Unit) × Int × Unit))) :=
  if decide (t3 < (List.length a3 : Int)) then
    (
      Option.bind (at? a3 t3) fun x3 =>
      go3 (wi64 (t3 + (1 : Int))) (mset (eqEl (.int .i32)) m3 x3.1 (wi64 (t3 + (1 : Int))))
    )
  else
    (
      Option.bind (maps_Keys_map_api_Pair_int_api_Pair_int__i1 k m1) fun v1 =>
      Option.bind (sortedPairs k m1 m3) fun v2 =>
      corr_counted_l4 v2 m1 k (0 : Int) ([] : List (((Int × Int × Unit) × Int × Unit)))
    )
def corr_counted_l3 (k : Nat) (a3 : List ((Int × Int × Int × Unit))) (m1 : List ((Int × Int × Unit) × Int)) : Nat → Int → (List (Int × Int)) → Option (List (((Int × Int × Unit) × Int × Unit)))
  | 0, _, _ => none
  | n + 1, t3, m3 => corr_counted_b3 k a3 m1 (corr_counted_l3 k a3 m1 n) t3 m3
def corr_counted_b1 (k : Nat) (l1 : List (List ((Int × Int × Unit)))) (go1 : Int → (List (List UInt8)) → (List ((Int × Int × Int × Unit))) → (List ((Int × Int × Unit) × Int)) → Option (List (((Int × Int × Unit) × Int × Unit)))) (t1 : Int) (a2 : List (List UInt8)) (a3 : List ((Int × Int × Int × Unit))) (m1 : List ((Int × Int × Unit) × Int)) : Option (List (((Int × Int × Unit) × Int × Unit))) :=
  if decide (t1 < (List.length l1 : Int)) then
    (
      Option.bind (at? l1 t1) fun x1 =>
      corr_counted_l2 x1 go1 t1 a2 a3 k (0 : Int) m1
    )
  else
    corr_counted_l3 k a3 m1 k (0 : Int) ([] : List (Int × Int))
def corr_counted_l1 (k : Nat) (l1 : List (List ((Int × Int × Unit)))) : Nat → Int → (List (List UInt8)) → (List ((Int × Int × Int × Unit))) → (List ((Int × Int × Unit) × Int)) → Option (List (((Int × Int × Unit) × Int × Unit)))
  | 0, _, _, _, _ => none
  | n + 1, t1, a2, a3, m1 => corr_counted_b1 k l1 (corr_counted_l1 k l1 n) t1 a2 a3 m1
/-- cognate/corr.counted -/
def corr_counted (k : Nat) (a1 : (List (List UInt8) × List ((Int × Int × Int × Unit)) × Unit)) (l1 : List (List ((Int × Int × Unit)))) : Option (List (((Int × Int × Unit) × Int × Unit))) :=
  corr_counted_l1 k l1 k (0 : Int) a1.1 a1.2.1 ([] : List ((Int × Int × Unit) × Int))

/-- cognate/corr.Counts -/
def corr_Counts (k : Nat) (a1 : (List (List UInt8) × List ((Int × Int × Int × Unit)) × Unit)) (l1 : List (List (List UInt8))) : Option (List (((Int × Int × Unit) × Int × Unit)) × Int) :=
  Option.bind (corr_aligned k (a1.1, a1.2.1, ()) l1) fun v1 =>
  if v1.2 != (0 : Int) then
    some (([] : List (((Int × Int × Unit) × Int × Unit))), v1.2)
  else
    (
      Option.bind (corr_counted k (a1.1, a1.2.1, ()) v1.1) fun v2 =>
      some (v2, (0 : Int))
    )

/-- cognate/cognatelaw28.count -/
def l28_count (k : Nat) (x1 : Int) (y1 : Int) (n1 : Int) : Option ((Int × Int × Unit) × Int × Unit) :=
  some (((x1, y1, ()), n1, ()))

def l28_alive_j4  (t4 : Bool) : Option Bool :=
  some (t4)
def l28_alive_j3 (k : Nat) (v3 : (List (((Int × Int × Unit) × Int × Unit)) × Int)) (t3 : Bool) : Option Bool :=
  if t3 then
    (
      Option.bind (at? v3.1 (2 : Int)) fun x1 =>
      Option.bind (l28_count k (112 : Int) (0 : Int) (1 : Int)) fun v4 =>
      l28_alive_j4 (((eqInt x1.1.1 v4.1.1) && ((eqInt x1.1.2.1 v4.1.2.1) && (true))) && ((eqInt x1.2.1 v4.2.1) && (true)))
    )
  else
    l28_alive_j4 false
def l28_alive_j2 (k : Nat) (v3 : (List (((Int × Int × Unit) × Int × Unit)) × Int)) (t2 : Bool) : Option Bool :=
  if t2 then
    (
      Option.bind (at? v3.1 (1 : Int)) fun x2 =>
      Option.bind (l28_count k (112 : Int) (98 : Int) (2 : Int)) fun v5 =>
      l28_alive_j3 k v3 (((eqInt x2.1.1 v5.1.1) && ((eqInt x2.1.2.1 v5.1.2.1) && (true))) && ((eqInt x2.2.1 v5.2.1) && (true)))
    )
  else
    l28_alive_j3 k v3 false
def l28_alive_j1 (k : Nat) (v3 : (List (((Int × Int × Unit) × Int × Unit)) × Int)) (t1 : Bool) : Option Bool :=
  if t1 then
    (
      Option.bind (at? v3.1 (0 : Int)) fun x3 =>
      Option.bind (l28_count k (97 : Int) (97 : Int) (3 : Int)) fun v6 =>
      l28_alive_j2 k v3 (((eqInt x3.1.1 v6.1.1) && ((eqInt x3.1.2.1 v6.1.2.1) && (true))) && ((eqInt x3.2.1 v6.2.1) && (true)))
    )
  else
    l28_alive_j2 k v3 false
/-- cognate/cognatelaw28.alive -/
def l28_alive (k : Nat)  : Option Bool :=
  Option.bind (l28_letters k) fun v1 =>
  Option.bind (l28_three k) fun v2 =>
  Option.bind (corr_Counts k v1 v2) fun v3 =>
  l28_alive_j1 k v3 ((v3.2 == (0 : Int)) && ((List.length v3.1 : Int) == (3 : Int)))

def l28_long_j4 (go1 : Int → Option Bool) (i1 : Int) (t4 : Bool) : Option Bool :=
  if t4 then
    some (true)
  else
    go1 (wi64 (i1 + (1 : Int)))
def l28_long_b1 (l1 : List (List (List UInt8))) (go1 : Int → Option Bool) (i1 : Int) : Option Bool :=
  if decide (i1 < (List.length l1 : Int)) then
    (
      Option.bind (at? l1 i1) fun x1 =>
      Option.bind (at? x1 (0 : Int)) fun x2 =>
      if decide ((1000 : Int) < (List.length x2 : Int)) then
        l28_long_j4 go1 i1 true
      else
        (
          Option.bind (at? x1 (1 : Int)) fun x3 =>
          l28_long_j4 go1 i1 (decide ((1000 : Int) < (List.length x3 : Int)))
        )
    )
  else
    some (false)
def l28_long_l1 (l1 : List (List (List UInt8))) : Nat → Int → Option Bool
  | 0, _ => none
  | n + 1, i1 => l28_long_b1 l1 (l28_long_l1 l1 n) i1
def l28_long_j3 (k : Nat) (l1 : List (List (List UInt8))) (t3 : Bool) : Option Bool :=
  if t3 then
    some (true)
  else
    l28_long_l1 l1 k (0 : Int)
def l28_long_j2 (k : Nat) (l1 : List (List (List UInt8))) (t2 : Bool) : Option Bool :=
  l28_long_j3 k l1 (t2 || (decide ((5000 : Int) < (List.length l1 : Int))))
def l28_long_j5 (k : Nat) (l1 : List (List (List UInt8))) (t5 : Bool) : Option Bool :=
  l28_long_j2 k l1 t5
def l28_long_j1 (k : Nat) (l1 : List (List (List UInt8))) (t1 : Bool) : Option Bool :=
  if t1 then
    l28_long_j2 k l1 true
  else
    l28_long_j5 k l1 (decide ((40 : Int) < (List.length l1 : Int)) && (decide ((List.length l1 : Int) ≤ (4096 : Int))))
/-- cognate/cognatelaw28.long -/
def l28_long (k : Nat) (a1 : (List (List UInt8) × List ((Int × Int × Int × Unit)) × Unit)) (l1 : List (List (List UInt8))) : Option Bool :=
  l28_long_j1 k l1 (decide ((300 : Int) < (List.length a1.2.1 : Int)) || (decide ((60 : Int) < (List.length a1.1 : Int))))

def corr_Regular_j1 (go2 : Int → (List (Int × Int)) → Option (Bool × Int × Int)) (t2 : Int) (m3 : List (Int × Int)) : Option (Bool × Int × Int) :=
  go2 (wi64 (t2 + (1 : Int))) m3
def corr_Regular_j2 (t1 : Int) (go2 : Int → (List (Int × Int)) → Option (Bool × Int × Int)) (t2 : Int) (m2 : List (Int × Int)) (x2 : (Int × Int × Unit)) (t3 : Bool) : Option (Bool × Int × Int) :=
  if t3 then
    some (false, t1, (0 : Int))
  else
    corr_Regular_j1 go2 t2 (mset (eqEl (.int .i32)) m2 x2.1 x2.2.1)
def corr_Regular_b2 (x1 : List ((Int × Int × Unit))) (t1 : Int) (go1 : Int → (List (Int × Int)) → Option (Bool × Int × Int)) (go2 : Int → (List (Int × Int)) → Option (Bool × Int × Int)) (t2 : Int) (m2 : List (Int × Int)) : Option (Bool × Int × Int) :=
  if decide (t2 < (List.length x1 : Int)) then
    (
      Option.bind (at? x1 t2) fun x2 =>
      if x2.1 == (0 : Int) then
        corr_Regular_j1 go2 t2 m2
      else
        corr_Regular_j2 t1 go2 t2 m2 x2 (((mget (eqEl (.int .i32)) m2 x2.1).isSome) && (((mget (eqEl (.int .i32)) m2 x2.1).getD (0 : Int)) != x2.2.1))
    )
  else
    go1 (wi64 (t1 + (1 : Int))) m2
def corr_Regular_l2 (x1 : List ((Int × Int × Unit))) (t1 : Int) (go1 : Int → (List (Int × Int)) → Option (Bool × Int × Int)) : Nat → Int → (List (Int × Int)) → Option (Bool × Int × Int)
  | 0, _, _ => none
  | n + 1, t2, m2 => corr_Regular_b2 x1 t1 go1 (corr_Regular_l2 x1 t1 go1 n) t2 m2
def corr_Regular_b1 (k : Nat) (v1 : (List (List ((Int × Int × Unit))) × Int)) (go1 : Int → (List (Int × Int)) → Option (Bool × Int × Int)) (t1 : Int) (m1 : List (Int × Int)) : Option (Bool × Int × Int) :=
  if decide (t1 < (List.length v1.1 : Int)) then
    (
      Option.bind (at? v1.1 t1) fun x1 =>
      corr_Regular_l2 x1 t1 go1 k (0 : Int) m1
    )
  else
    some (true, (-1 : Int), (0 : Int))
def corr_Regular_l1 (k : Nat) (v1 : (List (List ((Int × Int × Unit))) × Int)) : Nat → Int → (List (Int × Int)) → Option (Bool × Int × Int)
  | 0, _, _ => none
  | n + 1, t1, m1 => corr_Regular_b1 k v1 (corr_Regular_l1 k v1 n) t1 m1
/-- cognate/corr.Regular -/
def corr_Regular (k : Nat) (a1 : (List (List UInt8) × List ((Int × Int × Int × Unit)) × Unit)) (l1 : List (List (List UInt8))) : Option (Bool × Int × Int) :=
  Option.bind (corr_aligned k (a1.1, a1.2.1, ()) l1) fun v1 =>
  if v1.2 != (0 : Int) then
    some (false, (0 : Int), v1.2)
  else
    corr_Regular_l1 k v1 k (0 : Int) ([] : List (Int × Int))

def corr_Odd_c1_j1  (t2 : Bool) : Option Bool :=
  some (t2)
/-- cognate/corr.Odd.1 -/
def corr_Odd_c1 (k : Nat) (x1 : (Int × Int × Unit)) (t1 : Option (List (Int × Int))) : Option Bool :=
  corr_Odd_c1_j1 ((x1.1 != (0 : Int)) && (((mget (eqEl (.int .i32)) (t1.getD []) x1.1).getD (0 : Int)) != x1.2.1))

def slices_IndexFunc___api_Pair_api_Pair__Odd_c1_b1 (k : Nat) (s1 : List ((Int × Int × Unit))) (f1 : (Option (List (Int × Int)) × Unit)) (go1 : Int → Option Int) (t1 : Int) : Option Int :=
  if decide (t1 < (List.length s1 : Int)) then
    (
      Option.bind (at? s1 t1) fun x1 =>
      Option.bind (corr_Odd_c1 k x1 f1.1) fun v1 =>
      if v1 then
        some (t1)
      else
        go1 (wi64 (t1 + (1 : Int)))
    )
  else
    some ((-1 : Int))
def slices_IndexFunc___api_Pair_api_Pair__Odd_c1_l1 (k : Nat) (s1 : List ((Int × Int × Unit))) (f1 : (Option (List (Int × Int)) × Unit)) : Nat → Int → Option Int
  | 0, _ => none
  | n + 1, t1 => slices_IndexFunc___api_Pair_api_Pair__Odd_c1_b1 k s1 f1 (slices_IndexFunc___api_Pair_api_Pair__Odd_c1_l1 k s1 f1 n) t1
/-- slices.IndexFunc[[]cognate/api.Pair,cognate/api.Pair] -/
def slices_IndexFunc___api_Pair_api_Pair__Odd_c1 (k : Nat) (s1 : List ((Int × Int × Unit))) (f1 : (Option (List (Int × Int)) × Unit)) : Option Int :=
  slices_IndexFunc___api_Pair_api_Pair__Odd_c1_l1 k s1 f1 k (0 : Int)

/-- slices.ContainsFunc[[]cognate/api.Pair,cognate/api.Pair] -/
def slices_ContainsFunc___api_Pair_api_Pair__Odd_c1 (k : Nat) (s1 : List ((Int × Int × Unit))) (f1 : (Option (List (Int × Int)) × Unit)) : Option Bool :=
  Option.bind (slices_IndexFunc___api_Pair_api_Pair__Odd_c1 k s1 f1) fun v1 =>
  some (decide ((0 : Int) ≤ v1))

def corr_Odd_j1 (go1 : Int → (List (Int × Int)) → Option (List (Int) × Int)) (t1 : Int) (m2 : List (Int × Int)) : Option (List (Int) × Int) :=
  go1 (wi64 (t1 + (1 : Int))) m2
def corr_Odd_j2 (go2 : Int → (List (Int)) → Option (List (Int) × Int)) (t2 : Int) (out2 : List (Int)) : Option (List (Int) × Int) :=
  go2 (wi64 (t2 + (1 : Int))) out2
def corr_Odd_b2 (k : Nat) (v1 : (List (List ((Int × Int × Unit))) × Int)) (m1 : List (Int × Int)) (go2 : Int → (List (Int)) → Option (List (Int) × Int)) (t2 : Int) (out1 : List (Int)) : Option (List (Int) × Int) :=
  if decide (t2 < (List.length v1.1 : Int)) then
    (
      Option.bind (at? v1.1 t2) fun x2 =>
      Option.bind (slices_ContainsFunc___api_Pair_api_Pair__Odd_c1 k x2 (some m1, ())) fun v3 =>
      if v3 then
        (
          Option.bind (chk (List.length out1 + List.length ([t2] : List (Int)) ≤ lim)) fun _ =>
          corr_Odd_j2 go2 t2 (out1 ++ ([t2] : List (Int)))
        )
      else
        corr_Odd_j2 go2 t2 out1
    )
  else
    some (out1, (0 : Int))
def corr_Odd_l2 (k : Nat) (v1 : (List (List ((Int × Int × Unit))) × Int)) (m1 : List (Int × Int)) : Nat → Int → (List (Int)) → Option (List (Int) × Int)
  | 0, _, _ => none
  | n + 1, t2, out1 => corr_Odd_b2 k v1 m1 (corr_Odd_l2 k v1 m1 n) t2 out1
def corr_Odd_b1 (k : Nat) (v2 : List (((Int × Int × Unit) × Int × Unit))) (v1 : (List (List ((Int × Int × Unit))) × Int)) (go1 : Int → (List (Int × Int)) → Option (List (Int) × Int)) (t1 : Int) (m1 : List (Int × Int)) : Option (List (Int) × Int) :=
  if decide (t1 < (List.length v2 : Int)) then
    (
      Option.bind (at? v2 t1) fun x1 =>
      if !((mget (eqEl (.int .i32)) m1 x1.1.1).isSome) then
        corr_Odd_j1 go1 t1 (mset (eqEl (.int .i32)) m1 x1.1.1 x1.1.2.1)
      else
        corr_Odd_j1 go1 t1 m1
    )
  else
    corr_Odd_l2 k v1 m1 k (0 : Int) ([] : List (Int))
def corr_Odd_l1 (k : Nat) (v2 : List (((Int × Int × Unit) × Int × Unit))) (v1 : (List (List ((Int × Int × Unit))) × Int)) : Nat → Int → (List (Int × Int)) → Option (List (Int) × Int)
  | 0, _, _ => none
  | n + 1, t1, m1 => corr_Odd_b1 k v2 v1 (corr_Odd_l1 k v2 v1 n) t1 m1
/-- cognate/corr.Odd -/
def corr_Odd (k : Nat) (a1 : (List (List UInt8) × List ((Int × Int × Int × Unit)) × Unit)) (l1 : List (List (List UInt8))) : Option (List (Int) × Int) :=
  Option.bind (corr_aligned k (a1.1, a1.2.1, ()) l1) fun v1 =>
  if v1.2 != (0 : Int) then
    some (([] : List (Int)), v1.2)
  else
    (
      Option.bind (corr_counted k (a1.1, a1.2.1, ()) v1.1) fun v2 =>
      corr_Odd_l1 k v2 v1 k (0 : Int) ([] : List (Int × Int))
    )

def l28_CorrAll_j5  (t5 : Bool) : Option Bool :=
  some (t5)
def l28_CorrAll_j4 (v5 : (List (Int) × Int)) (t4 : Bool) : Option Bool :=
  l28_CorrAll_j5 (t4 && ((List.length v5.1 : Int) == (0 : Int)))
def l28_CorrAll_j3 (v5 : (List (Int) × Int)) (v4 : (Bool × Int × Int)) (t3 : Bool) : Option Bool :=
  l28_CorrAll_j4 v5 (t3 && (v4.2.1 == (0 : Int)))
def l28_CorrAll_j2 (v5 : (List (Int) × Int)) (v4 : (Bool × Int × Int)) (t2 : Bool) : Option Bool :=
  l28_CorrAll_j3 v5 v4 (t2 && (!v4.1))
def l28_CorrAll_b2 (v6 : (Int × List ((Int × Int × Unit)) × Int)) (go1 : Int → Int → (List (List UInt8)) → (List ((Int × Int × Int × Unit))) → (List ((Int × Int × Unit) × Int)) → Option Bool) (i1 : Int) (a2 : List (List UInt8)) (a3 : List ((Int × Int × Int × Unit))) (go2 : Int → Int → (List ((Int × Int × Unit) × Int)) → Option Bool) (total2 : Int) (k1 : Int) (m2 : List ((Int × Int × Unit) × Int)) : Option Bool :=
  if decide (k1 < (List.length v6.2.1 : Int)) then
    (
      Option.bind (at? v6.2.1 k1) fun x4 =>
      go2 (wi64 (total2 + (1 : Int))) (wi64 (k1 + (1 : Int))) (mset (eqEl (.pair (.int .i32) (.pair (.int .i32) .unit))) m2 x4 (wi64 (((mget (eqEl (.pair (.int .i32) (.pair (.int .i32) .unit))) m2 x4).getD (0 : Int)) + (1 : Int))))
    )
  else
    go1 total2 (wi64 (i1 + (1 : Int))) a2 a3 m2
def l28_CorrAll_l2 (v6 : (Int × List ((Int × Int × Unit)) × Int)) (go1 : Int → Int → (List (List UInt8)) → (List ((Int × Int × Int × Unit))) → (List ((Int × Int × Unit) × Int)) → Option Bool) (i1 : Int) (a2 : List (List UInt8)) (a3 : List ((Int × Int × Int × Unit))) : Nat → Int → Int → (List ((Int × Int × Unit) × Int)) → Option Bool
  | 0, _, _, _ => none
  | n + 1, total2, k1, m2 => l28_CorrAll_b2 v6 go1 i1 a2 a3 (l28_CorrAll_l2 v6 go1 i1 a2 a3 n) total2 k1 m2
def l28_CorrAll_j8 (go4 : Bool → Int → Option Bool) (k2 : Int) (t8 : Bool) : Option Bool :=
  go4 t8 (wi64 (k2 + (1 : Int)))
def l28_CorrAll_j9 (go4 : Bool → Int → Option Bool) (k2 : Int) (t9 : Bool) : Option Bool :=
  l28_CorrAll_j8 go4 k2 t9
def l28_CorrAll_b4 (i2 : Int) (v3 : (List (((Int × Int × Unit) × Int × Unit)) × Int)) (go3 : Int → Bool → Int → (List ((Int × Int × Unit) × Int)) → Option Bool) (total3 : Int) (x6 : ((Int × Int × Unit) × Int × Unit)) (m3 : List ((Int × Int × Unit) × Int)) (go4 : Bool → Int → Option Bool) (alone2 : Bool) (k2 : Int) : Option Bool :=
  if decide (k2 < i2) then
    (
      Option.bind (at? v3.1 k2) fun x7 =>
      Option.bind (at? v3.1 i2) fun x8 =>
      if (eqInt x7.1.1 x8.1.1) && ((eqInt x7.1.2.1 x8.1.2.1) && (true)) then
        some (false)
      else
        (
          if alone2 then
            l28_CorrAll_j9 go4 k2 ((x7.1.1 == (0 : Int)) || (x7.1.1 != x8.1.1))
          else
            l28_CorrAll_j8 go4 k2 false
        )
    )
  else
    go3 (wi64 (total3 - x6.2.1)) alone2 (wi64 (i2 + (1 : Int))) m3
def l28_CorrAll_l4 (i2 : Int) (v3 : (List (((Int × Int × Unit) × Int × Unit)) × Int)) (go3 : Int → Bool → Int → (List ((Int × Int × Unit) × Int)) → Option Bool) (total3 : Int) (x6 : ((Int × Int × Unit) × Int × Unit)) (m3 : List ((Int × Int × Unit) × Int)) : Nat → Bool → Int → Option Bool
  | 0, _, _ => none
  | n + 1, alone2, k2 => l28_CorrAll_b4 i2 v3 go3 total3 x6 m3 (l28_CorrAll_l4 i2 v3 go3 total3 x6 m3 n) alone2 k2
def l28_CorrAll_j7 (k : Nat) (v3 : (List (((Int × Int × Unit) × Int × Unit)) × Int)) (i2 : Int) (go3 : Int → Bool → Int → (List ((Int × Int × Unit) × Int)) → Option Bool) (total3 : Int) (m3 : List ((Int × Int × Unit) × Int)) (alone1 : Bool) (t7 : Bool) : Option Bool :=
  if t7 then
    some (false)
  else
    (
      Option.bind (at? v3.1 i2) fun x6 =>
      l28_CorrAll_l4 i2 v3 go3 total3 x6 m3 k alone1 (0 : Int)
    )
def l28_CorrAll_j10 (k : Nat) (v3 : (List (((Int × Int × Unit) × Int × Unit)) × Int)) (i2 : Int) (go3 : Int → Bool → Int → (List ((Int × Int × Unit) × Int)) → Option Bool) (total3 : Int) (m3 : List ((Int × Int × Unit) × Int)) (alone1 : Bool) (t10 : Bool) : Option Bool :=
  l28_CorrAll_j7 k v3 i2 go3 total3 m3 alone1 t10
def l28_CorrAll_j6 (k : Nat) (v3 : (List (((Int × Int × Unit) × Int × Unit)) × Int)) (i2 : Int) (go3 : Int → Bool → Int → (List ((Int × Int × Unit) × Int)) → Option Bool) (total3 : Int) (m3 : List ((Int × Int × Unit) × Int)) (alone1 : Bool) (t6 : Bool) : Option Bool :=
  if t6 then
    l28_CorrAll_j7 k v3 i2 go3 total3 m3 alone1 true
  else
    (
      if decide ((0 : Int) < i2) then
        (
          Option.bind (at? v3.1 i2) fun x9 =>
          Option.bind (at? v3.1 (wi64 (i2 - (1 : Int)))) fun x10 =>
          l28_CorrAll_j10 k v3 i2 go3 total3 m3 alone1 (decide (x10.2.1 < x9.2.1))
        )
      else
        l28_CorrAll_j10 k v3 i2 go3 total3 m3 alone1 false
    )
def l28_CorrAll_j15  (t15 : Bool) : Option Bool :=
  some (t15)
def l28_CorrAll_j14 (v4 : (Bool × Int × Int)) (l1 : List (List (List UInt8))) (t14 : Bool) : Option Bool :=
  l28_CorrAll_j15 (t14 && (decide (v4.2.1 < (List.length l1 : Int))))
def l28_CorrAll_j13 (v4 : (Bool × Int × Int)) (l1 : List (List (List UInt8))) (v5 : (List (Int) × Int)) (t13 : Bool) : Option Bool :=
  l28_CorrAll_j14 v4 l1 (t13 && (v4.1 == ((List.length v5.1 : Int) == (0 : Int))))
def l28_CorrAll_j12 (v4 : (Bool × Int × Int)) (l1 : List (List (List UInt8))) (v5 : (List (Int) × Int)) (t12 : Bool) : Option Bool :=
  l28_CorrAll_j13 v4 l1 v5 (t12 && (v4.1 == (v4.2.1 == (-1 : Int))))
def l28_CorrAll_j11 (v4 : (Bool × Int × Int)) (l1 : List (List (List UInt8))) (v5 : (List (Int) × Int)) (alone1 : Bool) (t11 : Bool) : Option Bool :=
  l28_CorrAll_j12 v4 l1 v5 (t11 && (v4.1 == alone1))
def l28_CorrAll_b3 (k : Nat) (v3 : (List (((Int × Int × Unit) × Int × Unit)) × Int)) (v4 : (Bool × Int × Int)) (l1 : List (List (List UInt8))) (v5 : (List (Int) × Int)) (v1 : Bool) (go3 : Int → Bool → Int → (List ((Int × Int × Unit) × Int)) → Option Bool) (total3 : Int) (alone1 : Bool) (i2 : Int) (m3 : List ((Int × Int × Unit) × Int)) : Option Bool :=
  if decide (i2 < (List.length v3.1 : Int)) then
    (
      Option.bind (at? v3.1 i2) fun x5 =>
      l28_CorrAll_j6 k v3 i2 go3 total3 m3 alone1 ((((mget (eqEl (.pair (.int .i32) (.pair (.int .i32) .unit))) m3 x5.1).getD (0 : Int)) != x5.2.1) || (decide (x5.2.1 < (1 : Int))))
    )
  else
    l28_CorrAll_j11 v4 l1 v5 alone1 (v1 && (total3 == (0 : Int)))
def l28_CorrAll_l3 (k : Nat) (v3 : (List (((Int × Int × Unit) × Int × Unit)) × Int)) (v4 : (Bool × Int × Int)) (l1 : List (List (List UInt8))) (v5 : (List (Int) × Int)) (v1 : Bool) : Nat → Int → Bool → Int → (List ((Int × Int × Unit) × Int)) → Option Bool
  | 0, _, _, _, _ => none
  | n + 1, total3, alone1, i2, m3 => l28_CorrAll_b3 k v3 v4 l1 v5 v1 (l28_CorrAll_l3 k v3 v4 l1 v5 v1 n) total3 alone1 i2 m3
def l28_CorrAll_b1 (k : Nat) (l1 : List (List (List UInt8))) (v3 : (List (((Int × Int × Unit) × Int × Unit)) × Int)) (v4 : (Bool × Int × Int)) (v5 : (List (Int) × Int)) (v1 : Bool) (go1 : Int → Int → (List (List UInt8)) → (List ((Int × Int × Int × Unit))) → (List ((Int × Int × Unit) × Int)) → Option Bool) (total1 : Int) (i1 : Int) (a2 : List (List UInt8)) (a3 : List ((Int × Int × Int × Unit))) (m1 : List ((Int × Int × Unit) × Int)) : Option Bool :=
  if decide (i1 < (List.length l1 : Int)) then
    (
      Option.bind (at? l1 i1) fun x1 =>
      Option.bind (at? x1 (0 : Int)) fun x2 =>
      Option.bind (at? x1 (1 : Int)) fun x3 =>
      Option.bind (align_Words k (a2, a3, ()) x2 x3) fun v6 =>
      if v6.2.2 != (0 : Int) then
        some (false)
      else
        l28_CorrAll_l2 v6 go1 i1 a2 a3 k total1 (0 : Int) m1
    )
  else
    l28_CorrAll_l3 k v3 v4 l1 v5 v1 k total1 true (0 : Int) m1
def l28_CorrAll_l1 (k : Nat) (l1 : List (List (List UInt8))) (v3 : (List (((Int × Int × Unit) × Int × Unit)) × Int)) (v4 : (Bool × Int × Int)) (v5 : (List (Int) × Int)) (v1 : Bool) : Nat → Int → Int → (List (List UInt8)) → (List ((Int × Int × Int × Unit))) → (List ((Int × Int × Unit) × Int)) → Option Bool
  | 0, _, _, _, _, _ => none
  | n + 1, total1, i1, a2, a3, m1 => l28_CorrAll_b1 k l1 v3 v4 v5 v1 (l28_CorrAll_l1 k l1 v3 v4 v5 v1 n) total1 i1 a2 a3 m1
def l28_CorrAll_j1 (k : Nat) (v3 : (List (((Int × Int × Unit) × Int × Unit)) × Int)) (v5 : (List (Int) × Int)) (v4 : (Bool × Int × Int)) (v1 : Bool) (l1 : List (List (List UInt8))) (a1 : (List (List UInt8) × List ((Int × Int × Int × Unit)) × Unit)) (t1 : Bool) : Option Bool :=
  if t1 then
    some (false)
  else
    (
      if v3.2 != (0 : Int) then
        l28_CorrAll_j2 v5 v4 (v1 && ((List.length v3.1 : Int) == (0 : Int)))
      else
        l28_CorrAll_l1 k l1 v3 v4 v5 v1 k (0 : Int) (0 : Int) a1.1 a1.2.1 ([] : List ((Int × Int × Unit) × Int))
    )
/-- cognate/cognatelaw28.CorrAll -/
def l28_CorrAll (k : Nat) (a1 : (List (List UInt8) × List ((Int × Int × Int × Unit)) × Unit)) (l1 : List (List (List UInt8))) : Option Bool :=
  Option.bind (l28_alive k) fun v1 =>
  Option.bind (l28_long k (a1.1, a1.2.1, ()) l1) fun v2 =>
  if v2 then
    some (v1)
  else
    (
      Option.bind (corr_Counts k (a1.1, a1.2.1, ()) l1) fun v3 =>
      Option.bind (corr_Regular k (a1.1, a1.2.1, ()) l1) fun v4 =>
      Option.bind (corr_Odd k (a1.1, a1.2.1, ()) l1) fun v5 =>
      l28_CorrAll_j1 k v3 v5 v4 v1 l1 a1 ((v3.2 != v4.2.2) || (v3.2 != v5.2))
    )

end Go.Ev

namespace Go.Ev
open Go
variable [Dr]
def Gn : World → Prop := fun _ => True
theorem Gn_stable : ∀ w w', Frame w w' (fun _ => False) → Gn w → Gn w' := fun _ _ _ _ => trivial
end Go.Ev

namespace Go.Ev
open Go Go.Proofs

noncomputable def F_utf8_DecodeRuneInString (k : Nat) : FnF := ⟨[.str], [.int .i32, .int .i64], [], fun s => utf8_DecodeRuneInString k s⟩
noncomputable def q_unicode_utf8_DecodeRuneInString (k : Nat) : PF Tryd.prog Gl := ⟨68, F_utf8_DecodeRuneInString k, ofC (c_unicode_utf8_DecodeRuneInString k) (F_utf8_DecodeRuneInString k) fun x y h => h⟩
end Go.Ev

namespace Go.Ev
open Go Go.RowKit
open Go.ChangeMaps (setBlock)

/-- Block b is a map, block r an iterator over it; these entries have come, one by one. -/
structure Going (w : World) (b r : Nat) (es : Array MapEntry) (clock : Nat) (got : List MapEntry) : Prop where
  map : w.heap[b]? = some (.map es clock)
  born : ∀ e ∈ es.toList, e.born < clock
  nb : (es.toList.map (·.born)).Nodup
  it : w.heap[r]? = some (.mapIter (some b) clock (got.map (·.born)).toArray clock)
  mem : ∀ e ∈ got, e ∈ es.toList
  nd : (got.map (·.born)).Nodup
  cnt : got.length + (leftOf es (got.map (·.born)).toArray).size ≤ es.size

section
variable {P : Program} {w : World} {b r : Nat} {es : Array MapEntry} {clock : Nat} {got : List MapEntry}
theorem Going.ne (h : Going w b r es clock got) : b ≠ r := fun e => by
  have := h.map
  rw [e, h.it] at this
  cases this
theorem Going.walk (h : Going w b r es clock got) : ∃ o : Obj, w.heap[r]? = some o ∧ o.isWalk = true := ⟨_, h.it, rfl⟩
theorem Going.left (h : Going w b r es clock got) : w.rangeLeft b r = (leftOf es (got.map (·.born)).toArray).size := by
  simp only [World.rangeLeft, h.map, h.it]
theorem Going.of_walks {w' : World} (h : Going w b r es clock got) (hk : KeepsWalks w w') : Going w' b r es clock got := by
  exact ⟨hk.same b _ h.map rfl, h.born, h.nb, hk.same r _ h.it rfl, h.mem, h.nd, h.cnt⟩
theorem Going.start {kt et t : TypeId} (ht : P.underlying t = some (.map kt et)) (hb : w.heap[b]? = some (.map es clock)) (hn : ∀ e ∈ es.toList, e.born < clock) (hd : (es.toList.map (·.born)).Nodup) :
    (Instr.range t (.map (some b))).run P w = .ok (.pointer (some ⟨w.heap.size, 0, none⟩)) (w.alloc (.mapIter (some b) clock #[] clock)) ∧ Going (w.alloc (.mapIter (some b) clock #[] clock)) b w.heap.size es clock [] := by
  have hlt : b < w.heap.size := (Array.getElem?_eq_some_iff.1 hb).1
  refine ⟨run_range_map w t kt et b es clock ht hb, ⟨(Below.heap_alloc w _ b hlt).trans hb, hn, hd, World.alloc_heap_new w _, fun _ h => (by cases h), List.nodup_nil, ?_⟩⟩
  simp only [List.length_nil, Nat.zero_add]
  exact Array.size_filter_le ..
theorem Going.step (h : Going w b r es clock got) (ty : TypeId) :
    ((∀ e ∈ es.toList, e ∈ got) ∧ (Instr.next (.pointer (some ⟨r, 0, none⟩)) false ty).run P w = .ok (.tuple #[.bool false]) w) ∨
    ∃ e w2, (Instr.next (.pointer (some ⟨r, 0, none⟩)) false ty).run P w = .ok (.tuple #[.bool true, e.key, e.val]) w2 ∧ Going w2 b r es clock (got ++ [e]) ∧ got.length < es.size ∧ w2.rangeLeft b r < w.rangeLeft b r ∧ w.grownBy w2 (some r) ∧ w2.heap.size = w.heap.size := by
  have h1 := h.it
  rcases run_next_at (P := P) w ty r b clock clock _ es clock h1 h.map h.born (Nat.le_refl _) with ⟨h0, hrun⟩ | ⟨e, he, w1, hal, hrun⟩
  · refine .inl ⟨fun e he => ?_, hrun⟩
    have := all_seen es _ h0 e he
    have hm : e.born ∈ got.map (·.born) := by simpa using this
    obtain ⟨e', he', heq⟩ := List.mem_map.1 hm
    rw [← born_inj h.nb (h.mem e' he') he heq]
    exact he'
  · obtain ⟨hem, hes⟩ := mem_left he
    have hlt : r < w1.heap.size := by rcases hal with rfl | rfl <;> exact (Array.getElem?_eq_some_iff.1 h1).1
    have hb1 : w1.heap[b]? = some (.map es clock) := by rcases hal with rfl | rfl <;> exact h.map
    have hsh := left_shrinks es _ e he
    have hpush : (got.map (·.born)).toArray.push e.born = ((got ++ [e]).map (·.born)).toArray := by simp
    have g : Going (setBlock w1 r (.mapIter (some b) clock ((got.map (·.born)).toArray.push e.born) clock)) b r es clock (got ++ [e]) := by
      refine ⟨?_, h.born, h.nb, ?_, fun x hx => ?_, ?_, ?_⟩
      · show (w1.heap.setIfInBounds r _)[b]? = _
        rw [Array.getElem?_setIfInBounds_ne (Ne.symm h.ne)]; exact hb1
      · rw [hpush]
        show (w1.heap.setIfInBounds r _)[r]? = _
        rw [Array.getElem?_setIfInBounds_self_of_lt hlt]
      · rcases List.mem_append.1 hx with hx | hx
        · exact h.mem x hx
        · simp at hx; subst hx; exact hem
      · rw [List.map_append, List.nodup_append]
        refine ⟨h.nd, by simp, fun a ha c hc => ?_⟩
        simp at hc
        subst hc
        rintro rfl
        have : (got.map (·.born)).toArray.contains e.born = true := by simpa using ha
        rw [this] at hes; cases hes
      · rw [← hpush]
        have := h.cnt
        rw [List.length_append]
        simp only [List.length_cons, List.length_nil]
        omega
    refine .inr ⟨e, _, hrun, g, by have := h.cnt; omega, by rw [g.left, h.left, ← hpush]; exact hsh, ?_, ?_⟩
    · rcases hal with rfl | rfl <;> exact ⟨rfl, rfl, rfl, by simp [setBlock], fun i _ hi => Array.getElem?_setIfInBounds_ne (fun e1 => hi (by rw [e1]))⟩
    · rcases hal with rfl | rfl <;> simp [setBlock]
theorem Going.entry {e : MapEntry} (h : Going w b r es clock (got ++ [e])) : (Instr.entry (.pointer (some ⟨r, 0, none⟩))).run P w = .ok (.tuple #[e.key, e.val]) w := by
  have h1 := h.it
  have hpush : ((got ++ [e]).map (·.born)).toArray = (got.map (·.born)).toArray.push e.born := by simp
  rw [hpush] at h1
  exact run_entry_at w r b clock _ es clock e h1 h.map (h.mem e (by simp)) h.nb
/-- At the end: each entry once. -/
theorem Going.all (h : Going w b r es clock got) (ha : ∀ e ∈ es.toList, e ∈ got) : got.Perm es.toList := by
  have of_map : ∀ l : List MapEntry, (l.map (·.born)).Nodup → l.Nodup := fun l hl => (List.pairwise_map.1 hl).imp fun hne e => hne (by rw [e])
  have nd1 : got.Nodup := of_map _ h.nd
  have nd2 : es.toList.Nodup := of_map _ h.nb
  exact (List.perm_ext_iff_of_nodup nd1 nd2).2 fun e => ⟨h.mem e, ha e⟩
end
section
variable {F : Fence} {n : Nat} {P : Program} {w : World} {ops : Array Oper} {rest : List Oper} {o : Oper} {a : Act} {Q : Exit → Act → World → Prop} {b r : Nat} {es : Array MapEntry} {clock : Nat} {got : List MapEntry}
theorem wpListIn_start (hg : o.guard = none) (m : Operand) (t kt et : TypeId) (hop : o.op = Op.range t m) (ht : P.underlying t = some (.map kt et)) (hm : a.eval m = .map (some b)) (hb : w.heap[b]? = some (.map es clock)) (hn : ∀ e ∈ es.toList, e.born < clock) (hd : (es.toList.map (·.born)).Nodup)
    (hK : ∀ w', Going w' b w.heap.size es clock [] → w.grownBy w' none → w'.heap.size = w.heap.size + 1 → wpListIn F n P ops Q rest (a.put o.dst (.pointer (some ⟨w.heap.size, 0, none⟩))) w') :
    wpListIn F n P ops Q (o :: rest) a w := by
  refine wpListIn_plain hg fun K' hK' => ?_
  obtain ⟨hrun, hgo⟩ := Going.start (P := P) ht hb hn hd
  unfold Oper.wpIn
  refine ⟨?_, ?_⟩
  · simp [Oper.about, hop]
  · rw [Oper.semAt_plain F _ _ (by rw [hop]; intro c hc'; cases hc')]
    simp [execOp, hop, hm, hrun, Result.andThen]
    exact hK' _ _ (hK _ hgo (World.grownBy_alloc w _ none) (by simp))
theorem wpListIn_going (hg : o.guard = none) (it : Operand) (hop : o.op = Op.next it false) (hit : a.eval it = .pointer (some ⟨r, 0, none⟩)) (h : Going w b r es clock got)
    (hDone : (∀ e ∈ es.toList, e ∈ got) → wpListIn F n P ops Q rest (a.put o.dst (.tuple #[.bool false])) w)
    (hMore : ∀ (e : MapEntry) (w2 : World), Going w2 b r es clock (got ++ [e]) → got.length < es.size → w2.rangeLeft b r < w.rangeLeft b r → w.grownBy w2 (some r) → w2.heap.size = w.heap.size → (Instr.entry (.pointer (some ⟨r, 0, none⟩))).run P w2 = .ok (.tuple #[e.key, e.val]) w2 → wpListIn F n P ops Q rest (a.put o.dst (.tuple #[.bool true, e.key, e.val])) w2) :
    wpListIn F n P ops Q (o :: rest) a w := by
  refine wpListIn_plain hg fun K' hK' => ?_
  unfold Oper.wpIn
  refine ⟨by simp [Oper.about, hop], ?_⟩
  rw [Oper.semAt_plain F _ _ (by rw [hop]; intro c hc'; cases hc')]
  rcases h.step (P := P) o.type with ⟨hl, hrun⟩ | ⟨e, w2, hrun, hgo, h1, h2, h3, h4⟩
  · simp [execOp, hop, hit, hrun, Result.andThen]
    exact hK' _ _ (hDone hl)
  · simp [execOp, hop, hit, hrun, Result.andThen]
    exact hK' _ _ (hMore e w2 hgo h1 h2 h3 h4 hgo.entry)
end
end Go.Ev

namespace Go.Ev
open Go Go.Proofs Go.RowKit Go.Shelf
attribute [local go_sem] Oper.semAt_some

def encP (p : Int × Int × Unit) : Value := .agg #[.int .i32 p.1, .int .i32 p.2.1]
theorem encP_inj {p q : Int × Int × Unit} (h : encP p = encP q) : p = q := by
  simp [encP] at h
  obtain ⟨a, b, _⟩ := p
  obtain ⟨c, d, _⟩ := q
  simp at h
  rw [h.1, h.2]

def decP : Value → Int × Int × Unit
  | .agg #[.int _ a, .int _ b] => (a, b, ())
  | _ => (0, 0, ())
theorem perm_of_enc {l m : List (Int × Int × Unit)} (h : (l.map encP).Perm (m.map encP)) : l.Perm m := by
  have := h.map decP
  rw [List.map_map, List.map_map] at this
  have e : decP ∘ encP = id := rfl
  rwa [e, List.map_id, List.map_id] at this

set_option maxRecDepth 100000 in
set_option maxHeartbeats 2000000 in
theorem keysP_stops (F : Fence) (n : Nat) (hF : F.fn 33) (hro : F.round = none) (hn : 1 ≤ n) (Bm b : Nat) (es : Array MapEntry) (clock : Nat) (ks : List (Int × Int × Unit)) (w : World) (hBm : Bm < w.heap.size) (hm : w.cell? ⟨Bm, 0, none⟩ = some (.map (some b)))
    (hb : w.heap[b]? = some (.map es clock)) (hborn : ∀ e ∈ es.toList, e.born < clock) (hnd : (es.toList.map (·.born)).Nodup) (hk : es.toList.map (·.key) = ks.map encP) :
    SeqStops F n Tryd.prog 33 #[.pointer (some ⟨Bm, 0, none⟩)] encP (fun ss => ss.Perm ks) (fun _ => True) es.size w := fun l J Jx W hW hJ hJx hY h0 => by
  have hbl : b < w.heap.size := (Array.getElem?_eq_some_iff.1 hb).1
  have hb' : W.heap[b]? = some (.map es clock) := (hW.block b hbl).trans hb
  have hm' : W.cell? ⟨Bm, 0, none⟩ = some (.map (some b)) := (hW.cell (p := ⟨Bm, 0, none⟩) hBm).trans hm
  refine callsIn_of_wp Tryd.func33 rfl hF ?_ hro
  simp only [Tryd.ntmps33, List.size_toArray, List.length_cons, List.length_nil, Nat.reduceAdd, Nat.reduceSub, Array.replicate_succ, Array.replicate_zero, List.push_toArray, List.append_toArray, List.nil_append, List.cons_append]
  gi_wp2_with (first
    | (gi_at_range; refine wpListIn_start rfl _ 38 _ _ rfl Tryd.underlying38 rfl hb' hborn hnd ?_; intro w0 hrg0 hg0 hs0)
    | gi_in)
  go_frame
  gi_loopw [3] (fun _ wr => ∃ (got : List MapEntry) (ss : List (Int × Int × Unit)), Going wr b W.heap.size es clock got ∧ ss.map encP = got.map (·.key) ∧ J ss wr)
    (fun _ wr => wr.rangeLeft b W.heap.size)
  case atStart =>
    exact ⟨[], [], hrg0, rfl, hJ [] W w0 none h0 hg0 (fun r e => by cases e)⟩
  case round =>
    obtain ⟨got, ss, hrg, hss, hJs⟩ := hrel
    gi_wp2_with (first
      | (gi_at_next; refine wpListIn_going rfl _ rfl rfl hrg ?_ ?_)
      | gi_in)
    · intro hall
      gi_wp2
      go_end0
      refine ⟨⟨_, rfl⟩, .inl ⟨ss, ?_, hJs⟩⟩
      have h1 : (got.map (·.key)).Perm (es.toList.map (·.key)) := (hrg.all fun e he => hall e (by simpa using he)).map _
      rw [← hss, hk] at h1
      exact perm_of_enc h1
    · intro e w2 hrg2 hlt hdec hg2 hs2 hen
      obtain ⟨x, hx⟩ : ∃ x, e.key = encP x := by
        have : e.key ∈ es.toList.map (·.key) := List.mem_map.2 ⟨e, hrg2.mem e (by simp), rfl⟩
        rw [hk] at this
        obtain ⟨x, _, hx⟩ := List.mem_map.1 this
        exact ⟨x, hx.symm⟩
      rw [hx] at hen ⊢
      have hJ2 : J ss w2 := hJ ss wr w2 (some W.heap.size) hJs hg2 (fun r e => by cases e; exact ⟨Nat.le_refl _, hrg.walk⟩)
      have hlen : ss.length = got.length := by have := congrArg List.length hss; simpa using this
      have hJ3 : J ss (w2.alloc (.cells #[.int .i32 x.1, .int .i32 x.2.1] 44)) := hJ ss w2 _ none hJ2 (World.grownBy_alloc w2 _ none) (fun r e => by cases e)
      obtain ⟨fn, tmps, assign, body, hy, hR⟩ := hY ss x _ hJ3 (by omega)
      have hrg3 := hrg2.of_walks (KeepsWalks.alloc w2 (.cells #[.int .i32 x.1, .int .i32 x.2.1] 44))
      unfold encP at hen hy ⊢
      gi_wp2
      refine hR.mono ?_
      rintro e' W3 (⟨rfl, hJ4, hk4⟩ | ⟨rfl, hJx4⟩)
      · gi_wp2
        have hrg4 := hrg3.of_walks hk4
        go_roundw
        case rel => exact ⟨got ++ [e], ss ++ [x], hrg4, by rw [List.map_append, List.map_append, hss]; simp [hx], hJ4⟩
        case measure => rw [hrg4.left, ← hrg2.left]; exact hdec
      · gi_wp2
        refine bodyPost_ret (results_none rfl _ _ _) rfl ?_
        exact ⟨⟨_, rfl⟩, .inr ⟨ss ++ [x], trivial, hJx4⟩⟩

theorem infoP : (Tryd.prog.info? 44).map (fun i => (i.zero, i.size, i.bytes)) = some (some (.agg #[.int .i32 0, .int .i32 0]), 2, 8) := by kernel_rfl
def ce (p : Int × Int × Unit) : List Value := [.int .i32 p.1, .int .i32 p.2.1]

set_option maxRecDepth 100000 in
set_option maxHeartbeats 2000000 in
/-- slices.AppendSeq(nil, seq): what the iterator gave, in that order, in a row of the call's own. -/
theorem appendSeqP (F : Fence) (n : Nat) (hF : F.fn 38) (hro : F.round = none) (hn : 2 ≤ n) (g : Nat) (lb : Array Value) (hFg : F.fn g) (eg : ∀ args w, (callFunc g args).run Tryd.prog w = .ok (.enter g args) w)
    (S Sp : List (Int × Int × Unit) → Prop) (N : Nat) (hN : N ≤ maxLen) (hNb : N * 8 ≤ 140737488355328) (w : World) (hseq : SeqStops F (n - 1) Tryd.prog g lb encP S Sp N w) :
    CallsIn F n Tryd.prog 38 #[.slice none 0 0, .func (.func g) #[] lb] w fun e w' => ∃ (v : Value) (ss : List (Int × Int × Unit)), e = .returned v ∧ S ss ∧ w'.ownsRow w.heap.size 44 2 v ss.length (ss.flatMap ce) ∧ Below w.heap.size w w' := by
  have h1 : 1 ≤ n := by omega
  obtain ⟨i0, hi, hz0, hz1, hz2⟩ := info_parts infoP
  refine callsIn_of_wp_marks Tryd.func38 rfl hF ?_ hro
  simp only [Tryd.ntmps38, List.size_toArray, List.length_cons, List.length_nil, Nat.reduceAdd, Nat.reduceSub, Array.replicate_succ, Array.replicate_zero, List.push_toArray, List.append_toArray, List.nil_append, List.cons_append]
  gi_wp2
  refine wpIn_rangeFunc_ownH hro h1 (gf := g) (lb := lb) rfl hFg eg (show SeqStopsK F (n - 1) Tryd.prog g lb (fun x => #[encP x]) KeepsWalks S Sp N w from hseq) walksK_t walksK_b ((Below.refl _ w).alloc (Nat.le_refl _) _) (fun _ => rfl)
    (fun pre W => (∃ v, Boxed W w.heap.size 39 v ∧ W.ownsRow w.heap.size 44 2 v pre.length (pre.flatMap ce) ∧ True) ∧ Below w.heap.size w W)
    (fun _ _ _ => False)
    (OwnFrom.and (Own.from (holdsRow_own w.heap.size w.heap.size 39 44 2 (fun pre : List (Int × Int × Unit) => pre.length) (fun pre => pre.flatMap ce) (fun _ _ => True)) _) (ownFrom_below (Nat.le_refl _) (by simp)))
    (fun _ _ _ _ _ hs _ _ => hs)
    ⟨⟨.slice none 0 0, Boxed.new w _ _, World.ownsRow_nil _ _ _ _, trivial⟩, (Below.refl _ w).alloc (Nat.le_refl _) _⟩
    (fun x a' W => ∃ Bx, w.heap.size < Bx ∧ W.heap[Bx]? = some (.cells #[.int .i32 x.1, .int .i32 x.2.1] 44 (0, 0)) ∧
      a' = { tmps := #[.slice none 0 0, .func (.func g) #[] lb, .pointer (some ⟨w.heap.size, 0, none⟩), undef, .slice none 0 0, .pointer (some ⟨Bx, 0, none⟩), .func (.func g) #[] lb, encP x, undef, undef, undef, undef, undef], defers := [] })
    ?hAx ?assign ?body ?done ?stop
  case hAx =>
    rintro x a' _ X Y row ⟨Bx, h2, h3, h4⟩ hg hr
    refine ⟨Bx, h2, (hg.block Bx (Array.getElem?_eq_some_iff.1 h3).1 (fun e => ?_)).trans h3, h4⟩
    obtain ⟨_, o, ho, hc⟩ := hr Bx e.symm
    rw [h3] at ho; cases ho; cases hc
  case assign =>
    rintro l pre x W K ⟨⟨v, hv, hr, _⟩, hB⟩ hK
    unfold encP
    gi_wp2
    exact hK _ _ ((KeepsOthers.alloc _ _).from _) (KeepsWalks.alloc _ _) ⟨⟨v, hv.alloc _, hr.alloc _, trivial⟩, hB.alloc hB.size _⟩ ⟨W.heap.size, hv.lt, World.alloc_heap_new W _, rfl⟩
  case body =>
    rintro l pre x a' W hl ⟨r, hr⟩ ⟨⟨v, hv, hrow, _⟩, hB⟩ ⟨Bx, hBx, hx, rfl⟩ hlt
    have hvc := hv.cell
    have hx0 : W.cell? ⟨Bx, 0, none⟩ = some (.int .i32 x.1) := by simp [World.cell?, hx]
    have hx1 : W.cell? ⟨Bx, 1, none⟩ = some (.int .i32 x.2.1) := by simp [World.cell?, hx]
    have hnews : ∀ (j : Nat) (u : Value), (ce x)[j]? = some u → (W.alloc (.cells #[.int .i32 x.1, .int .i32 x.2.1] 44)).cell? ((⟨W.heap.size, 0, none⟩ : Addr).add j) = some u := by
      intro j u hj
      have ea : (⟨W.heap.size, 0, none⟩ : Addr).add j = ⟨W.heap.size, 0 + j, none⟩ := by unfold Addr.add; split <;> simp_all
      rw [ea, Nat.zero_add]
      simp only [World.cell?, World.alloc_heap_new]
      unfold ce at hj
      match j, hj with
      | 0, hj => simpa using hj
      | 1, hj => simpa using hj
      | j + 2, hj => simp at hj
    gi_wp2_with (gi_at_builtin; refine wpListIn_append_own _ rfl _ _ 39 rfl w.heap.size 44 i0 (.agg #[.int .i32 0, .int .i32 0]) 2 8 Tryd.underlying39 hi hz0 hz1 hz2 rfl (by decide) _ _ _ rfl (hrow.alloc _) ⟨W.heap.size, 0, none⟩ 1 1 (ce x) rfl rfl hnews (by simp [ce, Value.oneCell']) (by omega) (by omega) (by have := hB.size; simp; omega) ?_; intro v' w1 hown' hgrow _; obtain ⟨g', cap', rfl⟩ := ownsRow_succ hown'; obtain ⟨hv1, hv2, hr2, hk2, hb2⟩ := hv.appended (by decide) hrow hB.size (Nat.le_refl _) hown' hgrow; have hc1 := hv1.cell; have hf1 := hv1.frozen)
    exact ⟨hk2.from _, ⟨hk2.size, fun j o hj ho => hk2.same j o hj (Obj.not_cells_of_walk ho)⟩, ⟨_, hv2, by rw [List.length_append, List.flatMap_append]; simpa using hr2, trivial⟩, hB.trans hb2⟩
  case done =>
    rintro D ss W hD hS ⟨⟨v, hv, hrow, _⟩, hB⟩ hK
    have hvc := hv.cell
    gi_wp2
    refine ⟨by simp, .inl ⟨_, _, rfl, run_takeDeferred hK, ?_⟩⟩
    exact ⟨_, results_tmp rfl _ _ _, v, ss, rfl, hS, ownsRow_putObj hrow _ hK rfl, hB.grown (grownBy_putObj' _ D _) hB.size (fun k e => by cases e; simp at hD; omega)⟩
  case stop =>
    rintro D c pre W _ _ h _
    exact h.elim

set_option maxHeartbeats 2000000 in
theorem collectP (F : Fence) (n : Nat) (hF : F.fn 31) (hF2 : F.fn 38) (hro : F.round = none) (hn : 3 ≤ n) (g : Nat) (lb : Array Value) (hFg : F.fn g) (eg : ∀ args w, (callFunc g args).run Tryd.prog w = .ok (.enter g args) w)
    (S Sp : List (Int × Int × Unit) → Prop) (N : Nat) (hN : N ≤ maxLen) (hNb : N * 8 ≤ 140737488355328) (w : World) (hseq : SeqStops F (n - 1 - 1) Tryd.prog g lb encP S Sp N w) :
    CallsIn F n Tryd.prog 31 #[.func (.func g) #[] lb] w fun e w' => ∃ (v : Value) (ss : List (Int × Int × Unit)), e = .returned v ∧ S ss ∧ w'.ownsRow w.heap.size 44 2 v ss.length (ss.flatMap ce) ∧ Below w.heap.size w w' := by
  have h1 : 1 ≤ n := by omega
  refine callsIn_of_wp Tryd.func31 rfl hF ?_ hro
  simp only [Tryd.ntmps31, List.size_toArray, List.length_cons, List.length_nil, Nat.reduceAdd, Nat.reduceSub, Array.replicate_succ, Array.replicate_zero, List.push_toArray, List.append_toArray, List.nil_append, List.cons_append]
  gi_wp2_with (gi_at_call 38; refine (appendSeqP F (n - 1) hF2 hro (by omega) g lb hFg eg S Sp N hN hNb _ hseq).mono ?_; rintro e w' ⟨v, ss, rfl, hS, hrow, hb⟩)
  go_ret
  exact ⟨v, ss, rfl, hS, hrow, hb⟩
end Go.Ev

namespace Go.Ev
open Go Go.Proofs Go.Shelf Go.RowKit
set_option maxRecDepth 100000

def R_Sort : Ren := ⟨fun | 6 => 32 | 14 => 39 | 15 => 40 | 20 => 51 | 21 => 52 | 22 => 53 | 23 => 54 | 24 => 55 | 25 => 56 | 26 => 57 | 27 => 58 | 28 => 59 | 29 => 60 | 46 => 71 | 47 => 72 | 48 => 73 | 49 => 74 | 50 => 75 | 57 => 80 | n => n, fun | 0 => 0 | 3 => 3 | 4 => 4 | 5 => 5 | 9 => 9 | 22 => 39 | 24 => 44 | 25 => 77 | 39 => 96 | 45 => 117 | 46 => 118 | 50 => 105 | 53 => 67 | 55 => 125 | 66 => 135 | 70 => 139 | 76 => 143 | 77 => 144 | n => n, fun | n => n⟩
theorem L_Sort : SlLaysF0.n6 Tryd.prog R_Sort := {
  mixed := by kernel_rfl
  f6 := ⟨Tryd.f32.name, by kernel_rfl, Tryd.func32.trans (congrArg some (by kernel_rfl))⟩
  f14 := ⟨Tryd.f39.name, by kernel_rfl, Tryd.func39.trans (congrArg some (by kernel_rfl))⟩
  f15 := Tryd.func40.trans (congrArg some (by kernel_rfl))
  f20 := ⟨Tryd.f51.name, by kernel_rfl, Tryd.func51.trans (congrArg some (by kernel_rfl))⟩
  f21 := ⟨Tryd.f52.name, by kernel_rfl, Tryd.func52.trans (congrArg some (by kernel_rfl))⟩
  f22 := ⟨Tryd.f53.name, by kernel_rfl, Tryd.func53.trans (congrArg some (by kernel_rfl))⟩
  f23 := ⟨Tryd.f54.name, by kernel_rfl, Tryd.func54.trans (congrArg some (by kernel_rfl))⟩
  f24 := ⟨Tryd.f55.name, by kernel_rfl, Tryd.func55.trans (congrArg some (by kernel_rfl))⟩
  f25 := ⟨Tryd.f56.name, by kernel_rfl, Tryd.func56.trans (congrArg some (by kernel_rfl))⟩
  f26 := ⟨Tryd.f57.name, by kernel_rfl, Tryd.func57.trans (congrArg some (by kernel_rfl))⟩
  f27 := ⟨Tryd.f58.name, by kernel_rfl, Tryd.func58.trans (congrArg some (by kernel_rfl))⟩
  f28 := Tryd.func59.trans (congrArg some (by kernel_rfl))
  f29 := Tryd.func60.trans (congrArg some (by kernel_rfl))
  f46 := ⟨Tryd.f71.name, by kernel_rfl, Tryd.func71.trans (congrArg some (by kernel_rfl))⟩
  f47 := Tryd.func72.trans (congrArg some (by kernel_rfl))
  f48 := Tryd.func73.trans (congrArg some (by kernel_rfl))
  f49 := ⟨Tryd.f74.name, by kernel_rfl, Tryd.func74.trans (congrArg some (by kernel_rfl))⟩
  f50 := ⟨Tryd.f75.name, by kernel_rfl, Tryd.func75.trans (congrArg some (by kernel_rfl))⟩
  f57 := ⟨Tryd.f80.name, by kernel_rfl, Tryd.func80.trans (congrArg some (by kernel_rfl))⟩
  t0 := Tryd.underlying0
  a0 := Tryd.isAgg0
  z0 := Tryd.sizeOf0
  v0 := Tryd.zeroValue0
  t3 := Tryd.underlying3
  a3 := Tryd.isAgg3
  z3 := Tryd.sizeOf3
  v3 := Tryd.zeroValue3
  t4 := Tryd.underlying4
  a4 := Tryd.isAgg4
  z4 := Tryd.sizeOf4
  v4 := Tryd.zeroValue4
  t5 := Tryd.underlying5
  a5 := Tryd.isAgg5
  z5 := Tryd.sizeOf5
  v5 := Tryd.zeroValue5
  t9 := Tryd.underlying9
  a9 := Tryd.isAgg9
  z9 := Tryd.sizeOf9
  v9 := Tryd.zeroValue9
  t22 := Tryd.underlying39
  a22 := Tryd.isAgg39
  z22 := Tryd.sizeOf39
  v22 := Tryd.zeroValue39
  t25 := Tryd.underlying77
  a25 := Tryd.isAgg77
  z25 := Tryd.sizeOf77
  v25 := Tryd.zeroValue77
  t39 := Tryd.underlying96
  a39 := Tryd.isAgg96
  z39 := Tryd.sizeOf96
  v39 := Tryd.zeroValue96
  t45 := Tryd.underlying117
  a45 := Tryd.isAgg117
  z45 := Tryd.sizeOf117
  v45 := Tryd.zeroValue117
  t46 := Tryd.underlying118
  a46 := Tryd.isAgg118
  z46 := Tryd.sizeOf118
  v46 := Tryd.zeroValue118
  t50 := Tryd.underlying105
  a50 := Tryd.isAgg105
  z50 := Tryd.sizeOf105
  v50 := Tryd.zeroValue105
  t53 := Tryd.underlying67
  a53 := Tryd.isAgg67
  z53 := Tryd.sizeOf67
  v53 := Tryd.zeroValue67
  t55 := Tryd.underlying125
  a55 := Tryd.isAgg125
  z55 := Tryd.sizeOf125
  v55 := Tryd.zeroValue125
  t66 := Tryd.underlying135
  a66 := Tryd.isAgg135
  z66 := Tryd.sizeOf135
  v66 := Tryd.zeroValue135
  t70 := Tryd.underlying139
  a70 := Tryd.isAgg139
  z70 := Tryd.sizeOf139
  v70 := Tryd.zeroValue139
  t76 := Tryd.underlying143
  a76 := Tryd.isAgg143
  z76 := Tryd.sizeOf143
  v76 := Tryd.zeroValue143
  t77 := Tryd.underlying144
  a77 := Tryd.isAgg144
  z77 := Tryd.sizeOf144
  v77 := Tryd.zeroValue144 }
end Go.Ev

namespace Go.Ev
open Go Go.Proofs Go.Shelf Go.RowKit
open Go.Sort (flatK HoldsK putRowK)
set_option maxRecDepth 100000

def repC (w : World) (M : Nat → Prop) (t : Ty) : List (List Value) → List t.el → Prop
  | [], [] => True
  | c :: d, x :: xs => rep w M t c x ∧ repC w M t d xs
  | _, _ => False
theorem repC_of {w : World} {M : Nat → Prop} {t : Ty} : ∀ {cells : List Value} {xs : List t.el}, repL (rep w M t) cells xs → ∃ d : List (List Value), d.flatten = cells ∧ repC w M t d xs
  | cells, [], h => ⟨[], by rw [show cells = [] from h]; rfl, trivial⟩
  | cells, x :: xs, ⟨c1, c2, e, h1, h2⟩ => by
    obtain ⟨d, hd, hr⟩ := repC_of h2
    exact ⟨c1 :: d, by rw [List.flatten_cons, hd, e], h1, hr⟩
theorem repC_to {w : World} {M : Nat → Prop} {t : Ty} : ∀ {d : List (List Value)} {xs : List t.el}, repC w M t d xs → repL (rep w M t) d.flatten xs
  | [], [], _ => rfl
  | [], _ :: _, h => h.elim
  | _ :: _, [], h => h.elim
  | c :: d, x :: xs, ⟨h1, h2⟩ => ⟨c, d.flatten, rfl, h1, repC_to h2⟩
theorem repC_app {w : World} {M : Nat → Prop} {t : Ty} : ∀ {d e : List (List Value)} {xs ys : List t.el}, repC w M t d xs → repC w M t e ys → repC w M t (d ++ e) (xs ++ ys)
  | [], _, [], _, _, h => h
  | [], _, _ :: _, _, h, _ => h.elim
  | _ :: _, _, [], _, h, _ => h.elim
  | _ :: _, _, _ :: _, _, ⟨h1, h2⟩, h => ⟨h1, repC_app h2 h⟩
theorem repC_rev {w : World} {M : Nat → Prop} {t : Ty} : ∀ {d : List (List Value)} {xs : List t.el}, repC w M t d xs → repC w M t d.reverse xs.reverse
  | [], [], _ => trivial
  | [], _ :: _, h => h.elim
  | _ :: _, [], h => h.elim
  | c :: d, x :: xs, ⟨h1, h2⟩ => by
    rw [List.reverse_cons, List.reverse_cons]
    exact repC_app (repC_rev h2) ⟨h1, trivial⟩
theorem repC_len {w : World} {M : Nat → Prop} {t : Ty} : ∀ {d : List (List Value)} {xs : List t.el}, repC w M t d xs → d.length = xs.length ∧ ∀ c ∈ d, c.length = t.cells ∧ ∀ v ∈ c, v.oneCell' = true
  | [], [], _ => ⟨rfl, fun c h => by cases h⟩
  | [], _ :: _, h => h.elim
  | _ :: _, [], h => h.elim
  | c :: d, x :: xs, ⟨h1, h2⟩ => by
    obtain ⟨k1, k2⟩ := repC_len h2
    refine ⟨by simp [k1], fun c' hc => ?_⟩
    rcases List.mem_cons.1 hc with rfl | hc
    · exact ⟨rep_length t h1, rep_oneCell t h1⟩
    · exact k2 c' hc
/-- Cells as0 an element, if they may be. -/
def encC (k : Nat) (c : List Value) : List Value := if c.length = k ∧ (c.all fun v => v.oneCell') = true then c else List.replicate k (.int .i64 0)
theorem encC_len (k : Nat) (c : List Value) : (encC k c).length = k := by
  unfold encC
  split
  · rename_i h; exact h.1
  · simp
theorem encC_one (k : Nat) (c : List Value) : ∀ v ∈ encC k c, v.oneCell' = true := by
  unfold encC
  split
  · rename_i h; exact List.all_eq_true.1 h.2
  · intro v hv
    rw [List.eq_of_mem_replicate hv]
    rfl
theorem encC_eq {k : Nat} {c : List Value} (h : c.length = k) (h1 : ∀ v ∈ c, v.oneCell' = true) : encC k c = c := if_pos ⟨h, List.all_eq_true.2 h1⟩
theorem flat_get {k : Nat} : ∀ {d : List (List Value)}, (∀ c ∈ d, c.length = k) → ∀ t, t < d.length * k → d.flatten[t]? = ((d[t / k]?).getD [])[t % k]?
  | [], _, t, h => by simp at h
  | c :: d, hd, t, h => by
    have hc := hd c List.mem_cons_self
    have hk : 0 < k := by
      rcases Nat.eq_zero_or_pos k with h0 | h0
      · subst h0; simp at h
      · exact h0
    rw [List.flatten_cons]
    by_cases ht : t < k
    · rw [List.getElem?_append_left (by omega), Nat.div_eq_of_lt ht, Nat.mod_eq_of_lt ht]
      rfl
    · have e1 : t / k = (t - k) / k + 1 := by rw [← Nat.add_div_right _ hk]; congr 1; omega
      have e2 : t % k = (t - k) % k := by rw [← Nat.add_mod_right (t - k) k]; congr 1; omega
      rw [List.getElem?_append_right (by omega), hc, flat_get (fun c hc => hd c (List.mem_cons_of_mem _ hc)) (t - k) (by rw [List.length_cons, Nat.succ_mul] at h; omega), e1, e2]
      rfl
theorem flat_eq {k : Nat} {d : List (List Value)} (hd : ∀ c ∈ d, c.length = k ∧ ∀ v ∈ c, v.oneCell' = true) : flatK (encC k) k d.toArray = d.flatten.toArray := by
  have hl : d.flatten.length = d.length * k := by
    induction d with
    | nil => simp
    | cons c d ih =>
      rw [List.flatten_cons, List.length_append, (hd c List.mem_cons_self).1, ih fun c hc => hd c (List.mem_cons_of_mem _ hc), List.length_cons, Nat.succ_mul]
      omega
  apply Array.ext'
  apply List.ext_getElem?
  intro t
  by_cases ht : t < d.length * k
  · have hg := flat_get (fun c hc => (hd c hc).1) t ht
    have hk : 0 < k := by
      rcases Nat.eq_zero_or_pos k with h0 | h0
      · subst h0; simp at ht
      · exact h0
    have hq : t / k < d.length := Nat.div_lt_of_lt_mul (by rw [Nat.mul_comm]; exact ht)
    have hr : t % k < k := Nat.mod_lt _ hk
    have hm := hd d[t / k] (List.getElem_mem hq)
    rw [show (d.flatten.toArray).toList = d.flatten from rfl, hg, Array.getElem?_toList]
    unfold flatK
    rw [Array.getElem?_map, Array.getElem?_range]
    have : t < d.toArray.size * k := by simpa using ht
    rw [if_pos this]
    simp only [Option.map_some]
    rw [List.getElem?_eq_getElem hq, Option.getD_some]
    have e1 : d.toArray[t / k]! = d[t / k] := by simp [hq]
    rw [e1, encC_eq hm.1 hm.2, List.getElem?_eq_getElem (by rw [hm.1]; exact hr)]
    simp [hm.1, hr]
  · rw [List.getElem?_eq_none (by simp [flatK]; omega), List.getElem?_eq_none (by simpa [hl] using ht)]
theorem heap_mapB (w : World) (g b : Nat) (f : Array Value → Array Value) : (Go.Sort.mapBlock w g f).heap[b]? = if g = b then (w.heap[b]?).map (Go.Sort.onCells f) else w.heap[b]? := by
  unfold Go.Sort.mapBlock
  exact Array.getElem?_modify
/-- What such a call leaves. -/
theorem turned_ok {w : World} {M : Nat → Prop} {t : Ty} {e g cap n : Nat} {xs : List t.el} {cells : List Value} {d : List (List Value)} (hp : 0 < t.cells) (hown : w.ownsRow 0 e t.cells (.slice (some ⟨g, 0, none⟩) xs.length cap) xs.length cells) (hd : d.flatten = cells) (hr : repC w M t d xs) :
    ∃ u cells', (Ending.returned (.tuple #[])) = .returned u ∧ Same w (Go.Sort.putRow id (Sort.ahead w n) g 0 d.reverse.flatten.toArray) ∧ (∀ b, b < w.heap.size → blk (.slice (some ⟨g, 0, none⟩) xs.length cap) ≠ some b → (Go.Sort.putRow id (Sort.ahead w n) g 0 d.reverse.flatten.toArray).heap[b]? = w.heap[b]?) ∧
      (Go.Sort.putRow id (Sort.ahead w n) g 0 d.reverse.flatten.toArray).ownsRow 0 e t.cells (.slice (some ⟨g, 0, none⟩) xs.length cap) (List.length xs.reverse) cells' ∧ repL (rep w M t) cells' xs.reverse := by
  rcases hown.2 with ⟨hv, _⟩ | ⟨g', cap', cur, hv, hb0, hh, hle, hmax, hcur, htk⟩
  · cases hv
  cases hv
  have hrev := repC_to (repC_rev hr)
  have hlen : d.reverse.flatten.length = xs.length * t.cells := by
    rw [repL_length (fun _ _ => rep_length t) _ _ hrev, List.length_reverse]
  have hsz : xs.length * t.cells ≤ cur.size := by rw [hcur]; exact Nat.mul_le_mul_right _ hle
  have hheap : (Go.Sort.putRow id (Sort.ahead w n) g 0 d.reverse.flatten.toArray).heap[g]? = some (.cells (Go.Sort.putCells id 0 d.reverse.flatten.toArray cur) e (0, 0)) := by
    unfold Go.Sort.putRow
    rw [heap_mapB, if_pos rfl]
    have : (Sort.ahead w n).heap[g]? = some (.cells cur e (0, 0)) := hh
    rw [this]
    rfl
  refine ⟨_, d.reverse.flatten, rfl, ⟨rfl, rfl, rfl, ?_, fun _ => Nat.le_add_right _ _⟩, ?_, ⟨?_, .inr ⟨g, cap, Go.Sort.putCells id 0 d.reverse.flatten.toArray cur, by rw [List.length_reverse], hb0, hheap, by rw [List.length_reverse]; exact hle, hmax, ?_, ?_⟩⟩, hrev⟩
  · show w.heap.size ≤ _
    rw [Go.Sort.size_putRow]
    exact Nat.le_refl _
  · intro b hb hne
    have hbg : b ≠ g := fun e => hne (by rw [e]; rfl)
    unfold Go.Sort.putRow
    rw [heap_mapB, if_neg hbg.symm]
    rfl
  · rw [hlen, List.length_reverse]
  · rw [← hcur]
    simp [Go.Sort.putCells]
  · rw [List.length_reverse]
    apply List.ext_getElem?
    intro j
    by_cases hj : j < xs.length * t.cells
    · have hj2 : j < cur.size := by omega
      have hj3 : j < d.reverse.flatten.length := by omega
      rw [List.getElem?_take_of_lt hj, Array.getElem?_toList]
      unfold Go.Sort.putCells
      rw [Array.getElem?_mapIdx, Array.getElem?_eq_getElem hj2, Option.map_some, if_pos ⟨Nat.zero_le _, by simpa using hj3⟩, List.getElem?_eq_getElem hj3]
      simp only [Nat.sub_zero, id]
      rw [getElem!_pos _ j (by simpa using hj3)]
      simp
    · rw [List.getElem?_eq_none (by simp; omega), List.getElem?_eq_none (by omega)]
theorem held {w : World} {M : Nat → Prop} {t : Ty} {e g cap : Nat} {xs : List t.el} {cells : List Value} (hown : w.ownsRow 0 e t.cells (.slice (some ⟨g, 0, none⟩) xs.length cap) xs.length cells) : Go.Sort.Holds id w g 0 cells.toArray := by
  rcases hown.2 with ⟨hv, _⟩ | ⟨g', cap', cur, hv, hb0, hh, hle, hmax, hcur, htk⟩
  · cases hv
  cases hv
  intro j hj
  have hj' : j < cells.length := by simpa using hj
  rw [Nat.zero_add]
  refine ⟨?_, by simp [World.frozen?, hh]⟩
  have h1 := hown.cells (g := g) rfl j cells[j] (List.getElem?_eq_getElem hj')
  rw [add_mk, Nat.zero_add] at h1
  rw [h1, getElem!_pos _ j hj]
  rfl
/-- slices.Reverse at a struct. -/
theorem ic_revK {P : Program} {G : World → Prop} {ρ : Ren} (L : SlLaysE0.n35 P ρ) {f e : Nat} {t : Ty} (hf : ρ.f 35 = f) (he : ρ.t 23 = e) (hp : Nat.blt 0 t.cells = true) (aE : ∀ w, (isAgg e).run P w = .ok true w) (zE : ∀ w, (Go.sizeOf e).run P w = .ok t.cells w)
    (hen : ∀ args w, (callFunc f args).run P w = .ok (.enter f args) w) : IC P G f e t (fun xs ys => ys = xs.reverse) where
  enters := hen
  calls := by
    rintro w M v xs ys cells _ rfl hown hL
    subst hf
    subst he
    rcases hown.2 with ⟨hv, hz⟩ | ⟨g, cap, cur, hv, hb0, hh, hle, hmax, hcur, htk⟩
    · have hx : xs = [] := List.length_eq_zero_iff.1 hz
      subst hx
      subst hv
      refine (AnyQ.slices_Reverse_empty L none 0 w).mono ?_
      rintro e w' ⟨rfl, rfl⟩
      exact ⟨_, cells, rfl, ⟨rfl, rfl, rfl, Nat.le_refl _, fun _ => Nat.le_refl _⟩, fun _ _ _ => rfl, hown, hL⟩
    · subst hv
      obtain ⟨d, hd, hr⟩ := repC_of hL
      obtain ⟨hl, hc⟩ := repC_len hr
      have hH : HoldsK (encC t.cells) t.cells w g 0 d.toArray := by
        show Go.Sort.Holds id w g 0 (flatK (encC t.cells) t.cells d.toArray)
        rw [flat_eq hc, hd]
        exact held (M := M) hown
      have := AnyQ.slices_Reverse L t.cells aE zE (encC t.cells) (encC_len _) (encC_one _) g 0 cap d.toArray w hH (by simp [hl]; exact Nat.le_trans hle hmax)
      rw [show d.toArray.size = xs.length from by simp [hl]] at this
      refine this.mono ?_
      rintro e w' ⟨rfl, n, rfl⟩
      have e1 : putRowK (encC t.cells) t.cells (Sort.ahead w n) g 0 d.toArray.reverse = Go.Sort.putRow id (Sort.ahead w n) g 0 d.reverse.flatten.toArray := by
        unfold putRowK
        rw [show d.toArray.reverse = d.reverse.toArray from by simp, flat_eq fun c hcm => hc c (List.mem_reverse.1 hcm)]
      rw [e1]
      exact turned_ok (blt_true hp) hown hd hr
/-- A value as0 an element of one cell, if it may be. -/
def encV (v : Value) : Value := if v.oneCell' = true then v else .int .i64 0
theorem encV_eq {v : Value} (h : v.oneCell' = true) : encV v = v := if_pos h
theorem encV_one (v : Value) : (encV v).oneCell' = true := by
  unfold encV
  split
  · assumption
  · rfl
theorem single {d : List (List Value)} (h : ∀ c ∈ d, c.length = 1) : d.reverse.flatten = d.flatten.reverse := by
  induction d with
  | nil => rfl
  | cons c d ih =>
    obtain ⟨v, rfl⟩ := List.length_eq_one_iff.1 (h c List.mem_cons_self)
    rw [List.reverse_cons, List.flatten_append, ih fun c hc => h c (List.mem_cons_of_mem _ hc)]
    simp
/-- slices.Reverse at elements of one cell. -/
theorem ic_rev1 {P : Program} {G : World → Prop} {ρ : Ren} (L : SlLaysE.n35 P ρ) {f e : Nat} {t : Ty} (hf : ρ.f 35 = f) (hp : Nat.beq t.cells 1 = true)
    (hen : ∀ args w, (callFunc f args).run P w = .ok (.enter f args) w) : IC P G f e t (fun xs ys => ys = xs.reverse) where
  enters := hen
  calls := by
    rintro w M v xs ys cells _ rfl hown hL
    subst hf
    have hp := Nat.eq_of_beq_eq_true hp
    rcases hown.2 with ⟨hv, hz⟩ | ⟨g, cap, cur, hv, hb0, hh, hle, hmax, hcur, htk⟩
    · have hx : xs = [] := List.length_eq_zero_iff.1 hz
      subst hx
      subst hv
      refine (AnyE.slices_Reverse_empty L none 0 w).mono ?_
      rintro e w' ⟨rfl, rfl⟩
      exact ⟨_, cells, rfl, ⟨rfl, rfl, rfl, Nat.le_refl _, fun _ => Nat.le_refl _⟩, fun _ _ _ => rfl, hown, hL⟩
    · subst hv
      obtain ⟨d, hd, hr⟩ := repC_of hL
      obtain ⟨hl, hc⟩ := repC_len hr
      have h1 : ∀ c ∈ d, c.length = 1 := fun c hm => by rw [(hc c hm).1, hp]
      have hone : ∀ v ∈ cells, v.oneCell' = true := fun v hv => by
        rw [← hd] at hv
        obtain ⟨c, hcm, hvc⟩ := List.mem_flatten.1 hv
        exact (hc c hcm).2 v hvc
      have hlc : cells.length = xs.length := by rw [hown.1, hp, Nat.mul_one]
      have hld : Go.Sort.Holds id w g 0 cells.toArray := held (M := M) hown
      have hH : Go.Sort.Holds encV w g 0 cells.toArray := fun j hj => by
        obtain ⟨a1, a2⟩ := hld j hj
        refine ⟨?_, a2⟩
        rw [a1, encV_eq]
        · rfl
        · rw [getElem!_pos _ j hj]; exact hone _ (by simp)
      have := AnyE.slices_Reverse L encV encV_one g 0 cap cells w hH (by rw [hlc]; exact Nat.le_trans hle hmax)
      rw [hlc] at this
      refine this.mono ?_
      rintro e' w' ⟨rfl, n, rfl⟩
      have e1 : Go.Sort.putRow encV (Sort.ahead w n) g 0 cells.reverse.toArray = Go.Sort.putRow id (Sort.ahead w n) g 0 d.reverse.flatten.toArray := by
        rw [single h1, hd]
        unfold Go.Sort.putRow Go.Sort.putCells
        congr 1
        funext c
        congr 1
        funext k x
        split
        · rename_i hk
          have hk2 : k - 0 < cells.reverse.toArray.size := by omega
          rw [encV_eq]
          · rfl
          · rw [getElem!_pos cells.reverse.toArray (k - 0) hk2]
            exact hone _ (List.mem_reverse.1 (by simp))
        · rfl
      rw [e1]
      exact turned_ok (by omega) hown hd hr
end Go.Ev

namespace Go.Ev
open Go Go.Proofs Go.RowKit Go.Shelf Go.Sort

theorem flatK_eq {α : Type} [Inhabited α] {k : Nat} (enc : α → List Value) (hk : ∀ x, (enc x).length = k) (d : Array α) : flatK enc k d = (d.toList.flatMap enc).toArray := by
  have hl : (d.toList.map enc).flatten.length = d.size * k := by
    rw [List.length_flatten, List.map_map]
    have : (List.length ∘ enc) = fun _ => k := funext hk
    have hsum : ∀ l : List α, (l.map fun _ => k).sum = l.length * k := fun l => by
      induction l with
      | nil => simp
      | cons a l ih => rw [List.map_cons, List.sum_cons, ih, List.length_cons, Nat.succ_mul, Nat.add_comm]
    rw [this, hsum]
    simp
  apply Array.ext'
  apply List.ext_getElem?
  intro t
  show _ = (d.toList.flatMap enc)[t]?
  rw [List.flatMap_def]
  by_cases ht : t < d.size * k
  · have hk0 : 0 < k := by
      rcases Nat.eq_zero_or_pos k with h0 | h0
      · subst h0; simp at ht
      · exact h0
    have hq : t / k < d.size := Nat.div_lt_of_lt_mul (by rw [Nat.mul_comm]; exact ht)
    have hr : t % k < k := Nat.mod_lt _ hk0
    rw [flat_get (k := k) (fun c hc => by obtain ⟨x, _, rfl⟩ := List.mem_map.1 hc; exact hk x) t (by simpa using ht), Array.getElem?_toList]
    unfold flatK
    rw [Array.getElem?_map, Array.getElem?_range, if_pos ht]
    simp only [Option.map_some, List.getElem?_map, Array.getElem?_toList]
    rw [Array.getElem?_eq_getElem hq]
    simp only [Option.map_some, Option.getD_some]
    rw [getElem!_pos d _ hq, List.getElem?_eq_getElem (by rw [hk]; exact hr)]
    simp [hk, hr]
  · rw [List.getElem?_eq_none (by simp [flatK]; omega), List.getElem?_eq_none (by rw [hl]; omega)]

section
variable {α : Type} [Inhabited α] {enc : α → List Value} {w : World} {g cap n m : Nat} {cells : List Value} {base e : Nat} {os : Array Obj}
theorem row_holdsK (hk : ∀ x, (enc x).length = 2) {d : Array α} (hown : w.ownsRow base e 2 (.slice (some ⟨g, 0, none⟩) n cap) n (d.toList.flatMap enc)) : HoldsK enc 2 w g 0 d := by
  show Go.Sort.Holds id w g 0 (flatK enc 2 d)
  rw [flatK_eq enc hk]
  rcases hown.2 with ⟨hv, _⟩ | ⟨g', cap', cur, hv, hb0, hh, hle, hmax, hcur, htk⟩
  · cases hv
  cases hv
  intro j hj
  have hj' : j < (d.toList.flatMap enc).length := by simpa using hj
  rw [Nat.zero_add]
  refine ⟨?_, by simp [World.frozen?, hh]⟩
  have h1 := hown.cells (g := g) rfl j _ (List.getElem?_eq_getElem hj')
  rw [add_mk, Nat.zero_add] at h1
  rw [h1, getElem!_pos _ j hj]
  rfl
theorem sorted_row (hk : ∀ x, (enc x).length = 2) {d : Array α} (hs : d.size = n) (hown : w.ownsRow base e 2 (.slice (some ⟨g, 0, none⟩) n cap) n cells) :
    (sortWorldK enc 2 w g 0 m d os).ownsRow base e 2 (.slice (some ⟨g, 0, none⟩) n cap) n (d.toList.flatMap enc) ∧ (∀ j, j < w.heap.size → j ≠ g → (sortWorldK enc 2 w g 0 m d os).heap[j]? = w.heap[j]?) := by
  rcases hown.2 with ⟨hv, _⟩ | ⟨g', cap', cur, hv, hb0, hh, hle, hmax, hcur, htk⟩
  · cases hv
  cases hv
  have hgl : g < w.heap.size := (Array.getElem?_eq_some_iff.1 hh).1
  have hlen : (d.toList.flatMap enc).length = n * 2 := by
    have := congrArg Array.size (flatK_eq enc hk d)
    rw [size_flatK, hs] at this
    simpa using this.symm
  have hrow : ∀ j, j < w.heap.size → (sortWorldK enc 2 w g 0 m d os).heap[j]? = if g = j then (w.heap[j]?).map (Go.Sort.onCells (Go.Sort.putCells id 0 (flatK enc 2 d))) else w.heap[j]? := by
    intro j hj
    unfold sortWorldK
    rw [heap_grow_old _ _ (by simpa [putRowK, Go.Sort.size_putRow] using hj)]
    unfold putRowK Go.Sort.putRow
    rw [heap_mapB]
    rfl
  refine ⟨⟨hlen, .inr ⟨g, cap, _, rfl, hb0, by rw [hrow g hgl, if_pos rfl, hh]; rfl, hle, hmax, by simp [Go.Sort.putCells, hcur], ?_⟩⟩, fun j hj hne => by rw [hrow j hj, if_neg (fun e => hne e.symm)]⟩
  apply List.ext_getElem?
  intro j
  rw [flatK_eq enc hk]
  have hsz : n * 2 ≤ cur.size := by rw [hcur]; exact Nat.mul_le_mul_right _ hle
  by_cases hj : j < n * 2
  · have hj2 : j < cur.size := by omega
    have hj3 : j < (d.toList.flatMap enc).length := by omega
    rw [List.getElem?_take_of_lt hj, Array.getElem?_toList]
    unfold Go.Sort.putCells
    rw [Array.getElem?_mapIdx, Array.getElem?_eq_getElem hj2, Option.map_some, if_pos ⟨Nat.zero_le _, by simpa using hj3⟩, List.getElem?_eq_getElem hj3]
    simp only [Nat.sub_zero, id]
    rw [getElem!_pos _ j (by simpa using hj3)]
    simp
  · rw [List.getElem?_eq_none (by simp; omega), List.getElem?_eq_none (by omega)]
end

theorem sub_list {α : Type} {p : α → Prop} : ∀ (l : List α), (∀ x ∈ l, p x) → ∃ d : List {x // p x}, d.map (·.1) = l
  | [], _ => ⟨[], rfl⟩
  | x :: l, h => let ⟨d, hd⟩ := sub_list l fun y hy => h y (List.mem_cons_of_mem _ hy); ⟨⟨x, h x List.mem_cons_self⟩ :: d, by simp [hd]⟩
theorem ce_len (x : Int × Int × Unit) : (ce x).length = 2 := rfl
set_option maxRecDepth 100000 in
set_option maxHeartbeats 4000000 in
theorem sortedFuncP (Bm b : Nat) (es : Array MapEntry) (clock : Nat) (ks : List (Int × Int × Unit)) (w : World) (hBm : Bm < w.heap.size) (hm : w.cell? ⟨Bm, 0, none⟩ = some (.map (some b)))
    (hb : w.heap[b]? = some (.map es clock)) (hborn : ∀ e ∈ es.toList, e.born < clock) (hnd : (es.toList.map (·.born)).Nodup) (hk : es.toList.map (·.key) = ks.map encP) (hN : ks.length ≤ maxLen) (hNb : ks.length * 8 ≤ 140737488355328)
    (c : (Int × Int × Unit) → (Int × Int × Unit) → Option Int) (hgood : good c ks = true) (g : Nat) (cb : Array Value) (eg : ∀ args w, (callFunc g args).run Tryd.prog w = .ok (.enter g args) w)
    (hcmp : ∀ W : World, W.os = w.os → W.tape = w.tape → W.output = w.output → w.heap.size ≤ W.heap.size → (∀ j, j < w.heap.size → W.heap[j]? = w.heap[j]?) → ∀ x y n, c x y = some n →
      Calls Tryd.prog g (#[encP x, encP y] ++ cb) W fun e W' => e = .returned (.int .i64 n) ∧ ∃ q os, W' = grow (W.drewN q) os) :
    Calls Tryd.prog 20 #[.func (.func 33) #[] #[.pointer (some ⟨Bm, 0, none⟩)], .func (.func g) #[] cb] w fun e w' =>
      ∃ v, e = .returned v ∧ w'.ownsRow w.heap.size 44 2 v ks.length ((isort (ltO c) ks).flatMap ce) ∧ Below w.heap.size w w' := by
  have hes : es.size = ks.length := by
    have := congrArg List.length hk
    simpa using this
  obtain ⟨hparts, htot⟩ := good_parts hgood
  refine (callsIn_wide (n := 6)).1 ?_
  refine callsIn_of_wp Tryd.func20 rfl trivial ?_ rfl
  simp only [Tryd.ntmps20, List.size_toArray, List.length_cons, List.length_nil, Nat.reduceAdd, Nat.reduceSub, Array.replicate_succ, Array.replicate_zero, List.push_toArray, List.append_toArray, List.nil_append, List.cons_append]
  have hcol := collectP Fence.wide 5 trivial trivial rfl (by omega) 33 #[.pointer (some ⟨Bm, 0, none⟩)] trivial (enters_of Tryd.func33 (by kernel_rfl) rfl) (fun ss => ss.Perm ks) (fun _ => True) es.size (by omega) (by omega) w (keysP_stops Fence.wide 3 trivial rfl (by omega) Bm b es clock ks w hBm hm hb hborn hnd hk)
  gi_wp2_with (refine ⟨trivial, ?_⟩; gi_at_call 31; refine hcol.mono ?_; rintro e W ⟨v, ss, rfl, hS, hrow, hbelow⟩)
  have hlen : ss.length = ks.length := hS.length_eq
  obtain ⟨W', hsort, hrow', hb'⟩ : ∃ R : World → Prop, Calls Tryd.prog 32 #[v, .func (.func g) #[] cb] W (fun e W' => e = .returned (.tuple #[]) ∧ R W') ∧
      (∀ W', R W' → W'.ownsRow w.heap.size 44 2 v ks.length ((isort (ltO c) ks).flatMap ce)) ∧ (∀ W', R W' → Below w.heap.size w W') := by
    by_cases h0 : ss = []
    · have hks : ks = [] := List.eq_nil_of_length_eq_zero (by rw [← hlen, h0]; rfl)
      subst h0
      refine ⟨fun W' => W' = W, ?_, fun W' e => ?_, fun W' e => by rw [e]; exact hbelow⟩
      · have hv : ∃ p cap, v = .slice p 0 cap := by
          rcases hrow.2 with ⟨hv, _⟩ | ⟨g', cap, cur, hv, _⟩
          · exact ⟨none, 0, hv⟩
          · exact ⟨_, cap, hv⟩
        obtain ⟨p, cap, rfl⟩ := hv
        exact AnyF.slices_SortFunc_none (P := Tryd.prog) (ρ := R_Sort) L_Sort p cap _ W
      · rw [e, hks]
        exact hrow
    · rcases hrow.2 with ⟨_, hz⟩ | ⟨g', cap, cur, hv, hbase, hgb, hle, hmax, hcur, htk⟩
      · exact absurd (List.eq_nil_of_length_eq_zero hz) h0
      subst hv
      have hgl : g' < W.heap.size := (Array.getElem?_eq_some_iff.1 hgb).1
      obtain ⟨x0, hx0⟩ := List.exists_mem_of_ne_nil ss h0
      haveI : Inhabited {x // x ∈ ks} := ⟨⟨x0, hS.mem_iff.1 hx0⟩⟩
      obtain ⟨d, hd⟩ : ∃ d : Array {x // x ∈ ks}, d.toList.map (·.1) = ss := let ⟨l, hl⟩ := sub_list ss fun x hx => hS.mem_iff.1 hx; ⟨l.toArray, hl⟩
      have hds : d.size = ss.length := by have := congrArg List.length hd; simpa using this
      obtain ⟨enc, henc⟩ : ∃ enc : {x // x ∈ ks} → List Value, enc = fun x => ce x.1 := ⟨_, rfl⟩
      have hek : ∀ x, (enc x).length = 2 := fun x => by rw [henc]; rfl
      have hfm : ∀ l : List {x // x ∈ ks}, l.flatMap enc = (l.map (·.1)).flatMap ce := fun l => by rw [henc, List.flatMap_map]
      obtain ⟨cf, hcf⟩ : ∃ cf : {x // x ∈ ks} → {x // x ∈ ks} → Int, cf = fun x y => (c x.1 y.1).getD 0 := ⟨_, rfl⟩
      have hcv : ∀ x y, c x.1 y.1 = some (cf x y) := fun x y => by
        obtain ⟨n, hn⟩ := htot x.1 x.2 y.1 y.2
        rw [hcf]; simp only [hn]; rfl
      have hlt : ∀ x y, ltOf cf x y = ltO c x.1 y.1 := fun x y => by unfold ltOf ltO; rw [hcv]
      have hO := hparts.swo hlt
      have hrow2 : W.ownsRow w.heap.size 44 2 (.slice (some ⟨g', 0, none⟩) ss.length cap) ss.length (d.toList.flatMap enc) := by rw [hfm, hd]; exact hrow
      have hH : HoldsK enc 2 W g' 0 d := row_holdsK hek hrow2
      have h1c : ∀ x, ∀ u ∈ enc x, u.oneCell' = true := fun x u hu => by rw [henc] at hu; simp [ce] at hu; rcases hu with rfl | rfl <;> rfl
      have hC : CmpLays Tryd.prog g cb enc 2 cf g' 0 d.size W := by
        intro m os dk hdk x y
        have hss := sorted_row (m := m) (os := os) hek (d := dk) (n := ss.length) (by omega) hrow
        have hrw : #[Value.agg (enc x).toArray, Value.agg (enc y).toArray] ++ cb = #[encP x.1, encP y.1] ++ cb := by rw [henc]; rfl
        rw [hrw]
        refine hcmp (sortWorldK enc 2 W g' 0 m dk os) hbelow.os hbelow.tape hbelow.output ?_ (fun j hj => ?_) x.1 y.1 _ (hcv x y)
        · refine Nat.le_trans hbelow.size ?_
          unfold sortWorldK
          rw [size_grow]
          exact Nat.le_trans (by simp [putRowK, Go.Sort.size_putRow]) (Nat.le_add_right _ _)
        · rw [hss.2 j (Nat.lt_of_lt_of_le hj hbelow.size) (by omega)]
          exact hbelow.block j hj
      have hsf := AnyQ.slices_SortFunc (P := Tryd.prog) (ρ := R_Sort) L_Sort 2 Tryd.isAgg44 Tryd.sizeOf44 enc hek h1c cf hO g cb g' 0 cap d W eg hC hH hgl (by omega)
      rw [hds] at hsf
      refine ⟨fun W' => ∃ d' : Array {x // x ∈ ks}, ∃ n os, d'.toList.map (·.1) = isort (ltO c) ks ∧ d'.size = ss.length ∧ W' = sortWorldK enc 2 W g' 0 n d' os, hsf.mono ?_, ?_, ?_⟩
      · rintro e W' ⟨rfl, d', n, os, hp, hso, rfl⟩
        have hp' := permIn_perm (show PermIn 0 d.size d d' by rw [hds]; exact hp)
        have hso' := sortedIn_pairwise (show SortedIn (ltOf cf) 0 d'.size d' by rw [hp'.2, hds]; exact hso)
        refine ⟨rfl, d', n, os, isort_eq hparts (fun y hy => hy) ?_ ?_, by rw [hp'.2, hds], rfl⟩
        · exact ((hp'.1.map (·.1)).trans (by rw [hd])).trans hS
        · rw [List.pairwise_map]
          exact hso'.imp fun h => by rw [← hlt]; exact h
      · rintro W' ⟨d', n, os, he, hsz, rfl⟩
        have := (sorted_row (m := n) (os := os) hek (d := d') hsz hrow).1
        rw [hfm, he, hlen] at this
        rw [hlen]
        exact this
      · rintro W' ⟨d', n, os, he, hsz, rfl⟩
        have h2 := (sorted_row (m := n) (os := os) hek (d := d') hsz hrow).2
        refine ⟨hbelow.os, hbelow.tape, hbelow.output, ?_, fun j hj => ?_⟩
        · refine Nat.le_trans hbelow.size ?_
          unfold sortWorldK
          rw [size_grow]
          exact Nat.le_trans (by simp [putRowK, Go.Sort.size_putRow]) (Nat.le_add_right _ _)
        · rw [h2 j (Nat.lt_of_lt_of_le hj hbelow.size) (by omega)]
          exact hbelow.block j hj
  have hsort' := (callsIn_wide (n := 5)).2 hsort
  gi_wp2_with (refine ⟨trivial, ?_⟩; gi_at_call 32; refine hsort'.mono ?_; rintro e W2 ⟨rfl, hR⟩)
  go_ret
  exact ⟨_, rfl, hrow' _ hR, hb' _ hR⟩
end Go.Ev
