/- Regions that draw their order: operations that only compute, read, or call for flat results. -/
import Derived.Test.YtciikbiapmbocaaDoorEvS
namespace Go.Ev
open Go Go.RowKit
variable {cx : Cx} {m : Nat → Value} {st st' : St} {T : Array Value} {w w' : World} {E : Env} {Q : Post} {ops : Array Oper} {l : List Oper}

theorem flat_detVs {w w' : World} {M M' : Nat → Prop} : ∀ {vs vs' : List Value} {l : List TV}, (∀ u ∈ l, u.t.flat = true) → repVs w M vs l → repVs w' M' vs' l → vs = vs'
  | [], [], [], _, _, _ => rfl
  | [], _, _ :: _, _, h, _ => h.elim
  | _ :: _, _, [], _, h, _ => h.elim
  | _, [], _ :: _, _, _, h => h.elim
  | _, _ :: _, [], _, _, h => h.elim
  | _ :: _, _ :: _, u :: _, hf, ⟨h1, h2⟩, ⟨h3, h4⟩ => by
    rw [flat_detV (hf u List.mem_cons_self) h1 h3, flat_detVs (fun x hx => hf x (List.mem_cons_of_mem _ hx)) h2 h4]

/-- Results on which no memory hangs, one at least: one value alone reads so. -/
def flatRes : List TV → Bool
  | [] => false
  | l => l.all fun u => u.t.flat
theorem resSV_det {w w' : World} {M M' : Nat → Prop} {m m' : Nat → Value} {v v' : Value} {l : List TV} (hf : flatRes l = true) (h : repS w M m v (resSV l)) (h' : repS w' M' m' v' (resSV l)) : v = v' := by
  match l, hf, h, h' with
  | [u], hf, h, h' => exact flat_detV (by simpa [flatRes] using hf) h h'
  | u1 :: u2 :: us, hf, ⟨vs, e, h⟩, ⟨vs', e', h'⟩ =>
    rw [e, e', flat_detVs (fun u hu => by simp only [flatRes, List.all_eq_true] at hf; exact hf u hu) h h']

/-- One operation of a region that draws. -/
def evD1 (E : Env) (st : St) (o : Oper) (orc : List TV) : Option PR :=
  match evP E.P st o.op orc with
  | some r => some r
  | none => match o.op with
    | .load t x => evLoad E.P st t x orc
    | .call c => match c.callee with
      | .value x => match calleeOf E st x with
        | some (_, F, _) => bif F.flat && flatRes (orc.take F.nres) then evCall E st c orc else none
        | none => none
      | _ => none
    | _ => none
def evD (E : Env) (ops : Array Oper) : List Oper → St → List TV → Option (St × List TV × List Prop)
  | [], st, orc => some (st, orc, [])
  | o :: l, st, orc => match wantSV ops st o with
    | some true => match o.dst, evD1 E st o orc with
      | some d, some r => match Nat.blt d E.n, evD E ops l (st.put d r.sv) r.orc with
        | true, some (st2, orc2, ob2) => some (st2, orc2, r.ob ++ ob2)
        | _, _ => none
      | _, _ => none
    | some false => match o.dst with
      | some d => match Nat.blt d E.n with
        | true => evD E ops l (st.put d .undef) orc
        | false => none
      | none => evD E ops l st orc
    | none => none

theorem calls_exists {P : Program} {f : FuncId} {args : Array Value} {R : Ending → World → Prop} (h : Calls P f args w R) : ∃ e w', R e w' := by
  obtain ⟨e, w', fr, hR, _⟩ := h []
  exact ⟨e, w', hR⟩

theorem evD1_sound (hE : EnvOK E cx) (h : Rm cx m st T w) {o : Oper} {orc : List TV} {r : PR} (hev : evD1 E st o orc = some r) (hob : allP r.ob) :
    ∃ v, (∀ w', Ext w w' → o.quietAt cx.P ⟨T, []⟩ (Ext w) w' v) ∧ repS w (Mut cx m st.ids) m v r.sv := by
  unfold evD1 at hev
  split at hev
  · rename_i r' hp
    cases hev
    rw [← hE.P] at hp
    obtain ⟨v, hd, hv⟩ := evP_sound h hp hob
    refine ⟨v, fun w' he => ?_, hv⟩
    unfold Oper.quietAt
    rw [hd w' he]
    exact ⟨rfl, rfl⟩
  · split at hev
    · rename_i t x hop
      rw [← hE.P] at hev
      obtain ⟨v, hs, hv⟩ := evLoad_sound h hev hob
      refine ⟨v, fun w' he => ?_, hv⟩
      unfold Oper.quietAt
      rw [exec_value (by simp only [execOp, hop]) (hs w' he)]
      exact ⟨rfl, rfl⟩
    · rename_i c hop
      split at hev
      · rename_i xo hc
        split at hev
        · rename_i f F lc hF
          cases hb : F.flat && flatRes (orc.take F.nres) with
          | false => rw [hb] at hev; cases hev
          | true =>
            rw [hb, cond_true] at hev
            simp only [Bool.and_eq_true] at hb
            have hr : r.sv = resSV (orc.take F.nres) := by
              unfold evCall at hev
              rw [hc] at hev
              simp only [hF] at hev
              split at hev
              · cases hn : Nat.ble F.nres orc.length with
                | false => rw [hn] at hev; cases hev
                | true => rw [hn] at hev; cases hev; rfl
              · cases hev
            obtain ⟨f0, args, hrun, hcalls⟩ := evCall_sound hE h hop hev hob
            obtain ⟨e, w1, v, _, hext, hv⟩ := calls_exists hcalls
            refine ⟨v, fun w' he => ?_, ?_⟩
            · obtain ⟨f1, args1, hrun1, hcalls1⟩ := evCall_sound hE (h.ext he) hop hev hob
              unfold Oper.quietAt
              rw [hrun1 w']
              refine ⟨rfl, hcalls1.mono ?_⟩
              rintro e' w2 ⟨v', he', hext', hv'⟩
              rw [hr] at hv hv'
              refine ⟨?_, he.trans hext'⟩
              rw [he', resSV_det hb.2 hv' hv]
            · rw [hr] at hv ⊢
              have hfl : ∀ u ∈ orc.take F.nres, u.t.flat = true := by
                have h2 := hb.2
                intro u hu
                cases hl : orc.take F.nres with
                | nil => rw [hl] at hu; simp at hu
                | cons a as => rw [hl] at h2 hu; simp only [flatRes, List.all_eq_true] at h2; exact h2 u hu
              match hl : orc.take F.nres, hfl, hv with
              | [], _, _ => trivial
              | [u], hfl, hv => exact repV_flat (hfl u List.mem_cons_self) hv
              | _ :: _ :: _, hfl, ⟨vs, e, hvs⟩ => exact ⟨vs, e, repVs_flat hfl hvs⟩
        · cases hev
      · cases hev
    · cases hev

theorem evD_sound (hE : EnvOK E cx) {Q' : Act → Prop} : ∀ {l : List Oper} {st : St} {T : Array Value} {orc orc' : List TV} {st' : St} {ob : List Prop}, R cx st T w → evD E ops l st orc = some (st', orc', ob) → allP ob →
    (∀ T', R cx st' T' w → Q' ⟨T', []⟩) → wpQuiet cx.P ops (Ext w) Q' l ⟨T, []⟩
  | [], st, T, _, _, _, _, h, hev, _, hQ => by
    cases hev
    exact hQ T h
  | o :: l, st, T, orc, orc', st', ob, h, hev, hob, hQ => by
    unfold evD at hev
    unfold wpQuiet
    split at hev
    · rename_i hw
      rw [wantSV_sound h hw]
      simp only [if_true]
      split at hev
      · rename_i d r hd hr
        split at hev
        · rename_i st2 orc2 ob2 hdn hl
          cases hev
          obtain ⟨ha, hb⟩ := allP_append hob
          obtain ⟨m, hm⟩ := h
          obtain ⟨v, hq, hv⟩ := evD1_sound hE hm hr ha
          refine ⟨v, hq, ?_⟩
          rw [hd]
          exact evD_sound hE ⟨m, hm.put (by rw [hE.n]; exact blt_true hdn) hv⟩ hl hb hQ
        · cases hev
      · cases hev
    · rename_i hw
      rw [wantSV_sound h hw]
      simp only [Bool.false_eq_true, if_false]
      split at hev
      · rename_i d hd
        split at hev
        · rename_i hdn
          obtain ⟨m, hm⟩ := h
          rw [hd]
          exact evD_sound hE ⟨m, hm.put (d := d) (s := .undef) (v := undef) (by rw [hE.n]; exact blt_true hdn) rfl⟩ hev hob hQ
        · cases hev
      · rename_i hd
        rw [hd]
        exact evD_sound hE h hev hob hQ
    · cases hev

/-- What is shown of a region that draws, operation by operation. -/
def WD (cx : Cx) (ops : Array Oper) (Q : Post) (l : List Oper) (st : St) : Prop := ∀ T w, R cx st T w → wpQuiet cx.P ops (Ext w) (fun a => ∀ w', Ext w w' → Q .normal a w') l ⟨T, []⟩

theorem W_draw {id : Nat} {l : List Oper} (hm : cx.P.follows .mixedOrders = true) (hB : Region.lexB .any l.toArray = true) (h : WD cx l.toArray Q l st) : W cx Q (.region id l.toArray true) st := fun T w hR =>
  wp_region_quiet (C := Ext w) hm hB { os := rfl, tape := rfl, output := rfl, size := Nat.le_refl _, block := fun _ _ => rfl } (by simpa using h T w hR)
theorem R.ext (h : R cx st T w) (he : Ext w w') : R cx st T w' := let ⟨m, hm⟩ := h; ⟨m, hm.ext he⟩

theorem wpQuiet_append {P : Program} {C : World → Prop} {Q' : Act → Prop} : ∀ {l1 l2 : List Oper} {a : Act}, wpQuiet P ops C (wpQuiet P ops C Q' l2) l1 a → wpQuiet P ops C Q' (l1 ++ l2) a
  | [], _, _, h => h
  | o :: l1, l2, a, h => by
    simp only [List.cons_append, wpQuiet] at h ⊢
    split
    · rename_i hw
      rw [if_pos hw] at h
      exact Oper.quiet_mono (fun a => wpQuiet_append) h
    · rename_i hw
      rw [if_neg hw] at h
      exact wpQuiet_append h

def evDK (E : Env) (ops : Array Oper) (l : List Oper) (st : St) (orc : List TV) (ks bs rs : List Nat) : Option (St × List TV × List Prop) :=
  match evD E ops l st orc with
  | some (s, o, p) => match s.norm ks bs rs with
    | some s' => some (s', o, p)
    | none => none
  | none => none
theorem evDK_some {orc orc' : List TV} {ob : List Prop} {ks bs rs : List Nat} (h : evDK E ops l st orc ks bs rs = some (st', orc', ob)) : ∃ s, evD E ops l st orc = some (s, orc', ob) ∧ s.norm ks bs rs = some st' := by
  unfold evDK at h
  split at h
  · rename_i s o p hl
    split at h
    · rename_i s' hn
      cases h
      exact ⟨s, hl, hn⟩
    · cases h
  · cases h
theorem WD_all (hE : EnvOK E cx) (ks bs rs : List Nat) {orc : List TV} {ob : List Prop} (hev : evDK E ops l st orc ks bs rs = some (st', [], ob)) (hob : allP ob) (h : N cx Q .normal st') : WD cx ops Q l st := by
  obtain ⟨s, h1, h2⟩ := evDK_some hev
  intro T w hR
  exact evD_sound hE hR h1 hob fun T' hR' w' he => h T' w' ((hR'.norm h2).ext he)
theorem WD_tk (hE : EnvOK E cx) (n : Nat) (ks bs rs : List Nat) {orc : List TV} {ob : List Prop} (hev : evDK E ops (l.take n) st orc ks bs rs = some (st', [], ob)) (hob : allP ob) (h : WD cx ops Q (l.drop n) st') : WD cx ops Q l st := by
  obtain ⟨s, h1, h2⟩ := evDK_some hev
  intro T w hR
  have := wpQuiet_append (P := cx.P) (ops := ops) (l1 := l.take n) (l2 := l.drop n) (evD_sound hE hR h1 hob fun T' hR' => h T' w (hR'.norm h2))
  rwa [List.take_append_drop] at this
theorem WD_split (S : Bool → St) {b : Bool} (ht : b = true → WD cx ops Q l (S true)) (hf : b = false → WD cx ops Q l (S false)) : WD cx ops Q l (S b) := by cases b with | true => exact ht rfl | false => exact hf rfl
/-- The middle of a region, and what is known behind it: 'ND'. -/
def ND (cx : Cx) (K : World → Act → Prop) (st : St) : Prop := ∀ T w, R cx st T w → K w ⟨T, []⟩
def WDK (cx : Cx) (ops : Array Oper) (K : World → Act → Prop) (l : List Oper) (st : St) : Prop := ∀ T w, R cx st T w → wpQuiet cx.P ops (Ext w) (K w) l ⟨T, []⟩
theorem WD_join {α : Type} (F : α → Prop) (S : α → St) (n : Nat) (hy : ∀ a, F a → WD cx ops Q (l.drop n) (S a))
    (hx : ∀ K, (∀ a, F a → ND cx K (S a)) → WDK cx ops K (l.take n) st) : WD cx ops Q l st := by
  intro T w hR
  have := wpQuiet_append (P := cx.P) (ops := ops) (l1 := l.take n) (l2 := l.drop n)
    (hx (fun w => wpQuiet cx.P ops (Ext w) (fun a => ∀ w', Ext w w' → Q .normal a w') (l.drop n)) (fun a ha T w hR => hy a ha T w hR) T w hR)
  rwa [List.take_append_drop] at this
theorem WDK_split {K : World → Act → Prop} (S : Bool → St) {b : Bool} (ht : b = true → WDK cx ops K l (S true)) (hf : b = false → WDK cx ops K l (S false)) : WDK cx ops K l (S b) := by cases b with | true => exact ht rfl | false => exact hf rfl
theorem WDK_all {K : World → Act → Prop} (hE : EnvOK E cx) (ks bs rs : List Nat) {orc : List TV} {ob : List Prop} (hev : evDK E ops l st orc ks bs rs = some (st', [], ob)) (hob : allP ob) (h : ND cx K st') : WDK cx ops K l st := by
  obtain ⟨s, h1, h2⟩ := evDK_some hev
  intro T w hR
  exact evD_sound hE hR h1 hob fun T' hR' => h T' w (hR'.norm h2)
theorem WDK_tk {K : World → Act → Prop} (hE : EnvOK E cx) (n : Nat) (ks bs rs : List Nat) {orc : List TV} {ob : List Prop} (hev : evDK E ops (l.take n) st orc ks bs rs = some (st', [], ob)) (hob : allP ob) (h : WDK cx ops K (l.drop n) st') : WDK cx ops K l st := by
  obtain ⟨s, h1, h2⟩ := evDK_some hev
  intro T w hR
  have := wpQuiet_append (P := cx.P) (ops := ops) (l1 := l.take n) (l2 := l.drop n) (evD_sound hE hR h1 hob fun T' hR' => h T' w (hR'.norm h2))
  rwa [List.take_append_drop] at this

end Go.Ev
