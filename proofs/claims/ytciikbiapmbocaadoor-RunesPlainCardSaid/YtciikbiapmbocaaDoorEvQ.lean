/- Code by code: what is to be shown of a piece of code, given the state ahead of it. -/
import Derived.Test.YtciikbiapmbocaaDoorEvP
namespace Go.Ev
open Go Go.RowKit

abbrev Post := Exit → Act → World → Prop
def W (cx : Cx) (Q : Post) (c : Code) (st : St) : Prop := ∀ T w, R cx st T w → c.wp cx.P Q ⟨T, []⟩ w
def WL (cx : Cx) (ops : Array Oper) (Q : Post) (l : List Oper) (st : St) : Prop := ∀ T w, R cx st T w → wpList cx.P ops Q l ⟨T, []⟩ w
def N (cx : Cx) (Q : Post) (e : Exit) (st : St) : Prop := ∀ T w, R cx st T w → Q e ⟨T, []⟩ w

/-- Is an operation wanted? -/
def wantSV (ops : Array Oper) (st : St) (o : Oper) : Option Bool :=
  match o.guard with
  | none => some true
  | some (j, b) => match (ops[j]?).bind (·.dst) with
    | some d => match look st.sl d with
      | some (.val .bool true) => some b
      | some (.val .bool false) => some (!b)
      | some .undef => some false
      | _ => none
    | none => none

def evL (E : Env) (ops : Array Oper) : List Oper → St → List TV → Option (St × List TV × List Prop)
  | [], st, orc => some (st, orc, [])
  | o :: l, st, orc => match wantSV ops st o with
    | some true => match evO E st o orc with
      | some (st1, orc1, ob) => match evL E ops l st1 orc1 with
        | some (st2, orc2, ob2) => some (st2, orc2, ob ++ ob2)
        | none => none
      | none => none
    | some false => match o.dst with
      | some d => match Nat.blt d E.n with
        | true => evL E ops l (st.put d .undef) orc
        | false => none
      | none => evL E ops l st orc
    | none => none

variable {cx : Cx} {st st' : St} {T : Array Value} {w : World} {E : Env} {Q : Post} {ops : Array Oper} {l : List Oper}

theorem allP_append : ∀ {a b : List Prop}, allP (a ++ b) → allP a ∧ allP b
  | [], _, h => ⟨trivial, h⟩
  | _ :: _, _, ⟨h1, h2⟩ => ⟨⟨h1, (allP_append h2).1⟩, (allP_append h2).2⟩

theorem wantSV_sound (h : R cx st T w) {o : Oper} {b : Bool} (hb : wantSV ops st o = some b) : Region.wanted o (yielded ops T) = b := by
  obtain ⟨m, hm⟩ := h
  unfold wantSV at hb
  unfold Region.wanted
  split at hb
  · rename_i hg
    cases hb
    rw [hg]
  · rename_i j b' hg
    rw [hg]
    simp only []
    split at hb
    · rename_i d hd
      have key : ∀ s, look st.sl d = some s → ∃ v, T[d]? = some v ∧ repS w (Mut cx m st.ids) m v s := fun s hs => hm.slots d s (look_mem hs)
      unfold yielded
      rw [hd]
      simp only [Option.bind_some]
      split at hb
      · rename_i hl
        obtain ⟨v, h1, h2⟩ := key _ hl
        rw [h1, repV_bool.1 h2]
        cases hb
        cases b <;> rfl
      · rename_i hl
        obtain ⟨v, h1, h2⟩ := key _ hl
        rw [h1, repV_bool.1 h2]
        cases hb
        cases b' <;> rfl
      · rename_i hl
        obtain ⟨v, h1, h2⟩ := key _ hl
        have h2' : v = undef := h2
        rw [h1, h2']
        cases hb
        cases b' <;> rfl
      · cases hb
    · cases hb

theorem evL_sound (hE : EnvOK E cx) : ∀ {l : List Oper} {st : St} {T : Array Value} {w : World} {orc orc' : List TV} {st' : St} {ob : List Prop}, R cx st T w → evL E ops l st orc = some (st', orc', ob) → allP ob →
    (∀ T' w', R cx st' T' w' → Q .normal ⟨T', []⟩ w') → wpList cx.P ops Q l ⟨T, []⟩ w
  | [], st, T, w, _, _, _, _, h, hev, _, hQ => by
    cases hev
    exact hQ T w h
  | o :: l, st, T, w, orc, orc', st', ob, h, hev, hob, hQ => by
    unfold evL at hev
    refine wpList_step fun K hK => ?_
    split at hev
    · rename_i hw
      rw [wantSV_sound h hw]
      simp only [if_true]
      split at hev
      · rename_i st1 orc1 ob1 ho
        split at hev
        · rename_i st2 orc2 ob2 hl
          cases hev
          obtain ⟨ha, hb⟩ := allP_append hob
          exact evO_sound hE h ho ha fun T' w' hR => hK _ _ (evL_sound hE hR hl hb hQ)
        · cases hev
      · cases hev
    · rename_i hw
      rw [wantSV_sound h hw]
      simp only [Bool.false_eq_true, if_false]
      split at hev
      · rename_i d hd
        split at hev
        · rename_i hdn
          obtain ⟨m, hm⟩ := h
          have hput := hm.put (d := d) (s := .undef) (v := undef) (by rw [hE.n]; exact blt_true hdn) rfl
          refine hK _ _ ?_
          rw [hd]
          exact evL_sound hE ⟨m, hput⟩ hev hob hQ
        · cases hev
      · rename_i hd
        refine hK _ _ ?_
        rw [hd]
        exact evL_sound hE h hev hob hQ
    · cases hev

theorem wpList_append {P : Program} {Q : Post} : ∀ {l1 l2 : List Oper} {a : Act} {w : World}, wpList P ops (Exit.then (wpList P ops Q l2) Q) l1 a w → wpList P ops Q (l1 ++ l2) a w
  | [], l2, a, w, h => h
  | o :: l1, l2, a, w, h => by
    simp only [List.cons_append, wpList] at h ⊢
    split
    · rename_i hw
      rw [if_pos hw] at h
      rcases h with h | ⟨h1, h2⟩
      · refine .inl ?_
        have hm : ∀ a w, wpList P ops (Exit.then (wpList P ops Q l2) Q) l1 a w → wpList P ops Q (l1 ++ l2) a w := fun a w => wpList_append
        unfold Oper.wp Oper.upon at h ⊢
        split at h
        · exact hm _ _ h
        · exact hm _ _ h
        · exact hm _ _ h
        · refine Calls.mono h ?_
          intro e w' hh
          cases e with
          | returned v => exact hm _ _ hh
          | panicked c => exact hh
          | outgrown => exact hh
        · exact Rows.mono h fun v w' hh => hm _ _ hh
        · exact h
        · exact h.elim
      · exact .inr ⟨h1, h2⟩
    · rename_i hw
      rw [if_neg hw] at h
      exact wpList_append h

/-! The rules. -/
theorem W_skip (h : N cx Q .normal st) : W cx Q .skip st := fun T w hR => wp_skip (h T w hR)
theorem W_seq {x y : Code} (h : W cx (Exit.then (y.wp cx.P Q) Q) x st) : W cx Q (.seq x y) st := fun T w hR => wp_seq (h T w hR)
theorem W_block {id : Nat} {c : Code} (h : W cx (Exit.inBlock id Q) c st) : W cx Q (.block id c) st := fun T w hR => wp_block (h T w hR)
theorem W_exit {id : Nat} (h : N cx Q (.exit id) st) : W cx Q (.exit id) st := fun T w hR => wp_exit (h T w hR)
theorem W_ret (h : N cx Q .ret st) : W cx Q .ret st := fun T w hR => wp_ret (h T w hR)
theorem W_cond {c : Operand} {x y : Code} {b : Bool} (hc : getSV st c = some (.val .bool b)) (ht : b = true → W cx Q x st) (hf : b = false → W cx Q y st) : W cx Q (.cond c x y) st := fun T w hR => by
  obtain ⟨m, hm⟩ := hR
  have hv := repV_bool.1 (getSV_sound hm hc)
  cases b with
  | true => exact wp_cond_true hv (ht rfl T w ⟨m, hm⟩)
  | false => exact wp_cond_false hv (hf rfl T w ⟨m, hm⟩)
theorem W_cond_true {c : Operand} {x y : Code} (hc : getSV st c = some (.val .bool true)) (ht : W cx Q x st) : W cx Q (.cond c x y) st := W_cond hc (fun _ => ht) (fun h => by cases h)
theorem W_cond_false {c : Operand} {x y : Code} (hc : getSV st c = some (.val .bool false)) (ht : W cx Q y st) : W cx Q (.cond c x y) st := W_cond hc (fun h => by cases h) (fun _ => ht)

theorem exists_least (p : Nat → Prop) : ∀ n, p n → ∃ n, p n ∧ ∀ m, p m → n ≤ m := by
  intro n
  induction n using Nat.strongRecOn with
  | _ n ih =>
    intro hn
    by_cases h : ∃ m, m < n ∧ p m
    · obtain ⟨m, hm, hp⟩ := h
      exact ih m hm hp
    · exact ⟨n, hn, fun m hm => by
        rcases Nat.lt_or_ge m n with h1 | h1
        · exact absurd ⟨m, h1, hm⟩ h
        · exact h1⟩
theorem least_of {p : Nat → Prop} (h : ∃ n, p n) : ∃ n, p n ∧ ∀ m, p m → n ≤ m := let ⟨n, hn⟩ := h; exists_least p n hn

open Classical in
theorem wp_loop_fuel {P : Program} {c : Code} {Q : Post} (J : Nat → Act → World → Prop) (step : ∀ k a w, J k a w → c.wp P (Exit.then (fun a' w' => ∃ k', k' < k ∧ J k' a' w') Q) a w) {k : Nat} {a : Act} {w : World} (h : J k a w) :
    (Code.loop c).wp P Q a w := by
  refine wp_loop (fun a w => ∃ k, J k a w) (fun a w => if h : ∃ k, J k a w then Classical.choose (least_of h) else 0) ⟨k, h⟩ ?_
  intro a w hI
  have hk := Classical.choose_spec (least_of hI)
  refine Code.wp_mono ?_ (step _ a w hk.1)
  intro e a' w' q
  cases e with
  | normal =>
    obtain ⟨k', hlt, hJ⟩ := q
    refine ⟨⟨k', hJ⟩, ?_⟩
    have hI' : ∃ k, J k a' w' := ⟨k', hJ⟩
    rw [dif_pos hI, dif_pos hI']
    exact Nat.lt_of_le_of_lt ((Classical.choose_spec (least_of hI')).2 k' hJ) hlt
  | _ => exact q

/-- What a round comes back with. -/
def Back {α : Type} (cx : Cx) (F : Nat → α → Prop) (S : α → St) (k : Nat) : Act → World → Prop := fun a' w' => ∃ k' x', k' < k ∧ F k' x' ∧ a'.defers = [] ∧ R cx (S x') a'.tmps w'
theorem W_loop {α : Type} (F : Nat → α → Prop) (S : α → St) {c : Code} (step : ∀ k x, F k x → W cx (Exit.then (Back cx F S k) Q) c (S x)) {k : Nat} {x : α} (h : F k x) : W cx Q (.loop c) (S x) := by
  intro T w hR
  refine wp_loop_fuel (fun k a w => ∃ x, F k x ∧ a.defers = [] ∧ R cx (S x) a.tmps w) ?_ ⟨x, h, rfl, hR⟩
  rintro k ⟨T, d⟩ w ⟨x, hF, hd, hR⟩
  simp only at hd hR
  subst hd
  refine Code.wp_mono ?_ (step k x hF T w hR)
  intro e a' w' q
  cases e with
  | normal => obtain ⟨k', x', h1, h2, h3, h4⟩ := q; exact ⟨k', h1, x', h2, h3, h4⟩
  | _ => exact q
theorem N_round {α : Type} {F : Nat → α → Prop} {S : α → St} {k k' : Nat} (x' : α) (hk : k' < k) (hF : F k' x') : N cx (Exit.then (Back cx F S k) Q) .normal (S x') :=
  fun _ _ hR => ⟨k', x', hk, hF, rfl, hR⟩

theorem N_then {y : Code} (h : W cx Q y st) : N cx (Exit.then (y.wp cx.P Q) Q) .normal st := h
theorem N_thenL {l : List Oper} (h : WL cx ops Q l st) : N cx (Exit.then (wpList cx.P ops Q l) Q) .normal st := h
theorem N_then_exit {K : Act → World → Prop} {id : Nat} (h : N cx Q (.exit id) st) : N cx (Exit.then K Q) (.exit id) st := h
theorem N_then_ret {K : Act → World → Prop} (h : N cx Q .ret st) : N cx (Exit.then K Q) .ret st := h
theorem N_block {id : Nat} (h : N cx Q .normal st) : N cx (Exit.inBlock id Q) .normal st := h
theorem N_block_ret {id : Nat} (h : N cx Q .ret st) : N cx (Exit.inBlock id Q) .ret st := h
theorem N_block_exit {id : Nat} (h : N cx Q .normal st) : N cx (Exit.inBlock id Q) (.exit id) st := fun T w hR => by
  show (if id = id then _ else _ : Prop)
  rw [if_pos rfl]
  exact h T w hR
theorem N_block_out {id id' : Nat} (hne : Nat.beq id' id = false) (h : N cx Q (.exit id') st) : N cx (Exit.inBlock id Q) (.exit id') st := fun T w hR => by
  show (if id' = id then _ else _ : Prop)
  rw [if_neg (beq_false hne)]
  exact h T w hR

theorem W_region {id : Nat} {l : List Oper} (h : WL cx l.toArray Q l st) : W cx Q (.region id l.toArray false) st := fun T w hR => wp_region_lit (h T w hR)

/-- Operations, evaluated. -/
theorem WL_ev (hE : EnvOK E cx) {orc : List TV} {ob : List Prop} (hev : evL E ops l st orc = some (st', [], ob)) (hob : allP ob) (h : N cx Q .normal st') : WL cx ops Q l st :=
  fun _ _ hR => evL_sound hE hR hev hob h
/-- The first n operations, evaluated. -/
theorem WL_take (hE : EnvOK E cx) (n : Nat) {orc : List TV} {ob : List Prop} (hev : evL E ops (l.take n) st orc = some (st', [], ob)) (hob : allP ob) (h : WL cx ops Q (l.drop n) st') : WL cx ops Q l st := by
  intro T w hR
  have := wpList_append (P := cx.P) (ops := ops) (Q := Q) (l1 := l.take n) (l2 := l.drop n) (evL_sound hE hR hev hob h)
  rwa [List.take_append_drop] at this
theorem WL_nil (h : N cx Q .normal st) : WL cx ops Q [] st := h

theorem R.norm (h : R cx st T w) {ks bs rs : List Nat} (hn : st.norm ks bs rs = some st') : R cx st' T w := let ⟨m, hm⟩ := h; ⟨m, hm.norm hn⟩

/-- What is kept of a state: slots, boxes, rows. -/
def evK (E : Env) (ops : Array Oper) (l : List Oper) (st : St) (orc : List TV) (ks bs rs : List Nat) : Option (St × List TV × List Prop) :=
  match evL E ops l st orc with
  | some (s, o, p) => match s.norm ks bs rs with
    | some s' => some (s', o, p)
    | none => none
  | none => none
theorem evK_some {orc orc' : List TV} {ob : List Prop} {ks bs rs : List Nat} (h : evK E ops l st orc ks bs rs = some (st', orc', ob)) : ∃ s, evL E ops l st orc = some (s, orc', ob) ∧ s.norm ks bs rs = some st' := by
  unfold evK at h
  split at h
  · rename_i s o p hl
    split at h
    · rename_i s' hn
      cases h
      exact ⟨s, hl, hn⟩
    · cases h
  · cases h
theorem N.norm {e : Exit} {ks bs rs : List Nat} (h : N cx Q e st') (hs : st.norm ks bs rs = some st') : N cx Q e st := fun T w hR => h T w (hR.norm hs)
theorem WL.norm {ks bs rs : List Nat} (h : WL cx ops Q l st') (hs : st.norm ks bs rs = some st') : WL cx ops Q l st := fun T w hR => h T w (hR.norm hs)
theorem W.norm {c : Code} {ks bs rs : List Nat} (h : W cx Q c st') (hs : st.norm ks bs rs = some st') : W cx Q c st := fun T w hR => h T w (hR.norm hs)

/-- A whole region, evaluated, and what is kept behind it. -/
theorem W_rg (hE : EnvOK E cx) (ks bs rs : List Nat) {id : Nat} {l : List Oper} {orc : List TV} {ob : List Prop} (hev : evK E l.toArray l st orc ks bs rs = some (st', [], ob)) (hob : allP ob) (h : N cx Q .normal st') :
    W cx Q (.region id l.toArray false) st := by
  obtain ⟨s, h1, h2⟩ := evK_some hev
  exact W_region (WL_ev hE h1 hob (h.norm h2))

end Go.Ev
