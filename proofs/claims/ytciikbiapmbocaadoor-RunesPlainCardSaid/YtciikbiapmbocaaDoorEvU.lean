/- Calls that change the caller's boxed variables and owned slices. -/
import Derived.Test.YtciikbiapmbocaaDoorEvT
namespace Go.Ev
open Go Go.RowKit
variable {cx : Cx} {m : Nat → Value} {st st' : St} {T : Array Value} {w w' : World} {E : Env} {Q : Post} {ops : Array Oper} {l : List Oper}

def renL (ρ : List (Nat × Nat)) : List Nat → Option (List Nat)
  | [] => some []
  | b :: bs => match look ρ b, renL ρ bs with
    | some b', some bs' => some (b' :: bs')
    | _, _ => none
def renTRs (ρ : List (Nat × Nat)) : List TR → Option (List TR)
  | [] => some []
  | .v u :: l => match renTRs ρ l with
    | some l' => some (.v u :: l')
    | none => none
  | .r b :: l => match look ρ b, renTRs ρ l with
    | some b', some l' => some (.r b' :: l')
    | _, _ => none
/-- Other names for boxes and rows; what has no other name is forgotten. -/
def SV.ren (ρ : List (Nat × Nat)) : SV → SV
  | .ptr b off => match look ρ b with
    | some b' => .ptr b' off
    | none => .any
  | .selfp b => match look ρ b with
    | some b' => .selfp b'
    | none => .any
  | .row b => match look ρ b with
    | some b' => .row b'
    | none => .any
  | .rptr b i off sz => match look ρ b with
    | some b' => .rptr b' i off sz
    | none => .any
  | .iter b => match look ρ b with
    | some b' => .iter b'
    | none => .any
  | .bp b p => match look ρ b with
    | some b' => .bp b' p
    | none => .any
  | .clos f bs => match renL ρ bs with
    | some bs' => .clos f bs'
    | none => .any
  | .tups l => match renTRs ρ l with
    | some l' => .tups l'
    | none => .any
  | s => s

def passBx (ρ : List (Nat × Nat)) (bx : List (Nat × BX)) : List (Nat × Nat) → List (Nat × BX)
  | [] => []
  | (i, j) :: l => match look bx i with
    | some c => (j, c.map (SV.ren ρ)) :: passBx ρ bx l
    | none => passBx ρ bx l
def passRw (rw : List (Nat × RowC)) : List (Nat × Nat) → List (Nat × RowC)
  | [] => []
  | (i, j) :: l => match look rw i with
    | some c => (j, c) :: passRw rw l
    | none => passRw rw l
theorem passBx_mem {ρ : List (Nat × Nat)} {bx : List (Nat × BX)} : ∀ {l : List (Nat × Nat)} {j : Nat} {c' : BX}, (j, c') ∈ passBx ρ bx l → ∃ i c, (i, j) ∈ l ∧ (i, c) ∈ bx ∧ c' = c.map (SV.ren ρ)
  | [], _, _, h => by simp [passBx] at h
  | (i, j0) :: l, j, c', h => by
    unfold passBx at h
    split at h
    · rename_i c hc
      rcases List.mem_cons.1 h with h | h
      · cases h; exact ⟨i, c, List.mem_cons_self, look_mem hc, rfl⟩
      · obtain ⟨i', c2, h1, h2⟩ := passBx_mem h; exact ⟨i', c2, List.mem_cons_of_mem _ h1, h2⟩
    · obtain ⟨i', c2, h1, h2⟩ := passBx_mem h; exact ⟨i', c2, List.mem_cons_of_mem _ h1, h2⟩
theorem passRw_mem {rw : List (Nat × RowC)} : ∀ {l : List (Nat × Nat)} {j : Nat} {c : RowC}, (j, c) ∈ passRw rw l → ∃ i, (i, j) ∈ l ∧ (i, c) ∈ rw
  | [], _, _, h => by simp [passRw] at h
  | (i, j0) :: l, j, c', h => by
    unfold passRw at h
    split at h
    · rename_i c hc
      rcases List.mem_cons.1 h with h | h
      · cases h; exact ⟨i, List.mem_cons_self, look_mem hc⟩
      · obtain ⟨i', h1, h2⟩ := passRw_mem h; exact ⟨i', List.mem_cons_of_mem _ h1, h2⟩
    · obtain ⟨i', h1, h2⟩ := passRw_mem h; exact ⟨i', List.mem_cons_of_mem _ h1, h2⟩

def inv (ρ : List (Nat × Nat)) (j : Nat) : Option Nat := look (ρ.map fun p => (p.2, p.1)) j
theorem look_of_mem {α : Type} : ∀ {l : List (Nat × α)} {n : Nat} {v : α}, (l.map (·.1)).Nodup → (n, v) ∈ l → look l n = some v
  | [], _, _, _, h => by simp at h
  | (k, u) :: r, n, v, hn, h => by
    simp only [List.map_cons, List.nodup_cons] at hn
    unfold look
    rcases List.mem_cons.1 h with h | h
    · cases h; simp [Nat.beq_refl]
    · cases hb : Nat.beq k n with
      | true =>
        have e := Nat.eq_of_beq_eq_true hb
        subst e
        exact absurd (List.mem_map.2 ⟨_, h, rfl⟩) hn.1
      | false => exact look_of_mem hn.2 h
theorem inv_mem {ρ : List (Nat × Nat)} {i j : Nat} (hn : (ρ.map (·.2)).Nodup) (h : (i, j) ∈ ρ) : inv ρ j = some i := by
  refine look_of_mem ?_ (List.mem_map.2 ⟨_, h, rfl⟩)
  simpa [List.map_map, Function.comp_def] using hn
theorem mem_inv {ρ : List (Nat × Nat)} {i j : Nat} (h : inv ρ j = some i) : (i, j) ∈ ρ := by
  obtain ⟨p, hp, he⟩ := List.mem_map.1 (look_mem h)
  cases he
  exact hp

theorem renL_map {ρ : List (Nat × Nat)} {m m' : Nat → Value} (hm : ∀ i j, (i, j) ∈ ρ → m' j = m i) : ∀ {bs bs' : List Nat}, renL ρ bs = some bs' → bs'.map m' = bs.map m
  | [], _, h => by cases h; rfl
  | b :: bs, bs', h => by
    unfold renL at h
    split at h
    · rename_i b' bs2 h1 h2
      cases h
      rw [List.map_cons, List.map_cons, hm _ _ (look_mem h1), renL_map hm h2]
    · cases h
theorem renTRs_rep {ρ : List (Nat × Nat)} {M : Nat → Prop} {m m' : Nat → Value} (hm : ∀ i j, (i, j) ∈ ρ → m' j = m i) : ∀ {vs : List Value} {l l' : List TR}, renTRs ρ l = some l' → repTRs w M m vs l → repTRs w M m' vs l'
  | vs, [], _, h, hr => by cases h; cases vs <;> exact hr
  | [], .v _ :: _, _, _, hr => hr.elim
  | [], .r _ :: _, _, _, hr => hr.elim
  | v :: vs, .v u :: l, l', h, hr => by
    unfold renTRs at h
    split at h
    · rename_i l2 h2; cases h; exact ⟨hr.1, renTRs_rep hm h2 hr.2⟩
    · cases h
  | v :: vs, .r b :: l, l', h, hr => by
    unfold renTRs at h
    split at h
    · rename_i b' l2 h1 h2; cases h; exact ⟨by rw [hm _ _ (look_mem h1)]; exact hr.1, renTRs_rep hm h2 hr.2⟩
    · cases h
theorem ren_rep {ρ : List (Nat × Nat)} {M : Nat → Prop} {m m' : Nat → Value} (hm : ∀ i j, (i, j) ∈ ρ → m' j = m i) {v : Value} {s : SV} (h : repS w M m v s) : repS w M m' v (s.ren ρ) := by
  cases s with
  | any => trivial
  | undef => exact h
  | val t x => exact h
  | tup l => exact h
  | vptr t x => exact h
  | ptr b off =>
    simp only [SV.ren]
    split
    · rename_i b' hb; obtain ⟨g, h1, h2⟩ := h; exact ⟨g, by rw [hm _ _ (look_mem hb)]; exact h1, h2⟩
    · trivial
  | selfp b =>
    simp only [SV.ren]
    split
    · rename_i b' hb; show _ ∨ v = m' b'; rw [hm _ _ (look_mem hb)]; exact h
    · trivial
  | row b =>
    simp only [SV.ren]
    split
    · rename_i b' hb; show v = m' b'; rw [hm _ _ (look_mem hb)]; exact h
    · trivial
  | rptr b i off sz =>
    simp only [SV.ren]
    split
    · rename_i b' hb; obtain ⟨g, n, cap, h1, h2⟩ := h; exact ⟨g, n, cap, by rw [hm _ _ (look_mem hb)]; exact h1, h2⟩
    · trivial
  | iter b =>
    simp only [SV.ren]
    split
    · rename_i b' hb; show v = m' b'; rw [hm _ _ (look_mem hb)]; exact h
    · trivial
  | bp b p =>
    simp only [SV.ren]
    split
    · rename_i b' hb; obtain ⟨g, h1, h2⟩ := h; exact ⟨g, by rw [hm _ _ (look_mem hb)]; exact h1, h2⟩
    · trivial
  | clos f bs =>
    simp only [SV.ren]
    split
    · rename_i bs' hb; show v = _; rw [renL_map hm hb]; exact h
    · trivial
  | tups l =>
    simp only [SV.ren]
    split
    · rename_i l' hl; obtain ⟨vs, e, hr⟩ := h; exact ⟨vs, e, renTRs_rep hm hl hr⟩
    · trivial

def argSlS : Nat → List SV → List (Nat × SV)
  | _, [] => []
  | k, u :: us => (k, u) :: argSlS (k + 1) us
theorem argSlS_slots {M : Nat → Prop} {m : Nat → Value} : ∀ {vs : List Value} {as : List SV} (k : Nat) {T : Array Value}, repSs w M m vs as → (∀ i v, vs[i]? = some v → T[k + i]? = some v) →
    ∀ i sv, (i, sv) ∈ argSlS k as → ∃ v, T[i]? = some v ∧ repS w M m v sv
  | [], [], k, T, _, _, i, sv, hi => by simp [argSlS] at hi
  | [], _ :: _, _, _, h, _, _, _, _ => h.elim
  | _ :: _, [], _, _, h, _, _, _, _ => h.elim
  | v :: vs, a :: as, k, T, ⟨h1, h2⟩, hT, i, sv, hi => by
    rcases List.mem_cons.1 hi with hi | hi
    · cases hi
      exact ⟨v, by have := hT 0 v rfl; simpa using this, h1⟩
    · exact argSlS_slots (k + 1) h2 (fun j u hj => by have := hT (j + 1) u (by simpa using hj); rw [← this]; congr 1; omega) i sv hi

/-- The callee's state when it is entered. -/
def enterSt (st : St) (n : Nat) (ρ : List (Nat × Nat)) (as : List SV) : Option St :=
  match nodupB (ρ.map (·.1)), nodupB (ρ.map (·.2)), nodupB (St.ids ⟨[], passBx ρ st.bx ρ, passRw st.rw ρ⟩), Nat.ble as.length n with
  | true, true, true, true => some ⟨argSlS 0 (as.map (SV.ren ρ)), passBx ρ st.bx ρ, passRw st.rw ρ⟩
  | _, _, _, _ => none

/-- The callee's own frame of what may change. -/
def sub (cx : Cx) (m : Nat → Value) (st : St) (w : World) (n : Nat) (ρ : List (Nat × Nat)) : Cx :=
  { P := cx.P, n := n, w0 := w, X := fun b => ∃ i j, (i, j) ∈ ρ ∧ i ∈ st.ids ∧ blk (m i) = some b,
    A := fun b => Mut cx m st.ids b ∧ ¬ ∃ i j, (i, j) ∈ ρ ∧ i ∈ st.ids ∧ blk (m i) = some b, m0 := fun j => match inv ρ j with | some i => m i | none => undef }

theorem pass_ids {ρ : List (Nat × Nat)} {sl : List (Nat × SV)} {j : Nat} (hj : j ∈ St.ids ⟨sl, passBx ρ st.bx ρ, passRw st.rw ρ⟩) : ∃ i, (i, j) ∈ ρ ∧ i ∈ st.ids := by
  rcases List.mem_append.1 hj with hj | hj
  · obtain ⟨⟨j', c⟩, hp, rfl⟩ := List.mem_map.1 hj
    obtain ⟨i, c', h1, h2, _⟩ := passBx_mem hp
    exact ⟨i, h1, List.mem_append.2 (.inl (List.mem_map.2 ⟨_, h2, rfl⟩))⟩
  · obtain ⟨⟨j', c⟩, hp, rfl⟩ := List.mem_map.1 hj
    obtain ⟨i, h1, h2⟩ := passRw_mem hp
    exact ⟨i, h1, List.mem_append.2 (.inr (List.mem_map.2 ⟨_, h2, rfl⟩))⟩

theorem nodup_fst {α : Type} {l : List (Nat × α)} (hn : (l.map (·.1)).Nodup) {i : Nat} {a b : α} (h1 : (i, a) ∈ l) (h2 : (i, b) ∈ l) : a = b := by
  have e1 := look_of_mem hn h1
  have e2 := look_of_mem hn h2
  rw [e1] at e2
  exact Option.some.inj e2

theorem repSs_len {M : Nat → Prop} : ∀ {c : List Value} {l : List SV}, repSs w M m c l → c.length = l.length := repSs_length

theorem enter_sound (h : Rm cx m st T w) {n : Nat} {ρ : List (Nat × Nat)} {as : List SV} {S0 : St} (he : enterSt st n ρ as = some S0) {vs : List Value} (hvs : repSs w (Mut cx m st.ids) m vs as) :
    Rm (sub cx m st w n ρ) (sub cx m st w n ρ).m0 S0 (vs.toArray ++ Array.replicate (n - vs.toArray.size) undef) w := by
  unfold enterSt at he
  split at he
  case h_2 => cases he
  rename_i k1 k2 k3 k4
  cases he
  have k1 := nodupB_sound k1
  have k2 := nodupB_sound k2
  have k3 := nodupB_sound k3
  have k4 := Nat.le_of_ble_eq_true k4
  have hm : ∀ i j, (i, j) ∈ ρ → (sub cx m st w n ρ).m0 j = m i := by
    intro i j hij
    show (match inv ρ j with | some i => m i | none => undef) = m i
    rw [inv_mem k2 hij]
  have hlen := repSs_length hvs
  have hmut : ∀ b, b < w.heap.size → Mut (sub cx m st w n ρ) (sub cx m st w n ρ).m0 (St.ids ⟨argSlS 0 (as.map (SV.ren ρ)), passBx ρ st.bx ρ, passRw st.rw ρ⟩) b → Mut cx m st.ids b := by
    rintro b _ (hA | ⟨j, hj, hb⟩)
    · exact hA.1
    · obtain ⟨i, hij, hi⟩ := pass_ids hj
      rw [hm i j hij] at hb
      exact .inr ⟨i, hi, hb⟩
  have kw : ∀ b, b < w.heap.size → ¬ Mut cx m st.ids b → w.heap[b]? = w.heap[b]? := fun _ _ _ => rfl
  have hs : ∀ v s, repS w (Mut cx m st.ids) m v s → repS w (Mut (sub cx m st w n ρ) (sub cx m st w n ρ).m0 (St.ids ⟨argSlS 0 (as.map (SV.ren ρ)), passBx ρ st.bx ρ, passRw st.rw ρ⟩)) (sub cx m st w n ρ).m0 v (s.ren ρ) :=
    fun v s hv => ren_rep hm (repS_ext kw hmut hv)
  refine { size := ?_, frame := Frame.refl _ _, outer := fun b hb => ⟨h.mut_lt hb.1, hb.2⟩, slots := ?_, boxes := ?_, rows := ?_, apart := ?_, keys := k3, fixed := fun _ _ _ _ => rfl }
  · show (vs.toArray ++ Array.replicate (n - vs.toArray.size) undef).size = n
    simp only [Array.size_append, List.size_toArray, Array.size_replicate]
    omega
  · have hvs' : repSs w (Mut (sub cx m st w n ρ) (sub cx m st w n ρ).m0 (St.ids ⟨argSlS 0 (as.map (SV.ren ρ)), passBx ρ st.bx ρ, passRw st.rw ρ⟩)) (sub cx m st w n ρ).m0 vs (as.map (SV.ren ρ)) := repSs_map hs hvs
    exact argSlS_slots 0 hvs' (fun i v hi => by
      rw [Nat.zero_add, Array.getElem?_append_left (by have := (List.getElem?_eq_some_iff.1 hi).1; simpa using this)]
      simpa using hi)
  · intro j c' hj
    obtain ⟨i, c, hij, hi, rfl⟩ := passBx_mem hj
    obtain ⟨g, e1, e2, e3⟩ := h.boxes i c hi
    have hii : i ∈ st.ids := List.mem_append.2 (.inl (List.mem_map.2 ⟨_, hi, rfl⟩))
    refine ⟨g, by rw [hm i j hij, mval_map]; exact e1, .inr ⟨i, j, hij, hii, by rw [e1, mval_blk]⟩, objOK_map kw hmut rfl hs e3⟩
  · intro j c hj
    obtain ⟨i, hij, hi⟩ := passRw_mem hj
    obtain ⟨cells, e1, e2, e3⟩ := h.rows i c hi
    have hii : i ∈ st.ids := List.mem_append.2 (.inr (List.mem_map.2 ⟨_, hi, rfl⟩))
    refine ⟨cells, by rw [hm i j hij]; exact e1, fun g hg => .inr ⟨i, j, hij, hii, by rw [hm i j hij] at hg; exact hg⟩, repL_mono (fun _ _ => rep_ext kw hmut c.t) e3⟩
  · intro j1 j2 h1 h2 hne g hg hg'
    obtain ⟨i1, a1, b1⟩ := pass_ids h1
    obtain ⟨i2, a2, b2⟩ := pass_ids h2
    rw [hm _ _ a1] at hg
    rw [hm _ _ a2] at hg'
    refine h.apart i1 i2 b1 b2 ?_ g hg hg'
    rintro rfl
    exact hne (nodup_fst k1 a1 a2)

/-- What refers to one of these is forgotten. -/
def SV.scrubL (D : List Nat) (s : SV) : SV := bif D.any (fun r => s.refs r) then .any else s
def memB (i : Nat) (l : List Nat) : Bool := l.any (Nat.beq i)
theorem memB_iff {i : Nat} {l : List Nat} : memB i l = true ↔ i ∈ l := by
  unfold memB
  rw [List.any_eq_true]
  constructor
  · rintro ⟨x, hx, he⟩; rw [Nat.eq_of_beq_eq_true he]; exact hx
  · intro hi; exact ⟨i, hi, Nat.beq_refl i⟩

/-- What no longer stands under its name: rows that were handed on; new names. -/
def gone (st : St) (ρ ρ' : List (Nat × Nat)) : List Nat :=
  (ρ.map (·.1)).filter (fun i => (look st.rw i).isSome) ++ (ρ'.map (·.2)).filter (fun j => !((look st.bx j).isSome && memB j (ρ.map (·.1))))
def notIn {α : Type} (ks : List Nat) (l : List (Nat × α)) : List (Nat × α) := l.filter fun p => !(memB p.1 ks)
/-- May a name of the callee's become this one of the caller's? -/
def backOK (st S1 : St) (n nc : Nat) (ρ : List (Nat × Nat)) (p : Nat × Nat) : Bool :=
  match look ρ p.2 with
  | some i => Nat.beq i p.1 && (Nat.ble n p.1 && ((look st.bx p.2).isSome == (look S1.bx p.1).isSome))
  | none => !(memB p.2 st.ids) && !(memB p.2 (ρ.map (·.1))) && (Nat.blt p.2 nc || (look S1.bx p.1).isNone)
/-- The caller's state behind the call. -/
def leaveSt (st S1 : St) (n nc : Nat) (ρ ρ' : List (Nat × Nat)) : Option St :=
  match nodupB (ρ'.map (·.1)), nodupB (ρ'.map (·.2)), ρ'.all (backOK st S1 n nc ρ), nodupB ((notIn (ρ.map (·.1)) st.bx ++ passBx ρ' S1.bx ρ').map (·.1) ++ (notIn (ρ.map (·.1)) st.rw ++ passRw S1.rw ρ').map (·.1)) with
  | true, true, true, true => some
    { sl := st.sl.map fun p => (p.1, p.2.scrubL (gone st ρ ρ')),
      bx := (notIn (ρ.map (·.1)) st.bx).map (fun p => (p.1, p.2.map (SV.scrubL (gone st ρ ρ')))) ++ passBx ρ' S1.bx ρ',
      rw := notIn (ρ.map (·.1)) st.rw ++ passRw S1.rw ρ' }
  | _, _, _, _ => none
end Go.Ev
