/- The caller's state behind a call that changed its boxed variables and owned slices; such calls by contracts. -/
import Derived.Test.YtciikbiapmbocaaDoorEvU
namespace Go.Ev
open Go Go.RowKit
variable {cx : Cx} {m : Nat → Value} {st st' : St} {T : Array Value} {w w' : World} {E : Env} {Q : Post} {ops : Array Oper} {l : List Oper}

theorem scrubL_none {D : List Nat} {s : SV} (h : D.any (fun r => s.refs r) = false) {b : Nat} (hb : s.refs b = true) : b ∉ D := by
  intro hd
  have := List.any_eq_false.1 h b hd
  exact this hb
theorem repTRs_mm {M : Nat → Prop} {m2 : Nat → Value} : ∀ {vs : List Value} {l : List TR}, (∀ b, (l.any fun | .v _ => false | .r c => Nat.beq c b) = true → m2 b = m b) → repTRs w M m vs l → repTRs w M m2 vs l
  | [], [], _, _ => trivial
  | [], _ :: _, _, h => h.elim
  | _ :: _, [], _, h => h.elim
  | _ :: _, .v _ :: _, hb, ⟨h1, h2⟩ => ⟨h1, repTRs_mm (fun b hh => hb b (by rw [List.any_cons]; simpa using hh)) h2⟩
  | _ :: _, .r c :: _, hb, ⟨h1, h2⟩ => ⟨by rw [hb c (by rw [List.any_cons]; show (Nat.beq c c || _) = true; rw [Nat.beq_refl, Bool.true_or])]; exact h1, repTRs_mm (fun b hh => hb b (by rw [List.any_cons, hh, Bool.or_true])) h2⟩
theorem scrubL_rep {M : Nat → Prop} {m2 : Nat → Value} {D : List Nat} (hm : ∀ b, b ∉ D → m2 b = m b) {v : Value} {s : SV} (h : repS w M m v s) : repS w M m2 v (s.scrubL D) := by
  unfold SV.scrubL
  cases hd : D.any (fun r => s.refs r) with
  | true => trivial
  | false =>
    have key : ∀ b, s.refs b = true → m2 b = m b := fun b hb => hm b (scrubL_none hd hb)
    show repS w M m2 v s
    cases s with
    | any => trivial
    | undef => exact h
    | val t x => exact h
    | tup l => exact h
    | vptr t x => exact h
    | ptr b off => obtain ⟨g, h1, h2⟩ := h; exact ⟨g, by rw [key b (Nat.beq_refl b)]; exact h1, h2⟩
    | selfp b => show _ ∨ v = m2 b; rw [key b (Nat.beq_refl b)]; exact h
    | row b => show v = m2 b; rw [key b (Nat.beq_refl b)]; exact h
    | rptr b i off sz => obtain ⟨g, n, cap, h1, h2⟩ := h; exact ⟨g, n, cap, by rw [key b (Nat.beq_refl b)]; exact h1, h2⟩
    | iter b => show v = m2 b; rw [key b (Nat.beq_refl b)]; exact h
    | bp b p => obtain ⟨g, h1, h2⟩ := h; exact ⟨g, by rw [key b (Nat.beq_refl b)]; exact h1, h2⟩
    | clos f bs =>
      have e : bs.map m2 = bs.map m := List.map_congr_left fun b hb => key b (List.any_eq_true.2 ⟨b, hb, Nat.beq_refl b⟩)
      show v = _
      rw [e]
      exact h
    | tups l => obtain ⟨vs, e, hr⟩ := h; exact ⟨vs, e, repTRs_mm key hr⟩

theorem look_isSome {α : Type} {l : List (Nat × α)} {i : Nat} {c : α} (h : (i, c) ∈ l) : (look l i).isSome = true := by
  induction l with
  | nil => simp at h
  | cons p r ih =>
    obtain ⟨k, u⟩ := p
    unfold look
    cases hb : Nat.beq k i with
    | true => rfl
    | false =>
      rcases List.mem_cons.1 h with h | h
      · cases h; rw [Nat.beq_refl] at hb; cases hb
      · exact ih h

theorem notIn_mem {α : Type} {ks : List Nat} {l : List (Nat × α)} {p : Nat × α} (h : p ∈ notIn ks l) : p ∈ l ∧ p.1 ∉ ks := by
  obtain ⟨h1, h2⟩ := List.mem_filter.1 h
  refine ⟨h1, fun hk => ?_⟩
  rw [memB_iff.2 hk] at h2
  cases h2

theorem leave_sound (h : Rm cx m st T w) {n : Nat} {ρ ρ' : List (Nat × Nat)} {S1 st1 : St} {m1 : Nat → Value} {T1 : Array Value} {w1 : World} (k1 : (ρ.map (·.1)).Nodup) (k2 : (ρ.map (·.2)).Nodup)
    (h1 : Rm (sub cx m st w n ρ) m1 S1 T1 w1) (hl : leaveSt st S1 n cx.n ρ ρ' = some st1) :
    ∃ m2, Rm cx m2 st1 T w1 ∧ ∀ v s, repS w1 (Mut (sub cx m st w n ρ) m1 S1.ids) m1 v s → repS w1 (Mut cx m2 st1.ids) m2 v (s.ren ρ') := by
  unfold leaveSt at hl
  split at hl
  case h_2 => cases hl
  rename_i c1 c2 c3 c4
  cases hl
  have c1 := nodupB_sound c1
  have c2 := nodupB_sound c2
  have c4 := nodupB_sound c4
  have hinv : ∀ i j, (i, j) ∈ ρ → (sub cx m st w n ρ).m0 j = m i := by
    intro i j hij
    show (match inv ρ j with | some i => m i | none => undef) = m i
    rw [inv_mem k2 hij]
  have fB : ∀ i j, (i, j) ∈ ρ' → (n ≤ i ∧ (j, i) ∈ ρ ∧ (look st.bx j).isSome = (look S1.bx i).isSome) ∨ (True ∧ j ∉ st.ids ∧ j ∉ ρ.map (·.1) ∧ (j < cx.n ∨ look S1.bx i = none)) := by
    intro i j hij
    have := List.all_eq_true.1 c3 _ hij
    unfold backOK at this
    split at this
    · rename_i i' hi'
      simp only [Bool.and_eq_true, beq_iff_eq] at this
      obtain ⟨t1, t2, t3⟩ := this
      have := Nat.eq_of_beq_eq_true t1
      subst this
      exact .inl ⟨Nat.le_of_ble_eq_true t2, look_mem hi', t3⟩
    · simp only [Bool.and_eq_true, Bool.or_eq_true, Bool.not_eq_true'] at this
      obtain ⟨⟨t1, t2⟩, t3⟩ := this
      refine .inr ⟨trivial, (fun hh => ?_), (fun hh => ?_), ?_⟩
      · have t1 : memB j st.ids = false := t1
        rw [memB_iff.2 hh] at t1
        cases t1
      · have t2 : memB j (ρ.map (·.1)) = false := t2
        rw [memB_iff.2 hh] at t2
        cases t2
      · rcases t3 with t3 | t3
        · exact .inl (blt_true t3)
        · exact .inr (by simpa using t3)
  obtain ⟨m2, hm2⟩ : ∃ m2 : Nat → Value, m2 = fun j => match inv ρ' j with | some i => m1 i | none => m j := ⟨_, rfl⟩
  have hnew : ∀ i j, (i, j) ∈ ρ' → m2 j = m1 i := by
    intro i j hij
    rw [hm2]
    simp only
    rw [inv_mem c2 hij]
  have hold : ∀ j, inv ρ' j = none → m2 j = m j := by
    intro j hj
    rw [hm2]
    simp only
    rw [hj]
  have hst : ∀ j, j ∈ st.ids → j ∉ ρ.map (·.1) → m2 j = m j := by
    intro j hj hn
    refine hold j ?_
    cases hi : inv ρ' j with
    | none => rfl
    | some i =>
      rcases fB i j (mem_inv hi) with ⟨_, hh, _⟩ | ⟨_, hh, _⟩
      · exact absurd (List.mem_map.2 ⟨_, hh, rfl⟩) hn
      · exact absurd hj hh
  have hkeep : ∀ b, b ∉ gone st ρ ρ' → m2 b = m b := by
    intro b hb
    cases hi : inv ρ' b with
    | none => exact hold b hi
    | some i =>
      have hij := mem_inv hi
      have hb2 : ((look st.bx b).isSome && memB b (ρ.map (·.1))) = true := by
        cases hx : ((look st.bx b).isSome && memB b (ρ.map (·.1))) with
        | true => rfl
        | false =>
          refine absurd ?_ hb
          refine List.mem_append.2 (.inr (List.mem_filter.2 ⟨List.mem_map.2 ⟨_, hij, rfl⟩, by rw [hx]; rfl⟩))
      rw [Bool.and_eq_true] at hb2
      rcases fB i b hij with ⟨hle, hh, he⟩ | ⟨_, _, hh, _⟩
      · rw [hb2.1] at he
        obtain ⟨c, hc⟩ := Option.isSome_iff_exists.1 he.symm
        rw [hnew i b hij, h1.fixed i c (look_mem hc) hle, hinv b i hh]
      · exact absurd (memB_iff.1 hb2.2) hh
  -- the ids of the new state
  have hids : ∀ j, j ∈ St.ids { sl := st.sl.map fun p => (p.1, p.2.scrubL (gone st ρ ρ')), bx := (notIn (ρ.map (·.1)) st.bx).map (fun p => (p.1, p.2.map (SV.scrubL (gone st ρ ρ')))) ++ passBx ρ' S1.bx ρ', rw := notIn (ρ.map (·.1)) st.rw ++ passRw S1.rw ρ' } →
      (j ∈ st.ids ∧ j ∉ ρ.map (·.1)) ∨ ∃ i, (i, j) ∈ ρ' ∧ i ∈ S1.ids := by
    intro j hj
    rcases List.mem_append.1 hj with hj | hj
    · obtain ⟨⟨j', c⟩, hp, rfl⟩ := List.mem_map.1 hj
      rcases List.mem_append.1 hp with hp | hp
      · obtain ⟨⟨j2, c'⟩, hp2, he⟩ := List.mem_map.1 hp
        cases he
        obtain ⟨h2, h3⟩ := notIn_mem hp2
        exact .inl ⟨List.mem_append.2 (.inl (List.mem_map.2 ⟨_, h2, rfl⟩)), h3⟩
      · obtain ⟨i, c', h2, h3, _⟩ := passBx_mem hp
        exact .inr ⟨i, h2, List.mem_append.2 (.inl (List.mem_map.2 ⟨_, h3, rfl⟩))⟩
    · obtain ⟨⟨j', c⟩, hp, rfl⟩ := List.mem_map.1 hj
      rcases List.mem_append.1 hp with hp | hp
      · obtain ⟨h2, h3⟩ := notIn_mem hp
        exact .inl ⟨List.mem_append.2 (.inr (List.mem_map.2 ⟨_, h2, rfl⟩)), h3⟩
      · obtain ⟨i, h2, h3⟩ := passRw_mem hp
        exact .inr ⟨i, h2, List.mem_append.2 (.inr (List.mem_map.2 ⟨_, h3, rfl⟩))⟩
  generalize hST : ({ sl := st.sl.map fun p => (p.1, p.2.scrubL (gone st ρ ρ')), bx := (notIn (ρ.map (·.1)) st.bx).map (fun p => (p.1, p.2.map (SV.scrubL (gone st ρ ρ')))) ++ passBx ρ' S1.bx ρ', rw := notIn (ρ.map (·.1)) st.rw ++ passRw S1.rw ρ' } : St) = st1 at hids
  have hXlt : ∀ i, i ∈ S1.ids → ∀ b, blk (m1 i) = some b → w.heap.size ≤ b ∨ ∃ i0 j0, (i0, j0) ∈ ρ ∧ i0 ∈ st.ids ∧ blk (m i0) = some b := fun i hi b hb => (h1.lt hi hb).2
  have hback : ∀ b, b < w.heap.size → Mut cx m2 st1.ids b → Mut cx m st.ids b := by
    rintro b hlt (hA | ⟨j, hj, hb⟩)
    · exact .inl hA
    · rcases hids j hj with ⟨h2, h3⟩ | ⟨i, h2, h3⟩
      · rw [hst j h2 h3] at hb
        exact .inr ⟨j, h2, hb⟩
      · rw [hnew i j h2] at hb
        rcases hXlt i h3 b hb with hh | ⟨i0, _, _, hi0, hb0⟩
        · omega
        · exact .inr ⟨i0, hi0, hb0⟩
  have hfwd : ∀ b, b < w1.heap.size → Mut cx m2 st1.ids b → Mut (sub cx m st w n ρ) m1 S1.ids b := by
    rintro b _ (hA | ⟨j, hj, hb⟩)
    · refine .inl ⟨.inl hA, ?_⟩
      rintro ⟨i0, j0, _, hi0, hb0⟩
      have o := h.outer b hA
      rcases (h.lt hi0 hb0).2 with hh | hh
      · omega
      · exact o.2 hh
    · rcases hids j hj with ⟨h2, h3⟩ | ⟨i, h2, h3⟩
      · rw [hst j h2 h3] at hb
        refine .inl ⟨.inr ⟨j, h2, hb⟩, ?_⟩
        rintro ⟨i0, j0, hij0, hi0, hb0⟩
        refine h.apart i0 j hi0 h2 ?_ b hb0 hb
        rintro rfl
        exact h3 (List.mem_map.2 ⟨_, hij0, rfl⟩)
      · rw [hnew i j h2] at hb
        exact .inr ⟨i, h3, hb⟩
  have kw : ∀ b, b < w.heap.size → ¬ Mut cx m st.ids b → w1.heap[b]? = w.heap[b]? := fun b hb hn => h1.frame.block b hb fun ⟨i0, _, _, hi0, hb0⟩ => hn (.inr ⟨i0, hi0, hb0⟩)
  have kw1 : ∀ b, b < w1.heap.size → ¬ Mut (sub cx m st w n ρ) m1 S1.ids b → w1.heap[b]? = w1.heap[b]? := fun _ _ _ => rfl
  have hsO : ∀ v s, repS w (Mut cx m st.ids) m v s → repS w1 (Mut cx m2 st1.ids) m2 v (s.scrubL (gone st ρ ρ')) := fun v s hv => scrubL_rep hkeep (repS_ext kw hback hv)
  have hsN : ∀ v s, repS w1 (Mut (sub cx m st w n ρ) m1 S1.ids) m1 v s → repS w1 (Mut cx m2 st1.ids) m2 v (s.ren ρ') := fun v s hv => ren_rep hnew (repS_ext kw1 hfwd hv)
  have hbx : ∀ b c', (b, c') ∈ st1.bx → (∃ c, (b, c) ∈ st.bx ∧ b ∉ ρ.map (·.1) ∧ c' = c.map (SV.scrubL (gone st ρ ρ'))) ∨ ∃ i c, (i, b) ∈ ρ' ∧ (i, c) ∈ S1.bx ∧ c' = c.map (SV.ren ρ') := by
    intro b c' hb
    rw [← hST] at hb
    rcases List.mem_append.1 hb with hp | hp
    · obtain ⟨⟨j2, c2⟩, hp2, he⟩ := List.mem_map.1 hp
      cases he
      obtain ⟨h2, h3⟩ := notIn_mem hp2
      exact .inl ⟨c2, h2, h3, rfl⟩
    · exact .inr (passBx_mem hp)
  have hrw : ∀ b c, (b, c) ∈ st1.rw → ((b, c) ∈ st.rw ∧ b ∉ ρ.map (·.1)) ∨ ∃ i, (i, b) ∈ ρ' ∧ (i, c) ∈ S1.rw := by
    intro b c hb
    rw [← hST] at hb
    rcases List.mem_append.1 hb with hp | hp
    · exact .inl (notIn_mem hp)
    · exact .inr (passRw_mem hp)
  have hnotX : ∀ j, j ∈ st.ids → j ∉ ρ.map (·.1) → ∀ g, blk (m j) = some g → g < w.heap.size ∧ ¬ ∃ i0 j0, (i0, j0) ∈ ρ ∧ i0 ∈ st.ids ∧ blk (m i0) = some g := by
    intro j hj hn g hg
    refine ⟨(h.lt hj hg).1, ?_⟩
    rintro ⟨i0, j0, hij0, hi0, hb0⟩
    refine h.apart i0 j hi0 hj ?_ g hb0 hg
    rintro rfl
    exact hn (List.mem_map.2 ⟨_, hij0, rfl⟩)
  have hplace : ∀ g, (w.heap.size ≤ g ∨ ∃ i0 j0, (i0, j0) ∈ ρ ∧ i0 ∈ st.ids ∧ blk (m i0) = some g) → cx.w0.heap.size ≤ g ∨ cx.X g := by
    rintro g (hg | ⟨i0, _, _, hi0, hb0⟩)
    · exact .inl (Nat.le_trans h.frame.size hg)
    · exact (h.lt hi0 hb0).2
  refine ⟨m2, { size := h.size, frame := ?_, outer := h.outer, slots := ?_, boxes := ?_, rows := ?_, apart := ?_, keys := ?_, fixed := ?_ }, hsN⟩
  · refine ⟨h1.frame.os.trans h.frame.os, h1.frame.tape.trans h.frame.tape, h1.frame.output.trans h.frame.output, Nat.le_trans h.frame.size h1.frame.size, fun b hb hX => ?_⟩
    rw [← h.frame.block b hb hX]
    refine h1.frame.block b (Nat.lt_of_lt_of_le hb h.frame.size) ?_
    rintro ⟨i0, _, _, hi0, hb0⟩
    rcases (h.lt hi0 hb0).2 with hh | hh
    · omega
    · exact hX hh
  · intro i sv' hi
    rw [← hST] at hi
    obtain ⟨⟨j, sv⟩, hp, he⟩ := List.mem_map.1 hi
    cases he
    obtain ⟨v, e1, e2⟩ := h.slots j sv hp
    exact ⟨v, e1, hsO v sv e2⟩
  · intro b c' hb
    rcases hbx b c' hb with ⟨c, h2, h3, rfl⟩ | ⟨i, c, h2, h3, rfl⟩
    · have hbi : b ∈ st.ids := List.mem_append.2 (.inl (List.mem_map.2 ⟨_, h2, rfl⟩))
      obtain ⟨g, e1, e2, e3⟩ := h.boxes b c h2
      have hx := hnotX b hbi h3 g (by rw [e1, mval_blk])
      exact ⟨g, by rw [hst b hbi h3, mval_map]; exact e1, e2, objOK_map kw hback (h1.frame.block g hx.1 hx.2) hsO e3⟩
    · obtain ⟨g, e1, e2, e3⟩ := h1.boxes i c h3
      exact ⟨g, by rw [hnew i b h2, mval_map]; exact e1, hplace g e2, objOK_map kw1 hfwd rfl hsN e3⟩
  · intro b c hb
    rcases hrw b c hb with ⟨h2, h3⟩ | ⟨i, h2, h3⟩
    · have hbi : b ∈ st.ids := List.mem_append.2 (.inr (List.mem_map.2 ⟨_, h2, rfl⟩))
      obtain ⟨cells, e1, e2, e3⟩ := h.rows b c h2
      refine ⟨cells, ?_, fun g hg => e2 g (by rw [hst b hbi h3] at hg; exact hg), repL_mono (fun _ _ => rep_ext kw hback c.t) e3⟩
      rw [hst b hbi h3]
      refine ⟨e1.1, ?_⟩
      rcases e1.2 with hh | ⟨g, cap, cur, hv, hb0, hh, rest⟩
      · exact .inl hh
      · have hx := hnotX b hbi h3 g (by rw [hv]; rfl)
        exact .inr ⟨g, cap, cur, hv, hb0, by rw [h1.frame.block g hx.1 hx.2]; exact hh, rest⟩
    · obtain ⟨cells, e1, e2, e3⟩ := h1.rows i c h3
      exact ⟨cells, by rw [hnew i b h2]; exact e1, fun g hg => hplace g (e2 g (by rw [hnew i b h2] at hg; exact hg)), repL_mono (fun _ _ => rep_ext kw1 hfwd c.t) e3⟩
  · intro j1 j2 hj1 hj2 hne g hg hg'
    rcases hids j1 hj1 with ⟨a1, b1⟩ | ⟨i1, a1, b1⟩ <;> rcases hids j2 hj2 with ⟨a2, b2⟩ | ⟨i2, a2, b2⟩
    · rw [hst j1 a1 b1] at hg
      rw [hst j2 a2 b2] at hg'
      exact h.apart j1 j2 a1 a2 hne g hg hg'
    · rw [hst j1 a1 b1] at hg
      rw [hnew i2 j2 a2] at hg'
      have hx := hnotX j1 a1 b1 g hg
      rcases hXlt i2 b2 g hg' with hh | hh
      · omega
      · exact hx.2 hh
    · rw [hnew i1 j1 a1] at hg
      rw [hst j2 a2 b2] at hg'
      have hx := hnotX j2 a2 b2 g hg'
      rcases hXlt i1 b1 g hg with hh | hh
      · omega
      · exact hx.2 hh
    · rw [hnew i1 j1 a1] at hg
      rw [hnew i2 j2 a2] at hg'
      refine h1.apart i1 i2 b1 b2 ?_ g hg hg'
      rintro rfl
      exact hne (nodup_fst c1 a1 a2)
  · rw [← hST]
    show (((notIn (ρ.map (·.1)) st.bx).map (fun p => (p.1, p.2.map (SV.scrubL (gone st ρ ρ')))) ++ passBx ρ' S1.bx ρ').map (·.1) ++ (notIn (ρ.map (·.1)) st.rw ++ passRw S1.rw ρ').map (·.1)).Nodup
    have e : ((notIn (ρ.map (·.1)) st.bx).map (fun p => (p.1, p.2.map (SV.scrubL (gone st ρ ρ')))) ++ passBx ρ' S1.bx ρ').map (·.1) = (notIn (ρ.map (·.1)) st.bx ++ passBx ρ' S1.bx ρ').map (·.1) := by
      simp [List.map_append, List.map_map, Function.comp_def]
    rw [e]
    exact c4
  · intro b c' hb hle
    rcases hbx b c' hb with ⟨c, h2, h3, _⟩ | ⟨i, c, h2, h3, _⟩
    · have hbi : b ∈ st.ids := List.mem_append.2 (.inl (List.mem_map.2 ⟨_, h2, rfl⟩))
      rw [hst b hbi h3]
      exact h.fixed b c h2 hle
    · rcases fB i b h2 with ⟨hn, hh, he⟩ | ⟨_, _, _, hh⟩
      · rw [look_isSome h3] at he
        obtain ⟨c0, hc0⟩ := Option.isSome_iff_exists.1 he
        rw [hnew i b h2, h1.fixed i c h3 hn, hinv b i hh]
        exact h.fixed b c0 (look_mem hc0) hle
      · rcases hh with hh | hh
        · omega
        · have := look_isSome h3
          rw [hh] at this
          cases this
end Go.Ev
