/- Plain laws: a quoted text is read as itself; the law RunesPlain. -/
import Derived.Test.YtciikbiapmbocaaDoorPlK
namespace Go.Ev
open Go
set_option linter.unusedVariables false

theorem thS_plain {b : UInt8} (r : List UInt8) (hb : b ≠ 92) : thS (b :: r) = if b.toNat < 32 ∨ 126 < b.toNat then ([], 0) else ([b], 1) := by
  unfold thS
  exact if_pos hb
theorem tw_all {l r : List UInt8} (h : ∀ b ∈ l, isHx b = true) (hr : ∀ b, r.head? = some b → isHx b = false) : (l ++ r).takeWhile isHx = l := by
  induction l with
  | nil =>
    cases r with
    | nil => rfl
    | cons b r => rw [List.nil_append, List.takeWhile_cons, hr b rfl]; rfl
  | cons a l ih =>
    rw [List.cons_append, List.takeWhile_cons, h a List.mem_cons_self, if_pos rfl, ih (fun b hb => h b (List.mem_cons_of_mem _ hb))]
/-- What a piece shows stands for its bytes. -/
theorem thS_shw {s : List UInt8} {p : Nat} (h : p < s.length) (rest : List UInt8) : thS (shw s p ++ rest) = (seg s p (p + (g s p).2), (shw s p).length) := by
  have hlt := gb_lt s p
  have hr := g_rune s p
  unfold shw
  cases hbad : bad s p with
  | true =>
    obtain ⟨e1, e2⟩ := bad_iff hbad
    have hb : 128 ≤ gb s p := by
      refine Nat.le_of_not_lt fun q => ?_
      rw [g_small h q] at e1
      simp only at e1
      omega
    have hh := hd_hx (d := gb s p / 16) (by omega)
    have hh2 := hd_hx (d := gb s p % 16) (by omega)
    rw [if_pos rfl, hexN_two hlt (by omega)]
    show thS (92 :: 120 :: hd (gb s p / 16) :: hd (gb s p % 16) :: rest) = _
    rw [thS_esc, if_neg (by decide), if_pos rfl, if_neg (by
      rintro (q | q)
      · rw [List.takeWhile_cons, hh.1, if_pos rfl, List.takeWhile_cons, hh2.1, if_pos rfl] at q
        simp at q
        omega
      · have := hh.2.2.2.1 (by omega)
        simp at q
        omega)]
    rw [e2, seg_bytes (by omega)]
    have hv2 : hv [hd (gb s p / 16), hd (gb s p % 16)] = gb s p := by
      show 16 * (16 * 0 + dg (hd (gb s p / 16))) + dg (hd (gb s p % 16)) = _
      rw [hh.2.1, hh2.2.1]
      omega
    show ([UInt8.ofNat (hv [hd (gb s p / 16), hd (gb s p % 16)])], 4) = _
    rw [hv2]
    rfl
  | false =>
    have hseg := seg_enc h hbad
    rw [if_neg (by simp)]
    by_cases q1 : gb s p = 34 ∨ gb s p = 92
    · rw [if_pos q1]
      rw [g_small h (by omega), encN_small (by omega)] at hseg
      rw [g_small h (by omega), hseg]
      show thS (92 :: UInt8.ofNat (gb s p) :: rest) = _
      rw [thS_esc, if_pos (by rcases q1 with q | q <;> rw [q] <;> simp)]
      rfl
    · rw [if_neg q1]
      by_cases q2 : 32 ≤ gb s p ∧ gb s p < 127
      · rw [if_pos q2]
        rw [g_small h (by omega), encN_small (by omega)] at hseg
        rw [g_small h (by omega), hseg]
        have en : (UInt8.ofNat (gb s p)).toNat = gb s p := by simp [UInt8.toNat_ofNat']; omega
        show thS (UInt8.ofNat (gb s p) :: rest) = _
        rw [thS_plain _ (by intro e; have := congrArg UInt8.toNat e; rw [en] at this; simp at this; omega), if_neg (by rw [en]; omega)]
        rfl
      · rw [if_neg q2]
        obtain ⟨f1, f2, f3, d, ds, f4, f5, f6⟩ := hexN_facts (n := (g s p).1) (by omega)
        have e0 : ([92, 117] ++ hexN (g s p).1 ++ [59]) ++ rest = 92 :: 117 :: (hexN (g s p).1 ++ (59 :: rest)) := by simp
        rw [e0, thS_esc, if_neg (by decide), if_neg (by decide), if_pos rfl]
        have e1 : (hexN (g s p).1 ++ (59 :: rest)).takeWhile isHx = hexN (g s p).1 := tw_all f1 (fun b hb => by cases hb; rfl)
        rw [e1, hseg, f2]
        have hnp : ¬ (32 ≤ (g s p).1 ∧ (g s p).1 ≤ 126) := by
          by_cases q : gb s p < 128
          · rw [g_small h q]; simp only; omega
          · have : 128 ≤ (g s p).1 := by
              rcases g_kinds hbad with k | k | k | k
              · exfalso
                unfold g Lib.decodeN at k
                rw [if_neg q] at k
                revert k
                have h1 := gb_lt s (p + 1); have h2 := gb_lt s (p + 2); have h3 := gb_lt s (p + 3)
                repeat' split
                all_goals simp only; omega
              all_goals omega
            omega
        have hu : uOK (hexN (g s p).1 ++ (59 :: rest)) (hexN (g s p).1) = true := by
          unfold uOK
          have a1 : (hexN (g s p).1).isEmpty = false := by rw [f4]; rfl
          have a2 : okB (hv (hexN (g s p).1)) = true := by rw [f2]; exact okB_iff.2 (g_ok s p)
          have a3 : (decide (32 ≤ hv (hexN (g s p).1)) && decide (hv (hexN (g s p).1) ≤ 126)) = false := by rw [f2]; simp; omega
          have a4 : (((hexN (g s p).1 ++ (59 :: rest)).headD 0 == 48) && decide (1 < (hexN (g s p).1).length)) = false := by
            rw [Bool.eq_false_iff]
            intro q
            simp only [Bool.and_eq_true, beq_iff_eq, decide_eq_true_eq] at q
            obtain ⟨q1, q2⟩ := q
            rw [f4] at q1 q2
            simp at q1
            rcases Nat.eq_zero_or_pos (g s p).1 with z | z
            · rw [f6 (by omega)] at q2; simp at q2
            · exact f5 z q1
          have a5 : (((hexN (g s p).1 ++ (59 :: rest)).drop (hexN (g s p).1).length).head? == some 59) = true := by simp
          rw [a1, a2, a3, a4, a5]
          rfl
        rw [hu, if_pos rfl]
        simp

theorem encN_len4 (c : Nat) : (encN c).length ≤ 4 := encN_len c
theorem thS_len : ∀ (s : List UInt8), (thS s).2 ≤ s.length ∧ (thS s).1.length ≤ 4 := by
  intro s
  match s with
  | [] => exact ⟨Nat.le_refl _, by simp [thS]⟩
  | b :: r =>
    by_cases hb : b = 92
    · subst hb
      match r with
      | [] => exact ⟨by simp [thS], by simp [thS]⟩
      | c :: t =>
        rw [thS_esc]
        have hl := tw_dw t
        split
        · exact ⟨by simp, by simp⟩
        · split
          · split
            · exact ⟨by simp, by simp⟩
            · rename_i h
              have : 2 ≤ (t.takeWhile isHx).length := by omega
              exact ⟨by simp only [List.length_cons]; omega, by simp⟩
          · split
            · split
              · rename_i h
                refine ⟨?_, encN_len _⟩
                have h5 : ((t.drop (t.takeWhile isHx).length).head? == some 59) = true := by
                  unfold uOK at h
                  simp only [Bool.and_eq_true] at h
                  exact h.2.2.2.2
                have : (t.takeWhile isHx).length < t.length := by
                  refine Nat.lt_of_not_le fun hn => ?_
                  rw [List.drop_eq_nil_of_le hn] at h5
                  simp at h5
                simp only [List.length_cons]
                omega
              · exact ⟨by simp, by simp⟩
            · exact ⟨by simp, by simp⟩
    · rw [thS_plain _ hb]
      split
      · exact ⟨by simp, by simp⟩
      · exact ⟨by simp, by simp⟩

/-- One round of reading. -/
theorem Plain_l1 {q : List UInt8} (hq : q.length ≤ 70000) (n at1 : Nat) (out : List UInt8) (h : at1 ≤ q.length) (ho : out.length ≤ 300000) :
    runes_Plain_l1 80000 q (n + 1) (at1 : Int) (bytesEl out) =
      if at1 < q.length ∧ q.getD at1 0 ≠ 34 then (if (thS (q.drop at1)).2 = 0 then some ([], (at1 : Int), 10) else runes_Plain_l1 80000 q n ((at1 + (thS (q.drop at1)).2 : Nat) : Int) (bytesEl (out ++ (thS (q.drop at1)).1)))
      else if q.length ≤ at1 then some ([], (at1 : Int), 10) else if at1 + 1 < q.length then some ([], ((at1 + 1 : Nat) : Int), 10) else if 65536 < out.length then some ([], 0, 3) else if qt out = q then some (out, 0, 0) else some ([], 0, 10) := by
  have J1 : ∀ (go : Int → List Int → Option (List UInt8 × Int × Int)), at1 < q.length → runes_Plain_j1 80000 q (at1 : Int) (bytesEl out) go true =
      if (thS (q.drop at1)).2 = 0 then some ([], (at1 : Int), 10) else go ((at1 + (thS (q.drop at1)).2 : Nat) : Int) (bytesEl (out ++ (thS (q.drop at1)).1)) := by
    intro go hlt
    obtain ⟨t1, t2⟩ := thS_len (q.drop at1)
    rw [List.length_drop] at t1
    unfold runes_Plain_j1
    rw [if_pos rfl, sub_all h]
    simp only [Option.bind_some]
    rw [Thing_ok (by intro e; have := congrArg List.length e; rw [List.length_drop] at this; simp at this; omega) (by rw [List.length_drop]; omega)]
    simp only [Option.bind_some]
    by_cases hz : (thS (q.drop at1)).2 = 0
    · rw [if_pos (by simp [hz]), if_pos hz]
    · rw [if_neg (by simp only [beq_iff_eq]; omega), if_neg hz]
      unfold strings_Builder_WriteString_i1 bld_copyCheck
      simp only [Option.bind_some]
      rw [chk_ok (by unfold lim; rw [bytesEl_len, bytesEl_len]; omega)]
      simp only [Option.bind_some]
      rw [bytesEl_append, wi64_id (by omega) (by omega)]
      rfl
  have J2 : ∀ (go : Int → List Int → Option (List UInt8 × Int × Int)), runes_Plain_j1 80000 q (at1 : Int) (bytesEl out) go false =
      if q.length ≤ at1 then some ([], (at1 : Int), 10) else if at1 + 1 < q.length then some ([], ((at1 + 1 : Nat) : Int), 10) else if 65536 < out.length then some ([], 0, 3) else if qt out = q then some (out, 0, 0) else some ([], 0, 10) := by
    intro go
    unfold runes_Plain_j1
    rw [if_neg (by simp)]
    by_cases c1 : q.length ≤ at1
    · rw [if_pos (by simp only [decide_eq_true_eq]; omega), if_pos c1]
    · rw [if_neg (by simp only [decide_eq_true_eq]; omega), if_neg c1]
      have e1 : wi64 ((at1 : Int) + 1) = ((at1 + 1 : Nat) : Int) := by rw [wi64_id (by omega) (by omega)]; omega
      rw [e1]
      by_cases c2 : at1 + 1 < q.length
      · rw [if_pos (by simp only [decide_eq_true_eq]; omega), if_pos c2]
      · rw [if_neg (by simp only [decide_eq_true_eq]; omega), if_neg c2]
        unfold strings_Builder_Len_i1
        simp only [Option.bind_some]
        rw [bytesEl_len]
        by_cases c3 : 65536 < out.length
        · rw [if_pos (by simp only [decide_eq_true_eq]; omega), if_pos c3]
        · rw [if_neg (by simp only [decide_eq_true_eq]; omega), if_neg c3]
          unfold bld_String
          rw [bytesStr_bytesEl, if_pos rfl]
          simp only [Option.bind_some]
          rw [quote_ok (by omega)]
          simp only [Option.bind_some]
          by_cases c4 : qt out = q
          · rw [if_neg (by simp [c4]), if_pos c4]
          · rw [if_pos (by simp [c4]), if_neg c4]
  show runes_Plain_b1 80000 q (runes_Plain_l1 80000 q n) (at1 : Int) (bytesEl out) = _
  unfold runes_Plain_b1
  by_cases hp : at1 < q.length
  · rw [if_pos (by simp only [decide_eq_true_eq]; omega), byteAt_gb hp]
    simp only [Option.bind_some]
    have e : ((gb q at1 : Int) != 34) = decide (q.getD at1 0 ≠ 34) := ne_lit (n := 34)
    rw [e]
    by_cases hc : q.getD at1 0 ≠ 34
    · rw [decide_eq_true hc]
      exact (J1 _ hp).trans (if_pos ⟨hp, hc⟩).symm
    · rw [decide_eq_false hc]
      exact (J2 _).trans (if_neg (fun x => hc x.2)).symm
  · rw [if_neg (by simp only [decide_eq_true_eq]; omega)]
    exact (J2 _).trans (if_neg (fun x => hp x.1)).symm

theorem Plain_any_l1 {q : List UInt8} (hq : q.length ≤ 70000) : ∀ n at1 (out : List UInt8), at1 ≤ q.length → q.length - at1 < n → out.length ≤ 4 * at1 →
    ∃ v p e, runes_Plain_l1 80000 q n (at1 : Int) (bytesEl out) = some (v, p, e) ∧ ((e ≠ 0 ∧ v = [] ∧ 0 ≤ p ∧ p ≤ (q.length : Int)) ∨ (e = 0 ∧ p = 0 ∧ v.length ≤ 65536 ∧ qt v = q)) := by
  intro n
  induction n with
  | zero => intro at1 out _ h; omega
  | succ n ih =>
    intro at1 out h1 h2 h3
    obtain ⟨t1, t2⟩ := thS_len (q.drop at1)
    rw [List.length_drop] at t1
    rw [Plain_l1 hq n at1 out h1 (by omega)]
    split
    · rename_i c
      split
      · exact ⟨_, _, _, rfl, .inl ⟨by simp, rfl, by omega, by omega⟩⟩
      · exact ih _ _ (by omega) (by omega) (by rw [List.length_append]; omega)
    · split
      · exact ⟨_, _, _, rfl, .inl ⟨by simp, rfl, by omega, by omega⟩⟩
      · split
        · exact ⟨_, _, _, rfl, .inl ⟨by simp, rfl, by omega, by omega⟩⟩
        · split
          · exact ⟨_, _, _, rfl, .inl ⟨by simp, rfl, by omega, by omega⟩⟩
          · split
            · rename_i c4
              exact ⟨_, _, _, rfl, .inr ⟨rfl, rfl, by omega, c4⟩⟩
            · exact ⟨_, _, _, rfl, .inl ⟨by simp, rfl, by omega, by omega⟩⟩
theorem Plain_any {q : List UInt8} (hq : q.length ≤ 70000) : ∃ v p e, runes_Plain 80000 q = some (v, p, e) ∧ ((e ≠ 0 ∧ v = [] ∧ 0 ≤ p ∧ p ≤ (q.length : Int)) ∨ (e = 0 ∧ p = 0 ∧ v.length ≤ 65536 ∧ qt v = q)) := by
  unfold runes_Plain
  rw [if_neg (by simp only [decide_eq_true_eq]; omega), Prefix1]
  simp only [Option.bind_some]
  split
  · exact ⟨_, _, _, rfl, .inl ⟨by simp, rfl, by omega, by omega⟩⟩
  · rename_i c
    have : 1 ≤ q.length := by
      cases q with
      | nil => simp at c
      | cons _ _ => simp
    have := Plain_any_l1 hq 80000 1 [] this (by omega) (by simp)
    exact this
theorem shw_head {s : List UInt8} {p : Nat} (h : p < s.length) : ∃ b r, shw s p = b :: r ∧ b ≠ 34 := by
  have hlt := gb_lt s p
  unfold shw
  split
  · exact ⟨92, _, rfl, by decide⟩
  · split
    · exact ⟨92, _, rfl, by decide⟩
    · split
      · rename_i q1 q2
        refine ⟨_, _, rfl, ?_⟩
        intro e
        have := congrArg UInt8.toNat e
        simp at this
        omega
      · exact ⟨92, _, rfl, by decide⟩
theorem hexF_len : ∀ m j n, 0 < j → n < 16 ^ j → (hexF m n).length ≤ j := by
  intro m
  induction m with
  | zero => intro j n h1 _; simp [hexF]
  | succ m ih =>
    intro j n h1 h2
    unfold hexF
    split
    · simp; omega
    · obtain ⟨j, rfl⟩ : ∃ i, j = i + 1 := ⟨j - 1, by omega⟩
      have hj : 0 < j := by
        rcases Nat.eq_zero_or_pos j with rfl | q
        · simp at h2; omega
        · exact q
      have := ih j (n / 16) hj (by rw [Nat.div_lt_iff_lt_mul (by omega)]; rw [Nat.pow_succ] at h2; exact h2)
      rw [List.length_append, List.length_singleton]
      omega
theorem shw_len9 (s : List UInt8) (p : Nat) : (shw s p).length ≤ 9 := by
  have h1 : (hexN (gb s p)).length ≤ 6 := hexF_len 16 6 _ (by omega) (by have := gb_lt s p; omega)
  have h2 : (hexN (g s p).1).length ≤ 6 := hexF_len 16 6 _ (by omega) (by have := g_rune s p; omega)
  unfold shw
  repeat' split
  all_goals simp; try omega
theorem shs_len9 (s : List UInt8) : ∀ n p, s.length - p < n → (shs s p).length ≤ 9 * (s.length - p) := by
  intro n
  induction n with
  | zero => intro p h; omega
  | succ n ih =>
    intro p h
    by_cases hp : p < s.length
    · have hg := g_size s p hp
      have hw := shw_len9 s p
      have := ih (p + (g s p).2) (by omega)
      rw [shs_cons hp, List.length_append]
      omega
    · rw [shs_nil hp]; simp
/-- A quoted text, read. -/
theorem Plain_back_l1 {s : List UInt8} (hs : s.length ≤ 5000) : ∀ n p (pre : List UInt8), p ≤ s.length → qt s = pre ++ (shs s p ++ [34]) → s.length - p < n → 
    runes_Plain_l1 80000 (qt s) n (pre.length : Int) (bytesEl (s.take p)) = some (s, 0, 0) := by
  have hl := shs_len9 s _ 0 (Nat.lt_succ_self _)
  have hq : (qt s).length ≤ 70000 := by unfold qt; simp only [List.length_cons, List.length_append, List.length_nil]; omega
  intro n
  induction n with
  | zero => intro p pre _ _ h; omega
  | succ n ih =>
    intro p pre h1 h2 h3
    have hlen : (qt s).length = pre.length + ((shs s p).length + 1) := by rw [h2]; simp
    rw [Plain_l1 hq n pre.length _ (by omega) (by rw [List.length_take]; omega)]
    by_cases hp : p < s.length
    · obtain ⟨b, r, e1, e2⟩ := shw_head hp
      have hg := g_size s p hp
      have hdrop : (qt s).drop pre.length = shw s p ++ (shs s (p + (g s p).2) ++ [34]) := by rw [h2, List.drop_left, shs_cons hp, List.append_assoc]
      have hget : (qt s).getD pre.length 0 = b := by
        rw [h2, List.getD_eq_getElem?_getD, List.getElem?_append_right (Nat.le_refl _), Nat.sub_self, shs_cons hp, e1]
        rfl
      rw [if_pos ⟨by omega, by rw [hget]; exact e2⟩, hdrop, thS_shw hp]
      have hpos : (shw s p).length ≠ 0 := by rw [e1]; simp
      rw [if_neg hpos]
      have hseg : s.take p ++ seg s p (p + (g s p).2) = s.take (p + (g s p).2) := by
        have := seg_append (s := s) (a := 0) (b := p) (c := p + (g s p).2) (by omega) (by omega)
        simpa [seg] using this
      rw [hseg]
      have := ih (p + (g s p).2) (pre ++ shw s p) hg.2.1 (by rw [h2, shs_cons hp]; simp) (by omega)
      rw [List.length_append] at this
      exact this
    · have hpe : p = s.length := by omega
      rw [shs_nil hp] at h2 hlen
      have hget : (qt s).getD pre.length 0 = 34 := by
        rw [h2, List.getD_eq_getElem?_getD, List.getElem?_append_right (Nat.le_refl _), Nat.sub_self]
        rfl
      rw [if_neg (by rw [hget]; simp)]
      simp only [List.length_nil] at hlen
      rw [if_neg (by omega), if_neg (by omega), if_neg (by rw [List.length_take]; omega), hpe, List.take_length, if_pos rfl]

theorem qt_len {s : List UInt8} : (qt s).length ≤ 9 * s.length + 2 := by
  have hl := shs_len9 s _ 0 (Nat.lt_succ_self _)
  unfold qt
  simp only [List.length_cons, List.length_append, List.length_nil]
  omega
theorem Plain_back {s : List UInt8} (hs : s.length ≤ 5000) : runes_Plain 80000 (qt s) = some (s, 0, 0) := by
  have hq := qt_len (s := s)
  unfold runes_Plain
  rw [if_neg (by simp only [decide_eq_true_eq]; omega), Prefix1]
  simp only [Option.bind_some]
  rw [if_neg (by simp [qt])]
  exact Plain_back_l1 hs 80000 0 [34] (by omega) rfl (by omega)
/-- All that is shown is plain to see, and it is no shorter. -/
theorem shw_see {s : List UInt8} {p : Nat} (h : p < s.length) : (∀ b ∈ shw s p, 32 ≤ b.toNat ∧ b.toNat ≤ 126) ∧ (g s p).2 ≤ (shw s p).length := by
  have hlt := gb_lt s p
  have hg := g_size s p h
  have hx : ∀ b, isHx b = true → 32 ≤ b.toNat ∧ b.toNat ≤ 126 := by
    intro b hb
    unfold isHx at hb
    simp only [Bool.or_eq_true, Bool.and_eq_true, decide_eq_true_eq] at hb
    omega
  have f1 := hexN_facts (n := gb s p) (by omega)
  have f2 := hexN_facts (n := (g s p).1) (by have := g_rune s p; omega)
  unfold shw
  cases hbad : bad s p with
  | true =>
    obtain ⟨e1, e2⟩ := bad_iff hbad
    rw [if_pos rfl]
    refine ⟨?_, by rw [e2]; simp⟩
    intro b hb
    simp only [List.cons_append, List.nil_append, List.mem_cons] at hb
    rcases hb with rfl | rfl | hb
    · decide
    · decide
    · exact hx b (f1.1 b hb)
  | false =>
    rw [if_neg (by simp)]
    split
    · rename_i q
      refine ⟨?_, by rw [g_small h (by omega)]; simp⟩
      intro b hb
      simp only [List.mem_cons, List.not_mem_nil, or_false] at hb
      rcases hb with rfl | rfl
      · decide
      · rcases q with q | q <;> rw [q] <;> decide
    · split
      · rename_i q
        refine ⟨?_, by rw [g_small h (by omega)]; simp⟩
        intro b hb
        simp only [List.mem_cons, List.not_mem_nil, or_false] at hb
        subst hb
        simp
        omega
      · obtain ⟨d, ds, e, _⟩ := f2.2.2.2
        refine ⟨?_, by simp; rw [e]; simp; omega⟩
        intro b hb
        simp only [List.cons_append, List.nil_append, List.mem_append, List.mem_cons, List.not_mem_nil, or_false] at hb
        rcases hb with rfl | rfl | hb | rfl
        · decide
        · decide
        · exact hx b (f2.1 b hb)
        · decide
theorem shs_see {s : List UInt8} : ∀ n p, p ≤ s.length → s.length - p < n → (∀ b ∈ shs s p, 32 ≤ b.toNat ∧ b.toNat ≤ 126) ∧ s.length - p ≤ (shs s p).length := by
  intro n
  induction n with
  | zero => intro p _ h; omega
  | succ n ih =>
    intro p h1 h
    by_cases hp : p < s.length
    · have hg := g_size s p hp
      obtain ⟨a1, a2⟩ := shw_see hp
      obtain ⟨b1, b2⟩ := ih (p + (g s p).2) hg.2.1 (by omega)
      rw [shs_cons hp]
      refine ⟨fun b hb => ?_, by rw [List.length_append]; omega⟩
      rcases List.mem_append.1 hb with q | q
      · exact a1 b q
      · exact b1 b q
    · rw [shs_nil hp]
      exact ⟨fun b hb => by simp at hb, by omega⟩
theorem qt_see (s : List UInt8) : (∀ b ∈ qt s, 32 ≤ b.toNat ∧ b.toNat ≤ 126) ∧ s.length + 2 ≤ (qt s).length := by
  obtain ⟨a1, a2⟩ := shs_see (s := s) _ 0 (Nat.zero_le _) (Nat.lt_succ_self _)
  unfold qt
  refine ⟨?_, by simp only [List.length_cons, List.length_append, List.length_nil]; omega⟩
  intro b hb
  simp only [List.mem_cons, List.mem_append, List.not_mem_nil, or_false] at hb
  rcases hb with rfl | hb | rfl
  · decide
  · exact a1 b hb
  · decide
theorem RunesPlain_l1 {s q : List UInt8} (hs : s.length ≤ 5000) (hq : q.length ≤ 5000) : ∀ n i, i ≤ (qt s).length → (qt s).length - i < n → l01_RunesPlain_l1 80000 (qt s, 0) q true n (i : Int) = some true := by
  have hl := qt_len (s := s)
  intro n
  induction n with
  | zero => intro i _ h; omega
  | succ n ih =>
    intro i h1 h2
    unfold l01_RunesPlain_l1 l01_RunesPlain_b1
    by_cases hi : i < (qt s).length
    · rw [if_pos (by simp only [decide_eq_true_eq]; omega), byteAt_gb hi]
      simp only [Option.bind_some]
      have hb := (qt_see s).1 ((qt s)[i]'hi) (List.getElem_mem hi)
      have hgb : gb (qt s) i = ((qt s)[i]'hi).toNat := by unfold gb; rw [List.getD_eq_getElem?_getD, List.getElem?_eq_getElem hi]; rfl
      rw [if_neg (by simp only [decide_eq_true_eq]; omega)]
      unfold l01_RunesPlain_j6
      rw [if_neg (by simp only [decide_eq_true_eq]; omega), show wi64 ((i : Int) + 1) = ((i + 1 : Nat) : Int) by rw [wi64_id] <;> omega]
      exact ih (i + 1) (by omega) (by omega)
    · rw [if_neg (by simp only [decide_eq_true_eq]; omega)]
      obtain ⟨v, p, e, hr, hc⟩ := Plain_any (q := q) (by omega)
      rw [hr]
      simp only [Option.bind_some]
      rcases hc with ⟨c1, c2, c3, c4⟩ | ⟨c1, c2, c3, c4⟩
      · subst c2
        rw [if_pos (by simp [c1])]
        unfold l01_RunesPlain_j7 l01_RunesPlain_j8 l01_RunesPlain_j9
        simp [c3, c4]
      · subst c1
        subst c2
        rw [if_neg (by simp), Quote_ok c3]
        simp only [Option.bind_some]
        unfold l01_RunesPlain_j10 l01_RunesPlain_j11 l01_RunesPlain_j12
        simp [c4]
def K_RunesPlain : Nat := 80000
theorem RunesPlain_true' (s q : List UInt8) : l01_RunesPlain K_RunesPlain s q = some true := by
  unfold K_RunesPlain l01_RunesPlain
  rw [alive_true]
  simp only [Option.bind_some]
  unfold l01_RunesPlain_j1
  by_cases h : s.length ≤ 5000 ∧ q.length ≤ 5000
  · rw [if_neg (by simp only [Bool.or_eq_true, decide_eq_true_eq]; omega), Quote_ok (by omega)]
    simp only [Option.bind_some]
    rw [Plain_back h.1]
    simp only [Option.bind_some]
    unfold l01_RunesPlain_j2 l01_RunesPlain_j3 l01_RunesPlain_j4 l01_RunesPlain_j5
    have hl := (qt_see s).2
    rw [if_neg (by
      simp only [bne_self_eq_false, Bool.or_self, Bool.false_or, beq_self_eq_true, Bool.not_true, decide_eq_true_eq]
      rw [wi64_id (by omega) (by omega)]
      omega)]
    exact RunesPlain_l1 h.1 h.2 80000 0 (Nat.zero_le _) (by have := qt_len (s := s); omega)
  · rw [if_pos (by simp only [Bool.or_eq_true, decide_eq_true_eq]; omega)]
end Go.Ev
