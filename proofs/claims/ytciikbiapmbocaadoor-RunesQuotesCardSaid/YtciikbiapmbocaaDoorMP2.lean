/- Plain laws: the reference reads a quoted text the same. -/
import Derived.Test.YtciikbiapmbocaaDoorMP1
namespace Go.Ev
open Go
set_option linter.unusedVariables false

theorem rej_j10 (k : Nat) (r k1 at1 : Int) (s : List UInt8) : r01_thing_j10 k r k1 at1 s true = some ([], 0) := rfl
theorem uOK_len {t : List UInt8} (hok : uOK t (t.takeWhile isHx) = true) : (t.takeWhile isHx).length ≤ 7 ∧ (t.takeWhile isHx).length < t.length ∧ t[(t.takeWhile isHx).length]? = some 59 := by
  have hx := take_hx t
  unfold uOK at hok
  simp only [Bool.and_eq_true, Bool.not_eq_true'] at hok
  obtain ⟨h1, h2, h3, h4, h5⟩ := hok
  have h6 : t[(t.takeWhile isHx).length]? = some 59 := by
    have : (t.drop (t.takeWhile isHx).length).head? = some 59 := by simpa using h5
    rwa [List.head?_drop] at this
  refine ⟨?_, (List.getElem?_eq_some_iff.1 h6).1, h6⟩
  refine Nat.le_of_not_lt fun hl => ?_
  have hr := okB_iff.1 h2
  unfold okR at hr
  generalize ht : t.takeWhile isHx = l at *
  cases l with
  | nil => simp at hl
  | cons d ds =>
    have hhead : t.headD 0 = d := by
      cases t with
      | nil => cases ht
      | cons a t =>
        rw [List.takeWhile_cons] at ht
        split at ht
        · cases ht; rfl
        · cases ht
    have hd48 : d ≠ 48 := by
      intro e
      rw [hhead, e] at h4
      have hl2 : 1 < (48 :: ds : List UInt8).length := by simp only [List.length_cons] at hl ⊢; omega
      rw [decide_eq_true hl2] at h4
      exact absurd h4 (by decide)
    have := hv_big (hx d List.mem_cons_self) hd48 ds
    have h7 : (16 : Nat) ^ 7 ≤ 16 ^ ds.length := Nat.pow_le_pow_right (by omega) (by simp at hl; omega)
    have h8 : 268435456 ≤ hv (d :: ds) := Nat.le_trans (Nat.le_trans (by decide) h7) this
    clear h7 this
    generalize hv (d :: ds) = N at hr h8
    rcases hr with hr | ⟨_, hr⟩
    · exact absurd (Nat.lt_of_le_of_lt h8 hr) (by decide)
    · exact absurd (Nat.le_trans h8 hr) (by decide)

theorem tw_get {t : List UInt8} {i : Nat} (h : i < (t.takeWhile isHx).length) : ∃ b, t[i]? = some b ∧ (t.takeWhile isHx)[i]? = some b ∧ isHx b = true := by
  have e : t.takeWhile isHx ++ t.dropWhile isHx = t := List.takeWhile_append_dropWhile
  refine ⟨(t.takeWhile isHx)[i], ?_, List.getElem?_eq_getElem h, take_hx t _ (List.getElem_mem h)⟩
  conv => lhs; rw [← e]
  rw [List.getElem?_append_left h, List.getElem?_eq_getElem h]
theorem tw_next {t : List UInt8} {b : UInt8} (h : t[(t.takeWhile isHx).length]? = some b) : isHx b = false := by
  induction t with
  | nil => simp at h
  | cons a t ih =>
    rw [List.takeWhile_cons] at h
    split at h
    · simp only [List.length_cons, List.getElem?_cons_succ] at h
      exact ih h
    · rename_i ha
      simp only [List.length_nil, List.getElem?_cons_zero, Option.some.injEq] at h
      subst h
      simpa using ha
theorem byteAt_get {s : List UInt8} {i : Nat} {b : UInt8} (h : s[i]? = some b) : byteAt s (i : Int) = some (b.toNat : Int) := by
  unfold byteAt
  rw [at_drop, h]

set_option maxRecDepth 100000 in
/-- The end of the digits. -/
theorem thing_end {p t : List UInt8} {i : Nat} (hq : (p ++ t).length ≤ 1000000) (hp : 2 ≤ p.length) (hi : i = min (t.takeWhile isHx).length 7) :
    r01_thing_j9 80000 (hv ((t.takeWhile isHx).take i) : Int) ((p.length + i : Nat) : Int) ((p.length - 2 : Nat) : Int) (p ++ t)
      ((((p.length + i : Nat) : Int) == wi64 (((p.length - 2 : Nat) : Int) + 2)) || decide (((p ++ t).length : Int) ≤ ((p.length + i : Nat) : Int))) =
    some (if uOK t (t.takeWhile isHx) then (bytesEl (encN (hv (t.takeWhile isHx))), (((t.takeWhile isHx).length + 3 : Nat) : Int)) else ([], 0)) := by
  have hx := take_hx t
  have e0 : wi64 (((p.length - 2 : Nat) : Int) + 2) = ((p.length : Nat) : Int) := by
    rw [List.length_append] at hq
    rw [wi64_id (by omega) (by omega)]; omega
  rw [List.length_append] at hq
  have htl : (t.takeWhile isHx).length ≤ t.length := by have := tw_dw t; omega
  rw [e0]
  unfold r01_thing_j9
  by_cases h1 : i = 0 ∨ t.length ≤ i
  · have hn : uOK t (t.takeWhile isHx) = false := by
      rw [Bool.eq_false_iff]
      intro q
      obtain ⟨a1, a2, a3⟩ := uOK_len q
      rcases h1 with h1 | h1
      · have : (t.takeWhile isHx).length = 0 := by omega
        rw [List.length_eq_zero_iff.1 this] at q
        simp [uOK] at q
      · omega
    rw [if_pos (by simp only [Bool.or_eq_true, beq_iff_eq, decide_eq_true_eq, List.length_append]; omega), rej_j10, hn]
    rfl
  · have hlt : i < t.length := by omega
    rw [if_neg (by simp only [Bool.or_eq_true, beq_iff_eq, decide_eq_true_eq, List.length_append]; omega), byteAt_pre]
    obtain ⟨b, hb⟩ : ∃ b, t[i]? = some b := ⟨_, List.getElem?_eq_getElem hlt⟩
    rw [byteAt_get hb]
    simp only [Option.bind_some]
    have e59 : ((b.toNat : Int) != 59) = decide (b ≠ 59) := ne_lit (n := 59)
    rw [e59]
    by_cases hb59 : b = 59
    · have hle : (t.takeWhile isHx).length ≤ 7 := by
        refine Nat.le_of_not_lt fun q => ?_
        obtain ⟨b', c1, c2, c3⟩ := tw_get (t := t) (i := i) (by omega)
        rw [hb] at c1
        cases c1
        rw [hb59] at c3
        exact absurd c3 (by decide)
      have hil : i = (t.takeWhile isHx).length := by omega
      have htake : (t.takeWhile isHx).take i = t.takeWhile isHx := List.take_of_length_le (by omega)
      rw [htake]
      have hlt7 := hv_lt hx
      have h7 : (16 : Nat) ^ (t.takeWhile isHx).length ≤ 16 ^ 7 := Nat.pow_le_pow_right (by omega) hle
      have hne : t.takeWhile isHx ≠ [] := by intro e; rw [e] at hil; exact h1 (.inl hil)
      have hdrop : ((t.drop (t.takeWhile isHx).length).head? == some 59) = true := by rw [List.head?_drop, ← hil, hb, hb59]; rfl
      have hemp : (t.takeWhile isHx).isEmpty = false := by simpa using hne
      have hhead : t.headD 0 = (t.takeWhile isHx).headD 0 := by
        cases t with
        | nil => simp at hne
        | cons a t =>
          rw [List.takeWhile_cons] at hne ⊢
          split
          · rfl
          · rename_i h; rw [if_neg h] at hne; exact absurd rfl hne
      unfold r01_thing_j10
      rw [decide_eq_false (by simp [hb59]), Bool.false_or]
      generalize hN : hv (t.takeWhile isHx) = N at *
      have hw : wi32 (N : Int) = (N : Int) := wi32_id (by omega) (by omega)
      unfold r01_thing_j11
      by_cases hbig : 1114111 < N
      · have hn : uOK t (t.takeWhile isHx) = false := by
          have : okB N = false := by unfold okB; simp; omega
          unfold uOK
          rw [hN, this]
          simp
        rw [if_pos (by simp only [decide_eq_true_eq]; omega), hn]
        rfl
      · rw [if_neg (by simp only [decide_eq_true_eq]; omega), hw, Rune_valid]
        simp only [Option.bind_some]
        have hval : Utf8.valid (N : Int) = okB N := by
          unfold Utf8.valid okB
          rw [Bool.eq_iff_iff]
          simp
          omega
        rw [hval]
        unfold r01_thing_j12
        cases hok : okB N with
        | false =>
          rw [if_pos (by rfl)]
          have hn : uOK t (t.takeWhile isHx) = false := by unfold uOK; rw [hN, hok]; simp
          rw [hn]
          rfl
        | true =>
          rw [if_neg (by simp), number_N (by omega) (by omega)]
          simp only [Option.bind_some]
          rw [e0, show ((p.length : Nat) : Int) = ((p.length + 0 : Nat) : Int) by simp, sub_pre p t (Nat.zero_le i) (by omega)]
          have hseg : seg t 0 i = t.takeWhile isHx := by
            unfold seg
            rw [hil, List.drop_zero, tw_take]
          simp only [Option.bind_some, hseg]
          have hself := hexN_self hx hne hle
          rw [hN] at hself
          unfold r01_thing_j13
          by_cases hz : (t.takeWhile isHx).headD 0 = 48 ∧ 1 < (t.takeWhile isHx).length
          · have hn : uOK t (t.takeWhile isHx) = false := by
              unfold uOK
              rw [hhead, hz.1]
              have := hz.2
              simp [this]
            have hneq : ¬ hexN N = t.takeWhile isHx := fun e => hself.1 e hz
            rw [if_pos (by simpa using hneq), hn]
            rfl
          · have heq := hself.2 hz
            rw [if_neg (by simp [heq])]
            unfold r01_thing_j15 r01_thing_j14
            by_cases hr : 32 ≤ N ∧ N ≤ 126
            · have hn : uOK t (t.takeWhile isHx) = false := by
                unfold uOK
                rw [hN]
                simp [hr.1, hr.2]
              rw [if_pos (by simp only [Bool.and_eq_true, decide_eq_true_eq]; omega), hn]
              rfl
            · have hn : uOK t (t.takeWhile isHx) = true := by
                unfold uOK
                rw [hN, hok, hemp, hdrop, hhead]
                have c1 : (decide (32 ≤ N) && decide (N ≤ 126)) = false := by simp; omega
                have c2 : (((t.takeWhile isHx).headD 0 == 48) && decide (1 < (t.takeWhile isHx).length)) = false := by
                  rw [Bool.eq_false_iff]
                  intro q
                  simp only [Bool.and_eq_true, beq_iff_eq, decide_eq_true_eq] at q
                  exact hz q
                rw [c1, c2]
                rfl
              rw [if_neg (by simp only [Bool.and_eq_true, decide_eq_true_eq]; omega), hn, hw, one_ok, enc_ok (okB_iff.1 hok)]
              simp only [Option.bind_some, if_true]
              rw [wi64_id (x := ((p.length + i : Nat) : Int) + 1) (by omega) (by omega), wi64_id (by omega) (by omega), show ((p.length + i : Nat) : Int) + 1 - ((p.length - 2 : Nat) : Int) = (((t.takeWhile isHx).length + 3 : Nat) : Int) by omega]
    · rw [decide_eq_true hb59, rej_j10]
      have hn : uOK t (t.takeWhile isHx) = false := by
        rw [Bool.eq_false_iff]
        intro q
        obtain ⟨a1, a2, a3⟩ := uOK_len q
        have : i = (t.takeWhile isHx).length := by omega
        rw [← this, hb] at a3
        exact hb59 (Option.some.inj a3)
      rw [hn]
      rfl

theorem thing_l1 {p t : List UInt8} (hq : (p ++ t).length ≤ 1000000) (hp : 2 ≤ p.length) : ∀ n i, i ≤ min (t.takeWhile isHx).length 7 → 7 - i < n →
    r01_thing_l1 80000 (p ++ t) ((p.length - 2 : Nat) : Int) n ((p.length + i : Nat) : Int) (hv ((t.takeWhile isHx).take i) : Int) =
    some (if uOK t (t.takeWhile isHx) then (bytesEl (encN (hv (t.takeWhile isHx))), (((t.takeWhile isHx).length + 3 : Nat) : Int)) else ([], 0)) := by
  have hx := take_hx t
  have hlen := hq
  rw [List.length_append] at hlen
  have htl : (t.takeWhile isHx).length ≤ t.length := by have := tw_dw t; omega
  intro n
  induction n with
  | zero => intro i _ h; omega
  | succ n ih =>
    intro i h1 h2
    have stop : i = min (t.takeWhile isHx).length 7 → ∀ (go : Int → Int → Option (List Int × Int)), r01_thing_j8 80000 (p ++ t) ((p.length + i : Nat) : Int) go (hv ((t.takeWhile isHx).take i) : Int) ((p.length - 2 : Nat) : Int) false =
        some (if uOK t (t.takeWhile isHx) then (bytesEl (encN (hv (t.takeWhile isHx))), (((t.takeWhile isHx).length + 3 : Nat) : Int)) else ([], 0)) := by
      intro e go
      unfold r01_thing_j8
      rw [if_neg (by simp)]
      exact thing_end hq hp e
    have e9 : wi64 (((p.length + i : Nat) : Int) - ((p.length - 2 : Nat) : Int)) = ((i + 2 : Nat) : Int) := by rw [wi64_id (by omega) (by omega)]; omega
    unfold r01_thing_l1 r01_thing_b1 r01_thing_j7
    rw [e9]
    by_cases hlt : i < t.length
    · obtain ⟨b, hb⟩ : ∃ b, t[i]? = some b := ⟨_, List.getElem?_eq_getElem hlt⟩
      have hat : byteAt (p ++ t) ((p.length + i : Nat) : Int) = some (b.toNat : Int) := by rw [byteAt_pre, byteAt_get hb]
      rw [if_pos (by simp only [decide_eq_true_eq, List.length_append]; omega), hat]
      simp only [Option.bind_some, worth_ok]
      by_cases hi : i < (t.takeWhile isHx).length
      · obtain ⟨b', c1, c2, c3⟩ := tw_get hi
        rw [hb] at c1
        cases c1
        have hd0 := dg_lt c3
        rw [if_pos c3]
        by_cases h7 : i < 7
        · rw [show (decide ((0 : Int) ≤ (dg b : Int)) && decide (((i + 2 : Nat) : Int) < 9)) = true by simp; omega]
          unfold r01_thing_j8
          rw [if_pos rfl, hat]
          simp only [Option.bind_some, worth_ok]
          rw [if_pos c3]
          have hs : hv ((t.takeWhile isHx).take (i + 1)) = 16 * hv ((t.takeWhile isHx).take i) + dg b := by
            have hgb : (t.takeWhile isHx)[i]'hi = b := by
              rw [List.getElem?_eq_getElem hi] at c2
              exact Option.some.inj c2
            rw [List.take_succ_eq_append_getElem hi, hv_snoc, hgb]
          have hlt2 := hv_lt (l := (t.takeWhile isHx).take i) (fun b hb => hx b (List.mem_of_mem_take hb))
          have h77 : (16 : Nat) ^ ((t.takeWhile isHx).take i).length ≤ 16 ^ 7 := Nat.pow_le_pow_right (by omega) (by rw [List.length_take]; omega)
          rw [wi64_id (x := (16 : Int) * (hv ((t.takeWhile isHx).take i) : Int)) (by omega) (by omega), wi64_id (x := (16 : Int) * (hv ((t.takeWhile isHx).take i) : Int) + (dg b : Int)) (by omega) (by omega),
            wi64_id (x := ((p.length + i : Nat) : Int) + 1) (by omega) (by omega),
            show ((p.length + i : Nat) : Int) + 1 = ((p.length + (i + 1) : Nat) : Int) by omega, show (16 : Int) * (hv ((t.takeWhile isHx).take i) : Int) + (dg b : Int) = ((hv ((t.takeWhile isHx).take (i + 1)) : Nat) : Int) by rw [hs]; omega]
          exact ih (i + 1) (by omega) (by omega)
        · rw [show (decide ((0 : Int) ≤ (dg b : Int)) && decide (((i + 2 : Nat) : Int) < 9)) = false by simp; omega]
          exact stop (by omega) _
      · have hb2 : isHx b = false := tw_next (t := t) (by rw [show (t.takeWhile isHx).length = i by omega]; exact hb)
        rw [hb2, if_neg (by simp), show (decide ((0 : Int) ≤ -1) && decide (((i + 2 : Nat) : Int) < 9)) = false by simp]
        exact stop (by omega) _
    · rw [if_neg (by simp only [decide_eq_true_eq, List.length_append]; omega), Bool.false_and]
      exact stop (by omega) _

theorem refThing_ok {p s : List UInt8} (hq : (p ++ s).length ≤ 1000000) (h0 : s ≠ []) (h34 : s.headD 0 ≠ 34) :
    r01_thing 80000 (p ++ s) (p.length : Int) = some (bytesEl (thS s).1, ((thS s).2 : Int)) := by
  have hlen := hq
  rw [List.length_append] at hlen
  have b0 : ∀ j : Nat, byteAt (p ++ s) ((p.length + j : Nat) : Int) = byteAt s (j : Int) := fun j => byteAt_pre p s j
  have w : ∀ j : Nat, j ≤ 100 → wi64 ((p.length : Int) + (j : Int)) = ((p.length + j : Nat) : Int) := fun j hj => by rw [wi64_id (by omega) (by omega)]; omega
  have w1 : wi64 ((p.length : Int) + 1) = ((p.length + 1 : Nat) : Int) := w 1 (by omega)
  have w2 : wi64 ((p.length : Int) + 2) = ((p.length + 2 : Nat) : Int) := w 2 (by omega)
  have w3 : wi64 ((p.length : Int) + 3) = ((p.length + 3 : Nat) : Int) := w 3 (by omega)
  have e0 : byteAt (p ++ s) (p.length : Int) = byteAt s 0 := b0 0
  match s, h0 with
  | b :: r, _ =>
    unfold r01_thing
    rw [e0, byteAt_cons]
    simp only [Option.bind_some]
    have n92 : ((b.toNat : Int) != 92) = decide (b ≠ 92) := ne_lit (n := 92)
    rw [n92]
    by_cases hb : b = 92
    · subst hb
      rw [if_neg (by simp), w1]
      cases r with
      | nil =>
        rw [if_pos (by simp)]
        rfl
      | cons c t =>
        rw [if_neg (by simp only [decide_eq_true_eq, List.length_append, List.length_cons]; omega), b0]
        rw [show byteAt (92 :: c :: t) ((1 : Nat) : Int) = some (c.toNat : Int) from rfl]
        simp only [Option.bind_some]
        have q34 : ((c.toNat : Int) == 34) = decide (c = 34) := eq_lit (n := 34)
        have q92 : ((c.toNat : Int) == 92) = decide (c = 92) := eq_lit (n := 92)
        have q120 : ((c.toNat : Int) == 120) = decide (c = 120) := eq_lit (n := 120)
        have q117 : ((c.toNat : Int) == 117) = decide (c = 117) := eq_lit (n := 117)
        have htl := tw_dw t
        have jj : ∀ x : Bool, x = decide (c = 34 ∨ c = 92) → r01_thing_j4 80000 (p ++ 92 :: c :: t) (p.length : Int) (c.toNat : Int) x = some (bytesEl (thS (92 :: c :: t)).1, ((thS (92 :: c :: t)).2 : Int)) := by
          intro x hx
          subst hx
          rw [thS_esc]
          unfold r01_thing_j4
          rw [w1, b0, show byteAt (92 :: c :: t) ((1 : Nat) : Int) = some (c.toNat : Int) from rfl]
          simp only [Option.bind_some]
          by_cases hq1 : c = 34 ∨ c = 92
          · rw [if_pos (by simpa using hq1), if_pos hq1]
            rfl
          · rw [if_neg (by simpa using hq1), if_neg hq1, q120, q117]
            by_cases hx : c = 120
            · rw [if_pos (by simpa using hx), if_pos hx, w2, w3, b0]
              have rej : ∀ m, r01_thing_j6 80000 (p ++ 92 :: c :: t) m false = some ([], 0) := fun _ => rfl
              match t, htl with
              | [], _ =>
                rw [if_neg (by simp only [decide_eq_true_eq, List.length_append, List.length_cons, List.length_nil]; omega)]
                rfl
              | [d], _ =>
                rw [if_neg (by simp only [decide_eq_true_eq, List.length_append, List.length_cons, List.length_nil]; omega), if_pos (.inl (by rw [List.takeWhile_cons]; split <;> simp))]
                rfl
              | d :: d2 :: t', _ =>
                rw [if_pos (by simp only [decide_eq_true_eq, List.length_append, List.length_cons]; omega), show byteAt (92 :: c :: d :: d2 :: t') ((2 : Nat) : Int) = some (d.toNat : Int) from rfl]
                simp only [Option.bind_some, worth_ok]
                unfold r01_thing_j5
                rw [w3, b0, show byteAt (92 :: c :: d :: d2 :: t') ((3 : Nat) : Int) = some (d2.toNat : Int) from rfl]
                simp only [Option.bind_some, worth_ok]
                have k8 : isHx d = true → (8 ≤ dg d ↔ 56 ≤ d.toNat) := by
                  intro hd1
                  unfold isHx at hd1
                  unfold dg
                  simp only [Bool.or_eq_true, Bool.and_eq_true, decide_eq_true_eq] at hd1
                  split <;> omega
                by_cases hd1 : isHx d = true
                · by_cases h8 : 8 ≤ dg d
                  · rw [if_pos hd1, if_pos (by simp only [decide_eq_true_eq]; omega)]
                    by_cases hd2 : isHx d2 = true
                    · have l1 := dg_lt hd1
                      have l2 := dg_lt hd2
                      rw [if_pos hd2, decide_eq_true (show (0 : Int) ≤ (dg d2 : Int) by omega)]
                      unfold r01_thing_j6
                      rw [if_pos rfl, w2, w3, b0, b0, show byteAt (92 :: c :: d :: d2 :: t') ((2 : Nat) : Int) = some (d.toNat : Int) from rfl, show byteAt (92 :: c :: d :: d2 :: t') ((3 : Nat) : Int) = some (d2.toNat : Int) from rfl]
                      simp only [Option.bind_some, worth_ok]
                      rw [if_pos hd1, if_pos hd2, if_neg (by
                        rintro (q | q)
                        · rw [List.takeWhile_cons, if_pos hd1, List.takeWhile_cons, if_pos hd2] at q
                          simp at q
                          omega
                        · have := (k8 hd1).1 h8
                          simp at q
                          omega)]
                      rw [wi64_id (x := (16 : Int) * (dg d : Int)) (by omega) (by omega), wi64_id (by omega) (by omega), wu8_id (by omega) (by omega)]
                      have hv2 : hv ((d :: d2 :: t').take 2) = 16 * dg d + dg d2 := by
                        show 16 * (16 * 0 + dg d) + dg d2 = _
                        omega
                      rw [hv2]
                      congr 2
                      show [(16 : Int) * (dg d : Int) + (dg d2 : Int)] = [((UInt8.ofNat (16 * dg d + dg d2)).toNat : Int)]
                      simp
                      omega
                    · rw [if_neg hd2, show decide ((0 : Int) ≤ -1) = false by decide, rej, if_pos (.inl (by rw [List.takeWhile_cons, if_pos hd1, List.takeWhile_cons, if_neg hd2]; simp))]
                      rfl
                  · rw [if_pos hd1, if_neg (by simp only [decide_eq_true_eq]; omega), rej, if_pos (.inr (by have := k8 hd1; simp; omega))]
                    rfl
                · rw [if_neg hd1, if_neg (by simp), rej, if_pos (.inl (by rw [List.takeWhile_cons, if_neg hd1]; simp))]
                  rfl
            · rw [if_neg (by simpa using hx), if_neg hx]
              by_cases hu : c = 117
              · rw [if_pos (by simpa using hu), if_pos hu, w2]
                subst hu
                have e : p ++ 92 :: 117 :: t = (p ++ [92, 117]) ++ t := by simp
                have hl2 : (p ++ ([92, 117] : List UInt8)).length = p.length + 2 := by simp
                have := thing_l1 (p := p ++ [92, 117]) (t := t) (by rw [← e]; exact hq) (by rw [hl2]; omega) 80000 0 (Nat.zero_le _) (by omega)
                rw [hl2, Nat.add_sub_cancel, Nat.add_zero] at this
                rw [e]
                refine Eq.trans this ?_
                cases uOK t (t.takeWhile isHx) <;> rfl
              · rw [if_neg (by simpa using hu), if_neg hu]
                rfl
        rw [q34, q92]
        by_cases c34 : c = 34
        · rw [if_pos (by simpa using c34)]
          exact jj _ (by simp [c34])
        · rw [if_neg (by simpa using c34)]
          exact jj _ (by simp [c34])
    · rw [if_pos (by simpa using hb), thS_plain _ hb]
      have h34' : b ≠ 34 := h34
      have n34 : ((b.toNat : Int) != 34) = true := by
        have : ((b.toNat : Int) != 34) = decide (b ≠ 34) := ne_lit (n := 34)
        rw [this, decide_eq_true h34']
      unfold r01_thing_j1 r01_thing_j2
      rw [n34, Bool.and_true]
      by_cases hr : b.toNat < 32 ∨ 126 < b.toNat
      · rw [if_neg (by simp only [Bool.and_eq_true, decide_eq_true_eq]; omega), if_pos hr]
        rfl
      · rw [if_pos (by simp only [Bool.and_eq_true, decide_eq_true_eq]; omega), if_neg hr]
        rfl

/-- One round of the reference's reading. -/
theorem refPlain_l1 {q : List UInt8} (hq : q.length ≤ 70000) (n at1 : Nat) (out : List UInt8) (h : at1 ≤ q.length) (ho : out.length ≤ 300000) :
    r01_Plain_l1 80000 q (n + 1) (at1 : Int) (bytesEl out) =
      if at1 < q.length ∧ q.getD at1 0 ≠ 34 then (if (thS (q.drop at1)).2 = 0 then some ([], (at1 : Int), 10) else r01_Plain_l1 80000 q n ((at1 + (thS (q.drop at1)).2 : Nat) : Int) (bytesEl (out ++ (thS (q.drop at1)).1)))
      else if q.length ≤ at1 then some ([], (at1 : Int), 10) else if at1 + 1 < q.length then some ([], ((at1 + 1 : Nat) : Int), 10) else if 65536 < out.length then some ([], 0, 3) else if qt out = q then some (out, 0, 0) else some ([], 0, 10) := by
  have J1 : ∀ (go : Int → List Int → Option (List UInt8 × Int × Int)), at1 < q.length → q.getD at1 0 ≠ 34 → r01_Plain_j2 80000 q (at1 : Int) (bytesEl out) go true =
      if (thS (q.drop at1)).2 = 0 then some ([], (at1 : Int), 10) else go ((at1 + (thS (q.drop at1)).2 : Nat) : Int) (bytesEl (out ++ (thS (q.drop at1)).1)) := by
    intro go hlt h34
    obtain ⟨t1, t2⟩ := thS_len (q.drop at1)
    rw [List.length_drop] at t1
    unfold r01_Plain_j2
    have hth := refThing_ok (p := q.take at1) (s := q.drop at1) (by rw [List.take_append_drop]; omega) (by intro e; have := congrArg List.length e; rw [List.length_drop] at this; simp at this; omega) (by
      rw [List.drop_eq_getElem_cons hlt]
      rw [List.getD_eq_getElem?_getD, List.getElem?_eq_getElem hlt] at h34
      exact h34)
    rw [List.take_append_drop, List.length_take, Nat.min_eq_left h] at hth
    rw [if_pos rfl, hth]
    simp only [Option.bind_some]
    by_cases hz : (thS (q.drop at1)).2 = 0
    · rw [if_pos (by simp [hz]), if_pos hz]
    · rw [if_neg (by simp only [beq_iff_eq]; omega), if_neg hz]
      rw [chk_ok (by unfold lim; rw [bytesEl_len, bytesEl_len]; omega)]
      simp only [Option.bind_some]
      rw [bytesEl_append, wi64_id (by omega) (by omega)]
      rfl
  have J2 : ∀ (go : Int → List Int → Option (List UInt8 × Int × Int)), r01_Plain_j2 80000 q (at1 : Int) (bytesEl out) go false =
      if q.length ≤ at1 then some ([], (at1 : Int), 10) else if at1 + 1 < q.length then some ([], ((at1 + 1 : Nat) : Int), 10) else if 65536 < out.length then some ([], 0, 3) else if qt out = q then some (out, 0, 0) else some ([], 0, 10) := by
    intro go
    unfold r01_Plain_j2
    rw [if_neg (by simp)]
    by_cases c1 : q.length ≤ at1
    · rw [if_pos (by simp only [decide_eq_true_eq]; omega), if_pos c1]
    · rw [if_neg (by simp only [decide_eq_true_eq]; omega), if_neg c1]
      have e1 : wi64 ((at1 : Int) + 1) = ((at1 + 1 : Nat) : Int) := by rw [wi64_id (by omega) (by omega)]; omega
      rw [e1]
      by_cases c2 : at1 + 1 < q.length
      · rw [if_pos (by simp only [decide_eq_true_eq]; omega), if_pos c2]
      · rw [if_neg (by simp only [decide_eq_true_eq]; omega), if_neg c2, bytesEl_len, bytesStr_bytesEl]
        by_cases c3 : 65536 < out.length
        · rw [if_pos (by simp only [decide_eq_true_eq]; omega), if_pos c3]
        · rw [if_neg (by simp only [decide_eq_true_eq]; omega), if_neg c3, refQuote_ok (by omega)]
          simp only [Option.bind_some]
          by_cases c4 : qt out = q
          · rw [if_neg (by simp [c4]), if_pos c4]
          · rw [if_pos (by simp [c4]), if_neg c4]
  show r01_Plain_b1 80000 q (r01_Plain_l1 80000 q n) (at1 : Int) (bytesEl out) = _
  unfold r01_Plain_b1
  by_cases hp : at1 < q.length
  · rw [if_pos (by simp only [decide_eq_true_eq]; omega), byteAt_gb hp]
    simp only [Option.bind_some]
    have e : ((gb q at1 : Int) != 34) = decide (q.getD at1 0 ≠ 34) := ne_lit (n := 34)
    rw [e]
    by_cases hc : q.getD at1 0 ≠ 34
    · rw [decide_eq_true hc]
      exact (J1 _ hp hc).trans (if_pos ⟨hp, hc⟩).symm
    · rw [decide_eq_false hc]
      exact (J2 _).trans (if_neg (fun x => hc x.2)).symm
  · rw [if_neg (by simp only [decide_eq_true_eq]; omega)]
    exact (J2 _).trans (if_neg (fun x => hp x.1)).symm
theorem Plain_same_l1 {q : List UInt8} (hq : q.length ≤ 70000) : ∀ n at1 (out : List UInt8), at1 ≤ q.length → out.length ≤ 4 * at1 → r01_Plain_l1 80000 q n (at1 : Int) (bytesEl out) = runes_Plain_l1 80000 q n (at1 : Int) (bytesEl out) := by
  intro n
  induction n with
  | zero => intro at1 out _ _; rfl
  | succ n ih =>
    intro at1 out h1 h2
    obtain ⟨t1, t2⟩ := thS_len (q.drop at1)
    rw [List.length_drop] at t1
    rw [refPlain_l1 hq n at1 out h1 (by omega), Plain_l1 hq n at1 out h1 (by omega)]
    by_cases hz : (thS (q.drop at1)).2 = 0
    · rw [if_pos hz, if_pos hz]
    · rw [if_neg hz, if_neg hz, ih _ _ (by omega) (by rw [List.length_append]; omega)]
theorem Plain_same {q : List UInt8} (hq : q.length ≤ 5000 ∨ 1048576 < q.length) : ∃ x, runes_Plain 80000 q = some x ∧ r01_Plain 80000 q = some x := by
  rcases hq with hq | hq
  · obtain ⟨v, p, e, hr, _⟩ := Plain_any (q := q) (by omega)
    refine ⟨_, hr, ?_⟩
    rw [← hr]
    have e1 : r01_Plain 80000 q = if q == ([] : List UInt8) then r01_Plain_j1 80000 q true else Option.bind (byteAt q (0 : Int)) fun b2 => r01_Plain_j1 80000 q (b2 != (34 : Int)) := by
      unfold r01_Plain
      rw [if_neg (by simp only [decide_eq_true_eq]; omega)]
    have e2 : runes_Plain 80000 q = if !(q.head? == some 34) then some ([], 0, 10) else runes_Plain_l1 80000 q 80000 1 [] := by
      unfold runes_Plain
      rw [if_neg (by simp only [decide_eq_true_eq]; omega), Prefix1]
      rfl
    rw [e1, e2]
    cases q with
    | nil => rfl
    | cons b r =>
      rw [if_neg (by simp), byteAt_cons]
      have e34 : ((b.toNat : Int) != 34) = decide (b ≠ 34) := ne_lit (n := 34)
      simp only [Option.bind_some, e34]
      unfold r01_Plain_j1
      by_cases hb : b = 34
      · rw [if_neg (by simp [hb]), if_neg (by simp [hb])]
        exact Plain_same_l1 (by omega) 80000 1 [] (by simp) (by simp)
      · rw [if_pos (by simp [hb]), if_pos (by simp [hb])]
  · refine ⟨([], 0, 3), ?_, ?_⟩
    · unfold runes_Plain
      rw [if_pos (by simp only [decide_eq_true_eq]; omega)]
    · unfold r01_Plain
      rw [if_pos (by simp only [decide_eq_true_eq]; omega)]
end Go.Ev

namespace Go.Ev
open Go
set_option linter.unusedVariables false

theorem encs_len (xs : List Int) : (xs.flatMap enc).length ≤ 4 * xs.length := by
  induction xs with
  | nil => simp
  | cons x xs ih =>
    have h2 := enc_len x
    rw [List.flatMap_cons, List.length_append, List.length_cons]
    omega
theorem refText_l1 {v : List Int} (hv : v.length ≤ 200000) : ∀ n i (out : List UInt8), i ≤ v.length → v.length - i < n → out.length + 4 * (v.length - i) ≤ 1000000 → r01_Text_l1 80000 v n (i : Int) (bytesEl out) = some (out ++ (v.drop i).flatMap enc) := by
  intro n
  induction n with
  | zero => intro i out _ h; omega
  | succ n ih =>
    intro i out h1 h2 h3
    unfold r01_Text_l1 r01_Text_b1
    by_cases hi : i < v.length
    · have hel := enc_len v[i]
      rw [if_pos (decide_eq_true (show (i : Int) < (v.length : Int) by omega)), at_drop, List.getElem?_eq_getElem hi]
      simp only [Option.bind_some, one_ok]
      rw [chk_ok (by unfold lim; rw [bytesEl_len, bytesEl_len]; omega), bytesEl_append, show wi64 ((i : Int) + 1) = ((i + 1 : Nat) : Int) by rw [wi64_id] <;> omega]
      simp only [Option.bind_some]
      rw [ih (i + 1) (out ++ enc v[i]) (by omega) (by omega) (by rw [List.length_append]; omega), List.drop_eq_getElem_cons hi, List.append_assoc]
      rfl
    · rw [if_neg (by simp only [decide_eq_true_eq]; omega), List.drop_eq_nil_of_le (by omega), bytesStr_bytesEl]
      simp
theorem refText_ok {v : List Int} (hv : v.length ≤ 70000) : r01_Text 80000 v = some (v.flatMap enc) := by
  have := refText_l1 (v := v) (by omega) 80000 0 [] (Nat.zero_le _) (by omega) (by simp only [List.length_nil]; omega)
  exact this
theorem Text_ok {v : List Int} (hv : v.length ≤ 70000) : runes_Text 80000 v = some (v.flatMap enc) := by
  have := encs_len v
  unfold runes_Text
  rw [runesStr_enc, chk_ok (by unfold lim; omega)]
  rfl
theorem RunesQuotes_l1 {l : List Int} (hl : l.length ≤ 3000) (v4 : List UInt8 × Int × Int) (v2 : List UInt8 × Int) : ∀ n i, i ≤ l.length → l.length - i < n → l01_RunesQuotes_l1 l v4 v4 v2 v2 n true (i : Int) = some true := by
  intro n
  induction n with
  | zero => intro i _ h; omega
  | succ n ih =>
    intro i h1 h2
    unfold l01_RunesQuotes_l1 l01_RunesQuotes_b1
    rw [List.nil_append]
    by_cases hi : i < l.length
    · rw [if_pos (by simp only [decide_eq_true_eq]; omega), if_pos rfl, at_drop, at_drop, List.getElem?_append_left hi, List.getElem?_eq_getElem hi]
      simp only [Option.bind_some, beq_self_eq_true]
      unfold l01_RunesQuotes_j4
      rw [show wi64 ((i : Int) + 1) = ((i + 1 : Nat) : Int) by rw [wi64_id] <;> omega]
      exact ih (i + 1) (by omega) (by omega)
    · rw [if_neg (by simp only [decide_eq_true_eq]; omega), if_pos rfl, at_drop, List.getElem?_append_right (Nat.le_refl _), Nat.sub_self]
      simp only [List.getElem?_cons_zero, Option.bind_some, beq_self_eq_true]
      simp [l01_RunesQuotes_j5, l01_RunesQuotes_j6, l01_RunesQuotes_j7, l01_RunesQuotes_j8, l01_RunesQuotes_j9, l01_RunesQuotes_j10]
theorem Quote_same {s : List UInt8} : ∃ x, runes_Quote 80000 s = some x ∧ r01_Quote 80000 s = some x := by
  by_cases hs : s.length ≤ 65536
  · exact ⟨_, Quote_ok hs, refQuoteE_ok hs⟩
  · refine ⟨([], 3), ?_, ?_⟩
    · unfold runes_Quote
      rw [long_no (by omega)]
      rfl
    · unfold r01_Quote
      rw [if_pos (by simp only [decide_eq_true_eq]; omega)]
def K_RunesQuotes : Nat := 80000
theorem RunesQuotes_true' (s q : List UInt8) (l : List Int) : l01_RunesQuotes K_RunesQuotes s q l = some true := by
  have rest : ∀ t, ((q.length ≤ 5000 ∨ 1048576 < q.length) ∨ t = true) → l01_RunesQuotes_j1 80000 s q l t = some true := by
    intro t ht
    unfold l01_RunesQuotes_j1 l01_RunesQuotes_j2 l01_RunesQuotes_j3
    by_cases hc : ((t || decide ((1100000 : Int) < (q.length : Int))) || decide ((3000 : Int) < (l.length : Int))) = true
    · rw [if_pos hc]
    · rw [if_neg hc]
      simp only [Bool.or_eq_true, decide_eq_true_eq] at hc
      have hl : l.length ≤ 3000 := by omega
      obtain ⟨x, x1, x2⟩ := Quote_same (s := s)
      obtain ⟨y, y1, y2⟩ := Plain_same (q := q) (ht.resolve_right fun e => hc (.inl (.inl e)))
      rw [x1, x2, y1, y2]
      simp only [Option.bind_some, List.nil_append]
      rw [chk_ok (by unfold lim; simp; omega), chk_ok (by unfold lim; simp; omega)]
      simp only [Option.bind_some]
      have hsub : sub? (l ++ [(77 : Int)]) 0 (l.length : Int) = some l := by
        unfold sub?
        rw [if_pos (by simp only [List.length_append, List.length_cons, List.length_nil]; omega), Int.toNat_natCast, List.take_left]
        rfl
      rw [hsub]
      simp only [Option.bind_some]
      rw [Text_ok (by omega), refText_ok (by omega)]
      simp only [Option.bind_some, beq_self_eq_true]
      exact RunesQuotes_l1 hl y x 80000 0 (Nat.zero_le _) (by omega)
  unfold K_RunesQuotes l01_RunesQuotes
  have hlong : ∃ b, l01_long 80000 s = some b := by
    unfold l01_long l01_long_j1 l01_long_j2
    repeat' split
    all_goals exact ⟨_, rfl⟩
  obtain ⟨b, hb⟩ := hlong
  rw [hb]
  simp only [Option.bind_some]
  cases b with
  | true => exact rest true (.inr rfl)
  | false =>
    unfold l01_RunesQuotes_j11
    refine rest _ ?_
    by_cases h : q.length ≤ 5000 ∨ 1048576 < q.length
    · exact .inl h
    · right
      simp only [Bool.and_eq_true, decide_eq_true_eq]
      omega
end Go.Ev
