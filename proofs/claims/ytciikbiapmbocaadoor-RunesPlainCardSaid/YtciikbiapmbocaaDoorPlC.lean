/- Plain laws: pieces, their number, the first broken one. -/
import Derived.Test.YtciikbiapmbocaaDoorPlB
import Derived.Test.YtciikbiapmbocaaDoorShRu2
namespace Go.Ev
open Go
set_option linter.unusedVariables false

theorem runeAt_g (s : List UInt8) (p : Nat) : runeAt s p = ((g s p).1 : Int) := by
  unfold runeAt
  show ((Utf8.decode ⟨s.toArray⟩ p).1 : Int) = _
  rw [decode_g]
theorem widthAt_g (s : List UInt8) (p : Nat) : widthAt s p = (g s p).2 := by
  unfold widthAt
  show (Utf8.decode ⟨s.toArray⟩ p).2 = _
  rw [decode_g]
theorem g_kinds0 (s : List UInt8) (p : Nat) : ((g s p).1 = 65533 ∧ (g s p).2 = 1) ∨ ((g s p).1 ≤ 127 ∧ (g s p).2 = 1) ∨ (128 ≤ (g s p).1 ∧ (g s p).1 ≤ 2047 ∧ (g s p).2 = 2) ∨
    (2048 ≤ (g s p).1 ∧ (g s p).1 ≤ 65535 ∧ ((g s p).1 < 55296 ∨ 57344 ≤ (g s p).1) ∧ (g s p).2 = 3) ∨ (65536 ≤ (g s p).1 ∧ (g s p).1 ≤ 1114111 ∧ (g s p).2 = 4) := by
  have h0 := gb_lt s p; have h1 := gb_lt s (p + 1); have h2 := gb_lt s (p + 2); have h3 := gb_lt s (p + 3)
  unfold g Lib.decodeN
  repeat' split
  all_goals (dsimp only; omega)
theorem g_kinds {s : List UInt8} {p : Nat} (hb : bad s p = false) : ((g s p).1 ≤ 127 ∧ (g s p).2 = 1) ∨ (128 ≤ (g s p).1 ∧ (g s p).1 ≤ 2047 ∧ (g s p).2 = 2) ∨
    (2048 ≤ (g s p).1 ∧ (g s p).1 ≤ 65535 ∧ ((g s p).1 < 55296 ∨ 57344 ≤ (g s p).1) ∧ (g s p).2 = 3) ∨ (65536 ≤ (g s p).1 ∧ (g s p).1 ≤ 1114111 ∧ (g s p).2 = 4) := by
  rcases g_kinds0 s p with ⟨h1, h2⟩ | h
  · unfold bad at hb
    simp [h1, h2] at hb
  · exact h
theorem bad_iff {s : List UInt8} {p : Nat} (hb : bad s p = true) : (g s p).1 = 65533 ∧ (g s p).2 = 1 := by
  unfold bad at hb
  simpa using hb

theorem RuneLen_val (k : Nat) (r : Nat) : unicode_utf8_RuneLen k (r : Int) = some (if r ≤ 127 then 1 else if r ≤ 2047 then 2 else if 55296 ≤ r ∧ r ≤ 57343 then -1 else if r ≤ 65535 then 3 else if r ≤ 1114111 then 4 else -1) := by
  unfold unicode_utf8_RuneLen unicode_utf8_RuneLen_j1
  rw [if_neg (by simp only [decide_eq_true_eq]; omega)]
  by_cases c1 : r ≤ 127
  · rw [if_pos (by simp only [decide_eq_true_eq]; omega), if_pos c1]
  · rw [if_neg (by simp only [decide_eq_true_eq]; omega), if_neg c1]
    by_cases c2 : r ≤ 2047
    · rw [if_pos (by simp only [decide_eq_true_eq]; omega), if_pos c2]
    · rw [if_neg (by simp only [decide_eq_true_eq]; omega), if_neg c2]
      by_cases c3 : 55296 ≤ r ∧ r ≤ 57343
      · rw [if_pos (by simp only [Bool.and_eq_true, decide_eq_true_eq]; omega), if_pos c3]
      · rw [if_neg (by simp only [Bool.and_eq_true, decide_eq_true_eq]; omega), if_neg c3]
        by_cases c4 : r ≤ 65535
        · rw [if_pos (by simp only [decide_eq_true_eq]; omega), if_pos c4]
        · rw [if_neg (by simp only [decide_eq_true_eq]; omega), if_neg c4]
          by_cases c5 : r ≤ 1114111
          · rw [if_pos (by simp only [decide_eq_true_eq]; omega), if_pos c5]
          · rw [if_neg (by simp only [decide_eq_true_eq]; omega), if_neg c5]
theorem RuneLen_g (k : Nat) {s : List UInt8} {p : Nat} (hb : bad s p = false) : unicode_utf8_RuneLen k ((g s p).1 : Int) = some ((g s p).2 : Int) := by
  rw [RuneLen_val]
  congr 1
  rcases g_kinds hb with ⟨h1, h2⟩ | ⟨h1, h2, h3⟩ | ⟨h1, h2, h3, h4⟩ | ⟨h1, h2, h3⟩
  · rw [if_pos h1, h2]; rfl
  · rw [if_neg (by omega), if_pos h2, h3]; rfl
  · rw [if_neg (by omega), if_neg (by omega), if_neg (by omega), if_pos h2, h4]; rfl
  · rw [if_neg (by omega), if_neg (by omega), if_neg (by omega), if_neg (by omega), if_pos h2, h3]; rfl
theorem sub_all {s : List UInt8} {p : Nat} (h : p ≤ s.length) : sub? s (p : Int) (s.length : Int) = some (s.drop p) := by
  unfold sub?
  rw [if_pos (by omega), Int.toNat_natCast, Int.toNat_natCast, List.take_length]

theorem chk_ok {p : Prop} [Decidable p] (h : p) : chk p = some () := by unfold chk; rw [if_pos h]

/-- One round of each, up to the call. -/
theorem each_round {α : Type} {k : Nat} {s : List UInt8} {p : Nat} (h : p < s.length) (J : Int → Bool → Option α) :
    (Option.bind (unicode_utf8_RuneLen k (runeAt s p)) fun v1 =>
      if (runeAt s p) == (65533 : Int) then
        (Option.bind (sub? s (p : Int) (s.length : Int)) fun s2 =>
          Option.bind (utf8_DecodeRuneInString k s2) fun v3 =>
          if v3.2 == (1 : Int) then J (1 : Int) true else J v1 false)
      else J v1 false) = J ((g s p).2 : Int) (bad s p) := by
  rw [runeAt_g]
  cases hb : bad s p with
  | true =>
    obtain ⟨e1, e2⟩ := bad_iff hb
    rw [RuneLen_val, e1]
    simp only [Option.bind, sub_all (Nat.le_of_lt h), utf8_DecodeRuneInString, decodeGo_drop h, e2]
    rfl
  | false =>
    rw [RuneLen_g k hb]
    simp only [Option.bind, sub_all (Nat.le_of_lt h), utf8_DecodeRuneInString, decodeGo_drop h]
    by_cases e : (g s p).1 = 65533
    · have e2 : (g s p).2 ≠ 1 := by
        intro e2
        unfold bad at hb
        simp [e, e2] at hb
      rw [if_pos (by rw [e]; rfl), if_neg (by simp only [beq_iff_eq]; omega)]
    · rw [if_neg (by simp only [beq_iff_eq]; omega)]

theorem each1_l1 {k : Nat} {s : List UInt8} (hs : s.length ≤ 65536) : ∀ n p (t : List (Int × Int × Int × Bool × Unit)), p ≤ s.length → s.length - p < n → t.length + (s.length - p) ≤ 200000 → runes_each_i1_l1 k s n p t = some (t ++ pl s p) := by
  intro n
  induction n with
  | zero => intro p t _ h; omega
  | succ n ih =>
    intro p t h1 h2 h3
    unfold runes_each_i1_l1 runes_each_i1_b1
    by_cases hp : p < s.length
    · have hg := g_size s p hp
      rw [if_pos (decide_eq_true hp), each_round hp]
      unfold runes_each_i1_j1 runes_Pieces_c1_i1
      rw [chk_ok (by unfold lim; simp only [List.length_cons, List.length_nil]; omega)]
      simp only [Option.bind, Bool.not_true, Bool.false_eq_true, if_false, widthAt_g, runeAt_g]
      rw [ih _ _ hg.2.1 (by omega) (by simp only [List.length_append, List.length_cons, List.length_nil]; omega), pl_cons hp]
      simp [pc]
    · rw [if_neg (by simpa using hp), pl_nil hp]
      simp
theorem each1 {k : Nat} {s : List UInt8} (hk : 80000 ≤ k) (hs : s.length ≤ 65536) : runes_each_i1 k s [] = some (pl s 0) := by
  unfold runes_each_i1
  have := each1_l1 (k := k) hs k 0 [] (by omega) (by omega) (by simp only [List.length_nil]; omega)
  simpa using this

/-- The place of the first broken piece, or −1. -/
def brk : List (Int × Int × Int × Bool × Unit) → Int
  | [] => -1
  | x :: l => if x.2.2.2.1 then x.2.1 else brk l
theorem each2_l1 {k : Nat} {s : List UInt8} (hs : s.length ≤ 65536) : ∀ n p, p ≤ s.length → s.length - p < n → runes_each_i2_l1 k s n p (-1) = some (brk (pl s p)) := by
  intro n
  induction n with
  | zero => intro p _ h; omega
  | succ n ih =>
    intro p h1 h2
    unfold runes_each_i2_l1 runes_each_i2_b1
    by_cases hp : p < s.length
    · have hg := g_size s p hp
      rw [if_pos (decide_eq_true hp), each_round hp]
      unfold runes_each_i2_j1 runes_Broken_c1_i1 runes_Broken_c1_i1_j1
      rw [pl_cons hp, brk]
      have hb : (pc s p).2.2.2.1 = bad s p := rfl
      rw [hb]
      cases bad s p with
      | true =>
        have d : decide ((p : Int) < 0) = false := by simp only [decide_eq_false_iff_not]; omega
        simp only [if_true, Option.bind, d, Bool.not_false]
        rfl
      | false =>
        simp only [Bool.false_eq_true, if_false, Option.bind, widthAt_g]
        rw [show (!decide ((-1 : Int) < 0)) = false from rfl]
        simp only [Bool.false_eq_true, if_false]
        exact ih _ hg.2.1 (by omega)
    · rw [if_neg (by simpa using hp), pl_nil hp]
      rfl
theorem each2 {k : Nat} {s : List UInt8} (hk : 80000 ≤ k) (hs : s.length ≤ 65536) : runes_each_i2 k s (-1) = some (brk (pl s 0)) := by
  unfold runes_each_i2
  exact each2_l1 hs k 0 (by omega) (by omega)

theorem Count_l1 {s : List UInt8} (hs : s.length ≤ 65536) : ∀ n p (c : Nat), p ≤ s.length → s.length - p < n → c + (s.length - p) ≤ 200000 → unicode_utf8_RuneCountInString_l1 s n (c : Int) p = some ((c + (pl s p).length : Nat) : Int) := by
  intro n
  induction n with
  | zero => intro p c _ h; omega
  | succ n ih =>
    intro p c h1 h2 h3
    unfold unicode_utf8_RuneCountInString_l1 unicode_utf8_RuneCountInString_b1
    by_cases hp : p < s.length
    · have hg := g_size s p hp
      rw [if_pos (decide_eq_true hp), widthAt_g, show wi64 ((c : Int) + 1) = ((c + 1 : Nat) : Int) by rw [wi64_id] <;> omega, ih _ _ hg.2.1 (by omega) (by omega), pl_cons hp]
      congr 1
      simp only [List.length_cons]
      omega
    · rw [if_neg (by simpa using hp), pl_nil hp]
      rfl
theorem Count_eq {k : Nat} {s : List UInt8} (hk : 80000 ≤ k) (hs : s.length ≤ 65536) : unicode_utf8_RuneCountInString k s = some ((pl s 0).length : Int) := by
  unfold unicode_utf8_RuneCountInString
  have := Count_l1 hs k 0 0 (by omega) (by omega) (by omega)
  simpa using this

theorem at_drop {α : Type} {l : List α} {i : Nat} : at? l (i : Int) = l[i]? := by
  unfold at?
  rw [if_pos (by omega), Int.toNat_natCast]

theorem refBroken_l1 {v : List (Int × Int × Int × Bool × Unit)} (hv : v.length ≤ 200000) : ∀ n i, i ≤ v.length → v.length - i < n → r01_Broken_l1 (v, 0) n (i : Int) = some (brk (v.drop i), 0) := by
  intro n
  induction n with
  | zero => intro i _ h; omega
  | succ n ih =>
    intro i h1 h2
    unfold r01_Broken_l1 r01_Broken_b1
    by_cases hi : i < v.length
    · rw [if_pos (decide_eq_true (show (i : Int) < (v.length : Int) by omega)), at_drop, List.getElem?_eq_getElem hi, List.drop_eq_getElem_cons hi]
      simp only [Option.bind, brk]
      cases v[i].2.2.2.1 with
      | true => rfl
      | false =>
        simp only [Bool.false_eq_true, if_false]
        rw [show wi64 ((i : Int) + 1) = ((i + 1 : Nat) : Int) by rw [wi64_id] <;> omega]
        exact ih _ (by omega) (by omega)
    · rw [if_neg (by simp only [decide_eq_true_eq]; omega), List.drop_eq_nil_of_le (by omega)]
      rfl
theorem pl_len (s : List UInt8) : (pl s 0).length ≤ s.length := by
  have := pl_length s (s.length + 1) 0 (by omega)
  omega

theorem long_ok {k : Nat} {s : List UInt8} (hs : s.length ≤ 65536) : runes_long k s = some 0 := by
  unfold runes_long
  rw [if_neg (by simp only [decide_eq_true_eq]; omega)]
theorem long_no {k : Nat} {s : List UInt8} (hs : 65536 < s.length) : runes_long k s = some 3 := by
  unfold runes_long
  rw [if_pos (by simp only [decide_eq_true_eq]; omega)]

theorem Pieces_i1_ok {k : Nat} {s : List UInt8} (hk : 80000 ≤ k) (hs : s.length ≤ 65536) : runes_Pieces_i1 k s = some (0, pl s 0) := by
  unfold runes_Pieces_i1
  simp only [long_ok hs, each1 hk hs, Option.bind]
  rfl
theorem Pieces_ok {k : Nat} {s : List UInt8} (hk : 80000 ≤ k) (hs : s.length ≤ 65536) : runes_Pieces k s = some (pl s 0, 0) := by
  unfold runes_Pieces
  simp only [long_ok hs, each1 hk hs, Option.bind]
  rfl
theorem refPieces_ok {k : Nat} {s : List UInt8} (hk : 80000 ≤ k) (hs : s.length ≤ 65536) : r01_Pieces k s = some (pl s 0, 0) := by
  unfold r01_Pieces
  rw [if_neg (by simp only [decide_eq_true_eq]; omega), All_eq hk hs]
  rfl
theorem Len_ok {k : Nat} {s : List UInt8} (hk : 80000 ≤ k) (hs : s.length ≤ 65536) : runes_Len k s = some (((pl s 0).length : Int), 0) := by
  unfold runes_Len
  simp only [long_ok hs, Count_eq hk hs, Option.bind]
  rfl
theorem refLen_ok {k : Nat} {s : List UInt8} (hk : 80000 ≤ k) (hs : s.length ≤ 65536) : r01_Len k s = some (((pl s 0).length : Int), 0) := by
  unfold r01_Len
  rw [refPieces_ok hk hs]
  rfl
theorem Broken_ok {k : Nat} {s : List UInt8} (hk : 80000 ≤ k) (hs : s.length ≤ 65536) : runes_Broken k s = some (brk (pl s 0), 0) := by
  unfold runes_Broken
  simp only [long_ok hs, each2 hk hs, Option.bind]
  rfl
theorem refBroken_ok {k : Nat} {s : List UInt8} (hk : 80000 ≤ k) (hs : s.length ≤ 65536) : r01_Broken k s = some (brk (pl s 0), 0) := by
  have hl := pl_len s
  unfold r01_Broken
  simp only [refPieces_ok hk hs, Option.bind]
  rw [if_neg (by simp)]
  have := refBroken_l1 (v := pl s 0) (by omega) k 0 (by omega) (by omega)
  simpa using this
end Go.Ev
