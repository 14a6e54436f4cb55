/- Plain laws: parts of a text; a text mended; the law RunesTexts. -/
import Derived.Test.YtciikbiapmbocaaDoorPlC
namespace Go.Ev
open Go
set_option linter.unusedVariables false

/-- Where piece i begins. -/
def plc (s : List UInt8) : Nat → Nat
  | 0 => 0
  | i + 1 => plc s i + (g s (plc s i)).2
theorem plc_drop (s : List UInt8) : ∀ i, i ≤ (pl s 0).length → plc s i ≤ s.length ∧ (pl s 0).drop i = pl s (plc s i) := by
  intro i
  induction i with
  | zero => intro _; exact ⟨Nat.zero_le _, rfl⟩
  | succ i ih =>
    intro h
    obtain ⟨h1, h2⟩ := ih (by omega)
    have hlt : plc s i < s.length := by
      refine Nat.lt_of_not_le fun hn => ?_
      rw [pl_nil (p := plc s i) (by omega)] at h2
      have := congrArg List.length h2
      rw [List.length_drop] at this
      simp only [List.length_nil] at this
      omega
    refine ⟨(g_size s _ hlt).2.1, ?_⟩
    rw [← List.drop_drop, h2, pl_cons hlt]
    rfl
theorem plc_at {s : List UInt8} {i : Nat} (h : i < (pl s 0).length) : plc s i < s.length ∧ (pl s 0)[i]? = some (pc s (plc s i)) := by
  obtain ⟨h1, h2⟩ := plc_drop s i (by omega)
  have hlt : plc s i < s.length := by
    refine Nat.lt_of_not_le fun hn => ?_
    rw [pl_nil (p := plc s i) (by omega)] at h2
    have := congrArg List.length h2
    rw [List.length_drop] at this
    simp only [List.length_nil] at this
    omega
  refine ⟨hlt, ?_⟩
  rw [pl_cons hlt] at h2
  have := congrArg (fun l => l[0]?) h2
  simpa using this
theorem plc_end (s : List UInt8) : plc s (pl s 0).length = s.length := by
  obtain ⟨h1, h2⟩ := plc_drop s _ (Nat.le_refl _)
  refine Nat.le_antisymm h1 (Nat.le_of_not_lt fun hlt => ?_)
  rw [List.drop_length, pl_cons hlt] at h2
  cases h2
theorem plc_mono (s : List UInt8) {i j : Nat} (h : i ≤ j) : plc s i ≤ plc s j := by
  induction h with
  | refl => exact Nat.le_refl _
  | step _ ih => exact Nat.le_trans ih (Nat.le_add_right _ _)

theorem place_ok {k : Nat} {s : List UInt8} {i : Nat} (h : i ≤ (pl s 0).length) : runes_Part_c1 k (i : Int) (pl s 0) s = some (plc s i : Int) := by
  unfold runes_Part_c1
  by_cases e : i = (pl s 0).length
  · rw [if_pos (by simp [e]), e, plc_end]
  · rw [if_neg (by simp only [beq_iff_eq]; omega), at_drop, (plc_at (by omega)).2]
    rfl

theorem bytesStr_bytesEl (x : List UInt8) : bytesStr (bytesEl x) = x := by
  unfold bytesStr bytesEl
  rw [List.map_map]
  have : ((fun n : Int => UInt8.ofNat n.toNat) ∘ fun b : UInt8 => (b.toNat : Int)) = id := by
    funext b
    simp
  rw [this, List.map_id]
theorem bytesEl_append (a b : List UInt8) : bytesEl a ++ bytesEl b = bytesEl (a ++ b) := by simp [bytesEl]
theorem bytesEl_len (a : List UInt8) : (bytesEl a).length = a.length := by simp [bytesEl]

/-- The bytes from one place to another. -/
def seg (s : List UInt8) (a b : Nat) : List UInt8 := (s.take b).drop a
theorem seg_append {s : List UInt8} {a b c : Nat} (h1 : a ≤ b) (h2 : b ≤ c) : seg s a b ++ seg s b c = seg s a c := by
  unfold seg
  have e : s.take c = s.take b ++ (s.take c).drop b := by
    conv => lhs; rw [← List.take_append_drop b (s.take c)]
    rw [List.take_take, Nat.min_eq_left h2]
  by_cases hb : b ≤ s.length
  · conv => rhs; rw [e]
    rw [List.drop_append_of_le_length (by rw [List.length_take]; omega)]
  · have e1 : s.take b = s := List.take_of_length_le (by omega)
    have e2 : s.take c = s := List.take_of_length_le (by omega)
    rw [e1, e2, List.drop_eq_nil_of_le (show s.length ≤ b by omega), List.append_nil]
theorem seg_len {s : List UInt8} {a b : Nat} (hb : b ≤ s.length) : (seg s a b).length = b - a := by
  unfold seg
  rw [List.length_drop, List.length_take]
  omega
theorem sub_seg {s : List UInt8} {a b : Nat} (h1 : a ≤ b) (h2 : b ≤ s.length) : sub? s (a : Int) (b : Int) = some (seg s a b) := by
  unfold sub?
  rw [if_pos (by omega), Int.toNat_natCast, Int.toNat_natCast]
  rfl

theorem refPart_l1 {s : List UInt8} (hs : s.length ≤ 65536) {b : Nat} (hb : b ≤ (pl s 0).length) : ∀ n i (out : List UInt8), i ≤ b → b - i < n → out.length + (plc s b - plc s i) ≤ 200000 → r01_Part_l1 (b : Int) (pl s 0, 0) s n (i : Int) (bytesEl out) = some (out ++ seg s (plc s i) (plc s b), 0) := by
  have hl := pl_len s
  intro n
  induction n with
  | zero => intro i out _ h; omega
  | succ n ih =>
    intro i out h1 h2 h3
    unfold r01_Part_l1 r01_Part_b1
    have hpb := (plc_drop s b hb).1
    by_cases hi : i < b
    · obtain ⟨q1, q2⟩ := plc_at (s := s) (i := i) (by omega)
      have hg := g_size s _ q1
      have hm : plc s (i + 1) ≤ plc s b := plc_mono s (by omega)
      have hm0 : plc s i ≤ plc s b := plc_mono s (by omega)
      have hst : plc s (i + 1) = plc s i + (g s (plc s i)).2 := rfl
      rw [if_pos (decide_eq_true (show (i : Int) < (b : Int) by omega)), at_drop, q2]
      simp only [Option.bind]
      have e1 : wi64 ((pc s (plc s i)).2.1 + (pc s (plc s i)).2.2.1) = (plc s (i + 1) : Int) := by
        show wi64 ((plc s i : Int) + ((g s (plc s i)).2 : Int)) = _
        rw [wi64_id] <;> omega
      rw [e1, show (pc s (plc s i)).2.1 = (plc s i : Int) from rfl, sub_seg (by omega) (by omega)]
      simp only []
      have hsl := seg_len (s := s) (a := plc s i) (b := plc s (i + 1)) (by omega)
      rw [chk_ok (by unfold lim; rw [bytesEl_len, bytesEl_len]; omega), bytesEl_append, show wi64 ((i : Int) + 1) = ((i + 1 : Nat) : Int) by rw [wi64_id] <;> omega]
      simp only []
      rw [ih (i + 1) (out ++ seg s (plc s i) (plc s (i + 1))) (by omega) (by omega) (by rw [List.length_append, hsl]; omega), List.append_assoc, seg_append (by omega) hm]
    · have : i = b := by omega
      subst this
      rw [if_neg (by simp), bytesStr_bytesEl]
      unfold seg
      rw [List.drop_eq_nil_of_le (by rw [List.length_take]; omega), List.append_nil]

/-- What a part is, by both. -/
def partOf (s : List UInt8) (i j : Int) : List UInt8 × Int := if i < 0 ∨ j < i ∨ ((pl s 0).length : Int) < j then ([], 10) else (seg s (plc s i.toNat) (plc s j.toNat), 0)
theorem Part_ok {k : Nat} {s : List UInt8} (hk : 80000 ≤ k) (hs : s.length ≤ 65536) (i j : Int) : runes_Part k s i j = some (partOf s i j) := by
  have hl := pl_len s
  unfold runes_Part partOf
  simp only [Pieces_ok hk hs, Option.bind]
  rw [if_neg (by simp)]
  unfold runes_Part_j1 runes_Part_j2
  by_cases c : i < 0 ∨ j < i ∨ ((pl s 0).length : Int) < j
  · rw [if_pos c, if_pos (by simp only [Bool.or_eq_true, decide_eq_true_eq]; omega)]
  · rw [if_neg c, if_neg (by simp only [Bool.or_eq_true, decide_eq_true_eq]; omega)]
    obtain ⟨a, rfl⟩ : ∃ a : Nat, i = (a : Int) := ⟨i.toNat, by omega⟩
    obtain ⟨b, rfl⟩ : ∃ b : Nat, j = (b : Int) := ⟨j.toNat, by omega⟩
    rw [place_ok (by omega), place_ok (by omega)]
    simp only [Option.bind, Int.toNat_natCast]
    rw [sub_seg (plc_mono s (by omega)) (plc_drop s b (by omega)).1]
theorem refPart_ok {k : Nat} {s : List UInt8} (hk : 80000 ≤ k) (hs : s.length ≤ 65536) (i j : Int) : r01_Part k s i j = some (partOf s i j) := by
  have hl := pl_len s
  unfold r01_Part partOf
  simp only [refPieces_ok hk hs, Option.bind]
  rw [if_neg (by simp)]
  unfold r01_Part_j1 r01_Part_j2
  by_cases c : i < 0 ∨ j < i ∨ ((pl s 0).length : Int) < j
  · rw [if_pos c, if_pos (by simp only [Bool.or_eq_true, decide_eq_true_eq]; omega)]
  · rw [if_neg c, if_neg (by simp only [Bool.or_eq_true, decide_eq_true_eq]; omega)]
    obtain ⟨a, rfl⟩ : ∃ a : Nat, i = (a : Int) := ⟨i.toNat, by omega⟩
    obtain ⟨b, rfl⟩ : ∃ b : Nat, j = (b : Int) := ⟨j.toNat, by omega⟩
    have hb := (plc_drop s b (by omega)).1
    have := refPart_l1 hs (b := b) (by omega) k a [] (by omega) (by omega) (by simp only [List.length_nil]; omega)
    have e0 : bytesEl [] = [] := rfl
    rw [e0] at this
    simpa using this

/-- A rune's bytes. -/
def enc (r : Int) : List UInt8 := (Utf8.encode r).data.toList
def encN (c : Nat) : List UInt8 :=
  if c < 128 then [UInt8.ofNat c] else if c < 2048 then [UInt8.ofNat (192 + c / 64), UInt8.ofNat (128 + c % 64)]
  else if c < 65536 then [UInt8.ofNat (224 + c / 4096), UInt8.ofNat (128 + c / 64 % 64), UInt8.ofNat (128 + c % 64)]
  else [UInt8.ofNat (240 + c / 262144), UInt8.ofNat (128 + c / 4096 % 64), UInt8.ofNat (128 + c / 64 % 64), UInt8.ofNat (128 + c % 64)]
theorem enc_eq (r : Int) : enc r = encN (if Utf8.valid r then r.toNat else 65533) := by
  have key : ∀ c : Nat, (if c < 128 then (⟨#[UInt8.ofNat c]⟩ : ByteArray) else if c < 2048 then ⟨#[UInt8.ofNat (192 + c / 64), UInt8.ofNat (128 + c % 64)]⟩
      else if c < 65536 then ⟨#[UInt8.ofNat (224 + c / 4096), UInt8.ofNat (128 + c / 64 % 64), UInt8.ofNat (128 + c % 64)]⟩
      else ⟨#[UInt8.ofNat (240 + c / 262144), UInt8.ofNat (128 + c / 4096 % 64), UInt8.ofNat (128 + c / 64 % 64), UInt8.ofNat (128 + c % 64)]⟩).data.toList = encN c := by
    intro c
    unfold encN
    repeat' split
    all_goals rfl
  exact key _
theorem encN_len (c : Nat) : (encN c).length ≤ 4 := by
  unfold encN
  repeat' split
  all_goals (simp only [List.length_cons, List.length_nil]; omega)
theorem enc_len (r : Int) : (enc r).length ≤ 4 := by rw [enc_eq]; exact encN_len _

theorem wu8_mod (x : Int) : wu8 x = x % 256 := by
  unfold wu8 IntKind.wrap
  simp [IntKind.bits, IntKind.signed]
theorem tdiv_nat (c d : Nat) : Int.tdiv (c : Int) (d : Int) = ((c / d : Nat) : Int) := by
  rw [Int.tdiv_eq_ediv_of_nonneg (by omega)]
  rfl
theorem tmod_nat (c d : Nat) : Int.tmod (c : Int) (d : Int) = ((c % d : Nat) : Int) := by
  rw [Int.tmod_eq_emod_of_nonneg (by omega)]
  rfl
theorem one_j1 {c : Nat} (h : c ≤ 1114111) : r01_one_j1 (c : Int) = some (bytesEl (encN c)) := by
  have d64 := tdiv_nat c 64
  have d4096 := tdiv_nat c 4096
  have d262144 := tdiv_nat c 262144
  have m64 := tmod_nat c 64
  have w64 : wi32 ((c / 64 : Nat) : Int) = ((c / 64 : Nat) : Int) := by rw [wi32_id] <;> omega
  have w4096 : wi32 ((c / 4096 : Nat) : Int) = ((c / 4096 : Nat) : Int) := by rw [wi32_id] <;> omega
  have w262144 : wi32 ((c / 262144 : Nat) : Int) = ((c / 262144 : Nat) : Int) := by rw [wi32_id] <;> omega
  have m64b := tmod_nat (c / 64) 64
  have m4096 := tmod_nat (c / 4096) 64
  have e1 : ∀ a b : Nat, b ≤ 1000000 → a ≤ 1000 → wi32 ((a : Int) + (b : Int)) = ((a + b : Nat) : Int) := fun a b h1 h2 => by rw [wi32_id] <;> omega
  have el : ∀ n : Nat, ((UInt8.ofNat n).toNat : Int) = (n : Int) % 256 := fun n => by simp
  unfold r01_one_j1 encN
  by_cases c1 : c < 128
  · rw [if_pos (by simp only [decide_eq_true_eq]; omega), if_pos c1]
    simp only [bytesEl, List.map, el, wu8_mod]
  · rw [if_neg (by simp only [decide_eq_true_eq]; omega), if_neg c1]
    by_cases c2 : c < 2048
    · rw [if_pos (by simp only [decide_eq_true_eq]; omega), if_pos c2, chk_ok (by decide)]
      simp only [Option.bind]
      rw [show (64 : Int) = ((64 : Nat) : Int) from rfl, d64, m64, w64, show (192 : Int) = ((192 : Nat) : Int) from rfl, show (128 : Int) = ((128 : Nat) : Int) from rfl, e1 _ _ (by omega) (by omega), e1 _ _ (by omega) (by omega)]
      simp only [bytesEl, List.map, el, wu8_mod]
    · rw [if_neg (by simp only [decide_eq_true_eq]; omega), if_neg c2]
      by_cases c3 : c < 65536
      · rw [if_pos (by simp only [decide_eq_true_eq]; omega), if_pos c3, chk_ok (show (4096 : Int) ≠ 0 by decide), chk_ok (show (64 : Int) ≠ 0 by decide)]
        simp only [Option.bind]
        rw [show (64 : Int) = ((64 : Nat) : Int) from rfl, show (4096 : Int) = ((4096 : Nat) : Int) from rfl, d64, d4096, m64, w64, w4096, m64b, show (224 : Int) = ((224 : Nat) : Int) from rfl, show (128 : Int) = ((128 : Nat) : Int) from rfl, e1 _ _ (by omega) (by omega), e1 _ _ (by omega) (by omega), e1 _ _ (by omega) (by omega)]
        simp only [bytesEl, List.map, el, wu8_mod]
      · rw [if_neg (by simp only [decide_eq_true_eq]; omega), if_neg c3, chk_ok (show (262144 : Int) ≠ 0 by decide), chk_ok (show (4096 : Int) ≠ 0 by decide), chk_ok (show (64 : Int) ≠ 0 by decide)]
        simp only [Option.bind]
        rw [show (64 : Int) = ((64 : Nat) : Int) from rfl, show (4096 : Int) = ((4096 : Nat) : Int) from rfl, show (262144 : Int) = ((262144 : Nat) : Int) from rfl, d64, d4096, d262144, m64, w64, w4096, w262144, m64b, m4096, show (240 : Int) = ((240 : Nat) : Int) from rfl, show (128 : Int) = ((128 : Nat) : Int) from rfl, e1 _ _ (by omega) (by omega), e1 _ _ (by omega) (by omega), e1 _ _ (by omega) (by omega), e1 _ _ (by omega) (by omega)]
        simp only [bytesEl, List.map, el, wu8_mod]
theorem Rune_valid (k : Nat) (r : Int) : r01_Rune k r = some (Utf8.valid r) := by
  unfold r01_Rune r01_Rune_j1 r01_Rune_j3 r01_Rune_j2 Utf8.valid
  by_cases c : 0 ≤ r ∧ r ≤ 1114111
  · rw [if_pos (by simpa using c)]
    congr 1
    rw [Bool.eq_iff_iff]
    simp
    omega
  · rw [if_neg (by simpa using c)]
    congr 1
    rw [Bool.eq_iff_iff]
    simp
    omega
theorem one_ok (k : Nat) (r : Int) : r01_one k r = some (bytesEl (enc r)) := by
  unfold r01_one
  rw [Rune_valid, enc_eq]
  simp only [Option.bind]
  cases hv : Utf8.valid r with
  | false =>
    rw [if_pos (by rfl), if_neg (by decide)]
    exact one_j1 (c := 65533) (by omega)
  | true =>
    rw [if_neg (by decide), if_pos (by rfl)]
    have h : 0 ≤ r ∧ r ≤ 1114111 := by
      unfold Utf8.valid at hv
      simp at hv
      omega
    obtain ⟨c, rfl⟩ : ∃ c : Nat, r = (c : Int) := ⟨r.toNat, by omega⟩
    rw [Int.toNat_natCast]
    exact one_j1 (by omega)

/-- The bytes of the pieces' runes. -/
def ebs (l : List (Int × Int × Int × Bool × Unit)) : List UInt8 := l.flatMap fun x => enc x.1
theorem ebs_len (l : List (Int × Int × Int × Bool × Unit)) : (ebs l).length ≤ 4 * l.length := by
  induction l with
  | nil => simp [ebs]
  | cons x l ih =>
    have h1 : ebs (x :: l) = enc x.1 ++ ebs l := by simp [ebs]
    have h2 := enc_len x.1
    rw [h1, List.length_append, List.length_cons]
    omega
theorem refBack_l1 {k : Nat} {v : List (Int × Int × Int × Bool × Unit)} (hv : v.length ≤ 200000) : ∀ n i (out : List UInt8), i ≤ v.length → v.length - i < n → out.length + 4 * (v.length - i) ≤ 1000000 → r01_Back_l1 k (v, 0) n (i : Int) (bytesEl out) = some (out ++ ebs (v.drop i), 0) := by
  intro n
  induction n with
  | zero => intro i out _ h; omega
  | succ n ih =>
    intro i out h1 h2 h3
    unfold r01_Back_l1 r01_Back_b1
    by_cases hi : i < v.length
    · have hel := enc_len v[i].1
      rw [if_pos (decide_eq_true (show (i : Int) < (v.length : Int) by omega)), at_drop, List.getElem?_eq_getElem hi]
      simp only [Option.bind, one_ok]
      rw [chk_ok (by unfold lim; rw [bytesEl_len, bytesEl_len]; omega), bytesEl_append, show wi64 ((i : Int) + 1) = ((i + 1 : Nat) : Int) by rw [wi64_id] <;> omega]
      simp only []
      rw [ih (i + 1) (out ++ enc v[i].1) (by omega) (by omega) (by rw [List.length_append]; omega), List.drop_eq_getElem_cons hi, List.append_assoc]
      rfl
    · rw [if_neg (by simp only [decide_eq_true_eq]; omega), List.drop_eq_nil_of_le (by omega), bytesStr_bytesEl]
      simp [ebs]
theorem refBack_ok {k : Nat} {s : List UInt8} (hk : 80000 ≤ k) (hs : s.length ≤ 65536) : r01_Back k s = some (ebs (pl s 0), 0) := by
  have hl := pl_len s
  unfold r01_Back
  simp only [refPieces_ok hk hs, Option.bind]
  rw [if_neg (by simp)]
  have := refBack_l1 (k := k) (v := pl s 0) (by omega) k 0 [] (by omega) (by omega) (by simp only [List.length_nil]; omega)
  simpa [bytesEl] using this

theorem runesAt_pl (s : List UInt8) : ∀ n p, p ≤ s.length → s.length - p ≤ n → runesAt s n p = (pl s p).map (·.1) := by
  intro n
  induction n with
  | zero =>
    intro p h1 h2
    rw [pl_nil (p := p) (by omega)]
    rfl
  | succ n ih =>
    intro p h1 h2
    unfold runesAt
    by_cases hp : p < s.length
    · have hg := g_size s p hp
      have e := decode_g s p
      have e' : Utf8.decode (bytesOf s) p = g s p := e
      rw [if_pos hp, e', ih _ hg.2.1 (by omega), pl_cons hp]
      rfl
    · rw [if_neg hp, pl_nil hp]
      rfl
theorem strRunes_pl (s : List UInt8) : strRunes s = (pl s 0).map (·.1) := runesAt_pl s _ 0 (by omega) (by omega)
theorem runesStr_enc (xs : List Int) : runesStr xs = xs.flatMap enc := by
  have key : ∀ (xs : List Int) (a : List UInt8), (xs.foldl (fun r n => r ++ Utf8.encode n) (bytesOf a)) = bytesOf (a ++ xs.flatMap enc) := by
    intro xs
    induction xs with
    | nil => intro a; simp
    | cons x xs ih =>
      intro a
      rw [List.foldl_cons]
      have e : Utf8.encode x = bytesOf (enc x) := by unfold enc bytesOf; simp
      rw [e, bytesOf_append, ih]
      simp
  have h := key xs []
  unfold runesStr runesBytes
  have e0 : ByteArray.empty = bytesOf [] := rfl
  rw [e0, h]
  simp [bytesOf]
theorem runesStr_pl (s : List UInt8) : runesStr (strRunes s) = ebs (pl s 0) := by
  rw [runesStr_enc, strRunes_pl]
  simp [ebs, List.flatMap_map]
theorem Back_ok {k : Nat} {s : List UInt8} (hs : s.length ≤ 65536) : runes_Back k s = some (ebs (pl s 0), 0) := by
  have hl := pl_len s
  have he := ebs_len (pl s 0)
  unfold runes_Back
  simp only [long_ok hs, Option.bind]
  rw [if_neg (by simp), chk_ok (by unfold lim; omega)]
  simp only [runesStr_pl]
  rw [chk_ok (by unfold lim; omega)]

theorem Same_l1 {v : List (Int × Int × Int × Bool × Unit)} (hv : v.length ≤ 200000) : ∀ n i, i ≤ v.length → v.length - i < n → r01_Same_l1 v v n (i : Int) = some true := by
  intro n
  induction n with
  | zero => intro i _ h; omega
  | succ n ih =>
    intro i h1 h2
    unfold r01_Same_l1 r01_Same_b1
    by_cases hi : i < v.length
    · rw [if_pos (decide_eq_true (show (i : Int) < (v.length : Int) by omega)), at_drop, List.getElem?_eq_getElem hi]
      simp only [Option.bind]
      rw [if_neg (by simp [eqInt, eqBool]), show wi64 ((i : Int) + 1) = ((i + 1 : Nat) : Int) by rw [wi64_id] <;> omega]
      exact ih _ (by omega) (by omega)
    · rw [if_neg (by simp only [decide_eq_true_eq]; omega)]
theorem Same_ok {k : Nat} {v : List (Int × Int × Int × Bool × Unit)} (hv : v.length ≤ 65536) (hk : 80000 ≤ k) : r01_Same k v v = some true := by
  unfold r01_Same
  rw [if_neg (by simp)]
  exact Same_l1 (by omega) k 0 (by omega) (by omega)

theorem RunesTexts_l1 {k : Nat} {s : List UInt8} {c : List (Int × Int × Int × Bool × Unit)} {e : Int} (hp : runes_Pieces_i1 k s = some (e, c)) (hk : 80000 ≤ k) (hc : c.length ≤ 65536) :
    ∀ n i (t : List (Int × Int × Int × Bool × Unit)), i ≤ t.length → t.length - i < n → t.length ≤ 200000 → l01_RunesTexts_l1 k s (c, e) n (i : Int) t = some true := by
  intro n
  induction n with
  | zero => intro i t _ h; omega
  | succ n ih =>
    intro i t h1 h2 h3
    unfold l01_RunesTexts_l1 l01_RunesTexts_b1
    by_cases hi : i < t.length
    · rw [if_pos (decide_eq_true (show (i : Int) < (t.length : Int) by omega)), at_drop, List.getElem?_eq_getElem hi]
      simp only [Option.bind]
      rw [show wi64 ((i : Int) + 1) = ((i + 1 : Nat) : Int) by rw [wi64_id] <;> omega]
      exact ih _ _ (by rw [List.length_set]; omega) (by rw [List.length_set]; omega) (by rw [List.length_set]; omega)
    · rw [if_neg (by simp only [decide_eq_true_eq]; omega)]
      simp only [hp, Option.bind, beq_self_eq_true, if_true, Same_ok hc hk, l01_RunesTexts_j10]
theorem RunesTexts_true {k : Nat} (hk : 80000 ≤ k) (s : List UInt8) (i j : Int) : l01_RunesTexts k s i j = some true := by
  unfold l01_RunesTexts l01_long l01_long_j1 l01_long_j2
  simp only [Option.bind]
  by_cases h1 : s.length ≤ 3000
  · have hl := pl_len s
    have d : ((decide ((3000 : Int) < (s.length : Int)) && decide ((s.length : Int) ≤ 65536)) || decide ((66000 : Int) < (s.length : Int))) = false := by simp; omega
    have hs : s.length ≤ 65536 := by omega
    rw [d, if_neg (by decide)]
    simp only [Pieces_i1_ok hk hs, refPieces_ok hk hs, Len_ok hk hs, refLen_ok hk hs, Broken_ok hk hs, refBroken_ok hk hs, Part_ok hk hs, refPart_ok hk hs, Back_ok hs, refBack_ok hk hs]
    simp only [l01_RunesTexts_j1, l01_RunesTexts_j2, l01_RunesTexts_j3, l01_RunesTexts_j4, l01_RunesTexts_j5, l01_RunesTexts_j6, l01_RunesTexts_j7, l01_RunesTexts_j8, l01_RunesTexts_j9, bne_self_eq_false, Bool.or_false, beq_self_eq_true, Bool.not_true, Bool.false_eq_true, if_false]
    rw [Same_ok (by omega) hk]
    simp only [Option.bind, Bool.not_true, Bool.false_eq_true, if_false]
    exact RunesTexts_l1 (Pieces_i1_ok hk hs) hk (by omega) k 0 _ (by omega) (by omega) (by omega)
  · by_cases h2 : s.length ≤ 65536 ∨ 66000 < s.length
    · have d : ((decide ((3000 : Int) < (s.length : Int)) && decide ((s.length : Int) ≤ 65536)) || decide ((66000 : Int) < (s.length : Int))) = true := by simp; omega
      rw [d, if_pos rfl]
    · have d : ((decide ((3000 : Int) < (s.length : Int)) && decide ((s.length : Int) ≤ 65536)) || decide ((66000 : Int) < (s.length : Int))) = false := by simp; omega
      have hs : 65536 < s.length := by omega
      rw [d, if_neg (by decide)]
      have p1 : runes_Pieces_i1 k s = some (3, []) := by unfold runes_Pieces_i1; rw [long_no hs]; rfl
      have p2 : r01_Pieces k s = some ([], 3) := by unfold r01_Pieces; rw [if_pos (by simp only [decide_eq_true_eq]; omega)]
      have p3 : runes_Pieces k s = some ([], 3) := by unfold runes_Pieces; rw [long_no hs]; rfl
      have p4 : runes_Len k s = some (0, 3) := by unfold runes_Len; rw [long_no hs]; rfl
      have p5 : r01_Len k s = some (0, 3) := by unfold r01_Len; rw [p2]; rfl
      have p6 : runes_Broken k s = some (0, 3) := by unfold runes_Broken; rw [long_no hs]; rfl
      have p7 : r01_Broken k s = some (0, 3) := by unfold r01_Broken; rw [p2]; rfl
      have p8 : runes_Part k s i j = some ([], 3) := by unfold runes_Part; rw [p3]; rfl
      have p9 : r01_Part k s i j = some ([], 3) := by unfold r01_Part; rw [p2]; rfl
      have p10 : runes_Back k s = some ([], 3) := by unfold runes_Back; rw [long_no hs]; rfl
      have p11 : r01_Back k s = some ([], 3) := by unfold r01_Back; rw [p2]; rfl
      simp only [p1, p2, p4, p5, p6, p7, p8, p9, p10, p11]
      simp only [l01_RunesTexts_j1, l01_RunesTexts_j2, l01_RunesTexts_j3, l01_RunesTexts_j4, l01_RunesTexts_j5, l01_RunesTexts_j6, l01_RunesTexts_j7, l01_RunesTexts_j8, l01_RunesTexts_j9, bne_self_eq_false, Bool.or_false, beq_self_eq_true, Bool.not_true, Bool.false_eq_true, if_false]
      rw [Same_ok (by simp only [List.length_nil]; omega) hk]
      simp only [Option.bind, Bool.not_true, Bool.false_eq_true, if_false]
      exact RunesTexts_l1 p1 hk (by simp only [List.length_nil]; omega) k 0 _ (by omega) (by simp only [List.length_nil]; omega) (by simp only [List.length_nil]; omega)
def K_RunesTexts : Nat := 80000
theorem RunesTexts_true' (s : List UInt8) (i j : Int) : l01_RunesTexts K_RunesTexts s i j = some true := RunesTexts_true (by unfold K_RunesTexts; omega) s i j
end Go.Ev
