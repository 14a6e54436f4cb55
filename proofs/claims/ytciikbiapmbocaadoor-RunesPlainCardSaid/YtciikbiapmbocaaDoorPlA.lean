/- Plain laws about runes: the reference's way and the library's way read the same. -/
import Derived.Test.YtciikbiapmbocaaDoorShRu1
import Derived.Lib.DecodeN
namespace Go.Ev
open Go
set_option linter.unusedVariables false

theorem wi64_id {x : Int} (h1 : -9223372036854775808 ≤ x) (h2 : x < 9223372036854775808) : wi64 x = x := by
  unfold wi64 IntKind.wrap
  simp [IntKind.bits, IntKind.signed]
  omega
theorem wi32_id {x : Int} (h1 : -2147483648 ≤ x) (h2 : x < 2147483648) : wi32 x = x := by
  unfold wi32 IntKind.wrap
  simp [IntKind.bits, IntKind.signed]
  omega
theorem wu8_id {x : Int} (h1 : 0 ≤ x) (h2 : x < 256) : wu8 x = x := by
  unfold wu8 IntKind.wrap
  simp [IntKind.bits, IntKind.signed]
  omega

def gb (s : List UInt8) (i : Nat) : Nat := (s.getD i 0).toNat
theorem gb_lt (s : List UInt8) (i : Nat) : gb s i < 256 := UInt8.toNat_lt _
theorem byteAt_gb {s : List UInt8} {i : Nat} (h : i < s.length) : byteAt s (i : Int) = some (gb s i : Int) := by
  unfold byteAt at? gb
  simp [h]
/-- The rune at place i, and its size. -/
def g (s : List UInt8) (i : Nat) : Nat × Nat := Lib.decodeN (s.length - i) (gb s i) (gb s (i + 1)) (gb s (i + 2)) (gb s (i + 3))
def bad (s : List UInt8) (i : Nat) : Bool := decide ((g s i).1 = 65533) && decide ((g s i).2 = 1)

theorem decode_g (s : List UInt8) (i : Nat) : Utf8.decode ⟨s.toArray⟩ i = g s i := by
  rw [Lib.decode_at]
  have e : ∀ j, (ByteArray.get! ⟨s.toArray⟩ j).toNat = gb s j := by
    intro j
    unfold gb ByteArray.get!
    show (s.toArray[j]!).toNat = _
    by_cases hj : j < s.length
    · simp [hj]
    · simp [hj, List.getD_eq_getElem?_getD]
      rfl
  simp only [e]
  rfl

theorem g_size (s : List UInt8) (i : Nat) (h : i < s.length) : 1 ≤ (g s i).2 ∧ i + (g s i).2 ≤ s.length ∧ (g s i).2 ≤ 4 := by
  unfold g Lib.decodeN
  repeat' split
  all_goals simp only; omega
theorem g_rune (s : List UInt8) (i : Nat) : (g s i).1 ≤ 1114111 := by
  have h0 := gb_lt s i; have h1 := gb_lt s (i + 1); have h2 := gb_lt s (i + 2); have h3 := gb_lt s (i + 3)
  unfold g Lib.decodeN
  repeat' split
  all_goals simp only; omega

theorem byteAt_at {s : List UInt8} {i : Int} {n : Nat} (e : i = (n : Int)) (h : n < s.length) : byteAt s i = some (gb s n : Int) := by
  subst e; exact byteAt_gb h

/-- The tail of the reference's loop, one step at a time. -/
theorem At_step {k : Nat} {s : List UInt8} {at1 : Nat} {long : Int} {n : Nat} {r : Int} {i : Nat} (hi : (i : Int) < long) (hl : at1 + i < s.length) (hs : s.length ≤ 65536) (hr : 0 ≤ r) (hr2 : r < 2097152) :
    r01_At_l1 k long s (at1 : Int) (n + 1) r (i : Int) =
      if gb s (at1 + i) / 64 = 2 then r01_At_l1 k long s (at1 : Int) n (64 * r + (gb s (at1 + i) - 128 : Int)) ((i + 1 : Nat) : Int) else some ((65533 : Int), (at1 : Int), (1 : Int), true, ()) := by
  have hb := gb_lt s (at1 + i)
  have e1 : wi64 ((at1 : Int) + (i : Int)) = ((at1 + i : Nat) : Int) := by rw [wi64_id] <;> omega
  conv => lhs; unfold r01_At_l1 r01_At_b1
  rw [if_pos (by simpa using hi)]
  simp only [e1, byteAt_at rfl hl, Option.bind, r01_tail, r01_tail_j1]
  by_cases hc : gb s (at1 + i) / 64 = 2
  · have hd : (decide ((128 : Int) ≤ (gb s (at1 + i) : Int)) && decide ((gb s (at1 + i) : Int) < 192)) = true := by simp; omega
    rw [hd, if_pos hc]
    simp only [Bool.not_true, Bool.false_eq_true, if_false]
    have a1 : wu8 ((gb s (at1 + i) : Int) - 128) = (gb s (at1 + i) : Int) - 128 := by rw [wu8_id] <;> omega
    have a2 : wi32 ((gb s (at1 + i) : Int) - 128) = (gb s (at1 + i) : Int) - 128 := by rw [wi32_id] <;> omega
    have a3 : wi32 ((64 : Int) * r) = 64 * r := by rw [wi32_id] <;> omega
    have a4 : wi32 (64 * r + ((gb s (at1 + i) : Int) - 128)) = 64 * r + ((gb s (at1 + i) : Int) - 128) := by rw [wi32_id] <;> omega
    have a5 : wi64 ((i : Int) + 1) = ((i + 1 : Nat) : Int) := by rw [wi64_id] <;> omega
    rw [a1, a2, a3, a4, a5]
  · have hd : (decide ((128 : Int) ≤ (gb s (at1 + i) : Int)) && decide ((gb s (at1 + i) : Int) < 192)) = false := by
      simp only [Bool.and_eq_false_iff, decide_eq_false_iff_not]; omega
    rw [hd, if_neg hc]
    simp

def pc (s : List UInt8) (i : Nat) : Int × Int × Int × Bool × Unit := (((g s i).1 : Int), (i : Int), ((g s i).2 : Int), bad s i, ())

theorem At_fin {k : Nat} {at1 long r : Nat} (m : Nat) (M : Int) (hM : M = (m : Int)) : (if decide ((r : Int) < M) then r01_At_j3 (at1 : Int) (r : Int) (long : Int) true else (Option.bind (r01_Rune k (r : Int)) fun v2 => r01_At_j3 (at1 : Int) (r : Int) (long : Int) (!v2))) =
      if m ≤ r ∧ (r < 55296 ∨ (57344 ≤ r ∧ r ≤ 1114111)) then some ((r : Int), (at1 : Int), (long : Int), false, ()) else some ((65533 : Int), (at1 : Int), (1 : Int), true, ()) := by
  subst hM
  simp only [r01_Rune, r01_Rune_j1, r01_Rune_j2, r01_Rune_j3, r01_At_j3, Option.bind]
  by_cases h1 : r < m
  · rw [if_pos (by simpa using h1), if_neg (show ¬ (m ≤ r ∧ (r < 55296 ∨ (57344 ≤ r ∧ r ≤ 1114111))) by omega)]; simp
  · rw [if_neg (by simpa using h1)]
    by_cases h2 : r ≤ 1114111
    · have d1 : (decide ((0 : Int) ≤ (r : Int)) && decide ((r : Int) ≤ 1114111)) = true := by simp; omega
      rw [d1]
      simp only [if_true]
      by_cases h3 : r < 55296 ∨ 57344 ≤ r
      · have d2 : (decide ((r : Int) < 55296) || decide ((57343 : Int) < (r : Int))) = true := by simp; omega
        rw [d2, if_pos (show (m ≤ r ∧ (r < 55296 ∨ (57344 ≤ r ∧ r ≤ 1114111))) by omega)]; simp
      · have d2 : (decide ((r : Int) < 55296) || decide ((57343 : Int) < (r : Int))) = false := by simp only [Bool.or_eq_false_iff, decide_eq_false_iff_not]; omega
        rw [d2, if_neg (show ¬ (m ≤ r ∧ (r < 55296 ∨ (57344 ≤ r ∧ r ≤ 1114111))) by omega)]; simp
    · have d1 : (decide ((0 : Int) ≤ (r : Int)) && decide ((r : Int) ≤ 1114111)) = false := by simp only [Bool.and_eq_false_iff, decide_eq_false_iff_not]; omega
      rw [d1, if_neg (show ¬ (m ≤ r ∧ (r < 55296 ∨ (57344 ≤ r ∧ r ≤ 1114111))) by omega)]
      simp

theorem least_at : ∀ (long m0 : Nat), (long = 2 ∧ m0 = 128) ∨ (long = 3 ∧ m0 = 2048) ∨ (long = 4 ∧ m0 = 65536) →
    at? ([(0 : Int), (0 : Int), (128 : Int), (2048 : Int), (65536 : Int)] : List Int) (long : Int) = some (m0 : Int) := by
  intro long m0 hl
  have h1 : (0 : Int) ≤ (long : Int) := by omega
  unfold at?
  rw [if_pos h1, Int.toNat_natCast]
  rcases hl with ⟨e, f⟩ | ⟨e, f⟩ | ⟨e, f⟩
  · rw [e, f]; rfl
  · rw [e, f]; rfl
  · rw [e, f]; rfl
/-- The tail of the reference's loop, at its end. -/
theorem At_end {k : Nat} {s : List UInt8} {at1 : Nat} {long : Nat} {n : Nat} {r : Nat} (m0 : Nat) (hl : (long = 2 ∧ m0 = 128) ∨ (long = 3 ∧ m0 = 2048) ∨ (long = 4 ∧ m0 = 65536)) :
    r01_At_l1 k (long : Int) s (at1 : Int) (n + 1) (r : Int) (long : Int) =
      if m0 ≤ r ∧ (r < 55296 ∨ (57344 ≤ r ∧ r ≤ 1114111)) then some ((r : Int), (at1 : Int), (long : Int), false, ()) else some ((65533 : Int), (at1 : Int), (1 : Int), true, ()) := by
  have e := least_at long m0 hl
  conv => lhs; unfold r01_At_l1 r01_At_b1
  rw [if_neg (by simp)]
  rw [e]
  exact At_fin m0 (m0 : Int) rfl

set_option maxHeartbeats 1000000 in
theorem At_eq {k : Nat} {s : List UInt8} {i : Nat} (hk : 6 ≤ k) (h : i < s.length) (hs : s.length ≤ 65536) : r01_At k s (i : Int) = some (pc s i) := by
  have h0 := gb_lt s i; have h1 := gb_lt s (i + 1); have h2 := gb_lt s (i + 2); have h3 := gb_lt s (i + 3)
  obtain ⟨n, rfl⟩ : ∃ n, k = n + 6 := ⟨k - 6, by omega⟩
  have bd : ∀ (a b : Nat) (c : Bool), g s i = (a, b) → (c = true ↔ (a = 65533 ∧ b = 1)) → (some ((a : Int), (i : Int), (b : Int), c, ()) : Option (Int × Int × Int × Bool × Unit)) = some (pc s i) := by
    intro a b c e hc
    unfold pc bad
    rw [e]
    have : c = (decide (a = 65533) && decide (b = 1)) := by rw [Bool.eq_iff_iff, hc]; simp
    rw [this]
  have bd1 : g s i = (65533, 1) → (some ((65533 : Int), (i : Int), (1 : Int), true, ()) : Option (Int × Int × Int × Bool × Unit)) = some (pc s i) := fun e => bd 65533 1 true e (by simp)
  unfold r01_At
  simp only [byteAt_at rfl h, Option.bind]
  by_cases c1 : gb s i < 128
  · rw [if_pos (decide_eq_true (show (gb s i : Int) < 128 by omega)), wi32_id (by omega) (by omega)]
    exact bd (gb s i) 1 false (by unfold g Lib.decodeN; rw [if_pos c1]) ⟨fun h => (by cases h), fun h => (by exfalso; omega)⟩
  rw [if_neg (by simp only [decide_eq_true_eq]; omega)]
  unfold r01_At_j4
  by_cases c2 : gb s i / 32 = 6
  · have d : (decide ((192 : Int) ≤ (gb s i : Int)) && decide ((gb s i : Int) < 224)) = true := by simp; omega
    have a1 : wu8 ((gb s i : Int) - 192) = (gb s i : Int) - 192 := by rw [wu8_id] <;> omega
    have a2 : wi32 ((gb s i : Int) - 192) = ((gb s i - 192 : Nat) : Int) := by rw [wi32_id] <;> omega
    rw [d, if_pos rfl, a1, a2]
    unfold r01_At_j1 r01_At_j2
    have a3 : wi64 ((i : Int) + 2) = ((i + 2 : Nat) : Int) := by rw [wi64_id] <;> omega
    rw [a3]
    by_cases c3 : i + 1 < s.length
    · have d : ((2 : Int) == 0 || decide ((s.length : Int) < ((i + 2 : Nat) : Int))) = false := by simp; omega
      rw [d, if_neg (by simp), show (1 : Int) = ((1 : Nat) : Int) from rfl, At_step (by omega) c3 hs (by omega) (by omega)]
      by_cases c4 : gb s (i + 1) / 64 = 2
      · rw [if_pos c4]
        have e : (64 * ((gb s i - 192 : Nat) : Int) + ((gb s (i + 1) : Int) - 128)) = ((gb s i % 32 * 64 + gb s (i + 1) % 64 : Nat) : Int) := by omega
        rw [e, show (2 : Int) = ((2 : Nat) : Int) from rfl, At_end 128 (.inl ⟨rfl, rfl⟩)]
        by_cases c5 : 128 ≤ gb s i % 32 * 64 + gb s (i + 1) % 64
        · rw [if_pos ⟨c5, by omega⟩]
          exact bd _ 2 false (by unfold g Lib.decodeN; rw [if_neg c1, if_pos ⟨c2, by omega, c4⟩, if_pos c5]) ⟨fun h => (by cases h), fun h => (by exfalso; omega)⟩
        · rw [if_neg (by omega)]
          exact bd1 (by unfold g Lib.decodeN; rw [if_neg c1, if_pos ⟨c2, by omega, c4⟩, if_neg (by omega)])
      · rw [if_neg c4]
        exact bd1 (by unfold g Lib.decodeN; rw [if_neg c1, if_neg (by omega), if_neg (by omega), if_neg (by omega)])
    · have d : ((2 : Int) == 0 || decide ((s.length : Int) < ((i + 2 : Nat) : Int))) = true := by simp; omega
      rw [d, if_pos rfl]
      exact bd1 (by unfold g Lib.decodeN; rw [if_neg c1, if_neg (by omega), if_neg (by omega), if_neg (by omega)])
  have d : (decide ((192 : Int) ≤ (gb s i : Int)) && decide ((gb s i : Int) < 224)) = false := by simp only [Bool.and_eq_false_iff, decide_eq_false_iff_not]; omega
  rw [d, if_neg (by simp)]
  unfold r01_At_j5
  by_cases c3 : gb s i / 16 = 14
  · have d : (decide ((224 : Int) ≤ (gb s i : Int)) && decide ((gb s i : Int) < 240)) = true := by simp; omega
    have a1 : wu8 ((gb s i : Int) - 224) = (gb s i : Int) - 224 := by rw [wu8_id] <;> omega
    have a2 : wi32 ((gb s i : Int) - 224) = ((gb s i - 224 : Nat) : Int) := by rw [wi32_id] <;> omega
    rw [d, if_pos rfl, a1, a2]
    unfold r01_At_j1 r01_At_j2
    have a3 : wi64 ((i : Int) + 3) = ((i + 3 : Nat) : Int) := by rw [wi64_id] <;> omega
    rw [a3]
    by_cases c4 : i + 2 < s.length
    · have d : ((3 : Int) == 0 || decide ((s.length : Int) < ((i + 3 : Nat) : Int))) = false := by simp; omega
      rw [d, if_neg (by simp), show (1 : Int) = ((1 : Nat) : Int) from rfl, At_step (by omega) (by omega) hs (by omega) (by omega)]
      by_cases c5 : gb s (i + 1) / 64 = 2
      · rw [if_pos c5, At_step (by omega) (by omega) hs (by omega) (by omega)]
        by_cases c6 : gb s (i + (1 + 1)) / 64 = 2
        · have c6' : gb s (i + 2) / 64 = 2 := c6
          rw [if_pos c6]
          have e : (64 * (64 * ((gb s i - 224 : Nat) : Int) + ((gb s (i + 1) : Int) - 128)) + ((gb s (i + (1 + 1)) : Int) - 128)) = ((gb s i % 16 * 4096 + gb s (i + 1) % 64 * 64 + gb s (i + 2) % 64 : Nat) : Int) := by
            show (64 * (64 * ((gb s i - 224 : Nat) : Int) + ((gb s (i + 1) : Int) - 128)) + ((gb s (i + 2) : Int) - 128)) = _
            omega
          rw [e, show (3 : Int) = ((1 + 1 + 1 : Nat) : Int) from rfl, At_end 2048 (.inr (.inl ⟨rfl, rfl⟩))]
          by_cases c7 : 2048 ≤ gb s i % 16 * 4096 + gb s (i + 1) % 64 * 64 + gb s (i + 2) % 64 ∧ (gb s i % 16 * 4096 + gb s (i + 1) % 64 * 64 + gb s (i + 2) % 64 < 55296 ∨ (57344 ≤ gb s i % 16 * 4096 + gb s (i + 1) % 64 * 64 + gb s (i + 2) % 64 ∧ gb s i % 16 * 4096 + gb s (i + 1) % 64 * 64 + gb s (i + 2) % 64 ≤ 1114111))
          · rw [if_pos c7]
            exact bd _ 3 false (by unfold g Lib.decodeN; rw [if_neg c1, if_neg (by omega), if_pos ⟨c3, ⟨by omega, c5⟩, by omega, c6'⟩, if_pos c7]) ⟨fun h => (by cases h), fun h => (by exfalso; omega)⟩
          · rw [if_neg c7]
            exact bd1 (by unfold g Lib.decodeN; rw [if_neg c1, if_neg (by omega), if_pos ⟨c3, ⟨by omega, c5⟩, by omega, c6'⟩, if_neg c7])
        · have c6' : ¬ gb s (i + 2) / 64 = 2 := c6
          rw [if_neg c6]
          exact bd1 (by unfold g Lib.decodeN; rw [if_neg c1, if_neg (by omega), if_neg (by omega), if_neg (by omega)])
      · rw [if_neg c5]
        exact bd1 (by unfold g Lib.decodeN; rw [if_neg c1, if_neg (by omega), if_neg (by omega), if_neg (by omega)])
    · have d : ((3 : Int) == 0 || decide ((s.length : Int) < ((i + 3 : Nat) : Int))) = true := by simp; omega
      rw [d, if_pos rfl]
      exact bd1 (by unfold g Lib.decodeN; rw [if_neg c1, if_neg (by omega), if_neg (by omega), if_neg (by omega)])
  have d : (decide ((224 : Int) ≤ (gb s i : Int)) && decide ((gb s i : Int) < 240)) = false := by simp only [Bool.and_eq_false_iff, decide_eq_false_iff_not]; omega
  rw [d, if_neg (by simp)]
  unfold r01_At_j6
  by_cases c4 : gb s i / 8 = 30
  · have d : (decide ((240 : Int) ≤ (gb s i : Int)) && decide ((gb s i : Int) < 248)) = true := by simp; omega
    have a1 : wu8 ((gb s i : Int) - 240) = (gb s i : Int) - 240 := by rw [wu8_id] <;> omega
    have a2 : wi32 ((gb s i : Int) - 240) = ((gb s i - 240 : Nat) : Int) := by rw [wi32_id] <;> omega
    rw [d, if_pos rfl, a1, a2]
    unfold r01_At_j1 r01_At_j2
    have a3 : wi64 ((i : Int) + 4) = ((i + 4 : Nat) : Int) := by rw [wi64_id] <;> omega
    rw [a3]
    by_cases c5 : i + 3 < s.length
    · have d : ((4 : Int) == 0 || decide ((s.length : Int) < ((i + 4 : Nat) : Int))) = false := by simp; omega
      rw [d, if_neg (by simp), show (1 : Int) = ((1 : Nat) : Int) from rfl, At_step (by omega) (by omega) hs (by omega) (by omega)]
      by_cases c6 : gb s (i + 1) / 64 = 2
      · rw [if_pos c6, At_step (by omega) (by omega) hs (by omega) (by omega)]
        by_cases c7 : gb s (i + (1 + 1)) / 64 = 2
        · have c7' : gb s (i + 2) / 64 = 2 := c7
          rw [if_pos c7, At_step (by omega) (by omega) hs (by omega) (by omega)]
          by_cases c8 : gb s (i + (1 + 1 + 1)) / 64 = 2
          · have c8' : gb s (i + 3) / 64 = 2 := c8
            rw [if_pos c8]
            have e : (64 * (64 * (64 * ((gb s i - 240 : Nat) : Int) + ((gb s (i + 1) : Int) - 128)) + ((gb s (i + (1 + 1)) : Int) - 128)) + ((gb s (i + (1 + 1 + 1)) : Int) - 128)) = ((gb s i % 8 * 262144 + gb s (i + 1) % 64 * 4096 + gb s (i + 2) % 64 * 64 + gb s (i + 3) % 64 : Nat) : Int) := by
              show (64 * (64 * (64 * ((gb s i - 240 : Nat) : Int) + ((gb s (i + 1) : Int) - 128)) + ((gb s (i + 2) : Int) - 128)) + ((gb s (i + 3) : Int) - 128)) = _
              omega
            rw [e, show (4 : Int) = ((1 + 1 + 1 + 1 : Nat) : Int) from rfl, At_end 65536 (.inr (.inr ⟨rfl, rfl⟩))]
            by_cases c9 : 65536 ≤ gb s i % 8 * 262144 + gb s (i + 1) % 64 * 4096 + gb s (i + 2) % 64 * 64 + gb s (i + 3) % 64 ∧ (gb s i % 8 * 262144 + gb s (i + 1) % 64 * 4096 + gb s (i + 2) % 64 * 64 + gb s (i + 3) % 64 < 55296 ∨ (57344 ≤ gb s i % 8 * 262144 + gb s (i + 1) % 64 * 4096 + gb s (i + 2) % 64 * 64 + gb s (i + 3) % 64 ∧ gb s i % 8 * 262144 + gb s (i + 1) % 64 * 4096 + gb s (i + 2) % 64 * 64 + gb s (i + 3) % 64 ≤ 1114111))
            · rw [if_pos c9]
              exact bd _ 4 false (by unfold g Lib.decodeN; rw [if_neg c1, if_neg (by omega), if_neg (by omega), if_pos ⟨c4, ⟨by omega, c6⟩, ⟨by omega, c7'⟩, by omega, c8'⟩, if_pos c9]) ⟨fun h => (by cases h), fun h => (by exfalso; omega)⟩
            · rw [if_neg c9]
              exact bd1 (by unfold g Lib.decodeN; rw [if_neg c1, if_neg (by omega), if_neg (by omega), if_pos ⟨c4, ⟨by omega, c6⟩, ⟨by omega, c7'⟩, by omega, c8'⟩, if_neg c9])
          · have c8' : ¬ gb s (i + 3) / 64 = 2 := c8
            rw [if_neg c8]
            exact bd1 (by unfold g Lib.decodeN; rw [if_neg c1, if_neg (by omega), if_neg (by omega), if_neg (by omega)])
        · have c7' : ¬ gb s (i + 2) / 64 = 2 := c7
          rw [if_neg c7]
          exact bd1 (by unfold g Lib.decodeN; rw [if_neg c1, if_neg (by omega), if_neg (by omega), if_neg (by omega)])
      · rw [if_neg c6]
        exact bd1 (by unfold g Lib.decodeN; rw [if_neg c1, if_neg (by omega), if_neg (by omega), if_neg (by omega)])
    · have d : ((4 : Int) == 0 || decide ((s.length : Int) < ((i + 4 : Nat) : Int))) = true := by simp; omega
      rw [d, if_pos rfl]
      exact bd1 (by unfold g Lib.decodeN; rw [if_neg c1, if_neg (by omega), if_neg (by omega), if_neg (by omega)])
  have d : (decide ((240 : Int) ≤ (gb s i : Int)) && decide ((gb s i : Int) < 248)) = false := by simp only [Bool.and_eq_false_iff, decide_eq_false_iff_not]; omega
  rw [d, if_neg (by simp)]
  unfold r01_At_j1 r01_At_j2
  rw [if_pos (by simp)]
  exact bd1 (by unfold g Lib.decodeN; rw [if_neg c1, if_neg (by omega), if_neg (by omega), if_neg (by omega)])
end Go.Ev
