/- Plain laws about runes: the reference's way and the library's way read the same. -/
import Derived.Test.YtciikbiapmbocaaDoorMS1
import Derived.Lib.DecodeN
import GoSem.Claim
namespace Go.Ev
open Go
set_option linter.unusedVariables false

theorem wi64_id {x : Int} (h1 : -9223372036854775808 ≤ x) (h2 : x < 9223372036854775808) : wi64 x = x := by
  unfold wi64 IntKind.wrap
  simp [IntKind.bits, IntKind.signed]
  omega
theorem wi32_id {x : Int} (h1 : -2147483648 ≤ x) (h2 : x < 2147483648) : wi32 x = x := by
  unfold wi32 IntKind.wrap
  simp [IntKind.bits, IntKind.signed]
  omega
theorem wu8_id {x : Int} (h1 : 0 ≤ x) (h2 : x < 256) : wu8 x = x := by
  unfold wu8 IntKind.wrap
  simp [IntKind.bits, IntKind.signed]
  omega

def gb (s : List UInt8) (i : Nat) : Nat := (s.getD i 0).toNat
theorem gb_lt (s : List UInt8) (i : Nat) : gb s i < 256 := UInt8.toNat_lt _
theorem byteAt_gb {s : List UInt8} {i : Nat} (h : i < s.length) : byteAt s (i : Int) = some (gb s i : Int) := by
  unfold byteAt at? gb
  simp [h]
/-- The rune at place i, and its size. -/
def g (s : List UInt8) (i : Nat) : Nat × Nat := Lib.decodeN (s.length - i) (gb s i) (gb s (i + 1)) (gb s (i + 2)) (gb s (i + 3))
def bad (s : List UInt8) (i : Nat) : Bool := decide ((g s i).1 = 65533) && decide ((g s i).2 = 1)

theorem decode_g (s : List UInt8) (i : Nat) : Utf8.decode ⟨s.toArray⟩ i = g s i := by
  rw [Lib.decode_at]
  have e : ∀ j, (ByteArray.get! ⟨s.toArray⟩ j).toNat = gb s j := by
    intro j
    unfold gb ByteArray.get!
    show (s.toArray[j]!).toNat = _
    by_cases hj : j < s.length
    · simp [hj]
    · simp [hj, List.getD_eq_getElem?_getD]
      rfl
  simp only [e]
  rfl

theorem g_size (s : List UInt8) (i : Nat) (h : i < s.length) : 1 ≤ (g s i).2 ∧ i + (g s i).2 ≤ s.length ∧ (g s i).2 ≤ 4 := by
  unfold g Lib.decodeN
  repeat' split
  all_goals simp only; omega
theorem g_rune (s : List UInt8) (i : Nat) : (g s i).1 ≤ 1114111 := by
  have h0 := gb_lt s i; have h1 := gb_lt s (i + 1); have h2 := gb_lt s (i + 2); have h3 := gb_lt s (i + 3)
  unfold g Lib.decodeN
  repeat' split
  all_goals simp only; omega

theorem byteAt_at {s : List UInt8} {i : Int} {n : Nat} (e : i = (n : Int)) (h : n < s.length) : byteAt s i = some (gb s n : Int) := by
  subst e; exact byteAt_gb h

/-- The tail of the reference's loop, one step at a time. -/
theorem At_step {k : Nat} {s : List UInt8} {at1 : Nat} {long : Int} {n : Nat} {r : Int} {i : Nat} (hi : (i : Int) < long) (hl : at1 + i < s.length) (hs : s.length ≤ 65536) (hr : 0 ≤ r) (hr2 : r < 2097152) :
    r01_At_l1 k long s (at1 : Int) (n + 1) r (i : Int) =
      if gb s (at1 + i) / 64 = 2 then r01_At_l1 k long s (at1 : Int) n (64 * r + (gb s (at1 + i) - 128 : Int)) ((i + 1 : Nat) : Int) else some ((65533 : Int), (at1 : Int), (1 : Int), true, ()) := by
  have hb := gb_lt s (at1 + i)
  have e1 : wi64 ((at1 : Int) + (i : Int)) = ((at1 + i : Nat) : Int) := by rw [wi64_id] <;> omega
  conv => lhs; unfold r01_At_l1 r01_At_b1
  rw [if_pos (by simpa using hi)]
  simp only [e1, byteAt_at rfl hl, Option.bind, r01_tail, r01_tail_j1]
  by_cases hc : gb s (at1 + i) / 64 = 2
  · have hd : (decide ((128 : Int) ≤ (gb s (at1 + i) : Int)) && decide ((gb s (at1 + i) : Int) < 192)) = true := by simp; omega
    rw [hd, if_pos hc]
    simp only [Bool.not_true, Bool.false_eq_true, if_false]
    have a1 : wu8 ((gb s (at1 + i) : Int) - 128) = (gb s (at1 + i) : Int) - 128 := by rw [wu8_id] <;> omega
    have a2 : wi32 ((gb s (at1 + i) : Int) - 128) = (gb s (at1 + i) : Int) - 128 := by rw [wi32_id] <;> omega
    have a3 : wi32 ((64 : Int) * r) = 64 * r := by rw [wi32_id] <;> omega
    have a4 : wi32 (64 * r + ((gb s (at1 + i) : Int) - 128)) = 64 * r + ((gb s (at1 + i) : Int) - 128) := by rw [wi32_id] <;> omega
    have a5 : wi64 ((i : Int) + 1) = ((i + 1 : Nat) : Int) := by rw [wi64_id] <;> omega
    rw [a1, a2, a3, a4, a5]
  · have hd : (decide ((128 : Int) ≤ (gb s (at1 + i) : Int)) && decide ((gb s (at1 + i) : Int) < 192)) = false := by
      simp only [Bool.and_eq_false_iff, decide_eq_false_iff_not]; omega
    rw [hd, if_neg hc]
    simp

def pc (s : List UInt8) (i : Nat) : Int × Int × Int × Bool × Unit := (((g s i).1 : Int), (i : Int), ((g s i).2 : Int), bad s i, ())

theorem At_fin {k : Nat} {at1 long r : Nat} (m : Nat) (M : Int) (hM : M = (m : Int)) : (if decide ((r : Int) < M) then r01_At_j3 (at1 : Int) (r : Int) (long : Int) true else (Option.bind (r01_Rune k (r : Int)) fun v2 => r01_At_j3 (at1 : Int) (r : Int) (long : Int) (!v2))) =
      if m ≤ r ∧ (r < 55296 ∨ (57344 ≤ r ∧ r ≤ 1114111)) then some ((r : Int), (at1 : Int), (long : Int), false, ()) else some ((65533 : Int), (at1 : Int), (1 : Int), true, ()) := by
  subst hM
  simp only [r01_Rune, r01_Rune_j1, r01_Rune_j2, r01_Rune_j3, r01_At_j3, Option.bind]
  by_cases h1 : r < m
  · rw [if_pos (by simpa using h1), if_neg (show ¬ (m ≤ r ∧ (r < 55296 ∨ (57344 ≤ r ∧ r ≤ 1114111))) by omega)]; simp
  · rw [if_neg (by simpa using h1)]
    by_cases h2 : r ≤ 1114111
    · have d1 : (decide ((0 : Int) ≤ (r : Int)) && decide ((r : Int) ≤ 1114111)) = true := by simp; omega
      rw [d1]
      simp only [if_true]
      by_cases h3 : r < 55296 ∨ 57344 ≤ r
      · have d2 : (decide ((r : Int) < 55296) || decide ((57343 : Int) < (r : Int))) = true := by simp; omega
        rw [d2, if_pos (show (m ≤ r ∧ (r < 55296 ∨ (57344 ≤ r ∧ r ≤ 1114111))) by omega)]; simp
      · have d2 : (decide ((r : Int) < 55296) || decide ((57343 : Int) < (r : Int))) = false := by simp only [Bool.or_eq_false_iff, decide_eq_false_iff_not]; omega
        rw [d2, if_neg (show ¬ (m ≤ r ∧ (r < 55296 ∨ (57344 ≤ r ∧ r ≤ 1114111))) by omega)]; simp
    · have d1 : (decide ((0 : Int) ≤ (r : Int)) && decide ((r : Int) ≤ 1114111)) = false := by simp only [Bool.and_eq_false_iff, decide_eq_false_iff_not]; omega
      rw [d1, if_neg (show ¬ (m ≤ r ∧ (r < 55296 ∨ (57344 ≤ r ∧ r ≤ 1114111))) by omega)]
      simp

theorem least_at : ∀ (long m0 : Nat), (long = 2 ∧ m0 = 128) ∨ (long = 3 ∧ m0 = 2048) ∨ (long = 4 ∧ m0 = 65536) →
    at? ([(0 : Int), (0 : Int), (128 : Int), (2048 : Int), (65536 : Int)] : List Int) (long : Int) = some (m0 : Int) := by
  intro long m0 hl
  have h1 : (0 : Int) ≤ (long : Int) := by omega
  unfold at?
  rw [if_pos h1, Int.toNat_natCast]
  rcases hl with ⟨e, f⟩ | ⟨e, f⟩ | ⟨e, f⟩
  · rw [e, f]; rfl
  · rw [e, f]; rfl
  · rw [e, f]; rfl
/-- The tail of the reference's loop, at its end. -/
theorem At_end {k : Nat} {s : List UInt8} {at1 : Nat} {long : Nat} {n : Nat} {r : Nat} (m0 : Nat) (hl : (long = 2 ∧ m0 = 128) ∨ (long = 3 ∧ m0 = 2048) ∨ (long = 4 ∧ m0 = 65536)) :
    r01_At_l1 k (long : Int) s (at1 : Int) (n + 1) (r : Int) (long : Int) =
      if m0 ≤ r ∧ (r < 55296 ∨ (57344 ≤ r ∧ r ≤ 1114111)) then some ((r : Int), (at1 : Int), (long : Int), false, ()) else some ((65533 : Int), (at1 : Int), (1 : Int), true, ()) := by
  have e := least_at long m0 hl
  conv => lhs; unfold r01_At_l1 r01_At_b1
  rw [if_neg (by simp)]
  rw [e]
  exact At_fin m0 (m0 : Int) rfl

set_option maxHeartbeats 1000000 in
theorem At_eq {k : Nat} {s : List UInt8} {i : Nat} (hk : 6 ≤ k) (h : i < s.length) (hs : s.length ≤ 65536) : r01_At k s (i : Int) = some (pc s i) := by
  have h0 := gb_lt s i; have h1 := gb_lt s (i + 1); have h2 := gb_lt s (i + 2); have h3 := gb_lt s (i + 3)
  obtain ⟨n, rfl⟩ : ∃ n, k = n + 6 := ⟨k - 6, by omega⟩
  have bd : ∀ (a b : Nat) (c : Bool), g s i = (a, b) → (c = true ↔ (a = 65533 ∧ b = 1)) → (some ((a : Int), (i : Int), (b : Int), c, ()) : Option (Int × Int × Int × Bool × Unit)) = some (pc s i) := by
    intro a b c e hc
    unfold pc bad
    rw [e]
    have : c = (decide (a = 65533) && decide (b = 1)) := by rw [Bool.eq_iff_iff, hc]; simp
    rw [this]
  have bd1 : g s i = (65533, 1) → (some ((65533 : Int), (i : Int), (1 : Int), true, ()) : Option (Int × Int × Int × Bool × Unit)) = some (pc s i) := fun e => bd 65533 1 true e (by simp)
  unfold r01_At
  simp only [byteAt_at rfl h, Option.bind]
  by_cases c1 : gb s i < 128
  · rw [if_pos (decide_eq_true (show (gb s i : Int) < 128 by omega)), wi32_id (by omega) (by omega)]
    exact bd (gb s i) 1 false (by unfold g Lib.decodeN; rw [if_pos c1]) ⟨fun h => (by cases h), fun h => (by exfalso; omega)⟩
  rw [if_neg (by simp only [decide_eq_true_eq]; omega)]
  unfold r01_At_j4
  by_cases c2 : gb s i / 32 = 6
  · have d : (decide ((192 : Int) ≤ (gb s i : Int)) && decide ((gb s i : Int) < 224)) = true := by simp; omega
    have a1 : wu8 ((gb s i : Int) - 192) = (gb s i : Int) - 192 := by rw [wu8_id] <;> omega
    have a2 : wi32 ((gb s i : Int) - 192) = ((gb s i - 192 : Nat) : Int) := by rw [wi32_id] <;> omega
    rw [d, if_pos rfl, a1, a2]
    unfold r01_At_j1 r01_At_j2
    have a3 : wi64 ((i : Int) + 2) = ((i + 2 : Nat) : Int) := by rw [wi64_id] <;> omega
    rw [a3]
    by_cases c3 : i + 1 < s.length
    · have d : ((2 : Int) == 0 || decide ((s.length : Int) < ((i + 2 : Nat) : Int))) = false := by simp; omega
      rw [d, if_neg (by simp), show (1 : Int) = ((1 : Nat) : Int) from rfl, At_step (by omega) c3 hs (by omega) (by omega)]
      by_cases c4 : gb s (i + 1) / 64 = 2
      · rw [if_pos c4]
        have e : (64 * ((gb s i - 192 : Nat) : Int) + ((gb s (i + 1) : Int) - 128)) = ((gb s i % 32 * 64 + gb s (i + 1) % 64 : Nat) : Int) := by omega
        rw [e, show (2 : Int) = ((2 : Nat) : Int) from rfl, At_end 128 (.inl ⟨rfl, rfl⟩)]
        by_cases c5 : 128 ≤ gb s i % 32 * 64 + gb s (i + 1) % 64
        · rw [if_pos ⟨c5, by omega⟩]
          exact bd _ 2 false (by unfold g Lib.decodeN; rw [if_neg c1, if_pos ⟨c2, by omega, c4⟩, if_pos c5]) ⟨fun h => (by cases h), fun h => (by exfalso; omega)⟩
        · rw [if_neg (by omega)]
          exact bd1 (by unfold g Lib.decodeN; rw [if_neg c1, if_pos ⟨c2, by omega, c4⟩, if_neg (by omega)])
      · rw [if_neg c4]
        exact bd1 (by unfold g Lib.decodeN; rw [if_neg c1, if_neg (by omega), if_neg (by omega), if_neg (by omega)])
    · have d : ((2 : Int) == 0 || decide ((s.length : Int) < ((i + 2 : Nat) : Int))) = true := by simp; omega
      rw [d, if_pos rfl]
      exact bd1 (by unfold g Lib.decodeN; rw [if_neg c1, if_neg (by omega), if_neg (by omega), if_neg (by omega)])
  have d : (decide ((192 : Int) ≤ (gb s i : Int)) && decide ((gb s i : Int) < 224)) = false := by simp only [Bool.and_eq_false_iff, decide_eq_false_iff_not]; omega
  rw [d, if_neg (by simp)]
  unfold r01_At_j5
  by_cases c3 : gb s i / 16 = 14
  · have d : (decide ((224 : Int) ≤ (gb s i : Int)) && decide ((gb s i : Int) < 240)) = true := by simp; omega
    have a1 : wu8 ((gb s i : Int) - 224) = (gb s i : Int) - 224 := by rw [wu8_id] <;> omega
    have a2 : wi32 ((gb s i : Int) - 224) = ((gb s i - 224 : Nat) : Int) := by rw [wi32_id] <;> omega
    rw [d, if_pos rfl, a1, a2]
    unfold r01_At_j1 r01_At_j2
    have a3 : wi64 ((i : Int) + 3) = ((i + 3 : Nat) : Int) := by rw [wi64_id] <;> omega
    rw [a3]
    by_cases c4 : i + 2 < s.length
    · have d : ((3 : Int) == 0 || decide ((s.length : Int) < ((i + 3 : Nat) : Int))) = false := by simp; omega
      rw [d, if_neg (by simp), show (1 : Int) = ((1 : Nat) : Int) from rfl, At_step (by omega) (by omega) hs (by omega) (by omega)]
      by_cases c5 : gb s (i + 1) / 64 = 2
      · rw [if_pos c5, At_step (by omega) (by omega) hs (by omega) (by omega)]
        by_cases c6 : gb s (i + (1 + 1)) / 64 = 2
        · have c6' : gb s (i + 2) / 64 = 2 := c6
          rw [if_pos c6]
          have e : (64 * (64 * ((gb s i - 224 : Nat) : Int) + ((gb s (i + 1) : Int) - 128)) + ((gb s (i + (1 + 1)) : Int) - 128)) = ((gb s i % 16 * 4096 + gb s (i + 1) % 64 * 64 + gb s (i + 2) % 64 : Nat) : Int) := by
            show (64 * (64 * ((gb s i - 224 : Nat) : Int) + ((gb s (i + 1) : Int) - 128)) + ((gb s (i + 2) : Int) - 128)) = _
            omega
          rw [e, show (3 : Int) = ((1 + 1 + 1 : Nat) : Int) from rfl, At_end 2048 (.inr (.inl ⟨rfl, rfl⟩))]
          by_cases c7 : 2048 ≤ gb s i % 16 * 4096 + gb s (i + 1) % 64 * 64 + gb s (i + 2) % 64 ∧ (gb s i % 16 * 4096 + gb s (i + 1) % 64 * 64 + gb s (i + 2) % 64 < 55296 ∨ (57344 ≤ gb s i % 16 * 4096 + gb s (i + 1) % 64 * 64 + gb s (i + 2) % 64 ∧ gb s i % 16 * 4096 + gb s (i + 1) % 64 * 64 + gb s (i + 2) % 64 ≤ 1114111))
          · rw [if_pos c7]
            exact bd _ 3 false (by unfold g Lib.decodeN; rw [if_neg c1, if_neg (by omega), if_pos ⟨c3, ⟨by omega, c5⟩, by omega, c6'⟩, if_pos c7]) ⟨fun h => (by cases h), fun h => (by exfalso; omega)⟩
          · rw [if_neg c7]
            exact bd1 (by unfold g Lib.decodeN; rw [if_neg c1, if_neg (by omega), if_pos ⟨c3, ⟨by omega, c5⟩, by omega, c6'⟩, if_neg c7])
        · have c6' : ¬ gb s (i + 2) / 64 = 2 := c6
          rw [if_neg c6]
          exact bd1 (by unfold g Lib.decodeN; rw [if_neg c1, if_neg (by omega), if_neg (by omega), if_neg (by omega)])
      · rw [if_neg c5]
        exact bd1 (by unfold g Lib.decodeN; rw [if_neg c1, if_neg (by omega), if_neg (by omega), if_neg (by omega)])
    · have d : ((3 : Int) == 0 || decide ((s.length : Int) < ((i + 3 : Nat) : Int))) = true := by simp; omega
      rw [d, if_pos rfl]
      exact bd1 (by unfold g Lib.decodeN; rw [if_neg c1, if_neg (by omega), if_neg (by omega), if_neg (by omega)])
  have d : (decide ((224 : Int) ≤ (gb s i : Int)) && decide ((gb s i : Int) < 240)) = false := by simp only [Bool.and_eq_false_iff, decide_eq_false_iff_not]; omega
  rw [d, if_neg (by simp)]
  unfold r01_At_j6
  by_cases c4 : gb s i / 8 = 30
  · have d : (decide ((240 : Int) ≤ (gb s i : Int)) && decide ((gb s i : Int) < 248)) = true := by simp; omega
    have a1 : wu8 ((gb s i : Int) - 240) = (gb s i : Int) - 240 := by rw [wu8_id] <;> omega
    have a2 : wi32 ((gb s i : Int) - 240) = ((gb s i - 240 : Nat) : Int) := by rw [wi32_id] <;> omega
    rw [d, if_pos rfl, a1, a2]
    unfold r01_At_j1 r01_At_j2
    have a3 : wi64 ((i : Int) + 4) = ((i + 4 : Nat) : Int) := by rw [wi64_id] <;> omega
    rw [a3]
    by_cases c5 : i + 3 < s.length
    · have d : ((4 : Int) == 0 || decide ((s.length : Int) < ((i + 4 : Nat) : Int))) = false := by simp; omega
      rw [d, if_neg (by simp), show (1 : Int) = ((1 : Nat) : Int) from rfl, At_step (by omega) (by omega) hs (by omega) (by omega)]
      by_cases c6 : gb s (i + 1) / 64 = 2
      · rw [if_pos c6, At_step (by omega) (by omega) hs (by omega) (by omega)]
        by_cases c7 : gb s (i + (1 + 1)) / 64 = 2
        · have c7' : gb s (i + 2) / 64 = 2 := c7
          rw [if_pos c7, At_step (by omega) (by omega) hs (by omega) (by omega)]
          by_cases c8 : gb s (i + (1 + 1 + 1)) / 64 = 2
          · have c8' : gb s (i + 3) / 64 = 2 := c8
            rw [if_pos c8]
            have e : (64 * (64 * (64 * ((gb s i - 240 : Nat) : Int) + ((gb s (i + 1) : Int) - 128)) + ((gb s (i + (1 + 1)) : Int) - 128)) + ((gb s (i + (1 + 1 + 1)) : Int) - 128)) = ((gb s i % 8 * 262144 + gb s (i + 1) % 64 * 4096 + gb s (i + 2) % 64 * 64 + gb s (i + 3) % 64 : Nat) : Int) := by
              show (64 * (64 * (64 * ((gb s i - 240 : Nat) : Int) + ((gb s (i + 1) : Int) - 128)) + ((gb s (i + 2) : Int) - 128)) + ((gb s (i + 3) : Int) - 128)) = _
              omega
            rw [e, show (4 : Int) = ((1 + 1 + 1 + 1 : Nat) : Int) from rfl, At_end 65536 (.inr (.inr ⟨rfl, rfl⟩))]
            by_cases c9 : 65536 ≤ gb s i % 8 * 262144 + gb s (i + 1) % 64 * 4096 + gb s (i + 2) % 64 * 64 + gb s (i + 3) % 64 ∧ (gb s i % 8 * 262144 + gb s (i + 1) % 64 * 4096 + gb s (i + 2) % 64 * 64 + gb s (i + 3) % 64 < 55296 ∨ (57344 ≤ gb s i % 8 * 262144 + gb s (i + 1) % 64 * 4096 + gb s (i + 2) % 64 * 64 + gb s (i + 3) % 64 ∧ gb s i % 8 * 262144 + gb s (i + 1) % 64 * 4096 + gb s (i + 2) % 64 * 64 + gb s (i + 3) % 64 ≤ 1114111))
            · rw [if_pos c9]
              exact bd _ 4 false (by unfold g Lib.decodeN; rw [if_neg c1, if_neg (by omega), if_neg (by omega), if_pos ⟨c4, ⟨by omega, c6⟩, ⟨by omega, c7'⟩, by omega, c8'⟩, if_pos c9]) ⟨fun h => (by cases h), fun h => (by exfalso; omega)⟩
            · rw [if_neg c9]
              exact bd1 (by unfold g Lib.decodeN; rw [if_neg c1, if_neg (by omega), if_neg (by omega), if_pos ⟨c4, ⟨by omega, c6⟩, ⟨by omega, c7'⟩, by omega, c8'⟩, if_neg c9])
          · have c8' : ¬ gb s (i + 3) / 64 = 2 := c8
            rw [if_neg c8]
            exact bd1 (by unfold g Lib.decodeN; rw [if_neg c1, if_neg (by omega), if_neg (by omega), if_neg (by omega)])
        · have c7' : ¬ gb s (i + 2) / 64 = 2 := c7
          rw [if_neg c7]
          exact bd1 (by unfold g Lib.decodeN; rw [if_neg c1, if_neg (by omega), if_neg (by omega), if_neg (by omega)])
      · rw [if_neg c6]
        exact bd1 (by unfold g Lib.decodeN; rw [if_neg c1, if_neg (by omega), if_neg (by omega), if_neg (by omega)])
    · have d : ((4 : Int) == 0 || decide ((s.length : Int) < ((i + 4 : Nat) : Int))) = true := by simp; omega
      rw [d, if_pos rfl]
      exact bd1 (by unfold g Lib.decodeN; rw [if_neg c1, if_neg (by omega), if_neg (by omega), if_neg (by omega)])
  have d : (decide ((240 : Int) ≤ (gb s i : Int)) && decide ((gb s i : Int) < 248)) = false := by simp only [Bool.and_eq_false_iff, decide_eq_false_iff_not]; omega
  rw [d, if_neg (by simp)]
  unfold r01_At_j1 r01_At_j2
  rw [if_pos (by simp)]
  exact bd1 (by unfold g Lib.decodeN; rw [if_neg c1, if_neg (by omega), if_neg (by omega), if_neg (by omega)])
end Go.Ev

namespace Go.Ev
open Go
set_option linter.unusedVariables false

/-- The pieces from place p on. -/
def pl (s : List UInt8) (p : Nat) : List (Int × Int × Int × Bool × Unit) :=
  if h : p < s.length then pc s p :: pl s (p + (g s p).2) else []
  termination_by s.length - p
  decreasing_by
    have := g_size s p h
    omega
theorem pl_cons {s : List UInt8} {p : Nat} (h : p < s.length) : pl s p = pc s p :: pl s (p + (g s p).2) := by rw [pl, dif_pos h]
theorem pl_nil {s : List UInt8} {p : Nat} (h : ¬ p < s.length) : pl s p = [] := by rw [pl, dif_neg h]

theorem pl_length (s : List UInt8) : ∀ n p, s.length - p < n → (pl s p).length ≤ s.length - p := by
  intro n
  induction n with
  | zero => intro p h; omega
  | succ n ih =>
    intro p h
    by_cases hp : p < s.length
    · have hg := g_size s p hp
      have := ih (p + (g s p).2) (by omega)
      rw [pl_cons hp, List.length_cons]
      omega
    · rw [pl_nil hp]; simp

theorem All_l1_eq {k : Nat} {s : List UInt8} (hk : 6 ≤ k) (hs : s.length ≤ 65536) : ∀ n p (out : List (Int × Int × Int × Bool × Unit)), p ≤ s.length → s.length - p < n → out.length + (s.length - p) ≤ 200000 →
    r01_All_l1 k s n (p : Int) out = some (out ++ pl s p) := by
  intro n
  induction n with
  | zero => intro p out _ h; omega
  | succ n ih =>
    intro p out h1 h2 h3
    unfold r01_All_l1 r01_All_b1
    by_cases hp : p < s.length
    · have hg := g_size s p hp
      rw [if_pos (decide_eq_true (show (p : Int) < (s.length : Int) by omega))]
      simp only [At_eq hk hp hs, Option.bind]
      have hc : chk (List.length out + List.length ([((pc s p).1, (pc s p).2.1, (pc s p).2.2.1, (pc s p).2.2.2.1, ())] : List ((Int × Int × Int × Bool × Unit))) ≤ lim) = some () := by
        unfold chk lim
        rw [if_pos (by simp only [List.length_cons, List.length_nil]; omega)]
      simp only [hc]
      have e : wi64 ((p : Int) + (pc s p).2.2.1) = ((p + (g s p).2 : Nat) : Int) := by
        show wi64 ((p : Int) + ((g s p).2 : Int)) = _
        rw [wi64_id] <;> omega
      rw [e, ih _ _ (by omega) (by omega) (by simp only [List.length_append, List.length_cons, List.length_nil]; omega), pl_cons hp]
      simp [pc]
    · rw [if_neg (by simp only [decide_eq_true_eq]; omega), pl_nil hp]
      simp

theorem All_eq {k : Nat} {s : List UInt8} (hk : 80000 ≤ k) (hs : s.length ≤ 65536) : r01_All k s = some (pl s 0) := by
  unfold r01_All
  have := All_l1_eq (k := k) (s := s) (by omega) hs k 0 [] (by omega) (by omega) (by simp only [List.length_nil]; omega)
  simpa using this

/-- What a piece weighs. -/
def wt (s : List UInt8) (p : Nat) : Nat := if bad s p then 1114112 + gb s p else (g s p).1

def cmp (a b : List UInt8) (p q : Nat) : Bool :=
  if h : p < a.length ∧ q < b.length then
    if wt a p = wt b q then cmp a b (p + (g a p).2) (q + (g b q).2) else decide (wt a p < wt b q)
  else decide (¬ p < a.length ∧ q < b.length)
  termination_by a.length - p
  decreasing_by
    have := g_size a p h.1
    omega
theorem cmp_step {a b : List UInt8} {p q : Nat} (h : p < a.length ∧ q < b.length) : cmp a b p q = if wt a p = wt b q then cmp a b (p + (g a p).2) (q + (g b q).2) else decide (wt a p < wt b q) := by rw [cmp, dif_pos h]
theorem cmp_end {a b : List UInt8} {p q : Nat} (h : ¬ (p < a.length ∧ q < b.length)) : cmp a b p q = decide (¬ p < a.length ∧ q < b.length) := by rw [cmp, dif_neg h]

/-- What a piece weighs by the reference. -/
def wr (s : List UInt8) (p : Nat) : Nat := if bad s p then 2097152 + gb s p else (g s p).1
theorem wr_row (a b : List UInt8) (p q : Nat) : (wr a p = wr b q ↔ wt a p = wt b q) ∧ (wr a p < wr b q ↔ wt a p < wt b q) := by
  have r1 := g_rune a p
  have r2 := g_rune b q
  unfold wr wt
  constructor <;> (split <;> split <;> omega)
theorem weight_eq {k : Nat} {s : List UInt8} {p : Nat} (h : p < s.length) : r01_weight k s (pc s p) = some (wr s p : Int) := by
  have hb := gb_lt s p
  have hr := g_rune s p
  unfold r01_weight wr
  have c' : (pc s p).2.2.2.1 = bad s p := rfl
  rw [c']
  cases c : bad s p
  · simp only [Bool.false_eq_true, if_false]
    rw [show (pc s p).1 = ((g s p).1 : Int) from rfl, wi64_id (by omega) (by omega)]
  · simp only [if_true]
    rw [show (pc s p).2.1 = (p : Int) from rfl, byteAt_gb h]
    simp only [Option.bind]
    rw [show wi64 (gb s p : Int) = (gb s p : Int) by rw [wi64_id] <;> omega, wi64_id (by omega) (by omega)]
    congr 1

theorem Less_l1_ref {k : Nat} {a b : List UInt8} (ha : a.length ≤ 65536) (hb : b.length ≤ 65536) : ∀ n p q i, (pl a 0).drop i = pl a p → (pl b 0).drop i = pl b q → i ≤ (pl a 0).length → i ≤ (pl b 0).length →
    a.length - p < n → r01_Less_l1 k (pl a 0) a (pl b 0) b n (i : Int) = some (cmp a b p q) := by
  have la := pl_length a (a.length + 1) 0 (by omega)
  have lb := pl_length b (b.length + 1) 0 (by omega)
  intro n
  induction n with
  | zero => intro p q i _ _ _ _ h; omega
  | succ n ih =>
    intro p q i e1 e2 i1 i2 h
    have l1 : (pl a 0).length - i = (pl a p).length := by rw [← e1]; simp
    have l2 : (pl b 0).length - i = (pl b q).length := by rw [← e2]; simp
    unfold r01_Less_l1 r01_Less_b1
    by_cases hp : p < a.length
    · rw [pl_cons hp] at l1 e1
      rw [List.length_cons] at l1
      by_cases hq : q < b.length
      · rw [pl_cons hq] at l2 e2
        rw [List.length_cons] at l2
        have t : (decide ((i : Int) < (List.length (pl a 0) : Int)) && (decide ((i : Int) < (List.length (pl b 0) : Int)))) = true := by simp; omega
        rw [t]
        have g1 : at? (pl a 0) (i : Int) = some (pc a p) := by
          unfold at?
          rw [if_pos (by omega), Int.toNat_natCast]
          have := congrArg (fun l => l[0]?) e1
          simpa using this
        have g2 : at? (pl b 0) (i : Int) = some (pc b q) := by
          unfold at?
          rw [if_pos (by omega), Int.toNat_natCast]
          have := congrArg (fun l => l[0]?) e2
          simpa using this
        unfold r01_Less_j1
        simp only [if_true, g1, g2, Option.bind, weight_eq hp, weight_eq hq]
        rw [cmp_step ⟨hp, hq⟩, show wi64 ((i : Int) + 1) = ((i + 1 : Nat) : Int) by rw [wi64_id] <;> omega]
        have d1 : (pl a 0).drop (i + 1) = pl a (p + (g a p).2) := by rw [← List.drop_drop, e1]; simp
        have d2 : (pl b 0).drop (i + 1) = pl b (q + (g b q).2) := by rw [← List.drop_drop, e2]; simp
        have sz := g_size a p hp
        rw [ih _ _ _ d1 d2 (by omega) (by omega) (by omega)]
        have hw := wr_row a b p q
        by_cases e : wt a p = wt b q
        · have e' := hw.1.2 e
          rw [if_neg (by simp only [bne_iff_ne, ne_eq]; omega), if_pos e]
        · have e' : ¬ wr a p = wr b q := fun h => e (hw.1.1 h)
          rw [if_pos (by simp only [bne_iff_ne, ne_eq]; omega), if_neg e]
          congr 1
          rw [decide_eq_decide, ← hw.2]
          omega
      · rw [pl_nil hq] at l2
        simp only [List.length_nil] at l2
        have t : (decide ((i : Int) < (List.length (pl a 0) : Int)) && (decide ((i : Int) < (List.length (pl b 0) : Int)))) = false := by simp; omega
        rw [t, cmp_end (by omega)]
        unfold r01_Less_j1
        simp only [Bool.false_eq_true, if_false]
        congr 1
        rw [decide_eq_decide]
        omega
    · rw [pl_nil hp] at l1
      simp only [List.length_nil] at l1
      have t : (decide ((i : Int) < (List.length (pl a 0) : Int)) && (decide ((i : Int) < (List.length (pl b 0) : Int)))) = false := by simp; omega
      rw [t, cmp_end (by omega)]
      unfold r01_Less_j1
      simp only [Bool.false_eq_true, if_false]
      congr 1
      rw [decide_eq_decide]
      by_cases hq : q < b.length
      · rw [pl_cons hq] at l2
        rw [List.length_cons] at l2
        omega
      · rw [pl_nil hq] at l2
        simp only [List.length_nil] at l2
        omega

theorem Less_ref {k : Nat} {a b : List UInt8} (hk : 80000 ≤ k) (ha : a.length ≤ 65536) (hb : b.length ≤ 65536) : r01_Less k a b = some (cmp a b 0 0) := by
  unfold r01_Less
  simp only [All_eq hk ha, All_eq hk hb, Option.bind]
  exact Less_l1_ref ha hb k 0 0 0 (by simp) (by simp) (by omega) (by omega) (by omega)

theorem gb_drop (s : List UInt8) (p i : Nat) : gb (s.drop p) i = gb s (p + i) := by
  unfold gb
  simp [List.getD_eq_getElem?_getD]
theorem g_drop (s : List UInt8) (p i : Nat) : g (s.drop p) i = g s (p + i) := by
  unfold g
  simp only [gb_drop, List.length_drop, ← Nat.add_assoc, Nat.sub_sub]
theorem decodeGo_drop {s : List UInt8} {p : Nat} (h : p < s.length) : Lib.decodeGo ⟨(s.drop p).toArray⟩ = g s p := by
  unfold Lib.decodeGo
  rw [if_neg (by simp [ByteArray.size]; omega), decode_g, g_drop]
  rfl
theorem sub_drop {s : List UInt8} {p n : Nat} (h : p + n ≤ s.length) : sub? (s.drop p) (n : Int) ((s.drop p).length : Int) = some (s.drop (p + n)) := by
  unfold sub?
  rw [if_pos (by simp only [List.length_drop]; omega), Int.toNat_natCast, Int.toNat_natCast, List.take_length, List.drop_drop]
theorem drop_nil {s : List UInt8} {p : Nat} (h : p ≤ s.length) : (s.drop p == ([] : List UInt8)) = decide (¬ p < s.length) := by
  rw [Bool.eq_iff_iff]
  simp

theorem Less_l1_prog {k : Nat} {a b : List UInt8} : ∀ n p q, p ≤ a.length → q ≤ b.length → a.length - p < n → runes_Less_l1 k n (a.drop p) (b.drop q) = some (cmp a b p q) := by
  intro n
  induction n with
  | zero => intro p q _ _ h; omega
  | succ n ih =>
    intro p q h1 h2 h
    unfold runes_Less_l1 runes_Less_b1
    rw [drop_nil h1, drop_nil h2]
    by_cases hc : p < a.length ∧ q < b.length
    · have t : (!(decide (¬ p < a.length)) && !(decide (¬ q < b.length))) = true := by simp; omega
      rw [t]
      have sz1 := g_size a p hc.1
      have sz2 := g_size b q hc.2
      have r1 := g_rune a p
      have r2 := g_rune b q
      have b1 := gb_lt a p
      have b2 := gb_lt b q
      have y1 : byteAt (a.drop p) (0 : Int) = some (gb a p : Int) := by
        have := byteAt_gb (s := a.drop p) (i := 0) (by simp only [List.length_drop]; omega)
        rw [gb_drop] at this
        exact this
      have y2 : byteAt (b.drop q) (0 : Int) = some (gb b q : Int) := by
        have := byteAt_gb (s := b.drop q) (i := 0) (by simp only [List.length_drop]; omega)
        rw [gb_drop] at this
        exact this
      unfold runes_Less_j1
      simp only [if_true, utf8_DecodeRuneInString, decodeGo_drop hc.1, decodeGo_drop hc.2, Option.bind]
      have n1 : (((g a p).1 : Int) == 65533 && ((g a p).2 : Int) == 1) = bad a p := by
        unfold bad; rw [Bool.eq_iff_iff]; simp; omega
      have n2 : (((g b q).1 : Int) == 65533 && ((g b q).2 : Int) == 1) = bad b q := by
        unfold bad; rw [Bool.eq_iff_iff]; simp; omega
      have k3 : ∀ x y : Nat, x = wt a p → y = wt b q → runes_Less_j3 (x : Int) (a.drop p) (((g a p).1 : Int), ((g a p).2 : Int)) (b.drop q) (((g b q).1 : Int), ((g b q).2 : Int)) (runes_Less_l1 k n) (y : Int) = some (cmp a b p q) := by
        rintro x y rfl rfl
        unfold runes_Less_j3
        rw [cmp_step hc]
        by_cases e : wt a p = wt b q
        · rw [if_neg (by simp [e]), if_pos e]
          simp only [sub_drop sz1.2.1, sub_drop sz2.2.1, Option.bind]
          exact ih _ _ sz1.2.1 sz2.2.1 (by omega)
        · rw [if_pos (by simp only [bne_iff_ne, ne_eq]; omega), if_neg e]
          congr 1
          rw [decide_eq_decide]
          omega
      have k4 : ∀ x : Nat, x = wt a p → runes_Less_j2 (b.drop q) (a.drop p) (((g a p).1 : Int), ((g a p).2 : Int)) (((g b q).1 : Int), ((g b q).2 : Int)) (runes_Less_l1 k n) (x : Int) = some (cmp a b p q) := by
        intro x hx
        unfold runes_Less_j2 runes_Less_j4
        simp only [n2]
        by_cases c : bad b q = true
        · rw [if_pos c]
          simp only [y2, Option.bind]
          rw [show wi64 (gb b q : Int) = (gb b q : Int) by rw [wi64_id] <;> omega, show wi64 ((1114112 : Int) + (gb b q : Int)) = ((1114112 + gb b q : Nat) : Int) by rw [wi64_id] <;> omega]
          exact k3 _ _ hx (by unfold wt; rw [if_pos c])
        · rw [if_neg c, show wi64 ((g b q).1 : Int) = ((g b q).1 : Int) by rw [wi64_id] <;> omega]
          exact k3 _ _ hx (by unfold wt; rw [if_neg c])
      unfold runes_Less_j5
      simp only [n1]
      by_cases c : bad a p = true
      · rw [if_pos c]
        simp only [y1, Option.bind]
        rw [show wi64 (gb a p : Int) = (gb a p : Int) by rw [wi64_id] <;> omega, show wi64 ((1114112 : Int) + (gb a p : Int)) = ((1114112 + gb a p : Nat) : Int) by rw [wi64_id] <;> omega]
        exact k4 _ (by unfold wt; rw [if_pos c])
      · rw [if_neg c, show wi64 ((g a p).1 : Int) = ((g a p).1 : Int) by rw [wi64_id] <;> omega]
        exact k4 _ (by unfold wt; rw [if_neg c])
    · have t : (!(decide (¬ p < a.length)) && !(decide (¬ q < b.length))) = false := by simp; omega
      rw [t, cmp_end hc]
      unfold runes_Less_j1 runes_Less_j6
      simp only [Bool.false_eq_true, if_false]
      congr 1
      rw [Bool.eq_iff_iff]
      simp

theorem Less_prog {k : Nat} {a b : List UInt8} (hk : a.length < k) : runes_Less k a b = some (cmp a b 0 0) := by
  unfold runes_Less
  have := Less_l1_prog (k := k) (a := a) (b := b) k 0 0 (by omega) (by omega) (by omega)
  simpa using this

theorem RunesRow_true {k : Nat} (hk : 80000 ≤ k) (a b : List UInt8) : l01_RunesRow k a b = some true := by
  unfold l01_RunesRow l01_RunesRow_j1
  by_cases h : a.length ≤ 5000 ∧ b.length ≤ 5000
  · have t : (decide ((5000 : Int) < (List.length a : Int)) || (decide ((5000 : Int) < (List.length b : Int)))) = false := by simp; omega
    rw [t]
    simp only [Bool.false_eq_true, if_false, Less_prog (show a.length < k by omega), Less_prog (show b.length < k by omega), Less_ref hk (show a.length ≤ 65536 by omega) (show b.length ≤ 65536 by omega), Less_ref hk (show b.length ≤ 65536 by omega) (show a.length ≤ 65536 by omega), Option.bind, l01_RunesRow_j2]
    simp
  · have t : (decide ((5000 : Int) < (List.length a : Int)) || (decide ((5000 : Int) < (List.length b : Int)))) = true := by simp; omega
    rw [t]
    simp
end Go.Ev

namespace Go.Ev
open Go
set_option linter.unusedVariables false

theorem runeAt_g (s : List UInt8) (p : Nat) : runeAt s p = ((g s p).1 : Int) := by
  unfold runeAt
  show ((Utf8.decode ⟨s.toArray⟩ p).1 : Int) = _
  rw [decode_g]
theorem widthAt_g (s : List UInt8) (p : Nat) : widthAt s p = (g s p).2 := by
  unfold widthAt
  show (Utf8.decode ⟨s.toArray⟩ p).2 = _
  rw [decode_g]
theorem g_kinds0 (s : List UInt8) (p : Nat) : ((g s p).1 = 65533 ∧ (g s p).2 = 1) ∨ ((g s p).1 ≤ 127 ∧ (g s p).2 = 1) ∨ (128 ≤ (g s p).1 ∧ (g s p).1 ≤ 2047 ∧ (g s p).2 = 2) ∨
    (2048 ≤ (g s p).1 ∧ (g s p).1 ≤ 65535 ∧ ((g s p).1 < 55296 ∨ 57344 ≤ (g s p).1) ∧ (g s p).2 = 3) ∨ (65536 ≤ (g s p).1 ∧ (g s p).1 ≤ 1114111 ∧ (g s p).2 = 4) := by
  have h0 := gb_lt s p; have h1 := gb_lt s (p + 1); have h2 := gb_lt s (p + 2); have h3 := gb_lt s (p + 3)
  unfold g Lib.decodeN
  repeat' split
  all_goals (dsimp only; omega)
theorem g_kinds {s : List UInt8} {p : Nat} (hb : bad s p = false) : ((g s p).1 ≤ 127 ∧ (g s p).2 = 1) ∨ (128 ≤ (g s p).1 ∧ (g s p).1 ≤ 2047 ∧ (g s p).2 = 2) ∨
    (2048 ≤ (g s p).1 ∧ (g s p).1 ≤ 65535 ∧ ((g s p).1 < 55296 ∨ 57344 ≤ (g s p).1) ∧ (g s p).2 = 3) ∨ (65536 ≤ (g s p).1 ∧ (g s p).1 ≤ 1114111 ∧ (g s p).2 = 4) := by
  rcases g_kinds0 s p with ⟨h1, h2⟩ | h
  · unfold bad at hb
    simp [h1, h2] at hb
  · exact h
theorem bad_iff {s : List UInt8} {p : Nat} (hb : bad s p = true) : (g s p).1 = 65533 ∧ (g s p).2 = 1 := by
  unfold bad at hb
  simpa using hb

theorem RuneLen_val (k : Nat) (r : Nat) : unicode_utf8_RuneLen k (r : Int) = some (if r ≤ 127 then 1 else if r ≤ 2047 then 2 else if 55296 ≤ r ∧ r ≤ 57343 then -1 else if r ≤ 65535 then 3 else if r ≤ 1114111 then 4 else -1) := by
  unfold unicode_utf8_RuneLen unicode_utf8_RuneLen_j1
  rw [if_neg (by simp only [decide_eq_true_eq]; omega)]
  by_cases c1 : r ≤ 127
  · rw [if_pos (by simp only [decide_eq_true_eq]; omega), if_pos c1]
  · rw [if_neg (by simp only [decide_eq_true_eq]; omega), if_neg c1]
    by_cases c2 : r ≤ 2047
    · rw [if_pos (by simp only [decide_eq_true_eq]; omega), if_pos c2]
    · rw [if_neg (by simp only [decide_eq_true_eq]; omega), if_neg c2]
      by_cases c3 : 55296 ≤ r ∧ r ≤ 57343
      · rw [if_pos (by simp only [Bool.and_eq_true, decide_eq_true_eq]; omega), if_pos c3]
      · rw [if_neg (by simp only [Bool.and_eq_true, decide_eq_true_eq]; omega), if_neg c3]
        by_cases c4 : r ≤ 65535
        · rw [if_pos (by simp only [decide_eq_true_eq]; omega), if_pos c4]
        · rw [if_neg (by simp only [decide_eq_true_eq]; omega), if_neg c4]
          by_cases c5 : r ≤ 1114111
          · rw [if_pos (by simp only [decide_eq_true_eq]; omega), if_pos c5]
          · rw [if_neg (by simp only [decide_eq_true_eq]; omega), if_neg c5]
theorem RuneLen_g (k : Nat) {s : List UInt8} {p : Nat} (hb : bad s p = false) : unicode_utf8_RuneLen k ((g s p).1 : Int) = some ((g s p).2 : Int) := by
  rw [RuneLen_val]
  congr 1
  rcases g_kinds hb with ⟨h1, h2⟩ | ⟨h1, h2, h3⟩ | ⟨h1, h2, h3, h4⟩ | ⟨h1, h2, h3⟩
  · rw [if_pos h1, h2]; rfl
  · rw [if_neg (by omega), if_pos h2, h3]; rfl
  · rw [if_neg (by omega), if_neg (by omega), if_neg (by omega), if_pos h2, h4]; rfl
  · rw [if_neg (by omega), if_neg (by omega), if_neg (by omega), if_neg (by omega), if_pos h2, h3]; rfl
theorem sub_all {s : List UInt8} {p : Nat} (h : p ≤ s.length) : sub? s (p : Int) (s.length : Int) = some (s.drop p) := by
  unfold sub?
  rw [if_pos (by omega), Int.toNat_natCast, Int.toNat_natCast, List.take_length]

theorem chk_ok {p : Prop} [Decidable p] (h : p) : chk p = some () := by unfold chk; rw [if_pos h]

/-- One round of each, up to the call. -/
theorem each_round {α : Type} {k : Nat} {s : List UInt8} {p : Nat} (h : p < s.length) (J : Int → Bool → Option α) :
    (Option.bind (unicode_utf8_RuneLen k (runeAt s p)) fun v1 =>
      if (runeAt s p) == (65533 : Int) then
        (Option.bind (sub? s (p : Int) (s.length : Int)) fun s2 =>
          Option.bind (utf8_DecodeRuneInString k s2) fun v3 =>
          if v3.2 == (1 : Int) then J (1 : Int) true else J v1 false)
      else J v1 false) = J ((g s p).2 : Int) (bad s p) := by
  rw [runeAt_g]
  cases hb : bad s p with
  | true =>
    obtain ⟨e1, e2⟩ := bad_iff hb
    rw [RuneLen_val, e1]
    simp only [Option.bind, sub_all (Nat.le_of_lt h), utf8_DecodeRuneInString, decodeGo_drop h, e2]
    rfl
  | false =>
    rw [RuneLen_g k hb]
    simp only [Option.bind, sub_all (Nat.le_of_lt h), utf8_DecodeRuneInString, decodeGo_drop h]
    by_cases e : (g s p).1 = 65533
    · have e2 : (g s p).2 ≠ 1 := by
        intro e2
        unfold bad at hb
        simp [e, e2] at hb
      rw [if_pos (by rw [e]; rfl), if_neg (by simp only [beq_iff_eq]; omega)]
    · rw [if_neg (by simp only [beq_iff_eq]; omega)]

theorem each1_l1 {k : Nat} {s : List UInt8} (hs : s.length ≤ 65536) : ∀ n p (t : List (Int × Int × Int × Bool × Unit)), p ≤ s.length → s.length - p < n → t.length + (s.length - p) ≤ 200000 → runes_each_i1_l1 k s n p t = some (t ++ pl s p) := by
  intro n
  induction n with
  | zero => intro p t _ h; omega
  | succ n ih =>
    intro p t h1 h2 h3
    unfold runes_each_i1_l1 runes_each_i1_b1
    by_cases hp : p < s.length
    · have hg := g_size s p hp
      rw [if_pos (decide_eq_true hp), each_round hp]
      unfold runes_each_i1_j1 runes_Pieces_c1_i1
      rw [chk_ok (by unfold lim; simp only [List.length_cons, List.length_nil]; omega)]
      simp only [Option.bind, Bool.not_true, Bool.false_eq_true, if_false, widthAt_g, runeAt_g]
      rw [ih _ _ hg.2.1 (by omega) (by simp only [List.length_append, List.length_cons, List.length_nil]; omega), pl_cons hp]
      simp [pc]
    · rw [if_neg (by simpa using hp), pl_nil hp]
      simp
theorem each1 {k : Nat} {s : List UInt8} (hk : 80000 ≤ k) (hs : s.length ≤ 65536) : runes_each_i1 k s [] = some (pl s 0) := by
  unfold runes_each_i1
  have := each1_l1 (k := k) hs k 0 [] (by omega) (by omega) (by simp only [List.length_nil]; omega)
  simpa using this

/-- The place of the first broken piece, or −1. -/
def brk : List (Int × Int × Int × Bool × Unit) → Int
  | [] => -1
  | x :: l => if x.2.2.2.1 then x.2.1 else brk l
theorem each2_l1 {k : Nat} {s : List UInt8} (hs : s.length ≤ 65536) : ∀ n p, p ≤ s.length → s.length - p < n → runes_each_i2_l1 k s n p (-1) = some (brk (pl s p)) := by
  intro n
  induction n with
  | zero => intro p _ h; omega
  | succ n ih =>
    intro p h1 h2
    unfold runes_each_i2_l1 runes_each_i2_b1
    by_cases hp : p < s.length
    · have hg := g_size s p hp
      rw [if_pos (decide_eq_true hp), each_round hp]
      unfold runes_each_i2_j1 runes_Broken_c1_i1 runes_Broken_c1_i1_j1
      rw [pl_cons hp, brk]
      have hb : (pc s p).2.2.2.1 = bad s p := rfl
      rw [hb]
      cases bad s p with
      | true =>
        have d : decide ((p : Int) < 0) = false := by simp only [decide_eq_false_iff_not]; omega
        simp only [if_true, Option.bind, d, Bool.not_false]
        rfl
      | false =>
        simp only [Bool.false_eq_true, if_false, Option.bind, widthAt_g]
        rw [show (!decide ((-1 : Int) < 0)) = false from rfl]
        simp only [Bool.false_eq_true, if_false]
        exact ih _ hg.2.1 (by omega)
    · rw [if_neg (by simpa using hp), pl_nil hp]
      rfl
theorem each2 {k : Nat} {s : List UInt8} (hk : 80000 ≤ k) (hs : s.length ≤ 65536) : runes_each_i2 k s (-1) = some (brk (pl s 0)) := by
  unfold runes_each_i2
  exact each2_l1 hs k 0 (by omega) (by omega)

theorem Count_l1 {s : List UInt8} (hs : s.length ≤ 65536) : ∀ n p (c : Nat), p ≤ s.length → s.length - p < n → c + (s.length - p) ≤ 200000 → unicode_utf8_RuneCountInString_l1 s n (c : Int) p = some ((c + (pl s p).length : Nat) : Int) := by
  intro n
  induction n with
  | zero => intro p c _ h; omega
  | succ n ih =>
    intro p c h1 h2 h3
    unfold unicode_utf8_RuneCountInString_l1 unicode_utf8_RuneCountInString_b1
    by_cases hp : p < s.length
    · have hg := g_size s p hp
      rw [if_pos (decide_eq_true hp), widthAt_g, show wi64 ((c : Int) + 1) = ((c + 1 : Nat) : Int) by rw [wi64_id] <;> omega, ih _ _ hg.2.1 (by omega) (by omega), pl_cons hp]
      congr 1
      simp only [List.length_cons]
      omega
    · rw [if_neg (by simpa using hp), pl_nil hp]
      rfl
theorem Count_eq {k : Nat} {s : List UInt8} (hk : 80000 ≤ k) (hs : s.length ≤ 65536) : unicode_utf8_RuneCountInString k s = some ((pl s 0).length : Int) := by
  unfold unicode_utf8_RuneCountInString
  have := Count_l1 hs k 0 0 (by omega) (by omega) (by omega)
  simpa using this

theorem at_drop {α : Type} {l : List α} {i : Nat} : at? l (i : Int) = l[i]? := by
  unfold at?
  rw [if_pos (by omega), Int.toNat_natCast]

theorem refBroken_l1 {v : List (Int × Int × Int × Bool × Unit)} (hv : v.length ≤ 200000) : ∀ n i, i ≤ v.length → v.length - i < n → r01_Broken_l1 (v, 0) n (i : Int) = some (brk (v.drop i), 0) := by
  intro n
  induction n with
  | zero => intro i _ h; omega
  | succ n ih =>
    intro i h1 h2
    unfold r01_Broken_l1 r01_Broken_b1
    by_cases hi : i < v.length
    · rw [if_pos (decide_eq_true (show (i : Int) < (v.length : Int) by omega)), at_drop, List.getElem?_eq_getElem hi, List.drop_eq_getElem_cons hi]
      simp only [Option.bind, brk]
      cases v[i].2.2.2.1 with
      | true => rfl
      | false =>
        simp only [Bool.false_eq_true, if_false]
        rw [show wi64 ((i : Int) + 1) = ((i + 1 : Nat) : Int) by rw [wi64_id] <;> omega]
        exact ih _ (by omega) (by omega)
    · rw [if_neg (by simp only [decide_eq_true_eq]; omega), List.drop_eq_nil_of_le (by omega)]
      rfl
theorem pl_len (s : List UInt8) : (pl s 0).length ≤ s.length := by
  have := pl_length s (s.length + 1) 0 (by omega)
  omega

theorem long_ok {k : Nat} {s : List UInt8} (hs : s.length ≤ 65536) : runes_long k s = some 0 := by
  unfold runes_long
  rw [if_neg (by simp only [decide_eq_true_eq]; omega)]
theorem long_no {k : Nat} {s : List UInt8} (hs : 65536 < s.length) : runes_long k s = some 3 := by
  unfold runes_long
  rw [if_pos (by simp only [decide_eq_true_eq]; omega)]

theorem Pieces_i1_ok {k : Nat} {s : List UInt8} (hk : 80000 ≤ k) (hs : s.length ≤ 65536) : runes_Pieces_i1 k s = some (0, pl s 0) := by
  unfold runes_Pieces_i1
  simp only [long_ok hs, each1 hk hs, Option.bind]
  rfl
theorem Pieces_ok {k : Nat} {s : List UInt8} (hk : 80000 ≤ k) (hs : s.length ≤ 65536) : runes_Pieces k s = some (pl s 0, 0) := by
  unfold runes_Pieces
  simp only [long_ok hs, each1 hk hs, Option.bind]
  rfl
theorem refPieces_ok {k : Nat} {s : List UInt8} (hk : 80000 ≤ k) (hs : s.length ≤ 65536) : r01_Pieces k s = some (pl s 0, 0) := by
  unfold r01_Pieces
  rw [if_neg (by simp only [decide_eq_true_eq]; omega), All_eq hk hs]
  rfl
theorem Len_ok {k : Nat} {s : List UInt8} (hk : 80000 ≤ k) (hs : s.length ≤ 65536) : runes_Len k s = some (((pl s 0).length : Int), 0) := by
  unfold runes_Len
  simp only [long_ok hs, Count_eq hk hs, Option.bind]
  rfl
theorem refLen_ok {k : Nat} {s : List UInt8} (hk : 80000 ≤ k) (hs : s.length ≤ 65536) : r01_Len k s = some (((pl s 0).length : Int), 0) := by
  unfold r01_Len
  rw [refPieces_ok hk hs]
  rfl
theorem Broken_ok {k : Nat} {s : List UInt8} (hk : 80000 ≤ k) (hs : s.length ≤ 65536) : runes_Broken k s = some (brk (pl s 0), 0) := by
  unfold runes_Broken
  simp only [long_ok hs, each2 hk hs, Option.bind]
  rfl
theorem refBroken_ok {k : Nat} {s : List UInt8} (hk : 80000 ≤ k) (hs : s.length ≤ 65536) : r01_Broken k s = some (brk (pl s 0), 0) := by
  have hl := pl_len s
  unfold r01_Broken
  simp only [refPieces_ok hk hs, Option.bind]
  rw [if_neg (by simp)]
  have := refBroken_l1 (v := pl s 0) (by omega) k 0 (by omega) (by omega)
  simpa using this
end Go.Ev

namespace Go.Ev
open Go
set_option linter.unusedVariables false

/-- Where piece i begins. -/
def plc (s : List UInt8) : Nat → Nat
  | 0 => 0
  | i + 1 => plc s i + (g s (plc s i)).2
theorem plc_drop (s : List UInt8) : ∀ i, i ≤ (pl s 0).length → plc s i ≤ s.length ∧ (pl s 0).drop i = pl s (plc s i) := by
  intro i
  induction i with
  | zero => intro _; exact ⟨Nat.zero_le _, rfl⟩
  | succ i ih =>
    intro h
    obtain ⟨h1, h2⟩ := ih (by omega)
    have hlt : plc s i < s.length := by
      refine Nat.lt_of_not_le fun hn => ?_
      rw [pl_nil (p := plc s i) (by omega)] at h2
      have := congrArg List.length h2
      rw [List.length_drop] at this
      simp only [List.length_nil] at this
      omega
    refine ⟨(g_size s _ hlt).2.1, ?_⟩
    rw [← List.drop_drop, h2, pl_cons hlt]
    rfl
theorem plc_at {s : List UInt8} {i : Nat} (h : i < (pl s 0).length) : plc s i < s.length ∧ (pl s 0)[i]? = some (pc s (plc s i)) := by
  obtain ⟨h1, h2⟩ := plc_drop s i (by omega)
  have hlt : plc s i < s.length := by
    refine Nat.lt_of_not_le fun hn => ?_
    rw [pl_nil (p := plc s i) (by omega)] at h2
    have := congrArg List.length h2
    rw [List.length_drop] at this
    simp only [List.length_nil] at this
    omega
  refine ⟨hlt, ?_⟩
  rw [pl_cons hlt] at h2
  have := congrArg (fun l => l[0]?) h2
  simpa using this
theorem plc_end (s : List UInt8) : plc s (pl s 0).length = s.length := by
  obtain ⟨h1, h2⟩ := plc_drop s _ (Nat.le_refl _)
  refine Nat.le_antisymm h1 (Nat.le_of_not_lt fun hlt => ?_)
  rw [List.drop_length, pl_cons hlt] at h2
  cases h2
theorem plc_mono (s : List UInt8) {i j : Nat} (h : i ≤ j) : plc s i ≤ plc s j := by
  induction h with
  | refl => exact Nat.le_refl _
  | step _ ih => exact Nat.le_trans ih (Nat.le_add_right _ _)

theorem place_ok {k : Nat} {s : List UInt8} {i : Nat} (h : i ≤ (pl s 0).length) : runes_Part_c1 k (i : Int) (pl s 0) s = some (plc s i : Int) := by
  unfold runes_Part_c1
  by_cases e : i = (pl s 0).length
  · rw [if_pos (by simp [e]), e, plc_end]
  · rw [if_neg (by simp only [beq_iff_eq]; omega), at_drop, (plc_at (by omega)).2]
    rfl

theorem bytesStr_bytesEl (x : List UInt8) : bytesStr (bytesEl x) = x := by
  unfold bytesStr bytesEl
  rw [List.map_map]
  have : ((fun n : Int => UInt8.ofNat n.toNat) ∘ fun b : UInt8 => (b.toNat : Int)) = id := by
    funext b
    simp
  rw [this, List.map_id]
theorem bytesEl_append (a b : List UInt8) : bytesEl a ++ bytesEl b = bytesEl (a ++ b) := by simp [bytesEl]
theorem bytesEl_len (a : List UInt8) : (bytesEl a).length = a.length := by simp [bytesEl]

/-- The bytes from one place to another. -/
def seg (s : List UInt8) (a b : Nat) : List UInt8 := (s.take b).drop a
theorem seg_append {s : List UInt8} {a b c : Nat} (h1 : a ≤ b) (h2 : b ≤ c) : seg s a b ++ seg s b c = seg s a c := by
  unfold seg
  have e : s.take c = s.take b ++ (s.take c).drop b := by
    conv => lhs; rw [← List.take_append_drop b (s.take c)]
    rw [List.take_take, Nat.min_eq_left h2]
  by_cases hb : b ≤ s.length
  · conv => rhs; rw [e]
    rw [List.drop_append_of_le_length (by rw [List.length_take]; omega)]
  · have e1 : s.take b = s := List.take_of_length_le (by omega)
    have e2 : s.take c = s := List.take_of_length_le (by omega)
    rw [e1, e2, List.drop_eq_nil_of_le (show s.length ≤ b by omega), List.append_nil]
theorem seg_len {s : List UInt8} {a b : Nat} (hb : b ≤ s.length) : (seg s a b).length = b - a := by
  unfold seg
  rw [List.length_drop, List.length_take]
  omega
theorem sub_seg {s : List UInt8} {a b : Nat} (h1 : a ≤ b) (h2 : b ≤ s.length) : sub? s (a : Int) (b : Int) = some (seg s a b) := by
  unfold sub?
  rw [if_pos (by omega), Int.toNat_natCast, Int.toNat_natCast]
  rfl

theorem refPart_l1 {s : List UInt8} (hs : s.length ≤ 65536) {b : Nat} (hb : b ≤ (pl s 0).length) : ∀ n i (out : List UInt8), i ≤ b → b - i < n → out.length + (plc s b - plc s i) ≤ 200000 → r01_Part_l1 (b : Int) (pl s 0, 0) s n (i : Int) (bytesEl out) = some (out ++ seg s (plc s i) (plc s b), 0) := by
  have hl := pl_len s
  intro n
  induction n with
  | zero => intro i out _ h; omega
  | succ n ih =>
    intro i out h1 h2 h3
    unfold r01_Part_l1 r01_Part_b1
    have hpb := (plc_drop s b hb).1
    by_cases hi : i < b
    · obtain ⟨q1, q2⟩ := plc_at (s := s) (i := i) (by omega)
      have hg := g_size s _ q1
      have hm : plc s (i + 1) ≤ plc s b := plc_mono s (by omega)
      have hm0 : plc s i ≤ plc s b := plc_mono s (by omega)
      have hst : plc s (i + 1) = plc s i + (g s (plc s i)).2 := rfl
      rw [if_pos (decide_eq_true (show (i : Int) < (b : Int) by omega)), at_drop, q2]
      simp only [Option.bind]
      have e1 : wi64 ((pc s (plc s i)).2.1 + (pc s (plc s i)).2.2.1) = (plc s (i + 1) : Int) := by
        show wi64 ((plc s i : Int) + ((g s (plc s i)).2 : Int)) = _
        rw [wi64_id] <;> omega
      rw [e1, show (pc s (plc s i)).2.1 = (plc s i : Int) from rfl, sub_seg (by omega) (by omega)]
      simp only []
      have hsl := seg_len (s := s) (a := plc s i) (b := plc s (i + 1)) (by omega)
      rw [chk_ok (by unfold lim; rw [bytesEl_len, bytesEl_len]; omega), bytesEl_append, show wi64 ((i : Int) + 1) = ((i + 1 : Nat) : Int) by rw [wi64_id] <;> omega]
      simp only []
      rw [ih (i + 1) (out ++ seg s (plc s i) (plc s (i + 1))) (by omega) (by omega) (by rw [List.length_append, hsl]; omega), List.append_assoc, seg_append (by omega) hm]
    · have : i = b := by omega
      subst this
      rw [if_neg (by simp), bytesStr_bytesEl]
      unfold seg
      rw [List.drop_eq_nil_of_le (by rw [List.length_take]; omega), List.append_nil]

/-- What a part is, by both. -/
def partOf (s : List UInt8) (i j : Int) : List UInt8 × Int := if i < 0 ∨ j < i ∨ ((pl s 0).length : Int) < j then ([], 10) else (seg s (plc s i.toNat) (plc s j.toNat), 0)
theorem Part_ok {k : Nat} {s : List UInt8} (hk : 80000 ≤ k) (hs : s.length ≤ 65536) (i j : Int) : runes_Part k s i j = some (partOf s i j) := by
  have hl := pl_len s
  unfold runes_Part partOf
  simp only [Pieces_ok hk hs, Option.bind]
  rw [if_neg (by simp)]
  unfold runes_Part_j1 runes_Part_j2
  by_cases c : i < 0 ∨ j < i ∨ ((pl s 0).length : Int) < j
  · rw [if_pos c, if_pos (by simp only [Bool.or_eq_true, decide_eq_true_eq]; omega)]
  · rw [if_neg c, if_neg (by simp only [Bool.or_eq_true, decide_eq_true_eq]; omega)]
    obtain ⟨a, rfl⟩ : ∃ a : Nat, i = (a : Int) := ⟨i.toNat, by omega⟩
    obtain ⟨b, rfl⟩ : ∃ b : Nat, j = (b : Int) := ⟨j.toNat, by omega⟩
    rw [place_ok (by omega), place_ok (by omega)]
    simp only [Option.bind, Int.toNat_natCast]
    rw [sub_seg (plc_mono s (by omega)) (plc_drop s b (by omega)).1]
theorem refPart_ok {k : Nat} {s : List UInt8} (hk : 80000 ≤ k) (hs : s.length ≤ 65536) (i j : Int) : r01_Part k s i j = some (partOf s i j) := by
  have hl := pl_len s
  unfold r01_Part partOf
  simp only [refPieces_ok hk hs, Option.bind]
  rw [if_neg (by simp)]
  unfold r01_Part_j1 r01_Part_j2
  by_cases c : i < 0 ∨ j < i ∨ ((pl s 0).length : Int) < j
  · rw [if_pos c, if_pos (by simp only [Bool.or_eq_true, decide_eq_true_eq]; omega)]
  · rw [if_neg c, if_neg (by simp only [Bool.or_eq_true, decide_eq_true_eq]; omega)]
    obtain ⟨a, rfl⟩ : ∃ a : Nat, i = (a : Int) := ⟨i.toNat, by omega⟩
    obtain ⟨b, rfl⟩ : ∃ b : Nat, j = (b : Int) := ⟨j.toNat, by omega⟩
    have hb := (plc_drop s b (by omega)).1
    have := refPart_l1 hs (b := b) (by omega) k a [] (by omega) (by omega) (by simp only [List.length_nil]; omega)
    have e0 : bytesEl [] = [] := rfl
    rw [e0] at this
    simpa using this

/-- A rune's bytes. -/
def enc (r : Int) : List UInt8 := (Utf8.encode r).data.toList
def encN (c : Nat) : List UInt8 :=
  if c < 128 then [UInt8.ofNat c] else if c < 2048 then [UInt8.ofNat (192 + c / 64), UInt8.ofNat (128 + c % 64)]
  else if c < 65536 then [UInt8.ofNat (224 + c / 4096), UInt8.ofNat (128 + c / 64 % 64), UInt8.ofNat (128 + c % 64)]
  else [UInt8.ofNat (240 + c / 262144), UInt8.ofNat (128 + c / 4096 % 64), UInt8.ofNat (128 + c / 64 % 64), UInt8.ofNat (128 + c % 64)]
theorem enc_eq (r : Int) : enc r = encN (if Utf8.valid r then r.toNat else 65533) := by
  have key : ∀ c : Nat, (if c < 128 then (⟨#[UInt8.ofNat c]⟩ : ByteArray) else if c < 2048 then ⟨#[UInt8.ofNat (192 + c / 64), UInt8.ofNat (128 + c % 64)]⟩
      else if c < 65536 then ⟨#[UInt8.ofNat (224 + c / 4096), UInt8.ofNat (128 + c / 64 % 64), UInt8.ofNat (128 + c % 64)]⟩
      else ⟨#[UInt8.ofNat (240 + c / 262144), UInt8.ofNat (128 + c / 4096 % 64), UInt8.ofNat (128 + c / 64 % 64), UInt8.ofNat (128 + c % 64)]⟩).data.toList = encN c := by
    intro c
    unfold encN
    repeat' split
    all_goals rfl
  exact key _
theorem encN_len (c : Nat) : (encN c).length ≤ 4 := by
  unfold encN
  repeat' split
  all_goals (simp only [List.length_cons, List.length_nil]; omega)
theorem enc_len (r : Int) : (enc r).length ≤ 4 := by rw [enc_eq]; exact encN_len _

theorem wu8_mod (x : Int) : wu8 x = x % 256 := by
  unfold wu8 IntKind.wrap
  simp [IntKind.bits, IntKind.signed]
theorem tdiv_nat (c d : Nat) : Int.tdiv (c : Int) (d : Int) = ((c / d : Nat) : Int) := by
  rw [Int.tdiv_eq_ediv_of_nonneg (by omega)]
  rfl
theorem tmod_nat (c d : Nat) : Int.tmod (c : Int) (d : Int) = ((c % d : Nat) : Int) := by
  rw [Int.tmod_eq_emod_of_nonneg (by omega)]
  rfl
theorem one_j1 {c : Nat} (h : c ≤ 1114111) : r01_one_j1 (c : Int) = some (bytesEl (encN c)) := by
  have d64 := tdiv_nat c 64
  have d4096 := tdiv_nat c 4096
  have d262144 := tdiv_nat c 262144
  have m64 := tmod_nat c 64
  have w64 : wi32 ((c / 64 : Nat) : Int) = ((c / 64 : Nat) : Int) := by rw [wi32_id] <;> omega
  have w4096 : wi32 ((c / 4096 : Nat) : Int) = ((c / 4096 : Nat) : Int) := by rw [wi32_id] <;> omega
  have w262144 : wi32 ((c / 262144 : Nat) : Int) = ((c / 262144 : Nat) : Int) := by rw [wi32_id] <;> omega
  have m64b := tmod_nat (c / 64) 64
  have m4096 := tmod_nat (c / 4096) 64
  have e1 : ∀ a b : Nat, b ≤ 1000000 → a ≤ 1000 → wi32 ((a : Int) + (b : Int)) = ((a + b : Nat) : Int) := fun a b h1 h2 => by rw [wi32_id] <;> omega
  have el : ∀ n : Nat, ((UInt8.ofNat n).toNat : Int) = (n : Int) % 256 := fun n => by simp
  unfold r01_one_j1 encN
  by_cases c1 : c < 128
  · rw [if_pos (by simp only [decide_eq_true_eq]; omega), if_pos c1]
    simp only [bytesEl, List.map, el, wu8_mod]
  · rw [if_neg (by simp only [decide_eq_true_eq]; omega), if_neg c1]
    by_cases c2 : c < 2048
    · rw [if_pos (by simp only [decide_eq_true_eq]; omega), if_pos c2, chk_ok (by decide)]
      simp only [Option.bind]
      rw [show (64 : Int) = ((64 : Nat) : Int) from rfl, d64, m64, w64, show (192 : Int) = ((192 : Nat) : Int) from rfl, show (128 : Int) = ((128 : Nat) : Int) from rfl, e1 _ _ (by omega) (by omega), e1 _ _ (by omega) (by omega)]
      simp only [bytesEl, List.map, el, wu8_mod]
    · rw [if_neg (by simp only [decide_eq_true_eq]; omega), if_neg c2]
      by_cases c3 : c < 65536
      · rw [if_pos (by simp only [decide_eq_true_eq]; omega), if_pos c3, chk_ok (show (4096 : Int) ≠ 0 by decide), chk_ok (show (64 : Int) ≠ 0 by decide)]
        simp only [Option.bind]
        rw [show (64 : Int) = ((64 : Nat) : Int) from rfl, show (4096 : Int) = ((4096 : Nat) : Int) from rfl, d64, d4096, m64, w64, w4096, m64b, show (224 : Int) = ((224 : Nat) : Int) from rfl, show (128 : Int) = ((128 : Nat) : Int) from rfl, e1 _ _ (by omega) (by omega), e1 _ _ (by omega) (by omega), e1 _ _ (by omega) (by omega)]
        simp only [bytesEl, List.map, el, wu8_mod]
      · rw [if_neg (by simp only [decide_eq_true_eq]; omega), if_neg c3, chk_ok (show (262144 : Int) ≠ 0 by decide), chk_ok (show (4096 : Int) ≠ 0 by decide), chk_ok (show (64 : Int) ≠ 0 by decide)]
        simp only [Option.bind]
        rw [show (64 : Int) = ((64 : Nat) : Int) from rfl, show (4096 : Int) = ((4096 : Nat) : Int) from rfl, show (262144 : Int) = ((262144 : Nat) : Int) from rfl, d64, d4096, d262144, m64, w64, w4096, w262144, m64b, m4096, show (240 : Int) = ((240 : Nat) : Int) from rfl, show (128 : Int) = ((128 : Nat) : Int) from rfl, e1 _ _ (by omega) (by omega), e1 _ _ (by omega) (by omega), e1 _ _ (by omega) (by omega), e1 _ _ (by omega) (by omega)]
        simp only [bytesEl, List.map, el, wu8_mod]
theorem Rune_valid (k : Nat) (r : Int) : r01_Rune k r = some (Utf8.valid r) := by
  unfold r01_Rune r01_Rune_j1 r01_Rune_j3 r01_Rune_j2 Utf8.valid
  by_cases c : 0 ≤ r ∧ r ≤ 1114111
  · rw [if_pos (by simpa using c)]
    congr 1
    rw [Bool.eq_iff_iff]
    simp
    omega
  · rw [if_neg (by simpa using c)]
    congr 1
    rw [Bool.eq_iff_iff]
    simp
    omega
theorem one_ok (k : Nat) (r : Int) : r01_one k r = some (bytesEl (enc r)) := by
  unfold r01_one
  rw [Rune_valid, enc_eq]
  simp only [Option.bind]
  cases hv : Utf8.valid r with
  | false =>
    rw [if_pos (by rfl), if_neg (by decide)]
    exact one_j1 (c := 65533) (by omega)
  | true =>
    rw [if_neg (by decide), if_pos (by rfl)]
    have h : 0 ≤ r ∧ r ≤ 1114111 := by
      unfold Utf8.valid at hv
      simp at hv
      omega
    obtain ⟨c, rfl⟩ : ∃ c : Nat, r = (c : Int) := ⟨r.toNat, by omega⟩
    rw [Int.toNat_natCast]
    exact one_j1 (by omega)

/-- The bytes of the pieces' runes. -/
def ebs (l : List (Int × Int × Int × Bool × Unit)) : List UInt8 := l.flatMap fun x => enc x.1
theorem ebs_len (l : List (Int × Int × Int × Bool × Unit)) : (ebs l).length ≤ 4 * l.length := by
  induction l with
  | nil => simp [ebs]
  | cons x l ih =>
    have h1 : ebs (x :: l) = enc x.1 ++ ebs l := by simp [ebs]
    have h2 := enc_len x.1
    rw [h1, List.length_append, List.length_cons]
    omega
theorem refBack_l1 {k : Nat} {v : List (Int × Int × Int × Bool × Unit)} (hv : v.length ≤ 200000) : ∀ n i (out : List UInt8), i ≤ v.length → v.length - i < n → out.length + 4 * (v.length - i) ≤ 1000000 → r01_Back_l1 k (v, 0) n (i : Int) (bytesEl out) = some (out ++ ebs (v.drop i), 0) := by
  intro n
  induction n with
  | zero => intro i out _ h; omega
  | succ n ih =>
    intro i out h1 h2 h3
    unfold r01_Back_l1 r01_Back_b1
    by_cases hi : i < v.length
    · have hel := enc_len v[i].1
      rw [if_pos (decide_eq_true (show (i : Int) < (v.length : Int) by omega)), at_drop, List.getElem?_eq_getElem hi]
      simp only [Option.bind, one_ok]
      rw [chk_ok (by unfold lim; rw [bytesEl_len, bytesEl_len]; omega), bytesEl_append, show wi64 ((i : Int) + 1) = ((i + 1 : Nat) : Int) by rw [wi64_id] <;> omega]
      simp only []
      rw [ih (i + 1) (out ++ enc v[i].1) (by omega) (by omega) (by rw [List.length_append]; omega), List.drop_eq_getElem_cons hi, List.append_assoc]
      rfl
    · rw [if_neg (by simp only [decide_eq_true_eq]; omega), List.drop_eq_nil_of_le (by omega), bytesStr_bytesEl]
      simp [ebs]
theorem refBack_ok {k : Nat} {s : List UInt8} (hk : 80000 ≤ k) (hs : s.length ≤ 65536) : r01_Back k s = some (ebs (pl s 0), 0) := by
  have hl := pl_len s
  unfold r01_Back
  simp only [refPieces_ok hk hs, Option.bind]
  rw [if_neg (by simp)]
  have := refBack_l1 (k := k) (v := pl s 0) (by omega) k 0 [] (by omega) (by omega) (by simp only [List.length_nil]; omega)
  simpa [bytesEl] using this

theorem runesAt_pl (s : List UInt8) : ∀ n p, p ≤ s.length → s.length - p ≤ n → runesAt s n p = (pl s p).map (·.1) := by
  intro n
  induction n with
  | zero =>
    intro p h1 h2
    rw [pl_nil (p := p) (by omega)]
    rfl
  | succ n ih =>
    intro p h1 h2
    unfold runesAt
    by_cases hp : p < s.length
    · have hg := g_size s p hp
      have e := decode_g s p
      have e' : Utf8.decode (bytesOf s) p = g s p := e
      rw [if_pos hp, e', ih _ hg.2.1 (by omega), pl_cons hp]
      rfl
    · rw [if_neg hp, pl_nil hp]
      rfl
theorem strRunes_pl (s : List UInt8) : strRunes s = (pl s 0).map (·.1) := runesAt_pl s _ 0 (by omega) (by omega)
theorem runesStr_enc (xs : List Int) : runesStr xs = xs.flatMap enc := by
  have key : ∀ (xs : List Int) (a : List UInt8), (xs.foldl (fun r n => r ++ Utf8.encode n) (bytesOf a)) = bytesOf (a ++ xs.flatMap enc) := by
    intro xs
    induction xs with
    | nil => intro a; simp
    | cons x xs ih =>
      intro a
      rw [List.foldl_cons]
      have e : Utf8.encode x = bytesOf (enc x) := by unfold enc bytesOf; simp
      rw [e, bytesOf_append, ih]
      simp
  have h := key xs []
  unfold runesStr runesBytes
  have e0 : ByteArray.empty = bytesOf [] := rfl
  rw [e0, h]
  simp [bytesOf]
theorem runesStr_pl (s : List UInt8) : runesStr (strRunes s) = ebs (pl s 0) := by
  rw [runesStr_enc, strRunes_pl]
  simp [ebs, List.flatMap_map]
theorem Back_ok {k : Nat} {s : List UInt8} (hs : s.length ≤ 65536) : runes_Back k s = some (ebs (pl s 0), 0) := by
  have hl := pl_len s
  have he := ebs_len (pl s 0)
  unfold runes_Back
  simp only [long_ok hs, Option.bind]
  rw [if_neg (by simp), chk_ok (by unfold lim; omega)]
  simp only [runesStr_pl]
  rw [chk_ok (by unfold lim; omega)]

theorem Same_l1 {v : List (Int × Int × Int × Bool × Unit)} (hv : v.length ≤ 200000) : ∀ n i, i ≤ v.length → v.length - i < n → r01_Same_l1 v v n (i : Int) = some true := by
  intro n
  induction n with
  | zero => intro i _ h; omega
  | succ n ih =>
    intro i h1 h2
    unfold r01_Same_l1 r01_Same_b1
    by_cases hi : i < v.length
    · rw [if_pos (decide_eq_true (show (i : Int) < (v.length : Int) by omega)), at_drop, List.getElem?_eq_getElem hi]
      simp only [Option.bind]
      rw [if_neg (by simp [eqInt, eqBool]), show wi64 ((i : Int) + 1) = ((i + 1 : Nat) : Int) by rw [wi64_id] <;> omega]
      exact ih _ (by omega) (by omega)
    · rw [if_neg (by simp only [decide_eq_true_eq]; omega)]
theorem Same_ok {k : Nat} {v : List (Int × Int × Int × Bool × Unit)} (hv : v.length ≤ 65536) (hk : 80000 ≤ k) : r01_Same k v v = some true := by
  unfold r01_Same
  rw [if_neg (by simp)]
  exact Same_l1 (by omega) k 0 (by omega) (by omega)

theorem RunesTexts_l1 {k : Nat} {s : List UInt8} {c : List (Int × Int × Int × Bool × Unit)} {e : Int} (hp : runes_Pieces_i1 k s = some (e, c)) (hk : 80000 ≤ k) (hc : c.length ≤ 65536) :
    ∀ n i (t : List (Int × Int × Int × Bool × Unit)), i ≤ t.length → t.length - i < n → t.length ≤ 200000 → l01_RunesTexts_l1 k s (c, e) n (i : Int) t = some true := by
  intro n
  induction n with
  | zero => intro i t _ h; omega
  | succ n ih =>
    intro i t h1 h2 h3
    unfold l01_RunesTexts_l1 l01_RunesTexts_b1
    by_cases hi : i < t.length
    · rw [if_pos (decide_eq_true (show (i : Int) < (t.length : Int) by omega)), at_drop, List.getElem?_eq_getElem hi]
      simp only [Option.bind]
      rw [show wi64 ((i : Int) + 1) = ((i + 1 : Nat) : Int) by rw [wi64_id] <;> omega]
      exact ih _ _ (by rw [List.length_set]; omega) (by rw [List.length_set]; omega) (by rw [List.length_set]; omega)
    · rw [if_neg (by simp only [decide_eq_true_eq]; omega)]
      simp only [hp, Option.bind, beq_self_eq_true, if_true, Same_ok hc hk, l01_RunesTexts_j10]
theorem RunesTexts_true {k : Nat} (hk : 80000 ≤ k) (s : List UInt8) (i j : Int) : l01_RunesTexts k s i j = some true := by
  unfold l01_RunesTexts l01_long l01_long_j1 l01_long_j2
  simp only [Option.bind]
  by_cases h1 : s.length ≤ 3000
  · have hl := pl_len s
    have d : ((decide ((3000 : Int) < (s.length : Int)) && decide ((s.length : Int) ≤ 65536)) || decide ((66000 : Int) < (s.length : Int))) = false := by simp; omega
    have hs : s.length ≤ 65536 := by omega
    rw [d, if_neg (by decide)]
    simp only [Pieces_i1_ok hk hs, refPieces_ok hk hs, Len_ok hk hs, refLen_ok hk hs, Broken_ok hk hs, refBroken_ok hk hs, Part_ok hk hs, refPart_ok hk hs, Back_ok hs, refBack_ok hk hs]
    simp only [l01_RunesTexts_j1, l01_RunesTexts_j2, l01_RunesTexts_j3, l01_RunesTexts_j4, l01_RunesTexts_j5, l01_RunesTexts_j6, l01_RunesTexts_j7, l01_RunesTexts_j8, l01_RunesTexts_j9, bne_self_eq_false, Bool.or_false, beq_self_eq_true, Bool.not_true, Bool.false_eq_true, if_false]
    rw [Same_ok (by omega) hk]
    simp only [Option.bind, Bool.not_true, Bool.false_eq_true, if_false]
    exact RunesTexts_l1 (Pieces_i1_ok hk hs) hk (by omega) k 0 _ (by omega) (by omega) (by omega)
  · by_cases h2 : s.length ≤ 65536 ∨ 66000 < s.length
    · have d : ((decide ((3000 : Int) < (s.length : Int)) && decide ((s.length : Int) ≤ 65536)) || decide ((66000 : Int) < (s.length : Int))) = true := by simp; omega
      rw [d, if_pos rfl]
    · have d : ((decide ((3000 : Int) < (s.length : Int)) && decide ((s.length : Int) ≤ 65536)) || decide ((66000 : Int) < (s.length : Int))) = false := by simp; omega
      have hs : 65536 < s.length := by omega
      rw [d, if_neg (by decide)]
      have p1 : runes_Pieces_i1 k s = some (3, []) := by unfold runes_Pieces_i1; rw [long_no hs]; rfl
      have p2 : r01_Pieces k s = some ([], 3) := by unfold r01_Pieces; rw [if_pos (by simp only [decide_eq_true_eq]; omega)]
      have p3 : runes_Pieces k s = some ([], 3) := by unfold runes_Pieces; rw [long_no hs]; rfl
      have p4 : runes_Len k s = some (0, 3) := by unfold runes_Len; rw [long_no hs]; rfl
      have p5 : r01_Len k s = some (0, 3) := by unfold r01_Len; rw [p2]; rfl
      have p6 : runes_Broken k s = some (0, 3) := by unfold runes_Broken; rw [long_no hs]; rfl
      have p7 : r01_Broken k s = some (0, 3) := by unfold r01_Broken; rw [p2]; rfl
      have p8 : runes_Part k s i j = some ([], 3) := by unfold runes_Part; rw [p3]; rfl
      have p9 : r01_Part k s i j = some ([], 3) := by unfold r01_Part; rw [p2]; rfl
      have p10 : runes_Back k s = some ([], 3) := by unfold runes_Back; rw [long_no hs]; rfl
      have p11 : r01_Back k s = some ([], 3) := by unfold r01_Back; rw [p2]; rfl
      simp only [p1, p2, p4, p5, p6, p7, p8, p9, p10, p11]
      simp only [l01_RunesTexts_j1, l01_RunesTexts_j2, l01_RunesTexts_j3, l01_RunesTexts_j4, l01_RunesTexts_j5, l01_RunesTexts_j6, l01_RunesTexts_j7, l01_RunesTexts_j8, l01_RunesTexts_j9, bne_self_eq_false, Bool.or_false, beq_self_eq_true, Bool.not_true, Bool.false_eq_true, if_false]
      rw [Same_ok (by simp only [List.length_nil]; omega) hk]
      simp only [Option.bind, Bool.not_true, Bool.false_eq_true, if_false]
      exact RunesTexts_l1 p1 hk (by simp only [List.length_nil]; omega) k 0 _ (by omega) (by simp only [List.length_nil]; omega) (by simp only [List.length_nil]; omega)
def K_RunesTexts : Nat := 80000
theorem RunesTexts_true' (s : List UInt8) (i j : Int) : l01_RunesTexts K_RunesTexts s i j = some true := RunesTexts_true (by unfold K_RunesTexts; omega) s i j
end Go.Ev

namespace Go.Ev
open Go
set_option linter.unusedVariables false

theorem gb_of (s : List UInt8) (i : Nat) : s.getD i 0 = UInt8.ofNat (gb s i) := by unfold gb; simp
theorem seg_bytes {s : List UInt8} {p n : Nat} (h : p + n ≤ s.length) : seg s p (p + n) = (List.range n).map fun j => UInt8.ofNat (gb s (p + j)) := by
  apply List.ext_getElem
  · rw [seg_len h]; simp
  · intro i h1 h2
    have hi : i < n := by simpa using h2
    have : s[p + i]'(by omega) = UInt8.ofNat (gb s (p + i)) := by
      rw [← gb_of, List.getD_eq_getElem?_getD, List.getElem?_eq_getElem (by omega)]; rfl
    simp only [seg, List.getElem_drop, List.getElem_take, List.getElem_map, List.getElem_range, this]
/-- A good piece's bytes are its rune's. -/
theorem seg_enc {s : List UInt8} {p : Nat} (h : p < s.length) (hb : bad s p = false) : seg s p (p + (g s p).2) = encN (g s p).1 := by
  have hsz := g_size s p h
  rw [seg_bytes hsz.2.1]
  have h0 := gb_lt s p; have h1 := gb_lt s (p + 1); have h2 := gb_lt s (p + 2); have h3 := gb_lt s (p + 3)
  have hb' : ¬ ((g s p).1 = 65533 ∧ (g s p).2 = 1) := fun hc => by unfold bad at hb; simp [hc.1, hc.2] at hb
  clear hb
  unfold g Lib.decodeN at *
  split
  · rename_i c1
    simp [encN, c1]
  · rename_i c1
    rw [if_neg c1] at hb'
    split
    · rename_i c2
      rw [if_pos c2] at hb'
      split
      · rename_i c3
        have e1 : ¬ (gb s p % 32 * 64 + gb s (p + 1) % 64 < 128) := by omega
        have e2 : gb s p % 32 * 64 + gb s (p + 1) % 64 < 2048 := by omega
        simp only [encN, if_neg e1, if_pos e2, List.range, List.range.loop, List.map, Nat.add_zero]
        rw [show 192 + (gb s p % 32 * 64 + gb s (p + 1) % 64) / 64 = gb s p by omega, show 128 + (gb s p % 32 * 64 + gb s (p + 1) % 64) % 64 = gb s (p + 1) by omega]
      · rename_i c3; rw [if_neg c3] at hb'; exact absurd ⟨rfl, rfl⟩ hb'
    · rename_i c2
      rw [if_neg c2] at hb'
      split
      · rename_i c3
        rw [if_pos c3] at hb'
        split
        · rename_i c4
          have e1 : ¬ (gb s p % 16 * 4096 + gb s (p + 1) % 64 * 64 + gb s (p + 2) % 64 < 128) := by omega
          have e2 : ¬ (gb s p % 16 * 4096 + gb s (p + 1) % 64 * 64 + gb s (p + 2) % 64 < 2048) := by omega
          have e3 : gb s p % 16 * 4096 + gb s (p + 1) % 64 * 64 + gb s (p + 2) % 64 < 65536 := by omega
          simp only [encN, if_neg e1, if_neg e2, if_pos e3, List.range, List.range.loop, List.map, Nat.add_zero]
          rw [show 224 + (gb s p % 16 * 4096 + gb s (p + 1) % 64 * 64 + gb s (p + 2) % 64) / 4096 = gb s p by omega,
            show 128 + (gb s p % 16 * 4096 + gb s (p + 1) % 64 * 64 + gb s (p + 2) % 64) / 64 % 64 = gb s (p + 1) by omega,
            show 128 + (gb s p % 16 * 4096 + gb s (p + 1) % 64 * 64 + gb s (p + 2) % 64) % 64 = gb s (p + 2) by omega]
        · rename_i c4; rw [if_neg c4] at hb'; exact absurd ⟨rfl, rfl⟩ hb'
      · rename_i c3
        rw [if_neg c3] at hb'
        split
        · rename_i c4
          rw [if_pos c4] at hb'
          split
          · rename_i c5
            have e1 : ¬ (gb s p % 8 * 262144 + gb s (p + 1) % 64 * 4096 + gb s (p + 2) % 64 * 64 + gb s (p + 3) % 64 < 128) := by omega
            have e2 : ¬ (gb s p % 8 * 262144 + gb s (p + 1) % 64 * 4096 + gb s (p + 2) % 64 * 64 + gb s (p + 3) % 64 < 2048) := by omega
            have e3 : ¬ (gb s p % 8 * 262144 + gb s (p + 1) % 64 * 4096 + gb s (p + 2) % 64 * 64 + gb s (p + 3) % 64 < 65536) := by omega
            simp only [encN, if_neg e1, if_neg e2, if_neg e3, List.range, List.range.loop, List.map, Nat.add_zero]
            rw [show 240 + (gb s p % 8 * 262144 + gb s (p + 1) % 64 * 4096 + gb s (p + 2) % 64 * 64 + gb s (p + 3) % 64) / 262144 = gb s p by omega,
              show 128 + (gb s p % 8 * 262144 + gb s (p + 1) % 64 * 4096 + gb s (p + 2) % 64 * 64 + gb s (p + 3) % 64) / 4096 % 64 = gb s (p + 1) by omega,
              show 128 + (gb s p % 8 * 262144 + gb s (p + 1) % 64 * 4096 + gb s (p + 2) % 64 * 64 + gb s (p + 3) % 64) / 64 % 64 = gb s (p + 2) by omega,
              show 128 + (gb s p % 8 * 262144 + gb s (p + 1) % 64 * 4096 + gb s (p + 2) % 64 * 64 + gb s (p + 3) % 64) % 64 = gb s (p + 3) by omega]
          · rename_i c5; rw [if_neg c5] at hb'; exact absurd ⟨rfl, rfl⟩ hb'
        · rename_i c4; rw [if_neg c4] at hb'; exact absurd ⟨rfl, rfl⟩ hb'

/-- A rune that may be. -/
def okR (c : Nat) : Prop := c < 55296 ∨ (57344 ≤ c ∧ c ≤ 1114111)
theorem g_ok (s : List UInt8) (p : Nat) : okR (g s p).1 := by
  unfold okR
  rcases g_kinds0 s p with h | h | h | h | h <;> omega
theorem enc_ok {c : Nat} (h : okR c) : enc (c : Int) = encN c := by
  unfold okR at h
  rw [enc_eq]
  have : Utf8.valid (c : Int) = true := by unfold Utf8.valid; simp; omega
  rw [this, if_pos rfl, Int.toNat_natCast]
theorem gb_app (a b : List UInt8) (i : Nat) (h : i < a.length) : gb (a ++ b) i = gb a i := by
  unfold gb
  rw [List.getD_eq_getElem?_getD, List.getD_eq_getElem?_getD, List.getElem?_append_left h]
/-- A rune's bytes read as that rune. -/
theorem g_enc {c : Nat} (h : okR c) (rest : List UInt8) : g (encN c ++ rest) 0 = (c, (encN c).length) := by
  unfold okR at h
  have t : ∀ n : Nat, (UInt8.ofNat n).toNat = n % 256 := fun n => by simp
  unfold g
  rw [List.length_append, Nat.sub_zero]
  unfold encN
  by_cases c1 : c < 128
  · simp only [if_pos c1, gb, List.cons_append, List.getD_cons_zero, t, Lib.decodeN]
    rw [if_pos (by omega)]; simp; omega
  rw [if_neg c1]
  by_cases c2 : c < 2048
  · simp only [if_pos c2, gb, List.cons_append, List.getD_cons_zero, List.getD_cons_succ, t, Lib.decodeN, List.length_cons, Nat.zero_add]
    rw [if_neg (by omega), if_pos (by omega), if_pos (by omega)]
    simp; omega
  rw [if_neg c2]
  by_cases c3 : c < 65536
  · simp only [if_pos c3, gb, List.cons_append, List.getD_cons_zero, List.getD_cons_succ, t, Lib.decodeN, List.length_cons, Nat.zero_add]
    rw [if_neg (by omega), if_neg (by omega), if_pos (by omega), if_pos (by omega)]
    simp; omega
  · simp only [if_neg c3, gb, List.cons_append, List.getD_cons_zero, List.getD_cons_succ, t, Lib.decodeN, List.length_cons, Nat.zero_add]
    rw [if_neg (by omega), if_neg (by omega), if_neg (by omega), if_pos (by omega), if_pos (by omega)]
    simp; omega
theorem encN_pos (c : Nat) : 0 < (encN c).length := by
  unfold encN
  repeat' split
  all_goals simp
theorem encN_one {c : Nat} (h : (encN c).length = 1) : c < 128 := by
  unfold encN at h
  by_cases c1 : c < 128
  · exact c1
  · rw [if_neg c1] at h
    revert h
    repeat' split
    all_goals simp

/-- The pieces of runes' bytes are these runes, none broken. -/
theorem pl_enc : ∀ (xs : List Nat) (pre : List UInt8), (∀ x ∈ xs, okR x) → (pl (pre ++ xs.flatMap encN) pre.length).map (fun x => (x.1, x.2.2.2.1)) = xs.map fun (x : Nat) => ((x : Int), false)
  | [], pre, _ => by rw [pl_nil (by simp)]; rfl
  | x :: xs, pre, h => by
    have hx := h x List.mem_cons_self
    have hp := encN_pos x
    have e : g (pre ++ (x :: xs).flatMap encN) pre.length = (x, (encN x).length) := by
      have := g_drop (pre ++ (x :: xs).flatMap encN) pre.length 0
      rw [Nat.add_zero, List.drop_left] at this
      rw [← this, List.flatMap_cons, g_enc hx]
    rw [pl_cons (by simp only [List.length_append, List.flatMap_cons]; omega), List.map_cons, List.map_cons]
    congr 1
    · unfold pc bad
      rw [e]
      simp only [Prod.mk.injEq, true_and]
      by_cases hl : (encN x).length = 1
      · have := encN_one hl
        simp; omega
      · simp [hl]
    · rw [e]
      have := pl_enc xs (pre ++ encN x) (fun y hy => h y (List.mem_cons_of_mem _ hy))
      rw [List.length_append, List.append_assoc] at this
      exact this

/-- A text's runes, as numbers. -/
def rl (s : List UInt8) : List Nat := (pl s 0).map fun x => x.1.toNat
theorem pl_mem {s : List UInt8} : ∀ n p, s.length - p < n → ∀ x ∈ pl s p, ∃ q, q < s.length ∧ x = pc s q := by
  intro n
  induction n with
  | zero => intro p h; omega
  | succ n ih =>
    intro p h x hx
    by_cases hp : p < s.length
    · have := g_size s p hp
      rw [pl_cons hp] at hx
      rcases List.mem_cons.1 hx with hx | hx
      · exact ⟨p, hp, hx⟩
      · exact ih _ (by omega) x hx
    · rw [pl_nil hp] at hx; cases hx
theorem rl_ok (s : List UInt8) : ∀ x ∈ rl s, okR x := by
  intro x hx
  obtain ⟨y, hy, rfl⟩ := List.mem_map.1 hx
  obtain ⟨q, _, rfl⟩ := pl_mem (s.length + 1) 0 (by omega) y hy
  exact g_ok s q
theorem ebs_rl (s : List UInt8) : ebs (pl s 0) = (rl s).flatMap encN := by
  unfold ebs rl
  rw [List.flatMap_map]
  have : ∀ l : List (Int × Int × Int × Bool × Unit), (∀ x ∈ l, ∃ q, q < s.length ∧ x = pc s q) → l.flatMap (fun x => enc x.1) = l.flatMap fun x => encN x.1.toNat := by
    intro l
    induction l with
    | nil => intro _; rfl
    | cons x l ih =>
      intro h
      rw [List.flatMap_cons, List.flatMap_cons, ih fun y hy => h y (List.mem_cons_of_mem _ hy)]
      obtain ⟨q, _, rfl⟩ := h x List.mem_cons_self
      have e1 : enc (pc s q).1 = encN (pc s q).1.toNat := enc_ok (g_ok s q)
      rw [e1]
  exact this _ (pl_mem (s.length + 1) 0 (by omega))
/-- The mended text's pieces. -/
theorem pl_mended (s : List UInt8) : (pl (ebs (pl s 0)) 0).map (fun x => (x.1, x.2.2.2.1)) = (rl s).map fun (x : Nat) => ((x : Int), false) := by
  have := pl_enc (rl s) [] (rl_ok s)
  rw [List.nil_append, ← ebs_rl] at this
  exact this
theorem mended_length (s : List UInt8) : (pl (ebs (pl s 0)) 0).length = (pl s 0).length := by
  have := congrArg List.length (pl_mended s)
  rw [List.length_map, List.length_map] at this
  rw [this]; unfold rl; rw [List.length_map]
theorem mended_whole : ∀ {l : List (Int × Int × Int × Bool × Unit)} {xs : List Nat}, l.map (fun x => (x.1, x.2.2.2.1)) = xs.map (fun (x : Nat) => ((x : Int), false)) → brk l = -1
  | [], _, _ => rfl
  | x :: l, [], h => by cases h
  | x :: l, y :: xs, h => by
    rw [List.map_cons, List.map_cons] at h
    injection h with h1 h2
    have h3 : x.2.2.2.1 = false := congrArg Prod.snd h1
    unfold brk
    rw [h3, if_neg (by decide)]
    exact mended_whole h2
theorem ebs_map (l : List (Int × Int × Int × Bool × Unit)) : ebs l = (l.map fun x => x.1).flatMap enc := by unfold ebs; rw [List.flatMap_map]
theorem runes_rl (s : List UInt8) : (pl s 0).map (fun x => x.1) = (rl s).map fun (x : Nat) => (x : Int) := by
  unfold rl
  rw [List.map_map]
  apply List.map_congr_left
  intro x hx
  obtain ⟨q, _, rfl⟩ := pl_mem (s.length + 1) 0 (by omega) x hx
  rfl
theorem mended_runes (s : List UInt8) : (pl (ebs (pl s 0)) 0).map (fun x => x.1) = (rl s).map fun (x : Nat) => (x : Int) := by
  have h := congrArg (List.map Prod.fst) (pl_mended s)
  rw [List.map_map, List.map_map] at h
  exact h
theorem mended_again (s : List UInt8) : ebs (pl (ebs (pl s 0)) 0) = ebs (pl s 0) := by
  rw [ebs_map (pl (ebs (pl s 0)) 0), mended_runes, ebs_map (pl s 0), runes_rl]
end Go.Ev

namespace Go.Ev
open Go
set_option linter.unusedVariables false
set_option maxRecDepth 100000

theorem wf_i64 {n : Int} (h : (Lit.int .i64 n).wf = true) : -9223372036854775808 ≤ n ∧ n < 9223372036854775808 := by
  simp [Lit.wf, IntKind.min, IntKind.max, IntKind.bits, IntKind.signed] at h
  omega
theorem alive_true : l01_alive 80000 = some true := by decide +kernel

/-- The weights of a text's pieces. -/
def wl (s : List UInt8) (p : Nat) : List Nat :=
  if h : p < s.length then wt s p :: wl s (p + (g s p).2) else []
  termination_by s.length - p
  decreasing_by
    have := g_size s p h
    omega
theorem wl_cons {s : List UInt8} {p : Nat} (h : p < s.length) : wl s p = wt s p :: wl s (p + (g s p).2) := by rw [wl, dif_pos h]
theorem wl_nil {s : List UInt8} {p : Nat} (h : ¬ p < s.length) : wl s p = [] := by rw [wl, dif_neg h]
def lex : List Nat → List Nat → Bool
  | [], [] => false
  | [], _ :: _ => true
  | _ :: _, [] => false
  | x :: xs, y :: ys => if x = y then lex xs ys else decide (x < y)
theorem cmp_lex {a b : List UInt8} : ∀ n p q, a.length - p < n → cmp a b p q = lex (wl a p) (wl b q) := by
  intro n
  induction n with
  | zero => intro p q h; omega
  | succ n ih =>
    intro p q h
    by_cases hp : p < a.length
    · have hg := g_size a p hp
      by_cases hq : q < b.length
      · rw [cmp_step ⟨hp, hq⟩, wl_cons hp, wl_cons hq, lex, ih _ _ (by omega)]
      · rw [cmp_end (by omega), wl_cons hp, wl_nil hq, lex]; simp [hp]
    · by_cases hq : q < b.length
      · rw [cmp_end (by omega), wl_nil hp, wl_cons hq, lex]; simp [hp, hq]
      · rw [cmp_end (by omega), wl_nil hp, wl_nil hq, lex]; simp [hq]
theorem lex_irr : ∀ l, lex l l = false
  | [] => rfl
  | x :: l => by rw [lex, if_pos rfl]; exact lex_irr l
theorem lex_asymm : ∀ l m, lex l m = true → lex m l = false
  | [], [], h => by cases h
  | [], _ :: _, _ => rfl
  | _ :: _, [], h => by cases h
  | x :: xs, y :: ys, h => by
    unfold lex at h ⊢
    by_cases e : x = y
    · rw [if_pos e] at h; rw [if_pos e.symm]; exact lex_asymm _ _ h
    · rw [if_neg e] at h; rw [if_neg (Ne.symm e)]; simp at h ⊢; omega
theorem lex_total : ∀ l m, lex l m = false → lex m l = false → l = m
  | [], [], _, _ => rfl
  | [], _ :: _, h, _ => by cases h
  | _ :: _, [], _, h => by cases h
  | x :: xs, y :: ys, h, k => by
    unfold lex at h k
    by_cases e : x = y
    · rw [if_pos e] at h; rw [if_pos e.symm] at k; rw [e, lex_total _ _ h k]
    · rw [if_neg e] at h; rw [if_neg (Ne.symm e)] at k; simp at h k; omega
theorem lex_trans : ∀ l m n, lex l m = true → lex m n = true → lex l n = true
  | [], [], _, h, _ => by cases h
  | [], _ :: _, [], _, k => by cases k
  | [], _ :: _, _ :: _, _, _ => rfl
  | _ :: _, [], _, h, _ => by cases h
  | _ :: _, _ :: _, [], _, k => by cases k
  | x :: xs, y :: ys, z :: zs, h, k => by
    unfold lex at h k ⊢
    by_cases e : x = y
    · rw [if_pos e] at h
      subst e
      by_cases f : x = z
      · rw [if_pos f] at k ⊢; exact lex_trans _ _ _ h k
      · rw [if_neg f] at k ⊢; exact k
    · rw [if_neg e] at h
      by_cases f : y = z
      · subst f; rw [if_neg e]; exact h
      · rw [if_neg f] at k
        simp at h k
        rw [if_neg (by omega)]; simp; omega
/-- What weighs so. -/
def unw (w : Nat) : List UInt8 := if 1114112 ≤ w then [UInt8.ofNat (w - 1114112)] else encN w
theorem drop_unw {s : List UInt8} : ∀ n p, p ≤ s.length → s.length - p < n → s.drop p = (wl s p).flatMap unw := by
  intro n
  induction n with
  | zero => intro p _ h; omega
  | succ n ih =>
    intro p h1 h2
    by_cases hp : p < s.length
    · have hg := g_size s p hp
      have e : s.drop p = seg s p (p + (g s p).2) ++ s.drop (p + (g s p).2) := by
        unfold seg
        conv => lhs; rw [← List.take_append_drop (p + (g s p).2) s]
        rw [List.drop_append_of_le_length (by rw [List.length_take]; omega)]
      rw [e, ih _ hg.2.1 (by omega), wl_cons hp, List.flatMap_cons]
      congr 1
      unfold wt unw
      cases hb : bad s p with
      | true =>
        have := bad_iff hb
        rw [if_pos rfl, if_pos (by omega), seg_bytes hg.2.1, this.2]
        simp
      | false =>
        have := g_rune s p
        rw [if_neg (show ¬ (false = true) by decide), if_neg (by omega)]
        exact seg_enc hp hb
    · rw [wl_nil hp, List.drop_eq_nil_of_le (by omega)]; rfl
theorem wl_inj {a b : List UInt8} (h : wl a 0 = wl b 0) : a = b := by
  have e1 := drop_unw (s := a) (a.length + 1) 0 (by omega) (by omega)
  have e2 := drop_unw (s := b) (b.length + 1) 0 (by omega) (by omega)
  rw [List.drop_zero] at e1 e2
  rw [e1, e2, h]
theorem Less_lex {k : Nat} {a b : List UInt8} (hk : a.length < k) : runes_Less k a b = some (lex (wl a 0) (wl b 0)) := by
  rw [Less_prog hk, cmp_lex (a.length + 1) 0 0 (by omega)]

def K_RunesRows : Nat := 80000
theorem RunesRows_true' (a b c : List UInt8) : l01_RunesRows K_RunesRows a b c = some true := by
  unfold K_RunesRows l01_RunesRows l01_RunesRows_j1 l01_RunesRows_j2
  by_cases h : a.length ≤ 5000 ∧ b.length ≤ 5000 ∧ c.length ≤ 5000
  · have t : ((decide ((5000 : Int) < (List.length a : Int)) || (decide ((5000 : Int) < (List.length b : Int)))) || decide ((5000 : Int) < (List.length c : Int))) = false := by simp; omega
    rw [t]
    simp only [Bool.false_eq_true, if_false, Less_lex (show a.length < 80000 by omega), Less_lex (show b.length < 80000 by omega), alive_true, Option.bind, lex_irr]
    simp only [Bool.not_true, Bool.false_eq_true, if_false]
    have tr := lex_trans (wl a 0) (wl b 0) (wl c 0)
    have as1 := lex_asymm (wl a 0) (wl b 0)
    have tt := lex_total (wl a 0) (wl b 0)
    have ir : a = b → lex (wl a 0) (wl b 0) = false := fun e => by rw [e]; exact lex_irr _
    have ir2 : a = b → lex (wl b 0) (wl a 0) = false := fun e => by rw [e]; exact lex_irr _
    have key : (a == b) = (!(lex (wl a 0) (wl b 0)) && !(lex (wl b 0) (wl a 0))) := by
      rw [Bool.eq_iff_iff]
      constructor
      · intro e
        have e := eq_of_beq e
        rw [ir e, ir2 e]; rfl
      · intro e
        simp at e
        exact beq_iff_eq.2 (wl_inj (tt e.1 e.2))
    unfold l01_RunesRows_j3
    simp only [Bool.false_eq_true, if_false, l01_RunesRows_j9, l01_RunesRows_j4, l01_RunesRows_j8, l01_RunesRows_j5, l01_RunesRows_j6, l01_RunesRows_j7, key]
    revert tr as1
    cases lex (wl a 0) (wl b 0) <;> cases lex (wl b 0) (wl a 0) <;> cases lex (wl b 0) (wl c 0) <;> cases lex (wl a 0) (wl c 0) <;> simp
  · have t : ((decide ((5000 : Int) < (List.length a : Int)) || (decide ((5000 : Int) < (List.length b : Int)))) || decide ((5000 : Int) < (List.length c : Int))) = true := by simp; omega
    rw [t]
    simp only [if_true, alive_true, Option.bind]

/-- A place among so many. -/
theorem place_mod {k1 : Int} {m : Nat} (hm : 0 < m) (hm2 : m ≤ 100000) (hk : -9223372036854775808 ≤ k1 ∧ k1 < 9223372036854775808) : ∃ a : Nat, a < m ∧ Int.tmod (wi64 (Int.tmod k1 (m : Int) + (m : Int))) (m : Int) = (a : Int) := by
  have h1 : -(m : Int) < Int.tmod k1 m ∧ Int.tmod k1 m < m := by
    rcases Int.le_total 0 k1 with h | h
    · rw [Int.tmod_eq_emod_of_nonneg h]
      have := Int.emod_nonneg k1 (show (m : Int) ≠ 0 by omega)
      have := Int.emod_lt_of_pos k1 (show (0 : Int) < m by omega)
      omega
    · have e : Int.tmod k1 m = -(Int.tmod (-k1) m) := by rw [Int.neg_tmod]; omega
      rw [e, Int.tmod_eq_emod_of_nonneg (by omega)]
      have := Int.emod_nonneg (-k1) (show (m : Int) ≠ 0 by omega)
      have := Int.emod_lt_of_pos (-k1) (show (0 : Int) < m by omega)
      omega
  rw [wi64_id (by omega) (by omega), Int.tmod_eq_emod_of_nonneg (by omega)]
  have h2 := Int.emod_nonneg (Int.tmod k1 m + m) (show (m : Int) ≠ 0 by omega)
  have h3 := Int.emod_lt_of_pos (Int.tmod k1 m + m) (show (0 : Int) < m by omega)
  exact ⟨((Int.tmod k1 m + m) % m).toNat, by omega, by omega⟩

/-- The pieces, gone through. -/
theorem RunesBack_l1 {s : List UInt8} {k1 : Int} (hs : s.length ≤ 5000) (hk : -9223372036854775808 ≤ k1 ∧ k1 < 9223372036854775808) : ∀ n i (all : List Int), i ≤ (pl s 0).length → (pl s 0).length - i < n → all = ((pl s 0).take i).map (fun x => x.1) →
    l01_RunesBack_l1 80000 (pl s 0, 0) s k1 true n (plc s i : Int) (i : Int) all = some true := by
  have hl := pl_len s
  intro n
  induction n with
  | zero => intro i all _ h; omega
  | succ n ih =>
    intro i all h1 h2 h3
    unfold l01_RunesBack_l1 l01_RunesBack_b1
    by_cases hi : i < (pl s 0).length
    · obtain ⟨q1, q2⟩ := plc_at hi
      have hg := g_size s _ q1
      have hal : all.length ≤ 5000 := by rw [h3]; simp; omega
      rw [if_pos (decide_eq_true (show (i : Int) < ((pl s 0).length : Int) by omega)), at_drop, q2]
      simp only [Option.bind]
      have e1 : ((pc s (plc s i)).2.1 != (plc s i : Int)) = false := by show ((plc s i : Int) != (plc s i : Int)) = false; simp
      have e2 : (decide ((pc s (plc s i)).2.2.1 < (1 : Int))) = false := by show decide (((g s (plc s i)).2 : Int) < 1) = false; simp only [decide_eq_false_iff_not]; omega
      have e3 : wi64 ((plc s i : Int) + (pc s (plc s i)).2.2.1) = ((plc s i + (g s (plc s i)).2 : Nat) : Int) := by show wi64 ((plc s i : Int) + ((g s (plc s i)).2 : Int)) = _; rw [wi64_id] <;> omega
      have e4 : (decide ((List.length s : Int) < ((plc s i + (g s (plc s i)).2 : Nat) : Int))) = false := by simp only [decide_eq_false_iff_not]; omega
      have e5 : bad s (plc s i) = (((g s (plc s i)).1 : Int) == 65533 && ((g s (plc s i)).2 : Int) == 1) := by unfold bad; rw [Bool.eq_iff_iff]; simp; omega
      have e6 : (pc s (plc s i)).1 = ((g s (plc s i)).1 : Int) := rfl
      have e7 : (pc s (plc s i)).2.2.1 = ((g s (plc s i)).2 : Int) := rfl
      have e8 : (pc s (plc s i)).2.2.2.1 = (((g s (plc s i)).1 : Int) == 65533 && ((g s (plc s i)).2 : Int) == 1) := e5
      unfold l01_RunesBack_j1 l01_RunesBack_j2
      rw [e1, e2, e3, e4]
      simp only [Bool.false_or, Bool.false_eq_true, if_false, sub_all (Nat.le_of_lt q1), utf8_DecodeRuneInString, decodeGo_drop q1, Option.bind_some]
      unfold l01_RunesBack_j3 l01_RunesBack_j5 l01_RunesBack_j4
      simp only [e6, e7, e8, bne_self_eq_false, Bool.or_self, beq_self_eq_true, Bool.not_true, Bool.false_eq_true, if_false]
      rw [chk_ok (by unfold lim; simp only [List.length_cons, List.length_nil]; omega), Option.bind_some]
      have e9 : wi64 ((plc s i : Int) + ((g s (plc s i)).2 : Int)) = (plc s (i + 1) : Int) := e3
      rw [e9, show wi64 ((i : Int) + 1) = ((i + 1 : Nat) : Int) by rw [wi64_id] <;> omega]
      refine ih (i + 1) _ (by omega) (by omega) ?_
      rw [List.take_add_one, q2, List.map_append, h3]
      rfl
    · have hi' : i = (pl s 0).length := by omega
      subst hi'
      rw [if_neg (by simp), plc_end]
      have em : wi64 (((pl s 0).length : Int) + 1) = (((pl s 0).length + 1 : Nat) : Int) := by rw [wi64_id] <;> omega
      simp only [em]
      obtain ⟨a, ha, ea⟩ := place_mod (k1 := k1) (m := (pl s 0).length + 1) (by omega) (by omega) hk
      simp only [ea]
      rw [chk_ok (by omega)]
      have hel := ebs_len (pl s 0)
      have hml := mended_length s
      have hpa := plc_drop s a (by omega)
      have p1 : partOf s 0 (a : Int) = (seg s 0 (plc s a), 0) := by
        unfold partOf; rw [if_neg (by omega)]; rfl
      have p2 : partOf s (a : Int) ((pl s 0).length : Int) = (seg s (plc s a) s.length, 0) := by
        unfold partOf; rw [if_neg (by omega), Int.toNat_natCast, Int.toNat_natCast, plc_end]
      have ha3 : all = (pl s 0).map (fun x => x.1) := by rw [h3, List.take_length]
      have htx : runesStr all = ebs (pl s 0) := by rw [runesStr_enc, ha3, ← ebs_map]
      simp only [Option.bind, Part_ok (Nat.le_refl 80000) (show s.length ≤ 65536 by omega), p1, p2, Back_ok (k := 80000) (show s.length ≤ 65536 by omega), Len_ok (Nat.le_refl 80000) (show (ebs (pl s 0)).length ≤ 65536 by omega), hml]
      unfold l01_RunesBack_j6 l01_RunesBack_j7 l01_RunesBack_j8 l01_RunesBack_j9 l01_RunesBack_j10 l01_RunesBack_j11
      have s1 := seg_len (s := s) (a := 0) (b := plc s a) (by omega)
      have s2 := seg_len (s := s) (a := plc s a) (b := s.length) (by omega)
      have sa : seg s 0 (plc s a) ++ seg s (plc s a) s.length = s := by
        rw [seg_append (by omega) (by omega)]; unfold seg; simp
      simp only [bne_self_eq_false, Bool.or_self, Bool.false_eq_true, if_false]
      rw [chk_ok (by unfold lim; omega)]
      simp only [Option.bind, sa, beq_self_eq_true, Bool.not_true, Bool.or_self, Bool.false_eq_true, if_false]
      have ht : runes_Text 80000 all = some (ebs (pl s 0)) := by unfold runes_Text; rw [htx, chk_ok (by unfold lim; omega)]; rfl
      rw [ht]
      simp only [Option.bind, beq_self_eq_true, Bool.not_true]
      unfold l01_RunesBack_j12
      simp only [Bool.false_eq_true, if_false, Broken_ok (Nat.le_refl 80000) (show (ebs (pl s 0)).length ≤ 65536 by omega), Back_ok (k := 80000) (show (ebs (pl s 0)).length ≤ 65536 by omega), Option.bind, mended_again, mended_whole (pl_mended s)]
      unfold l01_RunesBack_j13 l01_RunesBack_j14 l01_RunesBack_j15 l01_RunesBack_j16
      simp
def K_RunesBack : Nat := 80000
theorem RunesBack_true' (s : List UInt8) (k1 : Int) (hk : -9223372036854775808 ≤ k1 ∧ k1 < 9223372036854775808) : l01_RunesBack K_RunesBack s k1 = some true := by
  unfold K_RunesBack l01_RunesBack
  rw [alive_true]
  simp only [Option.bind]
  by_cases h : s.length ≤ 5000
  · rw [if_neg (by simp only [decide_eq_true_eq]; omega), Pieces_ok (Nat.le_refl 80000) (by omega)]
    have hl := pl_len s
    have := RunesBack_l1 h hk 80000 0 [] (by omega) (by omega) rfl
    simpa [plc] using this
  · rw [if_pos (by simp only [decide_eq_true_eq]; omega)]
end Go.Ev

namespace Go.Ev
open Go
set_option linter.unusedVariables false

def isHx (b : UInt8) : Bool := (decide (48 ≤ b.toNat) && decide (b.toNat ≤ 57)) || (decide (97 ≤ b.toNat) && decide (b.toNat ≤ 102))
def hexs : List UInt8 := [48, 49, 50, 51, 52, 53, 54, 55, 56, 57, 97, 98, 99, 100, 101, 102]
def asH : List Bool := (List.range 256).map fun i => isHx (UInt8.ofNat i)
set_option maxRecDepth 100000 in
theorem asciiSet_hex : strings_makeASCIISet 80000 hexs = some (asH, true) := by decide +kernel
theorem asH_at (b : UInt8) : at? asH (b.toNat : Int) = some (isHx b) := by
  rw [at_drop]
  unfold asH
  rw [List.getElem?_map, List.getElem?_range (UInt8.toNat_lt b)]
  simp
theorem byteAt_cons (b : UInt8) (s : List UInt8) : byteAt (b :: s) 0 = some (b.toNat : Int) := rfl
theorem sub_tail (b : UInt8) (s : List UInt8) : sub? (b :: s) 1 ((b :: s).length : Int) = some s := by
  unfold sub?
  rw [if_pos (by simp only [List.length_cons]; omega)]
  simp [Int.toNat_natCast]
theorem trimHex_l1 : ∀ n (s : List UInt8), s.length < n → strings_trimLeftASCII_l1 80000 asH n s = some (s.dropWhile isHx) := by
  intro n
  induction n with
  | zero => intro s h; omega
  | succ n ih =>
    intro s h
    unfold strings_trimLeftASCII_l1 strings_trimLeftASCII_b1 strings_trimLeftASCII_j1
    cases s with
    | nil => rfl
    | cons b s =>
      rw [if_pos (by simp only [decide_eq_true_eq, List.length_cons]; omega), byteAt_cons]
      unfold strings_asciiSet_contains
      simp only [Option.bind, asH_at]
      cases hb : isHx b with
      | true =>
        rw [if_neg (by simp), sub_tail]
        simp only []
        rw [ih s (by simpa using h), List.dropWhile_cons, if_pos hb]
      | false => rw [if_pos (by simp), List.dropWhile_cons, if_neg (by simp [hb])]
theorem TrimHex {s : List UInt8} (hs : s.length < 80000) : strings_TrimLeft 80000 s hexs = some (s.dropWhile isHx) := by
  unfold strings_TrimLeft strings_TrimLeft_j1 strings_TrimLeft_j2
  cases s with
  | nil => rfl
  | cons b s =>
    rw [if_neg (by simp [hexs]), if_neg (by simp [hexs]), if_neg (by simp), asciiSet_hex]
    simp only [Option.bind, if_true]
    unfold strings_trimLeftASCII
    rw [trimHex_l1 80000 _ hs]

/-- A digit's worth; a numeral's. -/
def dg (b : UInt8) : Nat := if b.toNat ≤ 57 then b.toNat - 48 else b.toNat - 87
def hv (l : List UInt8) : Nat := l.foldl (fun n b => 16 * n + dg b) 0
theorem dg_lt {b : UInt8} (h : isHx b = true) : dg b < 16 := by
  unfold isHx at h
  unfold dg
  simp only [Bool.or_eq_true, Bool.and_eq_true, decide_eq_true_eq] at h
  split <;> omega
theorem hv_snoc (l : List UInt8) (b : UInt8) : hv (l ++ [b]) = 16 * hv l + dg b := by simp [hv, List.foldl_append]

theorem hv_app_le (l m : List UInt8) : hv l ≤ hv (l ++ m) := by
  have : ∀ (m : List UInt8) (a : Nat), a ≤ m.foldl (fun n b => 16 * n + dg b) a := by
    intro m
    induction m with
    | nil => intro a; exact Nat.le_refl _
    | cons b m ih => intro a; rw [List.foldl_cons]; exact Nat.le_trans (by omega) (ih _)
  unfold hv
  rw [List.foldl_append]
  exact this m _
theorem lower_hx (k : Nat) {b : UInt8} (h : isHx b = true) (h2 : 57 < b.toNat) : internal_strconv_lower k (b.toNat : Int) = some (b.toNat : Int) := by
  have key : ∀ n : Fin 256, 97 ≤ n.1 → n.1 ≤ 102 → wu8 (BitVec.toNat (BitVec.ofInt 8 (n.1 : Int) ||| BitVec.ofInt 8 (32 : Int))) = (n.1 : Int) := by decide +kernel
  unfold isHx at h
  simp only [Bool.or_eq_true, Bool.and_eq_true, decide_eq_true_eq] at h
  unfold internal_strconv_lower
  exact congrArg some (key ⟨b.toNat, UInt8.toNat_lt b⟩ (by simp only []; omega) (by simp only []; omega))
theorem parse_j4 {bs n t : Int} {go : Int → Int → Option (Int × Option (Option (Nat × Int)))} {b : UInt8} (h : isHx b = true) :
    internal_strconv_ParseUint_16_j4 80000 n bs go t (b.toNat : Int) = internal_strconv_ParseUint_16_j2 n bs go t (dg b : Int) := by
  have h0 := h
  unfold isHx at h0
  simp only [Bool.or_eq_true, Bool.and_eq_true, decide_eq_true_eq] at h0
  unfold internal_strconv_ParseUint_16_j4 internal_strconv_ParseUint_16_j5 dg
  by_cases hd : b.toNat ≤ 57
  · rw [if_pos (by simp only [Bool.and_eq_true, decide_eq_true_eq]; omega), if_pos hd]
    congr 1
    rw [wu8_id (by omega) (by omega)]
    omega
  · rw [if_neg (by simp only [Bool.and_eq_true, decide_eq_true_eq]; omega), if_neg hd, lower_hx _ h (by omega)]
    simp only [Option.bind]
    rw [if_pos (by simp only [decide_eq_true_eq]; omega)]
    unfold internal_strconv_ParseUint_16_j6
    rw [if_pos (by simp only [decide_eq_true_eq]; omega), lower_hx _ h (by omega)]
    simp only [Option.bind]
    congr 1
    rw [wu8_id (x := (b.toNat : Int) - 97) (by omega) (by omega), wu8_id (by omega) (by omega)]
    omega
theorem wu64_id {x : Int} (h1 : 0 ≤ x) (h2 : x < 18446744073709551616) : wu64 x = x := by
  unfold wu64 IntKind.wrap
  simp [IntKind.bits, IntKind.signed]
  omega
/-- The greatest number of so many bits. -/
def mxB (bs : Int) : Int := wu64 ((wu64 ((1 : Int) * 2 ^ min (wu64 bs).toNat 64)) - (1 : Int))
theorem mxB_8 : mxB 8 = 255 := by decide
theorem mxB_32 : mxB 32 = 4294967295 := by decide
theorem parse_j2 {bs : Int} {n d : Nat} {t : Int} {go : Int → Int → Option (Int × Option (Option (Nat × Int)))} (hd : d < 16) (hn : (n : Int) ≤ 4294967295) :
    internal_strconv_ParseUint_16_j2 (n : Int) bs go t (d : Int) = if mxB bs < ((16 * n + d : Nat) : Int) then some (mxB bs, some (some (101, 1))) else go ((16 * n + d : Nat) : Int) (wi64 (t + 1)) := by
  unfold internal_strconv_ParseUint_16_j2 internal_strconv_ParseUint_16_j3
  rw [if_neg (by simp only [decide_eq_true_eq]; omega), if_neg (by simp only [decide_eq_true_eq]; omega)]
  have e1 : wu64 ((n : Int) * 16) = ((16 * n : Nat) : Int) := by rw [wu64_id (by omega) (by omega)]; omega
  have e2 : wu64 (d : Int) = (d : Int) := wu64_id (by omega) (by omega)
  have e3 : wu64 (((16 * n : Nat) : Int) + (d : Int)) = ((16 * n + d : Nat) : Int) := by rw [wu64_id (by omega) (by omega)]; omega
  rw [e1, e2, e3]
  by_cases h : mxB bs < ((16 * n + d : Nat) : Int)
  · rw [if_pos h, if_pos (by simp only [Bool.or_eq_true, decide_eq_true_eq]; exact .inr h)]
    rfl
  · rw [if_neg h, if_neg (by
      simp only [Bool.or_eq_true, decide_eq_true_eq]
      rintro (q | q)
      · omega
      · exact h q)]
theorem parse_l1 {bs : Int} (hb : mxB bs ≤ 4294967295) {l : List UInt8} (hl : ∀ b ∈ l, isHx b = true) (hlen : l.length < 80000) : ∀ n i, i ≤ l.length → (hv (l.take i) : Int) ≤ mxB bs → l.length - i < n →
    internal_strconv_ParseUint_16_l1 80000 l bs n (hv (l.take i) : Int) (i : Int) = if (hv l : Int) ≤ mxB bs then some ((hv l : Int), none) else some (mxB bs, some (some (101, 1))) := by
  intro n
  induction n with
  | zero => intro i _ _ h; omega
  | succ n ih =>
    intro i h1 h2 h3
    unfold internal_strconv_ParseUint_16_l1 internal_strconv_ParseUint_16_b1
    by_cases hi : i < l.length
    · rw [if_pos (by rw [bytesEl_len]; simp only [decide_eq_true_eq]; omega)]
      have hat : at? (bytesEl l) (i : Int) = some ((l[i]'hi).toNat : Int) := by
        rw [at_drop]
        unfold bytesEl
        rw [List.getElem?_map, List.getElem?_eq_getElem hi]
        rfl
      have hx := hl _ (List.getElem_mem hi)
      have hd := dg_lt hx
      have hs : hv (l.take (i + 1)) = 16 * hv (l.take i) + dg (l[i]'hi) := by rw [List.take_succ_eq_append_getElem hi, hv_snoc]
      rw [hat]
      simp only [Option.bind]
      rw [ite_self, parse_j4 hx, parse_j2 hd (by omega), ← hs]
      have hle := hv_app_le (l.take (i + 1)) (l.drop (i + 1))
      rw [List.take_append_drop] at hle
      by_cases hm : mxB bs < (hv (l.take (i + 1)) : Int)
      · rw [if_pos hm, if_neg (by omega)]
      · rw [if_neg hm, show wi64 ((i : Int) + 1) = ((i + 1 : Nat) : Int) by rw [wi64_id] <;> omega]
        exact ih (i + 1) (by omega) (by omega) (by omega)
    · have : i = l.length := by omega
      subst this
      rw [if_neg (by rw [bytesEl_len]; simp)]
      rw [List.take_length] at h2 ⊢
      rw [if_pos h2]
/-- A numeral read. -/
theorem Parse_ok {bs : Int} (hbs : bs = 8 ∨ bs = 32) {l : List UInt8} (hl : ∀ b ∈ l, isHx b = true) (hlen : l.length < 80000) (hne : l ≠ []) :
    strconv_ParseUint_16 80000 l bs = if (hv l : Int) ≤ mxB bs then some ((hv l : Int), none) else some (mxB bs, some none) := by
  have hb : mxB bs ≤ 4294967295 ∧ 0 ≤ mxB bs := by rcases hbs with rfl | rfl <;> decide
  have := parse_l1 hb.1 hl hlen 80000 0 (Nat.zero_le _) (by simpa [hv] using hb.2) (by omega)
  rw [show hv (l.take 0) = 0 from rfl] at this
  simp only [Int.natCast_zero] at this
  unfold strconv_ParseUint_16 internal_strconv_ParseUint_16
  rw [if_neg (by simpa using hne), if_neg (by rcases hbs with rfl | rfl <;> simp)]
  unfold internal_strconv_ParseUint_16_j7 internal_strconv_ParseUint_16_j1
  rw [if_neg (by rcases hbs with rfl | rfl <;> simp), chk_ok (by rcases hbs with rfl | rfl <;> decide)]
  simp only [Option.bind]
  rw [this]
  by_cases h : (hv l : Int) ≤ mxB bs
  · rw [if_pos h, if_pos h]
    rfl
  · rw [if_neg h, if_neg h]
    simp only [Option.isNone, Bool.not_false, if_true]
    unfold strconv_toError
    rw [if_pos ⟨by unfold lim; omega, .inr rfl⟩]
theorem Parse_nil {bs : Int} : strconv_ParseUint_16 80000 [] bs = some (0, some none) := by
  unfold strconv_ParseUint_16 internal_strconv_ParseUint_16
  simp only [beq_self_eq_true, if_true, Option.bind, Option.isNone, Bool.not_false]
  unfold strconv_toError
  rw [if_pos ⟨by unfold lim; simp, .inl rfl⟩]
end Go.Ev

namespace Go.Ev
open Go
set_option linter.unusedVariables false

def okB (c : Nat) : Bool := decide (c < 55296) || (decide (57344 ≤ c) && decide (c ≤ 1114111))
theorem okB_iff {c : Nat} : okB c = true ↔ okR c := by unfold okB okR; simp
/-- Are these digits, at the beginning of t, a rune told by its number? -/
def uOK (t h : List UInt8) : Bool := !h.isEmpty && (okB (hv h) && (!(decide (32 ≤ hv h) && decide (hv h ≤ 126)) && (!((t.headD 0 == 48) && decide (1 < h.length)) && ((t.drop h.length).head? == some 59))))
def thS : List UInt8 → List UInt8 × Nat
  | [] => ([], 0)
  | b :: r => if b ≠ 92 then (if b.toNat < 32 ∨ 126 < b.toNat then ([], 0) else ([b], 1)) else match r with
    | [] => ([], 0)
    | c :: t => if c = 34 ∨ c = 92 then ([c], 2)
      else if c = 120 then (if (t.takeWhile isHx).length < 2 ∨ (t.headD 0).toNat < 56 then ([], 0) else ([UInt8.ofNat (hv (t.take 2))], 4))
      else if c = 117 then (if uOK t (t.takeWhile isHx) then (encN (hv (t.takeWhile isHx)), (t.takeWhile isHx).length + 3) else ([], 0))
      else ([], 0)

theorem u8_ne {a b : UInt8} : (((a.toNat : Int) == (b.toNat : Int)) = true) ↔ a = b := by
  simp only [beq_iff_eq, Int.natCast_inj]
  exact UInt8.toNat_inj
theorem take_hx (t : List UInt8) : ∀ b ∈ t.takeWhile isHx, isHx b = true := by
  induction t with
  | nil => intro b hb; cases hb
  | cons c t ih =>
    intro b hb
    rw [List.takeWhile_cons] at hb
    split at hb
    · rename_i hc
      rcases List.mem_cons.1 hb with rfl | hb
      · exact hc
      · exact ih b hb
    · cases hb
theorem tw_dw (t : List UInt8) : (t.takeWhile isHx).length + (t.dropWhile isHx).length = t.length := by
  rw [← List.length_append, List.takeWhile_append_dropWhile]
theorem tw_take (t : List UInt8) : t.take (t.takeWhile isHx).length = t.takeWhile isHx := by
  conv => lhs; rw [← List.takeWhile_append_dropWhile (p := isHx) (l := t)]
  rw [List.take_append_of_le_length (by simp)]
  simp
theorem ValidRune_ok (k : Nat) (c : Nat) (h : c ≤ 1114111) : unicode_utf8_ValidRune k (wi32 (c : Int)) = some (okB c) := by
  rw [wi32_id (by omega) (by omega)]
  unfold unicode_utf8_ValidRune unicode_utf8_ValidRune_j1 unicode_utf8_ValidRune_j2 okB
  by_cases h1 : c < 55296
  · rw [if_pos (by simp only [Bool.and_eq_true, decide_eq_true_eq]; omega)]; simp [h1]
  · rw [if_neg (by simp only [Bool.and_eq_true, decide_eq_true_eq]; omega)]
    by_cases h2 : 57344 ≤ c
    · rw [if_pos (by simp only [Bool.and_eq_true, decide_eq_true_eq]; omega)]; simp [h2, h]
    · rw [if_neg (by simp only [Bool.and_eq_true, decide_eq_true_eq]; omega)]; simp [h1, h2]
theorem Prefix1 (k : Nat) (s : List UInt8) (b : UInt8) : strings_HasPrefix k s [b] = some (s.head? == some b) := by
  unfold strings_HasPrefix internal_stringslite_HasPrefix internal_stringslite_HasPrefix_j1
  cases s with
  | nil => rfl
  | cons c s =>
    rw [if_pos (by simp only [decide_eq_true_eq, List.length_cons, List.length_nil]; omega)]
    have : sub? (c :: s) 0 (([b] : List UInt8).length : Int) = some [c] := by unfold sub?; rw [if_pos (by simp only [List.length_cons, List.length_nil]; omega)]; rfl
    rw [this]
    simp only [Option.bind, List.head?_cons]
    congr 1
    by_cases h : c = b <;> simp [h]

set_option maxRecDepth 100000 in
theorem thing_u {t : List UInt8} (ht : t.length + 2 < 80000) (x : Int × Option (Option (Nat × Int))) (hx : strconv_ParseUint_16 80000 (t.takeWhile isHx) 32 = some x) :
    runes_thing_j4 80000 x (92 :: 117 :: t) (t.dropWhile isHx) ((!Option.isNone x.2) || (decide ((1114111 : Int) < x.1))) =
      some (if uOK t (t.takeWhile isHx) then (encN (hv (t.takeWhile isHx)), (((t.takeWhile isHx).length + 3 : Nat) : Int)) else ([], 0)) := by
  have rej : ∀ (v : List UInt8), runes_thing_j5 80000 x (92 :: 117 :: t) v true = some ([], 0) := fun v => rfl
  have hl := tw_dw t
  have e1 : wi64 ((wi64 (((92 :: 117 :: t : List UInt8).length : Int) - 2)) - ((t.dropWhile isHx).length : Int)) = ((t.takeWhile isHx).length : Int) := by
    rw [List.length_cons, List.length_cons, wi64_id (x := ((t.length + 1 + 1 : Nat) : Int) - 2) (by omega) (by omega), wi64_id (by omega) (by omega)]
    omega
  by_cases h0 : t.takeWhile isHx = []
  · rw [h0, Parse_nil] at hx
    cases hx
    unfold runes_thing_j4
    rw [if_pos (by simp), rej, if_neg (by simp [uOK, h0])]
  · rw [Parse_ok (.inr rfl) (take_hx t) (by omega) h0, mxB_32] at hx
    by_cases hb : (hv (t.takeWhile isHx) : Int) ≤ 4294967295
    · rw [if_pos hb] at hx
      cases hx
      unfold runes_thing_j4
      by_cases hm : hv (t.takeWhile isHx) ≤ 1114111
      · rw [if_neg (by simp; omega), ValidRune_ok _ _ hm]
        simp only [Option.bind]
        cases hok : okB (hv (t.takeWhile isHx)) with
        | false => rw [show (!false) = true from rfl, rej, if_neg (by simp [uOK, hok])]
        | true =>
          unfold runes_thing_j5
          rw [if_neg (by simp)]
          unfold runes_thing_j10 runes_thing_j6
          simp only []
          by_cases hp : 32 ≤ hv (t.takeWhile isHx) ∧ hv (t.takeWhile isHx) ≤ 126
          · rw [if_pos (by simp only [Bool.and_eq_true, decide_eq_true_eq]; omega)]
            unfold runes_thing_j7 runes_thing_j8
            rw [if_pos rfl, if_pos rfl, if_neg (by simp [uOK, hp])]
          · rw [if_neg (by simp only [Bool.and_eq_true, decide_eq_true_eq]; omega)]
            cases ht0 : t with
            | nil => rw [ht0] at h0; exact absurd rfl h0
            | cons d t' =>
              rw [← ht0]
              have hb2 : byteAt (92 :: 117 :: t) 2 = some (d.toNat : Int) := by rw [ht0]; rfl
              rw [hb2]
              simp only [Option.bind]
              rw [e1]
              unfold runes_thing_j9 runes_thing_j7
              by_cases hz : d = 48 ∧ 1 < (t.takeWhile isHx).length
              · rw [if_pos (by rw [hz.1]; simp only [Bool.and_eq_true, decide_eq_true_eq]; exact ⟨rfl, by omega⟩)]
                unfold runes_thing_j8
                rw [if_pos rfl, if_neg (by
                  rw [ht0] at hz ⊢
                  obtain ⟨rfl, hz2⟩ := hz
                  simp [uOK]
                  intros
                  omega)]
              · rw [if_neg (by
                  simp only [Bool.and_eq_true, decide_eq_true_eq]
                  rintro ⟨q1, q2⟩
                  exact hz ⟨(u8_ne (b := 48)).1 q1, by omega⟩)]
                have e2 : wi64 ((2 : Int) + ((t.takeWhile isHx).length : Int)) = (((t.takeWhile isHx).length + 2 : Nat) : Int) := by rw [wi64_id (by omega) (by omega)]; omega
                rw [e1, e2, sub_all (by simp only [List.length_cons]; omega)]
                simp only [Prefix1]
                have e3 : (92 :: 117 :: t : List UInt8).drop ((t.takeWhile isHx).length + 2) = t.drop (t.takeWhile isHx).length := rfl
                rw [e3]
                unfold runes_thing_j8
                have hu : uOK t (t.takeWhile isHx) = ((t.drop (t.takeWhile isHx).length).head? == some 59) := by
                  unfold uOK
                  have q1 : (t.takeWhile isHx).isEmpty = false := by cases q : t.takeWhile isHx with | nil => exact absurd q h0 | cons _ _ => rfl
                  have q2 : (decide (32 ≤ hv (t.takeWhile isHx)) && decide (hv (t.takeWhile isHx) ≤ 126)) = false := by simp; omega
                  have q3 : ((t.headD 0 == 48) && decide (1 < (t.takeWhile isHx).length)) = false := by
                    rw [Bool.eq_false_iff]
                    intro q
                    simp only [Bool.and_eq_true, decide_eq_true_eq, beq_iff_eq] at q
                    exact hz ⟨by rw [ht0] at q; exact q.1, q.2⟩
                  rw [q1, hok, q2, q3]
                  rfl
                rw [hu]
                simp only [Option.bind_some]
                cases hh : ((t.drop (t.takeWhile isHx).length).head? == some 59) with
                | false => rfl
                | true =>
                  simp only [Bool.not_true, Bool.false_eq_true, if_false, if_true]
                  rw [e1, wi64_id (by omega) (by omega), wi32_id (by omega) (by omega)]
                  have := enc_ok (okB_iff.1 hok)
                  unfold enc at this
                  rw [this]
                  rfl
      · rw [if_pos (by simp; omega), rej, if_neg (by
          have : okB (hv (t.takeWhile isHx)) = false := by unfold okB; simp; omega
          simp [uOK, this])]
    · rw [if_neg hb] at hx
      cases hx
      unfold runes_thing_j4
      rw [if_pos (by simp), rej, if_neg (by
        have : okB (hv (t.takeWhile isHx)) = false := by unfold okB; simp; omega
        simp [uOK, this])]

theorem bytesStr_one (n : Nat) (h : n < 256) : bytesStr [wu8 (n : Int)] = [UInt8.ofNat n] := by
  rw [wu8_id (by omega) (by omega)]
  simp [bytesStr]
theorem hv_two {t : List UInt8} (h : 2 ≤ (t.takeWhile isHx).length) : (∀ b ∈ t.take 2, isHx b = true) ∧ (t.take 2).length = 2 ∧ hv (t.take 2) < 256 := by
  match t, h with
  | a :: b :: t, h =>
    rw [List.takeWhile_cons] at h
    cases ha : isHx a with
    | false => simp [ha] at h
    | true =>
      simp only [ha, if_true, List.takeWhile_cons] at h
      cases hb : isHx b with
      | false => simp [hb] at h
      | true =>
        have d1 := dg_lt ha
        have d2 := dg_lt hb
        refine ⟨by simp [ha, hb], rfl, ?_⟩
        show 16 * (16 * 0 + dg a) + dg b < 256
        omega
  | [a], h =>
    cases ha : isHx a <;> simp [ha] at h
theorem byteAt_1 (b c : UInt8) (s : List UInt8) : byteAt (b :: c :: s) 1 = some (c.toNat : Int) := rfl
theorem ne_lit {c : UInt8} {n : UInt8} : ((c.toNat : Int) != (n.toNat : Int)) = decide (c ≠ n) := by
  by_cases h : c = n
  · subst h; simp
  · have : ¬ c.toNat = n.toNat := fun e => h (UInt8.toNat_inj.1 e)
    simp only [bne, h, decide_not, decide_false, Bool.not_false, Bool.not_eq_true', beq_eq_false_iff_ne, ne_eq]
    omega
theorem eq_lit {c : UInt8} {n : UInt8} : ((c.toNat : Int) == (n.toNat : Int)) = decide (c = n) := by
  by_cases h : c = n
  · subst h; simp
  · have : ¬ c.toNat = n.toNat := fun e => h (UInt8.toNat_inj.1 e)
    simp only [h, decide_false, beq_eq_false_iff_ne, ne_eq]
    omega
theorem thS_esc (c : UInt8) (t : List UInt8) : thS (92 :: c :: t) = if c = 34 ∨ c = 92 then ([c], 2)
      else if c = 120 then (if (t.takeWhile isHx).length < 2 ∨ (t.headD 0).toNat < 56 then ([], 0) else ([UInt8.ofNat (hv (t.take 2))], 4))
      else if c = 117 then (if uOK t (t.takeWhile isHx) then (encN (hv (t.takeWhile isHx)), (t.takeWhile isHx).length + 3) else ([], 0))
      else ([], 0) := by
  rw [thS, if_neg (by simp)]
/-- What a text's beginning stands for. -/
theorem Thing_ok {s : List UInt8} (h0 : s ≠ []) (hs : s.length < 80000) : runes_thing 80000 s = some ((thS s).1, ((thS s).2 : Int)) := by
  have first : ∀ (b : UInt8) (r : List UInt8), b ≠ 92 → runes_thing 80000 (b :: r) = some ((thS (b :: r)).1, ((thS (b :: r)).2 : Int)) := by
    intro b r hb
    unfold runes_thing thS
    simp only [byteAt_cons, Option.bind_some]
    rw [if_pos (by have := ne_lit (c := b) (n := 92); rw [show ((92 : UInt8).toNat : Int) = 92 from rfl] at this; rw [this]; simpa using hb), if_pos hb]
    unfold runes_thing_j1
    by_cases hc : b.toNat < 32 ∨ 126 < b.toNat
    · rw [if_pos hc, if_pos (by simp only [Bool.or_eq_true, decide_eq_true_eq]; omega)]
      rfl
    · rw [if_neg hc, if_neg (by simp only [Bool.or_eq_true, decide_eq_true_eq]; omega)]
      have : sub? (b :: r) 0 1 = some [b] := by unfold sub?; rw [if_pos (by simp only [List.length_cons]; omega)]; rfl
      rw [this]
      rfl
  match s, h0 with
  | b :: r, _ =>
    by_cases hb : b = 92
    · subst hb
      cases r with
      | nil => rfl
      | cons c t =>
        have hs' : t.length + 2 < 80000 := by simpa using hs
        unfold runes_thing
        simp only [byteAt_cons, Option.bind_some]
        rw [if_neg (by decide), if_neg (by simp only [decide_eq_true_eq, List.length_cons]; omega)]
        have e2 : sub? (92 :: c :: t) 2 (((92 : UInt8) :: c :: t).length : Int) = some t := sub_all (s := 92 :: c :: t) (p := 2) (by simp)
        rw [e2]
        simp only [Option.bind_some]
        rw [show ([48, 49, 50, 51, 52, 53, 54, 55, 56, 57, 97, 98, 99, 100, 101, 102] : List UInt8) = hexs from rfl, TrimHex (by omega)]
        simp only [Option.bind_some, byteAt_1]
        have q34 : ((c.toNat : Int) == 34) = decide (c = 34) := eq_lit (n := 34)
        have q92 : ((c.toNat : Int) == 92) = decide (c = 92) := eq_lit (n := 92)
        have q120 : ((c.toNat : Int) == 120) = decide (c = 120) := eq_lit (n := 120)
        have q117 : ((c.toNat : Int) == 117) = decide (c = 117) := eq_lit (n := 117)
        have one : sub? (92 :: c :: t) 1 2 = some [c] := by unfold sub?; rw [if_pos (by simp only [List.length_cons]; omega)]; rfl
        have hl := tw_dw t
        have e1 : wi64 ((wi64 ((((92 : UInt8) :: c :: t : List UInt8).length : Int) - 2)) - ((t.dropWhile isHx).length : Int)) = ((t.takeWhile isHx).length : Int) := by
          rw [List.length_cons, List.length_cons, wi64_id (x := ((t.length + 1 + 1 : Nat) : Int) - 2) (by omega) (by omega), wi64_id (by omega) (by omega)]
          omega
        have jj : ∀ x : Bool, x = decide (c = 34 ∨ c = 92) → runes_thing_j2 80000 (92 :: c :: t) (c.toNat : Int) (t.dropWhile isHx) x = some ((thS (92 :: c :: t)).1, ((thS (92 :: c :: t)).2 : Int)) := by
          intro x hx
          subst hx
          rw [thS_esc]
          unfold runes_thing_j2
          by_cases hq : c = 34 ∨ c = 92
          · rw [if_pos (by simpa using hq), if_pos hq, one]
            rfl
          · rw [if_neg (by simpa using hq), if_neg hq, q120, q117, e1]
            by_cases hx : c = 120
            · rw [if_pos (by simpa using hx), if_pos hx]
              by_cases h2 : (t.takeWhile isHx).length < 2
              · rw [if_pos (by simp only [decide_eq_true_eq]; omega), if_pos (.inl h2)]
                rfl
              · obtain ⟨a1, a2, a3⟩ := hv_two (t := t) (by omega)
                rw [if_neg (by simp only [decide_eq_true_eq]; omega)]
                match t, a2 with
                | d :: d2 :: t', _ =>
                  have hb3 : byteAt (92 :: c :: d :: d2 :: t') 2 = some (d.toNat : Int) := rfl
                  rw [hb3]
                  simp only [Option.bind_some]
                  unfold runes_thing_j3
                  by_cases h3 : d.toNat < 56
                  · rw [if_pos (by simp only [decide_eq_true_eq]; omega), if_pos (.inr h3)]
                    rfl
                  · rw [if_neg (by simp only [decide_eq_true_eq]; omega), if_neg (by rintro (q | q); exact h2 q; exact h3 q)]
                    have e4 : sub? (92 :: c :: d :: d2 :: t') 2 4 = some [d, d2] := by unfold sub?; rw [if_pos (by simp only [List.length_cons]; omega)]; rfl
                    rw [e4]
                    simp only [Option.bind_some]
                    have a1' : ∀ b ∈ [d, d2], isHx b = true := a1
                    have a3' : hv [d, d2] < 256 := a3
                    rw [Parse_ok (.inl rfl) a1' (by simp) (by simp), mxB_8, if_pos (by omega)]
                    simp only [Option.bind_some]
                    rw [bytesStr_one _ a3']
                    rfl
            · rw [if_neg (by simpa using hx), if_neg hx]
              by_cases hu : c = 117
              · rw [if_pos (by simpa using hu), if_pos hu]
                subst hu
                have e5 : wi64 ((2 : Int) + ((t.takeWhile isHx).length : Int)) = (((t.takeWhile isHx).length + 2 : Nat) : Int) := by rw [wi64_id (by omega) (by omega)]; omega
                have e6 : sub? (92 :: 117 :: t) 2 (((t.takeWhile isHx).length + 2 : Nat) : Int) = some (t.takeWhile isHx) := by
                  rw [show (2 : Int) = ((2 : Nat) : Int) from rfl, sub_seg (by omega) (by simp only [List.length_cons]; omega)]
                  unfold seg
                  exact congrArg some (tw_take t)
                rw [e5, e6]
                simp only [Option.bind_some]
                obtain ⟨x, hx⟩ : ∃ x, strconv_ParseUint_16 80000 (t.takeWhile isHx) 32 = some x := by
                  by_cases h0 : t.takeWhile isHx = []
                  · rw [h0]; exact ⟨_, Parse_nil⟩
                  · rw [Parse_ok (.inr rfl) (take_hx t) (by omega) h0]
                    split
                    · exact ⟨_, rfl⟩
                    · exact ⟨_, rfl⟩
                rw [hx]
                simp only [Option.bind_some]
                rw [thing_u hs' x hx]
                cases uOK t (t.takeWhile isHx) <;> rfl
              · rw [if_neg (by simpa using hu), if_neg hu]
                rfl
        rw [q34, q92]
        by_cases c34 : c = 34
        · rw [if_pos (by simpa using c34)]
          exact jj _ (by simp [c34])
        · rw [if_neg (by simpa using c34)]
          exact jj _ (by simp [c34])
    · exact first b r hb
end Go.Ev

namespace Go.Ev
open Go
set_option linter.unusedVariables false

def hd (d : Nat) : UInt8 := hexs.getD d 0
def hexF : Nat → Nat → List UInt8
  | 0, _ => []
  | m + 1, n => if n < 16 then [hd n] else hexF m (n / 16) ++ [hd (n % 16)]
def hexN (n : Nat) : List UInt8 := hexF 16 n
def digs : List UInt8 := [48, 49, 50, 51, 52, 53, 54, 55, 56, 57, 97, 98, 99, 100, 101, 102, 103, 104, 105, 106, 107, 108, 109, 110, 111, 112, 113, 114, 115, 116, 117, 118, 119, 120, 121, 122]
theorem digs_at {d : Nat} (h : d < 16) : byteAt digs (d : Int) = some ((hd d).toNat : Int) := by
  have : ∀ d : Fin 16, byteAt digs (d.1 : Int) = some ((hd d.1).toNat : Int) := by decide
  exact this ⟨d, h⟩
theorem and15 {u : Nat} (h : u < 18446744073709551616) : wu64 (BitVec.toNat (BitVec.ofInt 64 (u : Int) &&& BitVec.ofInt 64 (15 : Int))) = ((u % 16 : Nat) : Int) := by
  have e : BitVec.toNat (BitVec.ofInt 64 (u : Int) &&& BitVec.ofInt 64 (15 : Int)) = u % 16 := by
    rw [BitVec.toNat_and, BitVec.ofInt_natCast, BitVec.toNat_ofNat, Nat.mod_eq_of_lt (by omega), show (BitVec.ofInt 64 (15 : Int)).toNat = 2 ^ 4 - 1 from rfl, Nat.and_two_pow_sub_one_eq_mod]
  rw [e, wu64_id (by omega) (by omega)]
theorem fdiv16 (u : Nat) : Int.fdiv (u : Int) (2 ^ min ((4 : Int)).toNat 64) = ((u / 16 : Nat) : Int) := by
  show Int.fdiv (u : Int) 16 = _
  rw [Int.fdiv_eq_ediv_of_nonneg _ (by omega)]
  omega
theorem set_drop {a : List Int} {i : Nat} (h : i < a.length) (b : Int) : (a.set i b).drop i = b :: a.drop (i + 1) := by
  rw [List.drop_eq_getElem_cons (by simpa using h), List.drop_set_of_lt (by omega)]
  simp
theorem sub_allG {α : Type} {s : List α} {p : Nat} (h : p ≤ s.length) : sub? s (p : Int) (s.length : Int) = some (s.drop p) := by
  unfold sub?
  rw [if_pos (by omega), Int.toNat_natCast, Int.toNat_natCast, List.take_length]
theorem fu_b1 (go1 : Int → Int → (List (Int)) → Option (List (Int) × List UInt8)) (u2 : Int) (i2 : Int) (a2 : List (Int)) : internal_strconv_formatBits_16_false_false_b1 go1 u2 i2 a2 =
  if decide ((16 : Int) ≤ u2) then
      Option.bind (byteAt digs (wu64 (BitVec.toNat (BitVec.ofInt 64 u2 &&& BitVec.ofInt 64 (15 : Int))))) fun b1 =>
      Option.bind (at? a2 (wi64 (i2 - (1 : Int)))) fun x1 =>
      Option.bind (chk (List.length a2 = 65)) fun _ =>
      Option.bind (chk (0 ≤ (4 : Int))) fun _ =>
      go1 (Int.fdiv u2 (2 ^ min ((4 : Int)).toNat 64)) (wi64 (i2 - (1 : Int))) (List.set a2 (wi64 (i2 - (1 : Int))).toNat b1)
  else
      Option.bind (byteAt digs u2) fun b2 =>
      Option.bind (at? a2 (wi64 (i2 - (1 : Int)))) fun x2 =>
      Option.bind (chk (List.length a2 = 65)) fun _ =>
      internal_strconv_formatBits_16_false_false_j1 (wi64 (i2 - (1 : Int))) ([] : List (Int)) (List.set a2 (wi64 (i2 - (1 : Int))).toNat b2) := rfl
theorem fi_b1 (neg1 : Bool) (go1 : Int → Int → (List (Int)) → Option (List (Int) × List UInt8)) (u2 : Int) (i2 : Int) (a2 : List (Int)) : internal_strconv_formatBits_16_false_b1 neg1 go1 u2 i2 a2 =
  if decide ((16 : Int) ≤ u2) then
      Option.bind (byteAt digs (wu64 (BitVec.toNat (BitVec.ofInt 64 u2 &&& BitVec.ofInt 64 (15 : Int))))) fun b1 =>
      Option.bind (at? a2 (wi64 (i2 - (1 : Int)))) fun x1 =>
      Option.bind (chk (List.length a2 = 65)) fun _ =>
      Option.bind (chk (0 ≤ (4 : Int))) fun _ =>
      go1 (Int.fdiv u2 (2 ^ min ((4 : Int)).toNat 64)) (wi64 (i2 - (1 : Int))) (List.set a2 (wi64 (i2 - (1 : Int))).toNat b1)
  else
      Option.bind (byteAt digs u2) fun b2 =>
      Option.bind (at? a2 (wi64 (i2 - (1 : Int)))) fun x2 =>
      Option.bind (chk (List.length a2 = 65)) fun _ =>
      internal_strconv_formatBits_16_false_j2 neg1 (wi64 (i2 - (1 : Int))) ([] : List (Int)) (List.set a2 (wi64 (i2 - (1 : Int))).toNat b2) := rfl
theorem fu_l1 : ∀ m n (u i : Nat) (a : List Int) (acc : List UInt8), 0 < m → m < n → u < 16 ^ m → m ≤ 16 → a.length = 65 → m ≤ i → i ≤ 65 → a.drop i = bytesEl acc →
    internal_strconv_formatBits_16_false_false_l1 n (u : Int) (i : Int) a = some ([], hexF m u ++ acc) := by
  intro m
  induction m with
  | zero => intro n u i a acc h0; omega
  | succ m ih =>
    intro n u i a acc h0 h1 h2 h3 h4 h5 h7 h8
    obtain ⟨n, rfl⟩ : ∃ k, n = k + 1 := ⟨n - 1, by omega⟩
    have hu : u < 18446744073709551616 := Nat.lt_of_lt_of_le h2 (Nat.pow_le_pow_right (by omega) h3)
    have ei : wi64 ((i : Int) - 1) = ((i - 1 : Nat) : Int) := by rw [wi64_id (by omega) (by omega)]; omega
    have hat : at? a ((i - 1 : Nat) : Int) = some (a[i - 1]'(by omega)) := by rw [at_drop, List.getElem?_eq_getElem]
    unfold internal_strconv_formatBits_16_false_false_l1
    rw [fu_b1, ei, hat, Int.toNat_natCast]
    by_cases hc : u < 16
    · rw [if_neg (by simp only [decide_eq_true_eq]; omega), digs_at hc]
      simp only [Option.bind_some]
      rw [chk_ok h4]
      simp only [Option.bind_some]
      unfold internal_strconv_formatBits_16_false_false_j1
      have hd1 : (a.set (i - 1) ((hd u).toNat : Int)).length = 65 := by rw [List.length_set]; exact h4
      rw [sub_allG (by omega), chk_ok hd1, set_drop (by omega), show i - 1 + 1 = i by omega, h8]
      simp only [Option.bind_some]
      unfold hexF
      rw [if_pos hc]
      have := bytesStr_bytesEl (hd u :: acc)
      simp only [bytesEl, List.map_cons] at this
      rw [show bytesEl acc = acc.map (fun b => (b.toNat : Int)) from rfl, this]
      rfl
    · rw [if_pos (by simp only [decide_eq_true_eq]; omega), and15 hu, digs_at (Nat.mod_lt _ (by omega)), fdiv16]
      simp only [Option.bind_some]
      rw [chk_ok h4, chk_ok (by decide)]
      simp only [Option.bind_some]
      have hm : 0 < m := by
        rcases Nat.eq_zero_or_pos m with rfl | h
        · simp at h2; omega
        · exact h
      rw [ih n (u / 16) (i - 1) _ (hd (u % 16) :: acc) hm (by omega) (by rw [Nat.div_lt_iff_lt_mul (by omega)]; rw [Nat.pow_succ] at h2; exact h2) (by omega) (by rw [List.length_set]; exact h4) (by omega) (by omega) (by rw [set_drop (by omega), show i - 1 + 1 = i by omega, h8]; rfl)]
      conv => rhs; unfold hexF
      rw [if_neg hc, List.append_assoc]
      rfl
theorem fi_l1 : ∀ m n (u i : Nat) (a : List Int) (acc : List UInt8), 0 < m → m < n → u < 16 ^ m → m ≤ 16 → a.length = 65 → m ≤ i → i ≤ 65 → a.drop i = bytesEl acc →
    internal_strconv_formatBits_16_false_l1 false n (u : Int) (i : Int) a = some ([], hexF m u ++ acc) := by
  intro m
  induction m with
  | zero => intro n u i a acc h0; omega
  | succ m ih =>
    intro n u i a acc h0 h1 h2 h3 h4 h5 h7 h8
    obtain ⟨n, rfl⟩ : ∃ k, n = k + 1 := ⟨n - 1, by omega⟩
    have hu : u < 18446744073709551616 := Nat.lt_of_lt_of_le h2 (Nat.pow_le_pow_right (by omega) h3)
    have ei : wi64 ((i : Int) - 1) = ((i - 1 : Nat) : Int) := by rw [wi64_id (by omega) (by omega)]; omega
    have hat : at? a ((i - 1 : Nat) : Int) = some (a[i - 1]'(by omega)) := by rw [at_drop, List.getElem?_eq_getElem]
    unfold internal_strconv_formatBits_16_false_l1
    rw [fi_b1, ei, hat, Int.toNat_natCast]
    by_cases hc : u < 16
    · rw [if_neg (by simp only [decide_eq_true_eq]; omega), digs_at hc]
      simp only [Option.bind_some]
      rw [chk_ok h4]
      simp only [Option.bind_some]
      unfold internal_strconv_formatBits_16_false_j2 internal_strconv_formatBits_16_false_j3
      rw [if_neg (by simp)]
      have hd1 : (a.set (i - 1) ((hd u).toNat : Int)).length = 65 := by rw [List.length_set]; exact h4
      rw [sub_allG (by omega), chk_ok hd1, set_drop (by omega), show i - 1 + 1 = i by omega, h8]
      simp only [Option.bind_some]
      unfold hexF
      rw [if_pos hc]
      have := bytesStr_bytesEl (hd u :: acc)
      simp only [bytesEl, List.map_cons] at this
      rw [show bytesEl acc = acc.map (fun b => (b.toNat : Int)) from rfl, this]
      rfl
    · rw [if_pos (by simp only [decide_eq_true_eq]; omega), and15 hu, digs_at (Nat.mod_lt _ (by omega)), fdiv16]
      simp only [Option.bind_some]
      rw [chk_ok h4, chk_ok (by decide)]
      simp only [Option.bind_some]
      have hm : 0 < m := by
        rcases Nat.eq_zero_or_pos m with rfl | h
        · simp at h2; omega
        · exact h
      rw [ih n (u / 16) (i - 1) _ (hd (u % 16) :: acc) hm (by omega) (by rw [Nat.div_lt_iff_lt_mul (by omega)]; rw [Nat.pow_succ] at h2; exact h2) (by omega) (by rw [List.length_set]; exact h4) (by omega) (by omega) (by rw [set_drop (by omega), show i - 1 + 1 = i by omega, h8]; rfl)]
      conv => rhs; unfold hexF
      rw [if_neg hc, List.append_assoc]
      rfl

theorem FormatUint_ok {n : Nat} (h : n < 18446744073709551616) : strconv_FormatUint_16 80000 (n : Int) = some (hexN n) := by
  unfold strconv_FormatUint_16 internal_strconv_FormatUint_16 internal_strconv_formatBits_16_false_false
  have := fu_l1 16 80000 n 65 (List.replicate 65 0) [] (by omega) (by omega) h (by omega) (by simp) (by omega) (by omega) (by simp [bytesEl])
  rw [show ((65 : Nat) : Int) = 65 from rfl] at this
  rw [this, List.append_nil]
  rfl
theorem FormatInt_ok {n : Nat} (h : n < 9223372036854775808) : strconv_FormatInt_16 80000 (n : Int) = some (hexN n) := by
  unfold strconv_FormatInt_16 internal_strconv_FormatInt_16 internal_strconv_formatBits_16_false
  rw [show decide ((n : Int) < 0) = false by simp, wu64_id (by omega) (by omega), if_neg (by simp)]
  unfold internal_strconv_formatBits_16_false_j1
  have := fi_l1 16 80000 n 65 (List.replicate 65 0) [] (by omega) (by omega) (by omega) (by omega) (by simp) (by omega) (by omega) (by simp [bytesEl])
  rw [show ((65 : Nat) : Int) = 65 from rfl] at this
  rw [this, List.append_nil]
  rfl
end Go.Ev

namespace Go.Ev
open Go
set_option linter.unusedVariables false

theorem hd_hx {d : Nat} (h : d < 16) : isHx (hd d) = true ∧ dg (hd d) = d ∧ (0 < d → hd d ≠ 48) ∧ (8 ≤ d → 56 ≤ (hd d).toNat) ∧ 32 ≤ (hd d).toNat ∧ (hd d).toNat ≤ 126 := by
  have : ∀ d : Fin 16, isHx (hd d.1) = true ∧ dg (hd d.1) = d.1 ∧ (0 < d.1 → hd d.1 ≠ 48) ∧ (8 ≤ d.1 → 56 ≤ (hd d.1).toNat) ∧ 32 ≤ (hd d.1).toNat ∧ (hd d.1).toNat ≤ 126 := by decide
  exact this ⟨d, h⟩
theorem hexF_facts : ∀ m n, 0 < m → n < 16 ^ m → (∀ b ∈ hexF m n, isHx b = true) ∧ hv (hexF m n) = n ∧ (hexF m n).length ≤ m ∧ ∃ d ds, hexF m n = d :: ds ∧ (0 < n → d ≠ 48) ∧ (n < 16 → ds = []) := by
  intro m
  induction m with
  | zero => intro n h; omega
  | succ m ih =>
    intro n _ hn
    unfold hexF
    by_cases h : n < 16
    · rw [if_pos h]
      obtain ⟨a1, a2, a3, _⟩ := hd_hx h
      exact ⟨by simpa using a1, by simp [hv, a2], by simp, hd n, [], rfl, a3, fun _ => rfl⟩
    · rw [if_neg h]
      have hm : 0 < m := by
        rcases Nat.eq_zero_or_pos m with rfl | q
        · simp at hn; omega
        · exact q
      obtain ⟨b1, b2, b3, d, ds, b4, b5, _⟩ := ih (n / 16) hm (by rw [Nat.div_lt_iff_lt_mul (by omega)]; rw [Nat.pow_succ] at hn; exact hn)
      obtain ⟨a1, a2, _⟩ := hd_hx (Nat.mod_lt n (show 0 < 16 by omega))
      refine ⟨?_, by rw [hv_snoc, b2, a2]; omega, by rw [List.length_append, List.length_singleton]; omega, d, ds ++ [hd (n % 16)], by rw [b4]; rfl, fun _ => b5 (by omega), fun q => by omega⟩
      intro b hb
      rcases List.mem_append.1 hb with q | q
      · exact b1 b q
      · rw [List.mem_singleton.1 q]; exact a1
theorem hexN_facts {n : Nat} (h : n < 18446744073709551616) : (∀ b ∈ hexN n, isHx b = true) ∧ hv (hexN n) = n ∧ (hexN n).length ≤ 16 ∧ ∃ d ds, hexN n = d :: ds ∧ (0 < n → d ≠ 48) ∧ (n < 16 → ds = []) := hexF_facts 16 n (by omega) h
theorem hexN_two {n : Nat} (h : n < 256) (h2 : 16 ≤ n) : hexN n = [hd (n / 16), hd (n % 16)] := by
  unfold hexN
  rw [hexF, if_neg (by omega), hexF, if_pos (by omega)]
  rfl
theorem g_small {s : List UInt8} {p : Nat} (h : p < s.length) (hb : gb s p < 128) : g s p = (gb s p, 1) := by
  unfold g Lib.decodeN
  rw [if_pos hb]
theorem encN_small {c : Nat} (h : c < 128) : encN c = [UInt8.ofNat c] := by unfold encN; rw [if_pos h]

/-- What a piece shows. -/
def shw (s : List UInt8) (p : Nat) : List UInt8 :=
  if bad s p then [92, 120] ++ hexN (gb s p)
  else if gb s p = 34 ∨ gb s p = 92 then [92, UInt8.ofNat (gb s p)]
  else if 32 ≤ gb s p ∧ gb s p < 127 then [UInt8.ofNat (gb s p)]
  else ([92, 117] ++ hexN (g s p).1) ++ [59]
theorem shw_len (s : List UInt8) (p : Nat) : (shw s p).length ≤ 20 := by
  have h1 := (hexN_facts (n := gb s p) (by have := gb_lt s p; omega)).2.2.1
  have h2 := (hexN_facts (n := (g s p).1) (by have := g_rune s p; omega)).2.2.1
  unfold shw
  repeat' split
  all_goals simp; try omega
set_option maxRecDepth 100000 in
theorem shown_ok {s : List UInt8} {p : Nat} (h : p < s.length) (l : Int) : runes_shown 80000 s (((g s p).1 : Int), (p : Int), l, bad s p, ()) = some (shw s p) := by
  have hlt := gb_lt s p
  have h1 := (hexN_facts (n := gb s p) (by omega)).2.2.1
  have h2 := (hexN_facts (n := (g s p).1) (by have := g_rune s p; omega)).2.2.1
  have hr := g_rune s p
  have henc : gb s p < 128 → (Utf8.encode (gb s p : Int)).data.toList = [UInt8.ofNat (gb s p)] := by
    intro hb
    have := enc_ok (c := gb s p) (.inl (by omega))
    unfold enc at this
    rw [this, encN_small hb]
  unfold runes_shown shw
  simp only [byteAt_gb h, Option.bind_some]
  cases hbad : bad s p with
  | true =>
    simp only [if_true]
    rw [wu64_id (by omega) (by omega), FormatUint_ok (by omega)]
    simp only [Option.bind_some]
    rw [chk_ok (by unfold lim; simp; omega)]
    rfl
  | false =>
    simp only [Bool.false_eq_true, if_false]
    have key : ∀ x : Bool, x = decide (gb s p = 34 ∨ gb s p = 92) → runes_shown_j1 80000 (gb s p : Int) (((g s p).1 : Int), (p : Int), l, false, ()) x = some (if gb s p = 34 ∨ gb s p = 92 then [92, UInt8.ofNat (gb s p)]
        else if 32 ≤ gb s p ∧ gb s p < 127 then [UInt8.ofNat (gb s p)] else ([92, 117] ++ hexN (g s p).1) ++ [59]) := by
      intro x hx
      subst hx
      unfold runes_shown_j1 runes_shown_j2
      by_cases q : gb s p = 34 ∨ gb s p = 92
      · rw [if_pos (by simpa using q), if_pos q, henc (by omega), chk_ok (by unfold lim; simp)]
        rfl
      · rw [if_neg (by simpa using q), if_neg q]
        by_cases q2 : 32 ≤ gb s p ∧ gb s p < 127
        · rw [if_pos (by simp only [Bool.and_eq_true, decide_eq_true_eq]; omega), if_pos q2, henc (by omega)]
        · rw [if_neg (by simp only [Bool.and_eq_true, decide_eq_true_eq]; omega), if_neg q2, wi64_id (by omega) (by omega), FormatInt_ok (by omega)]
          simp only [Option.bind_some]
          rw [chk_ok (by unfold lim; simp; omega), chk_ok (by unfold lim; simp; omega)]
          rfl
    by_cases q34 : gb s p = 34
    · rw [if_pos (by simp [q34])]
      exact key _ (by simp [q34])
    · rw [if_neg (by simp only [beq_iff_eq]; omega)]
      refine key _ ?_
      by_cases q92 : gb s p = 92
      · simp [q92]
      · simp only [q34, q92, or_self, decide_false, beq_eq_false_iff_ne, ne_eq]; omega

/-- What all pieces from a place on show. -/
def shs (s : List UInt8) (p : Nat) : List UInt8 := if h : p < s.length then shw s p ++ shs s (p + (g s p).2) else []
termination_by s.length - p
decreasing_by have := g_size s p h; omega
theorem shs_cons {s : List UInt8} {p : Nat} (h : p < s.length) : shs s p = shw s p ++ shs s (p + (g s p).2) := by rw [shs, dif_pos h]
theorem shs_nil {s : List UInt8} {p : Nat} (h : ¬ p < s.length) : shs s p = [] := by rw [shs, dif_neg h]
def qt (s : List UInt8) : List UInt8 := 34 :: (shs s 0 ++ [34])
theorem each3_l1 {s : List UInt8} (hs : s.length ≤ 65536) : ∀ n p (acc : List UInt8), p ≤ s.length → s.length - p < n → acc.length + 20 * (s.length - p) ≤ 2000000 →
    runes_each_i3_l1 80000 s s n p (bytesEl acc) = some (s, bytesEl (acc ++ shs s p)) := by
  intro n
  induction n with
  | zero => intro p acc _ h; omega
  | succ n ih =>
    intro p acc h1 h2 h3
    unfold runes_each_i3_l1 runes_each_i3_b1
    by_cases hp : p < s.length
    · have hg := g_size s p hp
      have hw := shw_len s p
      rw [if_pos (decide_eq_true hp), each_round hp]
      unfold runes_each_i3_j1 runes_quote_c1_i1 strings_Builder_WriteString_i1 bld_copyCheck
      rw [runeAt_g, shown_ok hp]
      simp only [Option.bind_some]
      rw [chk_ok (by unfold lim; rw [bytesEl_len, bytesEl_len]; omega)]
      simp only [Option.bind_some, Bool.not_true, Bool.false_eq_true, if_false, widthAt_g]
      rw [bytesEl_append, ih _ _ hg.2.1 (by omega) (by rw [List.length_append]; omega), shs_cons hp, List.append_assoc]
    · rw [if_neg (by simpa using hp), shs_nil hp, List.append_nil]
theorem shs_len (s : List UInt8) : ∀ n p, s.length - p < n → (shs s p).length ≤ 20 * (s.length - p) := by
  intro n
  induction n with
  | zero => intro p h; omega
  | succ n ih =>
    intro p h
    by_cases hp : p < s.length
    · have hg := g_size s p hp
      have hw := shw_len s p
      have := ih (p + (g s p).2) (by omega)
      rw [shs_cons hp, List.length_append]
      omega
    · rw [shs_nil hp]; simp
theorem quote_ok {s : List UInt8} (hs : s.length ≤ 65536) : runes_quote 80000 s = some (qt s) := by
  have hl := shs_len s _ 0 (Nat.lt_succ_self _)
  unfold runes_quote strings_Builder_WriteByte_i1 bld_copyCheck
  simp only [Option.bind_some]
  rw [chk_ok (by unfold lim; simp)]
  simp only [Option.bind_some, List.nil_append]
  unfold runes_each_i3
  have := each3_l1 hs 80000 0 [34] (by omega) (by omega) (by simp; omega)
  rw [show ([(34 : Int)] : List Int) = bytesEl [34] from rfl, this]
  simp only [Option.bind_some]
  rw [chk_ok (by unfold lim; rw [bytesEl_len, bytesEl_len]; simp; omega)]
  simp only [Option.bind_some]
  rw [bytesEl_append]
  unfold bld_String
  rw [bytesStr_bytesEl, if_pos rfl]
  rfl
theorem Quote_ok {s : List UInt8} (hs : s.length ≤ 65536) : runes_Quote 80000 s = some (qt s, 0) := by
  unfold runes_Quote
  rw [long_ok hs]
  simp only [Option.bind_some]
  rw [if_neg (by simp), quote_ok hs]
  rfl
end Go.Ev

namespace Go.Ev
open Go
set_option linter.unusedVariables false

theorem thS_plain {b : UInt8} (r : List UInt8) (hb : b ≠ 92) : thS (b :: r) = if b.toNat < 32 ∨ 126 < b.toNat then ([], 0) else ([b], 1) := by
  unfold thS
  exact if_pos hb
theorem tw_all {l r : List UInt8} (h : ∀ b ∈ l, isHx b = true) (hr : ∀ b, r.head? = some b → isHx b = false) : (l ++ r).takeWhile isHx = l := by
  induction l with
  | nil =>
    cases r with
    | nil => rfl
    | cons b r => rw [List.nil_append, List.takeWhile_cons, hr b rfl]; rfl
  | cons a l ih =>
    rw [List.cons_append, List.takeWhile_cons, h a List.mem_cons_self, if_pos rfl, ih (fun b hb => h b (List.mem_cons_of_mem _ hb))]
/-- What a piece shows stands for its bytes. -/
theorem thS_shw {s : List UInt8} {p : Nat} (h : p < s.length) (rest : List UInt8) : thS (shw s p ++ rest) = (seg s p (p + (g s p).2), (shw s p).length) := by
  have hlt := gb_lt s p
  have hr := g_rune s p
  unfold shw
  cases hbad : bad s p with
  | true =>
    obtain ⟨e1, e2⟩ := bad_iff hbad
    have hb : 128 ≤ gb s p := by
      refine Nat.le_of_not_lt fun q => ?_
      rw [g_small h q] at e1
      simp only at e1
      omega
    have hh := hd_hx (d := gb s p / 16) (by omega)
    have hh2 := hd_hx (d := gb s p % 16) (by omega)
    rw [if_pos rfl, hexN_two hlt (by omega)]
    show thS (92 :: 120 :: hd (gb s p / 16) :: hd (gb s p % 16) :: rest) = _
    rw [thS_esc, if_neg (by decide), if_pos rfl, if_neg (by
      rintro (q | q)
      · rw [List.takeWhile_cons, hh.1, if_pos rfl, List.takeWhile_cons, hh2.1, if_pos rfl] at q
        simp at q
        omega
      · have := hh.2.2.2.1 (by omega)
        simp at q
        omega)]
    rw [e2, seg_bytes (by omega)]
    have hv2 : hv [hd (gb s p / 16), hd (gb s p % 16)] = gb s p := by
      show 16 * (16 * 0 + dg (hd (gb s p / 16))) + dg (hd (gb s p % 16)) = _
      rw [hh.2.1, hh2.2.1]
      omega
    show ([UInt8.ofNat (hv [hd (gb s p / 16), hd (gb s p % 16)])], 4) = _
    rw [hv2]
    rfl
  | false =>
    have hseg := seg_enc h hbad
    rw [if_neg (by simp)]
    by_cases q1 : gb s p = 34 ∨ gb s p = 92
    · rw [if_pos q1]
      rw [g_small h (by omega), encN_small (by omega)] at hseg
      rw [g_small h (by omega), hseg]
      show thS (92 :: UInt8.ofNat (gb s p) :: rest) = _
      rw [thS_esc, if_pos (by rcases q1 with q | q <;> rw [q] <;> simp)]
      rfl
    · rw [if_neg q1]
      by_cases q2 : 32 ≤ gb s p ∧ gb s p < 127
      · rw [if_pos q2]
        rw [g_small h (by omega), encN_small (by omega)] at hseg
        rw [g_small h (by omega), hseg]
        have en : (UInt8.ofNat (gb s p)).toNat = gb s p := by simp [UInt8.toNat_ofNat']; omega
        show thS (UInt8.ofNat (gb s p) :: rest) = _
        rw [thS_plain _ (by intro e; have := congrArg UInt8.toNat e; rw [en] at this; simp at this; omega), if_neg (by rw [en]; omega)]
        rfl
      · rw [if_neg q2]
        obtain ⟨f1, f2, f3, d, ds, f4, f5, f6⟩ := hexN_facts (n := (g s p).1) (by omega)
        have e0 : ([92, 117] ++ hexN (g s p).1 ++ [59]) ++ rest = 92 :: 117 :: (hexN (g s p).1 ++ (59 :: rest)) := by simp
        rw [e0, thS_esc, if_neg (by decide), if_neg (by decide), if_pos rfl]
        have e1 : (hexN (g s p).1 ++ (59 :: rest)).takeWhile isHx = hexN (g s p).1 := tw_all f1 (fun b hb => by cases hb; rfl)
        rw [e1, hseg, f2]
        have hnp : ¬ (32 ≤ (g s p).1 ∧ (g s p).1 ≤ 126) := by
          by_cases q : gb s p < 128
          · rw [g_small h q]; simp only; omega
          · have : 128 ≤ (g s p).1 := by
              rcases g_kinds hbad with k | k | k | k
              · exfalso
                unfold g Lib.decodeN at k
                rw [if_neg q] at k
                revert k
                have h1 := gb_lt s (p + 1); have h2 := gb_lt s (p + 2); have h3 := gb_lt s (p + 3)
                repeat' split
                all_goals simp only; omega
              all_goals omega
            omega
        have hu : uOK (hexN (g s p).1 ++ (59 :: rest)) (hexN (g s p).1) = true := by
          unfold uOK
          have a1 : (hexN (g s p).1).isEmpty = false := by rw [f4]; rfl
          have a2 : okB (hv (hexN (g s p).1)) = true := by rw [f2]; exact okB_iff.2 (g_ok s p)
          have a3 : (decide (32 ≤ hv (hexN (g s p).1)) && decide (hv (hexN (g s p).1) ≤ 126)) = false := by rw [f2]; simp; omega
          have a4 : (((hexN (g s p).1 ++ (59 :: rest)).headD 0 == 48) && decide (1 < (hexN (g s p).1).length)) = false := by
            rw [Bool.eq_false_iff]
            intro q
            simp only [Bool.and_eq_true, beq_iff_eq, decide_eq_true_eq] at q
            obtain ⟨q1, q2⟩ := q
            rw [f4] at q1 q2
            simp at q1
            rcases Nat.eq_zero_or_pos (g s p).1 with z | z
            · rw [f6 (by omega)] at q2; simp at q2
            · exact f5 z q1
          have a5 : (((hexN (g s p).1 ++ (59 :: rest)).drop (hexN (g s p).1).length).head? == some 59) = true := by simp
          rw [a1, a2, a3, a4, a5]
          rfl
        rw [hu, if_pos rfl]
        simp

theorem encN_len4 (c : Nat) : (encN c).length ≤ 4 := encN_len c
theorem thS_len : ∀ (s : List UInt8), (thS s).2 ≤ s.length ∧ (thS s).1.length ≤ 4 := by
  intro s
  match s with
  | [] => exact ⟨Nat.le_refl _, by simp [thS]⟩
  | b :: r =>
    by_cases hb : b = 92
    · subst hb
      match r with
      | [] => exact ⟨by simp [thS], by simp [thS]⟩
      | c :: t =>
        rw [thS_esc]
        have hl := tw_dw t
        split
        · exact ⟨by simp, by simp⟩
        · split
          · split
            · exact ⟨by simp, by simp⟩
            · rename_i h
              have : 2 ≤ (t.takeWhile isHx).length := by omega
              exact ⟨by simp only [List.length_cons]; omega, by simp⟩
          · split
            · split
              · rename_i h
                refine ⟨?_, encN_len _⟩
                have h5 : ((t.drop (t.takeWhile isHx).length).head? == some 59) = true := by
                  unfold uOK at h
                  simp only [Bool.and_eq_true] at h
                  exact h.2.2.2.2
                have : (t.takeWhile isHx).length < t.length := by
                  refine Nat.lt_of_not_le fun hn => ?_
                  rw [List.drop_eq_nil_of_le hn] at h5
                  simp at h5
                simp only [List.length_cons]
                omega
              · exact ⟨by simp, by simp⟩
            · exact ⟨by simp, by simp⟩
    · rw [thS_plain _ hb]
      split
      · exact ⟨by simp, by simp⟩
      · exact ⟨by simp, by simp⟩

/-- One round of reading. -/
theorem Plain_l1 {q : List UInt8} (hq : q.length ≤ 70000) (n at1 : Nat) (out : List UInt8) (h : at1 ≤ q.length) (ho : out.length ≤ 300000) :
    runes_Plain_l1 80000 q (n + 1) (at1 : Int) (bytesEl out) =
      if at1 < q.length ∧ q.getD at1 0 ≠ 34 then (if (thS (q.drop at1)).2 = 0 then some ([], (at1 : Int), 10) else runes_Plain_l1 80000 q n ((at1 + (thS (q.drop at1)).2 : Nat) : Int) (bytesEl (out ++ (thS (q.drop at1)).1)))
      else if q.length ≤ at1 then some ([], (at1 : Int), 10) else if at1 + 1 < q.length then some ([], ((at1 + 1 : Nat) : Int), 10) else if 65536 < out.length then some ([], 0, 3) else if qt out = q then some (out, 0, 0) else some ([], 0, 10) := by
  have J1 : ∀ (go : Int → List Int → Option (List UInt8 × Int × Int)), at1 < q.length → runes_Plain_j1 80000 q (at1 : Int) (bytesEl out) go true =
      if (thS (q.drop at1)).2 = 0 then some ([], (at1 : Int), 10) else go ((at1 + (thS (q.drop at1)).2 : Nat) : Int) (bytesEl (out ++ (thS (q.drop at1)).1)) := by
    intro go hlt
    obtain ⟨t1, t2⟩ := thS_len (q.drop at1)
    rw [List.length_drop] at t1
    unfold runes_Plain_j1
    rw [if_pos rfl, sub_all h]
    simp only [Option.bind_some]
    rw [Thing_ok (by intro e; have := congrArg List.length e; rw [List.length_drop] at this; simp at this; omega) (by rw [List.length_drop]; omega)]
    simp only [Option.bind_some]
    by_cases hz : (thS (q.drop at1)).2 = 0
    · rw [if_pos (by simp [hz]), if_pos hz]
    · rw [if_neg (by simp only [beq_iff_eq]; omega), if_neg hz]
      unfold strings_Builder_WriteString_i1 bld_copyCheck
      simp only [Option.bind_some]
      rw [chk_ok (by unfold lim; rw [bytesEl_len, bytesEl_len]; omega)]
      simp only [Option.bind_some]
      rw [bytesEl_append, wi64_id (by omega) (by omega)]
      rfl
  have J2 : ∀ (go : Int → List Int → Option (List UInt8 × Int × Int)), runes_Plain_j1 80000 q (at1 : Int) (bytesEl out) go false =
      if q.length ≤ at1 then some ([], (at1 : Int), 10) else if at1 + 1 < q.length then some ([], ((at1 + 1 : Nat) : Int), 10) else if 65536 < out.length then some ([], 0, 3) else if qt out = q then some (out, 0, 0) else some ([], 0, 10) := by
    intro go
    unfold runes_Plain_j1
    rw [if_neg (by simp)]
    by_cases c1 : q.length ≤ at1
    · rw [if_pos (by simp only [decide_eq_true_eq]; omega), if_pos c1]
    · rw [if_neg (by simp only [decide_eq_true_eq]; omega), if_neg c1]
      have e1 : wi64 ((at1 : Int) + 1) = ((at1 + 1 : Nat) : Int) := by rw [wi64_id (by omega) (by omega)]; omega
      rw [e1]
      by_cases c2 : at1 + 1 < q.length
      · rw [if_pos (by simp only [decide_eq_true_eq]; omega), if_pos c2]
      · rw [if_neg (by simp only [decide_eq_true_eq]; omega), if_neg c2]
        unfold strings_Builder_Len_i1
        simp only [Option.bind_some]
        rw [bytesEl_len]
        by_cases c3 : 65536 < out.length
        · rw [if_pos (by simp only [decide_eq_true_eq]; omega), if_pos c3]
        · rw [if_neg (by simp only [decide_eq_true_eq]; omega), if_neg c3]
          unfold bld_String
          rw [bytesStr_bytesEl, if_pos rfl]
          simp only [Option.bind_some]
          rw [quote_ok (by omega)]
          simp only [Option.bind_some]
          by_cases c4 : qt out = q
          · rw [if_neg (by simp [c4]), if_pos c4]
          · rw [if_pos (by simp [c4]), if_neg c4]
  show runes_Plain_b1 80000 q (runes_Plain_l1 80000 q n) (at1 : Int) (bytesEl out) = _
  unfold runes_Plain_b1
  by_cases hp : at1 < q.length
  · rw [if_pos (by simp only [decide_eq_true_eq]; omega), byteAt_gb hp]
    simp only [Option.bind_some]
    have e : ((gb q at1 : Int) != 34) = decide (q.getD at1 0 ≠ 34) := ne_lit (n := 34)
    rw [e]
    by_cases hc : q.getD at1 0 ≠ 34
    · rw [decide_eq_true hc]
      exact (J1 _ hp).trans (if_pos ⟨hp, hc⟩).symm
    · rw [decide_eq_false hc]
      exact (J2 _).trans (if_neg (fun x => hc x.2)).symm
  · rw [if_neg (by simp only [decide_eq_true_eq]; omega)]
    exact (J2 _).trans (if_neg (fun x => hp x.1)).symm

theorem Plain_any_l1 {q : List UInt8} (hq : q.length ≤ 70000) : ∀ n at1 (out : List UInt8), at1 ≤ q.length → q.length - at1 < n → out.length ≤ 4 * at1 →
    ∃ v p e, runes_Plain_l1 80000 q n (at1 : Int) (bytesEl out) = some (v, p, e) ∧ ((e ≠ 0 ∧ v = [] ∧ 0 ≤ p ∧ p ≤ (q.length : Int)) ∨ (e = 0 ∧ p = 0 ∧ v.length ≤ 65536 ∧ qt v = q)) := by
  intro n
  induction n with
  | zero => intro at1 out _ h; omega
  | succ n ih =>
    intro at1 out h1 h2 h3
    obtain ⟨t1, t2⟩ := thS_len (q.drop at1)
    rw [List.length_drop] at t1
    rw [Plain_l1 hq n at1 out h1 (by omega)]
    split
    · rename_i c
      split
      · exact ⟨_, _, _, rfl, .inl ⟨by simp, rfl, by omega, by omega⟩⟩
      · exact ih _ _ (by omega) (by omega) (by rw [List.length_append]; omega)
    · split
      · exact ⟨_, _, _, rfl, .inl ⟨by simp, rfl, by omega, by omega⟩⟩
      · split
        · exact ⟨_, _, _, rfl, .inl ⟨by simp, rfl, by omega, by omega⟩⟩
        · split
          · exact ⟨_, _, _, rfl, .inl ⟨by simp, rfl, by omega, by omega⟩⟩
          · split
            · rename_i c4
              exact ⟨_, _, _, rfl, .inr ⟨rfl, rfl, by omega, c4⟩⟩
            · exact ⟨_, _, _, rfl, .inl ⟨by simp, rfl, by omega, by omega⟩⟩
theorem Plain_any {q : List UInt8} (hq : q.length ≤ 70000) : ∃ v p e, runes_Plain 80000 q = some (v, p, e) ∧ ((e ≠ 0 ∧ v = [] ∧ 0 ≤ p ∧ p ≤ (q.length : Int)) ∨ (e = 0 ∧ p = 0 ∧ v.length ≤ 65536 ∧ qt v = q)) := by
  unfold runes_Plain
  rw [if_neg (by simp only [decide_eq_true_eq]; omega), Prefix1]
  simp only [Option.bind_some]
  split
  · exact ⟨_, _, _, rfl, .inl ⟨by simp, rfl, by omega, by omega⟩⟩
  · rename_i c
    have : 1 ≤ q.length := by
      cases q with
      | nil => simp at c
      | cons _ _ => simp
    have := Plain_any_l1 hq 80000 1 [] this (by omega) (by simp)
    exact this
theorem shw_head {s : List UInt8} {p : Nat} (h : p < s.length) : ∃ b r, shw s p = b :: r ∧ b ≠ 34 := by
  have hlt := gb_lt s p
  unfold shw
  split
  · exact ⟨92, _, rfl, by decide⟩
  · split
    · exact ⟨92, _, rfl, by decide⟩
    · split
      · rename_i q1 q2
        refine ⟨_, _, rfl, ?_⟩
        intro e
        have := congrArg UInt8.toNat e
        simp at this
        omega
      · exact ⟨92, _, rfl, by decide⟩
theorem hexF_len : ∀ m j n, 0 < j → n < 16 ^ j → (hexF m n).length ≤ j := by
  intro m
  induction m with
  | zero => intro j n h1 _; simp [hexF]
  | succ m ih =>
    intro j n h1 h2
    unfold hexF
    split
    · simp; omega
    · obtain ⟨j, rfl⟩ : ∃ i, j = i + 1 := ⟨j - 1, by omega⟩
      have hj : 0 < j := by
        rcases Nat.eq_zero_or_pos j with rfl | q
        · simp at h2; omega
        · exact q
      have := ih j (n / 16) hj (by rw [Nat.div_lt_iff_lt_mul (by omega)]; rw [Nat.pow_succ] at h2; exact h2)
      rw [List.length_append, List.length_singleton]
      omega
theorem shw_len9 (s : List UInt8) (p : Nat) : (shw s p).length ≤ 9 := by
  have h1 : (hexN (gb s p)).length ≤ 6 := hexF_len 16 6 _ (by omega) (by have := gb_lt s p; omega)
  have h2 : (hexN (g s p).1).length ≤ 6 := hexF_len 16 6 _ (by omega) (by have := g_rune s p; omega)
  unfold shw
  repeat' split
  all_goals simp; try omega
theorem shs_len9 (s : List UInt8) : ∀ n p, s.length - p < n → (shs s p).length ≤ 9 * (s.length - p) := by
  intro n
  induction n with
  | zero => intro p h; omega
  | succ n ih =>
    intro p h
    by_cases hp : p < s.length
    · have hg := g_size s p hp
      have hw := shw_len9 s p
      have := ih (p + (g s p).2) (by omega)
      rw [shs_cons hp, List.length_append]
      omega
    · rw [shs_nil hp]; simp
/-- A quoted text, read. -/
theorem Plain_back_l1 {s : List UInt8} (hs : s.length ≤ 5000) : ∀ n p (pre : List UInt8), p ≤ s.length → qt s = pre ++ (shs s p ++ [34]) → s.length - p < n → 
    runes_Plain_l1 80000 (qt s) n (pre.length : Int) (bytesEl (s.take p)) = some (s, 0, 0) := by
  have hl := shs_len9 s _ 0 (Nat.lt_succ_self _)
  have hq : (qt s).length ≤ 70000 := by unfold qt; simp only [List.length_cons, List.length_append, List.length_nil]; omega
  intro n
  induction n with
  | zero => intro p pre _ _ h; omega
  | succ n ih =>
    intro p pre h1 h2 h3
    have hlen : (qt s).length = pre.length + ((shs s p).length + 1) := by rw [h2]; simp
    rw [Plain_l1 hq n pre.length _ (by omega) (by rw [List.length_take]; omega)]
    by_cases hp : p < s.length
    · obtain ⟨b, r, e1, e2⟩ := shw_head hp
      have hg := g_size s p hp
      have hdrop : (qt s).drop pre.length = shw s p ++ (shs s (p + (g s p).2) ++ [34]) := by rw [h2, List.drop_left, shs_cons hp, List.append_assoc]
      have hget : (qt s).getD pre.length 0 = b := by
        rw [h2, List.getD_eq_getElem?_getD, List.getElem?_append_right (Nat.le_refl _), Nat.sub_self, shs_cons hp, e1]
        rfl
      rw [if_pos ⟨by omega, by rw [hget]; exact e2⟩, hdrop, thS_shw hp]
      have hpos : (shw s p).length ≠ 0 := by rw [e1]; simp
      rw [if_neg hpos]
      have hseg : s.take p ++ seg s p (p + (g s p).2) = s.take (p + (g s p).2) := by
        have := seg_append (s := s) (a := 0) (b := p) (c := p + (g s p).2) (by omega) (by omega)
        simpa [seg] using this
      rw [hseg]
      have := ih (p + (g s p).2) (pre ++ shw s p) hg.2.1 (by rw [h2, shs_cons hp]; simp) (by omega)
      rw [List.length_append] at this
      exact this
    · have hpe : p = s.length := by omega
      rw [shs_nil hp] at h2 hlen
      have hget : (qt s).getD pre.length 0 = 34 := by
        rw [h2, List.getD_eq_getElem?_getD, List.getElem?_append_right (Nat.le_refl _), Nat.sub_self]
        rfl
      rw [if_neg (by rw [hget]; simp)]
      simp only [List.length_nil] at hlen
      rw [if_neg (by omega), if_neg (by omega), if_neg (by rw [List.length_take]; omega), hpe, List.take_length, if_pos rfl]

theorem qt_len {s : List UInt8} : (qt s).length ≤ 9 * s.length + 2 := by
  have hl := shs_len9 s _ 0 (Nat.lt_succ_self _)
  unfold qt
  simp only [List.length_cons, List.length_append, List.length_nil]
  omega
theorem Plain_back {s : List UInt8} (hs : s.length ≤ 5000) : runes_Plain 80000 (qt s) = some (s, 0, 0) := by
  have hq := qt_len (s := s)
  unfold runes_Plain
  rw [if_neg (by simp only [decide_eq_true_eq]; omega), Prefix1]
  simp only [Option.bind_some]
  rw [if_neg (by simp [qt])]
  exact Plain_back_l1 hs 80000 0 [34] (by omega) rfl (by omega)
/-- All that is shown is plain to see, and it is no shorter. -/
theorem shw_see {s : List UInt8} {p : Nat} (h : p < s.length) : (∀ b ∈ shw s p, 32 ≤ b.toNat ∧ b.toNat ≤ 126) ∧ (g s p).2 ≤ (shw s p).length := by
  have hlt := gb_lt s p
  have hg := g_size s p h
  have hx : ∀ b, isHx b = true → 32 ≤ b.toNat ∧ b.toNat ≤ 126 := by
    intro b hb
    unfold isHx at hb
    simp only [Bool.or_eq_true, Bool.and_eq_true, decide_eq_true_eq] at hb
    omega
  have f1 := hexN_facts (n := gb s p) (by omega)
  have f2 := hexN_facts (n := (g s p).1) (by have := g_rune s p; omega)
  unfold shw
  cases hbad : bad s p with
  | true =>
    obtain ⟨e1, e2⟩ := bad_iff hbad
    rw [if_pos rfl]
    refine ⟨?_, by rw [e2]; simp⟩
    intro b hb
    simp only [List.cons_append, List.nil_append, List.mem_cons] at hb
    rcases hb with rfl | rfl | hb
    · decide
    · decide
    · exact hx b (f1.1 b hb)
  | false =>
    rw [if_neg (by simp)]
    split
    · rename_i q
      refine ⟨?_, by rw [g_small h (by omega)]; simp⟩
      intro b hb
      simp only [List.mem_cons, List.not_mem_nil, or_false] at hb
      rcases hb with rfl | rfl
      · decide
      · rcases q with q | q <;> rw [q] <;> decide
    · split
      · rename_i q
        refine ⟨?_, by rw [g_small h (by omega)]; simp⟩
        intro b hb
        simp only [List.mem_cons, List.not_mem_nil, or_false] at hb
        subst hb
        simp
        omega
      · obtain ⟨d, ds, e, _⟩ := f2.2.2.2
        refine ⟨?_, by simp; rw [e]; simp; omega⟩
        intro b hb
        simp only [List.cons_append, List.nil_append, List.mem_append, List.mem_cons, List.not_mem_nil, or_false] at hb
        rcases hb with rfl | rfl | hb | rfl
        · decide
        · decide
        · exact hx b (f2.1 b hb)
        · decide
theorem shs_see {s : List UInt8} : ∀ n p, p ≤ s.length → s.length - p < n → (∀ b ∈ shs s p, 32 ≤ b.toNat ∧ b.toNat ≤ 126) ∧ s.length - p ≤ (shs s p).length := by
  intro n
  induction n with
  | zero => intro p _ h; omega
  | succ n ih =>
    intro p h1 h
    by_cases hp : p < s.length
    · have hg := g_size s p hp
      obtain ⟨a1, a2⟩ := shw_see hp
      obtain ⟨b1, b2⟩ := ih (p + (g s p).2) hg.2.1 (by omega)
      rw [shs_cons hp]
      refine ⟨fun b hb => ?_, by rw [List.length_append]; omega⟩
      rcases List.mem_append.1 hb with q | q
      · exact a1 b q
      · exact b1 b q
    · rw [shs_nil hp]
      exact ⟨fun b hb => by simp at hb, by omega⟩
theorem qt_see (s : List UInt8) : (∀ b ∈ qt s, 32 ≤ b.toNat ∧ b.toNat ≤ 126) ∧ s.length + 2 ≤ (qt s).length := by
  obtain ⟨a1, a2⟩ := shs_see (s := s) _ 0 (Nat.zero_le _) (Nat.lt_succ_self _)
  unfold qt
  refine ⟨?_, by simp only [List.length_cons, List.length_append, List.length_nil]; omega⟩
  intro b hb
  simp only [List.mem_cons, List.mem_append, List.not_mem_nil, or_false] at hb
  rcases hb with rfl | hb | rfl
  · decide
  · exact a1 b hb
  · decide
theorem RunesPlain_l1 {s q : List UInt8} (hs : s.length ≤ 5000) (hq : q.length ≤ 5000) : ∀ n i, i ≤ (qt s).length → (qt s).length - i < n → l01_RunesPlain_l1 80000 (qt s, 0) q true n (i : Int) = some true := by
  have hl := qt_len (s := s)
  intro n
  induction n with
  | zero => intro i _ h; omega
  | succ n ih =>
    intro i h1 h2
    unfold l01_RunesPlain_l1 l01_RunesPlain_b1
    by_cases hi : i < (qt s).length
    · rw [if_pos (by simp only [decide_eq_true_eq]; omega), byteAt_gb hi]
      simp only [Option.bind_some]
      have hb := (qt_see s).1 ((qt s)[i]'hi) (List.getElem_mem hi)
      have hgb : gb (qt s) i = ((qt s)[i]'hi).toNat := by unfold gb; rw [List.getD_eq_getElem?_getD, List.getElem?_eq_getElem hi]; rfl
      rw [if_neg (by simp only [decide_eq_true_eq]; omega)]
      unfold l01_RunesPlain_j6
      rw [if_neg (by simp only [decide_eq_true_eq]; omega), show wi64 ((i : Int) + 1) = ((i + 1 : Nat) : Int) by rw [wi64_id] <;> omega]
      exact ih (i + 1) (by omega) (by omega)
    · rw [if_neg (by simp only [decide_eq_true_eq]; omega)]
      obtain ⟨v, p, e, hr, hc⟩ := Plain_any (q := q) (by omega)
      rw [hr]
      simp only [Option.bind_some]
      rcases hc with ⟨c1, c2, c3, c4⟩ | ⟨c1, c2, c3, c4⟩
      · subst c2
        rw [if_pos (by simp [c1])]
        unfold l01_RunesPlain_j7 l01_RunesPlain_j8 l01_RunesPlain_j9
        simp [c3, c4]
      · subst c1
        subst c2
        rw [if_neg (by simp), Quote_ok c3]
        simp only [Option.bind_some]
        unfold l01_RunesPlain_j10 l01_RunesPlain_j11 l01_RunesPlain_j12
        simp [c4]
def K_RunesPlain : Nat := 80000
theorem RunesPlain_true' (s q : List UInt8) : l01_RunesPlain K_RunesPlain s q = some true := by
  unfold K_RunesPlain l01_RunesPlain
  rw [alive_true]
  simp only [Option.bind_some]
  unfold l01_RunesPlain_j1
  by_cases h : s.length ≤ 5000 ∧ q.length ≤ 5000
  · rw [if_neg (by simp only [Bool.or_eq_true, decide_eq_true_eq]; omega), Quote_ok (by omega)]
    simp only [Option.bind_some]
    rw [Plain_back h.1]
    simp only [Option.bind_some]
    unfold l01_RunesPlain_j2 l01_RunesPlain_j3 l01_RunesPlain_j4 l01_RunesPlain_j5
    have hl := (qt_see s).2
    rw [if_neg (by
      simp only [bne_self_eq_false, Bool.or_self, Bool.false_or, beq_self_eq_true, Bool.not_true, decide_eq_true_eq]
      rw [wi64_id (by omega) (by omega)]
      omega)]
    exact RunesPlain_l1 h.1 h.2 80000 0 (Nat.zero_le _) (by have := qt_len (s := s); omega)
  · rw [if_pos (by simp only [Bool.or_eq_true, decide_eq_true_eq]; omega)]
end Go.Ev

namespace Go.Ev
open Go
set_option linter.unusedVariables false

theorem byteAt_pre (p s : List UInt8) (j : Nat) : byteAt (p ++ s) ((p.length + j : Nat) : Int) = byteAt s (j : Int) := by
  unfold byteAt at?
  rw [if_pos (by omega), if_pos (by omega), Int.toNat_natCast, Int.toNat_natCast, List.getElem?_append_right (by omega), Nat.add_sub_cancel_left]
theorem sub_pre (p s : List UInt8) {a b : Nat} (h1 : a ≤ b) (h2 : b ≤ s.length) : sub? (p ++ s) ((p.length + a : Nat) : Int) ((p.length + b : Nat) : Int) = some (seg s a b) := by
  rw [sub_seg (by omega) (by rw [List.length_append]; omega)]
  unfold seg
  rw [List.take_append, List.take_of_length_le (by omega), Nat.add_sub_cancel_left, List.drop_append, List.drop_eq_nil_of_le (by omega), List.nil_append, Nat.add_sub_cancel_left]

/-- A digit. -/
theorem sixteen_ok (k : Nat) {d : Nat} (h : d < 16) : r01_sixteen k (d : Int) = some [hd d] := by
  unfold r01_sixteen
  have : ∀ d : Fin 16, sub? ([48, 49, 50, 51, 52, 53, 54, 55, 56, 57, 97, 98, 99, 100, 101, 102] : List UInt8) (d.1 : Int) (wi64 ((d.1 : Int) + 1)) = some [hd d.1] := by decide +kernel
  rw [this ⟨d, h⟩]
  rfl
theorem number_ok : ∀ (m k n : Nat), 0 < m → m ≤ 16 → m ≤ k → n < 16 ^ m → n < 9223372036854775808 → r01_number k (n : Int) = some (hexF m n) := by
  intro m
  induction m with
  | zero => intro k n h; omega
  | succ m ih =>
    intro k n _ h1 h2 h3 h4
    obtain ⟨k, rfl⟩ : ∃ j, k = j + 1 := ⟨k - 1, by omega⟩
    unfold r01_number hexF
    by_cases h : n < 16
    · rw [if_pos (by simp only [decide_eq_true_eq]; omega), if_pos h, sixteen_ok _ h]
      rfl
    · have hm : 0 < m := by
        rcases Nat.eq_zero_or_pos m with rfl | q
        · simp at h3; omega
        · exact q
      rw [if_neg (by simp only [decide_eq_true_eq]; omega), if_neg h, chk_ok (by decide), show (16 : Int) = ((16 : Nat) : Int) from rfl, tdiv_nat, tmod_nat, wi64_id (by omega) (by omega)]
      simp only [Option.bind_some]
      rw [ih k (n / 16) hm (by omega) (by omega) (by rw [Nat.div_lt_iff_lt_mul (by omega)]; rw [Nat.pow_succ] at h3; exact h3) (by omega), sixteen_ok _ (Nat.mod_lt _ (by omega))]
      simp only [Option.bind_some]
      have hl := hexF_len m m (n / 16) hm (by rw [Nat.div_lt_iff_lt_mul (by omega)]; rw [Nat.pow_succ] at h3; exact h3)
      rw [chk_ok (by unfold lim; simp; omega)]
      rfl
theorem number_N {k n : Nat} (hk : 16 ≤ k) (h : n < 9223372036854775808) : r01_number k (n : Int) = some (hexN n) := number_ok 16 k n (by omega) (by omega) hk (by omega) h

theorem sub_one {s : List UInt8} {p : Nat} (h : p < s.length) : sub? s (p : Int) (wi64 ((p : Int) + 1)) = some [UInt8.ofNat (gb s p)] ∨ 9223372036854775807 ≤ p := by
  by_cases hp : 9223372036854775807 ≤ p
  · exact .inr hp
  · refine .inl ?_
    rw [show wi64 ((p : Int) + 1) = ((p + 1 : Nat) : Int) by rw [wi64_id] <;> omega, sub_seg (by omega) (by omega)]
    unfold seg gb
    rw [List.take_succ_eq_append_getElem h, List.drop_append_of_le_length (by rw [List.length_take]; omega), List.drop_eq_nil_of_le (by rw [List.length_take]; omega)]
    simp [h]

set_option maxRecDepth 100000 in
theorem refShown_ok {s : List UInt8} {p : Nat} (h : p < s.length) (hs : s.length ≤ 1000000) (l : Int) : r01_shown 80000 s (((g s p).1 : Int), (p : Int), l, bad s p, ()) = some (shw s p) := by
  have hlt := gb_lt s p
  have hr := g_rune s p
  have h2 := (hexN_facts (n := (g s p).1) (by omega)).2.2.1
  have hsub := (sub_one h).resolve_right (by omega)
  unfold r01_shown shw
  simp only [byteAt_gb h, Option.bind_some]
  cases hbad : bad s p with
  | true =>
    obtain ⟨e1, e2⟩ := bad_iff hbad
    have hb : 128 ≤ gb s p := by
      refine Nat.le_of_not_lt fun q => ?_
      rw [g_small h q] at e1
      simp only at e1
      omega
    simp only [if_true]
    rw [hexN_two hlt (by omega), chk_ok (by decide), wi64_id (x := (gb s p : Int)) (by omega) (by omega), show (16 : Int) = ((16 : Nat) : Int) from rfl, tdiv_nat, tmod_nat, wi64_id (by omega) (by omega)]
    simp only [Option.bind_some]
    rw [sixteen_ok _ (by omega), sixteen_ok _ (Nat.mod_lt _ (by omega))]
    simp only [Option.bind_some]
    rw [chk_ok (by unfold lim; simp), chk_ok (by unfold lim; simp)]
    rfl
  | false =>
    simp only [Bool.false_eq_true, if_false]
    unfold r01_shown_j1 r01_shown_j2
    simp only [hsub, Option.bind_some]
    by_cases q : gb s p = 34 ∨ gb s p = 92
    · rw [if_pos (by simp only [Bool.or_eq_true, beq_iff_eq]; omega), if_pos q, chk_ok (by unfold lim; simp)]
      rfl
    · rw [if_neg (by simp only [Bool.or_eq_true, beq_iff_eq]; omega), if_neg q]
      by_cases q2 : 32 ≤ gb s p ∧ gb s p < 127
      · rw [if_pos (by simp only [Bool.and_eq_true, decide_eq_true_eq]; omega), if_pos q2]
      · rw [if_neg (by simp only [Bool.and_eq_true, decide_eq_true_eq]; omega), if_neg q2, wi64_id (by omega) (by omega), number_N (by omega) (by omega)]
        simp only [Option.bind_some]
        rw [chk_ok (by unfold lim; simp; omega), chk_ok (by unfold lim; simp; omega)]
        rfl

theorem shs_plc {s : List UInt8} {i : Nat} (h : i ≤ (pl s 0).length) : (i < (pl s 0).length → plc s i < s.length) ∧ (¬ i < (pl s 0).length → ¬ plc s i < s.length) := by
  refine ⟨fun hi => (plc_at hi).1, fun hi => ?_⟩
  have : i = (pl s 0).length := by omega
  rw [this, plc_end]
  omega
theorem refQuote_l1 {s : List UInt8} (hs : s.length ≤ 65536) : ∀ n i (acc : List UInt8), i ≤ (pl s 0).length → (pl s 0).length - i < n → acc.length + 20 * (s.length - plc s i) ≤ 2000000 →
    r01_quote_l1 80000 (pl s 0) s n (i : Int) (bytesEl acc) = some (acc ++ (shs s (plc s i) ++ [34])) := by
  have hlp := pl_len s
  intro n
  induction n with
  | zero => intro i acc _ h; omega
  | succ n ih =>
    intro i acc h1 h2 h3
    unfold r01_quote_l1 r01_quote_b1
    by_cases hi : i < (pl s 0).length
    · obtain ⟨hp, hat⟩ := plc_at hi
      have hg := g_size s _ hp
      have hw := shw_len s (plc s i)
      rw [if_pos (by simp only [decide_eq_true_eq]; omega), at_drop, hat]
      simp only [Option.bind_some]
      have hsh := refShown_ok hp (by omega) (((g s (plc s i)).2 : Nat) : Int)
      rw [show pc s (plc s i) = (((g s (plc s i)).1 : Int), ((plc s i : Nat) : Int), (((g s (plc s i)).2 : Nat) : Int), bad s (plc s i), ()) from rfl, hsh]
      simp only [Option.bind_some]
      rw [chk_ok (by unfold lim; rw [bytesEl_len, bytesEl_len]; omega)]
      simp only [Option.bind_some]
      rw [bytesEl_append, show wi64 ((i : Int) + 1) = ((i + 1 : Nat) : Int) by rw [wi64_id] <;> omega]
      have hn : plc s (i + 1) = plc s i + (g s (plc s i)).2 := rfl
      rw [ih (i + 1) _ (by omega) (by omega) (by rw [List.length_append, hn]; omega), hn, shs_cons hp]
      simp
    · have hp := (shs_plc h1).2 hi
      rw [if_neg (by simp only [decide_eq_true_eq]; omega), chk_ok (by unfold lim; rw [bytesEl_len]; simp; omega)]
      simp only [Option.bind_some]
      rw [show ([(34 : Int)] : List Int) = bytesEl [34] from rfl, bytesEl_append, bytesStr_bytesEl, shs_nil hp]
      simp
theorem refQuote_ok {s : List UInt8} (hs : s.length ≤ 65536) : r01_quote 80000 s = some (qt s) := by
  have hlp := pl_len s
  unfold r01_quote
  rw [All_eq (Nat.le_refl _) hs]
  simp only [Option.bind_some]
  have := refQuote_l1 hs 80000 0 [34] (Nat.zero_le _) (by omega) (by simp [plc]; omega)
  rw [show ([(34 : Int)] : List Int) = bytesEl [34] from rfl]
  exact this
theorem refQuoteE_ok {s : List UInt8} (hs : s.length ≤ 65536) : r01_Quote 80000 s = some (qt s, 0) := by
  unfold r01_Quote
  rw [if_neg (by simp only [decide_eq_true_eq]; omega), refQuote_ok hs]
  rfl

/-- A digit's worth. -/
theorem worth_ok (k : Nat) (b : UInt8) : r01_worth k (b.toNat : Int) = some (if isHx b then (dg b : Int) else -1) := by
  have hb := UInt8.toNat_lt b
  unfold r01_worth r01_worth_j1 r01_worth_j2 isHx dg
  by_cases h1 : 48 ≤ b.toNat ∧ b.toNat ≤ 57
  · rw [if_pos (by simp only [Bool.and_eq_true, decide_eq_true_eq]; omega), if_pos (by simp only [Bool.or_eq_true, Bool.and_eq_true, decide_eq_true_eq]; omega), if_pos h1.2, wu8_id (by omega) (by omega), wi64_id (by omega) (by omega)]
    congr 1
    omega
  · rw [if_neg (by simp only [Bool.and_eq_true, decide_eq_true_eq]; omega)]
    by_cases h2 : 97 ≤ b.toNat ∧ b.toNat ≤ 102
    · rw [if_pos (by simp only [Bool.and_eq_true, decide_eq_true_eq]; omega), if_pos (by simp only [Bool.or_eq_true, Bool.and_eq_true, decide_eq_true_eq]; omega), if_neg (by omega), wu8_id (by omega) (by omega), wi64_id (x := (b.toNat : Int) - 97) (by omega) (by omega), wi64_id (by omega) (by omega)]
      congr 1
      omega
    · rw [if_neg (by simp only [Bool.and_eq_true, decide_eq_true_eq]; omega), if_neg (by simp only [Bool.or_eq_true, Bool.and_eq_true, decide_eq_true_eq]; omega)]
theorem hd_dg {b : UInt8} (h : isHx b = true) : hd (dg b) = b := by
  have key : ∀ n : Fin 256, isHx (UInt8.ofNat n.1) = true → hd (dg (UInt8.ofNat n.1)) = UInt8.ofNat n.1 := by decide +kernel
  have := key ⟨b.toNat, UInt8.toNat_lt b⟩
  simp only [UInt8.ofNat_toNat] at this
  exact this h
theorem dg_pos {b : UInt8} (h : isHx b = true) (h0 : b ≠ 48) : 0 < dg b := by
  have key : ∀ n : Fin 256, isHx (UInt8.ofNat n.1) = true → UInt8.ofNat n.1 ≠ 48 → 0 < dg (UInt8.ofNat n.1) := by decide +kernel
  have := key ⟨b.toNat, UInt8.toNat_lt b⟩
  simp only [UInt8.ofNat_toNat] at this
  exact this h h0
/-- A numeral without noughts ahead is not small. -/
theorem hv_big {d : UInt8} (hd0 : isHx d = true) (h0 : d ≠ 48) (ds : List UInt8) : 16 ^ ds.length ≤ hv (d :: ds) := by
  have key : ∀ (l : List UInt8) (a : Nat), a * 16 ^ l.length ≤ l.foldl (fun n b => 16 * n + dg b) a := by
    intro l
    induction l with
    | nil => intro a; simp
    | cons b l ih =>
      intro a
      rw [List.foldl_cons, List.length_cons, Nat.pow_succ]
      refine Nat.le_trans ?_ (ih (16 * a + dg b))
      rw [show a * (16 ^ l.length * 16) = (16 * a) * 16 ^ l.length by rw [Nat.mul_comm (16 ^ l.length), ← Nat.mul_assoc, Nat.mul_comm a]]
      exact Nat.mul_le_mul_right _ (by omega)
  have h1 := dg_pos hd0 h0
  have := key ds (16 * 0 + dg d)
  unfold hv
  rw [List.foldl_cons]
  refine Nat.le_trans ?_ this
  rw [Nat.mul_zero, Nat.zero_add]
  exact Nat.le_mul_of_pos_left _ h1
theorem hv_lt {l : List UInt8} (h : ∀ b ∈ l, isHx b = true) : hv l < 16 ^ l.length := by
  have key : ∀ (l : List UInt8), (∀ b ∈ l, isHx b = true) → ∀ (a : Nat), l.foldl (fun n b => 16 * n + dg b) a < (a + 1) * 16 ^ l.length := by
    intro l
    induction l with
    | nil => intro _ a; simp
    | cons b l ih =>
      intro h a
      rw [List.foldl_cons, List.length_cons, Nat.pow_succ]
      have hd0 := dg_lt (h b List.mem_cons_self)
      refine Nat.lt_of_lt_of_le (ih (fun b hb => h b (List.mem_cons_of_mem _ hb)) _) ?_
      rw [show (a + 1) * (16 ^ l.length * 16) = (16 * (a + 1)) * 16 ^ l.length by rw [Nat.mul_comm (16 ^ l.length), ← Nat.mul_assoc, Nat.mul_comm (a + 1)]]
      exact Nat.mul_le_mul_right _ (by omega)
  have := key l h 0
  unfold hv
  omega
theorem hexF_hv : ∀ (m : Nat) (l : List UInt8), l.length ≤ m → (∀ b ∈ l, isHx b = true) → l ≠ [] → (l.headD 0 = 48 → l.length = 1) → hexF m (hv l) = l := by
  intro m
  induction m with
  | zero => intro l h _ h2; cases l <;> simp at *
  | succ m ih =>
    intro l h1 h2 h3 h4
    have hl : l = l.dropLast ++ [l.getLast h3] := (List.dropLast_concat_getLast h3).symm
    have hb := h2 _ (List.getLast_mem h3)
    have hd0 := dg_lt hb
    have hlen : l.length = l.dropLast.length + 1 := by conv => lhs; rw [hl, List.length_append, List.length_singleton]
    rw [hl, hv_snoc]
    unfold hexF
    by_cases hq : l.dropLast = []
    · rw [hq]
      rw [if_pos (by simp [hv]; exact hd0)]
      simp only [hv, List.foldl_nil, Nat.mul_zero, Nat.zero_add, List.nil_append]
      rw [hd_dg hb]
    · obtain ⟨d, ds, e⟩ : ∃ d ds, l.dropLast = d :: ds := by
        cases hd : l.dropLast with
        | nil => exact absurd hd hq
        | cons d ds => exact ⟨d, ds, rfl⟩
      have hhead : l.headD 0 = d := by rw [hl, e]; rfl
      have hd48 : d ≠ 48 := by
        intro e48
        have := h4 (by rw [hhead, e48])
        rw [hlen, e] at this
        simp at this
      have hdl : ∀ b ∈ l.dropLast, isHx b = true := fun b hb => h2 b (List.dropLast_subset _ hb)
      have hbig := hv_big (hdl d (by rw [e]; exact List.mem_cons_self)) hd48 ds
      rw [← e] at hbig
      have hp : 1 ≤ hv l.dropLast := Nat.le_trans (Nat.one_le_pow _ _ (by omega)) hbig
      rw [if_neg (by omega), show (16 * hv l.dropLast + dg (l.getLast h3)) / 16 = hv l.dropLast by omega, show (16 * hv l.dropLast + dg (l.getLast h3)) % 16 = dg (l.getLast h3) by omega,
        ih _ (by omega) hdl hq (fun q => by rw [e] at q; exact absurd q hd48), hd_dg hb]
/-- Is a numeral as it is written? -/
theorem hexN_self {l : List UInt8} (h : ∀ b ∈ l, isHx b = true) (h0 : l ≠ []) (hl : l.length ≤ 7) : hexN (hv l) = l ↔ ¬ (l.headD 0 = 48 ∧ 1 < l.length) := by
  have hlt := hv_lt h
  have h7 : (16 : Nat) ^ l.length ≤ 16 ^ 7 := Nat.pow_le_pow_right (by omega) hl
  constructor
  · rintro e ⟨q1, q2⟩
    obtain ⟨_, _, _, d, ds, f4, f5, f6⟩ := hexN_facts (n := hv l) (by omega)
    rw [e] at f4
    subst f4
    have hd48 : d = 48 := q1
    have hz : ¬ 0 < hv (d :: ds) := fun q => f5 q hd48
    have := f6 (by omega)
    subst this
    simp at q2
  · intro q
    exact hexF_hv 16 l (by omega) h h0 fun e => by
      by_cases hq : 1 < l.length
      · exact absurd ⟨e, hq⟩ q
      · have : 0 < l.length := by cases l with | nil => exact absurd rfl h0 | cons _ _ => simp
        omega
end Go.Ev
