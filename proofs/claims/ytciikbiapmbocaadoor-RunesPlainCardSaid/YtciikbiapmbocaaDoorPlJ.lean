/- Plain laws: numerals written. -/
import Derived.Test.YtciikbiapmbocaaDoorPlI
namespace Go.Ev
open Go
set_option linter.unusedVariables false

def hd (d : Nat) : UInt8 := hexs.getD d 0
def hexF : Nat → Nat → List UInt8
  | 0, _ => []
  | m + 1, n => if n < 16 then [hd n] else hexF m (n / 16) ++ [hd (n % 16)]
def hexN (n : Nat) : List UInt8 := hexF 16 n
def digs : List UInt8 := [48, 49, 50, 51, 52, 53, 54, 55, 56, 57, 97, 98, 99, 100, 101, 102, 103, 104, 105, 106, 107, 108, 109, 110, 111, 112, 113, 114, 115, 116, 117, 118, 119, 120, 121, 122]
theorem digs_at {d : Nat} (h : d < 16) : byteAt digs (d : Int) = some ((hd d).toNat : Int) := by
  have : ∀ d : Fin 16, byteAt digs (d.1 : Int) = some ((hd d.1).toNat : Int) := by decide
  exact this ⟨d, h⟩
theorem and15 {u : Nat} (h : u < 18446744073709551616) : wu64 (BitVec.toNat (BitVec.ofInt 64 (u : Int) &&& BitVec.ofInt 64 (15 : Int))) = ((u % 16 : Nat) : Int) := by
  have e : BitVec.toNat (BitVec.ofInt 64 (u : Int) &&& BitVec.ofInt 64 (15 : Int)) = u % 16 := by
    rw [BitVec.toNat_and, BitVec.ofInt_natCast, BitVec.toNat_ofNat, Nat.mod_eq_of_lt (by omega), show (BitVec.ofInt 64 (15 : Int)).toNat = 2 ^ 4 - 1 from rfl, Nat.and_two_pow_sub_one_eq_mod]
  rw [e, wu64_id (by omega) (by omega)]
theorem fdiv16 (u : Nat) : Int.fdiv (u : Int) (2 ^ min ((4 : Int)).toNat 64) = ((u / 16 : Nat) : Int) := by
  show Int.fdiv (u : Int) 16 = _
  rw [Int.fdiv_eq_ediv_of_nonneg _ (by omega)]
  omega
theorem set_drop {a : List Int} {i : Nat} (h : i < a.length) (b : Int) : (a.set i b).drop i = b :: a.drop (i + 1) := by
  rw [List.drop_eq_getElem_cons (by simpa using h), List.drop_set_of_lt (by omega)]
  simp
theorem sub_allG {α : Type} {s : List α} {p : Nat} (h : p ≤ s.length) : sub? s (p : Int) (s.length : Int) = some (s.drop p) := by
  unfold sub?
  rw [if_pos (by omega), Int.toNat_natCast, Int.toNat_natCast, List.take_length]
theorem fu_b1 (go1 : Int → Int → (List (Int)) → Option (List (Int) × List UInt8)) (u2 : Int) (i2 : Int) (a2 : List (Int)) : internal_strconv_formatBits_16_false_false_b1 go1 u2 i2 a2 =
  if decide ((16 : Int) ≤ u2) then
      Option.bind (byteAt digs (wu64 (BitVec.toNat (BitVec.ofInt 64 u2 &&& BitVec.ofInt 64 (15 : Int))))) fun b1 =>
      Option.bind (at? a2 (wi64 (i2 - (1 : Int)))) fun x1 =>
      Option.bind (chk (List.length a2 = 65)) fun _ =>
      Option.bind (chk (0 ≤ (4 : Int))) fun _ =>
      go1 (Int.fdiv u2 (2 ^ min ((4 : Int)).toNat 64)) (wi64 (i2 - (1 : Int))) (List.set a2 (wi64 (i2 - (1 : Int))).toNat b1)
  else
      Option.bind (byteAt digs u2) fun b2 =>
      Option.bind (at? a2 (wi64 (i2 - (1 : Int)))) fun x2 =>
      Option.bind (chk (List.length a2 = 65)) fun _ =>
      internal_strconv_formatBits_16_false_false_j1 (wi64 (i2 - (1 : Int))) ([] : List (Int)) (List.set a2 (wi64 (i2 - (1 : Int))).toNat b2) := rfl
theorem fi_b1 (neg1 : Bool) (go1 : Int → Int → (List (Int)) → Option (List (Int) × List UInt8)) (u2 : Int) (i2 : Int) (a2 : List (Int)) : internal_strconv_formatBits_16_false_b1 neg1 go1 u2 i2 a2 =
  if decide ((16 : Int) ≤ u2) then
      Option.bind (byteAt digs (wu64 (BitVec.toNat (BitVec.ofInt 64 u2 &&& BitVec.ofInt 64 (15 : Int))))) fun b1 =>
      Option.bind (at? a2 (wi64 (i2 - (1 : Int)))) fun x1 =>
      Option.bind (chk (List.length a2 = 65)) fun _ =>
      Option.bind (chk (0 ≤ (4 : Int))) fun _ =>
      go1 (Int.fdiv u2 (2 ^ min ((4 : Int)).toNat 64)) (wi64 (i2 - (1 : Int))) (List.set a2 (wi64 (i2 - (1 : Int))).toNat b1)
  else
      Option.bind (byteAt digs u2) fun b2 =>
      Option.bind (at? a2 (wi64 (i2 - (1 : Int)))) fun x2 =>
      Option.bind (chk (List.length a2 = 65)) fun _ =>
      internal_strconv_formatBits_16_false_j2 neg1 (wi64 (i2 - (1 : Int))) ([] : List (Int)) (List.set a2 (wi64 (i2 - (1 : Int))).toNat b2) := rfl
theorem fu_l1 : ∀ m n (u i : Nat) (a : List Int) (acc : List UInt8), 0 < m → m < n → u < 16 ^ m → m ≤ 16 → a.length = 65 → m ≤ i → i ≤ 65 → a.drop i = bytesEl acc →
    internal_strconv_formatBits_16_false_false_l1 n (u : Int) (i : Int) a = some ([], hexF m u ++ acc) := by
  intro m
  induction m with
  | zero => intro n u i a acc h0; omega
  | succ m ih =>
    intro n u i a acc h0 h1 h2 h3 h4 h5 h7 h8
    obtain ⟨n, rfl⟩ : ∃ k, n = k + 1 := ⟨n - 1, by omega⟩
    have hu : u < 18446744073709551616 := Nat.lt_of_lt_of_le h2 (Nat.pow_le_pow_right (by omega) h3)
    have ei : wi64 ((i : Int) - 1) = ((i - 1 : Nat) : Int) := by rw [wi64_id (by omega) (by omega)]; omega
    have hat : at? a ((i - 1 : Nat) : Int) = some (a[i - 1]'(by omega)) := by rw [at_drop, List.getElem?_eq_getElem]
    unfold internal_strconv_formatBits_16_false_false_l1
    rw [fu_b1, ei, hat, Int.toNat_natCast]
    by_cases hc : u < 16
    · rw [if_neg (by simp only [decide_eq_true_eq]; omega), digs_at hc]
      simp only [Option.bind_some]
      rw [chk_ok h4]
      simp only [Option.bind_some]
      unfold internal_strconv_formatBits_16_false_false_j1
      have hd1 : (a.set (i - 1) ((hd u).toNat : Int)).length = 65 := by rw [List.length_set]; exact h4
      rw [sub_allG (by omega), chk_ok hd1, set_drop (by omega), show i - 1 + 1 = i by omega, h8]
      simp only [Option.bind_some]
      unfold hexF
      rw [if_pos hc]
      have := bytesStr_bytesEl (hd u :: acc)
      simp only [bytesEl, List.map_cons] at this
      rw [show bytesEl acc = acc.map (fun b => (b.toNat : Int)) from rfl, this]
      rfl
    · rw [if_pos (by simp only [decide_eq_true_eq]; omega), and15 hu, digs_at (Nat.mod_lt _ (by omega)), fdiv16]
      simp only [Option.bind_some]
      rw [chk_ok h4, chk_ok (by decide)]
      simp only [Option.bind_some]
      have hm : 0 < m := by
        rcases Nat.eq_zero_or_pos m with rfl | h
        · simp at h2; omega
        · exact h
      rw [ih n (u / 16) (i - 1) _ (hd (u % 16) :: acc) hm (by omega) (by rw [Nat.div_lt_iff_lt_mul (by omega)]; rw [Nat.pow_succ] at h2; exact h2) (by omega) (by rw [List.length_set]; exact h4) (by omega) (by omega) (by rw [set_drop (by omega), show i - 1 + 1 = i by omega, h8]; rfl)]
      conv => rhs; unfold hexF
      rw [if_neg hc, List.append_assoc]
      rfl
theorem fi_l1 : ∀ m n (u i : Nat) (a : List Int) (acc : List UInt8), 0 < m → m < n → u < 16 ^ m → m ≤ 16 → a.length = 65 → m ≤ i → i ≤ 65 → a.drop i = bytesEl acc →
    internal_strconv_formatBits_16_false_l1 false n (u : Int) (i : Int) a = some ([], hexF m u ++ acc) := by
  intro m
  induction m with
  | zero => intro n u i a acc h0; omega
  | succ m ih =>
    intro n u i a acc h0 h1 h2 h3 h4 h5 h7 h8
    obtain ⟨n, rfl⟩ : ∃ k, n = k + 1 := ⟨n - 1, by omega⟩
    have hu : u < 18446744073709551616 := Nat.lt_of_lt_of_le h2 (Nat.pow_le_pow_right (by omega) h3)
    have ei : wi64 ((i : Int) - 1) = ((i - 1 : Nat) : Int) := by rw [wi64_id (by omega) (by omega)]; omega
    have hat : at? a ((i - 1 : Nat) : Int) = some (a[i - 1]'(by omega)) := by rw [at_drop, List.getElem?_eq_getElem]
    unfold internal_strconv_formatBits_16_false_l1
    rw [fi_b1, ei, hat, Int.toNat_natCast]
    by_cases hc : u < 16
    · rw [if_neg (by simp only [decide_eq_true_eq]; omega), digs_at hc]
      simp only [Option.bind_some]
      rw [chk_ok h4]
      simp only [Option.bind_some]
      unfold internal_strconv_formatBits_16_false_j2 internal_strconv_formatBits_16_false_j3
      rw [if_neg (by simp)]
      have hd1 : (a.set (i - 1) ((hd u).toNat : Int)).length = 65 := by rw [List.length_set]; exact h4
      rw [sub_allG (by omega), chk_ok hd1, set_drop (by omega), show i - 1 + 1 = i by omega, h8]
      simp only [Option.bind_some]
      unfold hexF
      rw [if_pos hc]
      have := bytesStr_bytesEl (hd u :: acc)
      simp only [bytesEl, List.map_cons] at this
      rw [show bytesEl acc = acc.map (fun b => (b.toNat : Int)) from rfl, this]
      rfl
    · rw [if_pos (by simp only [decide_eq_true_eq]; omega), and15 hu, digs_at (Nat.mod_lt _ (by omega)), fdiv16]
      simp only [Option.bind_some]
      rw [chk_ok h4, chk_ok (by decide)]
      simp only [Option.bind_some]
      have hm : 0 < m := by
        rcases Nat.eq_zero_or_pos m with rfl | h
        · simp at h2; omega
        · exact h
      rw [ih n (u / 16) (i - 1) _ (hd (u % 16) :: acc) hm (by omega) (by rw [Nat.div_lt_iff_lt_mul (by omega)]; rw [Nat.pow_succ] at h2; exact h2) (by omega) (by rw [List.length_set]; exact h4) (by omega) (by omega) (by rw [set_drop (by omega), show i - 1 + 1 = i by omega, h8]; rfl)]
      conv => rhs; unfold hexF
      rw [if_neg hc, List.append_assoc]
      rfl

theorem FormatUint_ok {n : Nat} (h : n < 18446744073709551616) : strconv_FormatUint_16 80000 (n : Int) = some (hexN n) := by
  unfold strconv_FormatUint_16 internal_strconv_FormatUint_16 internal_strconv_formatBits_16_false_false
  have := fu_l1 16 80000 n 65 (List.replicate 65 0) [] (by omega) (by omega) h (by omega) (by simp) (by omega) (by omega) (by simp [bytesEl])
  rw [show ((65 : Nat) : Int) = 65 from rfl] at this
  rw [this, List.append_nil]
  rfl
theorem FormatInt_ok {n : Nat} (h : n < 9223372036854775808) : strconv_FormatInt_16 80000 (n : Int) = some (hexN n) := by
  unfold strconv_FormatInt_16 internal_strconv_FormatInt_16 internal_strconv_formatBits_16_false
  rw [show decide ((n : Int) < 0) = false by simp, wu64_id (by omega) (by omega), if_neg (by simp)]
  unfold internal_strconv_formatBits_16_false_j1
  have := fi_l1 16 80000 n 65 (List.replicate 65 0) [] (by omega) (by omega) (by omega) (by omega) (by simp) (by omega) (by omega) (by simp [bytesEl])
  rw [show ((65 : Nat) : Int) = 65 from rfl] at this
  rw [this, List.append_nil]
  rfl
end Go.Ev
