/- Plain laws: hexadecimal digits; what stands ahead of the first other byte; the number that they are. -/
import Derived.Test.YtciikbiapmbocaaDoorShRu4
import Derived.Test.YtciikbiapmbocaaDoorPlF
namespace Go.Ev
open Go
set_option linter.unusedVariables false

def isHx (b : UInt8) : Bool := (decide (48 ≤ b.toNat) && decide (b.toNat ≤ 57)) || (decide (97 ≤ b.toNat) && decide (b.toNat ≤ 102))
def hexs : List UInt8 := [48, 49, 50, 51, 52, 53, 54, 55, 56, 57, 97, 98, 99, 100, 101, 102]
def asH : List Bool := (List.range 256).map fun i => isHx (UInt8.ofNat i)
set_option maxRecDepth 100000 in
theorem asciiSet_hex : strings_makeASCIISet 80000 hexs = some (asH, true) := by decide +kernel
theorem asH_at (b : UInt8) : at? asH (b.toNat : Int) = some (isHx b) := by
  rw [at_drop]
  unfold asH
  rw [List.getElem?_map, List.getElem?_range (UInt8.toNat_lt b)]
  simp
theorem byteAt_cons (b : UInt8) (s : List UInt8) : byteAt (b :: s) 0 = some (b.toNat : Int) := rfl
theorem sub_tail (b : UInt8) (s : List UInt8) : sub? (b :: s) 1 ((b :: s).length : Int) = some s := by
  unfold sub?
  rw [if_pos (by simp only [List.length_cons]; omega)]
  simp [Int.toNat_natCast]
theorem trimHex_l1 : ∀ n (s : List UInt8), s.length < n → strings_trimLeftASCII_l1 80000 asH n s = some (s.dropWhile isHx) := by
  intro n
  induction n with
  | zero => intro s h; omega
  | succ n ih =>
    intro s h
    unfold strings_trimLeftASCII_l1 strings_trimLeftASCII_b1 strings_trimLeftASCII_j1
    cases s with
    | nil => rfl
    | cons b s =>
      rw [if_pos (by simp only [decide_eq_true_eq, List.length_cons]; omega), byteAt_cons]
      unfold strings_asciiSet_contains
      simp only [Option.bind, asH_at]
      cases hb : isHx b with
      | true =>
        rw [if_neg (by simp), sub_tail]
        simp only []
        rw [ih s (by simpa using h), List.dropWhile_cons, if_pos hb]
      | false => rw [if_pos (by simp), List.dropWhile_cons, if_neg (by simp [hb])]
theorem TrimHex {s : List UInt8} (hs : s.length < 80000) : strings_TrimLeft 80000 s hexs = some (s.dropWhile isHx) := by
  unfold strings_TrimLeft strings_TrimLeft_j1 strings_TrimLeft_j2
  cases s with
  | nil => rfl
  | cons b s =>
    rw [if_neg (by simp [hexs]), if_neg (by simp [hexs]), if_neg (by simp), asciiSet_hex]
    simp only [Option.bind, if_true]
    unfold strings_trimLeftASCII
    rw [trimHex_l1 80000 _ hs]

/-- A digit's worth; a numeral's. -/
def dg (b : UInt8) : Nat := if b.toNat ≤ 57 then b.toNat - 48 else b.toNat - 87
def hv (l : List UInt8) : Nat := l.foldl (fun n b => 16 * n + dg b) 0
theorem dg_lt {b : UInt8} (h : isHx b = true) : dg b < 16 := by
  unfold isHx at h
  unfold dg
  simp only [Bool.or_eq_true, Bool.and_eq_true, decide_eq_true_eq] at h
  split <;> omega
theorem hv_snoc (l : List UInt8) (b : UInt8) : hv (l ++ [b]) = 16 * hv l + dg b := by simp [hv, List.foldl_append]

theorem hv_app_le (l m : List UInt8) : hv l ≤ hv (l ++ m) := by
  have : ∀ (m : List UInt8) (a : Nat), a ≤ m.foldl (fun n b => 16 * n + dg b) a := by
    intro m
    induction m with
    | nil => intro a; exact Nat.le_refl _
    | cons b m ih => intro a; rw [List.foldl_cons]; exact Nat.le_trans (by omega) (ih _)
  unfold hv
  rw [List.foldl_append]
  exact this m _
theorem lower_hx (k : Nat) {b : UInt8} (h : isHx b = true) (h2 : 57 < b.toNat) : internal_strconv_lower k (b.toNat : Int) = some (b.toNat : Int) := by
  have key : ∀ n : Fin 256, 97 ≤ n.1 → n.1 ≤ 102 → wu8 (BitVec.toNat (BitVec.ofInt 8 (n.1 : Int) ||| BitVec.ofInt 8 (32 : Int))) = (n.1 : Int) := by decide +kernel
  unfold isHx at h
  simp only [Bool.or_eq_true, Bool.and_eq_true, decide_eq_true_eq] at h
  unfold internal_strconv_lower
  exact congrArg some (key ⟨b.toNat, UInt8.toNat_lt b⟩ (by simp only []; omega) (by simp only []; omega))
theorem parse_j4 {bs n t : Int} {go : Int → Int → Option (Int × Option (Option (Nat × Int)))} {b : UInt8} (h : isHx b = true) :
    internal_strconv_ParseUint_16_j4 80000 n bs go t (b.toNat : Int) = internal_strconv_ParseUint_16_j2 n bs go t (dg b : Int) := by
  have h0 := h
  unfold isHx at h0
  simp only [Bool.or_eq_true, Bool.and_eq_true, decide_eq_true_eq] at h0
  unfold internal_strconv_ParseUint_16_j4 internal_strconv_ParseUint_16_j5 dg
  by_cases hd : b.toNat ≤ 57
  · rw [if_pos (by simp only [Bool.and_eq_true, decide_eq_true_eq]; omega), if_pos hd]
    congr 1
    rw [wu8_id (by omega) (by omega)]
    omega
  · rw [if_neg (by simp only [Bool.and_eq_true, decide_eq_true_eq]; omega), if_neg hd, lower_hx _ h (by omega)]
    simp only [Option.bind]
    rw [if_pos (by simp only [decide_eq_true_eq]; omega)]
    unfold internal_strconv_ParseUint_16_j6
    rw [if_pos (by simp only [decide_eq_true_eq]; omega), lower_hx _ h (by omega)]
    simp only [Option.bind]
    congr 1
    rw [wu8_id (x := (b.toNat : Int) - 97) (by omega) (by omega), wu8_id (by omega) (by omega)]
    omega
theorem wu64_id {x : Int} (h1 : 0 ≤ x) (h2 : x < 18446744073709551616) : wu64 x = x := by
  unfold wu64 IntKind.wrap
  simp [IntKind.bits, IntKind.signed]
  omega
/-- The greatest number of so many bits. -/
def mxB (bs : Int) : Int := wu64 ((wu64 ((1 : Int) * 2 ^ min (wu64 bs).toNat 64)) - (1 : Int))
theorem mxB_8 : mxB 8 = 255 := by decide
theorem mxB_32 : mxB 32 = 4294967295 := by decide
theorem parse_j2 {bs : Int} {n d : Nat} {t : Int} {go : Int → Int → Option (Int × Option (Option (Nat × Int)))} (hd : d < 16) (hn : (n : Int) ≤ 4294967295) :
    internal_strconv_ParseUint_16_j2 (n : Int) bs go t (d : Int) = if mxB bs < ((16 * n + d : Nat) : Int) then some (mxB bs, some (some (101, 1))) else go ((16 * n + d : Nat) : Int) (wi64 (t + 1)) := by
  unfold internal_strconv_ParseUint_16_j2 internal_strconv_ParseUint_16_j3
  rw [if_neg (by simp only [decide_eq_true_eq]; omega), if_neg (by simp only [decide_eq_true_eq]; omega)]
  have e1 : wu64 ((n : Int) * 16) = ((16 * n : Nat) : Int) := by rw [wu64_id (by omega) (by omega)]; omega
  have e2 : wu64 (d : Int) = (d : Int) := wu64_id (by omega) (by omega)
  have e3 : wu64 (((16 * n : Nat) : Int) + (d : Int)) = ((16 * n + d : Nat) : Int) := by rw [wu64_id (by omega) (by omega)]; omega
  rw [e1, e2, e3]
  by_cases h : mxB bs < ((16 * n + d : Nat) : Int)
  · rw [if_pos h, if_pos (by simp only [Bool.or_eq_true, decide_eq_true_eq]; exact .inr h)]
    rfl
  · rw [if_neg h, if_neg (by
      simp only [Bool.or_eq_true, decide_eq_true_eq]
      rintro (q | q)
      · omega
      · exact h q)]
theorem parse_l1 {bs : Int} (hb : mxB bs ≤ 4294967295) {l : List UInt8} (hl : ∀ b ∈ l, isHx b = true) (hlen : l.length < 80000) : ∀ n i, i ≤ l.length → (hv (l.take i) : Int) ≤ mxB bs → l.length - i < n →
    internal_strconv_ParseUint_16_l1 80000 l bs n (hv (l.take i) : Int) (i : Int) = if (hv l : Int) ≤ mxB bs then some ((hv l : Int), none) else some (mxB bs, some (some (101, 1))) := by
  intro n
  induction n with
  | zero => intro i _ _ h; omega
  | succ n ih =>
    intro i h1 h2 h3
    unfold internal_strconv_ParseUint_16_l1 internal_strconv_ParseUint_16_b1
    by_cases hi : i < l.length
    · rw [if_pos (by rw [bytesEl_len]; simp only [decide_eq_true_eq]; omega)]
      have hat : at? (bytesEl l) (i : Int) = some ((l[i]'hi).toNat : Int) := by
        rw [at_drop]
        unfold bytesEl
        rw [List.getElem?_map, List.getElem?_eq_getElem hi]
        rfl
      have hx := hl _ (List.getElem_mem hi)
      have hd := dg_lt hx
      have hs : hv (l.take (i + 1)) = 16 * hv (l.take i) + dg (l[i]'hi) := by rw [List.take_succ_eq_append_getElem hi, hv_snoc]
      rw [hat]
      simp only [Option.bind]
      rw [ite_self, parse_j4 hx, parse_j2 hd (by omega), ← hs]
      have hle := hv_app_le (l.take (i + 1)) (l.drop (i + 1))
      rw [List.take_append_drop] at hle
      by_cases hm : mxB bs < (hv (l.take (i + 1)) : Int)
      · rw [if_pos hm, if_neg (by omega)]
      · rw [if_neg hm, show wi64 ((i : Int) + 1) = ((i + 1 : Nat) : Int) by rw [wi64_id] <;> omega]
        exact ih (i + 1) (by omega) (by omega) (by omega)
    · have : i = l.length := by omega
      subst this
      rw [if_neg (by rw [bytesEl_len]; simp)]
      rw [List.take_length] at h2 ⊢
      rw [if_pos h2]
/-- A numeral read. -/
theorem Parse_ok {bs : Int} (hbs : bs = 8 ∨ bs = 32) {l : List UInt8} (hl : ∀ b ∈ l, isHx b = true) (hlen : l.length < 80000) (hne : l ≠ []) :
    strconv_ParseUint_16 80000 l bs = if (hv l : Int) ≤ mxB bs then some ((hv l : Int), none) else some (mxB bs, some none) := by
  have hb : mxB bs ≤ 4294967295 ∧ 0 ≤ mxB bs := by rcases hbs with rfl | rfl <;> decide
  have := parse_l1 hb.1 hl hlen 80000 0 (Nat.zero_le _) (by simpa [hv] using hb.2) (by omega)
  rw [show hv (l.take 0) = 0 from rfl] at this
  simp only [Int.natCast_zero] at this
  unfold strconv_ParseUint_16 internal_strconv_ParseUint_16
  rw [if_neg (by simpa using hne), if_neg (by rcases hbs with rfl | rfl <;> simp)]
  unfold internal_strconv_ParseUint_16_j7 internal_strconv_ParseUint_16_j1
  rw [if_neg (by rcases hbs with rfl | rfl <;> simp), chk_ok (by rcases hbs with rfl | rfl <;> decide)]
  simp only [Option.bind]
  rw [this]
  by_cases h : (hv l : Int) ≤ mxB bs
  · rw [if_pos h, if_pos h]
    rfl
  · rw [if_neg h, if_neg h]
    simp only [Option.isNone, Bool.not_false, if_true]
    unfold strconv_toError
    rw [if_pos ⟨by unfold lim; omega, .inr rfl⟩]
theorem Parse_nil {bs : Int} : strconv_ParseUint_16 80000 [] bs = some (0, some none) := by
  unfold strconv_ParseUint_16 internal_strconv_ParseUint_16
  simp only [beq_self_eq_true, if_true, Option.bind, Option.isNone, Bool.not_false]
  unfold strconv_toError
  rw [if_pos ⟨by unfold lim; simp, .inl rfl⟩]
end Go.Ev
