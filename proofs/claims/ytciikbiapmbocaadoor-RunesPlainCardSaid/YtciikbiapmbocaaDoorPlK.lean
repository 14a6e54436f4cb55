/- Plain laws: a text quoted. -/
import Derived.Test.YtciikbiapmbocaaDoorPlJ
namespace Go.Ev
open Go
set_option linter.unusedVariables false

theorem hd_hx {d : Nat} (h : d < 16) : isHx (hd d) = true ∧ dg (hd d) = d ∧ (0 < d → hd d ≠ 48) ∧ (8 ≤ d → 56 ≤ (hd d).toNat) ∧ 32 ≤ (hd d).toNat ∧ (hd d).toNat ≤ 126 := by
  have : ∀ d : Fin 16, isHx (hd d.1) = true ∧ dg (hd d.1) = d.1 ∧ (0 < d.1 → hd d.1 ≠ 48) ∧ (8 ≤ d.1 → 56 ≤ (hd d.1).toNat) ∧ 32 ≤ (hd d.1).toNat ∧ (hd d.1).toNat ≤ 126 := by decide
  exact this ⟨d, h⟩
theorem hexF_facts : ∀ m n, 0 < m → n < 16 ^ m → (∀ b ∈ hexF m n, isHx b = true) ∧ hv (hexF m n) = n ∧ (hexF m n).length ≤ m ∧ ∃ d ds, hexF m n = d :: ds ∧ (0 < n → d ≠ 48) ∧ (n < 16 → ds = []) := by
  intro m
  induction m with
  | zero => intro n h; omega
  | succ m ih =>
    intro n _ hn
    unfold hexF
    by_cases h : n < 16
    · rw [if_pos h]
      obtain ⟨a1, a2, a3, _⟩ := hd_hx h
      exact ⟨by simpa using a1, by simp [hv, a2], by simp, hd n, [], rfl, a3, fun _ => rfl⟩
    · rw [if_neg h]
      have hm : 0 < m := by
        rcases Nat.eq_zero_or_pos m with rfl | q
        · simp at hn; omega
        · exact q
      obtain ⟨b1, b2, b3, d, ds, b4, b5, _⟩ := ih (n / 16) hm (by rw [Nat.div_lt_iff_lt_mul (by omega)]; rw [Nat.pow_succ] at hn; exact hn)
      obtain ⟨a1, a2, _⟩ := hd_hx (Nat.mod_lt n (show 0 < 16 by omega))
      refine ⟨?_, by rw [hv_snoc, b2, a2]; omega, by rw [List.length_append, List.length_singleton]; omega, d, ds ++ [hd (n % 16)], by rw [b4]; rfl, fun _ => b5 (by omega), fun q => by omega⟩
      intro b hb
      rcases List.mem_append.1 hb with q | q
      · exact b1 b q
      · rw [List.mem_singleton.1 q]; exact a1
theorem hexN_facts {n : Nat} (h : n < 18446744073709551616) : (∀ b ∈ hexN n, isHx b = true) ∧ hv (hexN n) = n ∧ (hexN n).length ≤ 16 ∧ ∃ d ds, hexN n = d :: ds ∧ (0 < n → d ≠ 48) ∧ (n < 16 → ds = []) := hexF_facts 16 n (by omega) h
theorem hexN_two {n : Nat} (h : n < 256) (h2 : 16 ≤ n) : hexN n = [hd (n / 16), hd (n % 16)] := by
  unfold hexN
  rw [hexF, if_neg (by omega), hexF, if_pos (by omega)]
  rfl
theorem g_small {s : List UInt8} {p : Nat} (h : p < s.length) (hb : gb s p < 128) : g s p = (gb s p, 1) := by
  unfold g Lib.decodeN
  rw [if_pos hb]
theorem encN_small {c : Nat} (h : c < 128) : encN c = [UInt8.ofNat c] := by unfold encN; rw [if_pos h]

/-- What a piece shows. -/
def shw (s : List UInt8) (p : Nat) : List UInt8 :=
  if bad s p then [92, 120] ++ hexN (gb s p)
  else if gb s p = 34 ∨ gb s p = 92 then [92, UInt8.ofNat (gb s p)]
  else if 32 ≤ gb s p ∧ gb s p < 127 then [UInt8.ofNat (gb s p)]
  else ([92, 117] ++ hexN (g s p).1) ++ [59]
theorem shw_len (s : List UInt8) (p : Nat) : (shw s p).length ≤ 20 := by
  have h1 := (hexN_facts (n := gb s p) (by have := gb_lt s p; omega)).2.2.1
  have h2 := (hexN_facts (n := (g s p).1) (by have := g_rune s p; omega)).2.2.1
  unfold shw
  repeat' split
  all_goals simp; try omega
set_option maxRecDepth 100000 in
theorem shown_ok {s : List UInt8} {p : Nat} (h : p < s.length) (l : Int) : runes_shown 80000 s (((g s p).1 : Int), (p : Int), l, bad s p, ()) = some (shw s p) := by
  have hlt := gb_lt s p
  have h1 := (hexN_facts (n := gb s p) (by omega)).2.2.1
  have h2 := (hexN_facts (n := (g s p).1) (by have := g_rune s p; omega)).2.2.1
  have hr := g_rune s p
  have henc : gb s p < 128 → (Utf8.encode (gb s p : Int)).data.toList = [UInt8.ofNat (gb s p)] := by
    intro hb
    have := enc_ok (c := gb s p) (.inl (by omega))
    unfold enc at this
    rw [this, encN_small hb]
  unfold runes_shown shw
  simp only [byteAt_gb h, Option.bind_some]
  cases hbad : bad s p with
  | true =>
    simp only [if_true]
    rw [wu64_id (by omega) (by omega), FormatUint_ok (by omega)]
    simp only [Option.bind_some]
    rw [chk_ok (by unfold lim; simp; omega)]
    rfl
  | false =>
    simp only [Bool.false_eq_true, if_false]
    have key : ∀ x : Bool, x = decide (gb s p = 34 ∨ gb s p = 92) → runes_shown_j1 80000 (gb s p : Int) (((g s p).1 : Int), (p : Int), l, false, ()) x = some (if gb s p = 34 ∨ gb s p = 92 then [92, UInt8.ofNat (gb s p)]
        else if 32 ≤ gb s p ∧ gb s p < 127 then [UInt8.ofNat (gb s p)] else ([92, 117] ++ hexN (g s p).1) ++ [59]) := by
      intro x hx
      subst hx
      unfold runes_shown_j1 runes_shown_j2
      by_cases q : gb s p = 34 ∨ gb s p = 92
      · rw [if_pos (by simpa using q), if_pos q, henc (by omega), chk_ok (by unfold lim; simp)]
        rfl
      · rw [if_neg (by simpa using q), if_neg q]
        by_cases q2 : 32 ≤ gb s p ∧ gb s p < 127
        · rw [if_pos (by simp only [Bool.and_eq_true, decide_eq_true_eq]; omega), if_pos q2, henc (by omega)]
        · rw [if_neg (by simp only [Bool.and_eq_true, decide_eq_true_eq]; omega), if_neg q2, wi64_id (by omega) (by omega), FormatInt_ok (by omega)]
          simp only [Option.bind_some]
          rw [chk_ok (by unfold lim; simp; omega), chk_ok (by unfold lim; simp; omega)]
          rfl
    by_cases q34 : gb s p = 34
    · rw [if_pos (by simp [q34])]
      exact key _ (by simp [q34])
    · rw [if_neg (by simp only [beq_iff_eq]; omega)]
      refine key _ ?_
      by_cases q92 : gb s p = 92
      · simp [q92]
      · simp only [q34, q92, or_self, decide_false, beq_eq_false_iff_ne, ne_eq]; omega

/-- What all pieces from a place on show. -/
def shs (s : List UInt8) (p : Nat) : List UInt8 := if h : p < s.length then shw s p ++ shs s (p + (g s p).2) else []
termination_by s.length - p
decreasing_by have := g_size s p h; omega
theorem shs_cons {s : List UInt8} {p : Nat} (h : p < s.length) : shs s p = shw s p ++ shs s (p + (g s p).2) := by rw [shs, dif_pos h]
theorem shs_nil {s : List UInt8} {p : Nat} (h : ¬ p < s.length) : shs s p = [] := by rw [shs, dif_neg h]
def qt (s : List UInt8) : List UInt8 := 34 :: (shs s 0 ++ [34])
theorem each3_l1 {s : List UInt8} (hs : s.length ≤ 65536) : ∀ n p (acc : List UInt8), p ≤ s.length → s.length - p < n → acc.length + 20 * (s.length - p) ≤ 2000000 →
    runes_each_i3_l1 80000 s s n p (bytesEl acc) = some (s, bytesEl (acc ++ shs s p)) := by
  intro n
  induction n with
  | zero => intro p acc _ h; omega
  | succ n ih =>
    intro p acc h1 h2 h3
    unfold runes_each_i3_l1 runes_each_i3_b1
    by_cases hp : p < s.length
    · have hg := g_size s p hp
      have hw := shw_len s p
      rw [if_pos (decide_eq_true hp), each_round hp]
      unfold runes_each_i3_j1 runes_quote_c1_i1 strings_Builder_WriteString_i1 bld_copyCheck
      rw [runeAt_g, shown_ok hp]
      simp only [Option.bind_some]
      rw [chk_ok (by unfold lim; rw [bytesEl_len, bytesEl_len]; omega)]
      simp only [Option.bind_some, Bool.not_true, Bool.false_eq_true, if_false, widthAt_g]
      rw [bytesEl_append, ih _ _ hg.2.1 (by omega) (by rw [List.length_append]; omega), shs_cons hp, List.append_assoc]
    · rw [if_neg (by simpa using hp), shs_nil hp, List.append_nil]
theorem shs_len (s : List UInt8) : ∀ n p, s.length - p < n → (shs s p).length ≤ 20 * (s.length - p) := by
  intro n
  induction n with
  | zero => intro p h; omega
  | succ n ih =>
    intro p h
    by_cases hp : p < s.length
    · have hg := g_size s p hp
      have hw := shw_len s p
      have := ih (p + (g s p).2) (by omega)
      rw [shs_cons hp, List.length_append]
      omega
    · rw [shs_nil hp]; simp
theorem quote_ok {s : List UInt8} (hs : s.length ≤ 65536) : runes_quote 80000 s = some (qt s) := by
  have hl := shs_len s _ 0 (Nat.lt_succ_self _)
  unfold runes_quote strings_Builder_WriteByte_i1 bld_copyCheck
  simp only [Option.bind_some]
  rw [chk_ok (by unfold lim; simp)]
  simp only [Option.bind_some, List.nil_append]
  unfold runes_each_i3
  have := each3_l1 hs 80000 0 [34] (by omega) (by omega) (by simp; omega)
  rw [show ([(34 : Int)] : List Int) = bytesEl [34] from rfl, this]
  simp only [Option.bind_some]
  rw [chk_ok (by unfold lim; rw [bytesEl_len, bytesEl_len]; simp; omega)]
  simp only [Option.bind_some]
  rw [bytesEl_append]
  unfold bld_String
  rw [bytesStr_bytesEl, if_pos rfl]
  rfl
theorem Quote_ok {s : List UInt8} (hs : s.length ≤ 65536) : runes_Quote 80000 s = some (qt s, 0) := by
  unfold runes_Quote
  rw [long_ok hs]
  simp only [Option.bind_some]
  rw [if_neg (by simp), quote_ok hs]
  rfl
end Go.Ev
