/- Contracts, by program. -/
import Derived.Test.YtciikbiapmbocaaDoorProg
import Derived.Test.YtciikbiapmbocaaDoorME3
import Derived.Test.YtciikbiapmbocaaDoorMS1
import Derived.Test.YtciikbiapmbocaaDoorML1
import Derived.KernelRfl
namespace Go.Ev
open Go Go.Proofs
set_option linter.unusedVariables false
set_option maxRecDepth 100000

def C_l01_long (k : Nat) : FnC := ⟨true, 1, [], fun | [⟨.str, s1⟩], [⟨.bool, rz⟩] => l01_long k s1 = some rz | _, _ => False⟩
noncomputable def E_l01_long (k : Nat) : Env := ⟨Tryd.prog, Gu, 16, []⟩
theorem c_l01_long (k : Nat) : Contract Tryd.prog Gu 12 (C_l01_long k) := by
  refine contract_of Gu_stable (fn := Tryd.f12) Tryd.func12 (by kernel_rfl) rfl ?_ ?_
  · intro xs rs h
    unfold C_l01_long at h
    simp only at h
    split at h
    · exact ⟨by show 1 ≤ _; rw [Tryd.ntmps12]; decide, rfl, fun _ u hu => by simp at hu; (rcases hu with rfl) <;> rfl⟩
    · exact h.elim
  · intro w0 M xs rs hG h
    unfold C_l01_long at h
    simp only at h
    split at h
    case h_2 => exact h.elim
    rename_i s1 rz
    change List UInt8 at s1
    change Bool at rz
    have hE : EnvOK (E_l01_long k) ⟨Tryd.prog, Tryd.f12.ntmps, w0, M, fun _ => False, fun _ => undef⟩ := (EnvOK.nil rfl Tryd.ntmps12 hG)
    unfold l01_long at h
    refine W_seq (W_region (WL_allC hE [0] [] [] (orc := []) (by kernel_rfl) .n (N_then (W_seq (W_region (WL_tkC hE 4 [0, 6] [] [] (orc := []) (by kernel_rfl) .n (WL_join (α := Bool) (fun z => l01_long_j1 s1 z = some rz) (fun t1 => ⟨[(0, SS s1), (10, BB t1)], [], []⟩) 4 ?_ (fun hJ1 => ?_))))))))
    · rintro t1 h
      unfold l01_long_j1 at h
      refine WL_tkC hE 1 [0, 11] [] [] (orc := []) (by kernel_rfl) .n (WL_join (α := Bool) (fun z => l01_long_j2 z = some rz) (fun t2 => ⟨[(15, BB t2)], [], []⟩) 4 ?_ (fun hJ2 => ?_))
      · rintro t2 h
        unfold l01_long_j2 at h
        refine WL_allC hE [2] [] [] (orc := []) (by kernel_rfl) .n (N_then (W_ret ?_))
        cases h
        exact N_end (.inl rfl) (by kernel_rfl)
      refine WL_splitC 11 (b := t1) (by kernel_rfl) (fun e1 => ?_) (fun e1 => ?_)
      · rw [or_t e1] at h
        exact WL_allI hE (orc := []) (by kernel_rfl) .n (hJ2 true h)
      · rw [or_f e1] at h
        exact WL_allI hE (orc := []) (by kernel_rfl) .n (hJ2 (decide ((66000 : Int) < (List.length s1 : Int))) h)
    refine WL_splitC 6 (b := decide ((3000 : Int) < (List.length s1 : Int))) (by kernel_rfl) (fun e2 => ?_) (fun e2 => ?_)
    · rw [and_t e2] at h
      exact WL_allI hE (orc := []) (by kernel_rfl) .n (hJ1 (decide ((List.length s1 : Int) ≤ (65536 : Int))) h)
    · rw [and_f e2] at h
      exact WL_allI hE (orc := []) (by kernel_rfl) .n (hJ1 false h)

def C_runes_long (k : Nat) : FnC := ⟨true, 1, [], fun | [⟨.str, s1⟩], [⟨(.int .i64), rz⟩] => runes_long k s1 = some rz | _, _ => False⟩
noncomputable def E_runes_long (k : Nat) : Env := ⟨Tryd.prog, Gu, 6, []⟩
theorem c_runes_long (k : Nat) : Contract Tryd.prog Gu 35 (C_runes_long k) := by
  refine contract_of Gu_stable (fn := Tryd.f35) Tryd.func35 (by kernel_rfl) rfl ?_ ?_
  · intro xs rs h
    unfold C_runes_long at h
    simp only at h
    split at h
    · exact ⟨by show 1 ≤ _; rw [Tryd.ntmps35]; decide, rfl, fun _ u hu => by simp at hu; (rcases hu with rfl) <;> rfl⟩
    · exact h.elim
  · intro w0 M xs rs hG h
    unfold C_runes_long at h
    simp only at h
    split at h
    case h_2 => exact h.elim
    rename_i s1 rz
    change List UInt8 at s1
    change Int at rz
    have hE : EnvOK (E_runes_long k) ⟨Tryd.prog, Tryd.f35.ntmps, w0, M, fun _ => False, fun _ => undef⟩ := (EnvOK.nil rfl Tryd.ntmps35 hG)
    unfold runes_long at h
    refine W_seq (W_region (WL_allC hE [0] [] [] (orc := []) (by kernel_rfl) .n (N_then (W_seq (W_seq (W_region (WL_allC hE [5] [] [] (orc := []) (by kernel_rfl) .n (N_then (W_cond (b := decide ((65536 : Int) < (List.length s1 : Int))) (by kernel_rfl) (fun e1 => ?_) (fun e1 => ?_))))))))))
    · replace h := ite_t e1 h
      refine W_seq (W_region (WL_allC hE [2] [] [] (orc := []) (by kernel_rfl) .n (N_then (W_ret (N_then_ret ?_)))))
      cases h
      exact N_end (.inl rfl) (by kernel_rfl)
    · replace h := ite_f e1 h
      refine W_skip (N_then (W_seq (W_region (WL_allI hE (st' := ⟨[(2, I64 (0 : Int))], [], []⟩) (orc := []) (by kernel_rfl) .n (N_then (W_ret ?_))))))
      cases h
      exact N_end (.inl rfl) (by kernel_rfl)

def B_strings_Builder_WriteByte_i1 (k : Nat) : FnB (Int × List (Int)) (Option (Option (Nat × Int)) × List (Int)) where
  n := 17
  S := fun z => ⟨[(0, .ptr 17 0), (1, U8 (z.1))], [(17, .cells [.selfp 17, .row 18] 59)], [(18, ⟨5, (.int .u8), (z.2)⟩)]⟩
  S' := fun z y => ⟨[], [(17, .cells [.selfp 17, .row 18] 59)], [(18, ⟨5, (.int .u8), (y.2)⟩)]⟩
  rs := fun z y => [.val .err (y.1)]
  rel := fun z y => strings_Builder_WriteByte_i1 k (z.1) (z.2) = some y
noncomputable def E_strings_Builder_WriteByte_i1 (k : Nat) : Env := ⟨Tryd.prog, Gu, 17, []⟩
theorem b_strings_Builder_WriteByte_i1 (k : Nat) : BC Tryd.prog Gu 54 (B_strings_Builder_WriteByte_i1 k) := by
  refine bc_of (fn := Tryd.f54) Tryd.func54 (by kernel_rfl) rfl Tryd.ntmps54 ?_
  rintro cx hP hn hG ⟨c1, l1⟩ y0 h
  have hE : EnvOK (E_strings_Builder_WriteByte_i1 k) cx := (EnvOK.nil hP hn hG)
  replace h : strings_Builder_WriteByte_i1 k c1 l1 = some y0 := h
  unfold strings_Builder_WriteByte_i1 at h
  refine W_seq (W_region (WL_allC hE [0, 1] [17] [18] (orc := []) (by kernel_rfl) .n (N_then (W_seq (W_region (WL_tkC hE 1 [0, 1, 5] [17] [18] (orc := []) (by kernel_rfl) .n ?_))))))
  obtain ⟨v1, e1, h⟩ := bind_some h
  refine WL_callBC hE (eb_bld_copyCheck k) l1 v1 e1 (ρ := [(17, 20), (18, 21)]) (ρ' := [(20, 17), (21, 18)]) (n := 20) (by kernel_rfl) [0, 1] [17] [18] (by kernel_rfl) (by kernel_rfl) (by kernel_rfl) (WL_nil (N_then (W_seq (W_region ?_))))
  obtain ⟨_, e2, h⟩ := bind_some h
  replace e2 := chk_some e2
  refine WL_allC hE [0] [17] [18] (orc := []) (by kernel_rfl) (.c e2 .n) (N_then (W_seq (W_region (WL_allI hE (st' := ⟨[(0, .ptr 17 0), (4, .val .err (none : Option (Option (Nat × Int))))], [(17, .cells [.selfp 17, .row 18] 59)], [(18, ⟨5, (.int .u8), l1 ++ ([c1] : List (Int))⟩)]⟩) (orc := []) (by kernel_rfl) .n (N_then (W_ret ?_))))))
  replace h := Option.some.inj h
  subst h
  exact N_normC [0, 4] [17] [18] (by kernel_rfl) (N_endB hE.P [17] [18] (.inl rfl) (by kernel_rfl) (by kernel_rfl))

def C_unicode_utf8_RuneLen (k : Nat) : FnC := ⟨true, 1, [], fun | [⟨(.int .i32), r1⟩], [⟨(.int .i64), rz⟩] => unicode_utf8_RuneLen k r1 = some rz | _, _ => False⟩
noncomputable def E_unicode_utf8_RuneLen (k : Nat) : Env := ⟨Tryd.prog, Gu, 25, []⟩
theorem c_unicode_utf8_RuneLen (k : Nat) : Contract Tryd.prog Gu 52 (C_unicode_utf8_RuneLen k) := by
  refine contract_of Gu_stable (fn := Tryd.f52) Tryd.func52 (by kernel_rfl) rfl ?_ ?_
  · intro xs rs h
    unfold C_unicode_utf8_RuneLen at h
    simp only at h
    split at h
    · exact ⟨by show 1 ≤ _; rw [Tryd.ntmps52]; decide, rfl, fun _ u hu => by simp at hu; (rcases hu with rfl) <;> rfl⟩
    · exact h.elim
  · intro w0 M xs rs hG h
    unfold C_unicode_utf8_RuneLen at h
    simp only at h
    split at h
    case h_2 => exact h.elim
    rename_i r1 rz
    change Int at r1
    change Int at rz
    have hE : EnvOK (E_unicode_utf8_RuneLen k) ⟨Tryd.prog, Tryd.f52.ntmps, w0, M, fun _ => False, fun _ => undef⟩ := (EnvOK.nil rfl Tryd.ntmps52 hG)
    unfold unicode_utf8_RuneLen at h
    refine W_seq (W_region (WL_allC hE [0] [] [] (orc := []) (by kernel_rfl) .n (N_then (W_seq (W_block (W_seq (W_region (WL_allC hE [0, 3] [] [] (orc := []) (by kernel_rfl) .n (N_then (W_cond (b := decide (r1 < (0 : Int))) (by kernel_rfl) (fun e1 => ?_) (fun e1 => ?_)))))))))))
    · replace h := ite_t e1 h
      refine W_seq (W_region (WL_allC hE [2] [] [] (orc := []) (by kernel_rfl) .n (N_then (W_ret (N_block_ret (N_then_ret ?_))))))
      cases h
      exact N_end (.inl rfl) (by kernel_rfl)
    · replace h := ite_f e1 h
      refine W_seq (W_region (WL_allI hE (st' := ⟨[(0, I32 r1), (6, BB (decide (r1 ≤ (127 : Int))))], [], []⟩) (orc := []) (by kernel_rfl) .n (N_then (W_cond (b := decide (r1 ≤ (127 : Int))) (by kernel_rfl) (fun e2 => ?_) (fun e2 => ?_)))))
      · replace h := ite_t e2 h
        refine W_seq (W_region (WL_allC hE [2] [] [] (orc := []) (by kernel_rfl) .n (N_then (W_ret (N_block_ret (N_then_ret ?_))))))
        cases h
        exact N_end (.inl rfl) (by kernel_rfl)
      · replace h := ite_f e2 h
        refine W_seq (W_region (WL_allC hE [0, 9] [] [] (orc := []) (by kernel_rfl) .n (N_then (W_cond (b := decide (r1 ≤ (2047 : Int))) (by kernel_rfl) (fun e3 => ?_) (fun e3 => ?_)))))
        · replace h := ite_t e3 h
          refine W_seq (W_region (WL_allC hE [2] [] [] (orc := []) (by kernel_rfl) .n (N_then (W_ret (N_block_ret (N_then_ret ?_))))))
          cases h
          exact N_end (.inl rfl) (by kernel_rfl)
        · replace h := ite_f e3 h
          refine W_seq (W_region (WL_tk hE 3 [0, 15] [] [] (st' := ⟨[(0, I32 r1), (15, BB (decide ((55296 : Int) ≤ r1)))], [], []⟩) (orc := []) (by kernel_rfl) (Obs.all .n) (WL_join (α := Bool) (fun z => unicode_utf8_RuneLen_j1 r1 z = some rz) (fun t1 => ⟨[(0, I32 r1), (18, BB t1)], [], []⟩) 3 ?_ (fun hJ1 => ?_))))
          · rintro t1 h
            unfold unicode_utf8_RuneLen_j1 at h
            refine WL_allC hE [0, 12] [] [] (orc := []) (by kernel_rfl) .n (N_then (W_cond (b := t1) (by kernel_rfl) (fun e4 => ?_) (fun e4 => ?_)))
            · replace h := ite_t e4 h
              refine W_seq (W_region (WL_allC hE [2] [] [] (orc := []) (by kernel_rfl) .n (N_then (W_ret (N_block_ret (N_then_ret ?_))))))
              cases h
              exact N_end (.inl rfl) (by kernel_rfl)
            · replace h := ite_f e4 h
              refine W_seq (W_region (WL_allC hE [0, 19] [] [] (orc := []) (by kernel_rfl) .n (N_then (W_cond (b := decide (r1 ≤ (65535 : Int))) (by kernel_rfl) (fun e5 => ?_) (fun e5 => ?_)))))
              · replace h := ite_t e5 h
                refine W_seq (W_region (WL_allI hE (st' := ⟨[(2, I64 (3 : Int))], [], []⟩) (orc := []) (by kernel_rfl) .n (N_then (W_ret (N_block_ret (N_then_ret ?_))))))
                cases h
                exact N_end (.inl rfl) (by kernel_rfl)
              · replace h := ite_f e5 h
                refine W_seq (W_region (WL_allC hE [22] [] [] (orc := []) (by kernel_rfl) .n (N_then (W_cond (b := decide (r1 ≤ (1114111 : Int))) (by kernel_rfl) (fun e6 => ?_) (fun e6 => ?_)))))
                · replace h := ite_t e6 h
                  refine W_seq (W_region (WL_allC hE [2] [] [] (orc := []) (by kernel_rfl) .n (N_then (W_ret (N_block_ret (N_then_ret ?_))))))
                  cases h
                  exact N_end (.inl rfl) (by kernel_rfl)
                · replace h := ite_f e6 h
                  refine W_skip (N_block (N_then (W_seq (W_region (WL_allC hE [2] [] [] (orc := []) (by kernel_rfl) .n (N_then (W_ret ?_)))))))
                  cases h
                  exact N_end (.inl rfl) (by kernel_rfl)
          refine WL_splitC 15 (b := decide ((55296 : Int) ≤ r1)) (by kernel_rfl) (fun e7 => ?_) (fun e7 => ?_)
          · rw [and_t e7] at h
            exact WL_allI hE (orc := []) (by kernel_rfl) .n (hJ1 (decide (r1 ≤ (57343 : Int))) h)
          · rw [and_f e7] at h
            exact WL_allI hE (orc := []) (by kernel_rfl) .n (hJ1 false h)

def C_internal_strconv_isPowerOfTwo_16 (k : Nat) : FnC := ⟨true, 1, [], fun | [⟨(.int .i64), const0⟩], [⟨.bool, rz⟩] => const0 = (16 : Int) ∧ internal_strconv_isPowerOfTwo_16 k = some rz | _, _ => False⟩
noncomputable def E_internal_strconv_isPowerOfTwo_16 (k : Nat) : Env := ⟨Tryd.prog, Gu, 8, []⟩
theorem c_internal_strconv_isPowerOfTwo_16 (k : Nat) : Contract Tryd.prog Gu 97 (C_internal_strconv_isPowerOfTwo_16 k) := by
  refine contract_of Gu_stable (fn := Tryd.f97) Tryd.func97 (by kernel_rfl) rfl ?_ ?_
  · intro xs rs h
    unfold C_internal_strconv_isPowerOfTwo_16 at h
    simp only at h
    split at h
    · exact ⟨by show 1 ≤ _; rw [Tryd.ntmps97]; decide, rfl, fun _ u hu => by simp at hu; (rcases hu with rfl) <;> rfl⟩
    · exact h.elim
  · intro w0 M xs rs hG h
    unfold C_internal_strconv_isPowerOfTwo_16 at h
    simp only at h
    split at h
    case h_2 => exact h.elim
    rename_i const0 rz
    change Int at const0
    change Bool at rz
    obtain ⟨rfl, h⟩ := h
    have hE : EnvOK (E_internal_strconv_isPowerOfTwo_16 k) ⟨Tryd.prog, Tryd.f97.ntmps, w0, M, fun _ => False, fun _ => undef⟩ := (EnvOK.nil rfl Tryd.ntmps97 hG)
    unfold internal_strconv_isPowerOfTwo_16 at h
    refine W_seq (W_region (WL_allC hE [0] [] [] (orc := []) (by kernel_rfl) .n (N_then (W_seq (W_region (WL_allC hE [2] [] [] (orc := []) (by kernel_rfl) .n (N_then (W_ret ?_))))))))
    cases h
    exact N_end (.inl rfl) (by kernel_rfl)

def C_internal_strconv_formatBits_16_false_false (k : Nat) : FnC := ⟨false, 2, [], fun | [⟨(.sl (.int .u8)), dst1⟩, ⟨(.int .u64), u1⟩, ⟨(.int .i64), const2⟩, ⟨.bool, const3⟩, ⟨.bool, const4⟩], [⟨(.sl (.int .u8)), rz1⟩, ⟨.str, rz2⟩] => const2 = (16 : Int) ∧ const3 = false ∧ const4 = false ∧ internal_strconv_formatBits_16_false_false k dst1 u1 = some (rz1, rz2) | _, _ => False⟩
noncomputable def E_internal_strconv_formatBits_16_false_false (k : Nat) : Env := ⟨Tryd.prog, Gu, 102, [(97, C_internal_strconv_isPowerOfTwo_16 k), (98, C_math_bits_TrailingZeros k)]⟩
theorem c_internal_strconv_formatBits_16_false_false (k : Nat) : Contract Tryd.prog Gu 89 (C_internal_strconv_formatBits_16_false_false k) := by
  refine contract_of Gu_stable (fn := Tryd.f89) Tryd.func89 (by kernel_rfl) rfl ?_ ?_
  · intro xs rs h
    unfold C_internal_strconv_formatBits_16_false_false at h
    simp only at h
    split at h
    · exact ⟨by show 5 ≤ _; rw [Tryd.ntmps89]; decide, rfl, fun hf => by cases hf⟩
    · exact h.elim
  · intro w0 M xs rs hG h
    unfold C_internal_strconv_formatBits_16_false_false at h
    simp only at h
    split at h
    case h_2 => exact h.elim
    rename_i dst1 u1 const2 const3 const4 rz1 rz2
    change List (Int) at dst1
    change Int at u1
    change Int at const2
    change Bool at const3
    change Bool at const4
    change List (Int) at rz1
    change List UInt8 at rz2
    obtain ⟨rfl, rfl, rfl, h⟩ := h
    have hE : EnvOK (E_internal_strconv_formatBits_16_false_false k) ⟨Tryd.prog, Tryd.f89.ntmps, w0, M, fun _ => False, fun _ => undef⟩ := (EnvOK.cons (c_internal_strconv_isPowerOfTwo_16 k) (EnvOK.cons (e_math_bits_TrailingZeros k) (EnvOK.nil rfl Tryd.ntmps89 hG)))
    unfold internal_strconv_formatBits_16_false_false at h
    refine W_seq (W_region (WL_allC hE [0, 1, 2, 3, 4, 10, 11] [] [10] (orc := []) (by kernel_rfl) .n (N_then (W_seq (W_seq (W_region (WL_allI hE (st' := ⟨[(0, .val (.sl (.int .u8)) dst1), (1, U64 u1), (2, I64 (16 : Int)), (3, BB false), (4, BB false), (10, .row 10), (11, SS ([] : List UInt8)), (28, BB false)], [], [(10, ⟨5, (.int .u8), ([] : List (Int))⟩)]⟩) (orc := []) (by kernel_rfl) .n (N_then (W_cond_false (by kernel_rfl) (W_skip (N_then (W_seq (W_region (WL_allC hE [0, 1, 2, 3, 4, 10, 11, 12] [] [10, 12] (orc := []) (by kernel_rfl) .n (N_then (W_seq (W_region (WL_allC hE [0, 1, 2, 3, 4, 10, 11, 12, 13] [] [10, 12] (orc := []) (by kernel_rfl) .n (N_then (W_seq (W_seq (W_region (WL_allC hE [0, 1, 2, 3, 4, 10, 11, 12, 13, 30] [] [10, 12] (orc := []) (by kernel_rfl) .n (N_then (W_cond_false (by kernel_rfl) (W_skip (N_then (W_join (α := (Int × List (Int) × List (Int))) (fun z => internal_strconv_formatBits_16_false_false_j1 z.1 z.2.1 z.2.2 = some (rz1, rz2)) (fun z => ⟨[(0, .val (.sl (.int .u8)) dst1), (3, BB false), (4, BB false), (10, .row 10), (11, SS ([] : List UInt8)), (12, .rptr 12 0 0 1), (13, I64 (z.1))], [], [(10, ⟨5, (.int .u8), (z.2.1)⟩), (12, ⟨118, (.int .u8), (z.2.2)⟩)]⟩) ?_ (fun hJ1 => ?_)))))))))))))))))))))))))))))
    · rintro ⟨i1, d1, a1⟩ h
      unfold internal_strconv_formatBits_16_false_false_j1 at h
      refine W_seq (W_seq (W_region (WL_allC hE [0, 4, 10, 11, 12, 13, 89] [] [10, 12] (orc := []) (by kernel_rfl) .n (N_then (W_cond_false (by kernel_rfl) (W_skip (N_then (W_seq (W_seq (W_region (WL_allC hE [0, 10, 11, 12, 13, 94] [] [10, 12] (orc := []) (by kernel_rfl) .n (N_then (W_cond_false (by kernel_rfl) (W_skip (N_then (W_seq (W_region ?_)))))))))))))))))
      obtain ⟨s1, e1, h⟩ := bind_some h
      obtain ⟨_, e2, h⟩ := bind_some h
      replace e2 := chk_some e2
      refine WL_allC hE [10, 11] [] [10] (orc := [⟨(.sl (.int .u8)), s1⟩]) (by kernel_rfl) (.c e1 (.c e2 .n)) (N_then (W_ret ?_))
      cases h
      exact N_end (.inl rfl) (by kernel_rfl)
    refine W_seq (W_region (WL_allC hE [0, 1, 2, 3, 4, 10, 11, 12, 13, 34] [] [10, 12] (orc := [tB true]) (by kernel_rfl) (.c (show (16 : Int) = (16 : Int) ∧ internal_strconv_isPowerOfTwo_16 k = some true from ⟨rfl, rfl⟩) .n) (N_then (W_cond_true (by kernel_rfl) (W_seq (W_region (WL_allC hE [0, 1, 2, 3, 4, 10, 11, 12, 13, 14] [] [10, 12] (orc := [tI64 (4 : Int)]) (by kernel_rfl) (.c (show math_bits_TrailingZeros k (16 : Int) = some (4 : Int) from rfl) .n) (N_then (W_seq (W_region (WL_allI hE (st' := ⟨[(0, .val (.sl (.int .u8)) dst1), (1, U64 u1), (2, I64 (16 : Int)), (3, BB false), (4, BB false), (10, .row 10), (11, SS ([] : List UInt8)), (12, .rptr 12 0 0 1), (13, I64 (65 : Int)), (14, U64 (4 : Int)), (15, U64 (16 : Int))], [], [(10, ⟨5, (.int .u8), ([] : List (Int))⟩), (12, ⟨118, (.int .u8), List.replicate 65 (0 : Int)⟩)]⟩) (orc := []) (by kernel_rfl) .n (N_then (W_seq (W_region (WL_allI hE (orc := []) (by kernel_rfl) .n (N_then (W_seq (W_block (W_loop (α := (Int × Int × List (Int))) (fun n z => internal_strconv_formatBits_16_false_false_l1 n z.1 z.2.1 z.2.2 = some (rz1, rz2)) (fun z => ⟨[(0, .val (.sl (.int .u8)) dst1), (1, U64 (z.1)), (3, BB false), (4, BB false), (10, .row 10), (11, SS ([] : List UInt8)), (12, .rptr 12 0 0 1), (13, I64 (z.2.1)), (14, U64 (4 : Int)), (15, U64 (16 : Int)), (16, U64 (15 : Int))], [], [(10, ⟨5, (.int .u8), ([] : List (Int))⟩), (12, ⟨118, (.int .u8), (z.2.2)⟩)]⟩) ?_ (k := k) (x := (u1, (65 : Int), List.replicate 65 (0 : Int))) h)))))))))))))))))))
    clear h
    rintro fuel1 ⟨u2, i2, a2⟩ h
    cases fuel1 with
    | zero => exact absurd (show none = some _ from h) (by simp)
    | succ fuel1 =>
      have h : internal_strconv_formatBits_16_false_false_b1 (internal_strconv_formatBits_16_false_false_l1 fuel1) u2 i2 a2 = some (rz1, rz2) := h
      unfold internal_strconv_formatBits_16_false_false_b1 at h
      refine W_seq (W_seq (W_region (WL_allC hE [0, 1, 3, 4, 10, 11, 12, 13, 14, 15, 16, 46] [] [10, 12] (orc := []) (by kernel_rfl) .n (N_then (W_cond (b := decide ((16 : Int) ≤ u2)) (by kernel_rfl) (fun e3 => ?_) (fun e3 => ?_))))))
      · replace h := ite_t e3 h
        refine W_skip (N_then (W_block (W_seq (W_region (WL_allC hE [0, 1, 3, 4, 10, 11, 12, 13, 14, 15, 16] [] [10, 12] (orc := []) (by kernel_rfl) .n (N_then (W_seq (W_region ?_))))))))
        obtain ⟨b1, e5, h⟩ := bind_some h
        obtain ⟨x1, e4, h⟩ := bind_some h
        obtain ⟨_, e6, h⟩ := bind_some h
        replace e6 := chk_some e6
        refine WL_allC hE [0, 1, 3, 4, 10, 11, 12, 13, 14, 15, 16] [] [10, 12] (orc := [tU8 b1, tU8 x1, tU8 x1]) (by kernel_rfl) (.c e5 (.c e4 (.c e6 (.c e4 .n)))) (N_then (W_region ?_))
        obtain ⟨_, e7, h⟩ := bind_some h
        replace e7 := chk_some e7
        exact WL_allI hE (orc := []) (by kernel_rfl) (.c e7 .n) (N_block (N_round (Int.fdiv u2 (2 ^ min ((4 : Int)).toNat 64), wi64 (i2 - (1 : Int)), List.set a2 (wi64 (i2 - (1 : Int))).toNat b1) (Nat.lt_succ_self _) h))
      · replace h := ite_f e3 h
        refine W_exit (N_then_exit (N_then_exit (N_block_exit (N_then (W_seq (W_region (WL_allI hE (st' := ⟨[(0, .val (.sl (.int .u8)) dst1), (1, U64 u2), (3, BB false), (4, BB false), (10, .row 10), (11, SS ([] : List UInt8)), (12, .rptr 12 0 0 1), (13, I64 (wi64 (i2 - (1 : Int))))], [], [(10, ⟨5, (.int .u8), ([] : List (Int))⟩), (12, ⟨118, (.int .u8), a2⟩)]⟩) (orc := []) (by kernel_rfl) .n (N_then (W_region ?_)))))))))
        obtain ⟨b2, e9, h⟩ := bind_some h
        obtain ⟨x2, e8, h⟩ := bind_some h
        obtain ⟨_, e10, h⟩ := bind_some h
        replace e10 := chk_some e10
        exact WL_allI hE (orc := [tU8 b2, tU8 x2, tU8 x2]) (by kernel_rfl) (.c e9 (.c e8 (.c e10 (.c e8 .n)))) (hJ1 (wi64 (i2 - (1 : Int)), ([] : List (Int)), List.set a2 (wi64 (i2 - (1 : Int))).toNat b2) h)

def C_internal_strconv_FormatUint_16 (k : Nat) : FnC := ⟨true, 1, [], fun | [⟨(.int .u64), i1⟩, ⟨(.int .i64), const1⟩], [⟨.str, rz⟩] => const1 = (16 : Int) ∧ internal_strconv_FormatUint_16 k i1 = some rz | _, _ => False⟩
noncomputable def E_internal_strconv_FormatUint_16 (k : Nat) : Env := ⟨Tryd.prog, Gu, 32, [(89, C_internal_strconv_formatBits_16_false_false k)]⟩
theorem c_internal_strconv_FormatUint_16 (k : Nat) : Contract Tryd.prog Gu 76 (C_internal_strconv_FormatUint_16 k) := by
  refine contract_of Gu_stable (fn := Tryd.f76) Tryd.func76 (by kernel_rfl) rfl ?_ ?_
  · intro xs rs h
    unfold C_internal_strconv_FormatUint_16 at h
    simp only at h
    split at h
    · exact ⟨by show 2 ≤ _; rw [Tryd.ntmps76]; decide, rfl, fun _ u hu => by simp at hu; (rcases hu with rfl) <;> rfl⟩
    · exact h.elim
  · intro w0 M xs rs hG h
    unfold C_internal_strconv_FormatUint_16 at h
    simp only at h
    split at h
    case h_2 => exact h.elim
    rename_i i1 const1 rz
    change Int at i1
    change Int at const1
    change List UInt8 at rz
    obtain ⟨rfl, h⟩ := h
    have hE : EnvOK (E_internal_strconv_FormatUint_16 k) ⟨Tryd.prog, Tryd.f76.ntmps, w0, M, fun _ => False, fun _ => undef⟩ := (EnvOK.cons (c_internal_strconv_formatBits_16_false_false k) (EnvOK.nil rfl Tryd.ntmps76 hG))
    unfold internal_strconv_FormatUint_16 at h
    refine W_seq (W_region (WL_allC hE [0, 1] [] [] (orc := []) (by kernel_rfl) .n (N_then (W_seq (W_seq (W_region (WL_allC hE [0, 1, 10] [] [] (orc := []) (by kernel_rfl) .n (N_then (W_cond_false (by kernel_rfl) (W_skip (N_then (W_seq (W_region ?_)))))))))))))
    obtain ⟨v1, e1, h⟩ := bind_some h
    refine WL_allI hE (st' := ⟨[(8, SS v1.2)], [], []⟩) (orc := [⟨(.sl (.int .u8)), v1.1⟩, tS v1.2]) (by kernel_rfl) (.c (show (16 : Int) = (16 : Int) ∧ false = false ∧ false = false ∧ internal_strconv_formatBits_16_false_false k ([] : List (Int)) i1 = some ((v1).1, (v1).2) from ⟨rfl, rfl, rfl, e1⟩) .n) (N_then (W_seq (W_region (WL_allC hE [4] [] [] (orc := []) (by kernel_rfl) .n (N_then (W_ret ?_))))))
    cases h
    exact N_end (.inl rfl) (by kernel_rfl)

def C_strconv_FormatUint_16 (k : Nat) : FnC := ⟨true, 1, [], fun | [⟨(.int .u64), i1⟩, ⟨(.int .i64), const1⟩], [⟨.str, rz⟩] => const1 = (16 : Int) ∧ strconv_FormatUint_16 k i1 = some rz | _, _ => False⟩
noncomputable def E_strconv_FormatUint_16 (k : Nat) : Env := ⟨Tryd.prog, Gu, 8, [(76, C_internal_strconv_FormatUint_16 k)]⟩
theorem c_strconv_FormatUint_16 (k : Nat) : Contract Tryd.prog Gu 66 (C_strconv_FormatUint_16 k) := by
  refine contract_of Gu_stable (fn := Tryd.f66) Tryd.func66 (by kernel_rfl) rfl ?_ ?_
  · intro xs rs h
    unfold C_strconv_FormatUint_16 at h
    simp only at h
    split at h
    · exact ⟨by show 2 ≤ _; rw [Tryd.ntmps66]; decide, rfl, fun _ u hu => by simp at hu; (rcases hu with rfl) <;> rfl⟩
    · exact h.elim
  · intro w0 M xs rs hG h
    unfold C_strconv_FormatUint_16 at h
    simp only at h
    split at h
    case h_2 => exact h.elim
    rename_i i1 const1 rz
    change Int at i1
    change Int at const1
    change List UInt8 at rz
    obtain ⟨rfl, h⟩ := h
    have hE : EnvOK (E_strconv_FormatUint_16 k) ⟨Tryd.prog, Tryd.f66.ntmps, w0, M, fun _ => False, fun _ => undef⟩ := (EnvOK.cons (c_internal_strconv_FormatUint_16 k) (EnvOK.nil rfl Tryd.ntmps66 hG))
    unfold strconv_FormatUint_16 at h
    refine W_seq (W_region (WL_allC hE [0, 1] [] [] (orc := []) (by kernel_rfl) .n (N_then (W_seq (W_region ?_)))))
    obtain ⟨v1, e1, h⟩ := bind_some h
    refine WL_allC hE [4] [] [] (orc := [tS v1]) (by kernel_rfl) (.c (show (16 : Int) = (16 : Int) ∧ internal_strconv_FormatUint_16 k i1 = some v1 from ⟨rfl, e1⟩) .n) (N_then (W_ret ?_))
    cases h
    exact N_end (.inl rfl) (by kernel_rfl)

def C_internal_strconv_formatBits_16_false (k : Nat) : FnC := ⟨false, 2, [], fun | [⟨(.sl (.int .u8)), dst1⟩, ⟨(.int .u64), u1⟩, ⟨(.int .i64), const2⟩, ⟨.bool, neg1⟩, ⟨.bool, const4⟩], [⟨(.sl (.int .u8)), rz1⟩, ⟨.str, rz2⟩] => const2 = (16 : Int) ∧ const4 = false ∧ internal_strconv_formatBits_16_false k dst1 u1 neg1 = some (rz1, rz2) | _, _ => False⟩
noncomputable def E_internal_strconv_formatBits_16_false (k : Nat) : Env := ⟨Tryd.prog, Gu, 102, [(97, C_internal_strconv_isPowerOfTwo_16 k), (98, C_math_bits_TrailingZeros k)]⟩
theorem c_internal_strconv_formatBits_16_false (k : Nat) : Contract Tryd.prog Gu 89 (C_internal_strconv_formatBits_16_false k) := by
  refine contract_of Gu_stable (fn := Tryd.f89) Tryd.func89 (by kernel_rfl) rfl ?_ ?_
  · intro xs rs h
    unfold C_internal_strconv_formatBits_16_false at h
    simp only at h
    split at h
    · exact ⟨by show 5 ≤ _; rw [Tryd.ntmps89]; decide, rfl, fun hf => by cases hf⟩
    · exact h.elim
  · intro w0 M xs rs hG h
    unfold C_internal_strconv_formatBits_16_false at h
    simp only at h
    split at h
    case h_2 => exact h.elim
    rename_i dst1 u1 const2 neg1 const4 rz1 rz2
    change List (Int) at dst1
    change Int at u1
    change Int at const2
    change Bool at neg1
    change Bool at const4
    change List (Int) at rz1
    change List UInt8 at rz2
    obtain ⟨rfl, rfl, h⟩ := h
    have hE : EnvOK (E_internal_strconv_formatBits_16_false k) ⟨Tryd.prog, Tryd.f89.ntmps, w0, M, fun _ => False, fun _ => undef⟩ := (EnvOK.cons (c_internal_strconv_isPowerOfTwo_16 k) (EnvOK.cons (e_math_bits_TrailingZeros k) (EnvOK.nil rfl Tryd.ntmps89 hG)))
    unfold internal_strconv_formatBits_16_false at h
    refine W_seq (W_region (WL_allI hE (st' := ⟨[(0, .val (.sl (.int .u8)) dst1), (1, U64 u1), (2, I64 (16 : Int)), (3, BB neg1), (4, BB false), (10, .row 10), (11, SS ([] : List UInt8))], [], [(10, ⟨5, (.int .u8), ([] : List (Int))⟩)]⟩) (orc := []) (by kernel_rfl) .n (N_then (W_seq (W_seq (W_region (WL_allC hE [0, 1, 2, 3, 4, 10, 11, 28] [] [10] (orc := []) (by kernel_rfl) .n (N_then (W_cond_false (by kernel_rfl) (W_skip (N_then (W_seq (W_region (WL_allC hE [0, 1, 2, 3, 4, 10, 11, 12] [] [10, 12] (orc := []) (by kernel_rfl) .n (N_then (W_seq (W_region (WL_allC hE [0, 1, 2, 3, 4, 10, 11, 12, 13] [] [10, 12] (orc := []) (by kernel_rfl) .n (N_then (W_join (α := Int) (fun z => internal_strconv_formatBits_16_false_j1 k neg1 z = some (rz1, rz2)) (fun u2 => ⟨[(0, .val (.sl (.int .u8)) dst1), (1, U64 u2), (2, I64 (16 : Int)), (3, BB neg1), (4, BB false), (10, .row 10), (11, SS ([] : List UInt8)), (12, .rptr 12 0 0 1), (13, I64 (65 : Int))], [], [(10, ⟨5, (.int .u8), ([] : List (Int))⟩), (12, ⟨118, (.int .u8), List.replicate 65 (0 : Int)⟩)]⟩) ?_ (fun hJ3 => ?_)))))))))))))))))))))
    · rintro u2 h
      unfold internal_strconv_formatBits_16_false_j1 at h
      refine W_join (α := (Int × List (Int) × List (Int))) (fun z => internal_strconv_formatBits_16_false_j2 neg1 z.1 z.2.1 z.2.2 = some (rz1, rz2)) (fun z => ⟨[(0, .val (.sl (.int .u8)) dst1), (3, BB neg1), (4, BB false), (10, .row 10), (11, SS ([] : List UInt8)), (12, .rptr 12 0 0 1), (13, I64 (z.1))], [], [(10, ⟨5, (.int .u8), (z.2.1)⟩), (12, ⟨118, (.int .u8), (z.2.2)⟩)]⟩) ?_ (fun hJ3 => ?_)
      · rintro ⟨i1, d1, a1⟩ h
        unfold internal_strconv_formatBits_16_false_j2 at h
        refine W_join (α := (Int × List (Int))) (fun z => internal_strconv_formatBits_16_false_j3 d1 z.1 z.2 = some (rz1, rz2)) (fun z => ⟨[(0, .val (.sl (.int .u8)) dst1), (4, BB false), (10, .row 10), (11, SS ([] : List UInt8)), (12, .rptr 12 0 0 1), (13, I64 (z.1))], [], [(10, ⟨5, (.int .u8), d1⟩), (12, ⟨118, (.int .u8), (z.2)⟩)]⟩) ?_ (fun hJ3 => ?_)
        · rintro ⟨i2, a2⟩ h
          unfold internal_strconv_formatBits_16_false_j3 at h
          refine W_seq (W_seq (W_region (WL_allC hE [0, 10, 11, 12, 13, 94] [] [10, 12] (orc := []) (by kernel_rfl) .n (N_then (W_cond_false (by kernel_rfl) (W_skip (N_then (W_seq (W_region ?_)))))))))
          obtain ⟨s1, e1, h⟩ := bind_some h
          obtain ⟨_, e2, h⟩ := bind_some h
          replace e2 := chk_some e2
          refine WL_allC hE [10, 11] [] [10] (orc := [⟨(.sl (.int .u8)), s1⟩]) (by kernel_rfl) (.c e1 (.c e2 .n)) (N_then (W_ret ?_))
          cases h
          exact N_end (.inl rfl) (by kernel_rfl)
        refine W_seq (W_region (WL_allC hE [0, 4, 10, 11, 12, 13, 89] [] [10, 12] (orc := []) (by kernel_rfl) .n (N_then (W_cond (b := neg1) (by kernel_rfl) (fun e3 => ?_) (fun e3 => ?_)))))
        · replace h := ite_t e3 h
          refine W_seq (W_region (WL_allI hE (st' := ⟨[(0, .val (.sl (.int .u8)) dst1), (4, BB false), (10, .row 10), (11, SS ([] : List UInt8)), (12, .rptr 12 0 0 1), (13, I64 (wi64 (i1 - (1 : Int))))], [], [(10, ⟨5, (.int .u8), d1⟩), (12, ⟨118, (.int .u8), a1⟩)]⟩) (orc := []) (by kernel_rfl) .n (N_then (W_region ?_))))
          obtain ⟨x1, e4, h⟩ := bind_some h
          obtain ⟨_, e5, h⟩ := bind_some h
          replace e5 := chk_some e5
          exact WL_allI hE (orc := [tU8 x1, tU8 x1]) (by kernel_rfl) (.c e4 (.c e5 (.c e4 .n))) (hJ3 (wi64 (i1 - (1 : Int)), List.set a1 (wi64 (i1 - (1 : Int))).toNat (45 : Int)) h)
        · replace h := ite_f e3 h
          exact W_skip (N_normI (by kernel_rfl) (hJ3 (i1, a1) h))
      refine W_seq (W_region (WL_allC hE [0, 1, 2, 3, 4, 10, 11, 12, 13, 34] [] [10, 12] (orc := [tB true]) (by kernel_rfl) (.c (show (16 : Int) = (16 : Int) ∧ internal_strconv_isPowerOfTwo_16 k = some true from ⟨rfl, rfl⟩) .n) (N_then (W_cond_true (by kernel_rfl) (W_seq (W_region (WL_allC hE [0, 1, 2, 3, 4, 10, 11, 12, 13, 14] [] [10, 12] (orc := [tI64 (4 : Int)]) (by kernel_rfl) (.c (show math_bits_TrailingZeros k (16 : Int) = some (4 : Int) from rfl) .n) (N_then (W_seq (W_region (WL_allC hE [0, 1, 2, 3, 4, 10, 11, 12, 13, 14, 15] [] [10, 12] (orc := []) (by kernel_rfl) .n (N_then (W_seq (W_region (WL_allI hE (orc := []) (by kernel_rfl) .n (N_then (W_seq (W_block (W_loop (α := (Int × Int × List (Int))) (fun n z => internal_strconv_formatBits_16_false_l1 neg1 n z.1 z.2.1 z.2.2 = some (rz1, rz2)) (fun z => ⟨[(0, .val (.sl (.int .u8)) dst1), (1, U64 (z.1)), (3, BB neg1), (4, BB false), (10, .row 10), (11, SS ([] : List UInt8)), (12, .rptr 12 0 0 1), (13, I64 (z.2.1)), (14, U64 (4 : Int)), (15, U64 (16 : Int)), (16, U64 (15 : Int))], [], [(10, ⟨5, (.int .u8), ([] : List (Int))⟩), (12, ⟨118, (.int .u8), (z.2.2)⟩)]⟩) ?_ (k := k) (x := (u2, (65 : Int), List.replicate 65 (0 : Int))) h)))))))))))))))))))
      clear h
      rintro fuel1 ⟨u3, i3, a3⟩ h
      cases fuel1 with
      | zero => exact absurd (show none = some _ from h) (by simp)
      | succ fuel1 =>
        have h : internal_strconv_formatBits_16_false_b1 neg1 (internal_strconv_formatBits_16_false_l1 neg1 fuel1) u3 i3 a3 = some (rz1, rz2) := h
        unfold internal_strconv_formatBits_16_false_b1 at h
        refine W_seq (W_seq (W_region (WL_allC hE [0, 1, 3, 4, 10, 11, 12, 13, 14, 15, 16, 46] [] [10, 12] (orc := []) (by kernel_rfl) .n (N_then (W_cond (b := decide ((16 : Int) ≤ u3)) (by kernel_rfl) (fun e6 => ?_) (fun e6 => ?_))))))
        · replace h := ite_t e6 h
          refine W_skip (N_then (W_block (W_seq (W_region (WL_allC hE [0, 1, 3, 4, 10, 11, 12, 13, 14, 15, 16] [] [10, 12] (orc := []) (by kernel_rfl) .n (N_then (W_seq (W_region ?_))))))))
          obtain ⟨b1, e8, h⟩ := bind_some h
          obtain ⟨x2, e7, h⟩ := bind_some h
          obtain ⟨_, e9, h⟩ := bind_some h
          replace e9 := chk_some e9
          refine WL_allC hE [0, 1, 3, 4, 10, 11, 12, 13, 14, 15, 16] [] [10, 12] (orc := [tU8 b1, tU8 x2, tU8 x2]) (by kernel_rfl) (.c e8 (.c e7 (.c e9 (.c e7 .n)))) (N_then (W_region ?_))
          obtain ⟨_, e10, h⟩ := bind_some h
          replace e10 := chk_some e10
          exact WL_allI hE (orc := []) (by kernel_rfl) (.c e10 .n) (N_block (N_round (Int.fdiv u3 (2 ^ min ((4 : Int)).toNat 64), wi64 (i3 - (1 : Int)), List.set a3 (wi64 (i3 - (1 : Int))).toNat b1) (Nat.lt_succ_self _) h))
        · replace h := ite_f e6 h
          refine W_exit (N_then_exit (N_then_exit (N_block_exit (N_then (W_seq (W_region (WL_allI hE (st' := ⟨[(0, .val (.sl (.int .u8)) dst1), (1, U64 u3), (3, BB neg1), (4, BB false), (10, .row 10), (11, SS ([] : List UInt8)), (12, .rptr 12 0 0 1), (13, I64 (wi64 (i3 - (1 : Int))))], [], [(10, ⟨5, (.int .u8), ([] : List (Int))⟩), (12, ⟨118, (.int .u8), a3⟩)]⟩) (orc := []) (by kernel_rfl) .n (N_then (W_region ?_)))))))))
          obtain ⟨b2, e12, h⟩ := bind_some h
          obtain ⟨x3, e11, h⟩ := bind_some h
          obtain ⟨_, e13, h⟩ := bind_some h
          replace e13 := chk_some e13
          exact WL_allI hE (orc := [tU8 b2, tU8 x3, tU8 x3]) (by kernel_rfl) (.c e12 (.c e11 (.c e13 (.c e11 .n)))) (hJ3 (wi64 (i3 - (1 : Int)), ([] : List (Int)), List.set a3 (wi64 (i3 - (1 : Int))).toNat b2) h)
    refine W_seq (W_region (WL_allC hE [0, 1, 2, 3, 4, 10, 11, 12, 13, 30] [] [10, 12] (orc := []) (by kernel_rfl) .n (N_then (W_cond (b := neg1) (by kernel_rfl) (fun e14 => ?_) (fun e14 => ?_)))))
    · replace h := ite_t e14 h
      exact W_region (WL_allI hE (orc := []) (by kernel_rfl) .n (hJ3 (negI .u64 u1) h))
    · replace h := ite_f e14 h
      exact W_skip (N_normI (by kernel_rfl) (hJ3 u1 h))

def C_internal_strconv_FormatInt_16 (k : Nat) : FnC := ⟨true, 1, [], fun | [⟨(.int .i64), i1⟩, ⟨(.int .i64), const1⟩], [⟨.str, rz⟩] => const1 = (16 : Int) ∧ internal_strconv_FormatInt_16 k i1 = some rz | _, _ => False⟩
noncomputable def E_internal_strconv_FormatInt_16 (k : Nat) : Env := ⟨Tryd.prog, Gu, 54, [(89, C_internal_strconv_formatBits_16_false k)]⟩
theorem c_internal_strconv_FormatInt_16 (k : Nat) : Contract Tryd.prog Gu 77 (C_internal_strconv_FormatInt_16 k) := by
  refine contract_of Gu_stable (fn := Tryd.f77) Tryd.func77 (by kernel_rfl) rfl ?_ ?_
  · intro xs rs h
    unfold C_internal_strconv_FormatInt_16 at h
    simp only at h
    split at h
    · exact ⟨by show 2 ≤ _; rw [Tryd.ntmps77]; decide, rfl, fun _ u hu => by simp at hu; (rcases hu with rfl) <;> rfl⟩
    · exact h.elim
  · intro w0 M xs rs hG h
    unfold C_internal_strconv_FormatInt_16 at h
    simp only at h
    split at h
    case h_2 => exact h.elim
    rename_i i1 const1 rz
    change Int at i1
    change Int at const1
    change List UInt8 at rz
    obtain ⟨rfl, h⟩ := h
    have hE : EnvOK (E_internal_strconv_FormatInt_16 k) ⟨Tryd.prog, Tryd.f77.ntmps, w0, M, fun _ => False, fun _ => undef⟩ := (EnvOK.cons (c_internal_strconv_formatBits_16_false k) (EnvOK.nil rfl Tryd.ntmps77 hG))
    unfold internal_strconv_FormatInt_16 at h
    refine W_seq (W_region (WL_allC hE [0, 1] [] [] (orc := []) (by kernel_rfl) .n (N_then (W_seq (W_seq (W_region (WL_allC hE [0, 1, 11] [] [] (orc := []) (by kernel_rfl) .n (N_then (W_cond_false (by kernel_rfl) (W_skip (N_then (W_seq (W_region ?_)))))))))))))
    obtain ⟨v1, e1, h⟩ := bind_some h
    refine WL_allI hE (st' := ⟨[(9, SS v1.2)], [], []⟩) (orc := [⟨(.sl (.int .u8)), v1.1⟩, tS v1.2]) (by kernel_rfl) (.c (show (16 : Int) = (16 : Int) ∧ false = false ∧ internal_strconv_formatBits_16_false k ([] : List (Int)) (wu64 i1) (decide (i1 < (0 : Int))) = some ((v1).1, (v1).2) from ⟨rfl, rfl, e1⟩) .n) (N_then (W_seq (W_region (WL_allC hE [4] [] [] (orc := []) (by kernel_rfl) .n (N_then (W_ret ?_))))))
    cases h
    exact N_end (.inl rfl) (by kernel_rfl)

def C_strconv_FormatInt_16 (k : Nat) : FnC := ⟨true, 1, [], fun | [⟨(.int .i64), i1⟩, ⟨(.int .i64), const1⟩], [⟨.str, rz⟩] => const1 = (16 : Int) ∧ strconv_FormatInt_16 k i1 = some rz | _, _ => False⟩
noncomputable def E_strconv_FormatInt_16 (k : Nat) : Env := ⟨Tryd.prog, Gu, 8, [(77, C_internal_strconv_FormatInt_16 k)]⟩
theorem c_strconv_FormatInt_16 (k : Nat) : Contract Tryd.prog Gu 67 (C_strconv_FormatInt_16 k) := by
  refine contract_of Gu_stable (fn := Tryd.f67) Tryd.func67 (by kernel_rfl) rfl ?_ ?_
  · intro xs rs h
    unfold C_strconv_FormatInt_16 at h
    simp only at h
    split at h
    · exact ⟨by show 2 ≤ _; rw [Tryd.ntmps67]; decide, rfl, fun _ u hu => by simp at hu; (rcases hu with rfl) <;> rfl⟩
    · exact h.elim
  · intro w0 M xs rs hG h
    unfold C_strconv_FormatInt_16 at h
    simp only at h
    split at h
    case h_2 => exact h.elim
    rename_i i1 const1 rz
    change Int at i1
    change Int at const1
    change List UInt8 at rz
    obtain ⟨rfl, h⟩ := h
    have hE : EnvOK (E_strconv_FormatInt_16 k) ⟨Tryd.prog, Tryd.f67.ntmps, w0, M, fun _ => False, fun _ => undef⟩ := (EnvOK.cons (c_internal_strconv_FormatInt_16 k) (EnvOK.nil rfl Tryd.ntmps67 hG))
    unfold strconv_FormatInt_16 at h
    refine W_seq (W_region (WL_allC hE [0, 1] [] [] (orc := []) (by kernel_rfl) .n (N_then (W_seq (W_region ?_)))))
    obtain ⟨v1, e1, h⟩ := bind_some h
    refine WL_allC hE [4] [] [] (orc := [tS v1]) (by kernel_rfl) (.c (show (16 : Int) = (16 : Int) ∧ internal_strconv_FormatInt_16 k i1 = some v1 from ⟨rfl, e1⟩) .n) (N_then (W_ret ?_))
    cases h
    exact N_end (.inl rfl) (by kernel_rfl)

def C_runes_shown (k : Nat) : FnC := ⟨true, 1, [], fun | [⟨.str, s1⟩, ⟨(.pair (.int .i32) (.pair (.int .i64) (.pair (.int .i64) (.pair .bool .unit)))), p1⟩], [⟨.str, rz⟩] => runes_shown k s1 p1 = some rz | _, _ => False⟩
noncomputable def E_runes_shown (k : Nat) : Env := ⟨Tryd.prog, Gu, 40, [(66, C_strconv_FormatUint_16 k), (67, C_strconv_FormatInt_16 k)]⟩
theorem c_runes_shown (k : Nat) : Contract Tryd.prog Gu 56 (C_runes_shown k) := by
  refine contract_of Gu_stable (fn := Tryd.f56) Tryd.func56 (by kernel_rfl) rfl ?_ ?_
  · intro xs rs h
    unfold C_runes_shown at h
    simp only at h
    split at h
    · exact ⟨by show 2 ≤ _; rw [Tryd.ntmps56]; decide, rfl, fun _ u hu => by simp at hu; (rcases hu with rfl) <;> rfl⟩
    · exact h.elim
  · intro w0 M xs rs hG h
    unfold C_runes_shown at h
    simp only at h
    split at h
    case h_2 => exact h.elim
    rename_i s1 p1 rz
    change List UInt8 at s1
    change (Int × Int × Int × Bool × Unit) at p1
    change List UInt8 at rz
    have hE : EnvOK (E_runes_shown k) ⟨Tryd.prog, Tryd.f56.ntmps, w0, M, fun _ => False, fun _ => undef⟩ := (EnvOK.cons (c_strconv_FormatUint_16 k) (EnvOK.cons (c_strconv_FormatInt_16 k) (EnvOK.nil rfl Tryd.ntmps56 hG)))
    unfold runes_shown at h
    refine W_seq (W_region (WL_allC hE [0, 3] [3] [] (orc := []) (by kernel_rfl) .n (N_then (W_seq (W_seq (W_region ?_))))))
    obtain ⟨b1, e1, h⟩ := bind_some h
    refine WL_allC hE [3, 5] [3] [] (orc := [tU8 b1]) (by kernel_rfl) (.c e1 .n) (N_then (W_block (W_seq (W_region (WL_allC hE [3, 5, 10] [3] [] (orc := []) (by kernel_rfl) .n (N_then (W_cond (b := p1.2.2.2.1) (by kernel_rfl) (fun e2 => ?_) (fun e2 => ?_))))))))
    · replace h := ite_t e2 h
      refine W_seq (W_region ?_)
      obtain ⟨v1, e3, h⟩ := bind_some h
      obtain ⟨_, e4, h⟩ := bind_some h
      replace e4 := chk_some e4
      refine WL_allI hE (st' := ⟨[(4, SS (([92, 120] : List UInt8) ++ v1))], [], []⟩) (orc := [tS v1]) (by kernel_rfl) (.c (show (16 : Int) = (16 : Int) ∧ strconv_FormatUint_16 k (wu64 b1) = some v1 from ⟨rfl, e3⟩) (.c e4 .n)) (N_then (W_ret (N_block_ret (N_then_ret ?_))))
      cases h
      exact N_end (.inl rfl) (by kernel_rfl)
    · replace h := ite_f e2 h
      refine W_join (α := Bool) (fun z => runes_shown_j1 k b1 p1 z = some rz) (fun t1 => ⟨[(3, .ptr 3 0), (5, U8 b1), (17, BB t1)], [(3, .cells [I32 p1.1, I64 p1.2.1, I64 p1.2.2.1, BB p1.2.2.2.1] 35)], []⟩) ?_ (fun hJ2 => ?_)
      · rintro t1 h
        unfold runes_shown_j1 at h
        refine W_cond (b := t1) (by kernel_rfl) (fun e5 => ?_) (fun e5 => ?_)
        · replace h := ite_t e5 h
          refine W_seq (W_region ?_)
          obtain ⟨_, e6, h⟩ := bind_some h
          replace e6 := chk_some e6
          refine WL_allC hE [4] [] [] (orc := []) (by kernel_rfl) (.c e6 .n) (N_then (W_ret (N_block_ret (N_then_ret ?_))))
          cases h
          exact N_end (.inl rfl) (by kernel_rfl)
        · replace h := ite_f e5 h
          refine W_seq (W_region (WL_tkC hE 3 [3, 5, 28] [3] [] (orc := []) (by kernel_rfl) .n (WL_join (α := Bool) (fun z => runes_shown_j2 k b1 p1 z = some rz) (fun t2 => ⟨[(3, .ptr 3 0), (5, U8 b1), (31, BB t2)], [(3, .cells [I32 p1.1, I64 p1.2.1, I64 p1.2.2.1, BB p1.2.2.2.1] 35)], []⟩) 3 ?_ (fun hJ2 => ?_))))
          · rintro t2 h
            unfold runes_shown_j2 at h
            refine WL_allC hE [3, 5, 25] [3] [] (orc := []) (by kernel_rfl) .n (N_then (W_cond (b := t2) (by kernel_rfl) (fun e7 => ?_) (fun e7 => ?_)))
            · replace h := ite_t e7 h
              refine W_seq (W_region (WL_allC hE [4] [] [] (orc := []) (by kernel_rfl) .n (N_then (W_ret (N_block_ret (N_then_ret ?_))))))
              cases h
              exact N_end (.inl rfl) (by kernel_rfl)
            · replace h := ite_f e7 h
              refine W_skip (N_block (N_then (W_seq (W_region ?_))))
              obtain ⟨v2, e8, h⟩ := bind_some h
              obtain ⟨_, e9, h⟩ := bind_some h
              replace e9 := chk_some e9
              obtain ⟨_, e10, h⟩ := bind_some h
              replace e10 := chk_some e10
              refine WL_allC hE [4] [] [] (orc := [tS v2]) (by kernel_rfl) (.c (show (16 : Int) = (16 : Int) ∧ strconv_FormatInt_16 k (wi64 p1.1) = some v2 from ⟨rfl, e8⟩) (.c e9 (.c e10 .n))) (N_then (W_ret ?_))
              cases h
              exact N_end (.inl rfl) (by kernel_rfl)
          refine WL_splitC 28 (b := decide ((32 : Int) ≤ b1)) (by kernel_rfl) (fun e11 => ?_) (fun e11 => ?_)
          · rw [and_t e11] at h
            exact WL_allI hE (orc := []) (by kernel_rfl) .n (hJ2 (decide (b1 < (127 : Int))) h)
          · rw [and_f e11] at h
            exact WL_allI hE (orc := []) (by kernel_rfl) .n (hJ2 false h)
      refine W_seq (W_region (WL_allI hE (st' := ⟨[(3, .ptr 3 0), (5, U8 b1), (17, BB (b1 == (34 : Int)))], [(3, .cells [I32 p1.1, I64 p1.2.1, I64 p1.2.2.1, BB p1.2.2.2.1] 35)], []⟩) (orc := []) (by kernel_rfl) .n (N_then (W_cond (b := b1 == (34 : Int)) (by kernel_rfl) (fun e12 => ?_) (fun e12 => ?_)))))
      · replace h := ite_t e12 h
        exact W_skip (N_normI (by kernel_rfl) (hJ2 (b1 == (34 : Int)) h))
      · replace h := ite_f e12 h
        exact W_region (WL_allI hE (orc := []) (by kernel_rfl) .n (hJ2 (b1 == (92 : Int)) h))

def B_strings_Builder_WriteString_i1 (k : Nat) : FnB (List UInt8 × List (Int)) (Option (Option (Nat × Int)) × Int × List (Int)) where
  n := 19
  S := fun z => ⟨[(0, .ptr 19 0), (1, SS (z.1))], [(19, .cells [.selfp 19, .row 20] 59)], [(20, ⟨5, (.int .u8), (z.2)⟩)]⟩
  S' := fun z y => ⟨[], [(19, .cells [.selfp 19, .row 20] 59)], [(20, ⟨5, (.int .u8), (y.2.2)⟩)]⟩
  rs := fun z y => [I64 (y.2.1), .val .err (y.1)]
  rel := fun z y => strings_Builder_WriteString_i1 k (z.1) (z.2) = some y
noncomputable def E_strings_Builder_WriteString_i1 (k : Nat) : Env := ⟨Tryd.prog, Gu, 19, []⟩
theorem b_strings_Builder_WriteString_i1 (k : Nat) : BC Tryd.prog Gu 47 (B_strings_Builder_WriteString_i1 k) := by
  refine bc_of (fn := Tryd.f47) Tryd.func47 (by kernel_rfl) rfl Tryd.ntmps47 ?_
  rintro cx hP hn hG ⟨s1, l1⟩ y0 h
  have hE : EnvOK (E_strings_Builder_WriteString_i1 k) cx := (EnvOK.nil hP hn hG)
  replace h : strings_Builder_WriteString_i1 k s1 l1 = some y0 := h
  unfold strings_Builder_WriteString_i1 at h
  refine W_seq (W_region (WL_allC hE [0, 1] [19] [20] (orc := []) (by kernel_rfl) .n (N_then (W_seq (W_region (WL_tkC hE 1 [0, 1, 6] [19] [20] (orc := []) (by kernel_rfl) .n ?_))))))
  obtain ⟨v1, e1, h⟩ := bind_some h
  refine WL_callBC hE (eb_bld_copyCheck k) l1 v1 e1 (ρ := [(19, 20), (20, 21)]) (ρ' := [(20, 19), (21, 20)]) (n := 20) (by kernel_rfl) [0, 1] [19] [20] (by kernel_rfl) (by kernel_rfl) (by kernel_rfl) (WL_nil (N_then (W_seq (W_region ?_))))
  obtain ⟨_, e2, h⟩ := bind_some h
  replace e2 := chk_some e2
  refine WL_allC hE [0, 1] [19] [20] (orc := []) (by kernel_rfl) (.c e2 .n) (N_then (W_seq (W_region (WL_allI hE (st' := ⟨[(0, .ptr 19 0), (4, I64 (List.length s1 : Int)), (5, .val .err (none : Option (Option (Nat × Int))))], [(19, .cells [.selfp 19, .row 20] 59)], [(20, ⟨5, (.int .u8), l1 ++ (bytesEl s1)⟩)]⟩) (orc := []) (by kernel_rfl) .n (N_then (W_ret ?_))))))
  replace h := Option.some.inj h
  subst h
  exact N_normC [0, 4, 5] [19] [20] (by kernel_rfl) (N_endB hE.P [19] [20] (.inl rfl) (by kernel_rfl) (by kernel_rfl))

def B_runes_quote_c1_i1 (k : Nat) : FnB ((Int × Int × Int × Bool × Unit) × List UInt8 × List (Int)) (Bool × List (Int)) where
  n := 9
  S := fun z => ⟨[(0, .val (.pair (.int .i32) (.pair (.int .i64) (.pair (.int .i64) (.pair .bool .unit)))) (z.1)), (1, .ptr 9 0), (2, .ptr 11 0)], [(9, .cells [.selfp 9, .row 10] 59), (11, .cells [SS (z.2.1)] 9)], [(10, ⟨5, (.int .u8), (z.2.2)⟩)]⟩
  S' := fun z y => ⟨[], [(9, .cells [.selfp 9, .row 10] 59), (11, .cells [SS (z.2.1)] 9)], [(10, ⟨5, (.int .u8), (y.2)⟩)]⟩
  rs := fun z y => [BB (y.1)]
  rel := fun z y => runes_quote_c1_i1 k (z.1) (z.2.1) (z.2.2) = some y
noncomputable def E_runes_quote_c1_i1 (k : Nat) : Env := ⟨Tryd.prog, Gu, 9, [(56, C_runes_shown k)]⟩
theorem b_runes_quote_c1_i1 (k : Nat) : BC Tryd.prog Gu 55 (B_runes_quote_c1_i1 k) := by
  refine bc_of (fn := Tryd.f55) Tryd.func55 (by kernel_rfl) rfl Tryd.ntmps55 ?_
  rintro cx hP hn hG ⟨p1, c1, l1⟩ y0 h
  have hE : EnvOK (E_runes_quote_c1_i1 k) cx := (EnvOK.cons (c_runes_shown k) (EnvOK.nil hP hn hG))
  replace h : runes_quote_c1_i1 k p1 c1 l1 = some y0 := h
  unfold runes_quote_c1_i1 at h
  refine W_seq (W_region (WL_allC hE [1, 2, 3] [3, 9, 11] [10] (orc := []) (by kernel_rfl) .n (N_then (W_seq (W_region ?_)))))
  obtain ⟨v1, e1, h⟩ := bind_some h
  refine WL_tkC hE 3 [1, 2, 7] [9, 11] [10] (orc := [tS v1]) (by kernel_rfl) (.c e1 .n) ?_
  obtain ⟨v2, e2, h⟩ := bind_some h
  refine WL_callB hE (b_strings_Builder_WriteString_i1 k) (v1, l1) v2 e2 (ρ := [(9, 19), (10, 20)]) (ρ' := [(19, 9), (20, 10)]) (n := 19) (by kernel_rfl) [1, 2] [9, 11] [10] (by kernel_rfl) (by kernel_rfl) (st' := ⟨[(1, .ptr 9 0), (2, .ptr 11 0)], [(9, .cells [.selfp 9, .row 10] 59), (11, .cells [SS c1] 9)], [(10, ⟨5, (.int .u8), v2.2.2⟩)]⟩) (by kernel_rfl) (WL_nil (N_then (W_seq (W_region (WL_allC hE [1, 2, 4] [9, 11] [10] (orc := []) (by kernel_rfl) .n (N_then (W_ret ?_)))))))
  replace h := Option.some.inj h
  subst h
  exact N_normC [1, 2, 4] [9, 11] [10] (by kernel_rfl) (N_endB hE.P [9, 11] [10] (.inl rfl) (by kernel_rfl) (by kernel_rfl))

def B_runes_each_i3 (k : Nat) : FnB (List UInt8 × List UInt8 × List (Int)) (List UInt8 × List (Int)) where
  n := 37
  S := fun z => ⟨[(0, SS (z.1)), (1, .clos 55 [37, 39])], [(37, .cells [.selfp 37, .row 38] 59), (39, .cells [SS (z.2.1)] 9)], [(38, ⟨5, (.int .u8), (z.2.2)⟩)]⟩
  S' := fun z y => ⟨[], [(37, .cells [.selfp 37, .row 38] 59), (39, .cells [SS (y.1)] 9)], [(38, ⟨5, (.int .u8), (y.2)⟩)]⟩
  rs := fun z y => []
  rel := fun z y => runes_each_i3 k (z.1) (z.2.1) (z.2.2) = some y
noncomputable def E_runes_each_i3 (k : Nat) : Env := ⟨Tryd.prog, Gu, 37, [(52, C_unicode_utf8_RuneLen k), (25, C_unicode_utf8_DecodeRuneInString k)]⟩
theorem b_runes_each_i3 (k : Nat) : BC Tryd.prog Gu 36 (B_runes_each_i3 k) := by
  refine bc_of (fn := Tryd.f36) Tryd.func36 (by kernel_rfl) rfl Tryd.ntmps36 ?_
  rintro cx hP hn hG ⟨s1, c1, l1⟩ y0 h
  have hE : EnvOK (E_runes_each_i3 k) cx := (EnvOK.cons (c_unicode_utf8_RuneLen k) (EnvOK.cons (e_unicode_utf8_DecodeRuneInString k) (EnvOK.nil hP hn hG)))
  replace h : runes_each_i3 k s1 c1 l1 = some y0 := h
  unfold runes_each_i3 at h
  refine W_seq (W_region (WL_allI hE (orc := []) (by kernel_rfl) .n (N_then (W_block (W_loop (α := (Nat × List (Int))) (fun n z => runes_each_i3_l1 k s1 c1 n z.1 z.2 = some y0) (fun z => ⟨[(0, SS s1), (1, .clos 55 [37, 39]), (10, .iter 10)], [(10, .iter s1 (z.1)), (37, .cells [.selfp 37, .row 38] 59), (39, .cells [SS c1] 9)], [(38, ⟨5, (.int .u8), (z.2)⟩)]⟩) ?_ (k := k) (x := (0, l1)) h)))))
  clear h
  rintro fuel1 ⟨pos1, t3⟩ h
  cases fuel1 with
  | zero => exact absurd (show none = some _ from h) (by simp)
  | succ fuel1 =>
    have h : runes_each_i3_b1 k s1 c1 (runes_each_i3_l1 k s1 c1 fuel1) pos1 t3 = some y0 := h
    unfold runes_each_i3_b1 at h
    refine W_seq (W_region ?_)
    rcases Bool.eq_false_or_eq_true (decide (pos1 < List.length s1)) with e1 | e1
    · replace h := ite_t e1 h
      refine WL_tkC hE 1 [0, 1, 10, 11] [10, 37, 39] [38] (orc := [tB true]) (by kernel_rfl) (.c (of_decide_eq_true e1) .n) (WL_allC hE [0, 1, 10, 11, 12] [10, 37, 39] [38] (orc := []) (by kernel_rfl) .n (N_then (W_seq (W_cond_true (by kernel_rfl) (W_skip (N_then (W_block (W_seq (W_region (WL_allC hE [0, 1, 4, 5, 10] [10, 37, 39] [38] (orc := []) (by kernel_rfl) .n (N_then (W_seq (W_region ?_)))))))))))))
      obtain ⟨v1, e2, h⟩ := bind_some h
      refine WL_allI hE (st' := ⟨[(0, SS s1), (1, .clos 55 [37, 39]), (4, I64 (pos1 : Int)), (5, I32 (runeAt s1 pos1)), (6, .ptr 6 0), (10, .iter 10)], [(6, .cells [I32 (runeAt s1 pos1), I64 (pos1 : Int), I64 v1, BB false] 35), (10, .iter s1 (pos1 + widthAt s1 pos1)), (37, .cells [.selfp 37, .row 38] 59), (39, .cells [SS c1] 9)], [(38, ⟨5, (.int .u8), t3⟩)]⟩) (orc := [tI64 v1]) (by kernel_rfl) (.c e2 .n) (N_then (W_join (α := (Int × Bool)) (fun z => runes_each_i3_j1 k s1 pos1 c1 t3 (runes_each_i3_l1 k s1 c1 fuel1) z.1 z.2 = some y0) (fun z => ⟨[(0, SS s1), (1, .clos 55 [37, 39]), (6, .ptr 6 0), (10, .iter 10)], [(6, .cells [I32 (runeAt s1 pos1), I64 (pos1 : Int), I64 (z.1), BB (z.2)] 35), (10, .iter s1 (pos1 + widthAt s1 pos1)), (37, .cells [.selfp 37, .row 38] 59), (39, .cells [SS c1] 9)], [(38, ⟨5, (.int .u8), t3⟩)]⟩) ?_ (fun hJ1 => ?_)))
      · rintro ⟨p1, p2⟩ h
        unfold runes_each_i3_j1 at h
        refine W_seq (W_region (WL_tkC hE 2 [0, 1, 10, 33, 34] [10, 37, 39] [38] (orc := []) (by kernel_rfl) .n ?_))
        obtain ⟨v2, e3, h⟩ := bind_some h
        refine WL_callBC hE (b_runes_quote_c1_i1 k) ((runeAt s1 pos1, (pos1 : Int), p1, p2, ()), c1, t3) v2 e3 (ρ := [(37, 9), (38, 10), (39, 11)]) (ρ' := [(9, 37), (11, 39), (10, 38)]) (n := 9) (by kernel_rfl) [0, 1, 10, 35] [10, 37, 39] [38] (by kernel_rfl) (by kernel_rfl) (by kernel_rfl) (WL_allC hE [0, 1, 10, 36] [10, 37, 39] [38] (orc := []) (by kernel_rfl) .n (N_then (W_cond (b := !v2.1) (by kernel_rfl) (fun e4 => ?_) (fun e4 => ?_))))
        · replace h := ite_t e4 h
          refine W_ret (N_block_ret (N_then_ret (N_block_ret ?_)))
          replace h := Option.some.inj h
          subst h
          exact N_normC [1] [37, 39] [38] (by kernel_rfl) (N_endB hE.P [37, 39] [38] (.inl rfl) (by kernel_rfl) (by kernel_rfl))
        · replace h := ite_f e4 h
          exact W_skip (N_block (N_normI (by kernel_rfl) (N_round ((pos1 + widthAt s1 pos1), v2.2) (Nat.lt_succ_self _) h)))
      refine W_seq (W_region (WL_allI hE (st' := ⟨[(0, SS s1), (1, .clos 55 [37, 39]), (4, I64 (pos1 : Int)), (6, .ptr 6 0), (10, .iter 10), (21, BB ((runeAt s1 pos1) == (65533 : Int)))], [(6, .cells [I32 (runeAt s1 pos1), I64 (pos1 : Int), I64 v1, BB false] 35), (10, .iter s1 (pos1 + widthAt s1 pos1)), (37, .cells [.selfp 37, .row 38] 59), (39, .cells [SS c1] 9)], [(38, ⟨5, (.int .u8), t3⟩)]⟩) (orc := []) (by kernel_rfl) .n (N_then (W_cond (b := (runeAt s1 pos1) == (65533 : Int)) (by kernel_rfl) (fun e5 => ?_) (fun e5 => ?_)))))
      · replace h := ite_t e5 h
        refine W_seq (W_region ?_)
        obtain ⟨s2, e6, h⟩ := bind_some h
        obtain ⟨v3, e7, h⟩ := bind_some h
        refine WL_allC hE [0, 1, 6, 8, 10] [6, 10, 37, 39] [38] (orc := [tS s2, tI32 v3.1, tI64 v3.2]) (by kernel_rfl) (.c e6 (.c e7 .n)) (N_then (W_seq (W_region (WL_allC hE [0, 1, 6, 10, 30] [6, 10, 37, 39] [38] (orc := []) (by kernel_rfl) .n (N_then (W_cond (b := v3.2 == (1 : Int)) (by kernel_rfl) (fun e8 => ?_) (fun e8 => ?_)))))))
        · replace h := ite_t e8 h
          exact W_region (WL_allI hE (orc := []) (by kernel_rfl) .n (hJ1 ((1 : Int), true) h))
        · replace h := ite_f e8 h
          exact W_skip (N_normI (by kernel_rfl) (hJ1 (v1, false) h))
      · replace h := ite_f e5 h
        exact W_skip (N_normI (by kernel_rfl) (hJ1 (v1, false) h))
    · replace h := ite_f e1 h
      refine WL_tk hE 1 [0, 1, 10, 11] [10, 37, 39] [38] (st' := ⟨[(0, SS s1), (1, .clos 55 [37, 39]), (10, .iter 10), (11, .tup [tB false])], [(10, .iter s1 pos1), (37, .cells [.selfp 37, .row 38] 59), (39, .cells [SS c1] 9)], [(38, ⟨5, (.int .u8), t3⟩)]⟩) (orc := [tB false]) (by kernel_rfl) (Obs.all (.c (show List.length s1 ≤ pos1 from Nat.le_of_not_lt (of_decide_eq_false e1)) .n)) (WL_allC hE [0, 1, 10, 11, 12] [10, 37, 39] [38] (orc := []) (by kernel_rfl) .n (N_then (W_seq (W_cond_false (by kernel_rfl) (W_exit (N_then_exit (N_then_exit (N_block_exit ?_))))))))
      replace h := Option.some.inj h
      subst h
      exact N_normC [1] [37, 39] [38] (by kernel_rfl) (N_endB hE.P [37, 39] [38] (.inr rfl) (by kernel_rfl) (by kernel_rfl))

def C_runes_quote (k : Nat) : FnC := ⟨true, 1, [], fun | [⟨.str, s1⟩], [⟨.str, rz⟩] => runes_quote k s1 = some rz | _, _ => False⟩
noncomputable def E_runes_quote (k : Nat) : Env := ⟨Tryd.prog, Gu, 10, []⟩
theorem c_runes_quote (k : Nat) : Contract Tryd.prog Gu 43 (C_runes_quote k) := by
  refine contract_of Gu_stable (fn := Tryd.f43) Tryd.func43 (by kernel_rfl) rfl ?_ ?_
  · intro xs rs h
    unfold C_runes_quote at h
    simp only at h
    split at h
    · exact ⟨by show 1 ≤ _; rw [Tryd.ntmps43]; decide, rfl, fun _ u hu => by simp at hu; (rcases hu with rfl) <;> rfl⟩
    · exact h.elim
  · intro w0 M xs rs hG h
    unfold C_runes_quote at h
    simp only at h
    split at h
    case h_2 => exact h.elim
    rename_i s1 rz
    change List UInt8 at s1
    change List UInt8 at rz
    have hE : EnvOK (E_runes_quote k) ⟨Tryd.prog, Tryd.f43.ntmps, w0, M, fun _ => False, fun _ => undef⟩ := (EnvOK.nil rfl Tryd.ntmps43 hG)
    unfold runes_quote at h
    refine W_seq (W_region (WL_allC hE [1] [1] [] (orc := []) (by kernel_rfl) .n (N_then (W_seq (W_region (WL_allC hE [1, 3] [1, 3] [1000003] (orc := []) (by kernel_rfl) .n (N_then (W_seq (W_region ?_)))))))))
    obtain ⟨v1, e1, h⟩ := bind_some h
    refine WL_callB hE (b_strings_Builder_WriteByte_i1 k) ((34 : Int), ([] : List (Int))) v1 e1 (ρ := [(3, 17), (1000003, 18)]) (ρ' := [(17, 3), (18, 1000003)]) (n := 17) (by kernel_rfl) [1, 3] [1, 3] [1000003] (by kernel_rfl) (by kernel_rfl) (st' := ⟨[(1, .ptr 1 0), (3, .ptr 3 0)], [(1, .cells [SS s1] 9), (3, .cells [.selfp 3, .row 1000003] 59)], [(1000003, ⟨5, (.int .u8), v1.2⟩)]⟩) (by kernel_rfl) (WL_nil (N_then (W_seq (W_region (WL_tkC hE 2 [3, 5, 6] [1, 3] [1000003] (orc := []) (by kernel_rfl) .n ?_)))))
    obtain ⟨v2, e2, h⟩ := bind_some h
    refine WL_callBC hE (b_runes_each_i3 k) (s1, s1, v1.2) v2 e2 (ρ := [(3, 37), (1000003, 38), (1, 39)]) (ρ' := [(37, 3), (39, 1), (38, 1000003)]) (n := 37) (by kernel_rfl) [3] [3] [1000003] (by kernel_rfl) (by kernel_rfl) (by kernel_rfl) (WL_nil (N_then (W_seq (W_region ?_))))
    obtain ⟨v3, e3, h⟩ := bind_some h
    refine WL_callBC hE (b_strings_Builder_WriteByte_i1 k) ((34 : Int), v2.2) v3 e3 (ρ := [(3, 17), (1000003, 18)]) (ρ' := [(17, 3), (18, 1000003)]) (n := 17) (by kernel_rfl) [3] [3] [1000003] (by kernel_rfl) (by kernel_rfl) (by kernel_rfl) (WL_nil (N_then (W_seq (W_region ?_))))
    obtain ⟨v4, e4, h⟩ := bind_some h
    refine WL_callB hE (eb_bld_StringK k) v3.2 v4 e4 (ρ := [(3, 14), (1000003, 15)]) (ρ' := [(14, 3)]) (n := 14) (by kernel_rfl) [9] [] [] (by kernel_rfl) (by kernel_rfl) (st' := ⟨[(9, SS v4)], [], []⟩) (by kernel_rfl) (WL_allC hE [2] [] [] (orc := []) (by kernel_rfl) .n (N_then (W_ret ?_)))
    cases h
    exact N_end (.inl rfl) (by kernel_rfl)

def C_runes_Quote (k : Nat) : FnC := ⟨true, 2, [], fun | [⟨.str, s1⟩], [⟨.str, rz1⟩, ⟨(.int .i64), rz2⟩] => runes_Quote k s1 = some (rz1, rz2) | _, _ => False⟩
noncomputable def E_runes_Quote (k : Nat) : Env := ⟨Tryd.prog, Gu, 12, [(35, C_runes_long k), (43, C_runes_quote k)]⟩
theorem c_runes_Quote (k : Nat) : Contract Tryd.prog Gu 27 (C_runes_Quote k) := by
  refine contract_of Gu_stable (fn := Tryd.f27) Tryd.func27 (by kernel_rfl) rfl ?_ ?_
  · intro xs rs h
    unfold C_runes_Quote at h
    simp only at h
    split at h
    · exact ⟨by show 1 ≤ _; rw [Tryd.ntmps27]; decide, rfl, fun _ u hu => by simp at hu; (rcases hu with rfl | rfl) <;> rfl⟩
    · exact h.elim
  · intro w0 M xs rs hG h
    unfold C_runes_Quote at h
    simp only at h
    split at h
    case h_2 => exact h.elim
    rename_i s1 rz1 rz2
    change List UInt8 at s1
    change List UInt8 at rz1
    change Int at rz2
    have hE : EnvOK (E_runes_Quote k) ⟨Tryd.prog, Tryd.f27.ntmps, w0, M, fun _ => False, fun _ => undef⟩ := (EnvOK.cons (c_runes_long k) (EnvOK.cons (c_runes_quote k) (EnvOK.nil rfl Tryd.ntmps27 hG)))
    unfold runes_Quote at h
    refine W_seq (W_region (WL_allC hE [0] [] [] (orc := []) (by kernel_rfl) .n (N_then (W_seq (W_seq (W_region ?_))))))
    obtain ⟨v1, e1, h⟩ := bind_some h
    refine WL_allC hE [0, 4] [] [] (orc := [tI64 v1]) (by kernel_rfl) (.c e1 .n) (N_then (W_seq (W_region (WL_allC hE [0, 4, 8] [] [] (orc := []) (by kernel_rfl) .n (N_then (W_cond (b := v1 != (0 : Int)) (by kernel_rfl) (fun e2 => ?_) (fun e2 => ?_)))))))
    · replace h := ite_t e2 h
      refine W_seq (W_region (WL_allI hE (st' := ⟨[(2, SS ([] : List UInt8)), (3, I64 v1)], [], []⟩) (orc := []) (by kernel_rfl) .n (N_then (W_ret (N_then_ret ?_)))))
      cases h
      exact N_end (.inl rfl) (by kernel_rfl)
    · replace h := ite_f e2 h
      refine W_skip (N_then (W_seq (W_region ?_)))
      obtain ⟨v2, e3, h⟩ := bind_some h
      refine WL_allC hE [2, 3] [] [] (orc := [tS v2]) (by kernel_rfl) (.c e3 .n) (N_then (W_ret ?_))
      cases h
      exact N_end (.inl rfl) (by kernel_rfl)

def C_r01_tail (k : Nat) : FnC := ⟨true, 1, [], fun | [⟨(.int .u8), b1⟩], [⟨.bool, rz⟩] => r01_tail k b1 = some rz | _, _ => False⟩
noncomputable def E_r01_tail (k : Nat) : Env := ⟨Tryd.prog, Gu, 9, []⟩
theorem c_r01_tail (k : Nat) : Contract Tryd.prog Gu 65 (C_r01_tail k) := by
  refine contract_of Gu_stable (fn := Tryd.f65) Tryd.func65 (by kernel_rfl) rfl ?_ ?_
  · intro xs rs h
    unfold C_r01_tail at h
    simp only at h
    split at h
    · exact ⟨by show 1 ≤ _; rw [Tryd.ntmps65]; decide, rfl, fun _ u hu => by simp at hu; (rcases hu with rfl) <;> rfl⟩
    · exact h.elim
  · intro w0 M xs rs hG h
    unfold C_r01_tail at h
    simp only at h
    split at h
    case h_2 => exact h.elim
    rename_i b1 rz
    change Int at b1
    change Bool at rz
    have hE : EnvOK (E_r01_tail k) ⟨Tryd.prog, Tryd.f65.ntmps, w0, M, fun _ => False, fun _ => undef⟩ := (EnvOK.nil rfl Tryd.ntmps65 hG)
    unfold r01_tail at h
    refine W_seq (W_region (WL_allC hE [0] [] [] (orc := []) (by kernel_rfl) .n (N_then (W_seq (W_region (WL_tkC hE 3 [0, 5] [] [] (orc := []) (by kernel_rfl) .n (WL_join (α := Bool) (fun z => r01_tail_j1 z = some rz) (fun t1 => ⟨[(8, BB t1)], [], []⟩) 3 ?_ (fun hJ1 => ?_))))))))
    · rintro t1 h
      unfold r01_tail_j1 at h
      refine WL_allC hE [2] [] [] (orc := []) (by kernel_rfl) .n (N_then (W_ret ?_))
      cases h
      exact N_end (.inl rfl) (by kernel_rfl)
    refine WL_splitC 5 (b := decide ((128 : Int) ≤ b1)) (by kernel_rfl) (fun e1 => ?_) (fun e1 => ?_)
    · rw [and_t e1] at h
      exact WL_allI hE (orc := []) (by kernel_rfl) .n (hJ1 (decide (b1 < (192 : Int))) h)
    · rw [and_f e1] at h
      exact WL_allI hE (orc := []) (by kernel_rfl) .n (hJ1 false h)

def C_r01_Rune (k : Nat) : FnC := ⟨true, 1, [], fun | [⟨(.int .i32), r1⟩], [⟨.bool, rz⟩] => r01_Rune k r1 = some rz | _, _ => False⟩
noncomputable def E_r01_Rune (k : Nat) : Env := ⟨Tryd.prog, Gu, 17, []⟩
theorem c_r01_Rune (k : Nat) : Contract Tryd.prog Gu 53 (C_r01_Rune k) := by
  refine contract_of Gu_stable (fn := Tryd.f53) Tryd.func53 (by kernel_rfl) rfl ?_ ?_
  · intro xs rs h
    unfold C_r01_Rune at h
    simp only at h
    split at h
    · exact ⟨by show 1 ≤ _; rw [Tryd.ntmps53]; decide, rfl, fun _ u hu => by simp at hu; (rcases hu with rfl) <;> rfl⟩
    · exact h.elim
  · intro w0 M xs rs hG h
    unfold C_r01_Rune at h
    simp only at h
    split at h
    case h_2 => exact h.elim
    rename_i r1 rz
    change Int at r1
    change Bool at rz
    have hE : EnvOK (E_r01_Rune k) ⟨Tryd.prog, Tryd.f53.ntmps, w0, M, fun _ => False, fun _ => undef⟩ := (EnvOK.nil rfl Tryd.ntmps53 hG)
    unfold r01_Rune at h
    refine W_seq (W_region (WL_allC hE [0] [] [] (orc := []) (by kernel_rfl) .n (N_then (W_seq (W_region (WL_tkC hE 3 [0, 5] [] [] (orc := []) (by kernel_rfl) .n (WL_join (α := Bool) (fun z => r01_Rune_j1 r1 z = some rz) (fun t1 => ⟨[(0, I32 r1), (8, BB t1)], [], []⟩) 3 ?_ (fun hJ1 => ?_))))))))
    · rintro t1 h
      unfold r01_Rune_j1 at h
      refine WL_tkC hE 1 [0, 9] [] [] (orc := []) (by kernel_rfl) .n (WL_join (α := Bool) (fun z => r01_Rune_j2 z = some rz) (fun t2 => ⟨[(16, BB t2)], [], []⟩) 7 ?_ (fun hJ2 => ?_))
      · rintro t2 h
        unfold r01_Rune_j2 at h
        refine WL_allC hE [2] [] [] (orc := []) (by kernel_rfl) .n (N_then (W_ret ?_))
        cases h
        exact N_end (.inl rfl) (by kernel_rfl)
      refine WL_splitC 9 (b := t1) (by kernel_rfl) (fun e1 => ?_) (fun e1 => ?_)
      · replace h := ite_t e1 h
        refine WL_tkC hE 3 [0, 9, 12] [] [] (orc := []) (by kernel_rfl) .n (WL_join (α := Bool) (fun z => r01_Rune_j3 z = some rz) (fun t3 => ⟨[(9, BB true), (15, BB t3)], [], []⟩) 3 ?_ (fun hJ3 => ?_))
        · rintro t3 h
          unfold r01_Rune_j3 at h
          exact WL_allI hE (orc := []) (by kernel_rfl) .n (hJ2 t3 h)
        refine WL_splitC 12 (b := decide (r1 < (55296 : Int))) (by kernel_rfl) (fun e2 => ?_) (fun e2 => ?_)
        · rw [or_t e2] at h
          exact WL_allI hE (orc := []) (by kernel_rfl) .n (hJ3 true h)
        · rw [or_f e2] at h
          exact WL_allI hE (orc := []) (by kernel_rfl) .n (hJ3 (decide ((57343 : Int) < r1)) h)
      · replace h := ite_f e1 h
        exact WL_allI hE (orc := []) (by kernel_rfl) .n (hJ2 false h)
    refine WL_splitC 5 (b := decide ((0 : Int) ≤ r1)) (by kernel_rfl) (fun e3 => ?_) (fun e3 => ?_)
    · rw [and_t e3] at h
      exact WL_allI hE (orc := []) (by kernel_rfl) .n (hJ1 (decide (r1 ≤ (1114111 : Int))) h)
    · rw [and_f e3] at h
      exact WL_allI hE (orc := []) (by kernel_rfl) .n (hJ1 false h)

def C_r01_At (k : Nat) : FnC := ⟨true, 1, [], fun | [⟨.str, s1⟩, ⟨(.int .i64), at1⟩], [⟨(.pair (.int .i32) (.pair (.int .i64) (.pair (.int .i64) (.pair .bool .unit)))), rz⟩] => r01_At k s1 at1 = some rz | _, _ => False⟩
noncomputable def E_r01_At (k : Nat) : Env := ⟨Tryd.prog, Gu, 103, [(65, C_r01_tail k), (53, C_r01_Rune k)]⟩
theorem c_r01_At (k : Nat) : Contract Tryd.prog Gu 51 (C_r01_At k) := by
  refine contract_of Gu_stable (fn := Tryd.f51) Tryd.func51 (by kernel_rfl) rfl ?_ ?_
  · intro xs rs h
    unfold C_r01_At at h
    simp only at h
    split at h
    · exact ⟨by show 2 ≤ _; rw [Tryd.ntmps51]; decide, rfl, fun _ u hu => by simp at hu; (rcases hu with rfl) <;> rfl⟩
    · exact h.elim
  · intro w0 M xs rs hG h
    unfold C_r01_At at h
    simp only at h
    split at h
    case h_2 => exact h.elim
    rename_i s1 at1 rz
    change List UInt8 at s1
    change Int at at1
    change (Int × Int × Int × Bool × Unit) at rz
    have hE : EnvOK (E_r01_At k) ⟨Tryd.prog, Tryd.f51.ntmps, w0, M, fun _ => False, fun _ => undef⟩ := (EnvOK.cons (c_r01_tail k) (EnvOK.cons (c_r01_Rune k) (EnvOK.nil rfl Tryd.ntmps51 hG)))
    unfold r01_At at h
    refine W_seq (W_region (WL_allC hE [0, 1, 4] [4] [] (orc := []) (by kernel_rfl) .n (N_then (W_seq (W_region ?_)))))
    obtain ⟨b1, e1, h⟩ := bind_some h
    refine WL_allC hE [0, 1, 4, 5] [4] [] (orc := [tU8 b1]) (by kernel_rfl) (.c e1 .n) (N_then (W_seq (W_seq (W_region (WL_allC hE [0, 1, 4, 5, 15] [4] [] (orc := []) (by kernel_rfl) .n (N_then (W_cond (b := decide (b1 < (128 : Int))) (by kernel_rfl) (fun e2 => ?_) (fun e2 => ?_))))))))
    · replace h := ite_t e2 h
      refine W_seq (W_region (WL_allI hE (st' := ⟨[(4, .ptr 4 0)], [(4, .cells [I32 (wi32 b1), I64 at1, I64 (1 : Int), BB false] 35)], []⟩) (orc := []) (by kernel_rfl) .n (N_then (W_ret (N_then_ret ?_)))))
      cases h
      exact N_end (.inl rfl) (by kernel_rfl)
    · replace h := ite_f e2 h
      refine W_skip (N_then (W_seq (W_region (WL_allC hE [0, 1, 4, 5, 6] [4] [] (orc := []) (by kernel_rfl) .n (N_then (W_seq (W_region (WL_allC hE [0, 1, 4, 5, 6, 7] [4] [] (orc := []) (by kernel_rfl) .n (N_then (W_join (α := (Int × Int)) (fun z => r01_At_j1 k at1 s1 z.1 z.2 = some rz) (fun z => ⟨[(0, SS s1), (1, I64 at1), (4, .ptr 4 0), (6, I64 (z.1)), (7, I32 (z.2))], [(4, .cells [I32 (0 : Int), I64 (0 : Int), I64 (0 : Int), BB false] 35)], []⟩) ?_ (fun hJ3 => ?_)))))))))))
      · rintro ⟨long1, r1⟩ h
        unfold r01_At_j1 at h
        refine W_seq (W_region (WL_allC hE [0, 1, 4, 6, 7, 8] [4, 8] [] (orc := []) (by kernel_rfl) .n (N_then (W_seq (W_seq (W_region (WL_tkC hE 3 [0, 1, 4, 6, 7, 8, 54] [4, 8] [] (orc := []) (by kernel_rfl) .n (WL_join (α := Bool) (fun z => r01_At_j2 k at1 long1 s1 r1 z = some rz) (fun t1 => ⟨[(0, SS s1), (1, I64 at1), (4, .ptr 4 0), (6, I64 long1), (7, I32 r1), (8, .ptr 8 0), (61, BB t1)], [(4, .cells [I32 (0 : Int), I64 (0 : Int), I64 (0 : Int), BB false] 35), (8, .cells [I32 (65533 : Int), I64 at1, I64 (1 : Int), BB true] 35)], []⟩) 7 ?_ (fun hJ2 => ?_)))))))))
        · rintro t1 h
          unfold r01_At_j2 at h
          refine WL_nil (N_then (W_cond (b := t1) (by kernel_rfl) (fun e3 => ?_) (fun e3 => ?_)))
          · replace h := ite_t e3 h
            refine W_seq (W_region (WL_allC hE [4] [4] [] (orc := []) (by kernel_rfl) .n (N_then (W_ret (N_then_ret ?_)))))
            cases h
            exact N_end (.inl rfl) (by kernel_rfl)
          · replace h := ite_f e3 h
            refine W_skip (N_then (W_seq (W_seq (W_region (WL_allI hE (orc := []) (by kernel_rfl) .n (N_then (W_block (W_loop (α := (Int × Int)) (fun n z => r01_At_l1 k long1 s1 at1 n z.1 z.2 = some rz) (fun z => ⟨[(0, SS s1), (1, I64 at1), (4, .ptr 4 0), (6, I64 long1), (7, I32 (z.1)), (8, .ptr 8 0), (9, I64 (z.2))], [(4, .cells [I32 (0 : Int), I64 (0 : Int), I64 (0 : Int), BB false] 35), (8, .cells [I32 (65533 : Int), I64 at1, I64 (1 : Int), BB true] 35)], []⟩) ?_ (k := k) (x := (r1, (1 : Int))) h))))))))
            clear h
            rintro fuel1 ⟨r2, i1⟩ h
            cases fuel1 with
            | zero => exact absurd (show none = some _ from h) (by simp)
            | succ fuel1 =>
              have h : r01_At_b1 k long1 s1 at1 (r01_At_l1 k long1 s1 at1 fuel1) r2 i1 = some rz := h
              unfold r01_At_b1 at h
              refine W_seq (W_seq (W_region (WL_allC hE [0, 1, 4, 6, 7, 8, 9, 65] [4, 8] [] (orc := []) (by kernel_rfl) .n (N_then (W_cond (b := decide (i1 < long1)) (by kernel_rfl) (fun e4 => ?_) (fun e4 => ?_))))))
              · replace h := ite_t e4 h
                refine W_skip (N_then (W_seq (W_block (W_seq (W_seq (W_region ?_))))))
                obtain ⟨b2, e5, h⟩ := bind_some h
                obtain ⟨v1, e6, h⟩ := bind_some h
                refine WL_allC hE [0, 1, 4, 6, 7, 8, 9, 74] [4, 8] [] (orc := [tU8 b2, tB v1]) (by kernel_rfl) (.c e5 (.c e6 .n)) (N_then (W_cond (b := !v1) (by kernel_rfl) (fun e7 => ?_) (fun e7 => ?_)))
                · replace h := ite_t e7 h
                  refine W_seq (W_region (WL_allC hE [4] [4] [] (orc := []) (by kernel_rfl) .n (N_then (W_ret (N_then_ret (N_block_ret (N_then_ret (N_then_ret (N_block_ret (N_then_ret ?_))))))))))
                  cases h
                  exact N_end (.inl rfl) (by kernel_rfl)
                · replace h := ite_f e7 h
                  refine W_skip (N_then (W_region ?_))
                  obtain ⟨b3, e8, h⟩ := bind_some h
                  exact WL_allI hE (st' := ⟨[(0, SS s1), (1, I64 at1), (4, .ptr 4 0), (6, I64 long1), (7, I32 (wi32 ((wi32 ((64 : Int) * r2)) + (wi32 (wu8 (b3 - (128 : Int))))))), (8, .ptr 8 0), (9, I64 i1)], [(4, .cells [I32 (0 : Int), I64 (0 : Int), I64 (0 : Int), BB false] 35), (8, .cells [I32 (65533 : Int), I64 at1, I64 (1 : Int), BB true] 35)], []⟩) (orc := [tU8 b3]) (by kernel_rfl) (.c e8 .n) (N_block (N_then (W_region (WL_allI hE (orc := []) (by kernel_rfl) .n (N_round (wi32 ((wi32 ((64 : Int) * r2)) + (wi32 (wu8 (b3 - (128 : Int))))), wi64 (i1 + (1 : Int))) (Nat.lt_succ_self _) h)))))
              · replace h := ite_f e4 h
                refine W_exit (N_then_exit (N_then_exit (N_block_exit (N_then (W_seq (W_region (WL_allC hE [1, 4, 6, 7, 8, 10] [4, 8] [86] (orc := []) (by kernel_rfl) .n (N_then (W_seq (W_seq (W_region ?_)))))))))))
                obtain ⟨x1, e9, h⟩ := bind_some h
                refine WL_tkC hE 7 [1, 4, 6, 7, 8, 93] [4, 8] [] (orc := [tI32 x1, tI32 x1]) (by kernel_rfl) (.c e9 (.c e9 .n)) (WL_join (α := Bool) (fun z => r01_At_j3 at1 r2 long1 z = some rz) (fun t2 => ⟨[(1, I64 at1), (4, .ptr 4 0), (6, I64 long1), (7, I32 r2), (8, .ptr 8 0), (97, BB t2)], [(4, .cells [I32 (0 : Int), I64 (0 : Int), I64 (0 : Int), BB false] 35), (8, .cells [I32 (65533 : Int), I64 at1, I64 (1 : Int), BB true] 35)], []⟩) 4 ?_ (fun hJ3 => ?_))
                · rintro t2 h
                  unfold r01_At_j3 at h
                  refine WL_nil (N_then (W_cond (b := t2) (by kernel_rfl) (fun e10 => ?_) (fun e10 => ?_)))
                  · replace h := ite_t e10 h
                    refine W_seq (W_region (WL_allC hE [4] [4] [] (orc := []) (by kernel_rfl) .n (N_then (W_ret (N_then_ret ?_)))))
                    cases h
                    exact N_end (.inl rfl) (by kernel_rfl)
                  · replace h := ite_f e10 h
                    refine W_skip (N_then (W_seq (W_region (WL_allC hE [4] [4] [] (orc := []) (by kernel_rfl) .n (N_then (W_ret ?_))))))
                    cases h
                    exact N_end (.inl rfl) (by kernel_rfl)
                refine WL_splitC 93 (b := decide (r2 < x1)) (by kernel_rfl) (fun e11 => ?_) (fun e11 => ?_)
                · replace h := ite_t e11 h
                  exact WL_allI hE (orc := []) (by kernel_rfl) .n (hJ3 true h)
                · replace h := ite_f e11 h
                  obtain ⟨v2, e12, h⟩ := bind_some h
                  exact WL_allI hE (orc := [tB v2]) (by kernel_rfl) (.c e12 .n) (hJ3 (!v2) h)
        refine WL_splitC 54 (b := long1 == (0 : Int)) (by kernel_rfl) (fun e13 => ?_) (fun e13 => ?_)
        · rw [or_t e13] at h
          exact WL_allI hE (orc := []) (by kernel_rfl) .n (hJ2 true h)
        · rw [or_f e13] at h
          exact WL_allI hE (orc := []) (by kernel_rfl) .n (hJ2 (decide ((List.length s1 : Int) < (wi64 (at1 + long1)))) h)
      refine W_block (W_seq (W_region (WL_tkC hE 3 [0, 1, 4, 5, 6, 7, 23] [4] [] (orc := []) (by kernel_rfl) .n (WL_join (α := Bool) (fun z => r01_At_j4 k at1 s1 b1 z = some rz) (fun t3 => ⟨[(0, SS s1), (1, I64 at1), (4, .ptr 4 0), (5, U8 b1), (6, I64 (0 : Int)), (7, I32 (0 : Int)), (26, BB t3)], [(4, .cells [I32 (0 : Int), I64 (0 : Int), I64 (0 : Int), BB false] 35)], []⟩) 3 ?_ (fun hJ4 => ?_)))))
      · rintro t3 h
        unfold r01_At_j4 at h
        refine WL_allC hE [0, 1, 4, 5, 6, 7, 20] [4] [] (orc := []) (by kernel_rfl) .n (N_then (W_cond (b := t3) (by kernel_rfl) (fun e14 => ?_) (fun e14 => ?_)))
        · replace h := ite_t e14 h
          exact W_seq (W_region (WL_allC hE [0, 1, 4, 5, 6] [4] [] (orc := []) (by kernel_rfl) .n (N_then (W_region (WL_allI hE (orc := []) (by kernel_rfl) .n (N_block (hJ3 ((2 : Int), wi32 (wu8 (b1 - (192 : Int)))) h)))))))
        · replace h := ite_f e14 h
          refine W_seq (W_region (WL_tkC hE 3 [0, 1, 4, 5, 6, 7, 33] [4] [] (orc := []) (by kernel_rfl) .n (WL_join (α := Bool) (fun z => r01_At_j5 k at1 s1 b1 z = some rz) (fun t4 => ⟨[(0, SS s1), (1, I64 at1), (4, .ptr 4 0), (5, U8 b1), (6, I64 (0 : Int)), (7, I32 (0 : Int)), (36, BB t4)], [(4, .cells [I32 (0 : Int), I64 (0 : Int), I64 (0 : Int), BB false] 35)], []⟩) 3 ?_ (fun hJ5 => ?_))))
          · rintro t4 h
            unfold r01_At_j5 at h
            refine WL_allC hE [0, 1, 4, 5, 6, 7, 30] [4] [] (orc := []) (by kernel_rfl) .n (N_then (W_cond (b := t4) (by kernel_rfl) (fun e15 => ?_) (fun e15 => ?_)))
            · replace h := ite_t e15 h
              exact W_seq (W_region (WL_allC hE [0, 1, 4, 5, 6] [4] [] (orc := []) (by kernel_rfl) .n (N_then (W_region (WL_allI hE (orc := []) (by kernel_rfl) .n (N_block (hJ3 ((3 : Int), wi32 (wu8 (b1 - (224 : Int)))) h)))))))
            · replace h := ite_f e15 h
              refine W_seq (W_region (WL_tkC hE 3 [0, 1, 4, 5, 6, 7, 43] [4] [] (orc := []) (by kernel_rfl) .n (WL_join (α := Bool) (fun z => r01_At_j6 k at1 s1 b1 z = some rz) (fun t5 => ⟨[(0, SS s1), (1, I64 at1), (4, .ptr 4 0), (5, U8 b1), (6, I64 (0 : Int)), (7, I32 (0 : Int)), (46, BB t5)], [(4, .cells [I32 (0 : Int), I64 (0 : Int), I64 (0 : Int), BB false] 35)], []⟩) 3 ?_ (fun hJ6 => ?_))))
              · rintro t5 h
                unfold r01_At_j6 at h
                refine WL_allC hE [0, 1, 4, 5, 6, 7, 40] [4] [] (orc := []) (by kernel_rfl) .n (N_then (W_cond (b := t5) (by kernel_rfl) (fun e16 => ?_) (fun e16 => ?_)))
                · replace h := ite_t e16 h
                  exact W_seq (W_region (WL_allC hE [0, 1, 4, 5, 6] [4] [] (orc := []) (by kernel_rfl) .n (N_then (W_region (WL_allI hE (orc := []) (by kernel_rfl) .n (N_block (hJ3 ((4 : Int), wi32 (wu8 (b1 - (240 : Int)))) h)))))))
                · replace h := ite_f e16 h
                  exact W_skip (N_block (N_normI (by kernel_rfl) (hJ3 ((0 : Int), (0 : Int)) h)))
              refine WL_splitC 43 (b := decide ((240 : Int) ≤ b1)) (by kernel_rfl) (fun e17 => ?_) (fun e17 => ?_)
              · rw [and_t e17] at h
                exact WL_allI hE (orc := []) (by kernel_rfl) .n (hJ6 (decide (b1 < (248 : Int))) h)
              · rw [and_f e17] at h
                exact WL_allI hE (orc := []) (by kernel_rfl) .n (hJ6 false h)
          refine WL_splitC 33 (b := decide ((224 : Int) ≤ b1)) (by kernel_rfl) (fun e18 => ?_) (fun e18 => ?_)
          · rw [and_t e18] at h
            exact WL_allI hE (orc := []) (by kernel_rfl) .n (hJ5 (decide (b1 < (240 : Int))) h)
          · rw [and_f e18] at h
            exact WL_allI hE (orc := []) (by kernel_rfl) .n (hJ5 false h)
      refine WL_splitC 23 (b := decide ((192 : Int) ≤ b1)) (by kernel_rfl) (fun e19 => ?_) (fun e19 => ?_)
      · rw [and_t e19] at h
        exact WL_allI hE (orc := []) (by kernel_rfl) .n (hJ4 (decide (b1 < (224 : Int))) h)
      · rw [and_f e19] at h
        exact WL_allI hE (orc := []) (by kernel_rfl) .n (hJ4 false h)

def C_r01_All (k : Nat) : FnC := ⟨false, 1, [], fun | [⟨.str, s1⟩], [⟨(.sl (.pair (.int .i32) (.pair (.int .i64) (.pair (.int .i64) (.pair .bool .unit))))), rz⟩] => r01_All k s1 = some rz | _, _ => False⟩
noncomputable def E_r01_All (k : Nat) : Env := ⟨Tryd.prog, Gu, 22, [(51, C_r01_At k)]⟩
theorem c_r01_All (k : Nat) : Contract Tryd.prog Gu 33 (C_r01_All k) := by
  refine contract_of Gu_stable (fn := Tryd.f33) Tryd.func33 (by kernel_rfl) rfl ?_ ?_
  · intro xs rs h
    unfold C_r01_All at h
    simp only at h
    split at h
    · exact ⟨by show 1 ≤ _; rw [Tryd.ntmps33]; decide, rfl, fun hf => by cases hf⟩
    · exact h.elim
  · intro w0 M xs rs hG h
    unfold C_r01_All at h
    simp only at h
    split at h
    case h_2 => exact h.elim
    rename_i s1 rz
    change List UInt8 at s1
    change List ((Int × Int × Int × Bool × Unit)) at rz
    have hE : EnvOK (E_r01_All k) ⟨Tryd.prog, Tryd.f33.ntmps, w0, M, fun _ => False, fun _ => undef⟩ := (EnvOK.cons (c_r01_At k) (EnvOK.nil rfl Tryd.ntmps33 hG))
    unfold r01_All at h
    refine W_seq (W_region (WL_allC hE [0] [] [] (orc := []) (by kernel_rfl) .n (N_then (W_seq (W_region (WL_allC hE [0, 3] [] [3] (orc := []) (by kernel_rfl) .n (N_then (W_seq (W_region (WL_allI hE (orc := []) (by kernel_rfl) .n (N_then (W_seq (W_block (W_loop (α := (Int × List ((Int × Int × Int × Bool × Unit)))) (fun n z => r01_All_l1 k s1 n z.1 z.2 = some rz) (fun z => ⟨[(0, SS s1), (3, .row 3), (4, I64 (z.1))], [], [(3, ⟨35, (.pair (.int .i32) (.pair (.int .i64) (.pair (.int .i64) (.pair .bool .unit)))), (z.2)⟩)]⟩) ?_ (k := k) (x := ((0 : Int), ([] : List ((Int × Int × Int × Bool × Unit))))) h))))))))))))))
    clear h
    rintro fuel1 ⟨at1, out1⟩ h
    cases fuel1 with
    | zero => exact absurd (show none = some _ from h) (by simp)
    | succ fuel1 =>
      have h : r01_All_b1 k s1 (r01_All_l1 k s1 fuel1) at1 out1 = some rz := h
      unfold r01_All_b1 at h
      refine W_seq (W_seq (W_region (WL_allC hE [0, 3, 4, 9] [] [3] (orc := []) (by kernel_rfl) .n (N_then (W_cond (b := decide (at1 < (List.length s1 : Int))) (by kernel_rfl) (fun e1 => ?_) (fun e1 => ?_))))))
      · replace h := ite_t e1 h
        refine W_skip (N_then (W_block (W_seq (W_region ?_))))
        obtain ⟨v1, e2, h⟩ := bind_some h
        refine WL_allC hE [0, 3, 4, 5] [5] [3] (orc := [⟨(.pair (.int .i32) (.pair (.int .i64) (.pair (.int .i64) (.pair .bool .unit)))), v1⟩]) (by kernel_rfl) (.c e2 .n) (N_then (W_seq (W_region ?_)))
        obtain ⟨_, e3, h⟩ := bind_some h
        replace e3 := chk_some e3
        exact WL_allC hE [0, 3, 4, 5] [5] [3] (orc := []) (by kernel_rfl) (.c e3 .n) (N_then (W_region (WL_allI hE (orc := []) (by kernel_rfl) .n (N_block (N_round (wi64 (at1 + v1.2.2.1), out1 ++ ([(v1.1, v1.2.1, v1.2.2.1, v1.2.2.2.1, ())] : List ((Int × Int × Int × Bool × Unit)))) (Nat.lt_succ_self _) h)))))
      · replace h := ite_f e1 h
        refine W_exit (N_then_exit (N_then_exit (N_block_exit (N_then (W_seq (W_region (WL_allI hE (st' := ⟨[(2, .row 3)], [], [(3, ⟨35, (.pair (.int .i32) (.pair (.int .i64) (.pair (.int .i64) (.pair .bool .unit)))), out1⟩)]⟩) (orc := []) (by kernel_rfl) .n (N_then (W_ret ?_)))))))))
        cases h
        exact N_end (.inl rfl) (by kernel_rfl)

def C_r01_sixteen (k : Nat) : FnC := ⟨true, 1, [], fun | [⟨(.int .i64), n1⟩], [⟨.str, rz⟩] => r01_sixteen k n1 = some rz | _, _ => False⟩
noncomputable def E_r01_sixteen (k : Nat) : Env := ⟨Tryd.prog, Gu, 7, []⟩
theorem c_r01_sixteen (k : Nat) : Contract Tryd.prog Gu 68 (C_r01_sixteen k) := by
  refine contract_of Gu_stable (fn := Tryd.f68) Tryd.func68 (by kernel_rfl) rfl ?_ ?_
  · intro xs rs h
    unfold C_r01_sixteen at h
    simp only at h
    split at h
    · exact ⟨by show 1 ≤ _; rw [Tryd.ntmps68]; decide, rfl, fun _ u hu => by simp at hu; (rcases hu with rfl) <;> rfl⟩
    · exact h.elim
  · intro w0 M xs rs hG h
    unfold C_r01_sixteen at h
    simp only at h
    split at h
    case h_2 => exact h.elim
    rename_i n1 rz
    change Int at n1
    change List UInt8 at rz
    have hE : EnvOK (E_r01_sixteen k) ⟨Tryd.prog, Tryd.f68.ntmps, w0, M, fun _ => False, fun _ => undef⟩ := (EnvOK.nil rfl Tryd.ntmps68 hG)
    unfold r01_sixteen at h
    refine W_seq (W_region (WL_allC hE [0] [] [] (orc := []) (by kernel_rfl) .n (N_then (W_seq (W_region ?_)))))
    obtain ⟨s1, e1, h⟩ := bind_some h
    refine WL_allC hE [2] [] [] (orc := [tS s1]) (by kernel_rfl) (.c e1 .n) (N_then (W_ret ?_))
    cases h
    exact N_end (.inl rfl) (by kernel_rfl)

def C_r01_number (k : Nat) : FnC := ⟨true, 1, [], fun | [⟨(.int .i64), n1⟩], [⟨.str, rz⟩] => r01_number k n1 = some rz | _, _ => False⟩
noncomputable def E_r01_number (k : Nat) : Env := ⟨Tryd.prog, Gu, 14, [(68, C_r01_sixteen k), (64, C_r01_number k)]⟩
theorem c_r01_number : ∀ (k : Nat), Contract Tryd.prog Gu 64 (C_r01_number k) := by
  intro k
  induction k with
  | zero =>
    refine contract_of Gu_stable (fn := Tryd.f64) Tryd.func64 (by kernel_rfl) rfl ?_ ?_
    · intro xs rs h
      unfold C_r01_number at h
      simp only at h
      split at h
      · exact ⟨by show 1 ≤ _; rw [Tryd.ntmps64]; decide, rfl, fun _ u hu => by simp at hu; (rcases hu with rfl) <;> rfl⟩
      · exact h.elim
    · intro w0 M xs rs hG h
      unfold C_r01_number at h
      simp only at h
      split at h
      case h_2 => exact h.elim
      exact absurd (show none = some _ from h) (by simp)
  | succ k ih =>
    refine contract_of Gu_stable (fn := Tryd.f64) Tryd.func64 (by kernel_rfl) rfl ?_ ?_
    · intro xs rs h
      unfold C_r01_number at h
      simp only at h
      split at h
      · exact ⟨by show 1 ≤ _; rw [Tryd.ntmps64]; decide, rfl, fun _ u hu => by simp at hu; (rcases hu with rfl) <;> rfl⟩
      · exact h.elim
    · intro w0 M xs rs hG h
      unfold C_r01_number at h
      simp only at h
      split at h
      case h_2 => exact h.elim
      rename_i n1 rz
      change Int at n1
      change List UInt8 at rz
      have hE : EnvOK (E_r01_number k) ⟨Tryd.prog, Tryd.f64.ntmps, w0, M, fun _ => False, fun _ => undef⟩ := (EnvOK.cons (c_r01_sixteen k) (EnvOK.cons (ih) (EnvOK.nil rfl Tryd.ntmps64 hG)))
      unfold r01_number at h
      refine W_seq (W_region (WL_allC hE [0] [] [] (orc := []) (by kernel_rfl) .n (N_then (W_seq (W_seq (W_region (WL_allC hE [0, 4] [] [] (orc := []) (by kernel_rfl) .n (N_then (W_cond (b := decide (n1 < (16 : Int))) (by kernel_rfl) (fun e1 => ?_) (fun e1 => ?_))))))))))
      · replace h := ite_t e1 h
        refine W_seq (W_region ?_)
        obtain ⟨v1, e2, h⟩ := bind_some h
        refine WL_allC hE [2] [] [] (orc := [tS v1]) (by kernel_rfl) (.c e2 .n) (N_then (W_ret (N_then_ret ?_)))
        cases h
        exact N_end (.inl rfl) (by kernel_rfl)
      · replace h := ite_f e1 h
        refine W_skip (N_then (W_seq (W_region ?_)))
        obtain ⟨_, e3, h⟩ := bind_some h
        replace e3 := chk_some e3
        obtain ⟨v2, e4, h⟩ := bind_some h
        obtain ⟨_, e5, h⟩ := bind_some h
        replace e5 := chk_some e5
        obtain ⟨v3, e6, h⟩ := bind_some h
        obtain ⟨_, e7, h⟩ := bind_some h
        replace e7 := chk_some e7
        refine WL_allI hE (st' := ⟨[(2, SS (v2 ++ v3))], [], []⟩) (orc := [tS v2, tS v3]) (by kernel_rfl) (.c e3 (.c e4 (.c e5 (.c e6 (.c e7 .n))))) (N_then (W_ret ?_))
        cases h
        exact N_end (.inl rfl) (by kernel_rfl)

def C_r01_shown (k : Nat) : FnC := ⟨true, 1, [], fun | [⟨.str, s1⟩, ⟨(.pair (.int .i32) (.pair (.int .i64) (.pair (.int .i64) (.pair .bool .unit)))), p1⟩], [⟨.str, rz⟩] => r01_shown k s1 p1 = some rz | _, _ => False⟩
noncomputable def E_r01_shown (k : Nat) : Env := ⟨Tryd.prog, Gu, 58, [(68, C_r01_sixteen k), (64, C_r01_number k)]⟩
theorem c_r01_shown (k : Nat) : Contract Tryd.prog Gu 57 (C_r01_shown k) := by
  refine contract_of Gu_stable (fn := Tryd.f57) Tryd.func57 (by kernel_rfl) rfl ?_ ?_
  · intro xs rs h
    unfold C_r01_shown at h
    simp only at h
    split at h
    · exact ⟨by show 2 ≤ _; rw [Tryd.ntmps57]; decide, rfl, fun _ u hu => by simp at hu; (rcases hu with rfl) <;> rfl⟩
    · exact h.elim
  · intro w0 M xs rs hG h
    unfold C_r01_shown at h
    simp only at h
    split at h
    case h_2 => exact h.elim
    rename_i s1 p1 rz
    change List UInt8 at s1
    change (Int × Int × Int × Bool × Unit) at p1
    change List UInt8 at rz
    have hE : EnvOK (E_r01_shown k) ⟨Tryd.prog, Tryd.f57.ntmps, w0, M, fun _ => False, fun _ => undef⟩ := (EnvOK.cons (c_r01_sixteen k) (EnvOK.cons (c_r01_number k) (EnvOK.nil rfl Tryd.ntmps57 hG)))
    unfold r01_shown at h
    refine W_seq (W_region (WL_allC hE [0, 3] [3] [] (orc := []) (by kernel_rfl) .n (N_then (W_seq (W_region ?_)))))
    obtain ⟨b1, e1, h⟩ := bind_some h
    refine WL_allC hE [0, 3, 5] [3] [] (orc := [tU8 b1]) (by kernel_rfl) (.c e1 .n) (N_then (W_seq (W_block (W_seq (W_region (WL_allC hE [0, 3, 5, 10] [3] [] (orc := []) (by kernel_rfl) .n (N_then (W_cond (b := p1.2.2.2.1) (by kernel_rfl) (fun e2 => ?_) (fun e2 => ?_)))))))))
    · replace h := ite_t e2 h
      refine W_seq (W_region ?_)
      obtain ⟨_, e3, h⟩ := bind_some h
      replace e3 := chk_some e3
      obtain ⟨v1, e4, h⟩ := bind_some h
      obtain ⟨_, e5, h⟩ := bind_some h
      replace e5 := chk_some e5
      obtain ⟨_, e6, h⟩ := bind_some h
      replace e6 := chk_some e6
      obtain ⟨v2, e7, h⟩ := bind_some h
      obtain ⟨_, e8, h⟩ := bind_some h
      replace e8 := chk_some e8
      refine WL_allI hE (st' := ⟨[(4, SS ((([92, 120] : List UInt8) ++ v1) ++ v2))], [], []⟩) (orc := [tS v1, tS v2]) (by kernel_rfl) (.c e3 (.c e4 (.c e5 (.c e6 (.c e7 (.c e8 .n)))))) (N_then (W_ret (N_block_ret (N_then_ret ?_))))
      cases h
      exact N_end (.inl rfl) (by kernel_rfl)
    · replace h := ite_f e2 h
      refine W_seq (W_region (WL_tkC hE 3 [0, 3, 5, 26] [3] [] (orc := []) (by kernel_rfl) .n (WL_join (α := Bool) (fun z => r01_shown_j1 k s1 p1 b1 z = some rz) (fun t1 => ⟨[(0, SS s1), (3, .ptr 3 0), (5, U8 b1), (29, BB t1)], [(3, .cells [I32 p1.1, I64 p1.2.1, I64 p1.2.2.1, BB p1.2.2.2.1] 35)], []⟩) 3 ?_ (fun hJ1 => ?_))))
      · rintro t1 h
        unfold r01_shown_j1 at h
        refine WL_allC hE [0, 3, 5, 23] [3] [] (orc := []) (by kernel_rfl) .n (N_then (W_cond (b := t1) (by kernel_rfl) (fun e9 => ?_) (fun e9 => ?_)))
        · replace h := ite_t e9 h
          refine W_seq (W_region ?_)
          obtain ⟨s2, e10, h⟩ := bind_some h
          obtain ⟨_, e11, h⟩ := bind_some h
          replace e11 := chk_some e11
          refine WL_allC hE [4] [] [] (orc := [tS s2]) (by kernel_rfl) (.c e10 (.c e11 .n)) (N_then (W_ret (N_block_ret (N_then_ret ?_))))
          cases h
          exact N_end (.inl rfl) (by kernel_rfl)
        · replace h := ite_f e9 h
          refine W_seq (W_region (WL_tkC hE 3 [0, 3, 5, 41] [3] [] (orc := []) (by kernel_rfl) .n (WL_join (α := Bool) (fun z => r01_shown_j2 k s1 p1 z = some rz) (fun t2 => ⟨[(0, SS s1), (3, .ptr 3 0), (44, BB t2)], [(3, .cells [I32 p1.1, I64 p1.2.1, I64 p1.2.2.1, BB p1.2.2.2.1] 35)], []⟩) 3 ?_ (fun hJ2 => ?_))))
          · rintro t2 h
            unfold r01_shown_j2 at h
            refine WL_allC hE [0, 3, 38] [3] [] (orc := []) (by kernel_rfl) .n (N_then (W_cond (b := t2) (by kernel_rfl) (fun e12 => ?_) (fun e12 => ?_)))
            · replace h := ite_t e12 h
              refine W_seq (W_region ?_)
              obtain ⟨s3, e13, h⟩ := bind_some h
              refine WL_allC hE [4] [] [] (orc := [tS s3]) (by kernel_rfl) (.c e13 .n) (N_then (W_ret (N_block_ret (N_then_ret ?_))))
              cases h
              exact N_end (.inl rfl) (by kernel_rfl)
            · replace h := ite_f e12 h
              refine W_skip (N_block (N_then (W_seq (W_region ?_))))
              obtain ⟨v3, e14, h⟩ := bind_some h
              obtain ⟨_, e15, h⟩ := bind_some h
              replace e15 := chk_some e15
              obtain ⟨_, e16, h⟩ := bind_some h
              replace e16 := chk_some e16
              refine WL_allC hE [4] [] [] (orc := [tS v3]) (by kernel_rfl) (.c e14 (.c e15 (.c e16 .n))) (N_then (W_ret ?_))
              cases h
              exact N_end (.inl rfl) (by kernel_rfl)
          refine WL_splitC 41 (b := decide ((32 : Int) ≤ b1)) (by kernel_rfl) (fun e17 => ?_) (fun e17 => ?_)
          · rw [and_t e17] at h
            exact WL_allI hE (orc := []) (by kernel_rfl) .n (hJ2 (decide (b1 ≤ (126 : Int))) h)
          · rw [and_f e17] at h
            exact WL_allI hE (orc := []) (by kernel_rfl) .n (hJ2 false h)
      refine WL_splitC 26 (b := b1 == (34 : Int)) (by kernel_rfl) (fun e18 => ?_) (fun e18 => ?_)
      · rw [or_t e18] at h
        exact WL_allI hE (orc := []) (by kernel_rfl) .n (hJ1 true h)
      · rw [or_f e18] at h
        exact WL_allI hE (orc := []) (by kernel_rfl) .n (hJ1 (b1 == (92 : Int)) h)

def C_r01_quote (k : Nat) : FnC := ⟨true, 1, [], fun | [⟨.str, s1⟩], [⟨.str, rz⟩] => r01_quote k s1 = some rz | _, _ => False⟩
noncomputable def E_r01_quote (k : Nat) : Env := ⟨Tryd.prog, Gu, 28, [(33, C_r01_All k), (57, C_r01_shown k)]⟩
theorem c_r01_quote (k : Nat) : Contract Tryd.prog Gu 44 (C_r01_quote k) := by
  refine contract_of Gu_stable (fn := Tryd.f44) Tryd.func44 (by kernel_rfl) rfl ?_ ?_
  · intro xs rs h
    unfold C_r01_quote at h
    simp only at h
    split at h
    · exact ⟨by show 1 ≤ _; rw [Tryd.ntmps44]; decide, rfl, fun _ u hu => by simp at hu; (rcases hu with rfl) <;> rfl⟩
    · exact h.elim
  · intro w0 M xs rs hG h
    unfold C_r01_quote at h
    simp only at h
    split at h
    case h_2 => exact h.elim
    rename_i s1 rz
    change List UInt8 at s1
    change List UInt8 at rz
    have hE : EnvOK (E_r01_quote k) ⟨Tryd.prog, Tryd.f44.ntmps, w0, M, fun _ => False, fun _ => undef⟩ := (EnvOK.cons (c_r01_All k) (EnvOK.cons (c_r01_shown k) (EnvOK.nil rfl Tryd.ntmps44 hG)))
    unfold r01_quote at h
    refine W_seq (W_region (WL_allC hE [0] [] [] (orc := []) (by kernel_rfl) .n (N_then (W_seq (W_region (WL_allC hE [0, 3] [] [6] (orc := []) (by kernel_rfl) .n (N_then (W_seq (W_region ?_)))))))))
    obtain ⟨v1, e1, h⟩ := bind_some h
    refine WL_allC hE [0, 3, 4] [] [6] (orc := [⟨(.sl (.pair (.int .i32) (.pair (.int .i64) (.pair (.int .i64) (.pair .bool .unit))))), v1⟩]) (by kernel_rfl) (.c e1 .n) (N_then (W_seq (W_seq (W_region (WL_allI hE (orc := []) (by kernel_rfl) .n (N_then (W_block (W_loop (α := (Int × List (Int))) (fun n z => r01_quote_l1 k v1 s1 n z.1 z.2 = some rz) (fun z => ⟨[(0, SS s1), (3, .row 6), (4, .val (.sl (.pair (.int .i32) (.pair (.int .i64) (.pair (.int .i64) (.pair .bool .unit))))) v1), (5, I64 (z.1))], [], [(6, ⟨5, (.int .u8), (z.2)⟩)]⟩) ?_ (k := k) (x := ((0 : Int), ([(34 : Int)] : List (Int)))) h))))))))
    clear h
    rintro fuel1 ⟨i1, t1⟩ h
    cases fuel1 with
    | zero => exact absurd (show none = some _ from h) (by simp)
    | succ fuel1 =>
      have h : r01_quote_b1 k v1 s1 (r01_quote_l1 k v1 s1 fuel1) i1 t1 = some rz := h
      unfold r01_quote_b1 at h
      refine W_seq (W_seq (W_region (WL_allC hE [0, 3, 4, 5, 12] [] [6] (orc := []) (by kernel_rfl) .n (N_then (W_cond (b := decide (i1 < (List.length v1 : Int))) (by kernel_rfl) (fun e2 => ?_) (fun e2 => ?_))))))
      · replace h := ite_t e2 h
        refine W_skip (N_then (W_seq (W_block (W_region ?_))))
        obtain ⟨x1, e3, h⟩ := bind_some h
        obtain ⟨v2, e4, h⟩ := bind_some h
        obtain ⟨_, e5, h⟩ := bind_some h
        replace e5 := chk_some e5
        exact WL_allC hE [0, 3, 4, 5] [] [6] (orc := [⟨(.pair (.int .i32) (.pair (.int .i64) (.pair (.int .i64) (.pair .bool .unit)))), x1⟩, tS v2]) (by kernel_rfl) (.c e3 (.c e4 (.c e5 .n))) (N_block (N_then (W_region (WL_allI hE (orc := []) (by kernel_rfl) .n (N_round (wi64 (i1 + (1 : Int)), t1 ++ (bytesEl v2)) (Nat.lt_succ_self _) h)))))
      · replace h := ite_f e2 h
        refine W_exit (N_then_exit (N_then_exit (N_block_exit (N_then (W_seq (W_region ?_))))))
        obtain ⟨_, e6, h⟩ := bind_some h
        replace e6 := chk_some e6
        refine WL_allI hE (st' := ⟨[(3, .row 6)], [], [(6, ⟨5, (.int .u8), t1 ++ ([(34 : Int)] : List (Int))⟩)]⟩) (orc := []) (by kernel_rfl) (.c e6 .n) (N_then (W_seq (W_region (WL_allC hE [2] [] [] (orc := []) (by kernel_rfl) .n (N_then (W_ret ?_))))))
        cases h
        exact N_end (.inl rfl) (by kernel_rfl)

def C_r01_Quote (k : Nat) : FnC := ⟨true, 2, [], fun | [⟨.str, s1⟩], [⟨.str, rz1⟩, ⟨(.int .i64), rz2⟩] => r01_Quote k s1 = some (rz1, rz2) | _, _ => False⟩
noncomputable def E_r01_Quote (k : Nat) : Env := ⟨Tryd.prog, Gu, 9, [(44, C_r01_quote k)]⟩
theorem c_r01_Quote (k : Nat) : Contract Tryd.prog Gu 28 (C_r01_Quote k) := by
  refine contract_of Gu_stable (fn := Tryd.f28) Tryd.func28 (by kernel_rfl) rfl ?_ ?_
  · intro xs rs h
    unfold C_r01_Quote at h
    simp only at h
    split at h
    · exact ⟨by show 1 ≤ _; rw [Tryd.ntmps28]; decide, rfl, fun _ u hu => by simp at hu; (rcases hu with rfl | rfl) <;> rfl⟩
    · exact h.elim
  · intro w0 M xs rs hG h
    unfold C_r01_Quote at h
    simp only at h
    split at h
    case h_2 => exact h.elim
    rename_i s1 rz1 rz2
    change List UInt8 at s1
    change List UInt8 at rz1
    change Int at rz2
    have hE : EnvOK (E_r01_Quote k) ⟨Tryd.prog, Tryd.f28.ntmps, w0, M, fun _ => False, fun _ => undef⟩ := (EnvOK.cons (c_r01_quote k) (EnvOK.nil rfl Tryd.ntmps28 hG))
    unfold r01_Quote at h
    refine W_seq (W_region (WL_allC hE [0] [] [] (orc := []) (by kernel_rfl) .n (N_then (W_seq (W_seq (W_region (WL_allC hE [0, 6] [] [] (orc := []) (by kernel_rfl) .n (N_then (W_cond (b := decide ((65536 : Int) < (List.length s1 : Int))) (by kernel_rfl) (fun e1 => ?_) (fun e1 => ?_))))))))))
    · replace h := ite_t e1 h
      refine W_seq (W_region (WL_allC hE [2, 3] [] [] (orc := []) (by kernel_rfl) .n (N_then (W_ret (N_then_ret ?_)))))
      cases h
      exact N_end (.inl rfl) (by kernel_rfl)
    · replace h := ite_f e1 h
      refine W_skip (N_then (W_seq (W_region ?_)))
      obtain ⟨v1, e2, h⟩ := bind_some h
      refine WL_allI hE (st' := ⟨[(2, SS v1), (3, I64 (0 : Int))], [], []⟩) (orc := [tS v1]) (by kernel_rfl) (.c e2 .n) (N_then (W_ret ?_))
      cases h
      exact N_end (.inl rfl) (by kernel_rfl)

def C_internal_stringslite_HasPrefix (k : Nat) : FnC := ⟨true, 1, [], fun | [⟨.str, s1⟩, ⟨.str, prefix1⟩], [⟨.bool, rz⟩] => internal_stringslite_HasPrefix k s1 prefix1 = some rz | _, _ => False⟩
noncomputable def E_internal_stringslite_HasPrefix (k : Nat) : Env := ⟨Tryd.prog, Gu, 18, []⟩
theorem c_internal_stringslite_HasPrefix (k : Nat) : Contract Tryd.prog Gu 58 (C_internal_stringslite_HasPrefix k) := by
  refine contract_of Gu_stable (fn := Tryd.f58) Tryd.func58 (by kernel_rfl) rfl ?_ ?_
  · intro xs rs h
    unfold C_internal_stringslite_HasPrefix at h
    simp only at h
    split at h
    · exact ⟨by show 2 ≤ _; rw [Tryd.ntmps58]; decide, rfl, fun _ u hu => by simp at hu; (rcases hu with rfl) <;> rfl⟩
    · exact h.elim
  · intro w0 M xs rs hG h
    unfold C_internal_stringslite_HasPrefix at h
    simp only at h
    split at h
    case h_2 => exact h.elim
    rename_i s1 prefix1 rz
    change List UInt8 at s1
    change List UInt8 at prefix1
    change Bool at rz
    have hE : EnvOK (E_internal_stringslite_HasPrefix k) ⟨Tryd.prog, Tryd.f58.ntmps, w0, M, fun _ => False, fun _ => undef⟩ := (EnvOK.nil rfl Tryd.ntmps58 hG)
    unfold internal_stringslite_HasPrefix at h
    refine W_seq (W_region (WL_allC hE [0, 1] [] [] (orc := []) (by kernel_rfl) .n (N_then (W_seq (W_region (WL_tkC hE 6 [0, 1, 10] [] [] (orc := []) (by kernel_rfl) .n (WL_join (α := Bool) (fun z => internal_stringslite_HasPrefix_j1 z = some rz) (fun t1 => ⟨[(17, BB t1)], [], []⟩) 7 ?_ (fun hJ1 => ?_))))))))
    · rintro t1 h
      unfold internal_stringslite_HasPrefix_j1 at h
      refine WL_allC hE [4] [] [] (orc := []) (by kernel_rfl) .n (N_then (W_ret ?_))
      cases h
      exact N_end (.inl rfl) (by kernel_rfl)
    refine WL_splitC 10 (b := decide ((List.length prefix1 : Int) ≤ (List.length s1 : Int))) (by kernel_rfl) (fun e1 => ?_) (fun e1 => ?_)
    · replace h := ite_t e1 h
      obtain ⟨s2, e2, h⟩ := bind_some h
      exact WL_allI hE (orc := [tS s2]) (by kernel_rfl) (.c e2 .n) (hJ1 (s2 == prefix1) h)
    · replace h := ite_f e1 h
      exact WL_allI hE (orc := []) (by kernel_rfl) .n (hJ1 false h)

def C_strings_HasPrefix (k : Nat) : FnC := ⟨true, 1, [], fun | [⟨.str, s1⟩, ⟨.str, prefix1⟩], [⟨.bool, rz⟩] => strings_HasPrefix k s1 prefix1 = some rz | _, _ => False⟩
noncomputable def E_strings_HasPrefix (k : Nat) : Env := ⟨Tryd.prog, Gu, 8, [(58, C_internal_stringslite_HasPrefix k)]⟩
theorem c_strings_HasPrefix (k : Nat) : Contract Tryd.prog Gu 45 (C_strings_HasPrefix k) := by
  refine contract_of Gu_stable (fn := Tryd.f45) Tryd.func45 (by kernel_rfl) rfl ?_ ?_
  · intro xs rs h
    unfold C_strings_HasPrefix at h
    simp only at h
    split at h
    · exact ⟨by show 2 ≤ _; rw [Tryd.ntmps45]; decide, rfl, fun _ u hu => by simp at hu; (rcases hu with rfl) <;> rfl⟩
    · exact h.elim
  · intro w0 M xs rs hG h
    unfold C_strings_HasPrefix at h
    simp only at h
    split at h
    case h_2 => exact h.elim
    rename_i s1 prefix1 rz
    change List UInt8 at s1
    change List UInt8 at prefix1
    change Bool at rz
    have hE : EnvOK (E_strings_HasPrefix k) ⟨Tryd.prog, Tryd.f45.ntmps, w0, M, fun _ => False, fun _ => undef⟩ := (EnvOK.cons (c_internal_stringslite_HasPrefix k) (EnvOK.nil rfl Tryd.ntmps45 hG))
    unfold strings_HasPrefix at h
    refine W_seq (W_region (WL_allC hE [0, 1] [] [] (orc := []) (by kernel_rfl) .n (N_then (W_seq (W_region ?_)))))
    obtain ⟨v1, e1, h⟩ := bind_some h
    refine WL_allC hE [4] [] [] (orc := [tB v1]) (by kernel_rfl) (.c e1 .n) (N_then (W_ret ?_))
    cases h
    exact N_end (.inl rfl) (by kernel_rfl)

def C_strings_trimLeftByte (k : Nat) : FnC := ⟨true, 1, [], fun | [⟨.str, s1⟩, ⟨(.int .u8), c1⟩], [⟨.str, rz⟩] => strings_trimLeftByte k s1 c1 = some rz | _, _ => False⟩
noncomputable def E_strings_trimLeftByte (k : Nat) : Env := ⟨Tryd.prog, Gu, 17, []⟩
theorem c_strings_trimLeftByte (k : Nat) : Contract Tryd.prog Gu 69 (C_strings_trimLeftByte k) := by
  refine contract_of Gu_stable (fn := Tryd.f69) Tryd.func69 (by kernel_rfl) rfl ?_ ?_
  · intro xs rs h
    unfold C_strings_trimLeftByte at h
    simp only at h
    split at h
    · exact ⟨by show 2 ≤ _; rw [Tryd.ntmps69]; decide, rfl, fun _ u hu => by simp at hu; (rcases hu with rfl) <;> rfl⟩
    · exact h.elim
  · intro w0 M xs rs hG h
    unfold C_strings_trimLeftByte at h
    simp only at h
    split at h
    case h_2 => exact h.elim
    rename_i s1 c1 rz
    change List UInt8 at s1
    change Int at c1
    change List UInt8 at rz
    have hE : EnvOK (E_strings_trimLeftByte k) ⟨Tryd.prog, Tryd.f69.ntmps, w0, M, fun _ => False, fun _ => undef⟩ := (EnvOK.nil rfl Tryd.ntmps69 hG)
    unfold strings_trimLeftByte at h
    refine W_seq (W_region (WL_allI hE (orc := []) (by kernel_rfl) .n (N_then (W_seq (W_block (W_loop (α := List UInt8) (fun n z => strings_trimLeftByte_l1 c1 n z = some rz) (fun s2 => ⟨[(0, SS s2), (1, U8 c1)], [], []⟩) ?_ (k := k) (x := s1) h))))))
    clear h
    rintro fuel1 s2 h
    cases fuel1 with
    | zero => exact absurd (show none = some _ from h) (by simp)
    | succ fuel1 =>
      have h : strings_trimLeftByte_b1 c1 (strings_trimLeftByte_l1 c1 fuel1) s2 = some rz := h
      unfold strings_trimLeftByte_b1 at h
      refine W_seq (W_seq (W_region (WL_tkC hE 4 [0, 1, 8] [] [] (orc := []) (by kernel_rfl) .n (WL_join (α := Bool) (fun z => strings_trimLeftByte_j1 s2 (strings_trimLeftByte_l1 c1 fuel1) z = some rz) (fun t1 => ⟨[(0, SS s2), (1, U8 c1), (13, BB t1)], [], []⟩) 5 ?_ (fun hJ1 => ?_)))))
      · rintro t1 h
        unfold strings_trimLeftByte_j1 at h
        refine WL_nil (N_then (W_cond (b := t1) (by kernel_rfl) (fun e1 => ?_) (fun e1 => ?_)))
        · replace h := ite_t e1 h
          refine W_skip (N_then (W_block (W_region ?_)))
          obtain ⟨s3, e2, h⟩ := bind_some h
          exact WL_allI hE (orc := [tS s3]) (by kernel_rfl) (.c e2 .n) (N_block (N_round s3 (Nat.lt_succ_self _) h))
        · replace h := ite_f e1 h
          refine W_exit (N_then_exit (N_then_exit (N_block_exit (N_then (W_seq (W_region (WL_allC hE [4] [] [] (orc := []) (by kernel_rfl) .n (N_then (W_ret ?_)))))))))
          cases h
          exact N_end (.inl rfl) (by kernel_rfl)
      refine WL_splitC 8 (b := decide ((0 : Int) < (List.length s2 : Int))) (by kernel_rfl) (fun e3 => ?_) (fun e3 => ?_)
      · replace h := ite_t e3 h
        obtain ⟨b1, e4, h⟩ := bind_some h
        exact WL_allI hE (orc := [tU8 b1]) (by kernel_rfl) (.c e4 .n) (hJ1 (b1 == c1) h)
      · replace h := ite_f e3 h
        exact WL_allI hE (orc := []) (by kernel_rfl) .n (hJ1 false h)

def C_strings_makeASCIISet (k : Nat) : FnC := ⟨true, 2, [], fun | [⟨.str, chars1⟩], [⟨(.arr 256 .bool), rz1⟩, ⟨.bool, rz2⟩] => strings_makeASCIISet k chars1 = some (rz1, rz2) | _, _ => False⟩
noncomputable def E_strings_makeASCIISet (k : Nat) : Env := ⟨Tryd.prog, Gu, 21, []⟩
theorem c_strings_makeASCIISet (k : Nat) : Contract Tryd.prog Gu 70 (C_strings_makeASCIISet k) := by
  refine contract_of Gu_stable (fn := Tryd.f70) Tryd.func70 (by kernel_rfl) rfl ?_ ?_
  · intro xs rs h
    unfold C_strings_makeASCIISet at h
    simp only at h
    split at h
    · exact ⟨by show 1 ≤ _; rw [Tryd.ntmps70]; decide, rfl, fun _ u hu => by simp at hu; (rcases hu with rfl | rfl) <;> rfl⟩
    · exact h.elim
  · intro w0 M xs rs hG h
    unfold C_strings_makeASCIISet at h
    simp only at h
    split at h
    case h_2 => exact h.elim
    rename_i chars1 rz1 rz2
    change List UInt8 at chars1
    change List (Bool) at rz1
    change Bool at rz2
    have hE : EnvOK (E_strings_makeASCIISet k) ⟨Tryd.prog, Tryd.f70.ntmps, w0, M, fun _ => False, fun _ => undef⟩ := (EnvOK.nil rfl Tryd.ntmps70 hG)
    unfold strings_makeASCIISet at h
    refine W_seq (W_region (WL_allC hE [0, 2] [2] [] (orc := []) (by kernel_rfl) .n (N_then (W_seq (W_seq (W_region (WL_allI hE (orc := []) (by kernel_rfl) .n (N_then (W_block (W_loop (α := (Int × List (Bool))) (fun n z => strings_makeASCIISet_l1 chars1 n z.1 z.2 = some (rz1, rz2)) (fun z => ⟨[(0, SS chars1), (2, .bp 2 []), (4, I64 (z.1))], [(2, .blk (.arr 256 .bool) (z.2) 92)], []⟩) ?_ (k := k) (x := ((0 : Int), (List.replicate 256 false))) h))))))))))
    clear h
    rintro fuel1 ⟨i1, blk1⟩ h
    cases fuel1 with
    | zero => exact absurd (show none = some _ from h) (by simp)
    | succ fuel1 =>
      have h : strings_makeASCIISet_b1 chars1 (strings_makeASCIISet_l1 chars1 fuel1) i1 blk1 = some (rz1, rz2) := h
      unfold strings_makeASCIISet_b1 at h
      refine W_seq (W_seq (W_region (WL_allC hE [0, 2, 4, 9] [2] [] (orc := []) (by kernel_rfl) .n (N_then (W_cond (b := decide (i1 < (List.length chars1 : Int))) (by kernel_rfl) (fun e1 => ?_) (fun e1 => ?_))))))
      · replace h := ite_t e1 h
        refine W_skip (N_then (W_seq (W_block (W_seq (W_region ?_)))))
        obtain ⟨b1, e2, h⟩ := bind_some h
        refine WL_allC hE [0, 2, 4, 5] [2] [] (orc := [tU8 b1]) (by kernel_rfl) (.c e2 .n) (N_then (W_seq (W_seq (W_region (WL_allC hE [0, 2, 4, 5, 16] [2] [] (orc := []) (by kernel_rfl) .n (N_then (W_cond (b := decide ((128 : Int) ≤ b1)) (by kernel_rfl) (fun e3 => ?_) (fun e3 => ?_))))))))
        · replace h := ite_t e3 h
          refine W_seq (W_region (WL_allI hE (st' := ⟨[(2, .bp 2 []), (3, BB false)], [(2, .blk (.arr 256 .bool) blk1 92)], []⟩) (orc := []) (by kernel_rfl) .n (N_then (W_ret (N_then_ret (N_block_ret (N_then_ret (N_then_ret (N_block_ret (N_then_ret ?_))))))))))
          cases h
          exact N_end (.inl rfl) (by kernel_rfl)
        · replace h := ite_f e3 h
          refine W_skip (N_then (W_region ?_))
          obtain ⟨_, e5, h⟩ := bind_some h
          replace e5 := chk_some e5
          obtain ⟨x1, e4, h⟩ := bind_some h
          exact WL_allC hE [0, 2, 4] [2] [] (orc := [tB x1]) (by kernel_rfl) (.c e5 (.c e4 .n)) (N_block (N_then (W_region (WL_allI hE (orc := []) (by kernel_rfl) .n (N_round (wi64 (i1 + (1 : Int)), List.set blk1 (b1).toNat true) (Nat.lt_succ_self _) h)))))
      · replace h := ite_f e1 h
        refine W_exit (N_then_exit (N_then_exit (N_block_exit (N_then (W_seq (W_region (WL_allC hE [2, 3] [2] [] (orc := []) (by kernel_rfl) .n (N_then (W_ret ?_)))))))))
        cases h
        exact N_end (.inl rfl) (by kernel_rfl)

def C_strings_asciiSet_contains (k : Nat) : FnC := ⟨true, 1, [], fun | [⟨(.ptr (.arr 256 .bool)), as1⟩, ⟨(.int .u8), c1⟩], [⟨.bool, rz⟩] => strings_asciiSet_contains k as1 c1 = some rz | _, _ => False⟩
noncomputable def E_strings_asciiSet_contains (k : Nat) : Env := ⟨Tryd.prog, Gu, 10, []⟩
theorem c_strings_asciiSet_contains (k : Nat) : Contract Tryd.prog Gu 78 (C_strings_asciiSet_contains k) := by
  refine contract_of Gu_stable (fn := Tryd.f78) Tryd.func78 (by kernel_rfl) rfl ?_ ?_
  · intro xs rs h
    unfold C_strings_asciiSet_contains at h
    simp only at h
    split at h
    · exact ⟨by show 2 ≤ _; rw [Tryd.ntmps78]; decide, rfl, fun _ u hu => by simp at hu; (rcases hu with rfl) <;> rfl⟩
    · exact h.elim
  · intro w0 M xs rs hG h
    unfold C_strings_asciiSet_contains at h
    simp only at h
    split at h
    case h_2 => exact h.elim
    rename_i as1 c1 rz
    change List (Bool) at as1
    change Int at c1
    change Bool at rz
    have hE : EnvOK (E_strings_asciiSet_contains k) ⟨Tryd.prog, Tryd.f78.ntmps, w0, M, fun _ => False, fun _ => undef⟩ := (EnvOK.nil rfl Tryd.ntmps78 hG)
    unfold strings_asciiSet_contains at h
    refine W_seq (W_region (WL_allC hE [0, 1] [] [] (orc := []) (by kernel_rfl) .n (N_then (W_seq (W_region ?_)))))
    obtain ⟨x1, e1, h⟩ := bind_some h
    refine WL_allC hE [4] [] [] (orc := [tB x1]) (by kernel_rfl) (.c e1 .n) (N_then (W_ret ?_))
    cases h
    exact N_end (.inl rfl) (by kernel_rfl)

def C_strings_trimLeftASCII (k : Nat) : FnC := ⟨true, 1, [], fun | [⟨.str, s1⟩, ⟨(.ptr (.arr 256 .bool)), as1⟩], [⟨.str, rz⟩] => strings_trimLeftASCII k s1 as1 = some rz | _, _ => False⟩
noncomputable def E_strings_trimLeftASCII (k : Nat) : Env := ⟨Tryd.prog, Gu, 16, [(78, C_strings_asciiSet_contains k)]⟩
theorem c_strings_trimLeftASCII (k : Nat) : Contract Tryd.prog Gu 71 (C_strings_trimLeftASCII k) := by
  refine contract_of Gu_stable (fn := Tryd.f71) Tryd.func71 (by kernel_rfl) rfl ?_ ?_
  · intro xs rs h
    unfold C_strings_trimLeftASCII at h
    simp only at h
    split at h
    · exact ⟨by show 2 ≤ _; rw [Tryd.ntmps71]; decide, rfl, fun _ u hu => by simp at hu; (rcases hu with rfl) <;> rfl⟩
    · exact h.elim
  · intro w0 M xs rs hG h
    unfold C_strings_trimLeftASCII at h
    simp only at h
    split at h
    case h_2 => exact h.elim
    rename_i s1 as1 rz
    change List UInt8 at s1
    change List (Bool) at as1
    change List UInt8 at rz
    have hE : EnvOK (E_strings_trimLeftASCII k) ⟨Tryd.prog, Tryd.f71.ntmps, w0, M, fun _ => False, fun _ => undef⟩ := (EnvOK.cons (c_strings_asciiSet_contains k) (EnvOK.nil rfl Tryd.ntmps71 hG))
    unfold strings_trimLeftASCII at h
    refine W_seq (W_region (WL_allC hE [0, 1] [] [] (orc := []) (by kernel_rfl) .n (N_then (W_join (α := List UInt8) (fun z => strings_trimLeftASCII_j1 z = some rz) (fun s2 => ⟨[(0, SS s2)], [], []⟩) ?_ (fun hJ1 => ?_)))))
    · rintro s2 h
      unfold strings_trimLeftASCII_j1 at h
      refine W_seq (W_region (WL_allC hE [4] [] [] (orc := []) (by kernel_rfl) .n (N_then (W_ret ?_))))
      cases h
      exact N_end (.inl rfl) (by kernel_rfl)
    refine W_block (W_normI (by kernel_rfl) (W_loop (α := List UInt8) (fun n z => strings_trimLeftASCII_l1 k as1 n z = some rz) (fun s3 => ⟨[(0, SS s3), (1, .vptr (.arr 256 .bool) as1)], [], []⟩) ?_ (k := k) (x := s1) h))
    clear h
    rintro fuel1 s3 h
    cases fuel1 with
    | zero => exact absurd (show none = some _ from h) (by simp)
    | succ fuel1 =>
      have h : strings_trimLeftASCII_b1 k as1 (strings_trimLeftASCII_l1 k as1 fuel1) s3 = some rz := h
      unfold strings_trimLeftASCII_b1 at h
      refine W_seq (W_seq (W_region (WL_allC hE [0, 1, 7] [] [] (orc := []) (by kernel_rfl) .n (N_then (W_cond (b := decide ((0 : Int) < (List.length s3 : Int))) (by kernel_rfl) (fun e1 => ?_) (fun e1 => ?_))))))
      · replace h := ite_t e1 h
        refine W_skip (N_then (W_block (W_seq (W_seq (W_region ?_)))))
        obtain ⟨b1, e2, h⟩ := bind_some h
        obtain ⟨v1, e3, h⟩ := bind_some h
        refine WL_allC hE [0, 1, 12] [] [] (orc := [tU8 b1, tB v1]) (by kernel_rfl) (.c e2 (.c e3 .n)) (N_then (W_cond (b := !v1) (by kernel_rfl) (fun e4 => ?_) (fun e4 => ?_)))
        · replace h := ite_t e4 h
          exact W_exit (N_then_exit (N_block_out rfl (N_then_exit (N_block_exit (N_normI (by kernel_rfl) (hJ1 s3 h))))))
        · replace h := ite_f e4 h
          refine W_skip (N_then (W_region ?_))
          obtain ⟨s4, e5, h⟩ := bind_some h
          exact WL_allI hE (orc := [tS s4]) (by kernel_rfl) (.c e5 .n) (N_block (N_round s4 (Nat.lt_succ_self _) h))
      · replace h := ite_f e1 h
        exact W_exit (N_then_exit (N_then_exit (N_block_exit (N_normI (by kernel_rfl) (hJ1 s3 h)))))

def C_strings_trimLeftUnicode (k : Nat) : FnC := ⟨true, 1, [], fun | [⟨.str, s1⟩, ⟨.str, cutset1⟩], [⟨.str, rz⟩] => strings_trimLeftUnicode k s1 cutset1 = some rz | _, _ => False⟩
noncomputable def E_strings_trimLeftUnicode (k : Nat) : Env := ⟨Tryd.prog, Gu, 23, []⟩
theorem c_strings_trimLeftUnicode (k : Nat) : Contract Tryd.prog Gu 72 (C_strings_trimLeftUnicode k) := by
  refine contract_of Gu_stable (fn := Tryd.f72) Tryd.func72 (by kernel_rfl) rfl ?_ ?_
  · intro xs rs h
    unfold C_strings_trimLeftUnicode at h
    simp only at h
    split at h
    · exact ⟨by show 2 ≤ _; rw [Tryd.ntmps72]; decide, rfl, fun _ u hu => by simp at hu; (rcases hu with rfl) <;> rfl⟩
    · exact h.elim
  · intro w0 M xs rs hG h
    unfold C_strings_trimLeftUnicode at h
    simp only at h
    split at h
    case h_2 => exact h.elim
    rename_i s1 cutset1 rz
    change List UInt8 at s1
    change List UInt8 at cutset1
    change List UInt8 at rz
    have hE : EnvOK (E_strings_trimLeftUnicode k) ⟨Tryd.prog, Tryd.f72.ntmps, w0, M, fun _ => False, fun _ => undef⟩ := (EnvOK.nil rfl Tryd.ntmps72 hG)
    unfold strings_trimLeftUnicode at h
    cases h

def C_strings_TrimLeft (k : Nat) : FnC := ⟨true, 1, [], fun | [⟨.str, s1⟩, ⟨.str, cutset1⟩], [⟨.str, rz⟩] => strings_TrimLeft k s1 cutset1 = some rz | _, _ => False⟩
noncomputable def E_strings_TrimLeft (k : Nat) : Env := ⟨Tryd.prog, Gu, 37, [(69, C_strings_trimLeftByte k), (70, C_strings_makeASCIISet k), (71, C_strings_trimLeftASCII k), (72, C_strings_trimLeftUnicode k)]⟩
theorem c_strings_TrimLeft (k : Nat) : Contract Tryd.prog Gu 59 (C_strings_TrimLeft k) := by
  refine contract_of Gu_stable (fn := Tryd.f59) Tryd.func59 (by kernel_rfl) rfl ?_ ?_
  · intro xs rs h
    unfold C_strings_TrimLeft at h
    simp only at h
    split at h
    · exact ⟨by show 2 ≤ _; rw [Tryd.ntmps59]; decide, rfl, fun _ u hu => by simp at hu; (rcases hu with rfl) <;> rfl⟩
    · exact h.elim
  · intro w0 M xs rs hG h
    unfold C_strings_TrimLeft at h
    simp only at h
    split at h
    case h_2 => exact h.elim
    rename_i s1 cutset1 rz
    change List UInt8 at s1
    change List UInt8 at cutset1
    change List UInt8 at rz
    have hE : EnvOK (E_strings_TrimLeft k) ⟨Tryd.prog, Tryd.f59.ntmps, w0, M, fun _ => False, fun _ => undef⟩ := (EnvOK.cons (c_strings_trimLeftByte k) (EnvOK.cons (c_strings_makeASCIISet k) (EnvOK.cons (c_strings_trimLeftASCII k) (EnvOK.cons (c_strings_trimLeftUnicode k) (EnvOK.nil rfl Tryd.ntmps59 hG)))))
    unfold strings_TrimLeft at h
    refine W_seq (W_region (WL_allC hE [0, 1] [] [] (orc := []) (by kernel_rfl) .n (N_then (W_seq (W_seq (W_region (WL_tkC hE 3 [0, 1, 9] [] [] (orc := []) (by kernel_rfl) .n (WL_join (α := Bool) (fun z => strings_TrimLeft_j1 k s1 cutset1 z = some rz) (fun t1 => ⟨[(0, SS s1), (1, SS cutset1), (12, BB t1)], [], []⟩) 3 ?_ (fun hJ1 => ?_)))))))))
    · rintro t1 h
      unfold strings_TrimLeft_j1 at h
      refine WL_nil (N_then (W_cond (b := t1) (by kernel_rfl) (fun e1 => ?_) (fun e1 => ?_)))
      · replace h := ite_t e1 h
        refine W_seq (W_region (WL_allC hE [4] [] [] (orc := []) (by kernel_rfl) .n (N_then (W_ret (N_then_ret ?_)))))
        cases h
        exact N_end (.inl rfl) (by kernel_rfl)
      · replace h := ite_f e1 h
        refine W_skip (N_then (W_seq (W_seq (W_region (WL_tkC hE 4 [0, 1, 17] [] [] (orc := []) (by kernel_rfl) .n (WL_join (α := Bool) (fun z => strings_TrimLeft_j2 k cutset1 s1 z = some rz) (fun t2 => ⟨[(0, SS s1), (1, SS cutset1), (21, BB t2)], [], []⟩) 4 ?_ (fun hJ2 => ?_)))))))
        · rintro t2 h
          unfold strings_TrimLeft_j2 at h
          refine WL_nil (N_then (W_cond (b := t2) (by kernel_rfl) (fun e2 => ?_) (fun e2 => ?_)))
          · replace h := ite_t e2 h
            refine W_seq (W_region ?_)
            obtain ⟨b1, e3, h⟩ := bind_some h
            obtain ⟨v1, e4, h⟩ := bind_some h
            refine WL_allC hE [4] [] [] (orc := [tU8 b1, tS v1]) (by kernel_rfl) (.c e3 (.c e4 .n)) (N_then (W_ret (N_then_ret ?_)))
            cases h
            exact N_end (.inl rfl) (by kernel_rfl)
          · replace h := ite_f e2 h
            refine W_skip (N_then (W_seq (W_seq (W_region ?_))))
            obtain ⟨v2, e5, h⟩ := bind_some h
            refine WL_allC hE [0, 1, 5, 6] [5] [] (orc := [⟨(.arr 256 .bool), v2.1⟩, tB v2.2]) (by kernel_rfl) (.c e5 .n) (N_then (W_seq (W_region (WL_allC hE [0, 1, 5, 31] [5] [] (orc := []) (by kernel_rfl) .n (N_then (W_cond (b := v2.2) (by kernel_rfl) (fun e6 => ?_) (fun e6 => ?_)))))))
            · replace h := ite_t e6 h
              refine W_seq (W_region ?_)
              obtain ⟨v3, e7, h⟩ := bind_some h
              refine WL_allI hE (st' := ⟨[(4, SS v3)], [], []⟩) (orc := [tS v3]) (by kernel_rfl) (.c e7 .n) (N_then (W_ret (N_then_ret ?_)))
              cases h
              exact N_end (.inl rfl) (by kernel_rfl)
            · replace h := ite_f e6 h
              refine W_skip (N_then (W_seq (W_region ?_)))
              obtain ⟨v4, e8, h⟩ := bind_some h
              refine WL_allC hE [4] [] [] (orc := [tS v4]) (by kernel_rfl) (.c e8 .n) (N_then (W_ret ?_))
              cases h
              exact N_end (.inl rfl) (by kernel_rfl)
        refine WL_splitC 17 (b := (List.length cutset1 : Int) == (1 : Int)) (by kernel_rfl) (fun e9 => ?_) (fun e9 => ?_)
        · replace h := ite_t e9 h
          obtain ⟨b2, e10, h⟩ := bind_some h
          exact WL_allI hE (orc := [tU8 b2]) (by kernel_rfl) (.c e10 .n) (hJ2 (decide (b2 < (128 : Int))) h)
        · replace h := ite_f e9 h
          exact WL_allI hE (orc := []) (by kernel_rfl) .n (hJ2 false h)
    refine WL_splitC 9 (b := s1 == ([] : List UInt8)) (by kernel_rfl) (fun e11 => ?_) (fun e11 => ?_)
    · rw [or_t e11] at h
      exact WL_allI hE (orc := []) (by kernel_rfl) .n (hJ1 true h)
    · rw [or_f e11] at h
      exact WL_allI hE (orc := []) (by kernel_rfl) .n (hJ1 (cutset1 == ([] : List UInt8)) h)

def C_internal_strconv_lower (k : Nat) : FnC := ⟨true, 1, [], fun | [⟨(.int .u8), c1⟩], [⟨(.int .u8), rz⟩] => internal_strconv_lower k c1 = some rz | _, _ => False⟩
noncomputable def E_internal_strconv_lower (k : Nat) : Env := ⟨Tryd.prog, Gu, 5, []⟩
theorem c_internal_strconv_lower (k : Nat) : Contract Tryd.prog Gu 80 (C_internal_strconv_lower k) := by
  refine contract_of Gu_stable (fn := Tryd.f80) Tryd.func80 (by kernel_rfl) rfl ?_ ?_
  · intro xs rs h
    unfold C_internal_strconv_lower at h
    simp only at h
    split at h
    · exact ⟨by show 1 ≤ _; rw [Tryd.ntmps80]; decide, rfl, fun _ u hu => by simp at hu; (rcases hu with rfl) <;> rfl⟩
    · exact h.elim
  · intro w0 M xs rs hG h
    unfold C_internal_strconv_lower at h
    simp only at h
    split at h
    case h_2 => exact h.elim
    rename_i c1 rz
    change Int at c1
    change Int at rz
    have hE : EnvOK (E_internal_strconv_lower k) ⟨Tryd.prog, Tryd.f80.ntmps, w0, M, fun _ => False, fun _ => undef⟩ := (EnvOK.nil rfl Tryd.ntmps80 hG)
    unfold internal_strconv_lower at h
    refine W_seq (W_region (WL_allC hE [0] [] [] (orc := []) (by kernel_rfl) .n (N_then (W_seq (W_region (WL_allC hE [2] [] [] (orc := []) (by kernel_rfl) .n (N_then (W_ret ?_))))))))
    cases h
    exact N_end (.inl rfl) (by kernel_rfl)

def C_internal_strconv_underscoreOK (k : Nat) : FnC := ⟨true, 1, [], fun | [⟨.str, s1⟩], [⟨.bool, rz⟩] => internal_strconv_underscoreOK k s1 = some rz | _, _ => False⟩
noncomputable def E_internal_strconv_underscoreOK (k : Nat) : Env := ⟨Tryd.prog, Gu, 94, [(80, C_internal_strconv_lower k)]⟩
theorem c_internal_strconv_underscoreOK (k : Nat) : Contract Tryd.prog Gu 81 (C_internal_strconv_underscoreOK k) := by
  refine contract_of Gu_stable (fn := Tryd.f81) Tryd.func81 (by kernel_rfl) rfl ?_ ?_
  · intro xs rs h
    unfold C_internal_strconv_underscoreOK at h
    simp only at h
    split at h
    · exact ⟨by show 1 ≤ _; rw [Tryd.ntmps81]; decide, rfl, fun _ u hu => by simp at hu; (rcases hu with rfl) <;> rfl⟩
    · exact h.elim
  · intro w0 M xs rs hG h
    unfold C_internal_strconv_underscoreOK at h
    simp only at h
    split at h
    case h_2 => exact h.elim
    rename_i s1 rz
    change List UInt8 at s1
    change Bool at rz
    have hE : EnvOK (E_internal_strconv_underscoreOK k) ⟨Tryd.prog, Tryd.f81.ntmps, w0, M, fun _ => False, fun _ => undef⟩ := (EnvOK.cons (c_internal_strconv_lower k) (EnvOK.nil rfl Tryd.ntmps81 hG))
    unfold internal_strconv_underscoreOK at h
    refine W_seq (W_region (WL_allC hE [0] [] [] (orc := []) (by kernel_rfl) .n (N_then (W_seq (W_region (WL_allC hE [0, 3] [] [] (orc := []) (by kernel_rfl) .n (N_then (W_seq (W_region (WL_allC hE [0, 3, 4] [] [] (orc := []) (by kernel_rfl) .n (N_then (W_join (α := List UInt8) (fun z => internal_strconv_underscoreOK_j1 k z = some rz) (fun s2 => ⟨[(0, SS s2), (3, I32 (94 : Int)), (4, I64 (0 : Int))], [], []⟩) ?_ (fun hJ11 => ?_)))))))))))))
    · rintro s2 h
      unfold internal_strconv_underscoreOK_j1 at h
      refine W_seq (W_region (WL_allC hE [0, 3, 4, 5] [] [] (orc := []) (by kernel_rfl) .n (N_then (W_join (α := (Int × Int × Bool)) (fun z => internal_strconv_underscoreOK_j2 k s2 z.1 z.2.1 z.2.2 = some rz) (fun z => ⟨[(0, SS s2), (3, I32 (z.1)), (4, I64 (z.2.1)), (5, BB (z.2.2))], [], []⟩) ?_ (fun hJ7 => ?_)))))
      · rintro ⟨saw1, i1, hex1⟩ h
        unfold internal_strconv_underscoreOK_j2 at h
        refine W_seq (W_block (W_normI (by kernel_rfl) (W_loop (α := (Int × Int)) (fun n z => internal_strconv_underscoreOK_l1 k s2 hex1 n z.1 z.2 = some rz) (fun z => ⟨[(0, SS s2), (3, I32 (z.1)), (4, I64 (z.2)), (5, BB hex1)], [], []⟩) ?_ (k := k) (x := (saw1, i1)) h)))
        clear h
        rintro fuel1 ⟨saw2, i2⟩ h
        cases fuel1 with
        | zero => exact absurd (show none = some _ from h) (by simp)
        | succ fuel1 =>
          have h : internal_strconv_underscoreOK_b1 k s2 hex1 (internal_strconv_underscoreOK_l1 k s2 hex1 fuel1) saw2 i2 = some rz := h
          unfold internal_strconv_underscoreOK_b1 at h
          refine W_seq (W_seq (W_region (WL_allC hE [0, 3, 4, 5, 54] [] [] (orc := []) (by kernel_rfl) .n (N_then (W_cond (b := decide (i2 < (List.length s2 : Int))) (by kernel_rfl) (fun e1 => ?_) (fun e1 => ?_))))))
          · replace h := ite_t e1 h
            refine W_skip (N_then (W_join (α := Int) (fun z => internal_strconv_underscoreOK_j3 (internal_strconv_underscoreOK_l1 k s2 hex1 fuel1) i2 z = some rz) (fun saw3 => ⟨[(0, SS s2), (3, I32 saw3), (4, I64 i2), (5, BB hex1)], [], []⟩) ?_ (fun hJ3 => ?_)))
            · rintro saw3 h
              unfold internal_strconv_underscoreOK_j3 at h
              exact W_region (WL_allI hE (orc := []) (by kernel_rfl) .n (N_round (saw3, wi64 (i2 + (1 : Int))) (Nat.lt_succ_self _) h))
            refine W_block (W_seq (W_seq (W_region ?_)))
            obtain ⟨b1, e2, h⟩ := bind_some h
            refine WL_tkC hE 5 [0, 3, 4, 5, 61] [] [] (orc := [tU8 b1]) (by kernel_rfl) (.c e2 .n) (WL_join (α := Bool) (fun z => internal_strconv_underscoreOK_j4 k (internal_strconv_underscoreOK_l1 k s2 hex1 fuel1) i2 s2 saw2 hex1 z = some rz) (fun t1 => ⟨[(0, SS s2), (3, I32 saw2), (4, I64 i2), (5, BB hex1), (66, BB t1)], [], []⟩) 5 ?_ (fun hJ4 => ?_))
            · rintro t1 h
              unfold internal_strconv_underscoreOK_j4 at h
              refine WL_tkC hE 1 [0, 3, 4, 5, 67] [] [] (orc := []) (by kernel_rfl) .n (WL_join (α := Bool) (fun z => internal_strconv_underscoreOK_j5 (internal_strconv_underscoreOK_l1 k s2 hex1 fuel1) i2 s2 saw2 z = some rz) (fun t2 => ⟨[(0, SS s2), (3, I32 saw2), (4, I64 i2), (5, BB hex1), (83, BB t2)], [], []⟩) 16 ?_ (fun hJ5 => ?_))
              · rintro t2 h
                unfold internal_strconv_underscoreOK_j5 at h
                refine WL_nil (N_then (W_cond (b := t2) (by kernel_rfl) (fun e3 => ?_) (fun e3 => ?_)))
                · replace h := ite_t e3 h
                  exact W_seq (W_region (WL_allI hE (orc := []) (by kernel_rfl) .n (N_then (W_exit (N_then_exit (N_block_exit (hJ3 (48 : Int) h)))))))
                · replace h := ite_f e3 h
                  refine W_skip (N_then (W_seq (W_seq (W_region ?_))))
                  obtain ⟨b2, e4, h⟩ := bind_some h
                  refine WL_allC hE [0, 3, 4, 5, 87] [] [] (orc := [tU8 b2]) (by kernel_rfl) (.c e4 .n) (N_then (W_cond (b := b2 == (95 : Int)) (by kernel_rfl) (fun e5 => ?_) (fun e5 => ?_)))
                  · replace h := ite_t e5 h
                    refine W_seq (W_seq (W_region (WL_allC hE [0, 4, 5, 89] [] [] (orc := []) (by kernel_rfl) .n (N_then (W_cond (b := saw2 != (48 : Int)) (by kernel_rfl) (fun e6 => ?_) (fun e6 => ?_))))))
                    · replace h := ite_t e6 h
                      refine W_seq (W_region (WL_allC hE [2] [] [] (orc := []) (by kernel_rfl) .n (N_then (W_ret (N_then_ret (N_then_ret (N_block_ret (N_then_ret (N_then_ret (N_block_ret (N_then_ret ?_)))))))))))
                      cases h
                      exact N_end (.inl rfl) (by kernel_rfl)
                    · replace h := ite_f e6 h
                      exact W_skip (N_then (W_seq (W_region (WL_allI hE (orc := []) (by kernel_rfl) .n (N_then (W_exit (N_then_exit (N_block_exit (hJ3 (95 : Int) h)))))))))
                  · replace h := ite_f e5 h
                    refine W_skip (N_then (W_seq (W_seq (W_region (WL_allI hE (st' := ⟨[(0, SS s2), (4, I64 i2), (5, BB hex1), (91, BB (saw2 == (95 : Int)))], [], []⟩) (orc := []) (by kernel_rfl) .n (N_then (W_cond (b := saw2 == (95 : Int)) (by kernel_rfl) (fun e7 => ?_) (fun e7 => ?_))))))))
                    · replace h := ite_t e7 h
                      refine W_seq (W_region (WL_allC hE [2] [] [] (orc := []) (by kernel_rfl) .n (N_then (W_ret (N_then_ret (N_block_ret (N_then_ret (N_then_ret (N_block_ret (N_then_ret ?_))))))))))
                      cases h
                      exact N_end (.inl rfl) (by kernel_rfl)
                    · replace h := ite_f e7 h
                      exact W_skip (N_then (W_region (WL_allI hE (orc := []) (by kernel_rfl) .n (N_block (hJ3 (33 : Int) h)))))
              refine WL_splitC 67 (b := t1) (by kernel_rfl) (fun e8 => ?_) (fun e8 => ?_)
              · replace h := ite_t e8 h
                exact WL_allI hE (orc := []) (by kernel_rfl) .n (hJ5 true h)
              · replace h := ite_f e8 h
                refine WL_tkC hE 2 [0, 3, 4, 5, 67, 69] [] [] (orc := []) (by kernel_rfl) .n (WL_join (α := Bool) (fun z => internal_strconv_underscoreOK_j6 k s2 i2 (internal_strconv_underscoreOK_l1 k s2 hex1 fuel1) saw2 z = some rz) (fun t3 => ⟨[(0, SS s2), (3, I32 saw2), (4, I64 i2), (5, BB hex1), (67, BB false), (75, BB t3)], [], []⟩) 6 ?_ (fun hJ6 => ?_))
                · rintro t3 h
                  unfold internal_strconv_underscoreOK_j6 at h
                  refine WL_tkC hE 1 [0, 3, 4, 5, 67, 76] [] [] (orc := []) (by kernel_rfl) .n (WL_join (α := Bool) (fun z => internal_strconv_underscoreOK_j7 (internal_strconv_underscoreOK_l1 k s2 hex1 fuel1) i2 s2 saw2 z = some rz) (fun t4 => ⟨[(0, SS s2), (3, I32 saw2), (4, I64 i2), (5, BB hex1), (67, BB false), (82, BB t4)], [], []⟩) 6 ?_ (fun hJ7 => ?_))
                  · rintro t4 h
                    unfold internal_strconv_underscoreOK_j7 at h
                    exact WL_allI hE (orc := []) (by kernel_rfl) .n (hJ5 t4 h)
                  refine WL_splitC 76 (b := t3) (by kernel_rfl) (fun e9 => ?_) (fun e9 => ?_)
                  · replace h := ite_t e9 h
                    obtain ⟨b3, e10, h⟩ := bind_some h
                    obtain ⟨v1, e11, h⟩ := bind_some h
                    exact WL_allI hE (orc := [tU8 b3, tU8 v1]) (by kernel_rfl) (.c e10 (.c e11 .n)) (hJ7 (decide (v1 ≤ (102 : Int))) h)
                  · replace h := ite_f e9 h
                    exact WL_allI hE (orc := []) (by kernel_rfl) .n (hJ7 false h)
                refine WL_splitC 69 (b := hex1) (by kernel_rfl) (fun e12 => ?_) (fun e12 => ?_)
                · replace h := ite_t e12 h
                  obtain ⟨b4, e13, h⟩ := bind_some h
                  obtain ⟨v2, e14, h⟩ := bind_some h
                  exact WL_allI hE (orc := [tU8 b4, tU8 v2]) (by kernel_rfl) (.c e13 (.c e14 .n)) (hJ6 (decide ((97 : Int) ≤ v2)) h)
                · replace h := ite_f e12 h
                  exact WL_allI hE (orc := []) (by kernel_rfl) .n (hJ6 false h)
            refine WL_splitC 61 (b := decide ((48 : Int) ≤ b1)) (by kernel_rfl) (fun e15 => ?_) (fun e15 => ?_)
            · replace h := ite_t e15 h
              obtain ⟨b5, e16, h⟩ := bind_some h
              exact WL_allI hE (orc := [tU8 b5]) (by kernel_rfl) (.c e16 .n) (hJ4 (decide (b5 ≤ (57 : Int))) h)
            · replace h := ite_f e15 h
              exact WL_allI hE (orc := []) (by kernel_rfl) .n (hJ4 false h)
          · replace h := ite_f e1 h
            refine W_exit (N_then_exit (N_then_exit (N_block_exit (N_then (W_seq (W_region (WL_allC hE [2] [] [] (orc := []) (by kernel_rfl) .n (N_then (W_ret ?_)))))))))
            cases h
            exact N_end (.inl rfl) (by kernel_rfl)
      refine W_seq (W_region (WL_tkC hE 4 [0, 3, 4, 5, 24] [] [] (orc := []) (by kernel_rfl) .n (WL_join (α := Bool) (fun z => internal_strconv_underscoreOK_j8 k s2 z = some rz) (fun t5 => ⟨[(0, SS s2), (3, I32 (94 : Int)), (4, I64 (0 : Int)), (5, BB false), (28, BB t5)], [], []⟩) 4 ?_ (fun hJ8 => ?_))))
      · rintro t5 h
        unfold internal_strconv_underscoreOK_j8 at h
        refine WL_tkC hE 1 [0, 3, 4, 5, 29] [] [] (orc := []) (by kernel_rfl) .n (WL_join (α := Bool) (fun z => internal_strconv_underscoreOK_j9 k s2 z = some rz) (fun t6 => ⟨[(0, SS s2), (3, I32 (94 : Int)), (4, I64 (0 : Int)), (5, BB false), (46, BB t6)], [], []⟩) 17 ?_ (fun hJ9 => ?_))
        · rintro t6 h
          unfold internal_strconv_underscoreOK_j9 at h
          refine WL_nil (N_then (W_cond (b := t6) (by kernel_rfl) (fun e17 => ?_) (fun e17 => ?_)))
          · replace h := ite_t e17 h
            refine W_seq (W_region (WL_allC hE [0, 4] [] [] (orc := []) (by kernel_rfl) .n (N_then (W_seq (W_region (WL_allC hE [0, 3, 4] [] [] (orc := []) (by kernel_rfl) .n (N_then (W_region ?_))))))))
            obtain ⟨b6, e18, h⟩ := bind_some h
            obtain ⟨v3, e19, h⟩ := bind_some h
            exact WL_allI hE (orc := [tU8 b6, tU8 v3]) (by kernel_rfl) (.c e18 (.c e19 .n)) (hJ7 ((48 : Int), (2 : Int), v3 == (120 : Int)) h)
          · replace h := ite_f e17 h
            exact W_skip (N_normI (by kernel_rfl) (hJ7 ((94 : Int), (0 : Int), false) h))
        refine WL_splitC 29 (b := t5) (by kernel_rfl) (fun e20 => ?_) (fun e20 => ?_)
        · replace h := ite_t e20 h
          obtain ⟨b7, e21, h⟩ := bind_some h
          obtain ⟨v4, e22, h⟩ := bind_some h
          refine WL_tkC hE 5 [0, 3, 4, 5, 29, 34] [] [] (orc := [tU8 b7, tU8 v4]) (by kernel_rfl) (.c e21 (.c e22 .n)) (WL_join (α := Bool) (fun z => internal_strconv_underscoreOK_j10 k s2 z = some rz) (fun t7 => ⟨[(0, SS s2), (3, I32 (94 : Int)), (4, I64 (0 : Int)), (5, BB false), (29, BB true), (39, BB t7)], [], []⟩) 5 ?_ (fun hJ10 => ?_))
          · rintro t7 h
            unfold internal_strconv_underscoreOK_j10 at h
            refine WL_tkC hE 1 [0, 3, 4, 5, 29, 40] [] [] (orc := []) (by kernel_rfl) .n (WL_join (α := Bool) (fun z => internal_strconv_underscoreOK_j11 k s2 z = some rz) (fun t8 => ⟨[(0, SS s2), (3, I32 (94 : Int)), (4, I64 (0 : Int)), (5, BB false), (29, BB true), (45, BB t8)], [], []⟩) 5 ?_ (fun hJ11 => ?_))
            · rintro t8 h
              unfold internal_strconv_underscoreOK_j11 at h
              exact WL_allI hE (orc := []) (by kernel_rfl) .n (hJ9 t8 h)
            refine WL_splitC 40 (b := t7) (by kernel_rfl) (fun e23 => ?_) (fun e23 => ?_)
            · replace h := ite_t e23 h
              exact WL_allI hE (orc := []) (by kernel_rfl) .n (hJ11 true h)
            · replace h := ite_f e23 h
              obtain ⟨b8, e24, h⟩ := bind_some h
              obtain ⟨v5, e25, h⟩ := bind_some h
              exact WL_allI hE (orc := [tU8 b8, tU8 v5]) (by kernel_rfl) (.c e24 (.c e25 .n)) (hJ11 (v5 == (120 : Int)) h)
          refine WL_splitC 34 (b := v4 == (98 : Int)) (by kernel_rfl) (fun e26 => ?_) (fun e26 => ?_)
          · replace h := ite_t e26 h
            exact WL_allI hE (orc := []) (by kernel_rfl) .n (hJ10 true h)
          · replace h := ite_f e26 h
            obtain ⟨b9, e27, h⟩ := bind_some h
            obtain ⟨v6, e28, h⟩ := bind_some h
            exact WL_allI hE (orc := [tU8 b9, tU8 v6]) (by kernel_rfl) (.c e27 (.c e28 .n)) (hJ10 (v6 == (111 : Int)) h)
        · replace h := ite_f e20 h
          exact WL_allI hE (orc := []) (by kernel_rfl) .n (hJ9 false h)
      refine WL_splitC 24 (b := decide ((2 : Int) ≤ (List.length s2 : Int))) (by kernel_rfl) (fun e29 => ?_) (fun e29 => ?_)
      · replace h := ite_t e29 h
        obtain ⟨b10, e30, h⟩ := bind_some h
        exact WL_allI hE (orc := [tU8 b10]) (by kernel_rfl) (.c e30 .n) (hJ8 (b10 == (48 : Int)) h)
      · replace h := ite_f e29 h
        exact WL_allI hE (orc := []) (by kernel_rfl) .n (hJ8 false h)
    refine W_seq (W_region (WL_tkC hE 4 [0, 3, 4, 9] [] [] (orc := []) (by kernel_rfl) .n (WL_join (α := Bool) (fun z => internal_strconv_underscoreOK_j12 k s1 z = some rz) (fun t9 => ⟨[(0, SS s1), (3, I32 (94 : Int)), (4, I64 (0 : Int)), (18, BB t9)], [], []⟩) 9 ?_ (fun hJ12 => ?_))))
    · rintro t9 h
      unfold internal_strconv_underscoreOK_j12 at h
      refine WL_nil (N_then (W_cond (b := t9) (by kernel_rfl) (fun e31 => ?_) (fun e31 => ?_)))
      · replace h := ite_t e31 h
        refine W_region ?_
        obtain ⟨s3, e32, h⟩ := bind_some h
        exact WL_allI hE (orc := [tS s3]) (by kernel_rfl) (.c e32 .n) (hJ11 s3 h)
      · replace h := ite_f e31 h
        exact W_skip (N_normI (by kernel_rfl) (hJ11 s1 h))
    refine WL_splitC 9 (b := decide ((1 : Int) ≤ (List.length s1 : Int))) (by kernel_rfl) (fun e33 => ?_) (fun e33 => ?_)
    · replace h := ite_t e33 h
      obtain ⟨b11, e34, h⟩ := bind_some h
      refine WL_tkC hE 4 [0, 3, 4, 9, 13] [] [] (orc := [tU8 b11]) (by kernel_rfl) (.c e34 .n) (WL_join (α := Bool) (fun z => internal_strconv_underscoreOK_j13 k s1 z = some rz) (fun t10 => ⟨[(0, SS s1), (3, I32 (94 : Int)), (4, I64 (0 : Int)), (9, BB true), (17, BB t10)], [], []⟩) 4 ?_ (fun hJ13 => ?_))
      · rintro t10 h
        unfold internal_strconv_underscoreOK_j13 at h
        exact WL_allI hE (orc := []) (by kernel_rfl) .n (hJ12 t10 h)
      refine WL_splitC 13 (b := b11 == (45 : Int)) (by kernel_rfl) (fun e35 => ?_) (fun e35 => ?_)
      · replace h := ite_t e35 h
        exact WL_allI hE (orc := []) (by kernel_rfl) .n (hJ13 true h)
      · replace h := ite_f e35 h
        obtain ⟨b12, e36, h⟩ := bind_some h
        exact WL_allI hE (orc := [tU8 b12]) (by kernel_rfl) (.c e36 .n) (hJ13 (b12 == (43 : Int)) h)
    · replace h := ite_f e33 h
      exact WL_allI hE (orc := []) (by kernel_rfl) .n (hJ12 false h)

def C_internal_strconv_ParseUint_16 (k : Nat) : FnC := ⟨false, 2, [], fun | [⟨.str, s1⟩, ⟨(.int .i64), const1⟩, ⟨(.int .i64), bitsize1⟩], [⟨(.int .u64), rz1⟩, ⟨.err, rz2⟩] => const1 = (16 : Int) ∧ internal_strconv_ParseUint_16 k s1 bitsize1 = some (rz1, rz2) | _, _ => False⟩
noncomputable def E_internal_strconv_ParseUint_16 (k : Nat) : Env := ⟨Tryd.prog, Gu, 172, [(80, C_internal_strconv_lower k)]⟩
theorem c_internal_strconv_ParseUint_16 (k : Nat) : Contract Tryd.prog Gu 73 (C_internal_strconv_ParseUint_16 k) := by
  refine contract_of Gu_stable (fn := Tryd.f73) Tryd.func73 (by kernel_rfl) rfl ?_ ?_
  · intro xs rs h
    unfold C_internal_strconv_ParseUint_16 at h
    simp only at h
    split at h
    · exact ⟨by show 3 ≤ _; rw [Tryd.ntmps73]; decide, rfl, fun hf => by cases hf⟩
    · exact h.elim
  · intro w0 M xs rs hG h
    unfold C_internal_strconv_ParseUint_16 at h
    simp only at h
    split at h
    case h_2 => exact h.elim
    rename_i s1 const1 bitsize1 rz1 rz2
    change List UInt8 at s1
    change Int at const1
    change Int at bitsize1
    change Int at rz1
    change Option (Option (Nat × Int)) at rz2
    obtain ⟨rfl, h⟩ := h
    have hE : EnvOK (E_internal_strconv_ParseUint_16 k) ⟨Tryd.prog, Tryd.f73.ntmps, w0, M, fun _ => False, fun _ => undef⟩ := (EnvOK.cons (c_internal_strconv_lower k) (EnvOK.nil rfl Tryd.ntmps73 hG))
    unfold internal_strconv_ParseUint_16 at h
    refine W_seq (W_region (WL_allC hE [0, 1, 2] [] [] (orc := []) (by kernel_rfl) .n (N_then (W_seq (W_seq (W_region (WL_allC hE [0, 1, 2, 19] [] [] (orc := []) (by kernel_rfl) .n (N_then (W_cond (b := s1 == ([] : List UInt8)) (by kernel_rfl) (fun e1 => ?_) (fun e1 => ?_))))))))))
    · replace h := ite_t e1 h
      refine W_seq (W_region (WL_allC hE [6, 7] [] [] (orc := []) (by kernel_rfl) .n (N_then (W_ret (N_then_ret ?_)))))
      cases h
      exact N_end (.inl rfl) (by kernel_rfl)
    · replace h := ite_f e1 h
      refine W_skip (N_then (W_seq (W_region (WL_allC hE [0, 1, 2, 8] [] [] (orc := []) (by kernel_rfl) .n (N_then (W_seq (W_region (WL_allC hE [0, 1, 2, 8, 9] [] [] (orc := []) (by kernel_rfl) .n (N_then (W_seq (W_block (W_seq (W_region (WL_allI hE (st' := ⟨[(0, SS s1), (1, I64 (16 : Int)), (2, I64 bitsize1), (8, BB false), (9, SS s1), (25, BB true)], [], []⟩) (orc := []) (by kernel_rfl) .n (N_then (W_cond_true (by kernel_rfl) (W_skip (N_block (N_then (W_join (α := Int) (fun z => internal_strconv_ParseUint_16_j1 k s1 z = some (rz1, rz2)) (fun bitsize2 => ⟨[(0, SS s1), (1, I64 (16 : Int)), (2, I64 bitsize2), (8, BB false), (9, SS s1)], [], []⟩) ?_ (fun hJ6 => ?_)))))))))))))))))))))
      · rintro bitsize2 h
        unfold internal_strconv_ParseUint_16_j1 at h
        refine W_seq (W_region (WL_allC hE [0, 1, 2, 8, 9] [] [] (orc := []) (by kernel_rfl) .n (N_then (W_seq (W_seq (W_region (WL_allI hE (st' := ⟨[(0, SS s1), (1, I64 (16 : Int)), (2, I64 bitsize2), (8, BB false), (9, SS s1), (85, I64 (16 : Int))], [], []⟩) (orc := []) (by kernel_rfl) .n (N_then (W_block (W_seq (W_region (WL_allC hE [0, 1, 2, 8, 9, 85, 90] [] [] (orc := []) (by kernel_rfl) .n (N_then (W_cond_false (by kernel_rfl) (W_seq (W_region (WL_allC hE [0, 1, 2, 8, 9, 92] [] [] (orc := []) (by kernel_rfl) .n (N_then (W_cond_true (by kernel_rfl) (W_region (WL_allC hE [0, 1, 2, 8, 9, 10] [] [] (orc := []) (by kernel_rfl) .n (N_block (N_then (W_seq (W_region ?_)))))))))))))))))))))))))
        obtain ⟨_, e2, h⟩ := bind_some h
        replace e2 := chk_some e2
        refine WL_allI hE (st' := ⟨[(0, SS s1), (1, I64 (16 : Int)), (8, BB false), (9, SS s1), (10, U64 (1152921504606846976 : Int)), (11, U64 (wu64 ((wu64 ((1 : Int) * 2 ^ min (wu64 bitsize2).toNat 64)) - (1 : Int))))], [], []⟩) (orc := []) (by kernel_rfl) (.c e2 .n) (N_then (W_seq (W_region (WL_allC hE [0, 1, 8, 9, 10, 11, 12] [] [] (orc := []) (by kernel_rfl) .n (N_then (W_seq (W_region (WL_allC hE [0, 1, 8, 9, 10, 11, 12, 13] [] [] (orc := []) (by kernel_rfl) .n (N_then (W_seq (W_seq (W_region (WL_allI hE (orc := []) (by kernel_rfl) .n (N_then (W_block (W_loop (α := (Int × Int)) (fun n z => internal_strconv_ParseUint_16_l1 k s1 bitsize2 n z.1 z.2 = some (rz1, rz2)) (fun z => ⟨[(1, I64 (16 : Int)), (8, BB false), (9, SS s1), (10, U64 (1152921504606846976 : Int)), (11, U64 (wu64 ((wu64 ((1 : Int) * 2 ^ min (wu64 bitsize2).toNat 64)) - (1 : Int)))), (12, BB false), (13, U64 (z.1)), (99, .val (.sl (.int .u8)) (bytesEl s1)), (100, I64 (List.length (bytesEl s1) : Int)), (101, I64 (z.2))], [], []⟩) ?_ (k := k) (x := ((0 : Int), (0 : Int))) h))))))))))))))))
        clear h
        rintro fuel1 ⟨n1, t1⟩ h
        cases fuel1 with
        | zero => exact absurd (show none = some _ from h) (by simp)
        | succ fuel1 =>
          have h : internal_strconv_ParseUint_16_b1 k s1 bitsize2 (internal_strconv_ParseUint_16_l1 k s1 bitsize2 fuel1) n1 t1 = some (rz1, rz2) := h
          unfold internal_strconv_ParseUint_16_b1 at h
          refine W_seq (W_region (WL_allC hE [1, 8, 9, 10, 11, 12, 13, 99, 100, 101, 102] [] [] (orc := []) (by kernel_rfl) .n (N_then (W_seq (W_cond (b := decide (t1 < (List.length (bytesEl s1) : Int))) (by kernel_rfl) (fun e3 => ?_) (fun e3 => ?_))))))
          · replace h := ite_t e3 h
            refine W_skip (N_then (W_seq (W_block (W_seq (W_region ?_)))))
            obtain ⟨x1, e4, h⟩ := bind_some h
            refine WL_allC hE [1, 8, 9, 10, 11, 12, 13, 15, 99, 100, 101] [] [] (orc := [tU8 x1]) (by kernel_rfl) (.c e4 .n) (N_then (W_seq (W_region (WL_allC hE [1, 8, 9, 10, 11, 12, 13, 15, 99, 100, 101] [] [] (orc := []) (by kernel_rfl) .n (N_then (W_join (α := Int) (fun z => internal_strconv_ParseUint_16_j2 n1 bitsize2 (internal_strconv_ParseUint_16_l1 k s1 bitsize2 fuel1) t1 z = some (rz1, rz2)) (fun d1 => ⟨[(1, I64 (16 : Int)), (8, BB false), (9, SS s1), (10, U64 (1152921504606846976 : Int)), (11, U64 (wu64 ((wu64 ((1 : Int) * 2 ^ min (wu64 bitsize2).toNat 64)) - (1 : Int)))), (12, BB false), (13, U64 n1), (16, U8 d1), (99, .val (.sl (.int .u8)) (bytesEl s1)), (100, I64 (List.length (bytesEl s1) : Int)), (101, I64 t1)], [], []⟩) ?_ (fun hJ3 => ?_)))))))
            · rintro d1 h
              unfold internal_strconv_ParseUint_16_j2 at h
              refine W_seq (W_seq (W_region (WL_allC hE [1, 8, 9, 10, 11, 12, 13, 16, 99, 100, 101, 137] [] [] (orc := []) (by kernel_rfl) .n (N_then (W_cond (b := decide ((16 : Int) ≤ d1)) (by kernel_rfl) (fun e5 => ?_) (fun e5 => ?_))))))
              · replace h := ite_t e5 h
                refine W_seq (W_region (WL_allC hE [6, 7] [] [] (orc := []) (by kernel_rfl) .n (N_then (W_ret (N_then_ret (N_block_ret (N_then_ret (N_then_ret (N_block_ret (N_then_ret ?_))))))))))
                cases h
                exact N_end (.inl rfl) (by kernel_rfl)
              · replace h := ite_f e5 h
                refine W_skip (N_then (W_seq (W_seq (W_region (WL_allC hE [1, 8, 9, 10, 11, 12, 13, 16, 99, 100, 101, 141] [] [] (orc := []) (by kernel_rfl) .n (N_then (W_cond (b := decide ((1152921504606846976 : Int) ≤ n1)) (by kernel_rfl) (fun e6 => ?_) (fun e6 => ?_))))))))
                · replace h := ite_t e6 h
                  refine W_seq (W_region (WL_allI hE (st' := ⟨[(6, U64 (wu64 ((wu64 ((1 : Int) * 2 ^ min (wu64 bitsize2).toNat 64)) - (1 : Int)))), (7, .val .err (some (some (101, (1 : Int))) : Option (Option (Nat × Int))))], [], []⟩) (orc := []) (by kernel_rfl) .n (N_then (W_ret (N_then_ret (N_block_ret (N_then_ret (N_then_ret (N_block_ret (N_then_ret ?_))))))))))
                  cases h
                  exact N_end (.inl rfl) (by kernel_rfl)
                · replace h := ite_f e6 h
                  refine W_skip (N_then (W_seq (W_region (WL_allC hE [1, 8, 9, 10, 11, 12, 13, 16, 99, 100, 101] [] [] (orc := []) (by kernel_rfl) .n (N_then (W_seq (W_region (WL_allC hE [1, 8, 9, 10, 11, 12, 13, 17, 99, 100, 101] [] [] (orc := []) (by kernel_rfl) .n (N_then (W_seq (W_seq (W_region (WL_tkC hE 4 [1, 8, 9, 10, 11, 12, 17, 99, 100, 101, 155] [] [] (orc := []) (by kernel_rfl) .n (WL_join (α := Bool) (fun z => internal_strconv_ParseUint_16_j3 bitsize2 (internal_strconv_ParseUint_16_l1 k s1 bitsize2 fuel1) n1 d1 t1 z = some (rz1, rz2)) (fun t2 => ⟨[(1, I64 (16 : Int)), (8, BB false), (9, SS s1), (10, U64 (1152921504606846976 : Int)), (11, U64 (wu64 ((wu64 ((1 : Int) * 2 ^ min (wu64 bitsize2).toNat 64)) - (1 : Int)))), (12, BB false), (17, U64 (wu64 ((wu64 (n1 * (16 : Int))) + (wu64 d1)))), (99, .val (.sl (.int .u8)) (bytesEl s1)), (100, I64 (List.length (bytesEl s1) : Int)), (101, I64 t1), (159, BB t2)], [], []⟩) 4 ?_ (fun hJ3 => ?_)))))))))))))))
                  · rintro t2 h
                    unfold internal_strconv_ParseUint_16_j3 at h
                    refine WL_nil (N_then (W_cond (b := t2) (by kernel_rfl) (fun e7 => ?_) (fun e7 => ?_)))
                    · replace h := ite_t e7 h
                      refine W_seq (W_region (WL_allC hE [6, 7] [] [] (orc := []) (by kernel_rfl) .n (N_then (W_ret (N_then_ret (N_block_ret (N_then_ret (N_then_ret (N_block_ret (N_then_ret ?_))))))))))
                      cases h
                      exact N_end (.inl rfl) (by kernel_rfl)
                    · replace h := ite_f e7 h
                      exact W_skip (N_then (W_region (WL_allC hE [1, 8, 9, 10, 11, 12, 13, 99, 100, 101] [] [] (orc := []) (by kernel_rfl) .n (N_block (N_then (W_region (WL_allI hE (orc := []) (by kernel_rfl) .n (N_round (wu64 ((wu64 (n1 * (16 : Int))) + (wu64 d1)), wi64 (t1 + (1 : Int))) (Nat.lt_succ_self _) h))))))))
                  refine WL_splitC 155 (b := decide ((wu64 ((wu64 (n1 * (16 : Int))) + (wu64 d1))) < (wu64 (n1 * (16 : Int))))) (by kernel_rfl) (fun e8 => ?_) (fun e8 => ?_)
                  · rw [or_t e8] at h
                    exact WL_allI hE (orc := []) (by kernel_rfl) .n (hJ3 true h)
                  · rw [or_f e8] at h
                    exact WL_allI hE (orc := []) (by kernel_rfl) .n (hJ3 (decide ((wu64 ((wu64 ((1 : Int) * 2 ^ min (wu64 bitsize2).toNat 64)) - (1 : Int))) < (wu64 ((wu64 (n1 * (16 : Int))) + (wu64 d1))))) h)
            refine W_block (W_seq (W_region (WL_tkC hE 3 [1, 8, 9, 10, 11, 12, 13, 15, 99, 100, 101, 109] [] [] (orc := []) (by kernel_rfl) .n (WL_join (α := Unit) (fun _ => internal_strconv_ParseUint_16_j4 k n1 bitsize2 (internal_strconv_ParseUint_16_l1 k s1 bitsize2 fuel1) t1 x1 = some (rz1, rz2)) (fun _ => ⟨[(1, I64 (16 : Int)), (8, BB false), (9, SS s1), (10, U64 (1152921504606846976 : Int)), (11, U64 (wu64 ((wu64 ((1 : Int) * 2 ^ min (wu64 bitsize2).toNat 64)) - (1 : Int)))), (12, BB false), (13, U64 n1), (15, U8 x1), (99, .val (.sl (.int .u8)) (bytesEl s1)), (100, I64 (List.length (bytesEl s1) : Int)), (101, I64 t1), (111, BB false)], [], []⟩) 2 ?_ (fun hJ4 => ?_)))))
            · rintro _ h
              unfold internal_strconv_ParseUint_16_j4 at h
              refine WL_allC hE [1, 8, 9, 10, 11, 12, 13, 15, 99, 100, 101, 106] [] [] (orc := []) (by kernel_rfl) .n (N_then (W_cond_false (by kernel_rfl) (W_seq (W_region (WL_tkC hE 3 [1, 8, 9, 10, 11, 12, 13, 15, 99, 100, 101, 115] [] [] (orc := []) (by kernel_rfl) .n (WL_join (α := Bool) (fun z => internal_strconv_ParseUint_16_j5 k n1 bitsize2 (internal_strconv_ParseUint_16_l1 k s1 bitsize2 fuel1) t1 x1 z = some (rz1, rz2)) (fun t3 => ⟨[(1, I64 (16 : Int)), (8, BB false), (9, SS s1), (10, U64 (1152921504606846976 : Int)), (11, U64 (wu64 ((wu64 ((1 : Int) * 2 ^ min (wu64 bitsize2).toNat 64)) - (1 : Int)))), (12, BB false), (13, U64 n1), (15, U8 x1), (99, .val (.sl (.int .u8)) (bytesEl s1)), (100, I64 (List.length (bytesEl s1) : Int)), (101, I64 t1), (118, BB t3)], [], []⟩) 3 ?_ (fun hJ5 => ?_)))))))
              · rintro t3 h
                unfold internal_strconv_ParseUint_16_j5 at h
                refine WL_allC hE [1, 8, 9, 10, 11, 12, 13, 15, 99, 100, 101, 112] [] [] (orc := []) (by kernel_rfl) .n (N_then (W_cond (b := t3) (by kernel_rfl) (fun e9 => ?_) (fun e9 => ?_)))
                · replace h := ite_t e9 h
                  exact W_region (WL_allI hE (orc := []) (by kernel_rfl) .n (N_block (hJ3 (wu8 (x1 - (48 : Int))) h)))
                · replace h := ite_f e9 h
                  refine W_seq (W_region ?_)
                  obtain ⟨v1, e10, h⟩ := bind_some h
                  refine WL_tkC hE 4 [1, 8, 9, 10, 11, 12, 13, 15, 99, 100, 101, 125] [] [] (orc := [tU8 v1]) (by kernel_rfl) (.c e10 .n) (WL_join (α := Bool) (fun z => internal_strconv_ParseUint_16_j6 k x1 n1 bitsize2 (internal_strconv_ParseUint_16_l1 k s1 bitsize2 fuel1) t1 z = some (rz1, rz2)) (fun t4 => ⟨[(1, I64 (16 : Int)), (8, BB false), (9, SS s1), (10, U64 (1152921504606846976 : Int)), (11, U64 (wu64 ((wu64 ((1 : Int) * 2 ^ min (wu64 bitsize2).toNat 64)) - (1 : Int)))), (12, BB false), (13, U64 n1), (15, U8 x1), (99, .val (.sl (.int .u8)) (bytesEl s1)), (100, I64 (List.length (bytesEl s1) : Int)), (101, I64 t1), (129, BB t4)], [], []⟩) 4 ?_ (fun hJ6 => ?_))
                  · rintro t4 h
                    unfold internal_strconv_ParseUint_16_j6 at h
                    refine WL_allC hE [1, 8, 9, 10, 11, 12, 13, 15, 99, 100, 101, 121] [] [] (orc := []) (by kernel_rfl) .n (N_then (W_cond (b := t4) (by kernel_rfl) (fun e11 => ?_) (fun e11 => ?_)))
                    · replace h := ite_t e11 h
                      refine W_region ?_
                      obtain ⟨v2, e12, h⟩ := bind_some h
                      exact WL_allI hE (orc := [tU8 v2]) (by kernel_rfl) (.c e12 .n) (N_block (hJ3 (wu8 ((wu8 (v2 - (97 : Int))) + (10 : Int))) h))
                    · replace h := ite_f e11 h
                      refine W_seq (W_region (WL_allC hE [6, 7] [] [] (orc := []) (by kernel_rfl) .n (N_then (W_ret (N_block_ret (N_then_ret (N_block_ret (N_then_ret (N_then_ret (N_block_ret (N_then_ret ?_)))))))))))
                      cases h
                      exact N_end (.inl rfl) (by kernel_rfl)
                  refine WL_splitC 125 (b := decide ((97 : Int) ≤ v1)) (by kernel_rfl) (fun e13 => ?_) (fun e13 => ?_)
                  · replace h := ite_t e13 h
                    obtain ⟨v3, e14, h⟩ := bind_some h
                    exact WL_allI hE (orc := [tU8 v3]) (by kernel_rfl) (.c e14 .n) (hJ6 (decide (v3 ≤ (122 : Int))) h)
                  · replace h := ite_f e13 h
                    exact WL_allI hE (orc := []) (by kernel_rfl) .n (hJ6 false h)
              refine WL_splitC 115 (b := decide ((48 : Int) ≤ x1)) (by kernel_rfl) (fun e15 => ?_) (fun e15 => ?_)
              · rw [and_t e15] at h
                exact WL_allI hE (orc := []) (by kernel_rfl) .n (hJ5 (decide (x1 ≤ (57 : Int))) h)
              · rw [and_f e15] at h
                exact WL_allI hE (orc := []) (by kernel_rfl) .n (hJ5 false h)
            refine WL_splitC 109 (b := x1 == (95 : Int)) (by kernel_rfl) (fun e16 => ?_) (fun e16 => ?_)
            · replace h := ite_t e16 h
              exact WL_allI hE (orc := []) (by kernel_rfl) .n (hJ4 () h)
            · replace h := ite_f e16 h
              exact WL_allI hE (orc := []) (by kernel_rfl) .n (hJ4 () h)
          · replace h := ite_f e3 h
            refine W_exit (N_then_exit (N_then_exit (N_block_exit (N_then (W_seq (W_seq (W_region (WL_allI hE (st' := ⟨[(13, U64 n1), (169, BB false)], [], []⟩) (orc := []) (by kernel_rfl) .n (N_then (W_cond_false (by kernel_rfl) (W_skip (N_then (W_seq (W_region (WL_allC hE [6, 7] [] [] (orc := []) (by kernel_rfl) .n (N_then (W_ret ?_)))))))))))))))))
            cases h
            exact N_end (.inl rfl) (by kernel_rfl)
      refine W_seq (W_region (WL_allC hE [0, 1, 2, 8, 9, 77] [] [] (orc := []) (by kernel_rfl) .n (N_then (W_cond (b := bitsize1 == (0 : Int)) (by kernel_rfl) (fun e17 => ?_) (fun e17 => ?_)))))
      · replace h := ite_t e17 h
        exact W_region (WL_allI hE (orc := []) (by kernel_rfl) .n (hJ6 (64 : Int) h))
      · replace h := ite_f e17 h
        refine W_seq (W_region (WL_tkC hE 3 [0, 1, 2, 8, 9, 80] [] [] (orc := []) (by kernel_rfl) .n (WL_join (α := Bool) (fun z => internal_strconv_ParseUint_16_j7 k s1 bitsize1 z = some (rz1, rz2)) (fun t5 => ⟨[(0, SS s1), (1, I64 (16 : Int)), (2, I64 bitsize1), (8, BB false), (9, SS s1), (83, BB t5)], [], []⟩) 3 ?_ (fun hJ7 => ?_))))
        · rintro t5 h
          unfold internal_strconv_ParseUint_16_j7 at h
          refine WL_nil (N_then (W_cond (b := t5) (by kernel_rfl) (fun e18 => ?_) (fun e18 => ?_)))
          · replace h := ite_t e18 h
            refine W_seq (W_region (WL_allC hE [6, 7] [] [] (orc := []) (by kernel_rfl) .n (N_then (W_ret (N_then_ret ?_)))))
            cases h
            exact N_end (.inl rfl) (by kernel_rfl)
          · replace h := ite_f e18 h
            exact W_skip (N_normI (by kernel_rfl) (hJ6 bitsize1 h))
        refine WL_splitC 80 (b := decide (bitsize1 < (0 : Int))) (by kernel_rfl) (fun e19 => ?_) (fun e19 => ?_)
        · rw [or_t e19] at h
          exact WL_allI hE (orc := []) (by kernel_rfl) .n (hJ7 true h)
        · rw [or_f e19] at h
          exact WL_allI hE (orc := []) (by kernel_rfl) .n (hJ7 (decide ((64 : Int) < bitsize1)) h)

def C_strconv_ParseUint_16 (k : Nat) : FnC := ⟨false, 2, [], fun | [⟨.str, s1⟩, ⟨(.int .i64), const1⟩, ⟨(.int .i64), bitsize1⟩], [⟨(.int .u64), rz1⟩, ⟨.err, rz2⟩] => const1 = (16 : Int) ∧ strconv_ParseUint_16 k s1 bitsize1 = some (rz1, rz2) | _, _ => False⟩
noncomputable def E_strconv_ParseUint_16 (k : Nat) : Env := ⟨Tryd.prog, Gu, 26, [(73, C_internal_strconv_ParseUint_16 k), (74, C_strconv_toError k)]⟩
theorem c_strconv_ParseUint_16 (k : Nat) : Contract Tryd.prog Gu 60 (C_strconv_ParseUint_16 k) := by
  refine contract_of Gu_stable (fn := Tryd.f60) Tryd.func60 (by kernel_rfl) rfl ?_ ?_
  · intro xs rs h
    unfold C_strconv_ParseUint_16 at h
    simp only at h
    split at h
    · exact ⟨by show 3 ≤ _; rw [Tryd.ntmps60]; decide, rfl, fun hf => by cases hf⟩
    · exact h.elim
  · intro w0 M xs rs hG h
    unfold C_strconv_ParseUint_16 at h
    simp only at h
    split at h
    case h_2 => exact h.elim
    rename_i s1 const1 bitsize1 rz1 rz2
    change List UInt8 at s1
    change Int at const1
    change Int at bitsize1
    change Int at rz1
    change Option (Option (Nat × Int)) at rz2
    obtain ⟨rfl, h⟩ := h
    have hE : EnvOK (E_strconv_ParseUint_16 k) ⟨Tryd.prog, Tryd.f60.ntmps, w0, M, fun _ => False, fun _ => undef⟩ := (EnvOK.cons (c_internal_strconv_ParseUint_16 k) (EnvOK.cons (e_strconv_toError k) (EnvOK.nil rfl Tryd.ntmps60 hG)))
    unfold strconv_ParseUint_16 at h
    refine W_seq (W_region (WL_allC hE [0, 1, 2] [] [] (orc := []) (by kernel_rfl) .n (N_then (W_seq (W_region ?_)))))
    obtain ⟨v1, e1, h⟩ := bind_some h
    refine WL_allC hE [0, 1, 2, 8, 9] [] [] (orc := [tU64 v1.1, ⟨.err, v1.2⟩]) (by kernel_rfl) (.c (show (16 : Int) = (16 : Int) ∧ internal_strconv_ParseUint_16 k s1 bitsize1 = some ((v1).1, (v1).2) from ⟨rfl, e1⟩) .n) (N_then (W_seq (W_seq (W_region (WL_allC hE [0, 1, 2, 8, 9, 18] [] [] (orc := []) (by kernel_rfl) .n (N_then (W_cond (b := !Option.isNone v1.2) (by kernel_rfl) (fun e2 => ?_) (fun e2 => ?_))))))))
    · replace h := ite_t e2 h
      refine W_seq (W_region ?_)
      obtain ⟨v2, e3, h⟩ := bind_some h
      refine WL_allI hE (st' := ⟨[(6, U64 v1.1), (7, .val .err v2)], [], []⟩) (orc := [⟨.err, v2⟩]) (by kernel_rfl) (.c e3 .n) (N_then (W_ret (N_then_ret ?_)))
      cases h
      exact N_end (.inl rfl) (by kernel_rfl)
    · replace h := ite_f e2 h
      refine W_skip (N_then (W_seq (W_region (WL_allC hE [6, 7] [] [] (orc := []) (by kernel_rfl) .n (N_then (W_ret ?_))))))
      cases h
      exact N_end (.inl rfl) (by kernel_rfl)

def C_unicode_utf8_ValidRune (k : Nat) : FnC := ⟨true, 1, [], fun | [⟨(.int .i32), r1⟩], [⟨.bool, rz⟩] => unicode_utf8_ValidRune k r1 = some rz | _, _ => False⟩
noncomputable def E_unicode_utf8_ValidRune (k : Nat) : Env := ⟨Tryd.prog, Gu, 17, []⟩
theorem c_unicode_utf8_ValidRune (k : Nat) : Contract Tryd.prog Gu 61 (C_unicode_utf8_ValidRune k) := by
  refine contract_of Gu_stable (fn := Tryd.f61) Tryd.func61 (by kernel_rfl) rfl ?_ ?_
  · intro xs rs h
    unfold C_unicode_utf8_ValidRune at h
    simp only at h
    split at h
    · exact ⟨by show 1 ≤ _; rw [Tryd.ntmps61]; decide, rfl, fun _ u hu => by simp at hu; (rcases hu with rfl) <;> rfl⟩
    · exact h.elim
  · intro w0 M xs rs hG h
    unfold C_unicode_utf8_ValidRune at h
    simp only at h
    split at h
    case h_2 => exact h.elim
    rename_i r1 rz
    change Int at r1
    change Bool at rz
    have hE : EnvOK (E_unicode_utf8_ValidRune k) ⟨Tryd.prog, Tryd.f61.ntmps, w0, M, fun _ => False, fun _ => undef⟩ := (EnvOK.nil rfl Tryd.ntmps61 hG)
    unfold unicode_utf8_ValidRune at h
    refine W_seq (W_region (WL_allC hE [0] [] [] (orc := []) (by kernel_rfl) .n (N_then (W_seq (W_block (W_seq (W_region (WL_tkC hE 3 [0, 6] [] [] (orc := []) (by kernel_rfl) .n (WL_join (α := Bool) (fun z => unicode_utf8_ValidRune_j1 r1 z = some rz) (fun t1 => ⟨[(0, I32 r1), (9, BB t1)], [], []⟩) 3 ?_ (fun hJ1 => ?_))))))))))
    · rintro t1 h
      unfold unicode_utf8_ValidRune_j1 at h
      refine WL_allC hE [0, 3] [] [] (orc := []) (by kernel_rfl) .n (N_then (W_cond (b := t1) (by kernel_rfl) (fun e1 => ?_) (fun e1 => ?_)))
      · replace h := ite_t e1 h
        refine W_seq (W_region (WL_allC hE [2] [] [] (orc := []) (by kernel_rfl) .n (N_then (W_ret (N_block_ret (N_then_ret ?_))))))
        cases h
        exact N_end (.inl rfl) (by kernel_rfl)
      · replace h := ite_f e1 h
        refine W_seq (W_region (WL_tkC hE 3 [0, 13] [] [] (orc := []) (by kernel_rfl) .n (WL_join (α := Bool) (fun z => unicode_utf8_ValidRune_j2 z = some rz) (fun t2 => ⟨[(16, BB t2)], [], []⟩) 3 ?_ (fun hJ2 => ?_))))
        · rintro t2 h
          unfold unicode_utf8_ValidRune_j2 at h
          refine WL_allC hE [10] [] [] (orc := []) (by kernel_rfl) .n (N_then (W_cond (b := t2) (by kernel_rfl) (fun e2 => ?_) (fun e2 => ?_)))
          · replace h := ite_t e2 h
            refine W_seq (W_region (WL_allC hE [2] [] [] (orc := []) (by kernel_rfl) .n (N_then (W_ret (N_block_ret (N_then_ret ?_))))))
            cases h
            exact N_end (.inl rfl) (by kernel_rfl)
          · replace h := ite_f e2 h
            refine W_skip (N_block (N_then (W_seq (W_region (WL_allC hE [2] [] [] (orc := []) (by kernel_rfl) .n (N_then (W_ret ?_)))))))
            cases h
            exact N_end (.inl rfl) (by kernel_rfl)
        refine WL_splitC 13 (b := decide ((57343 : Int) < r1)) (by kernel_rfl) (fun e3 => ?_) (fun e3 => ?_)
        · rw [and_t e3] at h
          exact WL_allI hE (orc := []) (by kernel_rfl) .n (hJ2 (decide (r1 ≤ (1114111 : Int))) h)
        · rw [and_f e3] at h
          exact WL_allI hE (orc := []) (by kernel_rfl) .n (hJ2 false h)
    refine WL_splitC 6 (b := decide ((0 : Int) ≤ r1)) (by kernel_rfl) (fun e4 => ?_) (fun e4 => ?_)
    · rw [and_t e4] at h
      exact WL_allI hE (orc := []) (by kernel_rfl) .n (hJ1 (decide (r1 < (55296 : Int))) h)
    · rw [and_f e4] at h
      exact WL_allI hE (orc := []) (by kernel_rfl) .n (hJ1 false h)

def C_runes_thing (k : Nat) : FnC := ⟨true, 2, [], fun | [⟨.str, s1⟩], [⟨.str, rz1⟩, ⟨(.int .i64), rz2⟩] => runes_thing k s1 = some (rz1, rz2) | _, _ => False⟩
noncomputable def E_runes_thing (k : Nat) : Env := ⟨Tryd.prog, Gu, 111, [(59, C_strings_TrimLeft k), (60, C_strconv_ParseUint_16 k), (45, C_strings_HasPrefix k), (61, C_unicode_utf8_ValidRune k)]⟩
theorem c_runes_thing (k : Nat) : Contract Tryd.prog Gu 46 (C_runes_thing k) := by
  refine contract_of Gu_stable (fn := Tryd.f46) Tryd.func46 (by kernel_rfl) rfl ?_ ?_
  · intro xs rs h
    unfold C_runes_thing at h
    simp only at h
    split at h
    · exact ⟨by show 1 ≤ _; rw [Tryd.ntmps46]; decide, rfl, fun _ u hu => by simp at hu; (rcases hu with rfl | rfl) <;> rfl⟩
    · exact h.elim
  · intro w0 M xs rs hG h
    unfold C_runes_thing at h
    simp only at h
    split at h
    case h_2 => exact h.elim
    rename_i s1 rz1 rz2
    change List UInt8 at s1
    change List UInt8 at rz1
    change Int at rz2
    have hE : EnvOK (E_runes_thing k) ⟨Tryd.prog, Tryd.f46.ntmps, w0, M, fun _ => False, fun _ => undef⟩ := (EnvOK.cons (c_strings_TrimLeft k) (EnvOK.cons (c_strconv_ParseUint_16 k) (EnvOK.cons (c_strings_HasPrefix k) (EnvOK.cons (c_unicode_utf8_ValidRune k) (EnvOK.nil rfl Tryd.ntmps46 hG)))))
    unfold runes_thing at h
    refine W_seq (W_region (WL_allC hE [0] [] [] (orc := []) (by kernel_rfl) .n (N_then (W_seq (W_seq (W_region ?_))))))
    obtain ⟨b1, e1, h⟩ := bind_some h
    refine WL_allC hE [0, 4] [] [] (orc := [tU8 b1]) (by kernel_rfl) (.c e1 .n) (N_then (W_seq (W_region (WL_allC hE [0, 4, 13] [] [] (orc := []) (by kernel_rfl) .n (N_then (W_cond (b := b1 != (92 : Int)) (by kernel_rfl) (fun e2 => ?_) (fun e2 => ?_)))))))
    · replace h := ite_t e2 h
      refine W_seq (W_seq (W_region (WL_tk hE 3 [0, 4, 16] [] [] (st' := ⟨[(0, SS s1), (4, U8 b1), (16, BB (decide (b1 < (32 : Int))))], [], []⟩) (orc := []) (by kernel_rfl) (Obs.all .n) (WL_join (α := Bool) (fun z => runes_thing_j1 s1 z = some (rz1, rz2)) (fun t1 => ⟨[(0, SS s1), (19, BB t1)], [], []⟩) 3 ?_ (fun hJ1 => ?_)))))
      · rintro t1 h
        unfold runes_thing_j1 at h
        refine WL_nil (N_then (W_cond (b := t1) (by kernel_rfl) (fun e3 => ?_) (fun e3 => ?_)))
        · replace h := ite_t e3 h
          refine W_seq (W_region (WL_allC hE [2, 3] [] [] (orc := []) (by kernel_rfl) .n (N_then (W_ret (N_then_ret (N_then_ret ?_))))))
          cases h
          exact N_end (.inl rfl) (by kernel_rfl)
        · replace h := ite_f e3 h
          refine W_skip (N_then (W_seq (W_region ?_)))
          obtain ⟨s2, e4, h⟩ := bind_some h
          refine WL_allC hE [2, 3] [] [] (orc := [tS s2]) (by kernel_rfl) (.c e4 .n) (N_then (W_ret (N_then_ret ?_)))
          cases h
          exact N_end (.inl rfl) (by kernel_rfl)
      refine WL_splitC 16 (b := decide (b1 < (32 : Int))) (by kernel_rfl) (fun e5 => ?_) (fun e5 => ?_)
      · rw [or_t e5] at h
        exact WL_allI hE (orc := []) (by kernel_rfl) .n (hJ1 true h)
      · rw [or_f e5] at h
        exact WL_allI hE (orc := []) (by kernel_rfl) .n (hJ1 (decide ((126 : Int) < b1)) h)
    · replace h := ite_f e2 h
      refine W_skip (N_then (W_seq (W_seq (W_region (WL_allC hE [0, 24] [] [] (orc := []) (by kernel_rfl) .n (N_then (W_cond (b := decide ((List.length s1 : Int) < (2 : Int))) (by kernel_rfl) (fun e6 => ?_) (fun e6 => ?_))))))))
      · replace h := ite_t e6 h
        refine W_seq (W_region (WL_allI hE (st' := ⟨[(2, SS ([] : List UInt8)), (3, I64 (0 : Int))], [], []⟩) (orc := []) (by kernel_rfl) .n (N_then (W_ret (N_then_ret ?_)))))
        cases h
        exact N_end (.inl rfl) (by kernel_rfl)
      · replace h := ite_f e6 h
        refine W_skip (N_then (W_seq (W_region ?_)))
        obtain ⟨s3, e7, h⟩ := bind_some h
        obtain ⟨v1, e8, h⟩ := bind_some h
        refine WL_allC hE [0, 5] [] [] (orc := [tS s3, tS v1]) (by kernel_rfl) (.c e7 (.c e8 .n)) (N_then (W_seq (W_seq (W_region ?_))))
        obtain ⟨b2, e9, h⟩ := bind_some h
        refine WL_allC hE [0, 5, 34] [] [] (orc := [tU8 b2]) (by kernel_rfl) (.c e9 .n) (N_then (W_block (W_join (α := Bool) (fun z => runes_thing_j2 k s1 b2 v1 z = some (rz1, rz2)) (fun t2 => ⟨[(0, SS s1), (5, I64 (wi64 ((wi64 ((List.length s1 : Int) - (2 : Int))) - (List.length v1 : Int)))), (34, U8 b2), (35, BB t2)], [], []⟩) ?_ (fun hJ10 => ?_))))
        · rintro t2 h
          unfold runes_thing_j2 at h
          refine W_cond (b := t2) (by kernel_rfl) (fun e10 => ?_) (fun e10 => ?_)
          · replace h := ite_t e10 h
            refine W_seq (W_region ?_)
            obtain ⟨s4, e11, h⟩ := bind_some h
            refine WL_allC hE [2, 3] [] [] (orc := [tS s4]) (by kernel_rfl) (.c e11 .n) (N_then (W_ret (N_block_ret (N_then_ret ?_))))
            cases h
            exact N_end (.inl rfl) (by kernel_rfl)
          · replace h := ite_f e10 h
            refine W_seq (W_region (WL_allC hE [0, 5, 34, 40] [] [] (orc := []) (by kernel_rfl) .n (N_then (W_cond (b := b2 == (120 : Int)) (by kernel_rfl) (fun e12 => ?_) (fun e12 => ?_)))))
            · replace h := ite_t e12 h
              refine W_seq (W_seq (W_region (WL_tkC hE 3 [0, 44] [] [] (orc := []) (by kernel_rfl) .n (WL_join (α := Bool) (fun z => runes_thing_j3 k s1 z = some (rz1, rz2)) (fun t3 => ⟨[(0, SS s1), (48, BB t3)], [], []⟩) 4 ?_ (fun hJ3 => ?_)))))
              · rintro t3 h
                unfold runes_thing_j3 at h
                refine WL_nil (N_then (W_cond (b := t3) (by kernel_rfl) (fun e13 => ?_) (fun e13 => ?_)))
                · replace h := ite_t e13 h
                  refine W_seq (W_region (WL_allC hE [2, 3] [] [] (orc := []) (by kernel_rfl) .n (N_then (W_ret (N_then_ret (N_block_ret (N_then_ret ?_)))))))
                  cases h
                  exact N_end (.inl rfl) (by kernel_rfl)
                · replace h := ite_f e13 h
                  refine W_skip (N_then (W_seq (W_region ?_)))
                  obtain ⟨s5, e14, h⟩ := bind_some h
                  obtain ⟨v2, e15, h⟩ := bind_some h
                  refine WL_allC hE [6] [] [] (orc := [tS s5, tU64 v2.1, ⟨.err, v2.2⟩]) (by kernel_rfl) (.c e14 (.c (show (16 : Int) = (16 : Int) ∧ strconv_ParseUint_16 k s5 (8 : Int) = some ((v2).1, (v2).2) from ⟨rfl, e15⟩) .n)) (N_then (W_seq (W_region (WL_allC hE [2, 3] [] [] (orc := []) (by kernel_rfl) .n (N_then (W_ret (N_block_ret (N_then_ret ?_))))))))
                  cases h
                  exact N_end (.inl rfl) (by kernel_rfl)
              refine WL_splitC 44 (b := decide ((wi64 ((wi64 ((List.length s1 : Int) - (2 : Int))) - (List.length v1 : Int))) < (2 : Int))) (by kernel_rfl) (fun e16 => ?_) (fun e16 => ?_)
              · replace h := ite_t e16 h
                exact WL_allI hE (orc := []) (by kernel_rfl) .n (hJ3 true h)
              · replace h := ite_f e16 h
                obtain ⟨b3, e17, h⟩ := bind_some h
                exact WL_allI hE (orc := [tU8 b3]) (by kernel_rfl) (.c e17 .n) (hJ3 (decide (b3 < (56 : Int))) h)
            · replace h := ite_f e12 h
              refine W_seq (W_region (WL_allI hE (st' := ⟨[(0, SS s1), (5, I64 (wi64 ((wi64 ((List.length s1 : Int) - (2 : Int))) - (List.length v1 : Int)))), (59, BB (b2 == (117 : Int)))], [], []⟩) (orc := []) (by kernel_rfl) .n (N_then (W_cond (b := b2 == (117 : Int)) (by kernel_rfl) (fun e18 => ?_) (fun e18 => ?_)))))
              · replace h := ite_t e18 h
                refine W_seq (W_region ?_)
                obtain ⟨s6, e19, h⟩ := bind_some h
                obtain ⟨v3, e20, h⟩ := bind_some h
                refine WL_allC hE [0, 5, 8, 9] [] [] (orc := [tS s6, tU64 v3.1, ⟨.err, v3.2⟩]) (by kernel_rfl) (.c e19 (.c (show (16 : Int) = (16 : Int) ∧ strconv_ParseUint_16 k s6 (32 : Int) = some ((v3).1, (v3).2) from ⟨rfl, e20⟩) .n)) (N_then (W_seq (W_seq (W_region (WL_tkC hE 3 [0, 5, 8, 71] [] [] (orc := []) (by kernel_rfl) .n (WL_join (α := Bool) (fun z => runes_thing_j4 k v3 s1 v1 z = some (rz1, rz2)) (fun t4 => ⟨[(0, SS s1), (5, I64 (wi64 ((wi64 ((List.length s1 : Int) - (2 : Int))) - (List.length v1 : Int)))), (8, U64 v3.1), (74, BB t4)], [], []⟩) 3 ?_ (fun hJ4 => ?_)))))))
                · rintro t4 h
                  unfold runes_thing_j4 at h
                  refine WL_tkC hE 1 [0, 5, 8, 75] [] [] (orc := []) (by kernel_rfl) .n (WL_join (α := Bool) (fun z => runes_thing_j5 k v3 s1 v1 z = some (rz1, rz2)) (fun t5 => ⟨[(0, SS s1), (5, I64 (wi64 ((wi64 ((List.length s1 : Int) - (2 : Int))) - (List.length v1 : Int)))), (8, U64 v3.1), (80, BB t5)], [], []⟩) 5 ?_ (fun hJ5 => ?_))
                  · rintro t5 h
                    unfold runes_thing_j5 at h
                    refine WL_tkC hE 1 [0, 5, 8, 81] [] [] (orc := []) (by kernel_rfl) .n (WL_join (α := Bool) (fun z => runes_thing_j6 k v3 s1 v1 z = some (rz1, rz2)) (fun t6 => ⟨[(0, SS s1), (5, I64 (wi64 ((wi64 ((List.length s1 : Int) - (2 : Int))) - (List.length v1 : Int)))), (8, U64 v3.1), (88, BB t6)], [], []⟩) 7 ?_ (fun hJ6 => ?_))
                    · rintro t6 h
                      unfold runes_thing_j6 at h
                      refine WL_tkC hE 1 [0, 5, 8, 89] [] [] (orc := []) (by kernel_rfl) .n (WL_join (α := Bool) (fun z => runes_thing_j7 k v3 s1 v1 z = some (rz1, rz2)) (fun t7 => ⟨[(0, SS s1), (5, I64 (wi64 ((wi64 ((List.length s1 : Int) - (2 : Int))) - (List.length v1 : Int)))), (8, U64 v3.1), (97, BB t7)], [], []⟩) 8 ?_ (fun hJ7 => ?_))
                      · rintro t7 h
                        unfold runes_thing_j7 at h
                        refine WL_tkC hE 1 [0, 5, 8, 98] [] [] (orc := []) (by kernel_rfl) .n (WL_join (α := Bool) (fun z => runes_thing_j8 v3 s1 v1 z = some (rz1, rz2)) (fun t8 => ⟨[(5, I64 (wi64 ((wi64 ((List.length s1 : Int) - (2 : Int))) - (List.length v1 : Int)))), (8, U64 v3.1), (105, BB t8)], [], []⟩) 7 ?_ (fun hJ8 => ?_))
                        · rintro t8 h
                          unfold runes_thing_j8 at h
                          refine WL_nil (N_then (W_cond (b := t8) (by kernel_rfl) (fun e21 => ?_) (fun e21 => ?_)))
                          · replace h := ite_t e21 h
                            refine W_seq (W_region (WL_allC hE [2, 3] [] [] (orc := []) (by kernel_rfl) .n (N_then (W_ret (N_then_ret (N_block_ret (N_then_ret ?_)))))))
                            cases h
                            exact N_end (.inl rfl) (by kernel_rfl)
                          · replace h := ite_f e21 h
                            refine W_skip (N_then (W_seq (W_region (WL_allC hE [2, 3] [] [] (orc := []) (by kernel_rfl) .n (N_then (W_ret (N_block_ret (N_then_ret ?_))))))))
                            cases h
                            exact N_end (.inl rfl) (by kernel_rfl)
                        refine WL_splitC 98 (b := t7) (by kernel_rfl) (fun e22 => ?_) (fun e22 => ?_)
                        · replace h := ite_t e22 h
                          exact WL_allI hE (orc := []) (by kernel_rfl) .n (hJ8 true h)
                        · replace h := ite_f e22 h
                          obtain ⟨s7, e23, h⟩ := bind_some h
                          obtain ⟨v4, e24, h⟩ := bind_some h
                          exact WL_allI hE (orc := [tS s7, tB v4]) (by kernel_rfl) (.c e23 (.c e24 .n)) (hJ8 (!v4) h)
                      refine WL_splitC 89 (b := t6) (by kernel_rfl) (fun e25 => ?_) (fun e25 => ?_)
                      · replace h := ite_t e25 h
                        exact WL_allI hE (orc := []) (by kernel_rfl) .n (hJ7 true h)
                      · replace h := ite_f e25 h
                        obtain ⟨b4, e26, h⟩ := bind_some h
                        refine WL_tkC hE 4 [0, 5, 8, 89, 93] [] [] (orc := [tU8 b4]) (by kernel_rfl) (.c e26 .n) (WL_join (α := Bool) (fun z => runes_thing_j9 k v3 s1 v1 z = some (rz1, rz2)) (fun t9 => ⟨[(0, SS s1), (5, I64 (wi64 ((wi64 ((List.length s1 : Int) - (2 : Int))) - (List.length v1 : Int)))), (8, U64 v3.1), (89, BB false), (96, BB t9)], [], []⟩) 3 ?_ (fun hJ9 => ?_))
                        · rintro t9 h
                          unfold runes_thing_j9 at h
                          exact WL_allI hE (orc := []) (by kernel_rfl) .n (hJ7 t9 h)
                        refine WL_splitC 93 (b := b4 == (48 : Int)) (by kernel_rfl) (fun e27 => ?_) (fun e27 => ?_)
                        · rw [and_t e27] at h
                          exact WL_allI hE (orc := []) (by kernel_rfl) .n (hJ9 (decide ((1 : Int) < (wi64 ((wi64 ((List.length s1 : Int) - (2 : Int))) - (List.length v1 : Int))))) h)
                        · rw [and_f e27] at h
                          exact WL_allI hE (orc := []) (by kernel_rfl) .n (hJ9 false h)
                    refine WL_splitC 81 (b := t5) (by kernel_rfl) (fun e28 => ?_) (fun e28 => ?_)
                    · replace h := ite_t e28 h
                      exact WL_allI hE (orc := []) (by kernel_rfl) .n (hJ6 true h)
                    · replace h := ite_f e28 h
                      refine WL_tkC hE 3 [0, 5, 8, 81, 84] [] [] (orc := []) (by kernel_rfl) .n (WL_join (α := Bool) (fun z => runes_thing_j10 k v3 s1 v1 z = some (rz1, rz2)) (fun t10 => ⟨[(0, SS s1), (5, I64 (wi64 ((wi64 ((List.length s1 : Int) - (2 : Int))) - (List.length v1 : Int)))), (8, U64 v3.1), (81, BB false), (87, BB t10)], [], []⟩) 3 ?_ (fun hJ10 => ?_))
                      · rintro t10 h
                        unfold runes_thing_j10 at h
                        exact WL_allI hE (orc := []) (by kernel_rfl) .n (hJ6 t10 h)
                      refine WL_splitC 84 (b := decide ((32 : Int) ≤ v3.1)) (by kernel_rfl) (fun e29 => ?_) (fun e29 => ?_)
                      · rw [and_t e29] at h
                        exact WL_allI hE (orc := []) (by kernel_rfl) .n (hJ10 (decide (v3.1 ≤ (126 : Int))) h)
                      · rw [and_f e29] at h
                        exact WL_allI hE (orc := []) (by kernel_rfl) .n (hJ10 false h)
                  refine WL_splitC 75 (b := t4) (by kernel_rfl) (fun e30 => ?_) (fun e30 => ?_)
                  · replace h := ite_t e30 h
                    exact WL_allI hE (orc := []) (by kernel_rfl) .n (hJ5 true h)
                  · replace h := ite_f e30 h
                    obtain ⟨v5, e31, h⟩ := bind_some h
                    exact WL_allI hE (orc := [tB v5]) (by kernel_rfl) (.c e31 .n) (hJ5 (!v5) h)
                refine WL_splitC 71 (b := !Option.isNone v3.2) (by kernel_rfl) (fun e32 => ?_) (fun e32 => ?_)
                · rw [or_t e32] at h
                  exact WL_allI hE (orc := []) (by kernel_rfl) .n (hJ4 true h)
                · rw [or_f e32] at h
                  exact WL_allI hE (orc := []) (by kernel_rfl) .n (hJ4 (decide ((1114111 : Int) < v3.1)) h)
              · replace h := ite_f e18 h
                refine W_skip (N_block (N_then (W_seq (W_region (WL_allC hE [2, 3] [] [] (orc := []) (by kernel_rfl) .n (N_then (W_ret ?_)))))))
                cases h
                exact N_end (.inl rfl) (by kernel_rfl)
        refine W_seq (W_region (WL_allC hE [0, 5, 34, 35] [] [] (orc := []) (by kernel_rfl) .n (N_then (W_cond (b := b2 == (34 : Int)) (by kernel_rfl) (fun e33 => ?_) (fun e33 => ?_)))))
        · replace h := ite_t e33 h
          exact W_skip (N_normI (by kernel_rfl) (hJ10 (b2 == (34 : Int)) h))
        · replace h := ite_f e33 h
          exact W_region (WL_allI hE (orc := []) (by kernel_rfl) .n (hJ10 (b2 == (92 : Int)) h))

def B_strings_Builder_Len_i1 (k : Nat) : FnB (List (Int)) Int where
  n := 8
  S := fun z => ⟨[(0, .ptr 8 0)], [(8, .cells [.selfp 8, .row 9] 59)], [(9, ⟨5, (.int .u8), (z)⟩)]⟩
  S' := fun z y => ⟨[], [(8, .cells [.selfp 8, .row 9] 59)], [(9, ⟨5, (.int .u8), (z)⟩)]⟩
  rs := fun z y => [I64 (y)]
  rel := fun z y => strings_Builder_Len_i1 k (z) = some y
noncomputable def E_strings_Builder_Len_i1 (k : Nat) : Env := ⟨Tryd.prog, Gu, 8, []⟩
theorem b_strings_Builder_Len_i1 (k : Nat) : BC Tryd.prog Gu 48 (B_strings_Builder_Len_i1 k) := by
  refine bc_of (fn := Tryd.f48) Tryd.func48 (by kernel_rfl) rfl Tryd.ntmps48 ?_
  rintro cx hP hn hG l1 y0 h
  have hE : EnvOK (E_strings_Builder_Len_i1 k) cx := (EnvOK.nil hP hn hG)
  replace h : strings_Builder_Len_i1 k l1 = some y0 := h
  unfold strings_Builder_Len_i1 at h
  refine W_seq (W_region (WL_allC hE [0] [8] [9] (orc := []) (by kernel_rfl) .n (N_then (W_seq (W_region (WL_allC hE [0, 2] [8] [9] (orc := []) (by kernel_rfl) .n (N_then (W_ret ?_))))))))
  replace h := Option.some.inj h
  subst h
  exact N_normC [0, 2] [8] [9] (by kernel_rfl) (N_endB hE.P [8] [9] (.inl rfl) (by kernel_rfl) (by kernel_rfl))

def C_runes_Plain (k : Nat) : FnC := ⟨true, 3, [], fun | [⟨.str, s1⟩], [⟨.str, rz1⟩, ⟨(.int .i64), rz2⟩, ⟨(.int .i64), rz3⟩] => runes_Plain k s1 = some (rz1, rz2, rz3) | _, _ => False⟩
noncomputable def E_runes_Plain (k : Nat) : Env := ⟨Tryd.prog, Gu, 63, [(45, C_strings_HasPrefix k), (46, C_runes_thing k), (43, C_runes_quote k)]⟩
theorem c_runes_Plain (k : Nat) : Contract Tryd.prog Gu 29 (C_runes_Plain k) := by
  refine contract_of Gu_stable (fn := Tryd.f29) Tryd.func29 (by kernel_rfl) rfl ?_ ?_
  · intro xs rs h
    unfold C_runes_Plain at h
    simp only at h
    split at h
    · exact ⟨by show 1 ≤ _; rw [Tryd.ntmps29]; decide, rfl, fun _ u hu => by simp at hu; (rcases hu with rfl | rfl | rfl) <;> rfl⟩
    · exact h.elim
  · intro w0 M xs rs hG h
    unfold C_runes_Plain at h
    simp only at h
    split at h
    case h_2 => exact h.elim
    rename_i s1 rz1 rz2 rz3
    change List UInt8 at s1
    change List UInt8 at rz1
    change Int at rz2
    change Int at rz3
    have hE : EnvOK (E_runes_Plain k) ⟨Tryd.prog, Tryd.f29.ntmps, w0, M, fun _ => False, fun _ => undef⟩ := (EnvOK.cons (c_strings_HasPrefix k) (EnvOK.cons (c_runes_thing k) (EnvOK.cons (c_runes_quote k) (EnvOK.nil rfl Tryd.ntmps29 hG))))
    unfold runes_Plain at h
    refine W_seq (W_region (WL_allC hE [0] [] [] (orc := []) (by kernel_rfl) .n (N_then (W_seq (W_seq (W_region (WL_allC hE [0, 11] [] [] (orc := []) (by kernel_rfl) .n (N_then (W_cond (b := decide ((1048576 : Int) < (List.length s1 : Int))) (by kernel_rfl) (fun e1 => ?_) (fun e1 => ?_))))))))))
    · replace h := ite_t e1 h
      refine W_seq (W_region (WL_allC hE [2, 3, 4] [] [] (orc := []) (by kernel_rfl) .n (N_then (W_ret (N_then_ret ?_)))))
      cases h
      exact N_end (.inl rfl) (by kernel_rfl)
    · replace h := ite_f e1 h
      refine W_skip (N_then (W_seq (W_seq (W_region ?_))))
      obtain ⟨v1, e2, h⟩ := bind_some h
      refine WL_allI hE (st' := ⟨[(0, SS s1), (14, BB (!v1))], [], []⟩) (orc := [tB v1]) (by kernel_rfl) (.c e2 .n) (N_then (W_cond (b := !v1) (by kernel_rfl) (fun e3 => ?_) (fun e3 => ?_)))
      · replace h := ite_t e3 h
        refine W_seq (W_region (WL_allC hE [2, 3, 4] [] [] (orc := []) (by kernel_rfl) .n (N_then (W_ret (N_then_ret ?_)))))
        cases h
        exact N_end (.inl rfl) (by kernel_rfl)
      · replace h := ite_f e3 h
        refine W_skip (N_then (W_seq (W_region (WL_allC hE [0, 5] [5] [1000005] (orc := []) (by kernel_rfl) .n (N_then (W_seq (W_region (WL_allI hE (orc := []) (by kernel_rfl) .n (N_then (W_seq (W_block (W_loop (α := (Int × List (Int))) (fun n z => runes_Plain_l1 k s1 n z.1 z.2 = some (rz1, rz2, rz3)) (fun z => ⟨[(0, SS s1), (5, .ptr 5 0), (6, I64 (z.1))], [(5, .cells [.selfp 5, .row 1000005] 59)], [(1000005, ⟨5, (.int .u8), (z.2)⟩)]⟩) ?_ (k := k) (x := ((1 : Int), ([] : List (Int)))) h))))))))))))
        clear h
        rintro fuel1 ⟨at1, t1⟩ h
        cases fuel1 with
        | zero => exact absurd (show none = some _ from h) (by simp)
        | succ fuel1 =>
          have h : runes_Plain_b1 k s1 (runes_Plain_l1 k s1 fuel1) at1 t1 = some (rz1, rz2, rz3) := h
          unfold runes_Plain_b1 at h
          refine W_seq (W_seq (W_region (WL_tkC hE 5 [0, 5, 6, 19] [5] [1000005] (orc := []) (by kernel_rfl) .n (WL_join (α := Bool) (fun z => runes_Plain_j1 k s1 at1 t1 (runes_Plain_l1 k s1 fuel1) z = some (rz1, rz2, rz3)) (fun t2 => ⟨[(0, SS s1), (5, .ptr 5 0), (6, I64 at1), (24, BB t2)], [(5, .cells [.selfp 5, .row 1000005] 59)], [(1000005, ⟨5, (.int .u8), t1⟩)]⟩) 5 ?_ (fun hJ1 => ?_)))))
          · rintro t2 h
            unfold runes_Plain_j1 at h
            refine WL_nil (N_then (W_cond (b := t2) (by kernel_rfl) (fun e4 => ?_) (fun e4 => ?_)))
            · replace h := ite_t e4 h
              refine W_skip (N_then (W_block (W_seq (W_region ?_))))
              obtain ⟨s2, e5, h⟩ := bind_some h
              obtain ⟨v2, e6, h⟩ := bind_some h
              refine WL_allC hE [0, 5, 6, 7, 8] [5] [1000005] (orc := [tS s2, tS v2.1, tI64 v2.2]) (by kernel_rfl) (.c e5 (.c e6 .n)) (N_then (W_seq (W_seq (W_region (WL_allC hE [0, 5, 6, 7, 8, 33] [5] [1000005] (orc := []) (by kernel_rfl) .n (N_then (W_cond (b := v2.2 == (0 : Int)) (by kernel_rfl) (fun e7 => ?_) (fun e7 => ?_))))))))
              · replace h := ite_t e7 h
                refine W_seq (W_region (WL_allC hE [2, 3, 4] [] [] (orc := []) (by kernel_rfl) .n (N_then (W_ret (N_then_ret (N_block_ret (N_then_ret (N_block_ret (N_then_ret ?_)))))))))
                cases h
                exact N_end (.inl rfl) (by kernel_rfl)
              · replace h := ite_f e7 h
                refine W_skip (N_then (W_seq (W_region (WL_tk hE 1 [0, 5, 6, 8, 35] [5] [1000005] (st' := ⟨[(0, SS s1), (5, .ptr 5 0), (6, I64 at1), (8, I64 v2.2), (35, SS v2.1)], [(5, .cells [.selfp 5, .row 1000005] 59)], [(1000005, ⟨5, (.int .u8), t1⟩)]⟩) (orc := []) (by kernel_rfl) (Obs.all .n) ?_))))
                obtain ⟨v3, e8, h⟩ := bind_some h
                exact WL_callBC hE (b_strings_Builder_WriteString_i1 k) (v2.1, t1) v3 e8 (ρ := [(5, 19), (1000005, 20)]) (ρ' := [(19, 5), (20, 1000005)]) (n := 19) (by kernel_rfl) [0, 5, 6, 8] [5] [1000005] (by kernel_rfl) (by kernel_rfl) (by kernel_rfl) (WL_nil (N_then (W_region (WL_allI hE (orc := []) (by kernel_rfl) .n (N_block (N_round (wi64 (at1 + v2.2), v3.2.2) (Nat.lt_succ_self _) h))))))
            · replace h := ite_f e4 h
              refine W_exit (N_then_exit (N_then_exit (N_block_exit (N_then (W_seq (W_block (W_seq (W_region (WL_allC hE [0, 5, 6, 40] [5] [1000005] (orc := []) (by kernel_rfl) .n (N_then (W_cond (b := decide ((List.length s1 : Int) ≤ at1)) (by kernel_rfl) (fun e9 => ?_) (fun e9 => ?_))))))))))))
              · replace h := ite_t e9 h
                refine W_seq (W_region (WL_allC hE [2, 3, 4] [] [] (orc := []) (by kernel_rfl) .n (N_then (W_ret (N_block_ret (N_then_ret ?_))))))
                cases h
                exact N_end (.inl rfl) (by kernel_rfl)
              · replace h := ite_f e9 h
                refine W_seq (W_region (WL_allI hE (st' := ⟨[(0, SS s1), (5, .ptr 5 0), (6, I64 at1), (46, BB (decide ((wi64 (at1 + (1 : Int))) < (List.length s1 : Int))))], [(5, .cells [.selfp 5, .row 1000005] 59)], [(1000005, ⟨5, (.int .u8), t1⟩)]⟩) (orc := []) (by kernel_rfl) .n (N_then (W_cond (b := decide ((wi64 (at1 + (1 : Int))) < (List.length s1 : Int))) (by kernel_rfl) (fun e10 => ?_) (fun e10 => ?_)))))
                · replace h := ite_t e10 h
                  refine W_seq (W_region (WL_allC hE [2, 3, 4] [] [] (orc := []) (by kernel_rfl) .n (N_then (W_ret (N_block_ret (N_then_ret ?_))))))
                  cases h
                  exact N_end (.inl rfl) (by kernel_rfl)
                · replace h := ite_f e10 h
                  refine W_seq (W_region ?_)
                  obtain ⟨v4, e11, h⟩ := bind_some h
                  refine WL_callBC hE (b_strings_Builder_Len_i1 k) t1 v4 e11 (ρ := [(5, 8), (1000005, 9)]) (ρ' := [(8, 5), (9, 1000005)]) (n := 8) (by kernel_rfl) [0, 5, 55] [5] [1000005] (by kernel_rfl) (by kernel_rfl) (by kernel_rfl) (WL_allC hE [0, 5, 54] [5] [1000005] (orc := []) (by kernel_rfl) .n (N_then (W_cond (b := decide ((65536 : Int) < v4)) (by kernel_rfl) (fun e12 => ?_) (fun e12 => ?_))))
                  · replace h := ite_t e12 h
                    refine W_seq (W_region (WL_allI hE (st' := ⟨[(2, SS ([] : List UInt8)), (3, I64 (0 : Int)), (4, I64 (3 : Int))], [], []⟩) (orc := []) (by kernel_rfl) .n (N_then (W_ret (N_block_ret (N_then_ret ?_))))))
                    cases h
                    exact N_end (.inl rfl) (by kernel_rfl)
                  · replace h := ite_f e12 h
                    refine W_seq (W_region ?_)
                    obtain ⟨v5, e13, h⟩ := bind_some h
                    refine WL_callBC hE (eb_bld_StringK k) t1 v5 e13 (ρ := [(5, 14), (1000005, 15)]) (ρ' := [(14, 5)]) (n := 14) (by kernel_rfl) [0, 5, 58] [5] [] (by kernel_rfl) (by kernel_rfl) (by kernel_rfl) ?_
                    obtain ⟨v6, e14, h⟩ := bind_some h
                    refine WL_allC hE [5, 57] [5] [] (orc := [tS v6]) (by kernel_rfl) (.c e14 .n) (N_then (W_cond (b := !(v6 == s1)) (by kernel_rfl) (fun e15 => ?_) (fun e15 => ?_)))
                    · replace h := ite_t e15 h
                      refine W_seq (W_region (WL_allC hE [2, 3, 4] [] [] (orc := []) (by kernel_rfl) .n (N_then (W_ret (N_block_ret (N_then_ret ?_))))))
                      cases h
                      exact N_end (.inl rfl) (by kernel_rfl)
                    · replace h := ite_f e15 h
                      refine W_skip (N_block (N_then (W_seq (W_region ?_))))
                      obtain ⟨v7, e16, h⟩ := bind_some h
                      refine WL_callBC hE (eb_bld_StringR k) t1 v7 e16 (ρ := [(5, 14)]) (ρ' := [(14, 5)]) (n := 14) (by kernel_rfl) [62] [] [] (by kernel_rfl) (by kernel_rfl) (by kernel_rfl) (WL_allI hE (st' := ⟨[(2, SS v7), (3, I64 (0 : Int)), (4, I64 (0 : Int))], [], []⟩) (orc := []) (by kernel_rfl) .n (N_then (W_ret ?_)))
                      cases h
                      exact N_end (.inl rfl) (by kernel_rfl)
          refine WL_splitC 19 (b := decide (at1 < (List.length s1 : Int))) (by kernel_rfl) (fun e17 => ?_) (fun e17 => ?_)
          · replace h := ite_t e17 h
            obtain ⟨b1, e18, h⟩ := bind_some h
            exact WL_allI hE (orc := [tU8 b1]) (by kernel_rfl) (.c e18 .n) (hJ1 (b1 != (34 : Int)) h)
          · replace h := ite_f e17 h
            exact WL_allI hE (orc := []) (by kernel_rfl) .n (hJ1 false h)

def C_r01_worth (k : Nat) : FnC := ⟨true, 1, [], fun | [⟨(.int .u8), b1⟩], [⟨(.int .i64), rz⟩] => r01_worth k b1 = some rz | _, _ => False⟩
noncomputable def E_r01_worth (k : Nat) : Env := ⟨Tryd.prog, Gu, 24, []⟩
theorem c_r01_worth (k : Nat) : Contract Tryd.prog Gu 63 (C_r01_worth k) := by
  refine contract_of Gu_stable (fn := Tryd.f63) Tryd.func63 (by kernel_rfl) rfl ?_ ?_
  · intro xs rs h
    unfold C_r01_worth at h
    simp only at h
    split at h
    · exact ⟨by show 1 ≤ _; rw [Tryd.ntmps63]; decide, rfl, fun _ u hu => by simp at hu; (rcases hu with rfl) <;> rfl⟩
    · exact h.elim
  · intro w0 M xs rs hG h
    unfold C_r01_worth at h
    simp only at h
    split at h
    case h_2 => exact h.elim
    rename_i b1 rz
    change Int at b1
    change Int at rz
    have hE : EnvOK (E_r01_worth k) ⟨Tryd.prog, Tryd.f63.ntmps, w0, M, fun _ => False, fun _ => undef⟩ := (EnvOK.nil rfl Tryd.ntmps63 hG)
    unfold r01_worth at h
    refine W_seq (W_region (WL_allC hE [0] [] [] (orc := []) (by kernel_rfl) .n (N_then (W_seq (W_block (W_seq (W_region (WL_tkC hE 3 [0, 6] [] [] (orc := []) (by kernel_rfl) .n (WL_join (α := Bool) (fun z => r01_worth_j1 b1 z = some rz) (fun t1 => ⟨[(0, U8 b1), (9, BB t1)], [], []⟩) 3 ?_ (fun hJ1 => ?_))))))))))
    · rintro t1 h
      unfold r01_worth_j1 at h
      refine WL_allC hE [0, 3] [] [] (orc := []) (by kernel_rfl) .n (N_then (W_cond (b := t1) (by kernel_rfl) (fun e1 => ?_) (fun e1 => ?_)))
      · replace h := ite_t e1 h
        refine W_seq (W_region (WL_allC hE [2] [] [] (orc := []) (by kernel_rfl) .n (N_then (W_ret (N_block_ret (N_then_ret ?_))))))
        cases h
        exact N_end (.inl rfl) (by kernel_rfl)
      · replace h := ite_f e1 h
        refine W_seq (W_region (WL_tkC hE 3 [0, 16] [] [] (orc := []) (by kernel_rfl) .n (WL_join (α := Bool) (fun z => r01_worth_j2 b1 z = some rz) (fun t2 => ⟨[(0, U8 b1), (19, BB t2)], [], []⟩) 3 ?_ (fun hJ2 => ?_))))
        · rintro t2 h
          unfold r01_worth_j2 at h
          refine WL_allC hE [0, 13] [] [] (orc := []) (by kernel_rfl) .n (N_then (W_cond (b := t2) (by kernel_rfl) (fun e2 => ?_) (fun e2 => ?_)))
          · replace h := ite_t e2 h
            refine W_seq (W_region (WL_allC hE [2] [] [] (orc := []) (by kernel_rfl) .n (N_then (W_ret (N_block_ret (N_then_ret ?_))))))
            cases h
            exact N_end (.inl rfl) (by kernel_rfl)
          · replace h := ite_f e2 h
            refine W_skip (N_block (N_then (W_seq (W_region (WL_allC hE [2] [] [] (orc := []) (by kernel_rfl) .n (N_then (W_ret ?_)))))))
            cases h
            exact N_end (.inl rfl) (by kernel_rfl)
        refine WL_splitC 16 (b := decide ((97 : Int) ≤ b1)) (by kernel_rfl) (fun e3 => ?_) (fun e3 => ?_)
        · rw [and_t e3] at h
          exact WL_allI hE (orc := []) (by kernel_rfl) .n (hJ2 (decide (b1 ≤ (102 : Int))) h)
        · rw [and_f e3] at h
          exact WL_allI hE (orc := []) (by kernel_rfl) .n (hJ2 false h)
    refine WL_splitC 6 (b := decide ((48 : Int) ≤ b1)) (by kernel_rfl) (fun e4 => ?_) (fun e4 => ?_)
    · rw [and_t e4] at h
      exact WL_allI hE (orc := []) (by kernel_rfl) .n (hJ1 (decide (b1 ≤ (57 : Int))) h)
    · rw [and_f e4] at h
      exact WL_allI hE (orc := []) (by kernel_rfl) .n (hJ1 false h)

def C_r01_one (k : Nat) : FnC := ⟨false, 1, [], fun | [⟨(.int .i32), r1⟩], [⟨(.sl (.int .u8)), rz⟩] => r01_one k r1 = some rz | _, _ => False⟩
noncomputable def E_r01_one (k : Nat) : Env := ⟨Tryd.prog, Gu, 60, [(53, C_r01_Rune k)]⟩
theorem c_r01_one (k : Nat) : Contract Tryd.prog Gu 41 (C_r01_one k) := by
  refine contract_of Gu_stable (fn := Tryd.f41) Tryd.func41 (by kernel_rfl) rfl ?_ ?_
  · intro xs rs h
    unfold C_r01_one at h
    simp only at h
    split at h
    · exact ⟨by show 1 ≤ _; rw [Tryd.ntmps41]; decide, rfl, fun hf => by cases hf⟩
    · exact h.elim
  · intro w0 M xs rs hG h
    unfold C_r01_one at h
    simp only at h
    split at h
    case h_2 => exact h.elim
    rename_i r1 rz
    change Int at r1
    change List (Int) at rz
    have hE : EnvOK (E_r01_one k) ⟨Tryd.prog, Tryd.f41.ntmps, w0, M, fun _ => False, fun _ => undef⟩ := (EnvOK.cons (c_r01_Rune k) (EnvOK.nil rfl Tryd.ntmps41 hG))
    unfold r01_one at h
    refine W_seq (W_region (WL_allC hE [0] [] [] (orc := []) (by kernel_rfl) .n (N_then (W_join (α := Int) (fun z => r01_one_j1 z = some rz) (fun r2 => ⟨[(0, I32 r2)], [], []⟩) ?_ (fun hJ1 => ?_)))))
    · rintro r2 h
      unfold r01_one_j1 at h
      refine W_seq (W_block (W_seq (W_region (WL_allC hE [0, 6] [] [] (orc := []) (by kernel_rfl) .n (N_then (W_cond (b := decide (r2 < (128 : Int))) (by kernel_rfl) (fun e1 => ?_) (fun e1 => ?_)))))))
      · replace h := ite_t e1 h
        refine W_seq (W_region (WL_allC hE [2] [] [11] (orc := []) (by kernel_rfl) .n (N_then (W_ret (N_block_ret (N_then_ret ?_))))))
        cases h
        exact N_end (.inl rfl) (by kernel_rfl)
      · replace h := ite_f e1 h
        refine W_seq (W_region (WL_allC hE [0, 12] [] [] (orc := []) (by kernel_rfl) .n (N_then (W_cond (b := decide (r2 < (2048 : Int))) (by kernel_rfl) (fun e2 => ?_) (fun e2 => ?_)))))
        · replace h := ite_t e2 h
          refine W_seq (W_region ?_)
          obtain ⟨_, e3, h⟩ := bind_some h
          replace e3 := chk_some e3
          obtain ⟨_, e4, h⟩ := bind_some h
          replace e4 := chk_some e4
          refine WL_allI hE (st' := ⟨[(2, .row 23)], [], [(23, ⟨5, (.int .u8), ([wu8 (wi32 ((192 : Int) + (wi32 (Int.tdiv r2 (64 : Int))))), wu8 (wi32 ((128 : Int) + (Int.tmod r2 (64 : Int))))] : List (Int))⟩)]⟩) (orc := []) (by kernel_rfl) (.c e3 (.c e4 .n)) (N_then (W_ret (N_block_ret (N_then_ret ?_))))
          cases h
          exact N_end (.inl rfl) (by kernel_rfl)
        · replace h := ite_f e2 h
          refine W_seq (W_region (WL_allC hE [0, 24] [] [] (orc := []) (by kernel_rfl) .n (N_then (W_cond (b := decide (r2 < (65536 : Int))) (by kernel_rfl) (fun e5 => ?_) (fun e5 => ?_)))))
          · replace h := ite_t e5 h
            refine W_seq (W_region ?_)
            obtain ⟨_, e6, h⟩ := bind_some h
            replace e6 := chk_some e6
            obtain ⟨_, e7, h⟩ := bind_some h
            replace e7 := chk_some e7
            obtain ⟨_, e8, h⟩ := bind_some h
            replace e8 := chk_some e8
            obtain ⟨_, e9, h⟩ := bind_some h
            replace e9 := chk_some e9
            refine WL_allC hE [2] [] [40] (orc := []) (by kernel_rfl) (.c e6 (.c e7 (.c e8 (.c e9 .n)))) (N_then (W_ret (N_block_ret (N_then_ret ?_))))
            cases h
            exact N_end (.inl rfl) (by kernel_rfl)
          · replace h := ite_f e5 h
            refine W_skip (N_block (N_then (W_seq (W_region ?_))))
            obtain ⟨_, e10, h⟩ := bind_some h
            replace e10 := chk_some e10
            obtain ⟨_, e11, h⟩ := bind_some h
            replace e11 := chk_some e11
            obtain ⟨_, e12, h⟩ := bind_some h
            replace e12 := chk_some e12
            obtain ⟨_, e13, h⟩ := bind_some h
            replace e13 := chk_some e13
            obtain ⟨_, e14, h⟩ := bind_some h
            replace e14 := chk_some e14
            obtain ⟨_, e15, h⟩ := bind_some h
            replace e15 := chk_some e15
            refine WL_allC hE [2] [] [59] (orc := []) (by kernel_rfl) (.c e10 (.c e11 (.c e12 (.c e13 (.c e14 (.c e15 .n)))))) (N_then (W_ret ?_))
            cases h
            exact N_end (.inl rfl) (by kernel_rfl)
    refine W_seq (W_region ?_)
    obtain ⟨v1, e16, h⟩ := bind_some h
    refine WL_allI hE (st' := ⟨[(0, I32 r1), (5, BB (!v1))], [], []⟩) (orc := [tB v1]) (by kernel_rfl) (.c e16 .n) (N_then (W_cond (b := !v1) (by kernel_rfl) (fun e17 => ?_) (fun e17 => ?_)))
    · replace h := ite_t e17 h
      exact W_region (WL_allI hE (orc := []) (by kernel_rfl) .n (hJ1 (65533 : Int) h))
    · replace h := ite_f e17 h
      exact W_skip (N_normI (by kernel_rfl) (hJ1 r1 h))

def C_r01_thing (k : Nat) : FnC := ⟨false, 2, [], fun | [⟨.str, s1⟩, ⟨(.int .i64), at1⟩], [⟨(.sl (.int .u8)), rz1⟩, ⟨(.int .i64), rz2⟩] => r01_thing k s1 at1 = some (rz1, rz2) | _, _ => False⟩
noncomputable def E_r01_thing (k : Nat) : Env := ⟨Tryd.prog, Gu, 161, [(63, C_r01_worth k), (41, C_r01_one k), (64, C_r01_number k), (53, C_r01_Rune k)]⟩
theorem c_r01_thing (k : Nat) : Contract Tryd.prog Gu 50 (C_r01_thing k) := by
  refine contract_of Gu_stable (fn := Tryd.f50) Tryd.func50 (by kernel_rfl) rfl ?_ ?_
  · intro xs rs h
    unfold C_r01_thing at h
    simp only at h
    split at h
    · exact ⟨by show 2 ≤ _; rw [Tryd.ntmps50]; decide, rfl, fun hf => by cases hf⟩
    · exact h.elim
  · intro w0 M xs rs hG h
    unfold C_r01_thing at h
    simp only at h
    split at h
    case h_2 => exact h.elim
    rename_i s1 at1 rz1 rz2
    change List UInt8 at s1
    change Int at at1
    change List (Int) at rz1
    change Int at rz2
    have hE : EnvOK (E_r01_thing k) ⟨Tryd.prog, Tryd.f50.ntmps, w0, M, fun _ => False, fun _ => undef⟩ := (EnvOK.cons (c_r01_worth k) (EnvOK.cons (c_r01_one k) (EnvOK.cons (c_r01_number k) (EnvOK.cons (c_r01_Rune k) (EnvOK.nil rfl Tryd.ntmps50 hG)))))
    unfold r01_thing at h
    refine W_seq (W_region (WL_allC hE [0, 1] [] [] (orc := []) (by kernel_rfl) .n (N_then (W_seq (W_region ?_)))))
    obtain ⟨b1, e1, h⟩ := bind_some h
    refine WL_allC hE [0, 1, 6] [] [] (orc := [tU8 b1]) (by kernel_rfl) (.c e1 .n) (N_then (W_seq (W_seq (W_region (WL_allC hE [0, 1, 6, 13] [] [] (orc := []) (by kernel_rfl) .n (N_then (W_cond (b := b1 != (92 : Int)) (by kernel_rfl) (fun e2 => ?_) (fun e2 => ?_))))))))
    · replace h := ite_t e2 h
      refine W_seq (W_seq (W_region (WL_tk hE 3 [6, 16] [] [] (st' := ⟨[(6, U8 b1), (16, BB (decide ((32 : Int) ≤ b1)))], [], []⟩) (orc := []) (by kernel_rfl) (Obs.all .n) (WL_join (α := Bool) (fun z => r01_thing_j1 b1 z = some (rz1, rz2)) (fun t1 => ⟨[(6, U8 b1), (19, BB t1)], [], []⟩) 3 ?_ (fun hJ1 => ?_)))))
      · rintro t1 h
        unfold r01_thing_j1 at h
        refine WL_tkC hE 1 [6, 20] [] [] (orc := []) (by kernel_rfl) .n (WL_join (α := Bool) (fun z => r01_thing_j2 b1 z = some (rz1, rz2)) (fun t2 => ⟨[(6, U8 b1), (23, BB t2)], [], []⟩) 3 ?_ (fun hJ2 => ?_))
        · rintro t2 h
          unfold r01_thing_j2 at h
          refine WL_nil (N_then (W_cond (b := t2) (by kernel_rfl) (fun e3 => ?_) (fun e3 => ?_)))
          · replace h := ite_t e3 h
            refine W_seq (W_region (WL_allC hE [4, 5] [] [25] (orc := []) (by kernel_rfl) .n (N_then (W_ret (N_then_ret (N_then_ret ?_))))))
            cases h
            exact N_end (.inl rfl) (by kernel_rfl)
          · replace h := ite_f e3 h
            refine W_skip (N_then (W_seq (W_region (WL_allC hE [4, 5] [] [4] (orc := []) (by kernel_rfl) .n (N_then (W_ret (N_then_ret ?_)))))))
            cases h
            exact N_end (.inl rfl) (by kernel_rfl)
        refine WL_splitC 20 (b := t1) (by kernel_rfl) (fun e4 => ?_) (fun e4 => ?_)
        · rw [and_t e4] at h
          exact WL_allI hE (orc := []) (by kernel_rfl) .n (hJ2 (b1 != (34 : Int)) h)
        · rw [and_f e4] at h
          exact WL_allI hE (orc := []) (by kernel_rfl) .n (hJ2 false h)
      refine WL_splitC 16 (b := decide ((32 : Int) ≤ b1)) (by kernel_rfl) (fun e5 => ?_) (fun e5 => ?_)
      · rw [and_t e5] at h
        exact WL_allI hE (orc := []) (by kernel_rfl) .n (hJ1 (decide (b1 ≤ (126 : Int))) h)
      · rw [and_f e5] at h
        exact WL_allI hE (orc := []) (by kernel_rfl) .n (hJ1 false h)
    · replace h := ite_f e2 h
      refine W_skip (N_then (W_seq (W_seq (W_region (WL_allC hE [0, 1, 30] [] [] (orc := []) (by kernel_rfl) .n (N_then (W_cond (b := decide ((List.length s1 : Int) ≤ (wi64 (at1 + (1 : Int))))) (by kernel_rfl) (fun e6 => ?_) (fun e6 => ?_))))))))
      · replace h := ite_t e6 h
        refine W_seq (W_region (WL_allI hE (st' := ⟨[(4, .row 4), (5, I64 (0 : Int))], [], [(4, ⟨5, (.int .u8), ([] : List (Int))⟩)]⟩) (orc := []) (by kernel_rfl) .n (N_then (W_ret (N_then_ret ?_)))))
        cases h
        exact N_end (.inl rfl) (by kernel_rfl)
      · replace h := ite_f e6 h
        refine W_skip (N_then (W_join (α := Unit) (fun _ => r01_thing_j3 = some (rz1, rz2)) (fun _ => ⟨[], [], []⟩) ?_ (fun hJ3 => ?_)))
        · rintro _ h
          unfold r01_thing_j3 at h
          refine W_seq (W_region (WL_allC hE [4, 5] [] [4] (orc := []) (by kernel_rfl) .n (N_then (W_ret ?_))))
          cases h
          exact N_end (.inl rfl) (by kernel_rfl)
        refine W_seq (W_region ?_)
        obtain ⟨b2, e7, h⟩ := bind_some h
        refine WL_allC hE [0, 1, 34] [] [] (orc := [tU8 b2]) (by kernel_rfl) (.c e7 .n) (N_then (W_block (W_join (α := Bool) (fun z => r01_thing_j4 k s1 at1 b2 z = some (rz1, rz2)) (fun t3 => ⟨[(0, SS s1), (1, I64 at1), (34, U8 b2), (35, BB t3)], [], []⟩) ?_ (fun hJ15 => ?_))))
        · rintro t3 h
          unfold r01_thing_j4 at h
          refine W_cond (b := t3) (by kernel_rfl) (fun e8 => ?_) (fun e8 => ?_)
          · replace h := ite_t e8 h
            refine W_seq (W_region ?_)
            obtain ⟨b3, e9, h⟩ := bind_some h
            refine WL_allC hE [4, 5] [] [42] (orc := [tU8 b3]) (by kernel_rfl) (.c e9 .n) (N_then (W_ret (N_block_ret (N_then_ret ?_))))
            cases h
            exact N_end (.inl rfl) (by kernel_rfl)
          · replace h := ite_f e8 h
            refine W_seq (W_region (WL_allC hE [0, 1, 34, 43] [] [] (orc := []) (by kernel_rfl) .n (N_then (W_cond (b := b2 == (120 : Int)) (by kernel_rfl) (fun e10 => ?_) (fun e10 => ?_)))))
            · replace h := ite_t e10 h
              refine W_seq (W_region (WL_tkC hE 6 [0, 1, 50] [] [] (orc := []) (by kernel_rfl) .n (WL_join (α := Bool) (fun z => r01_thing_j5 k s1 at1 z = some (rz1, rz2)) (fun t4 => ⟨[(0, SS s1), (1, I64 at1), (57, BB t4)], [], []⟩) 7 ?_ (fun hJ5 => ?_))))
              · rintro t4 h
                unfold r01_thing_j5 at h
                refine WL_tkC hE 1 [0, 1, 58] [] [] (orc := []) (by kernel_rfl) .n (WL_join (α := Bool) (fun z => r01_thing_j6 k s1 at1 z = some (rz1, rz2)) (fun t5 => ⟨[(0, SS s1), (1, I64 at1), (65, BB t5)], [], []⟩) 7 ?_ (fun hJ6 => ?_))
                · rintro t5 h
                  unfold r01_thing_j6 at h
                  refine WL_nil (N_then (W_cond (b := t5) (by kernel_rfl) (fun e11 => ?_) (fun e11 => ?_)))
                  · replace h := ite_t e11 h
                    refine W_seq ?_
                    obtain ⟨b4, e12, h⟩ := bind_some h
                    obtain ⟨v1, e13, h⟩ := bind_some h
                    obtain ⟨b5, e14, h⟩ := bind_some h
                    obtain ⟨v2, e15, h⟩ := bind_some h
                    refine W_tailC hE 13 [78] [] [] (orc := [tU8 b4, tI64 v1, tU8 b5, tI64 v2]) (by kernel_rfl) (by kernel_rfl) (by kernel_rfl) (.c e12 (.c e13 (.c e14 (.c e15 .n)))) (WL_allC hE [4, 5] [] [79] (orc := []) (by kernel_rfl) .n (N_then (W_ret (N_block_ret (N_then_ret ?_)))))
                    cases h
                    exact N_end (.inl rfl) (by kernel_rfl)
                  · replace h := ite_f e11 h
                    exact W_skip (N_block (N_normI (by kernel_rfl) (hJ3 () h)))
                refine WL_splitC 58 (b := t4) (by kernel_rfl) (fun e16 => ?_) (fun e16 => ?_)
                · replace h := ite_t e16 h
                  obtain ⟨b6, e17, h⟩ := bind_some h
                  obtain ⟨v3, e18, h⟩ := bind_some h
                  exact WL_allI hE (orc := [tU8 b6, tI64 v3]) (by kernel_rfl) (.c e17 (.c e18 .n)) (hJ6 (decide ((0 : Int) ≤ v3)) h)
                · replace h := ite_f e16 h
                  exact WL_allI hE (orc := []) (by kernel_rfl) .n (hJ6 false h)
              refine WL_splitC 50 (b := decide ((wi64 (at1 + (3 : Int))) < (List.length s1 : Int))) (by kernel_rfl) (fun e19 => ?_) (fun e19 => ?_)
              · replace h := ite_t e19 h
                obtain ⟨b7, e20, h⟩ := bind_some h
                obtain ⟨v4, e21, h⟩ := bind_some h
                exact WL_allI hE (orc := [tU8 b7, tI64 v4]) (by kernel_rfl) (.c e20 (.c e21 .n)) (hJ5 (decide ((8 : Int) ≤ v4)) h)
              · replace h := ite_f e19 h
                exact WL_allI hE (orc := []) (by kernel_rfl) .n (hJ5 false h)
            · replace h := ite_f e10 h
              refine W_seq (W_region (WL_allC hE [0, 1, 80] [] [] (orc := []) (by kernel_rfl) .n (N_then (W_cond (b := b2 == (117 : Int)) (by kernel_rfl) (fun e22 => ?_) (fun e22 => ?_)))))
              · replace h := ite_t e22 h
                refine W_seq (W_region (WL_allI hE (st' := ⟨[(0, SS s1), (1, I64 at1), (7, I64 (wi64 (at1 + (2 : Int))))], [], []⟩) (orc := []) (by kernel_rfl) .n (N_then (W_seq (W_region (WL_allI hE (orc := []) (by kernel_rfl) .n (N_then (W_seq (W_block (W_loop (α := (Int × Int)) (fun n z => r01_thing_l1 k s1 at1 n z.1 z.2 = some (rz1, rz2)) (fun z => ⟨[(0, SS s1), (1, I64 at1), (7, I64 (z.1)), (8, I64 (z.2))], [], []⟩) ?_ (k := k) (x := (wi64 (at1 + (2 : Int)), (0 : Int))) h))))))))))
                clear h
                rintro fuel1 ⟨k1, r1⟩ h
                cases fuel1 with
                | zero => exact absurd (show none = some _ from h) (by simp)
                | succ fuel1 =>
                  have h : r01_thing_b1 k s1 at1 (r01_thing_l1 k s1 at1 fuel1) k1 r1 = some (rz1, rz2) := h
                  unfold r01_thing_b1 at h
                  refine W_seq (W_seq (W_region (WL_tkC hE 5 [0, 1, 7, 8, 88] [] [] (orc := []) (by kernel_rfl) .n (WL_join (α := Bool) (fun z => r01_thing_j7 k s1 k1 (r01_thing_l1 k s1 at1 fuel1) r1 at1 z = some (rz1, rz2)) (fun t6 => ⟨[(0, SS s1), (1, I64 at1), (7, I64 k1), (8, I64 r1), (94, BB t6)], [], []⟩) 6 ?_ (fun hJ7 => ?_)))))
                  · rintro t6 h
                    unfold r01_thing_j7 at h
                    refine WL_tkC hE 1 [0, 1, 7, 8, 95] [] [] (orc := []) (by kernel_rfl) .n (WL_join (α := Bool) (fun z => r01_thing_j8 k s1 k1 (r01_thing_l1 k s1 at1 fuel1) r1 at1 z = some (rz1, rz2)) (fun t7 => ⟨[(0, SS s1), (1, I64 at1), (7, I64 k1), (8, I64 r1), (100, BB t7)], [], []⟩) 5 ?_ (fun hJ8 => ?_))
                    · rintro t7 h
                      unfold r01_thing_j8 at h
                      refine WL_nil (N_then (W_cond (b := t7) (by kernel_rfl) (fun e23 => ?_) (fun e23 => ?_)))
                      · replace h := ite_t e23 h
                        refine W_skip (N_then (W_block (W_seq (W_region ?_))))
                        obtain ⟨b8, e24, h⟩ := bind_some h
                        obtain ⟨v5, e25, h⟩ := bind_some h
                        exact WL_allC hE [0, 1, 7, 8] [] [] (orc := [tU8 b8, tI64 v5]) (by kernel_rfl) (.c e24 (.c e25 .n)) (N_then (W_region (WL_allI hE (orc := []) (by kernel_rfl) .n (N_block (N_round (wi64 (k1 + (1 : Int)), wi64 ((wi64 ((16 : Int) * r1)) + v5)) (Nat.lt_succ_self _) h)))))
                      · replace h := ite_f e23 h
                        refine W_exit (N_then_exit (N_then_exit (N_block_exit (N_then (W_seq (W_seq (W_draw (by kernel_rfl) (by kernel_rfl) (WD_tkC hE 5 [0, 1, 7, 8, 114] [] [] (orc := []) (by kernel_rfl) .n (WD_join (α := Bool) (fun z => r01_thing_j9 k r1 k1 at1 s1 z = some (rz1, rz2)) (fun t8 => ⟨[(0, SS s1), (1, I64 at1), (7, I64 k1), (8, I64 r1), (119, BB t8)], [], []⟩) 5 ?_ (fun KK hJ9 => ?_))))))))))
                        · rintro t8 h
                          unfold r01_thing_j9 at h
                          refine WD_tkC hE 1 [0, 1, 7, 8, 120] [] [] (orc := []) (by kernel_rfl) .n (WD_join (α := Bool) (fun z => r01_thing_j10 k r1 k1 at1 s1 z = some (rz1, rz2)) (fun t9 => ⟨[(0, SS s1), (1, I64 at1), (7, I64 k1), (8, I64 r1), (125, BB t9)], [], []⟩) 5 ?_ (fun KK hJ10 => ?_))
                          · rintro t9 h
                            unfold r01_thing_j10 at h
                            refine WD_tkC hE 1 [0, 1, 7, 8, 126] [] [] (orc := []) (by kernel_rfl) .n (WD_join (α := Bool) (fun z => r01_thing_j11 k r1 k1 at1 s1 z = some (rz1, rz2)) (fun t10 => ⟨[(0, SS s1), (1, I64 at1), (7, I64 k1), (8, I64 r1), (129, BB t10)], [], []⟩) 3 ?_ (fun KK hJ11 => ?_))
                            · rintro t10 h
                              unfold r01_thing_j11 at h
                              refine WD_tkC hE 1 [0, 1, 7, 8, 130] [] [] (orc := []) (by kernel_rfl) .n (WD_join (α := Bool) (fun z => r01_thing_j12 k r1 k1 at1 s1 z = some (rz1, rz2)) (fun t11 => ⟨[(0, SS s1), (1, I64 at1), (7, I64 k1), (8, I64 r1), (135, BB t11)], [], []⟩) 5 ?_ (fun KK hJ12 => ?_))
                              · rintro t11 h
                                unfold r01_thing_j12 at h
                                refine WD_tkC hE 1 [0, 1, 7, 8, 136] [] [] (orc := []) (by kernel_rfl) .n (WD_join (α := Bool) (fun z => r01_thing_j13 k r1 k1 at1 z = some (rz1, rz2)) (fun t12 => ⟨[(1, I64 at1), (7, I64 k1), (8, I64 r1), (145, BB t12)], [], []⟩) 9 ?_ (fun KK hJ13 => ?_))
                                · rintro t12 h
                                  unfold r01_thing_j13 at h
                                  refine WD_tkC hE 1 [1, 7, 8, 146] [] [] (orc := []) (by kernel_rfl) .n (WD_join (α := Bool) (fun z => r01_thing_j14 k r1 k1 at1 z = some (rz1, rz2)) (fun t13 => ⟨[(1, I64 at1), (7, I64 k1), (8, I64 r1), (153, BB t13)], [], []⟩) 7 ?_ (fun KK hJ14 => ?_))
                                  · rintro t13 h
                                    unfold r01_thing_j14 at h
                                    refine WD_nil (N_then (W_cond (b := t13) (by kernel_rfl) (fun e26 => ?_) (fun e26 => ?_)))
                                    · replace h := ite_t e26 h
                                      refine W_seq (W_region (WL_allC hE [4, 5] [] [4] (orc := []) (by kernel_rfl) .n (N_then (W_ret (N_then_ret (N_block_ret (N_then_ret ?_)))))))
                                      cases h
                                      exact N_end (.inl rfl) (by kernel_rfl)
                                    · replace h := ite_f e26 h
                                      refine W_skip (N_then (W_seq (W_region ?_)))
                                      obtain ⟨v6, e27, h⟩ := bind_some h
                                      refine WL_allC hE [4, 5] [] [] (orc := [⟨(.sl (.int .u8)), v6⟩]) (by kernel_rfl) (.c e27 .n) (N_then (W_ret (N_block_ret (N_then_ret ?_))))
                                      cases h
                                      exact N_end (.inl rfl) (by kernel_rfl)
                                  refine WDK_splitC 146 (b := t12) (by kernel_rfl) (fun e28 => ?_) (fun e28 => ?_)
                                  · replace h := ite_t e28 h
                                    exact WDK_allI hE (orc := []) (by kernel_rfl) .n (hJ14 true h)
                                  · replace h := ite_f e28 h
                                    refine WDK_tkC hE 3 [1, 7, 8, 146, 149] [] [] (orc := []) (by kernel_rfl) .n (WDK_join (α := Bool) (fun z => r01_thing_j15 k r1 k1 at1 z = some (rz1, rz2)) (fun t14 => ⟨[(1, I64 at1), (7, I64 k1), (8, I64 r1), (146, BB false), (152, BB t14)], [], []⟩) 3 ?_ (fun KK hJ15 => ?_))
                                    · rintro t14 h
                                      unfold r01_thing_j15 at h
                                      exact WDK_allI hE (orc := []) (by kernel_rfl) .n (hJ14 t14 h)
                                    refine WDK_splitC 149 (b := decide ((32 : Int) ≤ r1)) (by kernel_rfl) (fun e29 => ?_) (fun e29 => ?_)
                                    · rw [and_t e29] at h
                                      exact WDK_allI hE (orc := []) (by kernel_rfl) .n (hJ15 (decide (r1 ≤ (126 : Int))) h)
                                    · rw [and_f e29] at h
                                      exact WDK_allI hE (orc := []) (by kernel_rfl) .n (hJ15 false h)
                                refine WDK_splitC 136 (b := t11) (by kernel_rfl) (fun e30 => ?_) (fun e30 => ?_)
                                · replace h := ite_t e30 h
                                  exact WDK_allI hE (orc := []) (by kernel_rfl) .n (hJ13 true h)
                                · replace h := ite_f e30 h
                                  obtain ⟨v7, e31, h⟩ := bind_some h
                                  obtain ⟨s2, e32, h⟩ := bind_some h
                                  exact WDK_allI hE (orc := [tS v7, tS s2]) (by kernel_rfl) (.c e31 (.c e32 .n)) (hJ13 (!(v7 == s2)) h)
                              refine WDK_splitC 130 (b := t10) (by kernel_rfl) (fun e33 => ?_) (fun e33 => ?_)
                              · replace h := ite_t e33 h
                                exact WDK_allI hE (orc := []) (by kernel_rfl) .n (hJ12 true h)
                              · replace h := ite_f e33 h
                                obtain ⟨v8, e34, h⟩ := bind_some h
                                exact WDK_allI hE (orc := [tB v8]) (by kernel_rfl) (.c e34 .n) (hJ12 (!v8) h)
                            refine WDK_splitC 126 (b := t9) (by kernel_rfl) (fun e35 => ?_) (fun e35 => ?_)
                            · rw [or_t e35] at h
                              exact WDK_allI hE (orc := []) (by kernel_rfl) .n (hJ11 true h)
                            · rw [or_f e35] at h
                              exact WDK_allI hE (orc := []) (by kernel_rfl) .n (hJ11 (decide ((1114111 : Int) < r1)) h)
                          refine WDK_splitC 120 (b := t8) (by kernel_rfl) (fun e36 => ?_) (fun e36 => ?_)
                          · replace h := ite_t e36 h
                            exact WDK_allI hE (orc := []) (by kernel_rfl) .n (hJ10 true h)
                          · replace h := ite_f e36 h
                            obtain ⟨b9, e37, h⟩ := bind_some h
                            exact WDK_allI hE (orc := [tU8 b9]) (by kernel_rfl) (.c e37 .n) (hJ10 (b9 != (59 : Int)) h)
                        refine WDK_splitC 114 (b := k1 == (wi64 (at1 + (2 : Int)))) (by kernel_rfl) (fun e38 => ?_) (fun e38 => ?_)
                        · rw [or_t e38] at h
                          exact WDK_allI hE (orc := []) (by kernel_rfl) .n (hJ9 true h)
                        · rw [or_f e38] at h
                          exact WDK_allI hE (orc := []) (by kernel_rfl) .n (hJ9 (decide ((List.length s1 : Int) ≤ k1)) h)
                    refine WL_splitC 95 (b := t6) (by kernel_rfl) (fun e39 => ?_) (fun e39 => ?_)
                    · rw [and_t e39] at h
                      exact WL_allI hE (orc := []) (by kernel_rfl) .n (hJ8 (decide ((wi64 (k1 - at1)) < (9 : Int))) h)
                    · rw [and_f e39] at h
                      exact WL_allI hE (orc := []) (by kernel_rfl) .n (hJ8 false h)
                  refine WL_splitC 88 (b := decide (k1 < (List.length s1 : Int))) (by kernel_rfl) (fun e40 => ?_) (fun e40 => ?_)
                  · replace h := ite_t e40 h
                    obtain ⟨b10, e41, h⟩ := bind_some h
                    obtain ⟨v9, e42, h⟩ := bind_some h
                    exact WL_allI hE (orc := [tU8 b10, tI64 v9]) (by kernel_rfl) (.c e41 (.c e42 .n)) (hJ7 (decide ((0 : Int) ≤ v9)) h)
                  · replace h := ite_f e40 h
                    exact WL_allI hE (orc := []) (by kernel_rfl) .n (hJ7 false h)
              · replace h := ite_f e22 h
                exact W_skip (N_block (N_normI (by kernel_rfl) (hJ3 () h)))
        refine W_seq (W_region (WL_allC hE [0, 1, 34, 35] [] [] (orc := []) (by kernel_rfl) .n (N_then (W_cond (b := b2 == (34 : Int)) (by kernel_rfl) (fun e43 => ?_) (fun e43 => ?_)))))
        · replace h := ite_t e43 h
          exact W_skip (N_normI (by kernel_rfl) (hJ15 (b2 == (34 : Int)) h))
        · replace h := ite_f e43 h
          exact W_region (WL_allI hE (orc := []) (by kernel_rfl) .n (hJ15 (b2 == (92 : Int)) h))

def C_r01_Plain (k : Nat) : FnC := ⟨true, 3, [], fun | [⟨.str, s1⟩], [⟨.str, rz1⟩, ⟨(.int .i64), rz2⟩, ⟨(.int .i64), rz3⟩] => r01_Plain k s1 = some (rz1, rz2, rz3) | _, _ => False⟩
noncomputable def E_r01_Plain (k : Nat) : Env := ⟨Tryd.prog, Gu, 66, [(50, C_r01_thing k), (44, C_r01_quote k)]⟩
theorem c_r01_Plain (k : Nat) : Contract Tryd.prog Gu 30 (C_r01_Plain k) := by
  refine contract_of Gu_stable (fn := Tryd.f30) Tryd.func30 (by kernel_rfl) rfl ?_ ?_
  · intro xs rs h
    unfold C_r01_Plain at h
    simp only at h
    split at h
    · exact ⟨by show 1 ≤ _; rw [Tryd.ntmps30]; decide, rfl, fun _ u hu => by simp at hu; (rcases hu with rfl | rfl | rfl) <;> rfl⟩
    · exact h.elim
  · intro w0 M xs rs hG h
    unfold C_r01_Plain at h
    simp only at h
    split at h
    case h_2 => exact h.elim
    rename_i s1 rz1 rz2 rz3
    change List UInt8 at s1
    change List UInt8 at rz1
    change Int at rz2
    change Int at rz3
    have hE : EnvOK (E_r01_Plain k) ⟨Tryd.prog, Tryd.f30.ntmps, w0, M, fun _ => False, fun _ => undef⟩ := (EnvOK.cons (c_r01_thing k) (EnvOK.cons (c_r01_quote k) (EnvOK.nil rfl Tryd.ntmps30 hG)))
    unfold r01_Plain at h
    refine W_seq (W_region (WL_allC hE [0] [] [] (orc := []) (by kernel_rfl) .n (N_then (W_seq (W_seq (W_region (WL_allC hE [0, 11] [] [] (orc := []) (by kernel_rfl) .n (N_then (W_cond (b := decide ((1048576 : Int) < (List.length s1 : Int))) (by kernel_rfl) (fun e1 => ?_) (fun e1 => ?_))))))))))
    · replace h := ite_t e1 h
      refine W_seq (W_region (WL_allC hE [2, 3, 4] [] [] (orc := []) (by kernel_rfl) .n (N_then (W_ret (N_then_ret ?_)))))
      cases h
      exact N_end (.inl rfl) (by kernel_rfl)
    · replace h := ite_f e1 h
      refine W_skip (N_then (W_seq (W_seq (W_region (WL_tk hE 3 [0, 14] [] [] (st' := ⟨[(0, SS s1), (14, BB (s1 == ([] : List UInt8)))], [], []⟩) (orc := []) (by kernel_rfl) (Obs.all .n) (WL_join (α := Bool) (fun z => r01_Plain_j1 k s1 z = some (rz1, rz2, rz3)) (fun t1 => ⟨[(0, SS s1), (18, BB t1)], [], []⟩) 4 ?_ (fun hJ1 => ?_)))))))
      · rintro t1 h
        unfold r01_Plain_j1 at h
        refine WL_nil (N_then (W_cond (b := t1) (by kernel_rfl) (fun e2 => ?_) (fun e2 => ?_)))
        · replace h := ite_t e2 h
          refine W_seq (W_region (WL_allC hE [2, 3, 4] [] [] (orc := []) (by kernel_rfl) .n (N_then (W_ret (N_then_ret ?_)))))
          cases h
          exact N_end (.inl rfl) (by kernel_rfl)
        · replace h := ite_f e2 h
          refine W_skip (N_then (W_seq (W_region (WL_allC hE [0, 5] [] [5] (orc := []) (by kernel_rfl) .n (N_then (W_seq (W_region (WL_allI hE (orc := []) (by kernel_rfl) .n (N_then (W_seq (W_block (W_loop (α := (Int × List (Int))) (fun n z => r01_Plain_l1 k s1 n z.1 z.2 = some (rz1, rz2, rz3)) (fun z => ⟨[(0, SS s1), (5, .row 5), (6, I64 (z.1))], [], [(5, ⟨5, (.int .u8), (z.2)⟩)]⟩) ?_ (k := k) (x := ((1 : Int), ([] : List (Int)))) h))))))))))))
          clear h
          rintro fuel1 ⟨at1, out1⟩ h
          cases fuel1 with
          | zero => exact absurd (show none = some _ from h) (by simp)
          | succ fuel1 =>
            have h : r01_Plain_b1 k s1 (r01_Plain_l1 k s1 fuel1) at1 out1 = some (rz1, rz2, rz3) := h
            unfold r01_Plain_b1 at h
            refine W_seq (W_seq (W_region (WL_tkC hE 5 [0, 5, 6, 23] [] [5] (orc := []) (by kernel_rfl) .n (WL_join (α := Bool) (fun z => r01_Plain_j2 k s1 at1 out1 (r01_Plain_l1 k s1 fuel1) z = some (rz1, rz2, rz3)) (fun t2 => ⟨[(0, SS s1), (5, .row 5), (6, I64 at1), (28, BB t2)], [], [(5, ⟨5, (.int .u8), out1⟩)]⟩) 5 ?_ (fun hJ2 => ?_)))))
            · rintro t2 h
              unfold r01_Plain_j2 at h
              refine WL_nil (N_then (W_cond (b := t2) (by kernel_rfl) (fun e3 => ?_) (fun e3 => ?_)))
              · replace h := ite_t e3 h
                refine W_skip (N_then (W_block (W_seq (W_region ?_))))
                obtain ⟨v1, e4, h⟩ := bind_some h
                refine WL_allC hE [0, 5, 6, 7, 8] [] [5] (orc := [⟨(.sl (.int .u8)), v1.1⟩, tI64 v1.2]) (by kernel_rfl) (.c e4 .n) (N_then (W_seq (W_seq (W_region (WL_allC hE [0, 5, 6, 7, 8, 36] [] [5] (orc := []) (by kernel_rfl) .n (N_then (W_cond (b := v1.2 == (0 : Int)) (by kernel_rfl) (fun e5 => ?_) (fun e5 => ?_))))))))
                · replace h := ite_t e5 h
                  refine W_seq (W_region (WL_allC hE [2, 3, 4] [] [] (orc := []) (by kernel_rfl) .n (N_then (W_ret (N_then_ret (N_block_ret (N_then_ret (N_block_ret (N_then_ret ?_)))))))))
                  cases h
                  exact N_end (.inl rfl) (by kernel_rfl)
                · replace h := ite_f e5 h
                  refine W_skip (N_then (W_seq (W_region ?_)))
                  obtain ⟨_, e6, h⟩ := bind_some h
                  replace e6 := chk_some e6
                  exact WL_allI hE (st' := ⟨[(0, SS s1), (5, .row 5), (6, I64 at1), (8, I64 v1.2)], [], [(5, ⟨5, (.int .u8), out1 ++ v1.1⟩)]⟩) (orc := []) (by kernel_rfl) (.c e6 .n) (N_then (W_region (WL_allI hE (orc := []) (by kernel_rfl) .n (N_block (N_round (wi64 (at1 + v1.2), out1 ++ v1.1) (Nat.lt_succ_self _) h)))))
              · replace h := ite_f e3 h
                refine W_exit (N_then_exit (N_then_exit (N_block_exit (N_then (W_seq (W_seq (W_region (WL_allC hE [0, 5, 6, 47] [] [5] (orc := []) (by kernel_rfl) .n (N_then (W_cond (b := decide ((List.length s1 : Int) ≤ at1)) (by kernel_rfl) (fun e7 => ?_) (fun e7 => ?_)))))))))))
                · replace h := ite_t e7 h
                  refine W_seq (W_region (WL_allC hE [2, 3, 4] [] [] (orc := []) (by kernel_rfl) .n (N_then (W_ret (N_then_ret ?_)))))
                  cases h
                  exact N_end (.inl rfl) (by kernel_rfl)
                · replace h := ite_f e7 h
                  refine W_skip (N_then (W_seq (W_seq (W_region (WL_allC hE [0, 5, 6, 53] [] [5] (orc := []) (by kernel_rfl) .n (N_then (W_cond (b := decide ((wi64 (at1 + (1 : Int))) < (List.length s1 : Int))) (by kernel_rfl) (fun e8 => ?_) (fun e8 => ?_))))))))
                  · replace h := ite_t e8 h
                    refine W_seq (W_region (WL_allI hE (st' := ⟨[(2, SS ([] : List UInt8)), (3, I64 (wi64 (at1 + (1 : Int)))), (4, I64 (10 : Int))], [], []⟩) (orc := []) (by kernel_rfl) .n (N_then (W_ret (N_then_ret ?_)))))
                    cases h
                    exact N_end (.inl rfl) (by kernel_rfl)
                  · replace h := ite_f e8 h
                    refine W_skip (N_then (W_seq (W_seq (W_region (WL_allC hE [0, 5, 58] [] [5] (orc := []) (by kernel_rfl) .n (N_then (W_cond (b := decide ((65536 : Int) < (List.length out1 : Int))) (by kernel_rfl) (fun e9 => ?_) (fun e9 => ?_))))))))
                    · replace h := ite_t e9 h
                      refine W_seq (W_region (WL_allC hE [2, 3, 4] [] [] (orc := []) (by kernel_rfl) .n (N_then (W_ret (N_then_ret ?_)))))
                      cases h
                      exact N_end (.inl rfl) (by kernel_rfl)
                    · replace h := ite_f e9 h
                      refine W_skip (N_then (W_seq (W_seq (W_region ?_))))
                      obtain ⟨v2, e10, h⟩ := bind_some h
                      refine WL_allC hE [5, 63] [] [5] (orc := [tS v2]) (by kernel_rfl) (.c e10 .n) (N_then (W_cond (b := !(v2 == s1)) (by kernel_rfl) (fun e11 => ?_) (fun e11 => ?_)))
                      · replace h := ite_t e11 h
                        refine W_seq (W_region (WL_allI hE (st' := ⟨[(2, SS ([] : List UInt8)), (3, I64 (0 : Int)), (4, I64 (10 : Int))], [], []⟩) (orc := []) (by kernel_rfl) .n (N_then (W_ret (N_then_ret ?_)))))
                        cases h
                        exact N_end (.inl rfl) (by kernel_rfl)
                      · replace h := ite_f e11 h
                        refine W_skip (N_then (W_seq (W_region (WL_allC hE [2, 3, 4] [] [] (orc := []) (by kernel_rfl) .n (N_then (W_ret ?_))))))
                        cases h
                        exact N_end (.inl rfl) (by kernel_rfl)
            refine WL_splitC 23 (b := decide (at1 < (List.length s1 : Int))) (by kernel_rfl) (fun e12 => ?_) (fun e12 => ?_)
            · replace h := ite_t e12 h
              obtain ⟨b1, e13, h⟩ := bind_some h
              exact WL_allI hE (orc := [tU8 b1]) (by kernel_rfl) (.c e13 .n) (hJ2 (b1 != (34 : Int)) h)
            · replace h := ite_f e12 h
              exact WL_allI hE (orc := []) (by kernel_rfl) .n (hJ2 false h)
      refine WL_splitC 14 (b := s1 == ([] : List UInt8)) (by kernel_rfl) (fun e14 => ?_) (fun e14 => ?_)
      · replace h := ite_t e14 h
        exact WL_allI hE (orc := []) (by kernel_rfl) .n (hJ1 true h)
      · replace h := ite_f e14 h
        obtain ⟨b2, e15, h⟩ := bind_some h
        exact WL_allI hE (orc := [tU8 b2]) (by kernel_rfl) (.c e15 .n) (hJ1 (b2 != (34 : Int)) h)

def C_runes_Text (k : Nat) : FnC := ⟨true, 1, [], fun | [⟨(.sl (.int .i32)), l1⟩], [⟨.str, rz⟩] => runes_Text k l1 = some rz | _, _ => False⟩
noncomputable def E_runes_Text (k : Nat) : Env := ⟨Tryd.prog, Gu, 5, []⟩
theorem c_runes_Text (k : Nat) : Contract Tryd.prog Gu 26 (C_runes_Text k) := by
  refine contract_of Gu_stable (fn := Tryd.f26) Tryd.func26 (by kernel_rfl) rfl ?_ ?_
  · intro xs rs h
    unfold C_runes_Text at h
    simp only at h
    split at h
    · exact ⟨by show 1 ≤ _; rw [Tryd.ntmps26]; decide, rfl, fun _ u hu => by simp at hu; (rcases hu with rfl) <;> rfl⟩
    · exact h.elim
  · intro w0 M xs rs hG h
    unfold C_runes_Text at h
    simp only at h
    split at h
    case h_2 => exact h.elim
    rename_i l1 rz
    change List (Int) at l1
    change List UInt8 at rz
    have hE : EnvOK (E_runes_Text k) ⟨Tryd.prog, Tryd.f26.ntmps, w0, M, fun _ => False, fun _ => undef⟩ := (EnvOK.nil rfl Tryd.ntmps26 hG)
    unfold runes_Text at h
    refine W_seq (W_region (WL_allC hE [0] [] [] (orc := []) (by kernel_rfl) .n (N_then (W_seq (W_region ?_)))))
    obtain ⟨_, e1, h⟩ := bind_some h
    replace e1 := chk_some e1
    refine WL_allC hE [2] [] [] (orc := []) (by kernel_rfl) (.c e1 .n) (N_then (W_ret ?_))
    cases h
    exact N_end (.inl rfl) (by kernel_rfl)

end Go.Ev
