/- Contracts, by program. -/
import Derived.Test.YtciikbiapmbocaaDoorProg
import Derived.Test.YtciikbiapmbocaaDoorEvY
import Derived.Test.YtciikbiapmbocaaDoorShRu4
import Derived.Test.YtciikbiapmbocaaDoorLibX
import Derived.KernelRfl
namespace Go.Ev
open Go Go.Proofs
set_option linter.unusedVariables false
set_option maxRecDepth 100000

def C_l01_long (k : Nat) : FnC := ⟨true, 1, [], fun | [⟨.str, s1⟩], [⟨.bool, rz⟩] => l01_long k s1 = some rz | _, _ => False⟩
noncomputable def E_l01_long (k : Nat) : Env := ⟨Tryd.prog, Gu, 16, []⟩
theorem c_l01_long (k : Nat) : Contract Tryd.prog Gu 12 (C_l01_long k) := by
  refine contract_of Gu_stable (fn := Tryd.f12) Tryd.func12 (by kernel_rfl) rfl ?_ ?_
  · intro xs rs h
    unfold C_l01_long at h
    simp only at h
    split at h
    · exact ⟨by show 1 ≤ _; rw [Tryd.ntmps12]; decide, rfl, fun _ u hu => by simp at hu; (rcases hu with rfl) <;> rfl⟩
    · exact h.elim
  · intro w0 M xs rs hG h
    unfold C_l01_long at h
    simp only at h
    split at h
    case h_2 => exact h.elim
    rename_i s1 rz
    change List UInt8 at s1
    change Bool at rz
    have hE : EnvOK (E_l01_long k) ⟨Tryd.prog, Tryd.f12.ntmps, w0, M, fun _ => False, fun _ => undef⟩ := (EnvOK.nil rfl Tryd.ntmps12 hG)
    unfold l01_long at h
    refine W_seq ?_
    refine W_region ?_
    refine WL_all hE [0] [] [] (st' := ⟨[(0, SS s1)], [], []⟩) (orc := []) (ob := []) (by kernel_rfl) trivial ?_
    refine N_then ?_
    refine W_seq ?_
    refine W_region ?_
    refine WL_tk hE 4 [0, 6] [] [] (st' := ⟨[(0, SS s1), (6, BB (decide ((3000 : Int) < (List.length s1 : Int))))], [], []⟩) (orc := []) (ob := []) (by kernel_rfl) trivial ?_
    refine WL_join (α := Bool) (fun z => l01_long_j1 s1 z = some rz) (fun t1 => ⟨[(0, SS s1), (10, BB t1)], [], []⟩) 4 ?_ (fun hJ1 => ?_)
    · rintro t1 h
      unfold l01_long_j1 at h
      refine WL_tk hE 1 [0, 11] [] [] (st' := ⟨[(0, SS s1), (11, BB t1)], [], []⟩) (orc := []) (ob := []) (by kernel_rfl) trivial ?_
      refine WL_join (α := Bool) (fun z => l01_long_j2 z = some rz) (fun t2 => ⟨[(15, BB t2)], [], []⟩) 4 ?_ (fun hJ2 => ?_)
      · rintro t2 h
        unfold l01_long_j2 at h
        refine WL_all hE [2] [] [] (st' := ⟨[(2, BB t2)], [], []⟩) (orc := []) (ob := []) (by kernel_rfl) trivial ?_
        refine N_then ?_
        refine W_ret ?_
        cases h
        exact N_end (.inl rfl) (by kernel_rfl)
      refine WL_split (fun g => ⟨[(0, SS s1), (11, BB g)], [], []⟩) (b := t1) (fun e1 => ?_) (fun e1 => ?_)
      · rw [or_t e1] at h
        refine WL_all hE [15] [] [] (st' := ⟨[(15, BB true)], [], []⟩) (orc := []) (ob := []) (by kernel_rfl) trivial ?_
        exact hJ2 true h
      · rw [or_f e1] at h
        refine WL_all hE [15] [] [] (st' := ⟨[(15, BB (decide ((66000 : Int) < (List.length s1 : Int))))], [], []⟩) (orc := []) (ob := []) (by kernel_rfl) trivial ?_
        exact hJ2 (decide ((66000 : Int) < (List.length s1 : Int))) h
    refine WL_split (fun g => ⟨[(0, SS s1), (6, BB g)], [], []⟩) (b := decide ((3000 : Int) < (List.length s1 : Int))) (fun e2 => ?_) (fun e2 => ?_)
    · rw [and_t e2] at h
      refine WL_all hE [0, 10] [] [] (st' := ⟨[(0, SS s1), (10, BB (decide ((List.length s1 : Int) ≤ (65536 : Int))))], [], []⟩) (orc := []) (ob := []) (by kernel_rfl) trivial ?_
      exact hJ1 (decide ((List.length s1 : Int) ≤ (65536 : Int))) h
    · rw [and_f e2] at h
      refine WL_all hE [0, 10] [] [] (st' := ⟨[(0, SS s1), (10, BB false)], [], []⟩) (orc := []) (ob := []) (by kernel_rfl) trivial ?_
      exact hJ1 false h

def C_runes_long (k : Nat) : FnC := ⟨true, 1, [], fun | [⟨.str, s1⟩], [⟨(.int .i64), rz⟩] => runes_long k s1 = some rz | _, _ => False⟩
noncomputable def E_runes_long (k : Nat) : Env := ⟨Tryd.prog, Gu, 6, []⟩
theorem c_runes_long (k : Nat) : Contract Tryd.prog Gu 35 (C_runes_long k) := by
  refine contract_of Gu_stable (fn := Tryd.f35) Tryd.func35 (by kernel_rfl) rfl ?_ ?_
  · intro xs rs h
    unfold C_runes_long at h
    simp only at h
    split at h
    · exact ⟨by show 1 ≤ _; rw [Tryd.ntmps35]; decide, rfl, fun _ u hu => by simp at hu; (rcases hu with rfl) <;> rfl⟩
    · exact h.elim
  · intro w0 M xs rs hG h
    unfold C_runes_long at h
    simp only at h
    split at h
    case h_2 => exact h.elim
    rename_i s1 rz
    change List UInt8 at s1
    change Int at rz
    have hE : EnvOK (E_runes_long k) ⟨Tryd.prog, Tryd.f35.ntmps, w0, M, fun _ => False, fun _ => undef⟩ := (EnvOK.nil rfl Tryd.ntmps35 hG)
    unfold runes_long at h
    refine W_seq ?_
    refine W_region ?_
    refine WL_all hE [0] [] [] (st' := ⟨[(0, SS s1)], [], []⟩) (orc := []) (ob := []) (by kernel_rfl) trivial ?_
    refine N_then ?_
    refine W_seq ?_
    refine W_seq ?_
    refine W_region ?_
    refine WL_all hE [5] [] [] (st' := ⟨[(5, BB (decide ((65536 : Int) < (List.length s1 : Int))))], [], []⟩) (orc := []) (ob := []) (by kernel_rfl) trivial ?_
    refine N_then ?_
    refine W_cond (b := decide ((65536 : Int) < (List.length s1 : Int))) (by kernel_rfl) (fun e1 => ?_) (fun e1 => ?_)
    · replace h := ite_t e1 h
      refine W_seq ?_
      refine W_region ?_
      refine WL_all hE [2] [] [] (st' := ⟨[(2, I64 (3 : Int))], [], []⟩) (orc := []) (ob := []) (by kernel_rfl) trivial ?_
      refine N_then ?_
      refine W_ret ?_
      refine N_then_ret ?_
      cases h
      exact N_end (.inl rfl) (by kernel_rfl)
    · replace h := ite_f e1 h
      refine W_skip ?_
      refine N_then ?_
      refine W_seq ?_
      refine W_region ?_
      refine WL_all hE [2] [] [] (st' := ⟨[(2, I64 (0 : Int))], [], []⟩) (orc := []) (ob := []) (by kernel_rfl) trivial ?_
      refine N_then ?_
      refine W_ret ?_
      cases h
      exact N_end (.inl rfl) (by kernel_rfl)

def B_strings_Builder_WriteByte_i1 (k : Nat) : FnB (Int × List (Int)) (Option (Option (Nat × Int)) × List (Int)) where
  n := 17
  S := fun z => ⟨[(0, .ptr 17 0), (1, U8 (z.1))], [(17, .cells [.selfp 17, .row 18] 59)], [(18, ⟨5, (.int .u8), (z.2)⟩)]⟩
  S' := fun z y => ⟨[], [(17, .cells [.selfp 17, .row 18] 59)], [(18, ⟨5, (.int .u8), (y.2)⟩)]⟩
  rs := fun z y => [.val .err (y.1)]
  rel := fun z y => strings_Builder_WriteByte_i1 k (z.1) (z.2) = some y
noncomputable def E_strings_Builder_WriteByte_i1 (k : Nat) : Env := ⟨Tryd.prog, Gu, 17, []⟩
theorem b_strings_Builder_WriteByte_i1 (k : Nat) : BC Tryd.prog Gu 54 (B_strings_Builder_WriteByte_i1 k) := by
  refine bc_of (fn := Tryd.f54) Tryd.func54 (by kernel_rfl) rfl Tryd.ntmps54 ?_
  rintro cx hP hn hG ⟨c1, l1⟩ y0 h
  have hE : EnvOK (E_strings_Builder_WriteByte_i1 k) cx := (EnvOK.nil hP hn hG)
  replace h : strings_Builder_WriteByte_i1 k c1 l1 = some y0 := h
  unfold strings_Builder_WriteByte_i1 at h
  refine W_seq ?_
  refine W_region ?_
  refine WL_all hE [0, 1] [17] [18] (st' := ⟨[(0, .ptr 17 0), (1, U8 c1)], [(17, .cells [.selfp 17, .row 18] 59)], [(18, ⟨5, (.int .u8), l1⟩)]⟩) (orc := []) (ob := []) (by kernel_rfl) trivial ?_
  refine N_then ?_
  refine W_seq ?_
  refine W_region ?_
  refine WL_tk hE 1 [0, 1, 5] [17] [18] (st' := ⟨[(0, .ptr 17 0), (1, U8 c1), (5, .ptr 17 0)], [(17, .cells [.selfp 17, .row 18] 59)], [(18, ⟨5, (.int .u8), l1⟩)]⟩) (orc := []) (ob := []) (by kernel_rfl) trivial ?_
  obtain ⟨v1, e1, h⟩ := bind_some h
  refine WL_callB hE (eb_bld_copyCheck k) l1 v1 e1 (ρ := [(17, 20), (18, 21)]) (ρ' := [(20, 17), (21, 18)]) (n := 20) (by kernel_rfl) [0, 1] [17] [18] (by kernel_rfl) (by kernel_rfl) (st' := ⟨[(0, .ptr 17 0), (1, U8 c1)], [(17, .cells [.selfp 17, .row 18] 59)], [(18, ⟨5, (.int .u8), l1⟩)]⟩) (by kernel_rfl) ?_
  refine WL_nil ?_
  refine N_then ?_
  refine W_seq ?_
  refine W_region ?_
  obtain ⟨_, e2, h⟩ := bind_some h
  replace e2 := chk_some e2
  refine WL_all hE [0] [17] [18] (st' := ⟨[(0, .ptr 17 0)], [(17, .cells [.selfp 17, .row 18] 59)], [(18, ⟨5, (.int .u8), l1 ++ ([c1] : List (Int))⟩)]⟩) (orc := []) (ob := [List.length l1 + List.length ([c1] : List (Int)) ≤ lim]) (by kernel_rfl) ⟨e2, trivial⟩ ?_
  refine N_then ?_
  refine W_seq ?_
  refine W_region ?_
  refine WL_all hE [0, 4] [17] [18] (st' := ⟨[(0, .ptr 17 0), (4, .val .err (none : Option (Option (Nat × Int))))], [(17, .cells [.selfp 17, .row 18] 59)], [(18, ⟨5, (.int .u8), l1 ++ ([c1] : List (Int))⟩)]⟩) (orc := []) (ob := []) (by kernel_rfl) trivial ?_
  refine N_then ?_
  refine W_ret ?_
  replace h := Option.some.inj h
  subst h
  exact N_endB hE.P [17] [18] (.inl rfl) (by kernel_rfl) (by kernel_rfl)

def C_unicode_utf8_RuneLen (k : Nat) : FnC := ⟨true, 1, [], fun | [⟨(.int .i32), r1⟩], [⟨(.int .i64), rz⟩] => unicode_utf8_RuneLen k r1 = some rz | _, _ => False⟩
noncomputable def E_unicode_utf8_RuneLen (k : Nat) : Env := ⟨Tryd.prog, Gu, 25, []⟩
theorem c_unicode_utf8_RuneLen (k : Nat) : Contract Tryd.prog Gu 52 (C_unicode_utf8_RuneLen k) := by
  refine contract_of Gu_stable (fn := Tryd.f52) Tryd.func52 (by kernel_rfl) rfl ?_ ?_
  · intro xs rs h
    unfold C_unicode_utf8_RuneLen at h
    simp only at h
    split at h
    · exact ⟨by show 1 ≤ _; rw [Tryd.ntmps52]; decide, rfl, fun _ u hu => by simp at hu; (rcases hu with rfl) <;> rfl⟩
    · exact h.elim
  · intro w0 M xs rs hG h
    unfold C_unicode_utf8_RuneLen at h
    simp only at h
    split at h
    case h_2 => exact h.elim
    rename_i r1 rz
    change Int at r1
    change Int at rz
    have hE : EnvOK (E_unicode_utf8_RuneLen k) ⟨Tryd.prog, Tryd.f52.ntmps, w0, M, fun _ => False, fun _ => undef⟩ := (EnvOK.nil rfl Tryd.ntmps52 hG)
    unfold unicode_utf8_RuneLen at h
    refine W_seq ?_
    refine W_region ?_
    refine WL_all hE [0] [] [] (st' := ⟨[(0, I32 r1)], [], []⟩) (orc := []) (ob := []) (by kernel_rfl) trivial ?_
    refine N_then ?_
    refine W_seq ?_
    refine W_block ?_
    refine W_seq ?_
    refine W_region ?_
    refine WL_all hE [0, 3] [] [] (st' := ⟨[(0, I32 r1), (3, BB (decide (r1 < (0 : Int))))], [], []⟩) (orc := []) (ob := []) (by kernel_rfl) trivial ?_
    refine N_then ?_
    refine W_cond (b := decide (r1 < (0 : Int))) (by kernel_rfl) (fun e1 => ?_) (fun e1 => ?_)
    · replace h := ite_t e1 h
      refine W_seq ?_
      refine W_region ?_
      refine WL_all hE [2] [] [] (st' := ⟨[(2, I64 (-1 : Int))], [], []⟩) (orc := []) (ob := []) (by kernel_rfl) trivial ?_
      refine N_then ?_
      refine W_ret ?_
      refine N_block_ret ?_
      refine N_then_ret ?_
      cases h
      exact N_end (.inl rfl) (by kernel_rfl)
    · replace h := ite_f e1 h
      refine W_seq ?_
      refine W_region ?_
      refine WL_all hE [0, 6] [] [] (st' := ⟨[(0, I32 r1), (6, BB (decide (r1 ≤ (127 : Int))))], [], []⟩) (orc := []) (ob := []) (by kernel_rfl) trivial ?_
      refine N_then ?_
      refine W_cond (b := decide (r1 ≤ (127 : Int))) (by kernel_rfl) (fun e2 => ?_) (fun e2 => ?_)
      · replace h := ite_t e2 h
        refine W_seq ?_
        refine W_region ?_
        refine WL_all hE [2] [] [] (st' := ⟨[(2, I64 (1 : Int))], [], []⟩) (orc := []) (ob := []) (by kernel_rfl) trivial ?_
        refine N_then ?_
        refine W_ret ?_
        refine N_block_ret ?_
        refine N_then_ret ?_
        cases h
        exact N_end (.inl rfl) (by kernel_rfl)
      · replace h := ite_f e2 h
        refine W_seq ?_
        refine W_region ?_
        refine WL_all hE [0, 9] [] [] (st' := ⟨[(0, I32 r1), (9, BB (decide (r1 ≤ (2047 : Int))))], [], []⟩) (orc := []) (ob := []) (by kernel_rfl) trivial ?_
        refine N_then ?_
        refine W_cond (b := decide (r1 ≤ (2047 : Int))) (by kernel_rfl) (fun e3 => ?_) (fun e3 => ?_)
        · replace h := ite_t e3 h
          refine W_seq ?_
          refine W_region ?_
          refine WL_all hE [2] [] [] (st' := ⟨[(2, I64 (2 : Int))], [], []⟩) (orc := []) (ob := []) (by kernel_rfl) trivial ?_
          refine N_then ?_
          refine W_ret ?_
          refine N_block_ret ?_
          refine N_then_ret ?_
          cases h
          exact N_end (.inl rfl) (by kernel_rfl)
        · replace h := ite_f e3 h
          refine W_seq ?_
          refine W_region ?_
          refine WL_tk hE 3 [0, 15] [] [] (st' := ⟨[(0, I32 r1), (15, BB (decide ((55296 : Int) ≤ r1)))], [], []⟩) (orc := []) (ob := []) (by kernel_rfl) trivial ?_
          refine WL_join (α := Bool) (fun z => unicode_utf8_RuneLen_j1 r1 z = some rz) (fun t1 => ⟨[(0, I32 r1), (18, BB t1)], [], []⟩) 3 ?_ (fun hJ1 => ?_)
          · rintro t1 h
            unfold unicode_utf8_RuneLen_j1 at h
            refine WL_all hE [0, 12] [] [] (st' := ⟨[(0, I32 r1), (12, BB t1)], [], []⟩) (orc := []) (ob := []) (by kernel_rfl) trivial ?_
            refine N_then ?_
            refine W_cond (b := t1) (by kernel_rfl) (fun e4 => ?_) (fun e4 => ?_)
            · replace h := ite_t e4 h
              refine W_seq ?_
              refine W_region ?_
              refine WL_all hE [2] [] [] (st' := ⟨[(2, I64 (-1 : Int))], [], []⟩) (orc := []) (ob := []) (by kernel_rfl) trivial ?_
              refine N_then ?_
              refine W_ret ?_
              refine N_block_ret ?_
              refine N_then_ret ?_
              cases h
              exact N_end (.inl rfl) (by kernel_rfl)
            · replace h := ite_f e4 h
              refine W_seq ?_
              refine W_region ?_
              refine WL_all hE [0, 19] [] [] (st' := ⟨[(0, I32 r1), (19, BB (decide (r1 ≤ (65535 : Int))))], [], []⟩) (orc := []) (ob := []) (by kernel_rfl) trivial ?_
              refine N_then ?_
              refine W_cond (b := decide (r1 ≤ (65535 : Int))) (by kernel_rfl) (fun e5 => ?_) (fun e5 => ?_)
              · replace h := ite_t e5 h
                refine W_seq ?_
                refine W_region ?_
                refine WL_all hE [2] [] [] (st' := ⟨[(2, I64 (3 : Int))], [], []⟩) (orc := []) (ob := []) (by kernel_rfl) trivial ?_
                refine N_then ?_
                refine W_ret ?_
                refine N_block_ret ?_
                refine N_then_ret ?_
                cases h
                exact N_end (.inl rfl) (by kernel_rfl)
              · replace h := ite_f e5 h
                refine W_seq ?_
                refine W_region ?_
                refine WL_all hE [22] [] [] (st' := ⟨[(22, BB (decide (r1 ≤ (1114111 : Int))))], [], []⟩) (orc := []) (ob := []) (by kernel_rfl) trivial ?_
                refine N_then ?_
                refine W_cond (b := decide (r1 ≤ (1114111 : Int))) (by kernel_rfl) (fun e6 => ?_) (fun e6 => ?_)
                · replace h := ite_t e6 h
                  refine W_seq ?_
                  refine W_region ?_
                  refine WL_all hE [2] [] [] (st' := ⟨[(2, I64 (4 : Int))], [], []⟩) (orc := []) (ob := []) (by kernel_rfl) trivial ?_
                  refine N_then ?_
                  refine W_ret ?_
                  refine N_block_ret ?_
                  refine N_then_ret ?_
                  cases h
                  exact N_end (.inl rfl) (by kernel_rfl)
                · replace h := ite_f e6 h
                  refine W_skip ?_
                  refine N_block ?_
                  refine N_then ?_
                  refine W_seq ?_
                  refine W_region ?_
                  refine WL_all hE [2] [] [] (st' := ⟨[(2, I64 (-1 : Int))], [], []⟩) (orc := []) (ob := []) (by kernel_rfl) trivial ?_
                  refine N_then ?_
                  refine W_ret ?_
                  cases h
                  exact N_end (.inl rfl) (by kernel_rfl)
          refine WL_split (fun g => ⟨[(0, I32 r1), (15, BB g)], [], []⟩) (b := decide ((55296 : Int) ≤ r1)) (fun e7 => ?_) (fun e7 => ?_)
          · rw [and_t e7] at h
            refine WL_all hE [0, 18] [] [] (st' := ⟨[(0, I32 r1), (18, BB (decide (r1 ≤ (57343 : Int))))], [], []⟩) (orc := []) (ob := []) (by kernel_rfl) trivial ?_
            exact hJ1 (decide (r1 ≤ (57343 : Int))) h
          · rw [and_f e7] at h
            refine WL_all hE [0, 18] [] [] (st' := ⟨[(0, I32 r1), (18, BB false)], [], []⟩) (orc := []) (ob := []) (by kernel_rfl) trivial ?_
            exact hJ1 false h

def C_internal_strconv_isPowerOfTwo_16 (k : Nat) : FnC := ⟨true, 1, [], fun | [⟨(.int .i64), const0⟩], [⟨.bool, rz⟩] => const0 = (16 : Int) ∧ internal_strconv_isPowerOfTwo_16 k = some rz | _, _ => False⟩
noncomputable def E_internal_strconv_isPowerOfTwo_16 (k : Nat) : Env := ⟨Tryd.prog, Gu, 8, []⟩
theorem c_internal_strconv_isPowerOfTwo_16 (k : Nat) : Contract Tryd.prog Gu 97 (C_internal_strconv_isPowerOfTwo_16 k) := by
  refine contract_of Gu_stable (fn := Tryd.f97) Tryd.func97 (by kernel_rfl) rfl ?_ ?_
  · intro xs rs h
    unfold C_internal_strconv_isPowerOfTwo_16 at h
    simp only at h
    split at h
    · exact ⟨by show 1 ≤ _; rw [Tryd.ntmps97]; decide, rfl, fun _ u hu => by simp at hu; (rcases hu with rfl) <;> rfl⟩
    · exact h.elim
  · intro w0 M xs rs hG h
    unfold C_internal_strconv_isPowerOfTwo_16 at h
    simp only at h
    split at h
    case h_2 => exact h.elim
    rename_i const0 rz
    change Int at const0
    change Bool at rz
    obtain ⟨rfl, h⟩ := h
    have hE : EnvOK (E_internal_strconv_isPowerOfTwo_16 k) ⟨Tryd.prog, Tryd.f97.ntmps, w0, M, fun _ => False, fun _ => undef⟩ := (EnvOK.nil rfl Tryd.ntmps97 hG)
    unfold internal_strconv_isPowerOfTwo_16 at h
    refine W_seq ?_
    refine W_region ?_
    refine WL_all hE [0] [] [] (st' := ⟨[(0, I64 (16 : Int))], [], []⟩) (orc := []) (ob := []) (by kernel_rfl) trivial ?_
    refine N_then ?_
    refine W_seq ?_
    refine W_region ?_
    refine WL_all hE [2] [] [] (st' := ⟨[(2, BB true)], [], []⟩) (orc := []) (ob := []) (by kernel_rfl) trivial ?_
    refine N_then ?_
    refine W_ret ?_
    cases h
    exact N_end (.inl rfl) (by kernel_rfl)

def C_internal_strconv_formatBits_16_false_false (k : Nat) : FnC := ⟨false, 2, [], fun | [⟨(.sl (.int .u8)), dst1⟩, ⟨(.int .u64), u1⟩, ⟨(.int .i64), const2⟩, ⟨.bool, const3⟩, ⟨.bool, const4⟩], [⟨(.sl (.int .u8)), rz1⟩, ⟨.str, rz2⟩] => const2 = (16 : Int) ∧ const3 = false ∧ const4 = false ∧ internal_strconv_formatBits_16_false_false k dst1 u1 = some (rz1, rz2) | _, _ => False⟩
noncomputable def E_internal_strconv_formatBits_16_false_false (k : Nat) : Env := ⟨Tryd.prog, Gu, 102, [(97, C_internal_strconv_isPowerOfTwo_16 k), (98, C_math_bits_TrailingZeros k)]⟩
theorem c_internal_strconv_formatBits_16_false_false (k : Nat) : Contract Tryd.prog Gu 89 (C_internal_strconv_formatBits_16_false_false k) := by
  refine contract_of Gu_stable (fn := Tryd.f89) Tryd.func89 (by kernel_rfl) rfl ?_ ?_
  · intro xs rs h
    unfold C_internal_strconv_formatBits_16_false_false at h
    simp only at h
    split at h
    · exact ⟨by show 5 ≤ _; rw [Tryd.ntmps89]; decide, rfl, fun hf => by cases hf⟩
    · exact h.elim
  · intro w0 M xs rs hG h
    unfold C_internal_strconv_formatBits_16_false_false at h
    simp only at h
    split at h
    case h_2 => exact h.elim
    rename_i dst1 u1 const2 const3 const4 rz1 rz2
    change List (Int) at dst1
    change Int at u1
    change Int at const2
    change Bool at const3
    change Bool at const4
    change List (Int) at rz1
    change List UInt8 at rz2
    obtain ⟨rfl, rfl, rfl, h⟩ := h
    have hE : EnvOK (E_internal_strconv_formatBits_16_false_false k) ⟨Tryd.prog, Tryd.f89.ntmps, w0, M, fun _ => False, fun _ => undef⟩ := (EnvOK.cons (c_internal_strconv_isPowerOfTwo_16 k) (EnvOK.cons (e_math_bits_TrailingZeros k) (EnvOK.nil rfl Tryd.ntmps89 hG)))
    unfold internal_strconv_formatBits_16_false_false at h
    refine W_seq ?_
    refine W_region ?_
    refine WL_all hE [0, 1, 2, 3, 4, 10, 11] [] [10] (st' := ⟨[(0, .val (.sl (.int .u8)) dst1), (1, U64 u1), (2, I64 (16 : Int)), (3, BB false), (4, BB false), (10, .row 10), (11, SS ([] : List UInt8))], [], [(10, ⟨5, (.int .u8), ([] : List (Int))⟩)]⟩) (orc := []) (ob := []) (by kernel_rfl) trivial ?_
    refine N_then ?_
    refine W_seq ?_
    refine W_seq ?_
    refine W_region ?_
    refine WL_all hE [0, 1, 2, 3, 4, 10, 11, 28] [] [10] (st' := ⟨[(0, .val (.sl (.int .u8)) dst1), (1, U64 u1), (2, I64 (16 : Int)), (3, BB false), (4, BB false), (10, .row 10), (11, SS ([] : List UInt8)), (28, BB false)], [], [(10, ⟨5, (.int .u8), ([] : List (Int))⟩)]⟩) (orc := []) (ob := []) (by kernel_rfl) trivial ?_
    refine N_then ?_
    refine W_cond_false (by kernel_rfl) ?_
    refine W_skip ?_
    refine N_then ?_
    refine W_seq ?_
    refine W_region ?_
    refine WL_all hE [0, 1, 2, 3, 4, 10, 11, 12] [] [10, 12] (st' := ⟨[(0, .val (.sl (.int .u8)) dst1), (1, U64 u1), (2, I64 (16 : Int)), (3, BB false), (4, BB false), (10, .row 10), (11, SS ([] : List UInt8)), (12, .rptr 12 0 0 1)], [], [(10, ⟨5, (.int .u8), ([] : List (Int))⟩), (12, ⟨118, (.int .u8), List.replicate 65 (0 : Int)⟩)]⟩) (orc := []) (ob := []) (by kernel_rfl) trivial ?_
    refine N_then ?_
    refine W_seq ?_
    refine W_region ?_
    refine WL_all hE [0, 1, 2, 3, 4, 10, 11, 12, 13] [] [10, 12] (st' := ⟨[(0, .val (.sl (.int .u8)) dst1), (1, U64 u1), (2, I64 (16 : Int)), (3, BB false), (4, BB false), (10, .row 10), (11, SS ([] : List UInt8)), (12, .rptr 12 0 0 1), (13, I64 (65 : Int))], [], [(10, ⟨5, (.int .u8), ([] : List (Int))⟩), (12, ⟨118, (.int .u8), List.replicate 65 (0 : Int)⟩)]⟩) (orc := []) (ob := []) (by kernel_rfl) trivial ?_
    refine N_then ?_
    refine W_seq ?_
    refine W_seq ?_
    refine W_region ?_
    refine WL_all hE [0, 1, 2, 3, 4, 10, 11, 12, 13, 30] [] [10, 12] (st' := ⟨[(0, .val (.sl (.int .u8)) dst1), (1, U64 u1), (2, I64 (16 : Int)), (3, BB false), (4, BB false), (10, .row 10), (11, SS ([] : List UInt8)), (12, .rptr 12 0 0 1), (13, I64 (65 : Int)), (30, BB false)], [], [(10, ⟨5, (.int .u8), ([] : List (Int))⟩), (12, ⟨118, (.int .u8), List.replicate 65 (0 : Int)⟩)]⟩) (orc := []) (ob := []) (by kernel_rfl) trivial ?_
    refine N_then ?_
    refine W_cond_false (by kernel_rfl) ?_
    refine W_skip ?_
    refine N_then ?_
    refine W_join (α := (Int × List (Int) × List (Int))) (fun z => internal_strconv_formatBits_16_false_false_j1 z.1 z.2.1 z.2.2 = some (rz1, rz2)) (fun z => ⟨[(0, .val (.sl (.int .u8)) dst1), (3, BB false), (4, BB false), (10, .row 10), (11, SS ([] : List UInt8)), (12, .rptr 12 0 0 1), (13, I64 (z.1))], [], [(10, ⟨5, (.int .u8), (z.2.1)⟩), (12, ⟨118, (.int .u8), (z.2.2)⟩)]⟩) ?_ (fun hJ1 => ?_)
    · rintro ⟨i1, d1, a1⟩ h
      unfold internal_strconv_formatBits_16_false_false_j1 at h
      refine W_seq ?_
      refine W_seq ?_
      refine W_region ?_
      refine WL_all hE [0, 4, 10, 11, 12, 13, 89] [] [10, 12] (st' := ⟨[(0, .val (.sl (.int .u8)) dst1), (4, BB false), (10, .row 10), (11, SS ([] : List UInt8)), (12, .rptr 12 0 0 1), (13, I64 i1), (89, BB false)], [], [(10, ⟨5, (.int .u8), d1⟩), (12, ⟨118, (.int .u8), a1⟩)]⟩) (orc := []) (ob := []) (by kernel_rfl) trivial ?_
      refine N_then ?_
      refine W_cond_false (by kernel_rfl) ?_
      refine W_skip ?_
      refine N_then ?_
      refine W_seq ?_
      refine W_seq ?_
      refine W_region ?_
      refine WL_all hE [0, 10, 11, 12, 13, 94] [] [10, 12] (st' := ⟨[(0, .val (.sl (.int .u8)) dst1), (10, .row 10), (11, SS ([] : List UInt8)), (12, .rptr 12 0 0 1), (13, I64 i1), (94, BB false)], [], [(10, ⟨5, (.int .u8), d1⟩), (12, ⟨118, (.int .u8), a1⟩)]⟩) (orc := []) (ob := []) (by kernel_rfl) trivial ?_
      refine N_then ?_
      refine W_cond_false (by kernel_rfl) ?_
      refine W_skip ?_
      refine N_then ?_
      refine W_seq ?_
      refine W_region ?_
      obtain ⟨s1, e1, h⟩ := bind_some h
      obtain ⟨_, e2, h⟩ := bind_some h
      replace e2 := chk_some e2
      refine WL_all hE [10, 11] [] [10] (st' := ⟨[(10, .row 10), (11, SS (bytesStr s1))], [], [(10, ⟨5, (.int .u8), d1⟩)]⟩) (orc := [⟨(.sl (.int .u8)), s1⟩]) (ob := [sub? a1 i1 (a1.length : Int) = some s1, List.length a1 = 65]) (by kernel_rfl) ⟨e1, e2, trivial⟩ ?_
      refine N_then ?_
      refine W_ret ?_
      cases h
      exact N_end (.inl rfl) (by kernel_rfl)
    refine W_seq ?_
    refine W_region ?_
    refine WL_all hE [0, 1, 2, 3, 4, 10, 11, 12, 13, 34] [] [10, 12] (st' := ⟨[(0, .val (.sl (.int .u8)) dst1), (1, U64 u1), (2, I64 (16 : Int)), (3, BB false), (4, BB false), (10, .row 10), (11, SS ([] : List UInt8)), (12, .rptr 12 0 0 1), (13, I64 (65 : Int)), (34, BB true)], [], [(10, ⟨5, (.int .u8), ([] : List (Int))⟩), (12, ⟨118, (.int .u8), List.replicate 65 (0 : Int)⟩)]⟩) (orc := [tB true]) (ob := [(16 : Int) = (16 : Int) ∧ internal_strconv_isPowerOfTwo_16 k = some true]) (by kernel_rfl) ⟨⟨rfl, rfl⟩, trivial⟩ ?_
    refine N_then ?_
    refine W_cond_true (by kernel_rfl) ?_
    refine W_seq ?_
    refine W_region ?_
    refine WL_all hE [0, 1, 2, 3, 4, 10, 11, 12, 13, 14] [] [10, 12] (st' := ⟨[(0, .val (.sl (.int .u8)) dst1), (1, U64 u1), (2, I64 (16 : Int)), (3, BB false), (4, BB false), (10, .row 10), (11, SS ([] : List UInt8)), (12, .rptr 12 0 0 1), (13, I64 (65 : Int)), (14, U64 (4 : Int))], [], [(10, ⟨5, (.int .u8), ([] : List (Int))⟩), (12, ⟨118, (.int .u8), List.replicate 65 (0 : Int)⟩)]⟩) (orc := [tI64 (4 : Int)]) (ob := [math_bits_TrailingZeros k (16 : Int) = some (4 : Int)]) (by kernel_rfl) ⟨rfl, trivial⟩ ?_
    refine N_then ?_
    refine W_seq ?_
    refine W_region ?_
    refine WL_all hE [0, 1, 2, 3, 4, 10, 11, 12, 13, 14, 15] [] [10, 12] (st' := ⟨[(0, .val (.sl (.int .u8)) dst1), (1, U64 u1), (2, I64 (16 : Int)), (3, BB false), (4, BB false), (10, .row 10), (11, SS ([] : List UInt8)), (12, .rptr 12 0 0 1), (13, I64 (65 : Int)), (14, U64 (4 : Int)), (15, U64 (16 : Int))], [], [(10, ⟨5, (.int .u8), ([] : List (Int))⟩), (12, ⟨118, (.int .u8), List.replicate 65 (0 : Int)⟩)]⟩) (orc := []) (ob := []) (by kernel_rfl) trivial ?_
    refine N_then ?_
    refine W_seq ?_
    refine W_region ?_
    refine WL_all hE [0, 1, 3, 4, 10, 11, 12, 13, 14, 15, 16] [] [10, 12] (st' := ⟨[(0, .val (.sl (.int .u8)) dst1), (1, U64 u1), (3, BB false), (4, BB false), (10, .row 10), (11, SS ([] : List UInt8)), (12, .rptr 12 0 0 1), (13, I64 (65 : Int)), (14, U64 (4 : Int)), (15, U64 (16 : Int)), (16, U64 (15 : Int))], [], [(10, ⟨5, (.int .u8), ([] : List (Int))⟩), (12, ⟨118, (.int .u8), List.replicate 65 (0 : Int)⟩)]⟩) (orc := []) (ob := []) (by kernel_rfl) trivial ?_
    refine N_then ?_
    refine W_seq ?_
    refine W_block ?_
    refine W_loop (α := (Int × Int × List (Int))) (fun n z => internal_strconv_formatBits_16_false_false_l1 n z.1 z.2.1 z.2.2 = some (rz1, rz2)) (fun z => ⟨[(0, .val (.sl (.int .u8)) dst1), (1, U64 (z.1)), (3, BB false), (4, BB false), (10, .row 10), (11, SS ([] : List UInt8)), (12, .rptr 12 0 0 1), (13, I64 (z.2.1)), (14, U64 (4 : Int)), (15, U64 (16 : Int)), (16, U64 (15 : Int))], [], [(10, ⟨5, (.int .u8), ([] : List (Int))⟩), (12, ⟨118, (.int .u8), (z.2.2)⟩)]⟩) ?_ (k := k) (x := (u1, (65 : Int), List.replicate 65 (0 : Int))) h
    clear h
    rintro fuel1 ⟨u2, i2, a2⟩ h
    cases fuel1 with
    | zero => exact absurd (show none = some _ from h) (by simp)
    | succ fuel1 =>
      have h : internal_strconv_formatBits_16_false_false_b1 (internal_strconv_formatBits_16_false_false_l1 fuel1) u2 i2 a2 = some (rz1, rz2) := h
      unfold internal_strconv_formatBits_16_false_false_b1 at h
      refine W_seq ?_
      refine W_seq ?_
      refine W_region ?_
      refine WL_all hE [0, 1, 3, 4, 10, 11, 12, 13, 14, 15, 16, 46] [] [10, 12] (st' := ⟨[(0, .val (.sl (.int .u8)) dst1), (1, U64 u2), (3, BB false), (4, BB false), (10, .row 10), (11, SS ([] : List UInt8)), (12, .rptr 12 0 0 1), (13, I64 i2), (14, U64 (4 : Int)), (15, U64 (16 : Int)), (16, U64 (15 : Int)), (46, BB (decide ((16 : Int) ≤ u2)))], [], [(10, ⟨5, (.int .u8), ([] : List (Int))⟩), (12, ⟨118, (.int .u8), a2⟩)]⟩) (orc := []) (ob := []) (by kernel_rfl) trivial ?_
      refine N_then ?_
      refine W_cond (b := decide ((16 : Int) ≤ u2)) (by kernel_rfl) (fun e3 => ?_) (fun e3 => ?_)
      · replace h := ite_t e3 h
        refine W_skip ?_
        refine N_then ?_
        refine W_block ?_
        refine W_seq ?_
        refine W_region ?_
        refine WL_all hE [0, 1, 3, 4, 10, 11, 12, 13, 14, 15, 16] [] [10, 12] (st' := ⟨[(0, .val (.sl (.int .u8)) dst1), (1, U64 u2), (3, BB false), (4, BB false), (10, .row 10), (11, SS ([] : List UInt8)), (12, .rptr 12 0 0 1), (13, I64 (wi64 (i2 - (1 : Int)))), (14, U64 (4 : Int)), (15, U64 (16 : Int)), (16, U64 (15 : Int))], [], [(10, ⟨5, (.int .u8), ([] : List (Int))⟩), (12, ⟨118, (.int .u8), a2⟩)]⟩) (orc := []) (ob := []) (by kernel_rfl) trivial ?_
        refine N_then ?_
        refine W_seq ?_
        refine W_region ?_
        obtain ⟨b1, e5, h⟩ := bind_some h
        obtain ⟨x1, e4, h⟩ := bind_some h
        obtain ⟨_, e6, h⟩ := bind_some h
        replace e6 := chk_some e6
        refine WL_all hE [0, 1, 3, 4, 10, 11, 12, 13, 14, 15, 16] [] [10, 12] (st' := ⟨[(0, .val (.sl (.int .u8)) dst1), (1, U64 u2), (3, BB false), (4, BB false), (10, .row 10), (11, SS ([] : List UInt8)), (12, .rptr 12 0 0 1), (13, I64 (wi64 (i2 - (1 : Int)))), (14, U64 (4 : Int)), (15, U64 (16 : Int)), (16, U64 (15 : Int))], [], [(10, ⟨5, (.int .u8), ([] : List (Int))⟩), (12, ⟨118, (.int .u8), List.set a2 (wi64 (i2 - (1 : Int))).toNat b1⟩)]⟩) (orc := [tU8 b1, tU8 x1, tU8 x1]) (ob := [byteAt ([48, 49, 50, 51, 52, 53, 54, 55, 56, 57, 97, 98, 99, 100, 101, 102, 103, 104, 105, 106, 107, 108, 109, 110, 111, 112, 113, 114, 115, 116, 117, 118, 119, 120, 121, 122] : List UInt8) (wu64 (BitVec.toNat (BitVec.ofInt 64 u2 &&& BitVec.ofInt 64 (15 : Int)))) = some b1, at? a2 (wi64 (i2 - (1 : Int))) = some x1, List.length a2 = 65, at? a2 (wi64 (i2 - (1 : Int))) = some x1]) (by kernel_rfl) ⟨e5, e4, e6, e4, trivial⟩ ?_
        refine N_then ?_
        refine W_region ?_
        obtain ⟨_, e7, h⟩ := bind_some h
        replace e7 := chk_some e7
        refine WL_all hE [0, 1, 3, 4, 10, 11, 12, 13, 14, 15, 16] [] [10, 12] (st' := ⟨[(0, .val (.sl (.int .u8)) dst1), (1, U64 (Int.fdiv u2 (2 ^ min ((4 : Int)).toNat 64))), (3, BB false), (4, BB false), (10, .row 10), (11, SS ([] : List UInt8)), (12, .rptr 12 0 0 1), (13, I64 (wi64 (i2 - (1 : Int)))), (14, U64 (4 : Int)), (15, U64 (16 : Int)), (16, U64 (15 : Int))], [], [(10, ⟨5, (.int .u8), ([] : List (Int))⟩), (12, ⟨118, (.int .u8), List.set a2 (wi64 (i2 - (1 : Int))).toNat b1⟩)]⟩) (orc := []) (ob := [0 ≤ (4 : Int)]) (by kernel_rfl) ⟨e7, trivial⟩ ?_
        refine N_block ?_
        exact N_round (Int.fdiv u2 (2 ^ min ((4 : Int)).toNat 64), wi64 (i2 - (1 : Int)), List.set a2 (wi64 (i2 - (1 : Int))).toNat b1) (Nat.lt_succ_self _) h
      · replace h := ite_f e3 h
        refine W_exit ?_
        refine N_then_exit ?_
        refine N_then_exit ?_
        refine N_block_exit ?_
        refine N_then ?_
        refine W_seq ?_
        refine W_region ?_
        refine WL_all hE [0, 1, 3, 4, 10, 11, 12, 13] [] [10, 12] (st' := ⟨[(0, .val (.sl (.int .u8)) dst1), (1, U64 u2), (3, BB false), (4, BB false), (10, .row 10), (11, SS ([] : List UInt8)), (12, .rptr 12 0 0 1), (13, I64 (wi64 (i2 - (1 : Int))))], [], [(10, ⟨5, (.int .u8), ([] : List (Int))⟩), (12, ⟨118, (.int .u8), a2⟩)]⟩) (orc := []) (ob := []) (by kernel_rfl) trivial ?_
        refine N_then ?_
        refine W_region ?_
        obtain ⟨b2, e9, h⟩ := bind_some h
        obtain ⟨x2, e8, h⟩ := bind_some h
        obtain ⟨_, e10, h⟩ := bind_some h
        replace e10 := chk_some e10
        refine WL_all hE [0, 3, 4, 10, 11, 12, 13] [] [10, 12] (st' := ⟨[(0, .val (.sl (.int .u8)) dst1), (3, BB false), (4, BB false), (10, .row 10), (11, SS ([] : List UInt8)), (12, .rptr 12 0 0 1), (13, I64 (wi64 (i2 - (1 : Int))))], [], [(10, ⟨5, (.int .u8), ([] : List (Int))⟩), (12, ⟨118, (.int .u8), List.set a2 (wi64 (i2 - (1 : Int))).toNat b2⟩)]⟩) (orc := [tU8 b2, tU8 x2, tU8 x2]) (ob := [byteAt ([48, 49, 50, 51, 52, 53, 54, 55, 56, 57, 97, 98, 99, 100, 101, 102, 103, 104, 105, 106, 107, 108, 109, 110, 111, 112, 113, 114, 115, 116, 117, 118, 119, 120, 121, 122] : List UInt8) u2 = some b2, at? a2 (wi64 (i2 - (1 : Int))) = some x2, List.length a2 = 65, at? a2 (wi64 (i2 - (1 : Int))) = some x2]) (by kernel_rfl) ⟨e9, e8, e10, e8, trivial⟩ ?_
        exact hJ1 (wi64 (i2 - (1 : Int)), ([] : List (Int)), List.set a2 (wi64 (i2 - (1 : Int))).toNat b2) h

def C_internal_strconv_FormatUint_16 (k : Nat) : FnC := ⟨true, 1, [], fun | [⟨(.int .u64), i1⟩, ⟨(.int .i64), const1⟩], [⟨.str, rz⟩] => const1 = (16 : Int) ∧ internal_strconv_FormatUint_16 k i1 = some rz | _, _ => False⟩
noncomputable def E_internal_strconv_FormatUint_16 (k : Nat) : Env := ⟨Tryd.prog, Gu, 32, [(89, C_internal_strconv_formatBits_16_false_false k)]⟩
theorem c_internal_strconv_FormatUint_16 (k : Nat) : Contract Tryd.prog Gu 76 (C_internal_strconv_FormatUint_16 k) := by
  refine contract_of Gu_stable (fn := Tryd.f76) Tryd.func76 (by kernel_rfl) rfl ?_ ?_
  · intro xs rs h
    unfold C_internal_strconv_FormatUint_16 at h
    simp only at h
    split at h
    · exact ⟨by show 2 ≤ _; rw [Tryd.ntmps76]; decide, rfl, fun _ u hu => by simp at hu; (rcases hu with rfl) <;> rfl⟩
    · exact h.elim
  · intro w0 M xs rs hG h
    unfold C_internal_strconv_FormatUint_16 at h
    simp only at h
    split at h
    case h_2 => exact h.elim
    rename_i i1 const1 rz
    change Int at i1
    change Int at const1
    change List UInt8 at rz
    obtain ⟨rfl, h⟩ := h
    have hE : EnvOK (E_internal_strconv_FormatUint_16 k) ⟨Tryd.prog, Tryd.f76.ntmps, w0, M, fun _ => False, fun _ => undef⟩ := (EnvOK.cons (c_internal_strconv_formatBits_16_false_false k) (EnvOK.nil rfl Tryd.ntmps76 hG))
    unfold internal_strconv_FormatUint_16 at h
    refine W_seq ?_
    refine W_region ?_
    refine WL_all hE [0, 1] [] [] (st' := ⟨[(0, U64 i1), (1, I64 (16 : Int))], [], []⟩) (orc := []) (ob := []) (by kernel_rfl) trivial ?_
    refine N_then ?_
    refine W_seq ?_
    refine W_seq ?_
    refine W_region ?_
    refine WL_all hE [0, 1, 10] [] [] (st' := ⟨[(0, U64 i1), (1, I64 (16 : Int)), (10, BB false)], [], []⟩) (orc := []) (ob := []) (by kernel_rfl) trivial ?_
    refine N_then ?_
    refine W_cond_false (by kernel_rfl) ?_
    refine W_skip ?_
    refine N_then ?_
    refine W_seq ?_
    refine W_region ?_
    obtain ⟨v1, e1, h⟩ := bind_some h
    refine WL_all hE [8] [] [] (st' := ⟨[(8, SS v1.2)], [], []⟩) (orc := [⟨(.sl (.int .u8)), v1.1⟩, tS v1.2]) (ob := [(16 : Int) = (16 : Int) ∧ false = false ∧ false = false ∧ internal_strconv_formatBits_16_false_false k ([] : List (Int)) i1 = some ((v1).1, (v1).2)]) (by kernel_rfl) ⟨⟨rfl, rfl, rfl, e1⟩, trivial⟩ ?_
    refine N_then ?_
    refine W_seq ?_
    refine W_region ?_
    refine WL_all hE [4] [] [] (st' := ⟨[(4, SS v1.2)], [], []⟩) (orc := []) (ob := []) (by kernel_rfl) trivial ?_
    refine N_then ?_
    refine W_ret ?_
    cases h
    exact N_end (.inl rfl) (by kernel_rfl)

def C_strconv_FormatUint_16 (k : Nat) : FnC := ⟨true, 1, [], fun | [⟨(.int .u64), i1⟩, ⟨(.int .i64), const1⟩], [⟨.str, rz⟩] => const1 = (16 : Int) ∧ strconv_FormatUint_16 k i1 = some rz | _, _ => False⟩
noncomputable def E_strconv_FormatUint_16 (k : Nat) : Env := ⟨Tryd.prog, Gu, 8, [(76, C_internal_strconv_FormatUint_16 k)]⟩
theorem c_strconv_FormatUint_16 (k : Nat) : Contract Tryd.prog Gu 66 (C_strconv_FormatUint_16 k) := by
  refine contract_of Gu_stable (fn := Tryd.f66) Tryd.func66 (by kernel_rfl) rfl ?_ ?_
  · intro xs rs h
    unfold C_strconv_FormatUint_16 at h
    simp only at h
    split at h
    · exact ⟨by show 2 ≤ _; rw [Tryd.ntmps66]; decide, rfl, fun _ u hu => by simp at hu; (rcases hu with rfl) <;> rfl⟩
    · exact h.elim
  · intro w0 M xs rs hG h
    unfold C_strconv_FormatUint_16 at h
    simp only at h
    split at h
    case h_2 => exact h.elim
    rename_i i1 const1 rz
    change Int at i1
    change Int at const1
    change List UInt8 at rz
    obtain ⟨rfl, h⟩ := h
    have hE : EnvOK (E_strconv_FormatUint_16 k) ⟨Tryd.prog, Tryd.f66.ntmps, w0, M, fun _ => False, fun _ => undef⟩ := (EnvOK.cons (c_internal_strconv_FormatUint_16 k) (EnvOK.nil rfl Tryd.ntmps66 hG))
    unfold strconv_FormatUint_16 at h
    refine W_seq ?_
    refine W_region ?_
    refine WL_all hE [0, 1] [] [] (st' := ⟨[(0, U64 i1), (1, I64 (16 : Int))], [], []⟩) (orc := []) (ob := []) (by kernel_rfl) trivial ?_
    refine N_then ?_
    refine W_seq ?_
    refine W_region ?_
    obtain ⟨v1, e1, h⟩ := bind_some h
    refine WL_all hE [4] [] [] (st' := ⟨[(4, SS v1)], [], []⟩) (orc := [tS v1]) (ob := [(16 : Int) = (16 : Int) ∧ internal_strconv_FormatUint_16 k i1 = some v1]) (by kernel_rfl) ⟨⟨rfl, e1⟩, trivial⟩ ?_
    refine N_then ?_
    refine W_ret ?_
    cases h
    exact N_end (.inl rfl) (by kernel_rfl)

def C_internal_strconv_formatBits_16_false (k : Nat) : FnC := ⟨false, 2, [], fun | [⟨(.sl (.int .u8)), dst1⟩, ⟨(.int .u64), u1⟩, ⟨(.int .i64), const2⟩, ⟨.bool, neg1⟩, ⟨.bool, const4⟩], [⟨(.sl (.int .u8)), rz1⟩, ⟨.str, rz2⟩] => const2 = (16 : Int) ∧ const4 = false ∧ internal_strconv_formatBits_16_false k dst1 u1 neg1 = some (rz1, rz2) | _, _ => False⟩
noncomputable def E_internal_strconv_formatBits_16_false (k : Nat) : Env := ⟨Tryd.prog, Gu, 102, [(97, C_internal_strconv_isPowerOfTwo_16 k), (98, C_math_bits_TrailingZeros k)]⟩
theorem c_internal_strconv_formatBits_16_false (k : Nat) : Contract Tryd.prog Gu 89 (C_internal_strconv_formatBits_16_false k) := by
  refine contract_of Gu_stable (fn := Tryd.f89) Tryd.func89 (by kernel_rfl) rfl ?_ ?_
  · intro xs rs h
    unfold C_internal_strconv_formatBits_16_false at h
    simp only at h
    split at h
    · exact ⟨by show 5 ≤ _; rw [Tryd.ntmps89]; decide, rfl, fun hf => by cases hf⟩
    · exact h.elim
  · intro w0 M xs rs hG h
    unfold C_internal_strconv_formatBits_16_false at h
    simp only at h
    split at h
    case h_2 => exact h.elim
    rename_i dst1 u1 const2 neg1 const4 rz1 rz2
    change List (Int) at dst1
    change Int at u1
    change Int at const2
    change Bool at neg1
    change Bool at const4
    change List (Int) at rz1
    change List UInt8 at rz2
    obtain ⟨rfl, rfl, h⟩ := h
    have hE : EnvOK (E_internal_strconv_formatBits_16_false k) ⟨Tryd.prog, Tryd.f89.ntmps, w0, M, fun _ => False, fun _ => undef⟩ := (EnvOK.cons (c_internal_strconv_isPowerOfTwo_16 k) (EnvOK.cons (e_math_bits_TrailingZeros k) (EnvOK.nil rfl Tryd.ntmps89 hG)))
    unfold internal_strconv_formatBits_16_false at h
    refine W_seq ?_
    refine W_region ?_
    refine WL_all hE [0, 1, 2, 3, 4, 10, 11] [] [10] (st' := ⟨[(0, .val (.sl (.int .u8)) dst1), (1, U64 u1), (2, I64 (16 : Int)), (3, BB neg1), (4, BB false), (10, .row 10), (11, SS ([] : List UInt8))], [], [(10, ⟨5, (.int .u8), ([] : List (Int))⟩)]⟩) (orc := []) (ob := []) (by kernel_rfl) trivial ?_
    refine N_then ?_
    refine W_seq ?_
    refine W_seq ?_
    refine W_region ?_
    refine WL_all hE [0, 1, 2, 3, 4, 10, 11, 28] [] [10] (st' := ⟨[(0, .val (.sl (.int .u8)) dst1), (1, U64 u1), (2, I64 (16 : Int)), (3, BB neg1), (4, BB false), (10, .row 10), (11, SS ([] : List UInt8)), (28, BB false)], [], [(10, ⟨5, (.int .u8), ([] : List (Int))⟩)]⟩) (orc := []) (ob := []) (by kernel_rfl) trivial ?_
    refine N_then ?_
    refine W_cond_false (by kernel_rfl) ?_
    refine W_skip ?_
    refine N_then ?_
    refine W_seq ?_
    refine W_region ?_
    refine WL_all hE [0, 1, 2, 3, 4, 10, 11, 12] [] [10, 12] (st' := ⟨[(0, .val (.sl (.int .u8)) dst1), (1, U64 u1), (2, I64 (16 : Int)), (3, BB neg1), (4, BB false), (10, .row 10), (11, SS ([] : List UInt8)), (12, .rptr 12 0 0 1)], [], [(10, ⟨5, (.int .u8), ([] : List (Int))⟩), (12, ⟨118, (.int .u8), List.replicate 65 (0 : Int)⟩)]⟩) (orc := []) (ob := []) (by kernel_rfl) trivial ?_
    refine N_then ?_
    refine W_seq ?_
    refine W_region ?_
    refine WL_all hE [0, 1, 2, 3, 4, 10, 11, 12, 13] [] [10, 12] (st' := ⟨[(0, .val (.sl (.int .u8)) dst1), (1, U64 u1), (2, I64 (16 : Int)), (3, BB neg1), (4, BB false), (10, .row 10), (11, SS ([] : List UInt8)), (12, .rptr 12 0 0 1), (13, I64 (65 : Int))], [], [(10, ⟨5, (.int .u8), ([] : List (Int))⟩), (12, ⟨118, (.int .u8), List.replicate 65 (0 : Int)⟩)]⟩) (orc := []) (ob := []) (by kernel_rfl) trivial ?_
    refine N_then ?_
    refine W_join (α := Int) (fun z => internal_strconv_formatBits_16_false_j1 k neg1 z = some (rz1, rz2)) (fun u2 => ⟨[(0, .val (.sl (.int .u8)) dst1), (1, U64 u2), (2, I64 (16 : Int)), (3, BB neg1), (4, BB false), (10, .row 10), (11, SS ([] : List UInt8)), (12, .rptr 12 0 0 1), (13, I64 (65 : Int))], [], [(10, ⟨5, (.int .u8), ([] : List (Int))⟩), (12, ⟨118, (.int .u8), List.replicate 65 (0 : Int)⟩)]⟩) ?_ (fun hJ3 => ?_)
    · rintro u2 h
      unfold internal_strconv_formatBits_16_false_j1 at h
      refine W_join (α := (Int × List (Int) × List (Int))) (fun z => internal_strconv_formatBits_16_false_j2 neg1 z.1 z.2.1 z.2.2 = some (rz1, rz2)) (fun z => ⟨[(0, .val (.sl (.int .u8)) dst1), (3, BB neg1), (4, BB false), (10, .row 10), (11, SS ([] : List UInt8)), (12, .rptr 12 0 0 1), (13, I64 (z.1))], [], [(10, ⟨5, (.int .u8), (z.2.1)⟩), (12, ⟨118, (.int .u8), (z.2.2)⟩)]⟩) ?_ (fun hJ3 => ?_)
      · rintro ⟨i1, d1, a1⟩ h
        unfold internal_strconv_formatBits_16_false_j2 at h
        refine W_join (α := (Int × List (Int))) (fun z => internal_strconv_formatBits_16_false_j3 d1 z.1 z.2 = some (rz1, rz2)) (fun z => ⟨[(0, .val (.sl (.int .u8)) dst1), (4, BB false), (10, .row 10), (11, SS ([] : List UInt8)), (12, .rptr 12 0 0 1), (13, I64 (z.1))], [], [(10, ⟨5, (.int .u8), d1⟩), (12, ⟨118, (.int .u8), (z.2)⟩)]⟩) ?_ (fun hJ3 => ?_)
        · rintro ⟨i2, a2⟩ h
          unfold internal_strconv_formatBits_16_false_j3 at h
          refine W_seq ?_
          refine W_seq ?_
          refine W_region ?_
          refine WL_all hE [0, 10, 11, 12, 13, 94] [] [10, 12] (st' := ⟨[(0, .val (.sl (.int .u8)) dst1), (10, .row 10), (11, SS ([] : List UInt8)), (12, .rptr 12 0 0 1), (13, I64 i2), (94, BB false)], [], [(10, ⟨5, (.int .u8), d1⟩), (12, ⟨118, (.int .u8), a2⟩)]⟩) (orc := []) (ob := []) (by kernel_rfl) trivial ?_
          refine N_then ?_
          refine W_cond_false (by kernel_rfl) ?_
          refine W_skip ?_
          refine N_then ?_
          refine W_seq ?_
          refine W_region ?_
          obtain ⟨s1, e1, h⟩ := bind_some h
          obtain ⟨_, e2, h⟩ := bind_some h
          replace e2 := chk_some e2
          refine WL_all hE [10, 11] [] [10] (st' := ⟨[(10, .row 10), (11, SS (bytesStr s1))], [], [(10, ⟨5, (.int .u8), d1⟩)]⟩) (orc := [⟨(.sl (.int .u8)), s1⟩]) (ob := [sub? a2 i2 (a2.length : Int) = some s1, List.length a2 = 65]) (by kernel_rfl) ⟨e1, e2, trivial⟩ ?_
          refine N_then ?_
          refine W_ret ?_
          cases h
          exact N_end (.inl rfl) (by kernel_rfl)
        refine W_seq ?_
        refine W_region ?_
        refine WL_all hE [0, 4, 10, 11, 12, 13, 89] [] [10, 12] (st' := ⟨[(0, .val (.sl (.int .u8)) dst1), (4, BB false), (10, .row 10), (11, SS ([] : List UInt8)), (12, .rptr 12 0 0 1), (13, I64 i1), (89, BB neg1)], [], [(10, ⟨5, (.int .u8), d1⟩), (12, ⟨118, (.int .u8), a1⟩)]⟩) (orc := []) (ob := []) (by kernel_rfl) trivial ?_
        refine N_then ?_
        refine W_cond (b := neg1) (by kernel_rfl) (fun e3 => ?_) (fun e3 => ?_)
        · replace h := ite_t e3 h
          refine W_seq ?_
          refine W_region ?_
          refine WL_all hE [0, 4, 10, 11, 12, 13] [] [10, 12] (st' := ⟨[(0, .val (.sl (.int .u8)) dst1), (4, BB false), (10, .row 10), (11, SS ([] : List UInt8)), (12, .rptr 12 0 0 1), (13, I64 (wi64 (i1 - (1 : Int))))], [], [(10, ⟨5, (.int .u8), d1⟩), (12, ⟨118, (.int .u8), a1⟩)]⟩) (orc := []) (ob := []) (by kernel_rfl) trivial ?_
          refine N_then ?_
          refine W_region ?_
          obtain ⟨x1, e4, h⟩ := bind_some h
          obtain ⟨_, e5, h⟩ := bind_some h
          replace e5 := chk_some e5
          refine WL_all hE [0, 4, 10, 11, 12, 13] [] [10, 12] (st' := ⟨[(0, .val (.sl (.int .u8)) dst1), (4, BB false), (10, .row 10), (11, SS ([] : List UInt8)), (12, .rptr 12 0 0 1), (13, I64 (wi64 (i1 - (1 : Int))))], [], [(10, ⟨5, (.int .u8), d1⟩), (12, ⟨118, (.int .u8), List.set a1 (wi64 (i1 - (1 : Int))).toNat (45 : Int)⟩)]⟩) (orc := [tU8 x1, tU8 x1]) (ob := [at? a1 (wi64 (i1 - (1 : Int))) = some x1, List.length a1 = 65, at? a1 (wi64 (i1 - (1 : Int))) = some x1]) (by kernel_rfl) ⟨e4, e5, e4, trivial⟩ ?_
          exact hJ3 (wi64 (i1 - (1 : Int)), List.set a1 (wi64 (i1 - (1 : Int))).toNat (45 : Int)) h
        · replace h := ite_f e3 h
          refine W_skip ?_
          refine N.norm (st' := ⟨[(0, .val (.sl (.int .u8)) dst1), (4, BB false), (10, .row 10), (11, SS ([] : List UInt8)), (12, .rptr 12 0 0 1), (13, I64 i1)], [], [(10, ⟨5, (.int .u8), d1⟩), (12, ⟨118, (.int .u8), a1⟩)]⟩) (ks := [0, 4, 10, 11, 12, 13]) (bs := []) (rs := [10, 12]) ?_ (by kernel_rfl)
          exact hJ3 (i1, a1) h
      refine W_seq ?_
      refine W_region ?_
      refine WL_all hE [0, 1, 2, 3, 4, 10, 11, 12, 13, 34] [] [10, 12] (st' := ⟨[(0, .val (.sl (.int .u8)) dst1), (1, U64 u2), (2, I64 (16 : Int)), (3, BB neg1), (4, BB false), (10, .row 10), (11, SS ([] : List UInt8)), (12, .rptr 12 0 0 1), (13, I64 (65 : Int)), (34, BB true)], [], [(10, ⟨5, (.int .u8), ([] : List (Int))⟩), (12, ⟨118, (.int .u8), List.replicate 65 (0 : Int)⟩)]⟩) (orc := [tB true]) (ob := [(16 : Int) = (16 : Int) ∧ internal_strconv_isPowerOfTwo_16 k = some true]) (by kernel_rfl) ⟨⟨rfl, rfl⟩, trivial⟩ ?_
      refine N_then ?_
      refine W_cond_true (by kernel_rfl) ?_
      refine W_seq ?_
      refine W_region ?_
      refine WL_all hE [0, 1, 2, 3, 4, 10, 11, 12, 13, 14] [] [10, 12] (st' := ⟨[(0, .val (.sl (.int .u8)) dst1), (1, U64 u2), (2, I64 (16 : Int)), (3, BB neg1), (4, BB false), (10, .row 10), (11, SS ([] : List UInt8)), (12, .rptr 12 0 0 1), (13, I64 (65 : Int)), (14, U64 (4 : Int))], [], [(10, ⟨5, (.int .u8), ([] : List (Int))⟩), (12, ⟨118, (.int .u8), List.replicate 65 (0 : Int)⟩)]⟩) (orc := [tI64 (4 : Int)]) (ob := [math_bits_TrailingZeros k (16 : Int) = some (4 : Int)]) (by kernel_rfl) ⟨rfl, trivial⟩ ?_
      refine N_then ?_
      refine W_seq ?_
      refine W_region ?_
      refine WL_all hE [0, 1, 2, 3, 4, 10, 11, 12, 13, 14, 15] [] [10, 12] (st' := ⟨[(0, .val (.sl (.int .u8)) dst1), (1, U64 u2), (2, I64 (16 : Int)), (3, BB neg1), (4, BB false), (10, .row 10), (11, SS ([] : List UInt8)), (12, .rptr 12 0 0 1), (13, I64 (65 : Int)), (14, U64 (4 : Int)), (15, U64 (16 : Int))], [], [(10, ⟨5, (.int .u8), ([] : List (Int))⟩), (12, ⟨118, (.int .u8), List.replicate 65 (0 : Int)⟩)]⟩) (orc := []) (ob := []) (by kernel_rfl) trivial ?_
      refine N_then ?_
      refine W_seq ?_
      refine W_region ?_
      refine WL_all hE [0, 1, 3, 4, 10, 11, 12, 13, 14, 15, 16] [] [10, 12] (st' := ⟨[(0, .val (.sl (.int .u8)) dst1), (1, U64 u2), (3, BB neg1), (4, BB false), (10, .row 10), (11, SS ([] : List UInt8)), (12, .rptr 12 0 0 1), (13, I64 (65 : Int)), (14, U64 (4 : Int)), (15, U64 (16 : Int)), (16, U64 (15 : Int))], [], [(10, ⟨5, (.int .u8), ([] : List (Int))⟩), (12, ⟨118, (.int .u8), List.replicate 65 (0 : Int)⟩)]⟩) (orc := []) (ob := []) (by kernel_rfl) trivial ?_
      refine N_then ?_
      refine W_seq ?_
      refine W_block ?_
      refine W_loop (α := (Int × Int × List (Int))) (fun n z => internal_strconv_formatBits_16_false_l1 neg1 n z.1 z.2.1 z.2.2 = some (rz1, rz2)) (fun z => ⟨[(0, .val (.sl (.int .u8)) dst1), (1, U64 (z.1)), (3, BB neg1), (4, BB false), (10, .row 10), (11, SS ([] : List UInt8)), (12, .rptr 12 0 0 1), (13, I64 (z.2.1)), (14, U64 (4 : Int)), (15, U64 (16 : Int)), (16, U64 (15 : Int))], [], [(10, ⟨5, (.int .u8), ([] : List (Int))⟩), (12, ⟨118, (.int .u8), (z.2.2)⟩)]⟩) ?_ (k := k) (x := (u2, (65 : Int), List.replicate 65 (0 : Int))) h
      clear h
      rintro fuel1 ⟨u3, i3, a3⟩ h
      cases fuel1 with
      | zero => exact absurd (show none = some _ from h) (by simp)
      | succ fuel1 =>
        have h : internal_strconv_formatBits_16_false_b1 neg1 (internal_strconv_formatBits_16_false_l1 neg1 fuel1) u3 i3 a3 = some (rz1, rz2) := h
        unfold internal_strconv_formatBits_16_false_b1 at h
        refine W_seq ?_
        refine W_seq ?_
        refine W_region ?_
        refine WL_all hE [0, 1, 3, 4, 10, 11, 12, 13, 14, 15, 16, 46] [] [10, 12] (st' := ⟨[(0, .val (.sl (.int .u8)) dst1), (1, U64 u3), (3, BB neg1), (4, BB false), (10, .row 10), (11, SS ([] : List UInt8)), (12, .rptr 12 0 0 1), (13, I64 i3), (14, U64 (4 : Int)), (15, U64 (16 : Int)), (16, U64 (15 : Int)), (46, BB (decide ((16 : Int) ≤ u3)))], [], [(10, ⟨5, (.int .u8), ([] : List (Int))⟩), (12, ⟨118, (.int .u8), a3⟩)]⟩) (orc := []) (ob := []) (by kernel_rfl) trivial ?_
        refine N_then ?_
        refine W_cond (b := decide ((16 : Int) ≤ u3)) (by kernel_rfl) (fun e6 => ?_) (fun e6 => ?_)
        · replace h := ite_t e6 h
          refine W_skip ?_
          refine N_then ?_
          refine W_block ?_
          refine W_seq ?_
          refine W_region ?_
          refine WL_all hE [0, 1, 3, 4, 10, 11, 12, 13, 14, 15, 16] [] [10, 12] (st' := ⟨[(0, .val (.sl (.int .u8)) dst1), (1, U64 u3), (3, BB neg1), (4, BB false), (10, .row 10), (11, SS ([] : List UInt8)), (12, .rptr 12 0 0 1), (13, I64 (wi64 (i3 - (1 : Int)))), (14, U64 (4 : Int)), (15, U64 (16 : Int)), (16, U64 (15 : Int))], [], [(10, ⟨5, (.int .u8), ([] : List (Int))⟩), (12, ⟨118, (.int .u8), a3⟩)]⟩) (orc := []) (ob := []) (by kernel_rfl) trivial ?_
          refine N_then ?_
          refine W_seq ?_
          refine W_region ?_
          obtain ⟨b1, e8, h⟩ := bind_some h
          obtain ⟨x2, e7, h⟩ := bind_some h
          obtain ⟨_, e9, h⟩ := bind_some h
          replace e9 := chk_some e9
          refine WL_all hE [0, 1, 3, 4, 10, 11, 12, 13, 14, 15, 16] [] [10, 12] (st' := ⟨[(0, .val (.sl (.int .u8)) dst1), (1, U64 u3), (3, BB neg1), (4, BB false), (10, .row 10), (11, SS ([] : List UInt8)), (12, .rptr 12 0 0 1), (13, I64 (wi64 (i3 - (1 : Int)))), (14, U64 (4 : Int)), (15, U64 (16 : Int)), (16, U64 (15 : Int))], [], [(10, ⟨5, (.int .u8), ([] : List (Int))⟩), (12, ⟨118, (.int .u8), List.set a3 (wi64 (i3 - (1 : Int))).toNat b1⟩)]⟩) (orc := [tU8 b1, tU8 x2, tU8 x2]) (ob := [byteAt ([48, 49, 50, 51, 52, 53, 54, 55, 56, 57, 97, 98, 99, 100, 101, 102, 103, 104, 105, 106, 107, 108, 109, 110, 111, 112, 113, 114, 115, 116, 117, 118, 119, 120, 121, 122] : List UInt8) (wu64 (BitVec.toNat (BitVec.ofInt 64 u3 &&& BitVec.ofInt 64 (15 : Int)))) = some b1, at? a3 (wi64 (i3 - (1 : Int))) = some x2, List.length a3 = 65, at? a3 (wi64 (i3 - (1 : Int))) = some x2]) (by kernel_rfl) ⟨e8, e7, e9, e7, trivial⟩ ?_
          refine N_then ?_
          refine W_region ?_
          obtain ⟨_, e10, h⟩ := bind_some h
          replace e10 := chk_some e10
          refine WL_all hE [0, 1, 3, 4, 10, 11, 12, 13, 14, 15, 16] [] [10, 12] (st' := ⟨[(0, .val (.sl (.int .u8)) dst1), (1, U64 (Int.fdiv u3 (2 ^ min ((4 : Int)).toNat 64))), (3, BB neg1), (4, BB false), (10, .row 10), (11, SS ([] : List UInt8)), (12, .rptr 12 0 0 1), (13, I64 (wi64 (i3 - (1 : Int)))), (14, U64 (4 : Int)), (15, U64 (16 : Int)), (16, U64 (15 : Int))], [], [(10, ⟨5, (.int .u8), ([] : List (Int))⟩), (12, ⟨118, (.int .u8), List.set a3 (wi64 (i3 - (1 : Int))).toNat b1⟩)]⟩) (orc := []) (ob := [0 ≤ (4 : Int)]) (by kernel_rfl) ⟨e10, trivial⟩ ?_
          refine N_block ?_
          exact N_round (Int.fdiv u3 (2 ^ min ((4 : Int)).toNat 64), wi64 (i3 - (1 : Int)), List.set a3 (wi64 (i3 - (1 : Int))).toNat b1) (Nat.lt_succ_self _) h
        · replace h := ite_f e6 h
          refine W_exit ?_
          refine N_then_exit ?_
          refine N_then_exit ?_
          refine N_block_exit ?_
          refine N_then ?_
          refine W_seq ?_
          refine W_region ?_
          refine WL_all hE [0, 1, 3, 4, 10, 11, 12, 13] [] [10, 12] (st' := ⟨[(0, .val (.sl (.int .u8)) dst1), (1, U64 u3), (3, BB neg1), (4, BB false), (10, .row 10), (11, SS ([] : List UInt8)), (12, .rptr 12 0 0 1), (13, I64 (wi64 (i3 - (1 : Int))))], [], [(10, ⟨5, (.int .u8), ([] : List (Int))⟩), (12, ⟨118, (.int .u8), a3⟩)]⟩) (orc := []) (ob := []) (by kernel_rfl) trivial ?_
          refine N_then ?_
          refine W_region ?_
          obtain ⟨b2, e12, h⟩ := bind_some h
          obtain ⟨x3, e11, h⟩ := bind_some h
          obtain ⟨_, e13, h⟩ := bind_some h
          replace e13 := chk_some e13
          refine WL_all hE [0, 3, 4, 10, 11, 12, 13] [] [10, 12] (st' := ⟨[(0, .val (.sl (.int .u8)) dst1), (3, BB neg1), (4, BB false), (10, .row 10), (11, SS ([] : List UInt8)), (12, .rptr 12 0 0 1), (13, I64 (wi64 (i3 - (1 : Int))))], [], [(10, ⟨5, (.int .u8), ([] : List (Int))⟩), (12, ⟨118, (.int .u8), List.set a3 (wi64 (i3 - (1 : Int))).toNat b2⟩)]⟩) (orc := [tU8 b2, tU8 x3, tU8 x3]) (ob := [byteAt ([48, 49, 50, 51, 52, 53, 54, 55, 56, 57, 97, 98, 99, 100, 101, 102, 103, 104, 105, 106, 107, 108, 109, 110, 111, 112, 113, 114, 115, 116, 117, 118, 119, 120, 121, 122] : List UInt8) u3 = some b2, at? a3 (wi64 (i3 - (1 : Int))) = some x3, List.length a3 = 65, at? a3 (wi64 (i3 - (1 : Int))) = some x3]) (by kernel_rfl) ⟨e12, e11, e13, e11, trivial⟩ ?_
          exact hJ3 (wi64 (i3 - (1 : Int)), ([] : List (Int)), List.set a3 (wi64 (i3 - (1 : Int))).toNat b2) h
    refine W_seq ?_
    refine W_region ?_
    refine WL_all hE [0, 1, 2, 3, 4, 10, 11, 12, 13, 30] [] [10, 12] (st' := ⟨[(0, .val (.sl (.int .u8)) dst1), (1, U64 u1), (2, I64 (16 : Int)), (3, BB neg1), (4, BB false), (10, .row 10), (11, SS ([] : List UInt8)), (12, .rptr 12 0 0 1), (13, I64 (65 : Int)), (30, BB neg1)], [], [(10, ⟨5, (.int .u8), ([] : List (Int))⟩), (12, ⟨118, (.int .u8), List.replicate 65 (0 : Int)⟩)]⟩) (orc := []) (ob := []) (by kernel_rfl) trivial ?_
    refine N_then ?_
    refine W_cond (b := neg1) (by kernel_rfl) (fun e14 => ?_) (fun e14 => ?_)
    · replace h := ite_t e14 h
      refine W_region ?_
      refine WL_all hE [0, 1, 2, 3, 4, 10, 11, 12, 13] [] [10, 12] (st' := ⟨[(0, .val (.sl (.int .u8)) dst1), (1, U64 (negI .u64 u1)), (2, I64 (16 : Int)), (3, BB neg1), (4, BB false), (10, .row 10), (11, SS ([] : List UInt8)), (12, .rptr 12 0 0 1), (13, I64 (65 : Int))], [], [(10, ⟨5, (.int .u8), ([] : List (Int))⟩), (12, ⟨118, (.int .u8), List.replicate 65 (0 : Int)⟩)]⟩) (orc := []) (ob := []) (by kernel_rfl) trivial ?_
      exact hJ3 (negI .u64 u1) h
    · replace h := ite_f e14 h
      refine W_skip ?_
      refine N.norm (st' := ⟨[(0, .val (.sl (.int .u8)) dst1), (1, U64 u1), (2, I64 (16 : Int)), (3, BB neg1), (4, BB false), (10, .row 10), (11, SS ([] : List UInt8)), (12, .rptr 12 0 0 1), (13, I64 (65 : Int))], [], [(10, ⟨5, (.int .u8), ([] : List (Int))⟩), (12, ⟨118, (.int .u8), List.replicate 65 (0 : Int)⟩)]⟩) (ks := [0, 1, 2, 3, 4, 10, 11, 12, 13]) (bs := []) (rs := [10, 12]) ?_ (by kernel_rfl)
      exact hJ3 u1 h

def C_internal_strconv_FormatInt_16 (k : Nat) : FnC := ⟨true, 1, [], fun | [⟨(.int .i64), i1⟩, ⟨(.int .i64), const1⟩], [⟨.str, rz⟩] => const1 = (16 : Int) ∧ internal_strconv_FormatInt_16 k i1 = some rz | _, _ => False⟩
noncomputable def E_internal_strconv_FormatInt_16 (k : Nat) : Env := ⟨Tryd.prog, Gu, 54, [(89, C_internal_strconv_formatBits_16_false k)]⟩
theorem c_internal_strconv_FormatInt_16 (k : Nat) : Contract Tryd.prog Gu 77 (C_internal_strconv_FormatInt_16 k) := by
  refine contract_of Gu_stable (fn := Tryd.f77) Tryd.func77 (by kernel_rfl) rfl ?_ ?_
  · intro xs rs h
    unfold C_internal_strconv_FormatInt_16 at h
    simp only at h
    split at h
    · exact ⟨by show 2 ≤ _; rw [Tryd.ntmps77]; decide, rfl, fun _ u hu => by simp at hu; (rcases hu with rfl) <;> rfl⟩
    · exact h.elim
  · intro w0 M xs rs hG h
    unfold C_internal_strconv_FormatInt_16 at h
    simp only at h
    split at h
    case h_2 => exact h.elim
    rename_i i1 const1 rz
    change Int at i1
    change Int at const1
    change List UInt8 at rz
    obtain ⟨rfl, h⟩ := h
    have hE : EnvOK (E_internal_strconv_FormatInt_16 k) ⟨Tryd.prog, Tryd.f77.ntmps, w0, M, fun _ => False, fun _ => undef⟩ := (EnvOK.cons (c_internal_strconv_formatBits_16_false k) (EnvOK.nil rfl Tryd.ntmps77 hG))
    unfold internal_strconv_FormatInt_16 at h
    refine W_seq ?_
    refine W_region ?_
    refine WL_all hE [0, 1] [] [] (st' := ⟨[(0, I64 i1), (1, I64 (16 : Int))], [], []⟩) (orc := []) (ob := []) (by kernel_rfl) trivial ?_
    refine N_then ?_
    refine W_seq ?_
    refine W_seq ?_
    refine W_region ?_
    refine WL_all hE [0, 1, 11] [] [] (st' := ⟨[(0, I64 i1), (1, I64 (16 : Int)), (11, BB false)], [], []⟩) (orc := []) (ob := []) (by kernel_rfl) trivial ?_
    refine N_then ?_
    refine W_cond_false (by kernel_rfl) ?_
    refine W_skip ?_
    refine N_then ?_
    refine W_seq ?_
    refine W_region ?_
    obtain ⟨v1, e1, h⟩ := bind_some h
    refine WL_all hE [9] [] [] (st' := ⟨[(9, SS v1.2)], [], []⟩) (orc := [⟨(.sl (.int .u8)), v1.1⟩, tS v1.2]) (ob := [(16 : Int) = (16 : Int) ∧ false = false ∧ internal_strconv_formatBits_16_false k ([] : List (Int)) (wu64 i1) (decide (i1 < (0 : Int))) = some ((v1).1, (v1).2)]) (by kernel_rfl) ⟨⟨rfl, rfl, e1⟩, trivial⟩ ?_
    refine N_then ?_
    refine W_seq ?_
    refine W_region ?_
    refine WL_all hE [4] [] [] (st' := ⟨[(4, SS v1.2)], [], []⟩) (orc := []) (ob := []) (by kernel_rfl) trivial ?_
    refine N_then ?_
    refine W_ret ?_
    cases h
    exact N_end (.inl rfl) (by kernel_rfl)

def C_strconv_FormatInt_16 (k : Nat) : FnC := ⟨true, 1, [], fun | [⟨(.int .i64), i1⟩, ⟨(.int .i64), const1⟩], [⟨.str, rz⟩] => const1 = (16 : Int) ∧ strconv_FormatInt_16 k i1 = some rz | _, _ => False⟩
noncomputable def E_strconv_FormatInt_16 (k : Nat) : Env := ⟨Tryd.prog, Gu, 8, [(77, C_internal_strconv_FormatInt_16 k)]⟩
theorem c_strconv_FormatInt_16 (k : Nat) : Contract Tryd.prog Gu 67 (C_strconv_FormatInt_16 k) := by
  refine contract_of Gu_stable (fn := Tryd.f67) Tryd.func67 (by kernel_rfl) rfl ?_ ?_
  · intro xs rs h
    unfold C_strconv_FormatInt_16 at h
    simp only at h
    split at h
    · exact ⟨by show 2 ≤ _; rw [Tryd.ntmps67]; decide, rfl, fun _ u hu => by simp at hu; (rcases hu with rfl) <;> rfl⟩
    · exact h.elim
  · intro w0 M xs rs hG h
    unfold C_strconv_FormatInt_16 at h
    simp only at h
    split at h
    case h_2 => exact h.elim
    rename_i i1 const1 rz
    change Int at i1
    change Int at const1
    change List UInt8 at rz
    obtain ⟨rfl, h⟩ := h
    have hE : EnvOK (E_strconv_FormatInt_16 k) ⟨Tryd.prog, Tryd.f67.ntmps, w0, M, fun _ => False, fun _ => undef⟩ := (EnvOK.cons (c_internal_strconv_FormatInt_16 k) (EnvOK.nil rfl Tryd.ntmps67 hG))
    unfold strconv_FormatInt_16 at h
    refine W_seq ?_
    refine W_region ?_
    refine WL_all hE [0, 1] [] [] (st' := ⟨[(0, I64 i1), (1, I64 (16 : Int))], [], []⟩) (orc := []) (ob := []) (by kernel_rfl) trivial ?_
    refine N_then ?_
    refine W_seq ?_
    refine W_region ?_
    obtain ⟨v1, e1, h⟩ := bind_some h
    refine WL_all hE [4] [] [] (st' := ⟨[(4, SS v1)], [], []⟩) (orc := [tS v1]) (ob := [(16 : Int) = (16 : Int) ∧ internal_strconv_FormatInt_16 k i1 = some v1]) (by kernel_rfl) ⟨⟨rfl, e1⟩, trivial⟩ ?_
    refine N_then ?_
    refine W_ret ?_
    cases h
    exact N_end (.inl rfl) (by kernel_rfl)

def C_runes_shown (k : Nat) : FnC := ⟨true, 1, [], fun | [⟨.str, s1⟩, ⟨(.pair (.int .i32) (.pair (.int .i64) (.pair (.int .i64) (.pair .bool .unit)))), p1⟩], [⟨.str, rz⟩] => runes_shown k s1 p1 = some rz | _, _ => False⟩
noncomputable def E_runes_shown (k : Nat) : Env := ⟨Tryd.prog, Gu, 40, [(66, C_strconv_FormatUint_16 k), (67, C_strconv_FormatInt_16 k)]⟩
theorem c_runes_shown (k : Nat) : Contract Tryd.prog Gu 56 (C_runes_shown k) := by
  refine contract_of Gu_stable (fn := Tryd.f56) Tryd.func56 (by kernel_rfl) rfl ?_ ?_
  · intro xs rs h
    unfold C_runes_shown at h
    simp only at h
    split at h
    · exact ⟨by show 2 ≤ _; rw [Tryd.ntmps56]; decide, rfl, fun _ u hu => by simp at hu; (rcases hu with rfl) <;> rfl⟩
    · exact h.elim
  · intro w0 M xs rs hG h
    unfold C_runes_shown at h
    simp only at h
    split at h
    case h_2 => exact h.elim
    rename_i s1 p1 rz
    change List UInt8 at s1
    change (Int × Int × Int × Bool × Unit) at p1
    change List UInt8 at rz
    have hE : EnvOK (E_runes_shown k) ⟨Tryd.prog, Tryd.f56.ntmps, w0, M, fun _ => False, fun _ => undef⟩ := (EnvOK.cons (c_strconv_FormatUint_16 k) (EnvOK.cons (c_strconv_FormatInt_16 k) (EnvOK.nil rfl Tryd.ntmps56 hG)))
    unfold runes_shown at h
    refine W_seq ?_
    refine W_region ?_
    refine WL_all hE [0, 3] [3] [] (st' := ⟨[(0, SS s1), (3, .ptr 3 0)], [(3, .cells [I32 p1.1, I64 p1.2.1, I64 p1.2.2.1, BB p1.2.2.2.1] 35)], []⟩) (orc := []) (ob := []) (by kernel_rfl) trivial ?_
    refine N_then ?_
    refine W_seq ?_
    refine W_seq ?_
    refine W_region ?_
    obtain ⟨b1, e1, h⟩ := bind_some h
    refine WL_all hE [3, 5] [3] [] (st' := ⟨[(3, .ptr 3 0), (5, U8 b1)], [(3, .cells [I32 p1.1, I64 p1.2.1, I64 p1.2.2.1, BB p1.2.2.2.1] 35)], []⟩) (orc := [tU8 b1]) (ob := [byteAt s1 p1.2.1 = some b1]) (by kernel_rfl) ⟨e1, trivial⟩ ?_
    refine N_then ?_
    refine W_block ?_
    refine W_seq ?_
    refine W_region ?_
    refine WL_all hE [3, 5, 10] [3] [] (st' := ⟨[(3, .ptr 3 0), (5, U8 b1), (10, BB p1.2.2.2.1)], [(3, .cells [I32 p1.1, I64 p1.2.1, I64 p1.2.2.1, BB p1.2.2.2.1] 35)], []⟩) (orc := []) (ob := []) (by kernel_rfl) trivial ?_
    refine N_then ?_
    refine W_cond (b := p1.2.2.2.1) (by kernel_rfl) (fun e2 => ?_) (fun e2 => ?_)
    · replace h := ite_t e2 h
      refine W_seq ?_
      refine W_region ?_
      obtain ⟨v1, e3, h⟩ := bind_some h
      obtain ⟨_, e4, h⟩ := bind_some h
      replace e4 := chk_some e4
      refine WL_all hE [4] [] [] (st' := ⟨[(4, SS (([92, 120] : List UInt8) ++ v1))], [], []⟩) (orc := [tS v1]) (ob := [(16 : Int) = (16 : Int) ∧ strconv_FormatUint_16 k (wu64 b1) = some v1, List.length ([92, 120] : List UInt8) + List.length v1 ≤ lim]) (by kernel_rfl) ⟨⟨rfl, e3⟩, e4, trivial⟩ ?_
      refine N_then ?_
      refine W_ret ?_
      refine N_block_ret ?_
      refine N_then_ret ?_
      cases h
      exact N_end (.inl rfl) (by kernel_rfl)
    · replace h := ite_f e2 h
      refine W_join (α := Bool) (fun z => runes_shown_j1 k b1 p1 z = some rz) (fun t1 => ⟨[(3, .ptr 3 0), (5, U8 b1), (17, BB t1)], [(3, .cells [I32 p1.1, I64 p1.2.1, I64 p1.2.2.1, BB p1.2.2.2.1] 35)], []⟩) ?_ (fun hJ2 => ?_)
      · rintro t1 h
        unfold runes_shown_j1 at h
        refine W_cond (b := t1) (by kernel_rfl) (fun e5 => ?_) (fun e5 => ?_)
        · replace h := ite_t e5 h
          refine W_seq ?_
          refine W_region ?_
          obtain ⟨_, e6, h⟩ := bind_some h
          replace e6 := chk_some e6
          refine WL_all hE [4] [] [] (st' := ⟨[(4, SS (([92] : List UInt8) ++ ((Utf8.encode b1).data.toList)))], [], []⟩) (orc := []) (ob := [List.length ([92] : List UInt8) + List.length ((Utf8.encode b1).data.toList) ≤ lim]) (by kernel_rfl) ⟨e6, trivial⟩ ?_
          refine N_then ?_
          refine W_ret ?_
          refine N_block_ret ?_
          refine N_then_ret ?_
          cases h
          exact N_end (.inl rfl) (by kernel_rfl)
        · replace h := ite_f e5 h
          refine W_seq ?_
          refine W_region ?_
          refine WL_tk hE 3 [3, 5, 28] [3] [] (st' := ⟨[(3, .ptr 3 0), (5, U8 b1), (28, BB (decide ((32 : Int) ≤ b1)))], [(3, .cells [I32 p1.1, I64 p1.2.1, I64 p1.2.2.1, BB p1.2.2.2.1] 35)], []⟩) (orc := []) (ob := []) (by kernel_rfl) trivial ?_
          refine WL_join (α := Bool) (fun z => runes_shown_j2 k b1 p1 z = some rz) (fun t2 => ⟨[(3, .ptr 3 0), (5, U8 b1), (31, BB t2)], [(3, .cells [I32 p1.1, I64 p1.2.1, I64 p1.2.2.1, BB p1.2.2.2.1] 35)], []⟩) 3 ?_ (fun hJ2 => ?_)
          · rintro t2 h
            unfold runes_shown_j2 at h
            refine WL_all hE [3, 5, 25] [3] [] (st' := ⟨[(3, .ptr 3 0), (5, U8 b1), (25, BB t2)], [(3, .cells [I32 p1.1, I64 p1.2.1, I64 p1.2.2.1, BB p1.2.2.2.1] 35)], []⟩) (orc := []) (ob := []) (by kernel_rfl) trivial ?_
            refine N_then ?_
            refine W_cond (b := t2) (by kernel_rfl) (fun e7 => ?_) (fun e7 => ?_)
            · replace h := ite_t e7 h
              refine W_seq ?_
              refine W_region ?_
              refine WL_all hE [4] [] [] (st' := ⟨[(4, SS ((Utf8.encode b1).data.toList))], [], []⟩) (orc := []) (ob := []) (by kernel_rfl) trivial ?_
              refine N_then ?_
              refine W_ret ?_
              refine N_block_ret ?_
              refine N_then_ret ?_
              cases h
              exact N_end (.inl rfl) (by kernel_rfl)
            · replace h := ite_f e7 h
              refine W_skip ?_
              refine N_block ?_
              refine N_then ?_
              refine W_seq ?_
              refine W_region ?_
              obtain ⟨v2, e8, h⟩ := bind_some h
              obtain ⟨_, e9, h⟩ := bind_some h
              replace e9 := chk_some e9
              obtain ⟨_, e10, h⟩ := bind_some h
              replace e10 := chk_some e10
              refine WL_all hE [4] [] [] (st' := ⟨[(4, SS ((([92, 117] : List UInt8) ++ v2) ++ ([59] : List UInt8)))], [], []⟩) (orc := [tS v2]) (ob := [(16 : Int) = (16 : Int) ∧ strconv_FormatInt_16 k (wi64 p1.1) = some v2, List.length ([92, 117] : List UInt8) + List.length v2 ≤ lim, List.length (([92, 117] : List UInt8) ++ v2) + List.length ([59] : List UInt8) ≤ lim]) (by kernel_rfl) ⟨⟨rfl, e8⟩, e9, e10, trivial⟩ ?_
              refine N_then ?_
              refine W_ret ?_
              cases h
              exact N_end (.inl rfl) (by kernel_rfl)
          refine WL_split (fun g => ⟨[(3, .ptr 3 0), (5, U8 b1), (28, BB g)], [(3, .cells [I32 p1.1, I64 p1.2.1, I64 p1.2.2.1, BB p1.2.2.2.1] 35)], []⟩) (b := decide ((32 : Int) ≤ b1)) (fun e11 => ?_) (fun e11 => ?_)
          · rw [and_t e11] at h
            refine WL_all hE [3, 5, 31] [3] [] (st' := ⟨[(3, .ptr 3 0), (5, U8 b1), (31, BB (decide (b1 < (127 : Int))))], [(3, .cells [I32 p1.1, I64 p1.2.1, I64 p1.2.2.1, BB p1.2.2.2.1] 35)], []⟩) (orc := []) (ob := []) (by kernel_rfl) trivial ?_
            exact hJ2 (decide (b1 < (127 : Int))) h
          · rw [and_f e11] at h
            refine WL_all hE [3, 5, 31] [3] [] (st' := ⟨[(3, .ptr 3 0), (5, U8 b1), (31, BB false)], [(3, .cells [I32 p1.1, I64 p1.2.1, I64 p1.2.2.1, BB p1.2.2.2.1] 35)], []⟩) (orc := []) (ob := []) (by kernel_rfl) trivial ?_
            exact hJ2 false h
      refine W_seq ?_
      refine W_region ?_
      refine WL_all hE [3, 5, 17] [3] [] (st' := ⟨[(3, .ptr 3 0), (5, U8 b1), (17, BB (b1 == (34 : Int)))], [(3, .cells [I32 p1.1, I64 p1.2.1, I64 p1.2.2.1, BB p1.2.2.2.1] 35)], []⟩) (orc := []) (ob := []) (by kernel_rfl) trivial ?_
      refine N_then ?_
      refine W_cond (b := b1 == (34 : Int)) (by kernel_rfl) (fun e12 => ?_) (fun e12 => ?_)
      · replace h := ite_t e12 h
        refine W_skip ?_
        exact hJ2 (b1 == (34 : Int)) h
      · replace h := ite_f e12 h
        refine W_region ?_
        refine WL_all hE [3, 5, 17] [3] [] (st' := ⟨[(3, .ptr 3 0), (5, U8 b1), (17, BB (b1 == (92 : Int)))], [(3, .cells [I32 p1.1, I64 p1.2.1, I64 p1.2.2.1, BB p1.2.2.2.1] 35)], []⟩) (orc := []) (ob := []) (by kernel_rfl) trivial ?_
        exact hJ2 (b1 == (92 : Int)) h

def B_strings_Builder_WriteString_i1 (k : Nat) : FnB (List UInt8 × List (Int)) (Option (Option (Nat × Int)) × Int × List (Int)) where
  n := 19
  S := fun z => ⟨[(0, .ptr 19 0), (1, SS (z.1))], [(19, .cells [.selfp 19, .row 20] 59)], [(20, ⟨5, (.int .u8), (z.2)⟩)]⟩
  S' := fun z y => ⟨[], [(19, .cells [.selfp 19, .row 20] 59)], [(20, ⟨5, (.int .u8), (y.2.2)⟩)]⟩
  rs := fun z y => [I64 (y.2.1), .val .err (y.1)]
  rel := fun z y => strings_Builder_WriteString_i1 k (z.1) (z.2) = some y
noncomputable def E_strings_Builder_WriteString_i1 (k : Nat) : Env := ⟨Tryd.prog, Gu, 19, []⟩
theorem b_strings_Builder_WriteString_i1 (k : Nat) : BC Tryd.prog Gu 47 (B_strings_Builder_WriteString_i1 k) := by
  refine bc_of (fn := Tryd.f47) Tryd.func47 (by kernel_rfl) rfl Tryd.ntmps47 ?_
  rintro cx hP hn hG ⟨s1, l1⟩ y0 h
  have hE : EnvOK (E_strings_Builder_WriteString_i1 k) cx := (EnvOK.nil hP hn hG)
  replace h : strings_Builder_WriteString_i1 k s1 l1 = some y0 := h
  unfold strings_Builder_WriteString_i1 at h
  refine W_seq ?_
  refine W_region ?_
  refine WL_all hE [0, 1] [19] [20] (st' := ⟨[(0, .ptr 19 0), (1, SS s1)], [(19, .cells [.selfp 19, .row 20] 59)], [(20, ⟨5, (.int .u8), l1⟩)]⟩) (orc := []) (ob := []) (by kernel_rfl) trivial ?_
  refine N_then ?_
  refine W_seq ?_
  refine W_region ?_
  refine WL_tk hE 1 [0, 1, 6] [19] [20] (st' := ⟨[(0, .ptr 19 0), (1, SS s1), (6, .ptr 19 0)], [(19, .cells [.selfp 19, .row 20] 59)], [(20, ⟨5, (.int .u8), l1⟩)]⟩) (orc := []) (ob := []) (by kernel_rfl) trivial ?_
  obtain ⟨v1, e1, h⟩ := bind_some h
  refine WL_callB hE (eb_bld_copyCheck k) l1 v1 e1 (ρ := [(19, 20), (20, 21)]) (ρ' := [(20, 19), (21, 20)]) (n := 20) (by kernel_rfl) [0, 1] [19] [20] (by kernel_rfl) (by kernel_rfl) (st' := ⟨[(0, .ptr 19 0), (1, SS s1)], [(19, .cells [.selfp 19, .row 20] 59)], [(20, ⟨5, (.int .u8), l1⟩)]⟩) (by kernel_rfl) ?_
  refine WL_nil ?_
  refine N_then ?_
  refine W_seq ?_
  refine W_region ?_
  obtain ⟨_, e2, h⟩ := bind_some h
  replace e2 := chk_some e2
  refine WL_all hE [0, 1] [19] [20] (st' := ⟨[(0, .ptr 19 0), (1, SS s1)], [(19, .cells [.selfp 19, .row 20] 59)], [(20, ⟨5, (.int .u8), l1 ++ (bytesEl s1)⟩)]⟩) (orc := []) (ob := [List.length l1 + List.length (bytesEl s1) ≤ lim]) (by kernel_rfl) ⟨e2, trivial⟩ ?_
  refine N_then ?_
  refine W_seq ?_
  refine W_region ?_
  refine WL_all hE [0, 4, 5] [19] [20] (st' := ⟨[(0, .ptr 19 0), (4, I64 (List.length s1 : Int)), (5, .val .err (none : Option (Option (Nat × Int))))], [(19, .cells [.selfp 19, .row 20] 59)], [(20, ⟨5, (.int .u8), l1 ++ (bytesEl s1)⟩)]⟩) (orc := []) (ob := []) (by kernel_rfl) trivial ?_
  refine N_then ?_
  refine W_ret ?_
  replace h := Option.some.inj h
  subst h
  refine N.norm (st' := ⟨[(0, .ptr 19 0), (4, I64 (List.length s1 : Int)), (5, .val .err (none : Option (Option (Nat × Int))))], [(19, .cells [.selfp 19, .row 20] 59)], [(20, ⟨5, (.int .u8), l1 ++ (bytesEl s1)⟩)]⟩) (ks := [0, 4, 5]) (bs := [19]) (rs := [20]) ?_ (by kernel_rfl)
  exact N_endB hE.P [19] [20] (.inl rfl) (by kernel_rfl) (by kernel_rfl)

def B_runes_quote_c1_i1 (k : Nat) : FnB ((Int × Int × Int × Bool × Unit) × List UInt8 × List (Int)) (Bool × List (Int)) where
  n := 9
  S := fun z => ⟨[(0, .val (.pair (.int .i32) (.pair (.int .i64) (.pair (.int .i64) (.pair .bool .unit)))) (z.1)), (1, .ptr 9 0), (2, .ptr 11 0)], [(9, .cells [.selfp 9, .row 10] 59), (11, .cells [SS (z.2.1)] 9)], [(10, ⟨5, (.int .u8), (z.2.2)⟩)]⟩
  S' := fun z y => ⟨[], [(9, .cells [.selfp 9, .row 10] 59), (11, .cells [SS (z.2.1)] 9)], [(10, ⟨5, (.int .u8), (y.2)⟩)]⟩
  rs := fun z y => [BB (y.1)]
  rel := fun z y => runes_quote_c1_i1 k (z.1) (z.2.1) (z.2.2) = some y
noncomputable def E_runes_quote_c1_i1 (k : Nat) : Env := ⟨Tryd.prog, Gu, 9, [(56, C_runes_shown k)]⟩
theorem b_runes_quote_c1_i1 (k : Nat) : BC Tryd.prog Gu 55 (B_runes_quote_c1_i1 k) := by
  refine bc_of (fn := Tryd.f55) Tryd.func55 (by kernel_rfl) rfl Tryd.ntmps55 ?_
  rintro cx hP hn hG ⟨p1, c1, l1⟩ y0 h
  have hE : EnvOK (E_runes_quote_c1_i1 k) cx := (EnvOK.cons (c_runes_shown k) (EnvOK.nil hP hn hG))
  replace h : runes_quote_c1_i1 k p1 c1 l1 = some y0 := h
  unfold runes_quote_c1_i1 at h
  refine W_seq ?_
  refine W_region ?_
  refine WL_all hE [1, 2, 3] [3, 9, 11] [10] (st' := ⟨[(1, .ptr 9 0), (2, .ptr 11 0), (3, .ptr 3 0)], [(3, .cells [I32 p1.1, I64 p1.2.1, I64 p1.2.2.1, BB p1.2.2.2.1] 35), (9, .cells [.selfp 9, .row 10] 59), (11, .cells [SS c1] 9)], [(10, ⟨5, (.int .u8), l1⟩)]⟩) (orc := []) (ob := []) (by kernel_rfl) trivial ?_
  refine N_then ?_
  refine W_seq ?_
  refine W_region ?_
  obtain ⟨v1, e1, h⟩ := bind_some h
  refine WL_tk hE 3 [1, 2, 7] [9, 11] [10] (st' := ⟨[(1, .ptr 9 0), (2, .ptr 11 0), (7, SS v1)], [(9, .cells [.selfp 9, .row 10] 59), (11, .cells [SS c1] 9)], [(10, ⟨5, (.int .u8), l1⟩)]⟩) (orc := [tS v1]) (ob := [runes_shown k c1 (p1.1, p1.2.1, p1.2.2.1, p1.2.2.2.1, ()) = some v1]) (by kernel_rfl) ⟨e1, trivial⟩ ?_
  obtain ⟨v2, e2, h⟩ := bind_some h
  refine WL_callB hE (b_strings_Builder_WriteString_i1 k) (v1, l1) v2 e2 (ρ := [(9, 19), (10, 20)]) (ρ' := [(19, 9), (20, 10)]) (n := 19) (by kernel_rfl) [1, 2] [9, 11] [10] (by kernel_rfl) (by kernel_rfl) (st' := ⟨[(1, .ptr 9 0), (2, .ptr 11 0)], [(9, .cells [.selfp 9, .row 10] 59), (11, .cells [SS c1] 9)], [(10, ⟨5, (.int .u8), v2.2.2⟩)]⟩) (by kernel_rfl) ?_
  refine WL_nil ?_
  refine N_then ?_
  refine W_seq ?_
  refine W_region ?_
  refine WL_all hE [1, 2, 4] [9, 11] [10] (st' := ⟨[(1, .ptr 9 0), (2, .ptr 11 0), (4, BB true)], [(9, .cells [.selfp 9, .row 10] 59), (11, .cells [SS c1] 9)], [(10, ⟨5, (.int .u8), v2.2.2⟩)]⟩) (orc := []) (ob := []) (by kernel_rfl) trivial ?_
  refine N_then ?_
  refine W_ret ?_
  replace h := Option.some.inj h
  subst h
  exact N_endB hE.P [9, 11] [10] (.inl rfl) (by kernel_rfl) (by kernel_rfl)

def B_runes_each_i3 (k : Nat) : FnB (List UInt8 × List UInt8 × List (Int)) (List UInt8 × List (Int)) where
  n := 37
  S := fun z => ⟨[(0, SS (z.1)), (1, .clos 55 [37, 39])], [(37, .cells [.selfp 37, .row 38] 59), (39, .cells [SS (z.2.1)] 9)], [(38, ⟨5, (.int .u8), (z.2.2)⟩)]⟩
  S' := fun z y => ⟨[], [(37, .cells [.selfp 37, .row 38] 59), (39, .cells [SS (y.1)] 9)], [(38, ⟨5, (.int .u8), (y.2)⟩)]⟩
  rs := fun z y => []
  rel := fun z y => runes_each_i3 k (z.1) (z.2.1) (z.2.2) = some y
noncomputable def E_runes_each_i3 (k : Nat) : Env := ⟨Tryd.prog, Gu, 37, [(52, C_unicode_utf8_RuneLen k), (25, C_unicode_utf8_DecodeRuneInString k)]⟩
theorem b_runes_each_i3 (k : Nat) : BC Tryd.prog Gu 36 (B_runes_each_i3 k) := by
  refine bc_of (fn := Tryd.f36) Tryd.func36 (by kernel_rfl) rfl Tryd.ntmps36 ?_
  rintro cx hP hn hG ⟨s1, c1, l1⟩ y0 h
  have hE : EnvOK (E_runes_each_i3 k) cx := (EnvOK.cons (c_unicode_utf8_RuneLen k) (EnvOK.cons (e_unicode_utf8_DecodeRuneInString k) (EnvOK.nil hP hn hG)))
  replace h : runes_each_i3 k s1 c1 l1 = some y0 := h
  unfold runes_each_i3 at h
  refine W_seq ?_
  refine W_region ?_
  refine WL_all hE [0, 1, 10] [10, 37, 39] [38] (st' := ⟨[(0, SS s1), (1, .clos 55 [37, 39]), (10, .iter 10)], [(10, .iter s1 0), (37, .cells [.selfp 37, .row 38] 59), (39, .cells [SS c1] 9)], [(38, ⟨5, (.int .u8), l1⟩)]⟩) (orc := []) (ob := []) (by kernel_rfl) trivial ?_
  refine N_then ?_
  refine W_block ?_
  refine W_loop (α := (Nat × List (Int))) (fun n z => runes_each_i3_l1 k s1 c1 n z.1 z.2 = some y0) (fun z => ⟨[(0, SS s1), (1, .clos 55 [37, 39]), (10, .iter 10)], [(10, .iter s1 (z.1)), (37, .cells [.selfp 37, .row 38] 59), (39, .cells [SS c1] 9)], [(38, ⟨5, (.int .u8), (z.2)⟩)]⟩) ?_ (k := k) (x := (0, l1)) h
  clear h
  rintro fuel1 ⟨pos1, t3⟩ h
  cases fuel1 with
  | zero => exact absurd (show none = some _ from h) (by simp)
  | succ fuel1 =>
    have h : runes_each_i3_b1 k s1 c1 (runes_each_i3_l1 k s1 c1 fuel1) pos1 t3 = some y0 := h
    unfold runes_each_i3_b1 at h
    refine W_seq ?_
    refine W_region ?_
    rcases Bool.eq_false_or_eq_true (decide (pos1 < List.length s1)) with e1 | e1
    · replace h := ite_t e1 h
      refine WL_tk hE 1 [0, 1, 10, 11] [10, 37, 39] [38] (st' := ⟨[(0, SS s1), (1, .clos 55 [37, 39]), (10, .iter 10), (11, .tup [tB true, tI64 (pos1 : Int), tI32 (runeAt s1 pos1)])], [(10, .iter s1 (pos1 + widthAt s1 pos1)), (37, .cells [.selfp 37, .row 38] 59), (39, .cells [SS c1] 9)], [(38, ⟨5, (.int .u8), t3⟩)]⟩) (orc := [tB true]) (ob := [pos1 < List.length s1]) (by kernel_rfl) ⟨of_decide_eq_true e1, trivial⟩ ?_
      refine WL_all hE [0, 1, 10, 11, 12] [10, 37, 39] [38] (st' := ⟨[(0, SS s1), (1, .clos 55 [37, 39]), (10, .iter 10), (11, .tup [tB true, tI64 (pos1 : Int), tI32 (runeAt s1 pos1)]), (12, BB true)], [(10, .iter s1 (pos1 + widthAt s1 pos1)), (37, .cells [.selfp 37, .row 38] 59), (39, .cells [SS c1] 9)], [(38, ⟨5, (.int .u8), t3⟩)]⟩) (orc := []) (ob := []) (by kernel_rfl) trivial ?_
      refine N_then ?_
      refine W_seq ?_
      refine W_cond_true (by kernel_rfl) ?_
      refine W_skip ?_
      refine N_then ?_
      refine W_block ?_
      refine W_seq ?_
      refine W_region ?_
      refine WL_all hE [0, 1, 4, 5, 10] [10, 37, 39] [38] (st' := ⟨[(0, SS s1), (1, .clos 55 [37, 39]), (4, I64 (pos1 : Int)), (5, I32 (runeAt s1 pos1)), (10, .iter 10)], [(10, .iter s1 (pos1 + widthAt s1 pos1)), (37, .cells [.selfp 37, .row 38] 59), (39, .cells [SS c1] 9)], [(38, ⟨5, (.int .u8), t3⟩)]⟩) (orc := []) (ob := []) (by kernel_rfl) trivial ?_
      refine N_then ?_
      refine W_seq ?_
      refine W_region ?_
      obtain ⟨v1, e2, h⟩ := bind_some h
      refine WL_all hE [0, 1, 4, 5, 6, 10] [6, 10, 37, 39] [38] (st' := ⟨[(0, SS s1), (1, .clos 55 [37, 39]), (4, I64 (pos1 : Int)), (5, I32 (runeAt s1 pos1)), (6, .ptr 6 0), (10, .iter 10)], [(6, .cells [I32 (runeAt s1 pos1), I64 (pos1 : Int), I64 v1, BB false] 35), (10, .iter s1 (pos1 + widthAt s1 pos1)), (37, .cells [.selfp 37, .row 38] 59), (39, .cells [SS c1] 9)], [(38, ⟨5, (.int .u8), t3⟩)]⟩) (orc := [tI64 v1]) (ob := [unicode_utf8_RuneLen k (runeAt s1 pos1) = some v1]) (by kernel_rfl) ⟨e2, trivial⟩ ?_
      refine N_then ?_
      refine W_join (α := (Int × Bool)) (fun z => runes_each_i3_j1 k s1 pos1 c1 t3 (runes_each_i3_l1 k s1 c1 fuel1) z.1 z.2 = some y0) (fun z => ⟨[(0, SS s1), (1, .clos 55 [37, 39]), (6, .ptr 6 0), (10, .iter 10)], [(6, .cells [I32 (runeAt s1 pos1), I64 (pos1 : Int), I64 (z.1), BB (z.2)] 35), (10, .iter s1 (pos1 + widthAt s1 pos1)), (37, .cells [.selfp 37, .row 38] 59), (39, .cells [SS c1] 9)], [(38, ⟨5, (.int .u8), t3⟩)]⟩) ?_ (fun hJ1 => ?_)
      · rintro ⟨p1, p2⟩ h
        unfold runes_each_i3_j1 at h
        refine W_seq ?_
        refine W_region ?_
        refine WL_tk hE 2 [0, 1, 10, 33, 34] [10, 37, 39] [38] (st' := ⟨[(0, SS s1), (1, .clos 55 [37, 39]), (10, .iter 10), (33, .clos 55 [37, 39]), (34, .val (.pair (.int .i32) (.pair (.int .i64) (.pair (.int .i64) (.pair .bool .unit)))) (runeAt s1 pos1, (pos1 : Int), p1, p2, ()))], [(10, .iter s1 (pos1 + widthAt s1 pos1)), (37, .cells [.selfp 37, .row 38] 59), (39, .cells [SS c1] 9)], [(38, ⟨5, (.int .u8), t3⟩)]⟩) (orc := []) (ob := []) (by kernel_rfl) trivial ?_
        obtain ⟨v2, e3, h⟩ := bind_some h
        refine WL_callB hE (b_runes_quote_c1_i1 k) ((runeAt s1 pos1, (pos1 : Int), p1, p2, ()), c1, t3) v2 e3 (ρ := [(37, 9), (38, 10), (39, 11)]) (ρ' := [(9, 37), (11, 39), (10, 38)]) (n := 9) (by kernel_rfl) [0, 1, 10, 35] [10, 37, 39] [38] (by kernel_rfl) (by kernel_rfl) (st' := ⟨[(0, SS s1), (1, .clos 55 [37, 39]), (10, .iter 10), (35, BB v2.1)], [(10, .iter s1 (pos1 + widthAt s1 pos1)), (37, .cells [.selfp 37, .row 38] 59), (39, .cells [SS c1] 9)], [(38, ⟨5, (.int .u8), v2.2⟩)]⟩) (by kernel_rfl) ?_
        refine WL_all hE [0, 1, 10, 36] [10, 37, 39] [38] (st' := ⟨[(0, SS s1), (1, .clos 55 [37, 39]), (10, .iter 10), (36, BB (!v2.1))], [(10, .iter s1 (pos1 + widthAt s1 pos1)), (37, .cells [.selfp 37, .row 38] 59), (39, .cells [SS c1] 9)], [(38, ⟨5, (.int .u8), v2.2⟩)]⟩) (orc := []) (ob := []) (by kernel_rfl) trivial ?_
        refine N_then ?_
        refine W_cond (b := !v2.1) (by kernel_rfl) (fun e4 => ?_) (fun e4 => ?_)
        · replace h := ite_t e4 h
          refine W_ret ?_
          refine N_block_ret ?_
          refine N_then_ret ?_
          refine N_block_ret ?_
          replace h := Option.some.inj h
          subst h
          refine N.norm (st' := ⟨[(1, .clos 55 [37, 39])], [(37, .cells [.selfp 37, .row 38] 59), (39, .cells [SS c1] 9)], [(38, ⟨5, (.int .u8), v2.2⟩)]⟩) (ks := [1]) (bs := [37, 39]) (rs := [38]) ?_ (by kernel_rfl)
          exact N_endB hE.P [37, 39] [38] (.inl rfl) (by kernel_rfl) (by kernel_rfl)
        · replace h := ite_f e4 h
          refine W_skip ?_
          refine N_block ?_
          refine N.norm (st' := ⟨[(0, SS s1), (1, .clos 55 [37, 39]), (10, .iter 10)], [(10, .iter s1 (pos1 + widthAt s1 pos1)), (37, .cells [.selfp 37, .row 38] 59), (39, .cells [SS c1] 9)], [(38, ⟨5, (.int .u8), v2.2⟩)]⟩) (ks := [0, 1, 10]) (bs := [10, 37, 39]) (rs := [38]) ?_ (by kernel_rfl)
          exact N_round ((pos1 + widthAt s1 pos1), v2.2) (Nat.lt_succ_self _) h
      refine W_seq ?_
      refine W_region ?_
      refine WL_all hE [0, 1, 4, 6, 10, 21] [6, 10, 37, 39] [38] (st' := ⟨[(0, SS s1), (1, .clos 55 [37, 39]), (4, I64 (pos1 : Int)), (6, .ptr 6 0), (10, .iter 10), (21, BB ((runeAt s1 pos1) == (65533 : Int)))], [(6, .cells [I32 (runeAt s1 pos1), I64 (pos1 : Int), I64 v1, BB false] 35), (10, .iter s1 (pos1 + widthAt s1 pos1)), (37, .cells [.selfp 37, .row 38] 59), (39, .cells [SS c1] 9)], [(38, ⟨5, (.int .u8), t3⟩)]⟩) (orc := []) (ob := []) (by kernel_rfl) trivial ?_
      refine N_then ?_
      refine W_cond (b := (runeAt s1 pos1) == (65533 : Int)) (by kernel_rfl) (fun e5 => ?_) (fun e5 => ?_)
      · replace h := ite_t e5 h
        refine W_seq ?_
        refine W_region ?_
        obtain ⟨s2, e6, h⟩ := bind_some h
        obtain ⟨v3, e7, h⟩ := bind_some h
        refine WL_all hE [0, 1, 6, 8, 10] [6, 10, 37, 39] [38] (st' := ⟨[(0, SS s1), (1, .clos 55 [37, 39]), (6, .ptr 6 0), (8, I64 v3.2), (10, .iter 10)], [(6, .cells [I32 (runeAt s1 pos1), I64 (pos1 : Int), I64 v1, BB false] 35), (10, .iter s1 (pos1 + widthAt s1 pos1)), (37, .cells [.selfp 37, .row 38] 59), (39, .cells [SS c1] 9)], [(38, ⟨5, (.int .u8), t3⟩)]⟩) (orc := [tS s2, tI32 v3.1, tI64 v3.2]) (ob := [sub? s1 (pos1 : Int) (s1.length : Int) = some s2, utf8_DecodeRuneInString k s2 = some ((v3).1, (v3).2)]) (by kernel_rfl) ⟨e6, e7, trivial⟩ ?_
        refine N_then ?_
        refine W_seq ?_
        refine W_region ?_
        refine WL_all hE [0, 1, 6, 10, 30] [6, 10, 37, 39] [38] (st' := ⟨[(0, SS s1), (1, .clos 55 [37, 39]), (6, .ptr 6 0), (10, .iter 10), (30, BB (v3.2 == (1 : Int)))], [(6, .cells [I32 (runeAt s1 pos1), I64 (pos1 : Int), I64 v1, BB false] 35), (10, .iter s1 (pos1 + widthAt s1 pos1)), (37, .cells [.selfp 37, .row 38] 59), (39, .cells [SS c1] 9)], [(38, ⟨5, (.int .u8), t3⟩)]⟩) (orc := []) (ob := []) (by kernel_rfl) trivial ?_
        refine N_then ?_
        refine W_cond (b := v3.2 == (1 : Int)) (by kernel_rfl) (fun e8 => ?_) (fun e8 => ?_)
        · replace h := ite_t e8 h
          refine W_region ?_
          refine WL_all hE [0, 1, 6, 10] [6, 10, 37, 39] [38] (st' := ⟨[(0, SS s1), (1, .clos 55 [37, 39]), (6, .ptr 6 0), (10, .iter 10)], [(6, .cells [I32 (runeAt s1 pos1), I64 (pos1 : Int), I64 (1 : Int), BB true] 35), (10, .iter s1 (pos1 + widthAt s1 pos1)), (37, .cells [.selfp 37, .row 38] 59), (39, .cells [SS c1] 9)], [(38, ⟨5, (.int .u8), t3⟩)]⟩) (orc := []) (ob := []) (by kernel_rfl) trivial ?_
          exact hJ1 ((1 : Int), true) h
        · replace h := ite_f e8 h
          refine W_skip ?_
          refine N.norm (st' := ⟨[(0, SS s1), (1, .clos 55 [37, 39]), (6, .ptr 6 0), (10, .iter 10)], [(6, .cells [I32 (runeAt s1 pos1), I64 (pos1 : Int), I64 v1, BB false] 35), (10, .iter s1 (pos1 + widthAt s1 pos1)), (37, .cells [.selfp 37, .row 38] 59), (39, .cells [SS c1] 9)], [(38, ⟨5, (.int .u8), t3⟩)]⟩) (ks := [0, 1, 6, 10]) (bs := [6, 10, 37, 39]) (rs := [38]) ?_ (by kernel_rfl)
          exact hJ1 (v1, false) h
      · replace h := ite_f e5 h
        refine W_skip ?_
        refine N.norm (st' := ⟨[(0, SS s1), (1, .clos 55 [37, 39]), (6, .ptr 6 0), (10, .iter 10)], [(6, .cells [I32 (runeAt s1 pos1), I64 (pos1 : Int), I64 v1, BB false] 35), (10, .iter s1 (pos1 + widthAt s1 pos1)), (37, .cells [.selfp 37, .row 38] 59), (39, .cells [SS c1] 9)], [(38, ⟨5, (.int .u8), t3⟩)]⟩) (ks := [0, 1, 6, 10]) (bs := [6, 10, 37, 39]) (rs := [38]) ?_ (by kernel_rfl)
        exact hJ1 (v1, false) h
    · replace h := ite_f e1 h
      refine WL_tk hE 1 [0, 1, 10, 11] [10, 37, 39] [38] (st' := ⟨[(0, SS s1), (1, .clos 55 [37, 39]), (10, .iter 10), (11, .tup [tB false])], [(10, .iter s1 pos1), (37, .cells [.selfp 37, .row 38] 59), (39, .cells [SS c1] 9)], [(38, ⟨5, (.int .u8), t3⟩)]⟩) (orc := [tB false]) (ob := [List.length s1 ≤ pos1]) (by kernel_rfl) ⟨Nat.le_of_not_lt (of_decide_eq_false e1), trivial⟩ ?_
      refine WL_all hE [0, 1, 10, 11, 12] [10, 37, 39] [38] (st' := ⟨[(0, SS s1), (1, .clos 55 [37, 39]), (10, .iter 10), (11, .tup [tB false]), (12, BB false)], [(10, .iter s1 pos1), (37, .cells [.selfp 37, .row 38] 59), (39, .cells [SS c1] 9)], [(38, ⟨5, (.int .u8), t3⟩)]⟩) (orc := []) (ob := []) (by kernel_rfl) trivial ?_
      refine N_then ?_
      refine W_seq ?_
      refine W_cond_false (by kernel_rfl) ?_
      refine W_exit ?_
      refine N_then_exit ?_
      refine N_then_exit ?_
      refine N_block_exit ?_
      replace h := Option.some.inj h
      subst h
      refine N.norm (st' := ⟨[(1, .clos 55 [37, 39])], [(37, .cells [.selfp 37, .row 38] 59), (39, .cells [SS c1] 9)], [(38, ⟨5, (.int .u8), t3⟩)]⟩) (ks := [1]) (bs := [37, 39]) (rs := [38]) ?_ (by kernel_rfl)
      exact N_endB hE.P [37, 39] [38] (.inr rfl) (by kernel_rfl) (by kernel_rfl)

def C_runes_quote (k : Nat) : FnC := ⟨true, 1, [], fun | [⟨.str, s1⟩], [⟨.str, rz⟩] => runes_quote k s1 = some rz | _, _ => False⟩
noncomputable def E_runes_quote (k : Nat) : Env := ⟨Tryd.prog, Gu, 10, []⟩
theorem c_runes_quote (k : Nat) : Contract Tryd.prog Gu 43 (C_runes_quote k) := by
  refine contract_of Gu_stable (fn := Tryd.f43) Tryd.func43 (by kernel_rfl) rfl ?_ ?_
  · intro xs rs h
    unfold C_runes_quote at h
    simp only at h
    split at h
    · exact ⟨by show 1 ≤ _; rw [Tryd.ntmps43]; decide, rfl, fun _ u hu => by simp at hu; (rcases hu with rfl) <;> rfl⟩
    · exact h.elim
  · intro w0 M xs rs hG h
    unfold C_runes_quote at h
    simp only at h
    split at h
    case h_2 => exact h.elim
    rename_i s1 rz
    change List UInt8 at s1
    change List UInt8 at rz
    have hE : EnvOK (E_runes_quote k) ⟨Tryd.prog, Tryd.f43.ntmps, w0, M, fun _ => False, fun _ => undef⟩ := (EnvOK.nil rfl Tryd.ntmps43 hG)
    unfold runes_quote at h
    refine W_seq ?_
    refine W_region ?_
    refine WL_all hE [1] [1] [] (st' := ⟨[(1, .ptr 1 0)], [(1, .cells [SS s1] 9)], []⟩) (orc := []) (ob := []) (by kernel_rfl) trivial ?_
    refine N_then ?_
    refine W_seq ?_
    refine W_region ?_
    refine WL_all hE [1, 3] [1, 3] [1000003] (st' := ⟨[(1, .ptr 1 0), (3, .ptr 3 0)], [(1, .cells [SS s1] 9), (3, .cells [.selfp 3, .row 1000003] 59)], [(1000003, ⟨5, (.int .u8), ([] : List (Int))⟩)]⟩) (orc := []) (ob := []) (by kernel_rfl) trivial ?_
    refine N_then ?_
    refine W_seq ?_
    refine W_region ?_
    obtain ⟨v1, e1, h⟩ := bind_some h
    refine WL_callB hE (b_strings_Builder_WriteByte_i1 k) ((34 : Int), ([] : List (Int))) v1 e1 (ρ := [(3, 17), (1000003, 18)]) (ρ' := [(17, 3), (18, 1000003)]) (n := 17) (by kernel_rfl) [1, 3] [1, 3] [1000003] (by kernel_rfl) (by kernel_rfl) (st' := ⟨[(1, .ptr 1 0), (3, .ptr 3 0)], [(1, .cells [SS s1] 9), (3, .cells [.selfp 3, .row 1000003] 59)], [(1000003, ⟨5, (.int .u8), v1.2⟩)]⟩) (by kernel_rfl) ?_
    refine WL_nil ?_
    refine N_then ?_
    refine W_seq ?_
    refine W_region ?_
    refine WL_tk hE 2 [3, 5, 6] [1, 3] [1000003] (st' := ⟨[(3, .ptr 3 0), (5, SS s1), (6, .clos 55 [3, 1])], [(1, .cells [SS s1] 9), (3, .cells [.selfp 3, .row 1000003] 59)], [(1000003, ⟨5, (.int .u8), v1.2⟩)]⟩) (orc := []) (ob := []) (by kernel_rfl) trivial ?_
    obtain ⟨v2, e2, h⟩ := bind_some h
    refine WL_callB hE (b_runes_each_i3 k) (s1, s1, v1.2) v2 e2 (ρ := [(3, 37), (1000003, 38), (1, 39)]) (ρ' := [(37, 3), (39, 1), (38, 1000003)]) (n := 37) (by kernel_rfl) [3] [3] [1000003] (by kernel_rfl) (by kernel_rfl) (st' := ⟨[(3, .ptr 3 0)], [(3, .cells [.selfp 3, .row 1000003] 59)], [(1000003, ⟨5, (.int .u8), v2.2⟩)]⟩) (by kernel_rfl) ?_
    refine WL_nil ?_
    refine N_then ?_
    refine W_seq ?_
    refine W_region ?_
    obtain ⟨v3, e3, h⟩ := bind_some h
    refine WL_callB hE (b_strings_Builder_WriteByte_i1 k) ((34 : Int), v2.2) v3 e3 (ρ := [(3, 17), (1000003, 18)]) (ρ' := [(17, 3), (18, 1000003)]) (n := 17) (by kernel_rfl) [3] [3] [1000003] (by kernel_rfl) (by kernel_rfl) (st' := ⟨[(3, .ptr 3 0)], [(3, .cells [.selfp 3, .row 1000003] 59)], [(1000003, ⟨5, (.int .u8), v3.2⟩)]⟩) (by kernel_rfl) ?_
    refine WL_nil ?_
    refine N_then ?_
    refine W_seq ?_
    refine W_region ?_
    obtain ⟨v4, e4, h⟩ := bind_some h
    refine WL_callB hE (eb_bld_StringK k) v3.2 v4 e4 (ρ := [(3, 14), (1000003, 15)]) (ρ' := [(14, 3)]) (n := 14) (by kernel_rfl) [9] [] [] (by kernel_rfl) (by kernel_rfl) (st' := ⟨[(9, SS v4)], [], []⟩) (by kernel_rfl) ?_
    refine WL_all hE [2] [] [] (st' := ⟨[(2, SS v4)], [], []⟩) (orc := []) (ob := []) (by kernel_rfl) trivial ?_
    refine N_then ?_
    refine W_ret ?_
    cases h
    exact N_end (.inl rfl) (by kernel_rfl)

def C_runes_Quote (k : Nat) : FnC := ⟨true, 2, [], fun | [⟨.str, s1⟩], [⟨.str, rz1⟩, ⟨(.int .i64), rz2⟩] => runes_Quote k s1 = some (rz1, rz2) | _, _ => False⟩
noncomputable def E_runes_Quote (k : Nat) : Env := ⟨Tryd.prog, Gu, 12, [(35, C_runes_long k), (43, C_runes_quote k)]⟩
theorem c_runes_Quote (k : Nat) : Contract Tryd.prog Gu 27 (C_runes_Quote k) := by
  refine contract_of Gu_stable (fn := Tryd.f27) Tryd.func27 (by kernel_rfl) rfl ?_ ?_
  · intro xs rs h
    unfold C_runes_Quote at h
    simp only at h
    split at h
    · exact ⟨by show 1 ≤ _; rw [Tryd.ntmps27]; decide, rfl, fun _ u hu => by simp at hu; (rcases hu with rfl | rfl) <;> rfl⟩
    · exact h.elim
  · intro w0 M xs rs hG h
    unfold C_runes_Quote at h
    simp only at h
    split at h
    case h_2 => exact h.elim
    rename_i s1 rz1 rz2
    change List UInt8 at s1
    change List UInt8 at rz1
    change Int at rz2
    have hE : EnvOK (E_runes_Quote k) ⟨Tryd.prog, Tryd.f27.ntmps, w0, M, fun _ => False, fun _ => undef⟩ := (EnvOK.cons (c_runes_long k) (EnvOK.cons (c_runes_quote k) (EnvOK.nil rfl Tryd.ntmps27 hG)))
    unfold runes_Quote at h
    refine W_seq ?_
    refine W_region ?_
    refine WL_all hE [0] [] [] (st' := ⟨[(0, SS s1)], [], []⟩) (orc := []) (ob := []) (by kernel_rfl) trivial ?_
    refine N_then ?_
    refine W_seq ?_
    refine W_seq ?_
    refine W_region ?_
    obtain ⟨v1, e1, h⟩ := bind_some h
    refine WL_all hE [0, 4] [] [] (st' := ⟨[(0, SS s1), (4, I64 v1)], [], []⟩) (orc := [tI64 v1]) (ob := [runes_long k s1 = some v1]) (by kernel_rfl) ⟨e1, trivial⟩ ?_
    refine N_then ?_
    refine W_seq ?_
    refine W_region ?_
    refine WL_all hE [0, 4, 8] [] [] (st' := ⟨[(0, SS s1), (4, I64 v1), (8, BB (v1 != (0 : Int)))], [], []⟩) (orc := []) (ob := []) (by kernel_rfl) trivial ?_
    refine N_then ?_
    refine W_cond (b := v1 != (0 : Int)) (by kernel_rfl) (fun e2 => ?_) (fun e2 => ?_)
    · replace h := ite_t e2 h
      refine W_seq ?_
      refine W_region ?_
      refine WL_all hE [2, 3] [] [] (st' := ⟨[(2, SS ([] : List UInt8)), (3, I64 v1)], [], []⟩) (orc := []) (ob := []) (by kernel_rfl) trivial ?_
      refine N_then ?_
      refine W_ret ?_
      refine N_then_ret ?_
      cases h
      exact N_end (.inl rfl) (by kernel_rfl)
    · replace h := ite_f e2 h
      refine W_skip ?_
      refine N_then ?_
      refine W_seq ?_
      refine W_region ?_
      obtain ⟨v2, e3, h⟩ := bind_some h
      refine WL_all hE [2, 3] [] [] (st' := ⟨[(2, SS v2), (3, I64 (0 : Int))], [], []⟩) (orc := [tS v2]) (ob := [runes_quote k s1 = some v2]) (by kernel_rfl) ⟨e3, trivial⟩ ?_
      refine N_then ?_
      refine W_ret ?_
      cases h
      exact N_end (.inl rfl) (by kernel_rfl)

def C_r01_tail (k : Nat) : FnC := ⟨true, 1, [], fun | [⟨(.int .u8), b1⟩], [⟨.bool, rz⟩] => r01_tail k b1 = some rz | _, _ => False⟩
noncomputable def E_r01_tail (k : Nat) : Env := ⟨Tryd.prog, Gu, 9, []⟩
theorem c_r01_tail (k : Nat) : Contract Tryd.prog Gu 65 (C_r01_tail k) := by
  refine contract_of Gu_stable (fn := Tryd.f65) Tryd.func65 (by kernel_rfl) rfl ?_ ?_
  · intro xs rs h
    unfold C_r01_tail at h
    simp only at h
    split at h
    · exact ⟨by show 1 ≤ _; rw [Tryd.ntmps65]; decide, rfl, fun _ u hu => by simp at hu; (rcases hu with rfl) <;> rfl⟩
    · exact h.elim
  · intro w0 M xs rs hG h
    unfold C_r01_tail at h
    simp only at h
    split at h
    case h_2 => exact h.elim
    rename_i b1 rz
    change Int at b1
    change Bool at rz
    have hE : EnvOK (E_r01_tail k) ⟨Tryd.prog, Tryd.f65.ntmps, w0, M, fun _ => False, fun _ => undef⟩ := (EnvOK.nil rfl Tryd.ntmps65 hG)
    unfold r01_tail at h
    refine W_seq ?_
    refine W_region ?_
    refine WL_all hE [0] [] [] (st' := ⟨[(0, U8 b1)], [], []⟩) (orc := []) (ob := []) (by kernel_rfl) trivial ?_
    refine N_then ?_
    refine W_seq ?_
    refine W_region ?_
    refine WL_tk hE 3 [0, 5] [] [] (st' := ⟨[(0, U8 b1), (5, BB (decide ((128 : Int) ≤ b1)))], [], []⟩) (orc := []) (ob := []) (by kernel_rfl) trivial ?_
    refine WL_join (α := Bool) (fun z => r01_tail_j1 z = some rz) (fun t1 => ⟨[(8, BB t1)], [], []⟩) 3 ?_ (fun hJ1 => ?_)
    · rintro t1 h
      unfold r01_tail_j1 at h
      refine WL_all hE [2] [] [] (st' := ⟨[(2, BB t1)], [], []⟩) (orc := []) (ob := []) (by kernel_rfl) trivial ?_
      refine N_then ?_
      refine W_ret ?_
      cases h
      exact N_end (.inl rfl) (by kernel_rfl)
    refine WL_split (fun g => ⟨[(0, U8 b1), (5, BB g)], [], []⟩) (b := decide ((128 : Int) ≤ b1)) (fun e1 => ?_) (fun e1 => ?_)
    · rw [and_t e1] at h
      refine WL_all hE [8] [] [] (st' := ⟨[(8, BB (decide (b1 < (192 : Int))))], [], []⟩) (orc := []) (ob := []) (by kernel_rfl) trivial ?_
      exact hJ1 (decide (b1 < (192 : Int))) h
    · rw [and_f e1] at h
      refine WL_all hE [8] [] [] (st' := ⟨[(8, BB false)], [], []⟩) (orc := []) (ob := []) (by kernel_rfl) trivial ?_
      exact hJ1 false h

def C_r01_Rune (k : Nat) : FnC := ⟨true, 1, [], fun | [⟨(.int .i32), r1⟩], [⟨.bool, rz⟩] => r01_Rune k r1 = some rz | _, _ => False⟩
noncomputable def E_r01_Rune (k : Nat) : Env := ⟨Tryd.prog, Gu, 17, []⟩
theorem c_r01_Rune (k : Nat) : Contract Tryd.prog Gu 53 (C_r01_Rune k) := by
  refine contract_of Gu_stable (fn := Tryd.f53) Tryd.func53 (by kernel_rfl) rfl ?_ ?_
  · intro xs rs h
    unfold C_r01_Rune at h
    simp only at h
    split at h
    · exact ⟨by show 1 ≤ _; rw [Tryd.ntmps53]; decide, rfl, fun _ u hu => by simp at hu; (rcases hu with rfl) <;> rfl⟩
    · exact h.elim
  · intro w0 M xs rs hG h
    unfold C_r01_Rune at h
    simp only at h
    split at h
    case h_2 => exact h.elim
    rename_i r1 rz
    change Int at r1
    change Bool at rz
    have hE : EnvOK (E_r01_Rune k) ⟨Tryd.prog, Tryd.f53.ntmps, w0, M, fun _ => False, fun _ => undef⟩ := (EnvOK.nil rfl Tryd.ntmps53 hG)
    unfold r01_Rune at h
    refine W_seq ?_
    refine W_region ?_
    refine WL_all hE [0] [] [] (st' := ⟨[(0, I32 r1)], [], []⟩) (orc := []) (ob := []) (by kernel_rfl) trivial ?_
    refine N_then ?_
    refine W_seq ?_
    refine W_region ?_
    refine WL_tk hE 3 [0, 5] [] [] (st' := ⟨[(0, I32 r1), (5, BB (decide ((0 : Int) ≤ r1)))], [], []⟩) (orc := []) (ob := []) (by kernel_rfl) trivial ?_
    refine WL_join (α := Bool) (fun z => r01_Rune_j1 r1 z = some rz) (fun t1 => ⟨[(0, I32 r1), (8, BB t1)], [], []⟩) 3 ?_ (fun hJ1 => ?_)
    · rintro t1 h
      unfold r01_Rune_j1 at h
      refine WL_tk hE 1 [0, 9] [] [] (st' := ⟨[(0, I32 r1), (9, BB t1)], [], []⟩) (orc := []) (ob := []) (by kernel_rfl) trivial ?_
      refine WL_join (α := Bool) (fun z => r01_Rune_j2 z = some rz) (fun t2 => ⟨[(16, BB t2)], [], []⟩) 7 ?_ (fun hJ2 => ?_)
      · rintro t2 h
        unfold r01_Rune_j2 at h
        refine WL_all hE [2] [] [] (st' := ⟨[(2, BB t2)], [], []⟩) (orc := []) (ob := []) (by kernel_rfl) trivial ?_
        refine N_then ?_
        refine W_ret ?_
        cases h
        exact N_end (.inl rfl) (by kernel_rfl)
      refine WL_split (fun g => ⟨[(0, I32 r1), (9, BB g)], [], []⟩) (b := t1) (fun e1 => ?_) (fun e1 => ?_)
      · replace h := ite_t e1 h
        refine WL_tk hE 3 [0, 9, 12] [] [] (st' := ⟨[(0, I32 r1), (9, BB true), (12, BB (decide (r1 < (55296 : Int))))], [], []⟩) (orc := []) (ob := []) (by kernel_rfl) trivial ?_
        refine WL_join (α := Bool) (fun z => r01_Rune_j3 z = some rz) (fun t3 => ⟨[(9, BB true), (15, BB t3)], [], []⟩) 3 ?_ (fun hJ3 => ?_)
        · rintro t3 h
          unfold r01_Rune_j3 at h
          refine WL_all hE [16] [] [] (st' := ⟨[(16, BB t3)], [], []⟩) (orc := []) (ob := []) (by kernel_rfl) trivial ?_
          exact hJ2 t3 h
        refine WL_split (fun g => ⟨[(0, I32 r1), (9, BB true), (12, BB g)], [], []⟩) (b := decide (r1 < (55296 : Int))) (fun e2 => ?_) (fun e2 => ?_)
        · rw [or_t e2] at h
          refine WL_all hE [9, 15] [] [] (st' := ⟨[(9, BB true), (15, BB true)], [], []⟩) (orc := []) (ob := []) (by kernel_rfl) trivial ?_
          exact hJ3 true h
        · rw [or_f e2] at h
          refine WL_all hE [9, 15] [] [] (st' := ⟨[(9, BB true), (15, BB (decide ((57343 : Int) < r1)))], [], []⟩) (orc := []) (ob := []) (by kernel_rfl) trivial ?_
          exact hJ3 (decide ((57343 : Int) < r1)) h
      · replace h := ite_f e1 h
        refine WL_all hE [16] [] [] (st' := ⟨[(16, BB false)], [], []⟩) (orc := []) (ob := []) (by kernel_rfl) trivial ?_
        exact hJ2 false h
    refine WL_split (fun g => ⟨[(0, I32 r1), (5, BB g)], [], []⟩) (b := decide ((0 : Int) ≤ r1)) (fun e3 => ?_) (fun e3 => ?_)
    · rw [and_t e3] at h
      refine WL_all hE [0, 8] [] [] (st' := ⟨[(0, I32 r1), (8, BB (decide (r1 ≤ (1114111 : Int))))], [], []⟩) (orc := []) (ob := []) (by kernel_rfl) trivial ?_
      exact hJ1 (decide (r1 ≤ (1114111 : Int))) h
    · rw [and_f e3] at h
      refine WL_all hE [0, 8] [] [] (st' := ⟨[(0, I32 r1), (8, BB false)], [], []⟩) (orc := []) (ob := []) (by kernel_rfl) trivial ?_
      exact hJ1 false h

def C_r01_At (k : Nat) : FnC := ⟨true, 1, [], fun | [⟨.str, s1⟩, ⟨(.int .i64), at1⟩], [⟨(.pair (.int .i32) (.pair (.int .i64) (.pair (.int .i64) (.pair .bool .unit)))), rz⟩] => r01_At k s1 at1 = some rz | _, _ => False⟩
noncomputable def E_r01_At (k : Nat) : Env := ⟨Tryd.prog, Gu, 103, [(65, C_r01_tail k), (53, C_r01_Rune k)]⟩
theorem c_r01_At (k : Nat) : Contract Tryd.prog Gu 51 (C_r01_At k) := by
  refine contract_of Gu_stable (fn := Tryd.f51) Tryd.func51 (by kernel_rfl) rfl ?_ ?_
  · intro xs rs h
    unfold C_r01_At at h
    simp only at h
    split at h
    · exact ⟨by show 2 ≤ _; rw [Tryd.ntmps51]; decide, rfl, fun _ u hu => by simp at hu; (rcases hu with rfl) <;> rfl⟩
    · exact h.elim
  · intro w0 M xs rs hG h
    unfold C_r01_At at h
    simp only at h
    split at h
    case h_2 => exact h.elim
    rename_i s1 at1 rz
    change List UInt8 at s1
    change Int at at1
    change (Int × Int × Int × Bool × Unit) at rz
    have hE : EnvOK (E_r01_At k) ⟨Tryd.prog, Tryd.f51.ntmps, w0, M, fun _ => False, fun _ => undef⟩ := (EnvOK.cons (c_r01_tail k) (EnvOK.cons (c_r01_Rune k) (EnvOK.nil rfl Tryd.ntmps51 hG)))
    unfold r01_At at h
    refine W_seq ?_
    refine W_region ?_
    refine WL_all hE [0, 1, 4] [4] [] (st' := ⟨[(0, SS s1), (1, I64 at1), (4, .ptr 4 0)], [(4, .cells [I32 (0 : Int), I64 (0 : Int), I64 (0 : Int), BB false] 35)], []⟩) (orc := []) (ob := []) (by kernel_rfl) trivial ?_
    refine N_then ?_
    refine W_seq ?_
    refine W_region ?_
    obtain ⟨b1, e1, h⟩ := bind_some h
    refine WL_all hE [0, 1, 4, 5] [4] [] (st' := ⟨[(0, SS s1), (1, I64 at1), (4, .ptr 4 0), (5, U8 b1)], [(4, .cells [I32 (0 : Int), I64 (0 : Int), I64 (0 : Int), BB false] 35)], []⟩) (orc := [tU8 b1]) (ob := [byteAt s1 at1 = some b1]) (by kernel_rfl) ⟨e1, trivial⟩ ?_
    refine N_then ?_
    refine W_seq ?_
    refine W_seq ?_
    refine W_region ?_
    refine WL_all hE [0, 1, 4, 5, 15] [4] [] (st' := ⟨[(0, SS s1), (1, I64 at1), (4, .ptr 4 0), (5, U8 b1), (15, BB (decide (b1 < (128 : Int))))], [(4, .cells [I32 (0 : Int), I64 (0 : Int), I64 (0 : Int), BB false] 35)], []⟩) (orc := []) (ob := []) (by kernel_rfl) trivial ?_
    refine N_then ?_
    refine W_cond (b := decide (b1 < (128 : Int))) (by kernel_rfl) (fun e2 => ?_) (fun e2 => ?_)
    · replace h := ite_t e2 h
      refine W_seq ?_
      refine W_region ?_
      refine WL_all hE [4] [4] [] (st' := ⟨[(4, .ptr 4 0)], [(4, .cells [I32 (wi32 b1), I64 at1, I64 (1 : Int), BB false] 35)], []⟩) (orc := []) (ob := []) (by kernel_rfl) trivial ?_
      refine N_then ?_
      refine W_ret ?_
      refine N_then_ret ?_
      cases h
      exact N_end (.inl rfl) (by kernel_rfl)
    · replace h := ite_f e2 h
      refine W_skip ?_
      refine N_then ?_
      refine W_seq ?_
      refine W_region ?_
      refine WL_all hE [0, 1, 4, 5, 6] [4] [] (st' := ⟨[(0, SS s1), (1, I64 at1), (4, .ptr 4 0), (5, U8 b1), (6, I64 (0 : Int))], [(4, .cells [I32 (0 : Int), I64 (0 : Int), I64 (0 : Int), BB false] 35)], []⟩) (orc := []) (ob := []) (by kernel_rfl) trivial ?_
      refine N_then ?_
      refine W_seq ?_
      refine W_region ?_
      refine WL_all hE [0, 1, 4, 5, 6, 7] [4] [] (st' := ⟨[(0, SS s1), (1, I64 at1), (4, .ptr 4 0), (5, U8 b1), (6, I64 (0 : Int)), (7, I32 (0 : Int))], [(4, .cells [I32 (0 : Int), I64 (0 : Int), I64 (0 : Int), BB false] 35)], []⟩) (orc := []) (ob := []) (by kernel_rfl) trivial ?_
      refine N_then ?_
      refine W_join (α := (Int × Int)) (fun z => r01_At_j1 k at1 s1 z.1 z.2 = some rz) (fun z => ⟨[(0, SS s1), (1, I64 at1), (4, .ptr 4 0), (6, I64 (z.1)), (7, I32 (z.2))], [(4, .cells [I32 (0 : Int), I64 (0 : Int), I64 (0 : Int), BB false] 35)], []⟩) ?_ (fun hJ3 => ?_)
      · rintro ⟨long1, r1⟩ h
        unfold r01_At_j1 at h
        refine W_seq ?_
        refine W_region ?_
        refine WL_all hE [0, 1, 4, 6, 7, 8] [4, 8] [] (st' := ⟨[(0, SS s1), (1, I64 at1), (4, .ptr 4 0), (6, I64 long1), (7, I32 r1), (8, .ptr 8 0)], [(4, .cells [I32 (0 : Int), I64 (0 : Int), I64 (0 : Int), BB false] 35), (8, .cells [I32 (65533 : Int), I64 at1, I64 (1 : Int), BB true] 35)], []⟩) (orc := []) (ob := []) (by kernel_rfl) trivial ?_
        refine N_then ?_
        refine W_seq ?_
        refine W_seq ?_
        refine W_region ?_
        refine WL_tk hE 3 [0, 1, 4, 6, 7, 8, 54] [4, 8] [] (st' := ⟨[(0, SS s1), (1, I64 at1), (4, .ptr 4 0), (6, I64 long1), (7, I32 r1), (8, .ptr 8 0), (54, BB (long1 == (0 : Int)))], [(4, .cells [I32 (0 : Int), I64 (0 : Int), I64 (0 : Int), BB false] 35), (8, .cells [I32 (65533 : Int), I64 at1, I64 (1 : Int), BB true] 35)], []⟩) (orc := []) (ob := []) (by kernel_rfl) trivial ?_
        refine WL_join (α := Bool) (fun z => r01_At_j2 k at1 long1 s1 r1 z = some rz) (fun t1 => ⟨[(0, SS s1), (1, I64 at1), (4, .ptr 4 0), (6, I64 long1), (7, I32 r1), (8, .ptr 8 0), (61, BB t1)], [(4, .cells [I32 (0 : Int), I64 (0 : Int), I64 (0 : Int), BB false] 35), (8, .cells [I32 (65533 : Int), I64 at1, I64 (1 : Int), BB true] 35)], []⟩) 7 ?_ (fun hJ2 => ?_)
        · rintro t1 h
          unfold r01_At_j2 at h
          refine WL_nil ?_
          refine N_then ?_
          refine W_cond (b := t1) (by kernel_rfl) (fun e3 => ?_) (fun e3 => ?_)
          · replace h := ite_t e3 h
            refine W_seq ?_
            refine W_region ?_
            refine WL_all hE [4] [4] [] (st' := ⟨[(4, .ptr 4 0)], [(4, .cells [I32 (65533 : Int), I64 at1, I64 (1 : Int), BB true] 35)], []⟩) (orc := []) (ob := []) (by kernel_rfl) trivial ?_
            refine N_then ?_
            refine W_ret ?_
            refine N_then_ret ?_
            cases h
            exact N_end (.inl rfl) (by kernel_rfl)
          · replace h := ite_f e3 h
            refine W_skip ?_
            refine N_then ?_
            refine W_seq ?_
            refine W_seq ?_
            refine W_region ?_
            refine WL_all hE [0, 1, 4, 6, 7, 8, 9] [4, 8] [] (st' := ⟨[(0, SS s1), (1, I64 at1), (4, .ptr 4 0), (6, I64 long1), (7, I32 r1), (8, .ptr 8 0), (9, I64 (1 : Int))], [(4, .cells [I32 (0 : Int), I64 (0 : Int), I64 (0 : Int), BB false] 35), (8, .cells [I32 (65533 : Int), I64 at1, I64 (1 : Int), BB true] 35)], []⟩) (orc := []) (ob := []) (by kernel_rfl) trivial ?_
            refine N_then ?_
            refine W_block ?_
            refine W_loop (α := (Int × Int)) (fun n z => r01_At_l1 k long1 s1 at1 n z.1 z.2 = some rz) (fun z => ⟨[(0, SS s1), (1, I64 at1), (4, .ptr 4 0), (6, I64 long1), (7, I32 (z.1)), (8, .ptr 8 0), (9, I64 (z.2))], [(4, .cells [I32 (0 : Int), I64 (0 : Int), I64 (0 : Int), BB false] 35), (8, .cells [I32 (65533 : Int), I64 at1, I64 (1 : Int), BB true] 35)], []⟩) ?_ (k := k) (x := (r1, (1 : Int))) h
            clear h
            rintro fuel1 ⟨r2, i1⟩ h
            cases fuel1 with
            | zero => exact absurd (show none = some _ from h) (by simp)
            | succ fuel1 =>
              have h : r01_At_b1 k long1 s1 at1 (r01_At_l1 k long1 s1 at1 fuel1) r2 i1 = some rz := h
              unfold r01_At_b1 at h
              refine W_seq ?_
              refine W_seq ?_
              refine W_region ?_
              refine WL_all hE [0, 1, 4, 6, 7, 8, 9, 65] [4, 8] [] (st' := ⟨[(0, SS s1), (1, I64 at1), (4, .ptr 4 0), (6, I64 long1), (7, I32 r2), (8, .ptr 8 0), (9, I64 i1), (65, BB (decide (i1 < long1)))], [(4, .cells [I32 (0 : Int), I64 (0 : Int), I64 (0 : Int), BB false] 35), (8, .cells [I32 (65533 : Int), I64 at1, I64 (1 : Int), BB true] 35)], []⟩) (orc := []) (ob := []) (by kernel_rfl) trivial ?_
              refine N_then ?_
              refine W_cond (b := decide (i1 < long1)) (by kernel_rfl) (fun e4 => ?_) (fun e4 => ?_)
              · replace h := ite_t e4 h
                refine W_skip ?_
                refine N_then ?_
                refine W_seq ?_
                refine W_block ?_
                refine W_seq ?_
                refine W_seq ?_
                refine W_region ?_
                obtain ⟨b2, e5, h⟩ := bind_some h
                obtain ⟨v1, e6, h⟩ := bind_some h
                refine WL_all hE [0, 1, 4, 6, 7, 8, 9, 74] [4, 8] [] (st' := ⟨[(0, SS s1), (1, I64 at1), (4, .ptr 4 0), (6, I64 long1), (7, I32 r2), (8, .ptr 8 0), (9, I64 i1), (74, BB (!v1))], [(4, .cells [I32 (0 : Int), I64 (0 : Int), I64 (0 : Int), BB false] 35), (8, .cells [I32 (65533 : Int), I64 at1, I64 (1 : Int), BB true] 35)], []⟩) (orc := [tU8 b2, tB v1]) (ob := [byteAt s1 (wi64 (at1 + i1)) = some b2, r01_tail k b2 = some v1]) (by kernel_rfl) ⟨e5, e6, trivial⟩ ?_
                refine N_then ?_
                refine W_cond (b := !v1) (by kernel_rfl) (fun e7 => ?_) (fun e7 => ?_)
                · replace h := ite_t e7 h
                  refine W_seq ?_
                  refine W_region ?_
                  refine WL_all hE [4] [4] [] (st' := ⟨[(4, .ptr 4 0)], [(4, .cells [I32 (65533 : Int), I64 at1, I64 (1 : Int), BB true] 35)], []⟩) (orc := []) (ob := []) (by kernel_rfl) trivial ?_
                  refine N_then ?_
                  refine W_ret ?_
                  refine N_then_ret ?_
                  refine N_block_ret ?_
                  refine N_then_ret ?_
                  refine N_then_ret ?_
                  refine N_block_ret ?_
                  refine N_then_ret ?_
                  cases h
                  exact N_end (.inl rfl) (by kernel_rfl)
                · replace h := ite_f e7 h
                  refine W_skip ?_
                  refine N_then ?_
                  refine W_region ?_
                  obtain ⟨b3, e8, h⟩ := bind_some h
                  refine WL_all hE [0, 1, 4, 6, 7, 8, 9] [4, 8] [] (st' := ⟨[(0, SS s1), (1, I64 at1), (4, .ptr 4 0), (6, I64 long1), (7, I32 (wi32 ((wi32 ((64 : Int) * r2)) + (wi32 (wu8 (b3 - (128 : Int))))))), (8, .ptr 8 0), (9, I64 i1)], [(4, .cells [I32 (0 : Int), I64 (0 : Int), I64 (0 : Int), BB false] 35), (8, .cells [I32 (65533 : Int), I64 at1, I64 (1 : Int), BB true] 35)], []⟩) (orc := [tU8 b3]) (ob := [byteAt s1 (wi64 (at1 + i1)) = some b3]) (by kernel_rfl) ⟨e8, trivial⟩ ?_
                  refine N_block ?_
                  refine N_then ?_
                  refine W_region ?_
                  refine WL_all hE [0, 1, 4, 6, 7, 8, 9] [4, 8] [] (st' := ⟨[(0, SS s1), (1, I64 at1), (4, .ptr 4 0), (6, I64 long1), (7, I32 (wi32 ((wi32 ((64 : Int) * r2)) + (wi32 (wu8 (b3 - (128 : Int))))))), (8, .ptr 8 0), (9, I64 (wi64 (i1 + (1 : Int))))], [(4, .cells [I32 (0 : Int), I64 (0 : Int), I64 (0 : Int), BB false] 35), (8, .cells [I32 (65533 : Int), I64 at1, I64 (1 : Int), BB true] 35)], []⟩) (orc := []) (ob := []) (by kernel_rfl) trivial ?_
                  exact N_round (wi32 ((wi32 ((64 : Int) * r2)) + (wi32 (wu8 (b3 - (128 : Int))))), wi64 (i1 + (1 : Int))) (Nat.lt_succ_self _) h
              · replace h := ite_f e4 h
                refine W_exit ?_
                refine N_then_exit ?_
                refine N_then_exit ?_
                refine N_block_exit ?_
                refine N_then ?_
                refine W_seq ?_
                refine W_region ?_
                refine WL_all hE [1, 4, 6, 7, 8, 10] [4, 8] [86] (st' := ⟨[(1, I64 at1), (4, .ptr 4 0), (6, I64 long1), (7, I32 r2), (8, .ptr 8 0), (10, .row 86)], [(4, .cells [I32 (0 : Int), I64 (0 : Int), I64 (0 : Int), BB false] 35), (8, .cells [I32 (65533 : Int), I64 at1, I64 (1 : Int), BB true] 35)], [(86, ⟨21, (.int .i32), ([(0 : Int), (0 : Int), (128 : Int), (2048 : Int), (65536 : Int)] : List (Int))⟩)]⟩) (orc := []) (ob := []) (by kernel_rfl) trivial ?_
                refine N_then ?_
                refine W_seq ?_
                refine W_seq ?_
                refine W_region ?_
                obtain ⟨x1, e9, h⟩ := bind_some h
                refine WL_tk hE 7 [1, 4, 6, 7, 8, 93] [4, 8] [] (st' := ⟨[(1, I64 at1), (4, .ptr 4 0), (6, I64 long1), (7, I32 r2), (8, .ptr 8 0), (93, BB (decide (r2 < x1)))], [(4, .cells [I32 (0 : Int), I64 (0 : Int), I64 (0 : Int), BB false] 35), (8, .cells [I32 (65533 : Int), I64 at1, I64 (1 : Int), BB true] 35)], []⟩) (orc := [tI32 x1, tI32 x1]) (ob := [at? ([(0 : Int), (0 : Int), (128 : Int), (2048 : Int), (65536 : Int)] : List (Int)) long1 = some x1, at? ([(0 : Int), (0 : Int), (128 : Int), (2048 : Int), (65536 : Int)] : List (Int)) long1 = some x1]) (by kernel_rfl) ⟨e9, e9, trivial⟩ ?_
                refine WL_join (α := Bool) (fun z => r01_At_j3 at1 r2 long1 z = some rz) (fun t2 => ⟨[(1, I64 at1), (4, .ptr 4 0), (6, I64 long1), (7, I32 r2), (8, .ptr 8 0), (97, BB t2)], [(4, .cells [I32 (0 : Int), I64 (0 : Int), I64 (0 : Int), BB false] 35), (8, .cells [I32 (65533 : Int), I64 at1, I64 (1 : Int), BB true] 35)], []⟩) 4 ?_ (fun hJ3 => ?_)
                · rintro t2 h
                  unfold r01_At_j3 at h
                  refine WL_nil ?_
                  refine N_then ?_
                  refine W_cond (b := t2) (by kernel_rfl) (fun e10 => ?_) (fun e10 => ?_)
                  · replace h := ite_t e10 h
                    refine W_seq ?_
                    refine W_region ?_
                    refine WL_all hE [4] [4] [] (st' := ⟨[(4, .ptr 4 0)], [(4, .cells [I32 (65533 : Int), I64 at1, I64 (1 : Int), BB true] 35)], []⟩) (orc := []) (ob := []) (by kernel_rfl) trivial ?_
                    refine N_then ?_
                    refine W_ret ?_
                    refine N_then_ret ?_
                    cases h
                    exact N_end (.inl rfl) (by kernel_rfl)
                  · replace h := ite_f e10 h
                    refine W_skip ?_
                    refine N_then ?_
                    refine W_seq ?_
                    refine W_region ?_
                    refine WL_all hE [4] [4] [] (st' := ⟨[(4, .ptr 4 0)], [(4, .cells [I32 r2, I64 at1, I64 long1, BB false] 35)], []⟩) (orc := []) (ob := []) (by kernel_rfl) trivial ?_
                    refine N_then ?_
                    refine W_ret ?_
                    cases h
                    exact N_end (.inl rfl) (by kernel_rfl)
                refine WL_split (fun g => ⟨[(1, I64 at1), (4, .ptr 4 0), (6, I64 long1), (7, I32 r2), (8, .ptr 8 0), (93, BB g)], [(4, .cells [I32 (0 : Int), I64 (0 : Int), I64 (0 : Int), BB false] 35), (8, .cells [I32 (65533 : Int), I64 at1, I64 (1 : Int), BB true] 35)], []⟩) (b := decide (r2 < x1)) (fun e11 => ?_) (fun e11 => ?_)
                · replace h := ite_t e11 h
                  refine WL_all hE [1, 4, 6, 7, 8, 97] [4, 8] [] (st' := ⟨[(1, I64 at1), (4, .ptr 4 0), (6, I64 long1), (7, I32 r2), (8, .ptr 8 0), (97, BB true)], [(4, .cells [I32 (0 : Int), I64 (0 : Int), I64 (0 : Int), BB false] 35), (8, .cells [I32 (65533 : Int), I64 at1, I64 (1 : Int), BB true] 35)], []⟩) (orc := []) (ob := []) (by kernel_rfl) trivial ?_
                  exact hJ3 true h
                · replace h := ite_f e11 h
                  obtain ⟨v2, e12, h⟩ := bind_some h
                  refine WL_all hE [1, 4, 6, 7, 8, 97] [4, 8] [] (st' := ⟨[(1, I64 at1), (4, .ptr 4 0), (6, I64 long1), (7, I32 r2), (8, .ptr 8 0), (97, BB (!v2))], [(4, .cells [I32 (0 : Int), I64 (0 : Int), I64 (0 : Int), BB false] 35), (8, .cells [I32 (65533 : Int), I64 at1, I64 (1 : Int), BB true] 35)], []⟩) (orc := [tB v2]) (ob := [r01_Rune k r2 = some v2]) (by kernel_rfl) ⟨e12, trivial⟩ ?_
                  exact hJ3 (!v2) h
        refine WL_split (fun g => ⟨[(0, SS s1), (1, I64 at1), (4, .ptr 4 0), (6, I64 long1), (7, I32 r1), (8, .ptr 8 0), (54, BB g)], [(4, .cells [I32 (0 : Int), I64 (0 : Int), I64 (0 : Int), BB false] 35), (8, .cells [I32 (65533 : Int), I64 at1, I64 (1 : Int), BB true] 35)], []⟩) (b := long1 == (0 : Int)) (fun e13 => ?_) (fun e13 => ?_)
        · rw [or_t e13] at h
          refine WL_all hE [0, 1, 4, 6, 7, 8, 61] [4, 8] [] (st' := ⟨[(0, SS s1), (1, I64 at1), (4, .ptr 4 0), (6, I64 long1), (7, I32 r1), (8, .ptr 8 0), (61, BB true)], [(4, .cells [I32 (0 : Int), I64 (0 : Int), I64 (0 : Int), BB false] 35), (8, .cells [I32 (65533 : Int), I64 at1, I64 (1 : Int), BB true] 35)], []⟩) (orc := []) (ob := []) (by kernel_rfl) trivial ?_
          exact hJ2 true h
        · rw [or_f e13] at h
          refine WL_all hE [0, 1, 4, 6, 7, 8, 61] [4, 8] [] (st' := ⟨[(0, SS s1), (1, I64 at1), (4, .ptr 4 0), (6, I64 long1), (7, I32 r1), (8, .ptr 8 0), (61, BB (decide ((List.length s1 : Int) < (wi64 (at1 + long1)))))], [(4, .cells [I32 (0 : Int), I64 (0 : Int), I64 (0 : Int), BB false] 35), (8, .cells [I32 (65533 : Int), I64 at1, I64 (1 : Int), BB true] 35)], []⟩) (orc := []) (ob := []) (by kernel_rfl) trivial ?_
          exact hJ2 (decide ((List.length s1 : Int) < (wi64 (at1 + long1)))) h
      refine W_block ?_
      refine W_seq ?_
      refine W_region ?_
      refine WL_tk hE 3 [0, 1, 4, 5, 6, 7, 23] [4] [] (st' := ⟨[(0, SS s1), (1, I64 at1), (4, .ptr 4 0), (5, U8 b1), (6, I64 (0 : Int)), (7, I32 (0 : Int)), (23, BB (decide ((192 : Int) ≤ b1)))], [(4, .cells [I32 (0 : Int), I64 (0 : Int), I64 (0 : Int), BB false] 35)], []⟩) (orc := []) (ob := []) (by kernel_rfl) trivial ?_
      refine WL_join (α := Bool) (fun z => r01_At_j4 k at1 s1 b1 z = some rz) (fun t3 => ⟨[(0, SS s1), (1, I64 at1), (4, .ptr 4 0), (5, U8 b1), (6, I64 (0 : Int)), (7, I32 (0 : Int)), (26, BB t3)], [(4, .cells [I32 (0 : Int), I64 (0 : Int), I64 (0 : Int), BB false] 35)], []⟩) 3 ?_ (fun hJ4 => ?_)
      · rintro t3 h
        unfold r01_At_j4 at h
        refine WL_all hE [0, 1, 4, 5, 6, 7, 20] [4] [] (st' := ⟨[(0, SS s1), (1, I64 at1), (4, .ptr 4 0), (5, U8 b1), (6, I64 (0 : Int)), (7, I32 (0 : Int)), (20, BB t3)], [(4, .cells [I32 (0 : Int), I64 (0 : Int), I64 (0 : Int), BB false] 35)], []⟩) (orc := []) (ob := []) (by kernel_rfl) trivial ?_
        refine N_then ?_
        refine W_cond (b := t3) (by kernel_rfl) (fun e14 => ?_) (fun e14 => ?_)
        · replace h := ite_t e14 h
          refine W_seq ?_
          refine W_region ?_
          refine WL_all hE [0, 1, 4, 5, 6] [4] [] (st' := ⟨[(0, SS s1), (1, I64 at1), (4, .ptr 4 0), (5, U8 b1), (6, I64 (2 : Int))], [(4, .cells [I32 (0 : Int), I64 (0 : Int), I64 (0 : Int), BB false] 35)], []⟩) (orc := []) (ob := []) (by kernel_rfl) trivial ?_
          refine N_then ?_
          refine W_region ?_
          refine WL_all hE [0, 1, 4, 6, 7] [4] [] (st' := ⟨[(0, SS s1), (1, I64 at1), (4, .ptr 4 0), (6, I64 (2 : Int)), (7, I32 (wi32 (wu8 (b1 - (192 : Int)))))], [(4, .cells [I32 (0 : Int), I64 (0 : Int), I64 (0 : Int), BB false] 35)], []⟩) (orc := []) (ob := []) (by kernel_rfl) trivial ?_
          refine N_block ?_
          exact hJ3 ((2 : Int), wi32 (wu8 (b1 - (192 : Int)))) h
        · replace h := ite_f e14 h
          refine W_seq ?_
          refine W_region ?_
          refine WL_tk hE 3 [0, 1, 4, 5, 6, 7, 33] [4] [] (st' := ⟨[(0, SS s1), (1, I64 at1), (4, .ptr 4 0), (5, U8 b1), (6, I64 (0 : Int)), (7, I32 (0 : Int)), (33, BB (decide ((224 : Int) ≤ b1)))], [(4, .cells [I32 (0 : Int), I64 (0 : Int), I64 (0 : Int), BB false] 35)], []⟩) (orc := []) (ob := []) (by kernel_rfl) trivial ?_
          refine WL_join (α := Bool) (fun z => r01_At_j5 k at1 s1 b1 z = some rz) (fun t4 => ⟨[(0, SS s1), (1, I64 at1), (4, .ptr 4 0), (5, U8 b1), (6, I64 (0 : Int)), (7, I32 (0 : Int)), (36, BB t4)], [(4, .cells [I32 (0 : Int), I64 (0 : Int), I64 (0 : Int), BB false] 35)], []⟩) 3 ?_ (fun hJ5 => ?_)
          · rintro t4 h
            unfold r01_At_j5 at h
            refine WL_all hE [0, 1, 4, 5, 6, 7, 30] [4] [] (st' := ⟨[(0, SS s1), (1, I64 at1), (4, .ptr 4 0), (5, U8 b1), (6, I64 (0 : Int)), (7, I32 (0 : Int)), (30, BB t4)], [(4, .cells [I32 (0 : Int), I64 (0 : Int), I64 (0 : Int), BB false] 35)], []⟩) (orc := []) (ob := []) (by kernel_rfl) trivial ?_
            refine N_then ?_
            refine W_cond (b := t4) (by kernel_rfl) (fun e15 => ?_) (fun e15 => ?_)
            · replace h := ite_t e15 h
              refine W_seq ?_
              refine W_region ?_
              refine WL_all hE [0, 1, 4, 5, 6] [4] [] (st' := ⟨[(0, SS s1), (1, I64 at1), (4, .ptr 4 0), (5, U8 b1), (6, I64 (3 : Int))], [(4, .cells [I32 (0 : Int), I64 (0 : Int), I64 (0 : Int), BB false] 35)], []⟩) (orc := []) (ob := []) (by kernel_rfl) trivial ?_
              refine N_then ?_
              refine W_region ?_
              refine WL_all hE [0, 1, 4, 6, 7] [4] [] (st' := ⟨[(0, SS s1), (1, I64 at1), (4, .ptr 4 0), (6, I64 (3 : Int)), (7, I32 (wi32 (wu8 (b1 - (224 : Int)))))], [(4, .cells [I32 (0 : Int), I64 (0 : Int), I64 (0 : Int), BB false] 35)], []⟩) (orc := []) (ob := []) (by kernel_rfl) trivial ?_
              refine N_block ?_
              exact hJ3 ((3 : Int), wi32 (wu8 (b1 - (224 : Int)))) h
            · replace h := ite_f e15 h
              refine W_seq ?_
              refine W_region ?_
              refine WL_tk hE 3 [0, 1, 4, 5, 6, 7, 43] [4] [] (st' := ⟨[(0, SS s1), (1, I64 at1), (4, .ptr 4 0), (5, U8 b1), (6, I64 (0 : Int)), (7, I32 (0 : Int)), (43, BB (decide ((240 : Int) ≤ b1)))], [(4, .cells [I32 (0 : Int), I64 (0 : Int), I64 (0 : Int), BB false] 35)], []⟩) (orc := []) (ob := []) (by kernel_rfl) trivial ?_
              refine WL_join (α := Bool) (fun z => r01_At_j6 k at1 s1 b1 z = some rz) (fun t5 => ⟨[(0, SS s1), (1, I64 at1), (4, .ptr 4 0), (5, U8 b1), (6, I64 (0 : Int)), (7, I32 (0 : Int)), (46, BB t5)], [(4, .cells [I32 (0 : Int), I64 (0 : Int), I64 (0 : Int), BB false] 35)], []⟩) 3 ?_ (fun hJ6 => ?_)
              · rintro t5 h
                unfold r01_At_j6 at h
                refine WL_all hE [0, 1, 4, 5, 6, 7, 40] [4] [] (st' := ⟨[(0, SS s1), (1, I64 at1), (4, .ptr 4 0), (5, U8 b1), (6, I64 (0 : Int)), (7, I32 (0 : Int)), (40, BB t5)], [(4, .cells [I32 (0 : Int), I64 (0 : Int), I64 (0 : Int), BB false] 35)], []⟩) (orc := []) (ob := []) (by kernel_rfl) trivial ?_
                refine N_then ?_
                refine W_cond (b := t5) (by kernel_rfl) (fun e16 => ?_) (fun e16 => ?_)
                · replace h := ite_t e16 h
                  refine W_seq ?_
                  refine W_region ?_
                  refine WL_all hE [0, 1, 4, 5, 6] [4] [] (st' := ⟨[(0, SS s1), (1, I64 at1), (4, .ptr 4 0), (5, U8 b1), (6, I64 (4 : Int))], [(4, .cells [I32 (0 : Int), I64 (0 : Int), I64 (0 : Int), BB false] 35)], []⟩) (orc := []) (ob := []) (by kernel_rfl) trivial ?_
                  refine N_then ?_
                  refine W_region ?_
                  refine WL_all hE [0, 1, 4, 6, 7] [4] [] (st' := ⟨[(0, SS s1), (1, I64 at1), (4, .ptr 4 0), (6, I64 (4 : Int)), (7, I32 (wi32 (wu8 (b1 - (240 : Int)))))], [(4, .cells [I32 (0 : Int), I64 (0 : Int), I64 (0 : Int), BB false] 35)], []⟩) (orc := []) (ob := []) (by kernel_rfl) trivial ?_
                  refine N_block ?_
                  exact hJ3 ((4 : Int), wi32 (wu8 (b1 - (240 : Int)))) h
                · replace h := ite_f e16 h
                  refine W_skip ?_
                  refine N_block ?_
                  refine N.norm (st' := ⟨[(0, SS s1), (1, I64 at1), (4, .ptr 4 0), (6, I64 (0 : Int)), (7, I32 (0 : Int))], [(4, .cells [I32 (0 : Int), I64 (0 : Int), I64 (0 : Int), BB false] 35)], []⟩) (ks := [0, 1, 4, 6, 7]) (bs := [4]) (rs := []) ?_ (by kernel_rfl)
                  exact hJ3 ((0 : Int), (0 : Int)) h
              refine WL_split (fun g => ⟨[(0, SS s1), (1, I64 at1), (4, .ptr 4 0), (5, U8 b1), (6, I64 (0 : Int)), (7, I32 (0 : Int)), (43, BB g)], [(4, .cells [I32 (0 : Int), I64 (0 : Int), I64 (0 : Int), BB false] 35)], []⟩) (b := decide ((240 : Int) ≤ b1)) (fun e17 => ?_) (fun e17 => ?_)
              · rw [and_t e17] at h
                refine WL_all hE [0, 1, 4, 5, 6, 7, 46] [4] [] (st' := ⟨[(0, SS s1), (1, I64 at1), (4, .ptr 4 0), (5, U8 b1), (6, I64 (0 : Int)), (7, I32 (0 : Int)), (46, BB (decide (b1 < (248 : Int))))], [(4, .cells [I32 (0 : Int), I64 (0 : Int), I64 (0 : Int), BB false] 35)], []⟩) (orc := []) (ob := []) (by kernel_rfl) trivial ?_
                exact hJ6 (decide (b1 < (248 : Int))) h
              · rw [and_f e17] at h
                refine WL_all hE [0, 1, 4, 5, 6, 7, 46] [4] [] (st' := ⟨[(0, SS s1), (1, I64 at1), (4, .ptr 4 0), (5, U8 b1), (6, I64 (0 : Int)), (7, I32 (0 : Int)), (46, BB false)], [(4, .cells [I32 (0 : Int), I64 (0 : Int), I64 (0 : Int), BB false] 35)], []⟩) (orc := []) (ob := []) (by kernel_rfl) trivial ?_
                exact hJ6 false h
          refine WL_split (fun g => ⟨[(0, SS s1), (1, I64 at1), (4, .ptr 4 0), (5, U8 b1), (6, I64 (0 : Int)), (7, I32 (0 : Int)), (33, BB g)], [(4, .cells [I32 (0 : Int), I64 (0 : Int), I64 (0 : Int), BB false] 35)], []⟩) (b := decide ((224 : Int) ≤ b1)) (fun e18 => ?_) (fun e18 => ?_)
          · rw [and_t e18] at h
            refine WL_all hE [0, 1, 4, 5, 6, 7, 36] [4] [] (st' := ⟨[(0, SS s1), (1, I64 at1), (4, .ptr 4 0), (5, U8 b1), (6, I64 (0 : Int)), (7, I32 (0 : Int)), (36, BB (decide (b1 < (240 : Int))))], [(4, .cells [I32 (0 : Int), I64 (0 : Int), I64 (0 : Int), BB false] 35)], []⟩) (orc := []) (ob := []) (by kernel_rfl) trivial ?_
            exact hJ5 (decide (b1 < (240 : Int))) h
          · rw [and_f e18] at h
            refine WL_all hE [0, 1, 4, 5, 6, 7, 36] [4] [] (st' := ⟨[(0, SS s1), (1, I64 at1), (4, .ptr 4 0), (5, U8 b1), (6, I64 (0 : Int)), (7, I32 (0 : Int)), (36, BB false)], [(4, .cells [I32 (0 : Int), I64 (0 : Int), I64 (0 : Int), BB false] 35)], []⟩) (orc := []) (ob := []) (by kernel_rfl) trivial ?_
            exact hJ5 false h
      refine WL_split (fun g => ⟨[(0, SS s1), (1, I64 at1), (4, .ptr 4 0), (5, U8 b1), (6, I64 (0 : Int)), (7, I32 (0 : Int)), (23, BB g)], [(4, .cells [I32 (0 : Int), I64 (0 : Int), I64 (0 : Int), BB false] 35)], []⟩) (b := decide ((192 : Int) ≤ b1)) (fun e19 => ?_) (fun e19 => ?_)
      · rw [and_t e19] at h
        refine WL_all hE [0, 1, 4, 5, 6, 7, 26] [4] [] (st' := ⟨[(0, SS s1), (1, I64 at1), (4, .ptr 4 0), (5, U8 b1), (6, I64 (0 : Int)), (7, I32 (0 : Int)), (26, BB (decide (b1 < (224 : Int))))], [(4, .cells [I32 (0 : Int), I64 (0 : Int), I64 (0 : Int), BB false] 35)], []⟩) (orc := []) (ob := []) (by kernel_rfl) trivial ?_
        exact hJ4 (decide (b1 < (224 : Int))) h
      · rw [and_f e19] at h
        refine WL_all hE [0, 1, 4, 5, 6, 7, 26] [4] [] (st' := ⟨[(0, SS s1), (1, I64 at1), (4, .ptr 4 0), (5, U8 b1), (6, I64 (0 : Int)), (7, I32 (0 : Int)), (26, BB false)], [(4, .cells [I32 (0 : Int), I64 (0 : Int), I64 (0 : Int), BB false] 35)], []⟩) (orc := []) (ob := []) (by kernel_rfl) trivial ?_
        exact hJ4 false h

def C_r01_All (k : Nat) : FnC := ⟨false, 1, [], fun | [⟨.str, s1⟩], [⟨(.sl (.pair (.int .i32) (.pair (.int .i64) (.pair (.int .i64) (.pair .bool .unit))))), rz⟩] => r01_All k s1 = some rz | _, _ => False⟩
noncomputable def E_r01_All (k : Nat) : Env := ⟨Tryd.prog, Gu, 22, [(51, C_r01_At k)]⟩
theorem c_r01_All (k : Nat) : Contract Tryd.prog Gu 33 (C_r01_All k) := by
  refine contract_of Gu_stable (fn := Tryd.f33) Tryd.func33 (by kernel_rfl) rfl ?_ ?_
  · intro xs rs h
    unfold C_r01_All at h
    simp only at h
    split at h
    · exact ⟨by show 1 ≤ _; rw [Tryd.ntmps33]; decide, rfl, fun hf => by cases hf⟩
    · exact h.elim
  · intro w0 M xs rs hG h
    unfold C_r01_All at h
    simp only at h
    split at h
    case h_2 => exact h.elim
    rename_i s1 rz
    change List UInt8 at s1
    change List ((Int × Int × Int × Bool × Unit)) at rz
    have hE : EnvOK (E_r01_All k) ⟨Tryd.prog, Tryd.f33.ntmps, w0, M, fun _ => False, fun _ => undef⟩ := (EnvOK.cons (c_r01_At k) (EnvOK.nil rfl Tryd.ntmps33 hG))
    unfold r01_All at h
    refine W_seq ?_
    refine W_region ?_
    refine WL_all hE [0] [] [] (st' := ⟨[(0, SS s1)], [], []⟩) (orc := []) (ob := []) (by kernel_rfl) trivial ?_
    refine N_then ?_
    refine W_seq ?_
    refine W_region ?_
    refine WL_all hE [0, 3] [] [3] (st' := ⟨[(0, SS s1), (3, .row 3)], [], [(3, ⟨35, (.pair (.int .i32) (.pair (.int .i64) (.pair (.int .i64) (.pair .bool .unit)))), ([] : List ((Int × Int × Int × Bool × Unit)))⟩)]⟩) (orc := []) (ob := []) (by kernel_rfl) trivial ?_
    refine N_then ?_
    refine W_seq ?_
    refine W_region ?_
    refine WL_all hE [0, 3, 4] [] [3] (st' := ⟨[(0, SS s1), (3, .row 3), (4, I64 (0 : Int))], [], [(3, ⟨35, (.pair (.int .i32) (.pair (.int .i64) (.pair (.int .i64) (.pair .bool .unit)))), ([] : List ((Int × Int × Int × Bool × Unit)))⟩)]⟩) (orc := []) (ob := []) (by kernel_rfl) trivial ?_
    refine N_then ?_
    refine W_seq ?_
    refine W_block ?_
    refine W_loop (α := (Int × List ((Int × Int × Int × Bool × Unit)))) (fun n z => r01_All_l1 k s1 n z.1 z.2 = some rz) (fun z => ⟨[(0, SS s1), (3, .row 3), (4, I64 (z.1))], [], [(3, ⟨35, (.pair (.int .i32) (.pair (.int .i64) (.pair (.int .i64) (.pair .bool .unit)))), (z.2)⟩)]⟩) ?_ (k := k) (x := ((0 : Int), ([] : List ((Int × Int × Int × Bool × Unit))))) h
    clear h
    rintro fuel1 ⟨at1, out1⟩ h
    cases fuel1 with
    | zero => exact absurd (show none = some _ from h) (by simp)
    | succ fuel1 =>
      have h : r01_All_b1 k s1 (r01_All_l1 k s1 fuel1) at1 out1 = some rz := h
      unfold r01_All_b1 at h
      refine W_seq ?_
      refine W_seq ?_
      refine W_region ?_
      refine WL_all hE [0, 3, 4, 9] [] [3] (st' := ⟨[(0, SS s1), (3, .row 3), (4, I64 at1), (9, BB (decide (at1 < (List.length s1 : Int))))], [], [(3, ⟨35, (.pair (.int .i32) (.pair (.int .i64) (.pair (.int .i64) (.pair .bool .unit)))), out1⟩)]⟩) (orc := []) (ob := []) (by kernel_rfl) trivial ?_
      refine N_then ?_
      refine W_cond (b := decide (at1 < (List.length s1 : Int))) (by kernel_rfl) (fun e1 => ?_) (fun e1 => ?_)
      · replace h := ite_t e1 h
        refine W_skip ?_
        refine N_then ?_
        refine W_block ?_
        refine W_seq ?_
        refine W_region ?_
        obtain ⟨v1, e2, h⟩ := bind_some h
        refine WL_all hE [0, 3, 4, 5] [5] [3] (st' := ⟨[(0, SS s1), (3, .row 3), (4, I64 at1), (5, .ptr 5 0)], [(5, .cells [I32 v1.1, I64 v1.2.1, I64 v1.2.2.1, BB v1.2.2.2.1] 35)], [(3, ⟨35, (.pair (.int .i32) (.pair (.int .i64) (.pair (.int .i64) (.pair .bool .unit)))), out1⟩)]⟩) (orc := [⟨(.pair (.int .i32) (.pair (.int .i64) (.pair (.int .i64) (.pair .bool .unit)))), v1⟩]) (ob := [r01_At k s1 at1 = some v1]) (by kernel_rfl) ⟨e2, trivial⟩ ?_
        refine N_then ?_
        refine W_seq ?_
        refine W_region ?_
        obtain ⟨_, e3, h⟩ := bind_some h
        replace e3 := chk_some e3
        refine WL_all hE [0, 3, 4, 5] [5] [3] (st' := ⟨[(0, SS s1), (3, .row 3), (4, I64 at1), (5, .ptr 5 0)], [(5, .cells [I32 v1.1, I64 v1.2.1, I64 v1.2.2.1, BB v1.2.2.2.1] 35)], [(3, ⟨35, (.pair (.int .i32) (.pair (.int .i64) (.pair (.int .i64) (.pair .bool .unit)))), out1 ++ ([(v1.1, v1.2.1, v1.2.2.1, v1.2.2.2.1, ())] : List ((Int × Int × Int × Bool × Unit)))⟩)]⟩) (orc := []) (ob := [List.length out1 + List.length ([(v1.1, v1.2.1, v1.2.2.1, v1.2.2.2.1, ())] : List ((Int × Int × Int × Bool × Unit))) ≤ lim]) (by kernel_rfl) ⟨e3, trivial⟩ ?_
        refine N_then ?_
        refine W_region ?_
        refine WL_all hE [0, 3, 4] [] [3] (st' := ⟨[(0, SS s1), (3, .row 3), (4, I64 (wi64 (at1 + v1.2.2.1)))], [], [(3, ⟨35, (.pair (.int .i32) (.pair (.int .i64) (.pair (.int .i64) (.pair .bool .unit)))), out1 ++ ([(v1.1, v1.2.1, v1.2.2.1, v1.2.2.2.1, ())] : List ((Int × Int × Int × Bool × Unit)))⟩)]⟩) (orc := []) (ob := []) (by kernel_rfl) trivial ?_
        refine N_block ?_
        exact N_round (wi64 (at1 + v1.2.2.1), out1 ++ ([(v1.1, v1.2.1, v1.2.2.1, v1.2.2.2.1, ())] : List ((Int × Int × Int × Bool × Unit)))) (Nat.lt_succ_self _) h
      · replace h := ite_f e1 h
        refine W_exit ?_
        refine N_then_exit ?_
        refine N_then_exit ?_
        refine N_block_exit ?_
        refine N_then ?_
        refine W_seq ?_
        refine W_region ?_
        refine WL_all hE [2] [] [3] (st' := ⟨[(2, .row 3)], [], [(3, ⟨35, (.pair (.int .i32) (.pair (.int .i64) (.pair (.int .i64) (.pair .bool .unit)))), out1⟩)]⟩) (orc := []) (ob := []) (by kernel_rfl) trivial ?_
        refine N_then ?_
        refine W_ret ?_
        cases h
        exact N_end (.inl rfl) (by kernel_rfl)

def C_r01_sixteen (k : Nat) : FnC := ⟨true, 1, [], fun | [⟨(.int .i64), n1⟩], [⟨.str, rz⟩] => r01_sixteen k n1 = some rz | _, _ => False⟩
noncomputable def E_r01_sixteen (k : Nat) : Env := ⟨Tryd.prog, Gu, 7, []⟩
theorem c_r01_sixteen (k : Nat) : Contract Tryd.prog Gu 68 (C_r01_sixteen k) := by
  refine contract_of Gu_stable (fn := Tryd.f68) Tryd.func68 (by kernel_rfl) rfl ?_ ?_
  · intro xs rs h
    unfold C_r01_sixteen at h
    simp only at h
    split at h
    · exact ⟨by show 1 ≤ _; rw [Tryd.ntmps68]; decide, rfl, fun _ u hu => by simp at hu; (rcases hu with rfl) <;> rfl⟩
    · exact h.elim
  · intro w0 M xs rs hG h
    unfold C_r01_sixteen at h
    simp only at h
    split at h
    case h_2 => exact h.elim
    rename_i n1 rz
    change Int at n1
    change List UInt8 at rz
    have hE : EnvOK (E_r01_sixteen k) ⟨Tryd.prog, Tryd.f68.ntmps, w0, M, fun _ => False, fun _ => undef⟩ := (EnvOK.nil rfl Tryd.ntmps68 hG)
    unfold r01_sixteen at h
    refine W_seq ?_
    refine W_region ?_
    refine WL_all hE [0] [] [] (st' := ⟨[(0, I64 n1)], [], []⟩) (orc := []) (ob := []) (by kernel_rfl) trivial ?_
    refine N_then ?_
    refine W_seq ?_
    refine W_region ?_
    obtain ⟨s1, e1, h⟩ := bind_some h
    refine WL_all hE [2] [] [] (st' := ⟨[(2, SS s1)], [], []⟩) (orc := [tS s1]) (ob := [sub? ([48, 49, 50, 51, 52, 53, 54, 55, 56, 57, 97, 98, 99, 100, 101, 102] : List UInt8) n1 (wi64 (n1 + (1 : Int))) = some s1]) (by kernel_rfl) ⟨e1, trivial⟩ ?_
    refine N_then ?_
    refine W_ret ?_
    cases h
    exact N_end (.inl rfl) (by kernel_rfl)

def C_r01_number (k : Nat) : FnC := ⟨true, 1, [], fun | [⟨(.int .i64), n1⟩], [⟨.str, rz⟩] => r01_number k n1 = some rz | _, _ => False⟩
noncomputable def E_r01_number (k : Nat) : Env := ⟨Tryd.prog, Gu, 14, [(68, C_r01_sixteen k), (64, C_r01_number k)]⟩
theorem c_r01_number : ∀ (k : Nat), Contract Tryd.prog Gu 64 (C_r01_number k) := by
  intro k
  induction k with
  | zero =>
    refine contract_of Gu_stable (fn := Tryd.f64) Tryd.func64 (by kernel_rfl) rfl ?_ ?_
    · intro xs rs h
      unfold C_r01_number at h
      simp only at h
      split at h
      · exact ⟨by show 1 ≤ _; rw [Tryd.ntmps64]; decide, rfl, fun _ u hu => by simp at hu; (rcases hu with rfl) <;> rfl⟩
      · exact h.elim
    · intro w0 M xs rs hG h
      unfold C_r01_number at h
      simp only at h
      split at h
      case h_2 => exact h.elim
      exact absurd (show none = some _ from h) (by simp)
  | succ k ih =>
    refine contract_of Gu_stable (fn := Tryd.f64) Tryd.func64 (by kernel_rfl) rfl ?_ ?_
    · intro xs rs h
      unfold C_r01_number at h
      simp only at h
      split at h
      · exact ⟨by show 1 ≤ _; rw [Tryd.ntmps64]; decide, rfl, fun _ u hu => by simp at hu; (rcases hu with rfl) <;> rfl⟩
      · exact h.elim
    · intro w0 M xs rs hG h
      unfold C_r01_number at h
      simp only at h
      split at h
      case h_2 => exact h.elim
      rename_i n1 rz
      change Int at n1
      change List UInt8 at rz
      have hE : EnvOK (E_r01_number k) ⟨Tryd.prog, Tryd.f64.ntmps, w0, M, fun _ => False, fun _ => undef⟩ := (EnvOK.cons (c_r01_sixteen k) (EnvOK.cons (ih) (EnvOK.nil rfl Tryd.ntmps64 hG)))
      unfold r01_number at h
      refine W_seq ?_
      refine W_region ?_
      refine WL_all hE [0] [] [] (st' := ⟨[(0, I64 n1)], [], []⟩) (orc := []) (ob := []) (by kernel_rfl) trivial ?_
      refine N_then ?_
      refine W_seq ?_
      refine W_seq ?_
      refine W_region ?_
      refine WL_all hE [0, 4] [] [] (st' := ⟨[(0, I64 n1), (4, BB (decide (n1 < (16 : Int))))], [], []⟩) (orc := []) (ob := []) (by kernel_rfl) trivial ?_
      refine N_then ?_
      refine W_cond (b := decide (n1 < (16 : Int))) (by kernel_rfl) (fun e1 => ?_) (fun e1 => ?_)
      · replace h := ite_t e1 h
        refine W_seq ?_
        refine W_region ?_
        obtain ⟨v1, e2, h⟩ := bind_some h
        refine WL_all hE [2] [] [] (st' := ⟨[(2, SS v1)], [], []⟩) (orc := [tS v1]) (ob := [r01_sixteen k n1 = some v1]) (by kernel_rfl) ⟨e2, trivial⟩ ?_
        refine N_then ?_
        refine W_ret ?_
        refine N_then_ret ?_
        cases h
        exact N_end (.inl rfl) (by kernel_rfl)
      · replace h := ite_f e1 h
        refine W_skip ?_
        refine N_then ?_
        refine W_seq ?_
        refine W_region ?_
        obtain ⟨_, e3, h⟩ := bind_some h
        replace e3 := chk_some e3
        obtain ⟨v2, e4, h⟩ := bind_some h
        obtain ⟨_, e5, h⟩ := bind_some h
        replace e5 := chk_some e5
        obtain ⟨v3, e6, h⟩ := bind_some h
        obtain ⟨_, e7, h⟩ := bind_some h
        replace e7 := chk_some e7
        refine WL_all hE [2] [] [] (st' := ⟨[(2, SS (v2 ++ v3))], [], []⟩) (orc := [tS v2, tS v3]) (ob := [(16 : Int) ≠ 0, (r01_number k) (wi64 (Int.tdiv n1 (16 : Int))) = some v2, (16 : Int) ≠ 0, r01_sixteen k (Int.tmod n1 (16 : Int)) = some v3, List.length v2 + List.length v3 ≤ lim]) (by kernel_rfl) ⟨e3, e4, e5, e6, e7, trivial⟩ ?_
        refine N_then ?_
        refine W_ret ?_
        cases h
        exact N_end (.inl rfl) (by kernel_rfl)

def C_r01_shown (k : Nat) : FnC := ⟨true, 1, [], fun | [⟨.str, s1⟩, ⟨(.pair (.int .i32) (.pair (.int .i64) (.pair (.int .i64) (.pair .bool .unit)))), p1⟩], [⟨.str, rz⟩] => r01_shown k s1 p1 = some rz | _, _ => False⟩
noncomputable def E_r01_shown (k : Nat) : Env := ⟨Tryd.prog, Gu, 58, [(68, C_r01_sixteen k), (64, C_r01_number k)]⟩
theorem c_r01_shown (k : Nat) : Contract Tryd.prog Gu 57 (C_r01_shown k) := by
  refine contract_of Gu_stable (fn := Tryd.f57) Tryd.func57 (by kernel_rfl) rfl ?_ ?_
  · intro xs rs h
    unfold C_r01_shown at h
    simp only at h
    split at h
    · exact ⟨by show 2 ≤ _; rw [Tryd.ntmps57]; decide, rfl, fun _ u hu => by simp at hu; (rcases hu with rfl) <;> rfl⟩
    · exact h.elim
  · intro w0 M xs rs hG h
    unfold C_r01_shown at h
    simp only at h
    split at h
    case h_2 => exact h.elim
    rename_i s1 p1 rz
    change List UInt8 at s1
    change (Int × Int × Int × Bool × Unit) at p1
    change List UInt8 at rz
    have hE : EnvOK (E_r01_shown k) ⟨Tryd.prog, Tryd.f57.ntmps, w0, M, fun _ => False, fun _ => undef⟩ := (EnvOK.cons (c_r01_sixteen k) (EnvOK.cons (c_r01_number k) (EnvOK.nil rfl Tryd.ntmps57 hG)))
    unfold r01_shown at h
    refine W_seq ?_
    refine W_region ?_
    refine WL_all hE [0, 3] [3] [] (st' := ⟨[(0, SS s1), (3, .ptr 3 0)], [(3, .cells [I32 p1.1, I64 p1.2.1, I64 p1.2.2.1, BB p1.2.2.2.1] 35)], []⟩) (orc := []) (ob := []) (by kernel_rfl) trivial ?_
    refine N_then ?_
    refine W_seq ?_
    refine W_region ?_
    obtain ⟨b1, e1, h⟩ := bind_some h
    refine WL_all hE [0, 3, 5] [3] [] (st' := ⟨[(0, SS s1), (3, .ptr 3 0), (5, U8 b1)], [(3, .cells [I32 p1.1, I64 p1.2.1, I64 p1.2.2.1, BB p1.2.2.2.1] 35)], []⟩) (orc := [tU8 b1]) (ob := [byteAt s1 p1.2.1 = some b1]) (by kernel_rfl) ⟨e1, trivial⟩ ?_
    refine N_then ?_
    refine W_seq ?_
    refine W_block ?_
    refine W_seq ?_
    refine W_region ?_
    refine WL_all hE [0, 3, 5, 10] [3] [] (st' := ⟨[(0, SS s1), (3, .ptr 3 0), (5, U8 b1), (10, BB p1.2.2.2.1)], [(3, .cells [I32 p1.1, I64 p1.2.1, I64 p1.2.2.1, BB p1.2.2.2.1] 35)], []⟩) (orc := []) (ob := []) (by kernel_rfl) trivial ?_
    refine N_then ?_
    refine W_cond (b := p1.2.2.2.1) (by kernel_rfl) (fun e2 => ?_) (fun e2 => ?_)
    · replace h := ite_t e2 h
      refine W_seq ?_
      refine W_region ?_
      obtain ⟨_, e3, h⟩ := bind_some h
      replace e3 := chk_some e3
      obtain ⟨v1, e4, h⟩ := bind_some h
      obtain ⟨_, e5, h⟩ := bind_some h
      replace e5 := chk_some e5
      obtain ⟨_, e6, h⟩ := bind_some h
      replace e6 := chk_some e6
      obtain ⟨v2, e7, h⟩ := bind_some h
      obtain ⟨_, e8, h⟩ := bind_some h
      replace e8 := chk_some e8
      refine WL_all hE [4] [] [] (st' := ⟨[(4, SS ((([92, 120] : List UInt8) ++ v1) ++ v2))], [], []⟩) (orc := [tS v1, tS v2]) (ob := [(16 : Int) ≠ 0, r01_sixteen k (wi64 (Int.tdiv (wi64 b1) (16 : Int))) = some v1, List.length ([92, 120] : List UInt8) + List.length v1 ≤ lim, (16 : Int) ≠ 0, r01_sixteen k (Int.tmod (wi64 b1) (16 : Int)) = some v2, List.length (([92, 120] : List UInt8) ++ v1) + List.length v2 ≤ lim]) (by kernel_rfl) ⟨e3, e4, e5, e6, e7, e8, trivial⟩ ?_
      refine N_then ?_
      refine W_ret ?_
      refine N_block_ret ?_
      refine N_then_ret ?_
      cases h
      exact N_end (.inl rfl) (by kernel_rfl)
    · replace h := ite_f e2 h
      refine W_seq ?_
      refine W_region ?_
      refine WL_tk hE 3 [0, 3, 5, 26] [3] [] (st' := ⟨[(0, SS s1), (3, .ptr 3 0), (5, U8 b1), (26, BB (b1 == (34 : Int)))], [(3, .cells [I32 p1.1, I64 p1.2.1, I64 p1.2.2.1, BB p1.2.2.2.1] 35)], []⟩) (orc := []) (ob := []) (by kernel_rfl) trivial ?_
      refine WL_join (α := Bool) (fun z => r01_shown_j1 k s1 p1 b1 z = some rz) (fun t1 => ⟨[(0, SS s1), (3, .ptr 3 0), (5, U8 b1), (29, BB t1)], [(3, .cells [I32 p1.1, I64 p1.2.1, I64 p1.2.2.1, BB p1.2.2.2.1] 35)], []⟩) 3 ?_ (fun hJ1 => ?_)
      · rintro t1 h
        unfold r01_shown_j1 at h
        refine WL_all hE [0, 3, 5, 23] [3] [] (st' := ⟨[(0, SS s1), (3, .ptr 3 0), (5, U8 b1), (23, BB t1)], [(3, .cells [I32 p1.1, I64 p1.2.1, I64 p1.2.2.1, BB p1.2.2.2.1] 35)], []⟩) (orc := []) (ob := []) (by kernel_rfl) trivial ?_
        refine N_then ?_
        refine W_cond (b := t1) (by kernel_rfl) (fun e9 => ?_) (fun e9 => ?_)
        · replace h := ite_t e9 h
          refine W_seq ?_
          refine W_region ?_
          obtain ⟨s2, e10, h⟩ := bind_some h
          obtain ⟨_, e11, h⟩ := bind_some h
          replace e11 := chk_some e11
          refine WL_all hE [4] [] [] (st' := ⟨[(4, SS (([92] : List UInt8) ++ s2))], [], []⟩) (orc := [tS s2]) (ob := [sub? s1 p1.2.1 (wi64 (p1.2.1 + (1 : Int))) = some s2, List.length ([92] : List UInt8) + List.length s2 ≤ lim]) (by kernel_rfl) ⟨e10, e11, trivial⟩ ?_
          refine N_then ?_
          refine W_ret ?_
          refine N_block_ret ?_
          refine N_then_ret ?_
          cases h
          exact N_end (.inl rfl) (by kernel_rfl)
        · replace h := ite_f e9 h
          refine W_seq ?_
          refine W_region ?_
          refine WL_tk hE 3 [0, 3, 5, 41] [3] [] (st' := ⟨[(0, SS s1), (3, .ptr 3 0), (5, U8 b1), (41, BB (decide ((32 : Int) ≤ b1)))], [(3, .cells [I32 p1.1, I64 p1.2.1, I64 p1.2.2.1, BB p1.2.2.2.1] 35)], []⟩) (orc := []) (ob := []) (by kernel_rfl) trivial ?_
          refine WL_join (α := Bool) (fun z => r01_shown_j2 k s1 p1 z = some rz) (fun t2 => ⟨[(0, SS s1), (3, .ptr 3 0), (44, BB t2)], [(3, .cells [I32 p1.1, I64 p1.2.1, I64 p1.2.2.1, BB p1.2.2.2.1] 35)], []⟩) 3 ?_ (fun hJ2 => ?_)
          · rintro t2 h
            unfold r01_shown_j2 at h
            refine WL_all hE [0, 3, 38] [3] [] (st' := ⟨[(0, SS s1), (3, .ptr 3 0), (38, BB t2)], [(3, .cells [I32 p1.1, I64 p1.2.1, I64 p1.2.2.1, BB p1.2.2.2.1] 35)], []⟩) (orc := []) (ob := []) (by kernel_rfl) trivial ?_
            refine N_then ?_
            refine W_cond (b := t2) (by kernel_rfl) (fun e12 => ?_) (fun e12 => ?_)
            · replace h := ite_t e12 h
              refine W_seq ?_
              refine W_region ?_
              obtain ⟨s3, e13, h⟩ := bind_some h
              refine WL_all hE [4] [] [] (st' := ⟨[(4, SS s3)], [], []⟩) (orc := [tS s3]) (ob := [sub? s1 p1.2.1 (wi64 (p1.2.1 + (1 : Int))) = some s3]) (by kernel_rfl) ⟨e13, trivial⟩ ?_
              refine N_then ?_
              refine W_ret ?_
              refine N_block_ret ?_
              refine N_then_ret ?_
              cases h
              exact N_end (.inl rfl) (by kernel_rfl)
            · replace h := ite_f e12 h
              refine W_skip ?_
              refine N_block ?_
              refine N_then ?_
              refine W_seq ?_
              refine W_region ?_
              obtain ⟨v3, e14, h⟩ := bind_some h
              obtain ⟨_, e15, h⟩ := bind_some h
              replace e15 := chk_some e15
              obtain ⟨_, e16, h⟩ := bind_some h
              replace e16 := chk_some e16
              refine WL_all hE [4] [] [] (st' := ⟨[(4, SS ((([92, 117] : List UInt8) ++ v3) ++ ([59] : List UInt8)))], [], []⟩) (orc := [tS v3]) (ob := [r01_number k (wi64 p1.1) = some v3, List.length ([92, 117] : List UInt8) + List.length v3 ≤ lim, List.length (([92, 117] : List UInt8) ++ v3) + List.length ([59] : List UInt8) ≤ lim]) (by kernel_rfl) ⟨e14, e15, e16, trivial⟩ ?_
              refine N_then ?_
              refine W_ret ?_
              cases h
              exact N_end (.inl rfl) (by kernel_rfl)
          refine WL_split (fun g => ⟨[(0, SS s1), (3, .ptr 3 0), (5, U8 b1), (41, BB g)], [(3, .cells [I32 p1.1, I64 p1.2.1, I64 p1.2.2.1, BB p1.2.2.2.1] 35)], []⟩) (b := decide ((32 : Int) ≤ b1)) (fun e17 => ?_) (fun e17 => ?_)
          · rw [and_t e17] at h
            refine WL_all hE [0, 3, 44] [3] [] (st' := ⟨[(0, SS s1), (3, .ptr 3 0), (44, BB (decide (b1 ≤ (126 : Int))))], [(3, .cells [I32 p1.1, I64 p1.2.1, I64 p1.2.2.1, BB p1.2.2.2.1] 35)], []⟩) (orc := []) (ob := []) (by kernel_rfl) trivial ?_
            exact hJ2 (decide (b1 ≤ (126 : Int))) h
          · rw [and_f e17] at h
            refine WL_all hE [0, 3, 44] [3] [] (st' := ⟨[(0, SS s1), (3, .ptr 3 0), (44, BB false)], [(3, .cells [I32 p1.1, I64 p1.2.1, I64 p1.2.2.1, BB p1.2.2.2.1] 35)], []⟩) (orc := []) (ob := []) (by kernel_rfl) trivial ?_
            exact hJ2 false h
      refine WL_split (fun g => ⟨[(0, SS s1), (3, .ptr 3 0), (5, U8 b1), (26, BB g)], [(3, .cells [I32 p1.1, I64 p1.2.1, I64 p1.2.2.1, BB p1.2.2.2.1] 35)], []⟩) (b := b1 == (34 : Int)) (fun e18 => ?_) (fun e18 => ?_)
      · rw [or_t e18] at h
        refine WL_all hE [0, 3, 5, 29] [3] [] (st' := ⟨[(0, SS s1), (3, .ptr 3 0), (5, U8 b1), (29, BB true)], [(3, .cells [I32 p1.1, I64 p1.2.1, I64 p1.2.2.1, BB p1.2.2.2.1] 35)], []⟩) (orc := []) (ob := []) (by kernel_rfl) trivial ?_
        exact hJ1 true h
      · rw [or_f e18] at h
        refine WL_all hE [0, 3, 5, 29] [3] [] (st' := ⟨[(0, SS s1), (3, .ptr 3 0), (5, U8 b1), (29, BB (b1 == (92 : Int)))], [(3, .cells [I32 p1.1, I64 p1.2.1, I64 p1.2.2.1, BB p1.2.2.2.1] 35)], []⟩) (orc := []) (ob := []) (by kernel_rfl) trivial ?_
        exact hJ1 (b1 == (92 : Int)) h

def C_r01_quote (k : Nat) : FnC := ⟨true, 1, [], fun | [⟨.str, s1⟩], [⟨.str, rz⟩] => r01_quote k s1 = some rz | _, _ => False⟩
noncomputable def E_r01_quote (k : Nat) : Env := ⟨Tryd.prog, Gu, 28, [(33, C_r01_All k), (57, C_r01_shown k)]⟩
theorem c_r01_quote (k : Nat) : Contract Tryd.prog Gu 44 (C_r01_quote k) := by
  refine contract_of Gu_stable (fn := Tryd.f44) Tryd.func44 (by kernel_rfl) rfl ?_ ?_
  · intro xs rs h
    unfold C_r01_quote at h
    simp only at h
    split at h
    · exact ⟨by show 1 ≤ _; rw [Tryd.ntmps44]; decide, rfl, fun _ u hu => by simp at hu; (rcases hu with rfl) <;> rfl⟩
    · exact h.elim
  · intro w0 M xs rs hG h
    unfold C_r01_quote at h
    simp only at h
    split at h
    case h_2 => exact h.elim
    rename_i s1 rz
    change List UInt8 at s1
    change List UInt8 at rz
    have hE : EnvOK (E_r01_quote k) ⟨Tryd.prog, Tryd.f44.ntmps, w0, M, fun _ => False, fun _ => undef⟩ := (EnvOK.cons (c_r01_All k) (EnvOK.cons (c_r01_shown k) (EnvOK.nil rfl Tryd.ntmps44 hG)))
    unfold r01_quote at h
    refine W_seq ?_
    refine W_region ?_
    refine WL_all hE [0] [] [] (st' := ⟨[(0, SS s1)], [], []⟩) (orc := []) (ob := []) (by kernel_rfl) trivial ?_
    refine N_then ?_
    refine W_seq ?_
    refine W_region ?_
    refine WL_all hE [0, 3] [] [6] (st' := ⟨[(0, SS s1), (3, .row 6)], [], [(6, ⟨5, (.int .u8), ([(34 : Int)] : List (Int))⟩)]⟩) (orc := []) (ob := []) (by kernel_rfl) trivial ?_
    refine N_then ?_
    refine W_seq ?_
    refine W_region ?_
    obtain ⟨v1, e1, h⟩ := bind_some h
    refine WL_all hE [0, 3, 4] [] [6] (st' := ⟨[(0, SS s1), (3, .row 6), (4, .val (.sl (.pair (.int .i32) (.pair (.int .i64) (.pair (.int .i64) (.pair .bool .unit))))) v1)], [], [(6, ⟨5, (.int .u8), ([(34 : Int)] : List (Int))⟩)]⟩) (orc := [⟨(.sl (.pair (.int .i32) (.pair (.int .i64) (.pair (.int .i64) (.pair .bool .unit))))), v1⟩]) (ob := [r01_All k s1 = some v1]) (by kernel_rfl) ⟨e1, trivial⟩ ?_
    refine N_then ?_
    refine W_seq ?_
    refine W_seq ?_
    refine W_region ?_
    refine WL_all hE [0, 3, 4, 5] [] [6] (st' := ⟨[(0, SS s1), (3, .row 6), (4, .val (.sl (.pair (.int .i32) (.pair (.int .i64) (.pair (.int .i64) (.pair .bool .unit))))) v1), (5, I64 (0 : Int))], [], [(6, ⟨5, (.int .u8), ([(34 : Int)] : List (Int))⟩)]⟩) (orc := []) (ob := []) (by kernel_rfl) trivial ?_
    refine N_then ?_
    refine W_block ?_
    refine W_loop (α := (Int × List (Int))) (fun n z => r01_quote_l1 k v1 s1 n z.1 z.2 = some rz) (fun z => ⟨[(0, SS s1), (3, .row 6), (4, .val (.sl (.pair (.int .i32) (.pair (.int .i64) (.pair (.int .i64) (.pair .bool .unit))))) v1), (5, I64 (z.1))], [], [(6, ⟨5, (.int .u8), (z.2)⟩)]⟩) ?_ (k := k) (x := ((0 : Int), ([(34 : Int)] : List (Int)))) h
    clear h
    rintro fuel1 ⟨i1, t1⟩ h
    cases fuel1 with
    | zero => exact absurd (show none = some _ from h) (by simp)
    | succ fuel1 =>
      have h : r01_quote_b1 k v1 s1 (r01_quote_l1 k v1 s1 fuel1) i1 t1 = some rz := h
      unfold r01_quote_b1 at h
      refine W_seq ?_
      refine W_seq ?_
      refine W_region ?_
      refine WL_all hE [0, 3, 4, 5, 12] [] [6] (st' := ⟨[(0, SS s1), (3, .row 6), (4, .val (.sl (.pair (.int .i32) (.pair (.int .i64) (.pair (.int .i64) (.pair .bool .unit))))) v1), (5, I64 i1), (12, BB (decide (i1 < (List.length v1 : Int))))], [], [(6, ⟨5, (.int .u8), t1⟩)]⟩) (orc := []) (ob := []) (by kernel_rfl) trivial ?_
      refine N_then ?_
      refine W_cond (b := decide (i1 < (List.length v1 : Int))) (by kernel_rfl) (fun e2 => ?_) (fun e2 => ?_)
      · replace h := ite_t e2 h
        refine W_skip ?_
        refine N_then ?_
        refine W_seq ?_
        refine W_block ?_
        refine W_region ?_
        obtain ⟨x1, e3, h⟩ := bind_some h
        obtain ⟨v2, e4, h⟩ := bind_some h
        obtain ⟨_, e5, h⟩ := bind_some h
        replace e5 := chk_some e5
        refine WL_all hE [0, 3, 4, 5] [] [6] (st' := ⟨[(0, SS s1), (3, .row 6), (4, .val (.sl (.pair (.int .i32) (.pair (.int .i64) (.pair (.int .i64) (.pair .bool .unit))))) v1), (5, I64 i1)], [], [(6, ⟨5, (.int .u8), t1 ++ (bytesEl v2)⟩)]⟩) (orc := [⟨(.pair (.int .i32) (.pair (.int .i64) (.pair (.int .i64) (.pair .bool .unit)))), x1⟩, tS v2]) (ob := [at? v1 i1 = some x1, r01_shown k s1 x1 = some v2, List.length t1 + List.length (bytesEl v2) ≤ lim]) (by kernel_rfl) ⟨e3, e4, e5, trivial⟩ ?_
        refine N_block ?_
        refine N_then ?_
        refine W_region ?_
        refine WL_all hE [0, 3, 4, 5] [] [6] (st' := ⟨[(0, SS s1), (3, .row 6), (4, .val (.sl (.pair (.int .i32) (.pair (.int .i64) (.pair (.int .i64) (.pair .bool .unit))))) v1), (5, I64 (wi64 (i1 + (1 : Int))))], [], [(6, ⟨5, (.int .u8), t1 ++ (bytesEl v2)⟩)]⟩) (orc := []) (ob := []) (by kernel_rfl) trivial ?_
        exact N_round (wi64 (i1 + (1 : Int)), t1 ++ (bytesEl v2)) (Nat.lt_succ_self _) h
      · replace h := ite_f e2 h
        refine W_exit ?_
        refine N_then_exit ?_
        refine N_then_exit ?_
        refine N_block_exit ?_
        refine N_then ?_
        refine W_seq ?_
        refine W_region ?_
        obtain ⟨_, e6, h⟩ := bind_some h
        replace e6 := chk_some e6
        refine WL_all hE [3] [] [6] (st' := ⟨[(3, .row 6)], [], [(6, ⟨5, (.int .u8), t1 ++ ([(34 : Int)] : List (Int))⟩)]⟩) (orc := []) (ob := [List.length t1 + List.length ([(34 : Int)] : List (Int)) ≤ lim]) (by kernel_rfl) ⟨e6, trivial⟩ ?_
        refine N_then ?_
        refine W_seq ?_
        refine W_region ?_
        refine WL_all hE [2] [] [] (st' := ⟨[(2, SS (bytesStr (t1 ++ ([(34 : Int)] : List (Int)))))], [], []⟩) (orc := []) (ob := []) (by kernel_rfl) trivial ?_
        refine N_then ?_
        refine W_ret ?_
        cases h
        exact N_end (.inl rfl) (by kernel_rfl)

def C_r01_Quote (k : Nat) : FnC := ⟨true, 2, [], fun | [⟨.str, s1⟩], [⟨.str, rz1⟩, ⟨(.int .i64), rz2⟩] => r01_Quote k s1 = some (rz1, rz2) | _, _ => False⟩
noncomputable def E_r01_Quote (k : Nat) : Env := ⟨Tryd.prog, Gu, 9, [(44, C_r01_quote k)]⟩
theorem c_r01_Quote (k : Nat) : Contract Tryd.prog Gu 28 (C_r01_Quote k) := by
  refine contract_of Gu_stable (fn := Tryd.f28) Tryd.func28 (by kernel_rfl) rfl ?_ ?_
  · intro xs rs h
    unfold C_r01_Quote at h
    simp only at h
    split at h
    · exact ⟨by show 1 ≤ _; rw [Tryd.ntmps28]; decide, rfl, fun _ u hu => by simp at hu; (rcases hu with rfl | rfl) <;> rfl⟩
    · exact h.elim
  · intro w0 M xs rs hG h
    unfold C_r01_Quote at h
    simp only at h
    split at h
    case h_2 => exact h.elim
    rename_i s1 rz1 rz2
    change List UInt8 at s1
    change List UInt8 at rz1
    change Int at rz2
    have hE : EnvOK (E_r01_Quote k) ⟨Tryd.prog, Tryd.f28.ntmps, w0, M, fun _ => False, fun _ => undef⟩ := (EnvOK.cons (c_r01_quote k) (EnvOK.nil rfl Tryd.ntmps28 hG))
    unfold r01_Quote at h
    refine W_seq ?_
    refine W_region ?_
    refine WL_all hE [0] [] [] (st' := ⟨[(0, SS s1)], [], []⟩) (orc := []) (ob := []) (by kernel_rfl) trivial ?_
    refine N_then ?_
    refine W_seq ?_
    refine W_seq ?_
    refine W_region ?_
    refine WL_all hE [0, 6] [] [] (st' := ⟨[(0, SS s1), (6, BB (decide ((65536 : Int) < (List.length s1 : Int))))], [], []⟩) (orc := []) (ob := []) (by kernel_rfl) trivial ?_
    refine N_then ?_
    refine W_cond (b := decide ((65536 : Int) < (List.length s1 : Int))) (by kernel_rfl) (fun e1 => ?_) (fun e1 => ?_)
    · replace h := ite_t e1 h
      refine W_seq ?_
      refine W_region ?_
      refine WL_all hE [2, 3] [] [] (st' := ⟨[(2, SS ([] : List UInt8)), (3, I64 (3 : Int))], [], []⟩) (orc := []) (ob := []) (by kernel_rfl) trivial ?_
      refine N_then ?_
      refine W_ret ?_
      refine N_then_ret ?_
      cases h
      exact N_end (.inl rfl) (by kernel_rfl)
    · replace h := ite_f e1 h
      refine W_skip ?_
      refine N_then ?_
      refine W_seq ?_
      refine W_region ?_
      obtain ⟨v1, e2, h⟩ := bind_some h
      refine WL_all hE [2, 3] [] [] (st' := ⟨[(2, SS v1), (3, I64 (0 : Int))], [], []⟩) (orc := [tS v1]) (ob := [r01_quote k s1 = some v1]) (by kernel_rfl) ⟨e2, trivial⟩ ?_
      refine N_then ?_
      refine W_ret ?_
      cases h
      exact N_end (.inl rfl) (by kernel_rfl)

def C_internal_stringslite_HasPrefix (k : Nat) : FnC := ⟨true, 1, [], fun | [⟨.str, s1⟩, ⟨.str, prefix1⟩], [⟨.bool, rz⟩] => internal_stringslite_HasPrefix k s1 prefix1 = some rz | _, _ => False⟩
noncomputable def E_internal_stringslite_HasPrefix (k : Nat) : Env := ⟨Tryd.prog, Gu, 18, []⟩
theorem c_internal_stringslite_HasPrefix (k : Nat) : Contract Tryd.prog Gu 58 (C_internal_stringslite_HasPrefix k) := by
  refine contract_of Gu_stable (fn := Tryd.f58) Tryd.func58 (by kernel_rfl) rfl ?_ ?_
  · intro xs rs h
    unfold C_internal_stringslite_HasPrefix at h
    simp only at h
    split at h
    · exact ⟨by show 2 ≤ _; rw [Tryd.ntmps58]; decide, rfl, fun _ u hu => by simp at hu; (rcases hu with rfl) <;> rfl⟩
    · exact h.elim
  · intro w0 M xs rs hG h
    unfold C_internal_stringslite_HasPrefix at h
    simp only at h
    split at h
    case h_2 => exact h.elim
    rename_i s1 prefix1 rz
    change List UInt8 at s1
    change List UInt8 at prefix1
    change Bool at rz
    have hE : EnvOK (E_internal_stringslite_HasPrefix k) ⟨Tryd.prog, Tryd.f58.ntmps, w0, M, fun _ => False, fun _ => undef⟩ := (EnvOK.nil rfl Tryd.ntmps58 hG)
    unfold internal_stringslite_HasPrefix at h
    refine W_seq ?_
    refine W_region ?_
    refine WL_all hE [0, 1] [] [] (st' := ⟨[(0, SS s1), (1, SS prefix1)], [], []⟩) (orc := []) (ob := []) (by kernel_rfl) trivial ?_
    refine N_then ?_
    refine W_seq ?_
    refine W_region ?_
    refine WL_tk hE 6 [0, 1, 10] [] [] (st' := ⟨[(0, SS s1), (1, SS prefix1), (10, BB (decide ((List.length prefix1 : Int) ≤ (List.length s1 : Int))))], [], []⟩) (orc := []) (ob := []) (by kernel_rfl) trivial ?_
    refine WL_join (α := Bool) (fun z => internal_stringslite_HasPrefix_j1 z = some rz) (fun t1 => ⟨[(17, BB t1)], [], []⟩) 7 ?_ (fun hJ1 => ?_)
    · rintro t1 h
      unfold internal_stringslite_HasPrefix_j1 at h
      refine WL_all hE [4] [] [] (st' := ⟨[(4, BB t1)], [], []⟩) (orc := []) (ob := []) (by kernel_rfl) trivial ?_
      refine N_then ?_
      refine W_ret ?_
      cases h
      exact N_end (.inl rfl) (by kernel_rfl)
    refine WL_split (fun g => ⟨[(0, SS s1), (1, SS prefix1), (10, BB g)], [], []⟩) (b := decide ((List.length prefix1 : Int) ≤ (List.length s1 : Int))) (fun e1 => ?_) (fun e1 => ?_)
    · replace h := ite_t e1 h
      obtain ⟨s2, e2, h⟩ := bind_some h
      refine WL_all hE [17] [] [] (st' := ⟨[(17, BB (s2 == prefix1))], [], []⟩) (orc := [tS s2]) (ob := [sub? s1 (0 : Int) (List.length prefix1 : Int) = some s2]) (by kernel_rfl) ⟨e2, trivial⟩ ?_
      exact hJ1 (s2 == prefix1) h
    · replace h := ite_f e1 h
      refine WL_all hE [17] [] [] (st' := ⟨[(17, BB false)], [], []⟩) (orc := []) (ob := []) (by kernel_rfl) trivial ?_
      exact hJ1 false h

def C_strings_HasPrefix (k : Nat) : FnC := ⟨true, 1, [], fun | [⟨.str, s1⟩, ⟨.str, prefix1⟩], [⟨.bool, rz⟩] => strings_HasPrefix k s1 prefix1 = some rz | _, _ => False⟩
noncomputable def E_strings_HasPrefix (k : Nat) : Env := ⟨Tryd.prog, Gu, 8, [(58, C_internal_stringslite_HasPrefix k)]⟩
theorem c_strings_HasPrefix (k : Nat) : Contract Tryd.prog Gu 45 (C_strings_HasPrefix k) := by
  refine contract_of Gu_stable (fn := Tryd.f45) Tryd.func45 (by kernel_rfl) rfl ?_ ?_
  · intro xs rs h
    unfold C_strings_HasPrefix at h
    simp only at h
    split at h
    · exact ⟨by show 2 ≤ _; rw [Tryd.ntmps45]; decide, rfl, fun _ u hu => by simp at hu; (rcases hu with rfl) <;> rfl⟩
    · exact h.elim
  · intro w0 M xs rs hG h
    unfold C_strings_HasPrefix at h
    simp only at h
    split at h
    case h_2 => exact h.elim
    rename_i s1 prefix1 rz
    change List UInt8 at s1
    change List UInt8 at prefix1
    change Bool at rz
    have hE : EnvOK (E_strings_HasPrefix k) ⟨Tryd.prog, Tryd.f45.ntmps, w0, M, fun _ => False, fun _ => undef⟩ := (EnvOK.cons (c_internal_stringslite_HasPrefix k) (EnvOK.nil rfl Tryd.ntmps45 hG))
    unfold strings_HasPrefix at h
    refine W_seq ?_
    refine W_region ?_
    refine WL_all hE [0, 1] [] [] (st' := ⟨[(0, SS s1), (1, SS prefix1)], [], []⟩) (orc := []) (ob := []) (by kernel_rfl) trivial ?_
    refine N_then ?_
    refine W_seq ?_
    refine W_region ?_
    obtain ⟨v1, e1, h⟩ := bind_some h
    refine WL_all hE [4] [] [] (st' := ⟨[(4, BB v1)], [], []⟩) (orc := [tB v1]) (ob := [internal_stringslite_HasPrefix k s1 prefix1 = some v1]) (by kernel_rfl) ⟨e1, trivial⟩ ?_
    refine N_then ?_
    refine W_ret ?_
    cases h
    exact N_end (.inl rfl) (by kernel_rfl)

def C_strings_trimLeftByte (k : Nat) : FnC := ⟨true, 1, [], fun | [⟨.str, s1⟩, ⟨(.int .u8), c1⟩], [⟨.str, rz⟩] => strings_trimLeftByte k s1 c1 = some rz | _, _ => False⟩
noncomputable def E_strings_trimLeftByte (k : Nat) : Env := ⟨Tryd.prog, Gu, 17, []⟩
theorem c_strings_trimLeftByte (k : Nat) : Contract Tryd.prog Gu 69 (C_strings_trimLeftByte k) := by
  refine contract_of Gu_stable (fn := Tryd.f69) Tryd.func69 (by kernel_rfl) rfl ?_ ?_
  · intro xs rs h
    unfold C_strings_trimLeftByte at h
    simp only at h
    split at h
    · exact ⟨by show 2 ≤ _; rw [Tryd.ntmps69]; decide, rfl, fun _ u hu => by simp at hu; (rcases hu with rfl) <;> rfl⟩
    · exact h.elim
  · intro w0 M xs rs hG h
    unfold C_strings_trimLeftByte at h
    simp only at h
    split at h
    case h_2 => exact h.elim
    rename_i s1 c1 rz
    change List UInt8 at s1
    change Int at c1
    change List UInt8 at rz
    have hE : EnvOK (E_strings_trimLeftByte k) ⟨Tryd.prog, Tryd.f69.ntmps, w0, M, fun _ => False, fun _ => undef⟩ := (EnvOK.nil rfl Tryd.ntmps69 hG)
    unfold strings_trimLeftByte at h
    refine W_seq ?_
    refine W_region ?_
    refine WL_all hE [0, 1] [] [] (st' := ⟨[(0, SS s1), (1, U8 c1)], [], []⟩) (orc := []) (ob := []) (by kernel_rfl) trivial ?_
    refine N_then ?_
    refine W_seq ?_
    refine W_block ?_
    refine W_loop (α := List UInt8) (fun n z => strings_trimLeftByte_l1 c1 n z = some rz) (fun s2 => ⟨[(0, SS s2), (1, U8 c1)], [], []⟩) ?_ (k := k) (x := s1) h
    clear h
    rintro fuel1 s2 h
    cases fuel1 with
    | zero => exact absurd (show none = some _ from h) (by simp)
    | succ fuel1 =>
      have h : strings_trimLeftByte_b1 c1 (strings_trimLeftByte_l1 c1 fuel1) s2 = some rz := h
      unfold strings_trimLeftByte_b1 at h
      refine W_seq ?_
      refine W_seq ?_
      refine W_region ?_
      refine WL_tk hE 4 [0, 1, 8] [] [] (st' := ⟨[(0, SS s2), (1, U8 c1), (8, BB (decide ((0 : Int) < (List.length s2 : Int))))], [], []⟩) (orc := []) (ob := []) (by kernel_rfl) trivial ?_
      refine WL_join (α := Bool) (fun z => strings_trimLeftByte_j1 s2 (strings_trimLeftByte_l1 c1 fuel1) z = some rz) (fun t1 => ⟨[(0, SS s2), (1, U8 c1), (13, BB t1)], [], []⟩) 5 ?_ (fun hJ1 => ?_)
      · rintro t1 h
        unfold strings_trimLeftByte_j1 at h
        refine WL_nil ?_
        refine N_then ?_
        refine W_cond (b := t1) (by kernel_rfl) (fun e1 => ?_) (fun e1 => ?_)
        · replace h := ite_t e1 h
          refine W_skip ?_
          refine N_then ?_
          refine W_block ?_
          refine W_region ?_
          obtain ⟨s3, e2, h⟩ := bind_some h
          refine WL_all hE [0, 1] [] [] (st' := ⟨[(0, SS s3), (1, U8 c1)], [], []⟩) (orc := [tS s3]) (ob := [sub? s2 (1 : Int) (s2.length : Int) = some s3]) (by kernel_rfl) ⟨e2, trivial⟩ ?_
          refine N_block ?_
          exact N_round s3 (Nat.lt_succ_self _) h
        · replace h := ite_f e1 h
          refine W_exit ?_
          refine N_then_exit ?_
          refine N_then_exit ?_
          refine N_block_exit ?_
          refine N_then ?_
          refine W_seq ?_
          refine W_region ?_
          refine WL_all hE [4] [] [] (st' := ⟨[(4, SS s2)], [], []⟩) (orc := []) (ob := []) (by kernel_rfl) trivial ?_
          refine N_then ?_
          refine W_ret ?_
          cases h
          exact N_end (.inl rfl) (by kernel_rfl)
      refine WL_split (fun g => ⟨[(0, SS s2), (1, U8 c1), (8, BB g)], [], []⟩) (b := decide ((0 : Int) < (List.length s2 : Int))) (fun e3 => ?_) (fun e3 => ?_)
      · replace h := ite_t e3 h
        obtain ⟨b1, e4, h⟩ := bind_some h
        refine WL_all hE [0, 1, 13] [] [] (st' := ⟨[(0, SS s2), (1, U8 c1), (13, BB (b1 == c1))], [], []⟩) (orc := [tU8 b1]) (ob := [byteAt s2 (0 : Int) = some b1]) (by kernel_rfl) ⟨e4, trivial⟩ ?_
        exact hJ1 (b1 == c1) h
      · replace h := ite_f e3 h
        refine WL_all hE [0, 1, 13] [] [] (st' := ⟨[(0, SS s2), (1, U8 c1), (13, BB false)], [], []⟩) (orc := []) (ob := []) (by kernel_rfl) trivial ?_
        exact hJ1 false h

def C_strings_makeASCIISet (k : Nat) : FnC := ⟨true, 2, [], fun | [⟨.str, chars1⟩], [⟨(.arr 256 .bool), rz1⟩, ⟨.bool, rz2⟩] => strings_makeASCIISet k chars1 = some (rz1, rz2) | _, _ => False⟩
noncomputable def E_strings_makeASCIISet (k : Nat) : Env := ⟨Tryd.prog, Gu, 21, []⟩
theorem c_strings_makeASCIISet (k : Nat) : Contract Tryd.prog Gu 70 (C_strings_makeASCIISet k) := by
  refine contract_of Gu_stable (fn := Tryd.f70) Tryd.func70 (by kernel_rfl) rfl ?_ ?_
  · intro xs rs h
    unfold C_strings_makeASCIISet at h
    simp only at h
    split at h
    · exact ⟨by show 1 ≤ _; rw [Tryd.ntmps70]; decide, rfl, fun _ u hu => by simp at hu; (rcases hu with rfl | rfl) <;> rfl⟩
    · exact h.elim
  · intro w0 M xs rs hG h
    unfold C_strings_makeASCIISet at h
    simp only at h
    split at h
    case h_2 => exact h.elim
    rename_i chars1 rz1 rz2
    change List UInt8 at chars1
    change List (Bool) at rz1
    change Bool at rz2
    have hE : EnvOK (E_strings_makeASCIISet k) ⟨Tryd.prog, Tryd.f70.ntmps, w0, M, fun _ => False, fun _ => undef⟩ := (EnvOK.nil rfl Tryd.ntmps70 hG)
    unfold strings_makeASCIISet at h
    refine W_seq ?_
    refine W_region ?_
    refine WL_all hE [0, 2] [2] [] (st' := ⟨[(0, SS chars1), (2, .bp 2 [])], [(2, .blk (.arr 256 .bool) (List.replicate 256 false) 92)], []⟩) (orc := []) (ob := []) (by kernel_rfl) trivial ?_
    refine N_then ?_
    refine W_seq ?_
    refine W_seq ?_
    refine W_region ?_
    refine WL_all hE [0, 2, 4] [2] [] (st' := ⟨[(0, SS chars1), (2, .bp 2 []), (4, I64 (0 : Int))], [(2, .blk (.arr 256 .bool) (List.replicate 256 false) 92)], []⟩) (orc := []) (ob := []) (by kernel_rfl) trivial ?_
    refine N_then ?_
    refine W_block ?_
    refine W_loop (α := (Int × List (Bool))) (fun n z => strings_makeASCIISet_l1 chars1 n z.1 z.2 = some (rz1, rz2)) (fun z => ⟨[(0, SS chars1), (2, .bp 2 []), (4, I64 (z.1))], [(2, .blk (.arr 256 .bool) (z.2) 92)], []⟩) ?_ (k := k) (x := ((0 : Int), (List.replicate 256 false))) h
    clear h
    rintro fuel1 ⟨i1, blk1⟩ h
    cases fuel1 with
    | zero => exact absurd (show none = some _ from h) (by simp)
    | succ fuel1 =>
      have h : strings_makeASCIISet_b1 chars1 (strings_makeASCIISet_l1 chars1 fuel1) i1 blk1 = some (rz1, rz2) := h
      unfold strings_makeASCIISet_b1 at h
      refine W_seq ?_
      refine W_seq ?_
      refine W_region ?_
      refine WL_all hE [0, 2, 4, 9] [2] [] (st' := ⟨[(0, SS chars1), (2, .bp 2 []), (4, I64 i1), (9, BB (decide (i1 < (List.length chars1 : Int))))], [(2, .blk (.arr 256 .bool) blk1 92)], []⟩) (orc := []) (ob := []) (by kernel_rfl) trivial ?_
      refine N_then ?_
      refine W_cond (b := decide (i1 < (List.length chars1 : Int))) (by kernel_rfl) (fun e1 => ?_) (fun e1 => ?_)
      · replace h := ite_t e1 h
        refine W_skip ?_
        refine N_then ?_
        refine W_seq ?_
        refine W_block ?_
        refine W_seq ?_
        refine W_region ?_
        obtain ⟨b1, e2, h⟩ := bind_some h
        refine WL_all hE [0, 2, 4, 5] [2] [] (st' := ⟨[(0, SS chars1), (2, .bp 2 []), (4, I64 i1), (5, U8 b1)], [(2, .blk (.arr 256 .bool) blk1 92)], []⟩) (orc := [tU8 b1]) (ob := [byteAt chars1 i1 = some b1]) (by kernel_rfl) ⟨e2, trivial⟩ ?_
        refine N_then ?_
        refine W_seq ?_
        refine W_seq ?_
        refine W_region ?_
        refine WL_all hE [0, 2, 4, 5, 16] [2] [] (st' := ⟨[(0, SS chars1), (2, .bp 2 []), (4, I64 i1), (5, U8 b1), (16, BB (decide ((128 : Int) ≤ b1)))], [(2, .blk (.arr 256 .bool) blk1 92)], []⟩) (orc := []) (ob := []) (by kernel_rfl) trivial ?_
        refine N_then ?_
        refine W_cond (b := decide ((128 : Int) ≤ b1)) (by kernel_rfl) (fun e3 => ?_) (fun e3 => ?_)
        · replace h := ite_t e3 h
          refine W_seq ?_
          refine W_region ?_
          refine WL_all hE [2, 3] [2] [] (st' := ⟨[(2, .bp 2 []), (3, BB false)], [(2, .blk (.arr 256 .bool) blk1 92)], []⟩) (orc := []) (ob := []) (by kernel_rfl) trivial ?_
          refine N_then ?_
          refine W_ret ?_
          refine N_then_ret ?_
          refine N_block_ret ?_
          refine N_then_ret ?_
          refine N_then_ret ?_
          refine N_block_ret ?_
          refine N_then_ret ?_
          cases h
          exact N_end (.inl rfl) (by kernel_rfl)
        · replace h := ite_f e3 h
          refine W_skip ?_
          refine N_then ?_
          refine W_region ?_
          obtain ⟨_, e5, h⟩ := bind_some h
          replace e5 := chk_some e5
          obtain ⟨x1, e4, h⟩ := bind_some h
          refine WL_all hE [0, 2, 4] [2] [] (st' := ⟨[(0, SS chars1), (2, .bp 2 []), (4, I64 i1)], [(2, .blk (.arr 256 .bool) (List.set blk1 (b1).toNat true) 92)], []⟩) (orc := [tB x1]) (ob := [0 ≤ b1 ∧ b1 < (256 : Int), at? blk1 b1 = some x1]) (by kernel_rfl) ⟨e5, e4, trivial⟩ ?_
          refine N_block ?_
          refine N_then ?_
          refine W_region ?_
          refine WL_all hE [0, 2, 4] [2] [] (st' := ⟨[(0, SS chars1), (2, .bp 2 []), (4, I64 (wi64 (i1 + (1 : Int))))], [(2, .blk (.arr 256 .bool) (List.set blk1 (b1).toNat true) 92)], []⟩) (orc := []) (ob := []) (by kernel_rfl) trivial ?_
          exact N_round (wi64 (i1 + (1 : Int)), List.set blk1 (b1).toNat true) (Nat.lt_succ_self _) h
      · replace h := ite_f e1 h
        refine W_exit ?_
        refine N_then_exit ?_
        refine N_then_exit ?_
        refine N_block_exit ?_
        refine N_then ?_
        refine W_seq ?_
        refine W_region ?_
        refine WL_all hE [2, 3] [2] [] (st' := ⟨[(2, .bp 2 []), (3, BB true)], [(2, .blk (.arr 256 .bool) blk1 92)], []⟩) (orc := []) (ob := []) (by kernel_rfl) trivial ?_
        refine N_then ?_
        refine W_ret ?_
        cases h
        exact N_end (.inl rfl) (by kernel_rfl)

def C_strings_asciiSet_contains (k : Nat) : FnC := ⟨true, 1, [], fun | [⟨(.ptr (.arr 256 .bool)), as1⟩, ⟨(.int .u8), c1⟩], [⟨.bool, rz⟩] => strings_asciiSet_contains k as1 c1 = some rz | _, _ => False⟩
noncomputable def E_strings_asciiSet_contains (k : Nat) : Env := ⟨Tryd.prog, Gu, 10, []⟩
theorem c_strings_asciiSet_contains (k : Nat) : Contract Tryd.prog Gu 78 (C_strings_asciiSet_contains k) := by
  refine contract_of Gu_stable (fn := Tryd.f78) Tryd.func78 (by kernel_rfl) rfl ?_ ?_
  · intro xs rs h
    unfold C_strings_asciiSet_contains at h
    simp only at h
    split at h
    · exact ⟨by show 2 ≤ _; rw [Tryd.ntmps78]; decide, rfl, fun _ u hu => by simp at hu; (rcases hu with rfl) <;> rfl⟩
    · exact h.elim
  · intro w0 M xs rs hG h
    unfold C_strings_asciiSet_contains at h
    simp only at h
    split at h
    case h_2 => exact h.elim
    rename_i as1 c1 rz
    change List (Bool) at as1
    change Int at c1
    change Bool at rz
    have hE : EnvOK (E_strings_asciiSet_contains k) ⟨Tryd.prog, Tryd.f78.ntmps, w0, M, fun _ => False, fun _ => undef⟩ := (EnvOK.nil rfl Tryd.ntmps78 hG)
    unfold strings_asciiSet_contains at h
    refine W_seq ?_
    refine W_region ?_
    refine WL_all hE [0, 1] [] [] (st' := ⟨[(0, .vptr (.arr 256 .bool) as1), (1, U8 c1)], [], []⟩) (orc := []) (ob := []) (by kernel_rfl) trivial ?_
    refine N_then ?_
    refine W_seq ?_
    refine W_region ?_
    obtain ⟨x1, e1, h⟩ := bind_some h
    refine WL_all hE [4] [] [] (st' := ⟨[(4, BB x1)], [], []⟩) (orc := [tB x1]) (ob := [at? as1 c1 = some x1]) (by kernel_rfl) ⟨e1, trivial⟩ ?_
    refine N_then ?_
    refine W_ret ?_
    cases h
    exact N_end (.inl rfl) (by kernel_rfl)

def C_strings_trimLeftASCII (k : Nat) : FnC := ⟨true, 1, [], fun | [⟨.str, s1⟩, ⟨(.ptr (.arr 256 .bool)), as1⟩], [⟨.str, rz⟩] => strings_trimLeftASCII k s1 as1 = some rz | _, _ => False⟩
noncomputable def E_strings_trimLeftASCII (k : Nat) : Env := ⟨Tryd.prog, Gu, 16, [(78, C_strings_asciiSet_contains k)]⟩
theorem c_strings_trimLeftASCII (k : Nat) : Contract Tryd.prog Gu 71 (C_strings_trimLeftASCII k) := by
  refine contract_of Gu_stable (fn := Tryd.f71) Tryd.func71 (by kernel_rfl) rfl ?_ ?_
  · intro xs rs h
    unfold C_strings_trimLeftASCII at h
    simp only at h
    split at h
    · exact ⟨by show 2 ≤ _; rw [Tryd.ntmps71]; decide, rfl, fun _ u hu => by simp at hu; (rcases hu with rfl) <;> rfl⟩
    · exact h.elim
  · intro w0 M xs rs hG h
    unfold C_strings_trimLeftASCII at h
    simp only at h
    split at h
    case h_2 => exact h.elim
    rename_i s1 as1 rz
    change List UInt8 at s1
    change List (Bool) at as1
    change List UInt8 at rz
    have hE : EnvOK (E_strings_trimLeftASCII k) ⟨Tryd.prog, Tryd.f71.ntmps, w0, M, fun _ => False, fun _ => undef⟩ := (EnvOK.cons (c_strings_asciiSet_contains k) (EnvOK.nil rfl Tryd.ntmps71 hG))
    unfold strings_trimLeftASCII at h
    refine W_seq ?_
    refine W_region ?_
    refine WL_all hE [0, 1] [] [] (st' := ⟨[(0, SS s1), (1, .vptr (.arr 256 .bool) as1)], [], []⟩) (orc := []) (ob := []) (by kernel_rfl) trivial ?_
    refine N_then ?_
    refine W_join (α := List UInt8) (fun z => strings_trimLeftASCII_j1 z = some rz) (fun s2 => ⟨[(0, SS s2)], [], []⟩) ?_ (fun hJ1 => ?_)
    · rintro s2 h
      unfold strings_trimLeftASCII_j1 at h
      refine W_seq ?_
      refine W_region ?_
      refine WL_all hE [4] [] [] (st' := ⟨[(4, SS s2)], [], []⟩) (orc := []) (ob := []) (by kernel_rfl) trivial ?_
      refine N_then ?_
      refine W_ret ?_
      cases h
      exact N_end (.inl rfl) (by kernel_rfl)
    refine W_block ?_
    refine W_loop (α := List UInt8) (fun n z => strings_trimLeftASCII_l1 k as1 n z = some rz) (fun s3 => ⟨[(0, SS s3), (1, .vptr (.arr 256 .bool) as1)], [], []⟩) ?_ (k := k) (x := s1) h
    clear h
    rintro fuel1 s3 h
    cases fuel1 with
    | zero => exact absurd (show none = some _ from h) (by simp)
    | succ fuel1 =>
      have h : strings_trimLeftASCII_b1 k as1 (strings_trimLeftASCII_l1 k as1 fuel1) s3 = some rz := h
      unfold strings_trimLeftASCII_b1 at h
      refine W_seq ?_
      refine W_seq ?_
      refine W_region ?_
      refine WL_all hE [0, 1, 7] [] [] (st' := ⟨[(0, SS s3), (1, .vptr (.arr 256 .bool) as1), (7, BB (decide ((0 : Int) < (List.length s3 : Int))))], [], []⟩) (orc := []) (ob := []) (by kernel_rfl) trivial ?_
      refine N_then ?_
      refine W_cond (b := decide ((0 : Int) < (List.length s3 : Int))) (by kernel_rfl) (fun e1 => ?_) (fun e1 => ?_)
      · replace h := ite_t e1 h
        refine W_skip ?_
        refine N_then ?_
        refine W_block ?_
        refine W_seq ?_
        refine W_seq ?_
        refine W_region ?_
        obtain ⟨b1, e2, h⟩ := bind_some h
        obtain ⟨v1, e3, h⟩ := bind_some h
        refine WL_all hE [0, 1, 12] [] [] (st' := ⟨[(0, SS s3), (1, .vptr (.arr 256 .bool) as1), (12, BB (!v1))], [], []⟩) (orc := [tU8 b1, tB v1]) (ob := [byteAt s3 (0 : Int) = some b1, strings_asciiSet_contains k as1 b1 = some v1]) (by kernel_rfl) ⟨e2, e3, trivial⟩ ?_
        refine N_then ?_
        refine W_cond (b := !v1) (by kernel_rfl) (fun e4 => ?_) (fun e4 => ?_)
        · replace h := ite_t e4 h
          refine W_exit ?_
          refine N_then_exit ?_
          refine N_block_out rfl ?_
          refine N_then_exit ?_
          refine N_block_exit ?_
          refine N.norm (st' := ⟨[(0, SS s3)], [], []⟩) (ks := [0]) (bs := []) (rs := []) ?_ (by kernel_rfl)
          exact hJ1 s3 h
        · replace h := ite_f e4 h
          refine W_skip ?_
          refine N_then ?_
          refine W_region ?_
          obtain ⟨s4, e5, h⟩ := bind_some h
          refine WL_all hE [0, 1] [] [] (st' := ⟨[(0, SS s4), (1, .vptr (.arr 256 .bool) as1)], [], []⟩) (orc := [tS s4]) (ob := [sub? s3 (1 : Int) (s3.length : Int) = some s4]) (by kernel_rfl) ⟨e5, trivial⟩ ?_
          refine N_block ?_
          exact N_round s4 (Nat.lt_succ_self _) h
      · replace h := ite_f e1 h
        refine W_exit ?_
        refine N_then_exit ?_
        refine N_then_exit ?_
        refine N_block_exit ?_
        refine N.norm (st' := ⟨[(0, SS s3)], [], []⟩) (ks := [0]) (bs := []) (rs := []) ?_ (by kernel_rfl)
        exact hJ1 s3 h

def C_strings_trimLeftUnicode (k : Nat) : FnC := ⟨true, 1, [], fun | [⟨.str, s1⟩, ⟨.str, cutset1⟩], [⟨.str, rz⟩] => strings_trimLeftUnicode k s1 cutset1 = some rz | _, _ => False⟩
noncomputable def E_strings_trimLeftUnicode (k : Nat) : Env := ⟨Tryd.prog, Gu, 23, []⟩
theorem c_strings_trimLeftUnicode (k : Nat) : Contract Tryd.prog Gu 72 (C_strings_trimLeftUnicode k) := by
  refine contract_of Gu_stable (fn := Tryd.f72) Tryd.func72 (by kernel_rfl) rfl ?_ ?_
  · intro xs rs h
    unfold C_strings_trimLeftUnicode at h
    simp only at h
    split at h
    · exact ⟨by show 2 ≤ _; rw [Tryd.ntmps72]; decide, rfl, fun _ u hu => by simp at hu; (rcases hu with rfl) <;> rfl⟩
    · exact h.elim
  · intro w0 M xs rs hG h
    unfold C_strings_trimLeftUnicode at h
    simp only at h
    split at h
    case h_2 => exact h.elim
    rename_i s1 cutset1 rz
    change List UInt8 at s1
    change List UInt8 at cutset1
    change List UInt8 at rz
    have hE : EnvOK (E_strings_trimLeftUnicode k) ⟨Tryd.prog, Tryd.f72.ntmps, w0, M, fun _ => False, fun _ => undef⟩ := (EnvOK.nil rfl Tryd.ntmps72 hG)
    unfold strings_trimLeftUnicode at h
    cases h

def C_strings_TrimLeft (k : Nat) : FnC := ⟨true, 1, [], fun | [⟨.str, s1⟩, ⟨.str, cutset1⟩], [⟨.str, rz⟩] => strings_TrimLeft k s1 cutset1 = some rz | _, _ => False⟩
noncomputable def E_strings_TrimLeft (k : Nat) : Env := ⟨Tryd.prog, Gu, 37, [(69, C_strings_trimLeftByte k), (70, C_strings_makeASCIISet k), (71, C_strings_trimLeftASCII k), (72, C_strings_trimLeftUnicode k)]⟩
theorem c_strings_TrimLeft (k : Nat) : Contract Tryd.prog Gu 59 (C_strings_TrimLeft k) := by
  refine contract_of Gu_stable (fn := Tryd.f59) Tryd.func59 (by kernel_rfl) rfl ?_ ?_
  · intro xs rs h
    unfold C_strings_TrimLeft at h
    simp only at h
    split at h
    · exact ⟨by show 2 ≤ _; rw [Tryd.ntmps59]; decide, rfl, fun _ u hu => by simp at hu; (rcases hu with rfl) <;> rfl⟩
    · exact h.elim
  · intro w0 M xs rs hG h
    unfold C_strings_TrimLeft at h
    simp only at h
    split at h
    case h_2 => exact h.elim
    rename_i s1 cutset1 rz
    change List UInt8 at s1
    change List UInt8 at cutset1
    change List UInt8 at rz
    have hE : EnvOK (E_strings_TrimLeft k) ⟨Tryd.prog, Tryd.f59.ntmps, w0, M, fun _ => False, fun _ => undef⟩ := (EnvOK.cons (c_strings_trimLeftByte k) (EnvOK.cons (c_strings_makeASCIISet k) (EnvOK.cons (c_strings_trimLeftASCII k) (EnvOK.cons (c_strings_trimLeftUnicode k) (EnvOK.nil rfl Tryd.ntmps59 hG)))))
    unfold strings_TrimLeft at h
    refine W_seq ?_
    refine W_region ?_
    refine WL_all hE [0, 1] [] [] (st' := ⟨[(0, SS s1), (1, SS cutset1)], [], []⟩) (orc := []) (ob := []) (by kernel_rfl) trivial ?_
    refine N_then ?_
    refine W_seq ?_
    refine W_seq ?_
    refine W_region ?_
    refine WL_tk hE 3 [0, 1, 9] [] [] (st' := ⟨[(0, SS s1), (1, SS cutset1), (9, BB (s1 == ([] : List UInt8)))], [], []⟩) (orc := []) (ob := []) (by kernel_rfl) trivial ?_
    refine WL_join (α := Bool) (fun z => strings_TrimLeft_j1 k s1 cutset1 z = some rz) (fun t1 => ⟨[(0, SS s1), (1, SS cutset1), (12, BB t1)], [], []⟩) 3 ?_ (fun hJ1 => ?_)
    · rintro t1 h
      unfold strings_TrimLeft_j1 at h
      refine WL_nil ?_
      refine N_then ?_
      refine W_cond (b := t1) (by kernel_rfl) (fun e1 => ?_) (fun e1 => ?_)
      · replace h := ite_t e1 h
        refine W_seq ?_
        refine W_region ?_
        refine WL_all hE [4] [] [] (st' := ⟨[(4, SS s1)], [], []⟩) (orc := []) (ob := []) (by kernel_rfl) trivial ?_
        refine N_then ?_
        refine W_ret ?_
        refine N_then_ret ?_
        cases h
        exact N_end (.inl rfl) (by kernel_rfl)
      · replace h := ite_f e1 h
        refine W_skip ?_
        refine N_then ?_
        refine W_seq ?_
        refine W_seq ?_
        refine W_region ?_
        refine WL_tk hE 4 [0, 1, 17] [] [] (st' := ⟨[(0, SS s1), (1, SS cutset1), (17, BB ((List.length cutset1 : Int) == (1 : Int)))], [], []⟩) (orc := []) (ob := []) (by kernel_rfl) trivial ?_
        refine WL_join (α := Bool) (fun z => strings_TrimLeft_j2 k cutset1 s1 z = some rz) (fun t2 => ⟨[(0, SS s1), (1, SS cutset1), (21, BB t2)], [], []⟩) 4 ?_ (fun hJ2 => ?_)
        · rintro t2 h
          unfold strings_TrimLeft_j2 at h
          refine WL_nil ?_
          refine N_then ?_
          refine W_cond (b := t2) (by kernel_rfl) (fun e2 => ?_) (fun e2 => ?_)
          · replace h := ite_t e2 h
            refine W_seq ?_
            refine W_region ?_
            obtain ⟨b1, e3, h⟩ := bind_some h
            obtain ⟨v1, e4, h⟩ := bind_some h
            refine WL_all hE [4] [] [] (st' := ⟨[(4, SS v1)], [], []⟩) (orc := [tU8 b1, tS v1]) (ob := [byteAt cutset1 (0 : Int) = some b1, strings_trimLeftByte k s1 b1 = some v1]) (by kernel_rfl) ⟨e3, e4, trivial⟩ ?_
            refine N_then ?_
            refine W_ret ?_
            refine N_then_ret ?_
            cases h
            exact N_end (.inl rfl) (by kernel_rfl)
          · replace h := ite_f e2 h
            refine W_skip ?_
            refine N_then ?_
            refine W_seq ?_
            refine W_seq ?_
            refine W_region ?_
            obtain ⟨v2, e5, h⟩ := bind_some h
            refine WL_all hE [0, 1, 5, 6] [5] [] (st' := ⟨[(0, SS s1), (1, SS cutset1), (5, .bp 5 []), (6, BB v2.2)], [(5, .blk (.arr 256 .bool) v2.1 92)], []⟩) (orc := [⟨(.arr 256 .bool), v2.1⟩, tB v2.2]) (ob := [strings_makeASCIISet k cutset1 = some ((v2).1, (v2).2)]) (by kernel_rfl) ⟨e5, trivial⟩ ?_
            refine N_then ?_
            refine W_seq ?_
            refine W_region ?_
            refine WL_all hE [0, 1, 5, 31] [5] [] (st' := ⟨[(0, SS s1), (1, SS cutset1), (5, .bp 5 []), (31, BB v2.2)], [(5, .blk (.arr 256 .bool) v2.1 92)], []⟩) (orc := []) (ob := []) (by kernel_rfl) trivial ?_
            refine N_then ?_
            refine W_cond (b := v2.2) (by kernel_rfl) (fun e6 => ?_) (fun e6 => ?_)
            · replace h := ite_t e6 h
              refine W_seq ?_
              refine W_region ?_
              obtain ⟨v3, e7, h⟩ := bind_some h
              refine WL_all hE [4] [] [] (st' := ⟨[(4, SS v3)], [], []⟩) (orc := [tS v3]) (ob := [strings_trimLeftASCII k s1 v2.1 = some v3]) (by kernel_rfl) ⟨e7, trivial⟩ ?_
              refine N_then ?_
              refine W_ret ?_
              refine N_then_ret ?_
              cases h
              exact N_end (.inl rfl) (by kernel_rfl)
            · replace h := ite_f e6 h
              refine W_skip ?_
              refine N_then ?_
              refine W_seq ?_
              refine W_region ?_
              obtain ⟨v4, e8, h⟩ := bind_some h
              refine WL_all hE [4] [] [] (st' := ⟨[(4, SS v4)], [], []⟩) (orc := [tS v4]) (ob := [strings_trimLeftUnicode k s1 cutset1 = some v4]) (by kernel_rfl) ⟨e8, trivial⟩ ?_
              refine N_then ?_
              refine W_ret ?_
              cases h
              exact N_end (.inl rfl) (by kernel_rfl)
        refine WL_split (fun g => ⟨[(0, SS s1), (1, SS cutset1), (17, BB g)], [], []⟩) (b := (List.length cutset1 : Int) == (1 : Int)) (fun e9 => ?_) (fun e9 => ?_)
        · replace h := ite_t e9 h
          obtain ⟨b2, e10, h⟩ := bind_some h
          refine WL_all hE [0, 1, 21] [] [] (st' := ⟨[(0, SS s1), (1, SS cutset1), (21, BB (decide (b2 < (128 : Int))))], [], []⟩) (orc := [tU8 b2]) (ob := [byteAt cutset1 (0 : Int) = some b2]) (by kernel_rfl) ⟨e10, trivial⟩ ?_
          exact hJ2 (decide (b2 < (128 : Int))) h
        · replace h := ite_f e9 h
          refine WL_all hE [0, 1, 21] [] [] (st' := ⟨[(0, SS s1), (1, SS cutset1), (21, BB false)], [], []⟩) (orc := []) (ob := []) (by kernel_rfl) trivial ?_
          exact hJ2 false h
    refine WL_split (fun g => ⟨[(0, SS s1), (1, SS cutset1), (9, BB g)], [], []⟩) (b := s1 == ([] : List UInt8)) (fun e11 => ?_) (fun e11 => ?_)
    · rw [or_t e11] at h
      refine WL_all hE [0, 1, 12] [] [] (st' := ⟨[(0, SS s1), (1, SS cutset1), (12, BB true)], [], []⟩) (orc := []) (ob := []) (by kernel_rfl) trivial ?_
      exact hJ1 true h
    · rw [or_f e11] at h
      refine WL_all hE [0, 1, 12] [] [] (st' := ⟨[(0, SS s1), (1, SS cutset1), (12, BB (cutset1 == ([] : List UInt8)))], [], []⟩) (orc := []) (ob := []) (by kernel_rfl) trivial ?_
      exact hJ1 (cutset1 == ([] : List UInt8)) h

def C_internal_strconv_lower (k : Nat) : FnC := ⟨true, 1, [], fun | [⟨(.int .u8), c1⟩], [⟨(.int .u8), rz⟩] => internal_strconv_lower k c1 = some rz | _, _ => False⟩
noncomputable def E_internal_strconv_lower (k : Nat) : Env := ⟨Tryd.prog, Gu, 5, []⟩
theorem c_internal_strconv_lower (k : Nat) : Contract Tryd.prog Gu 80 (C_internal_strconv_lower k) := by
  refine contract_of Gu_stable (fn := Tryd.f80) Tryd.func80 (by kernel_rfl) rfl ?_ ?_
  · intro xs rs h
    unfold C_internal_strconv_lower at h
    simp only at h
    split at h
    · exact ⟨by show 1 ≤ _; rw [Tryd.ntmps80]; decide, rfl, fun _ u hu => by simp at hu; (rcases hu with rfl) <;> rfl⟩
    · exact h.elim
  · intro w0 M xs rs hG h
    unfold C_internal_strconv_lower at h
    simp only at h
    split at h
    case h_2 => exact h.elim
    rename_i c1 rz
    change Int at c1
    change Int at rz
    have hE : EnvOK (E_internal_strconv_lower k) ⟨Tryd.prog, Tryd.f80.ntmps, w0, M, fun _ => False, fun _ => undef⟩ := (EnvOK.nil rfl Tryd.ntmps80 hG)
    unfold internal_strconv_lower at h
    refine W_seq ?_
    refine W_region ?_
    refine WL_all hE [0] [] [] (st' := ⟨[(0, U8 c1)], [], []⟩) (orc := []) (ob := []) (by kernel_rfl) trivial ?_
    refine N_then ?_
    refine W_seq ?_
    refine W_region ?_
    refine WL_all hE [2] [] [] (st' := ⟨[(2, U8 (wu8 (BitVec.toNat (BitVec.ofInt 8 c1 ||| BitVec.ofInt 8 (32 : Int)))))], [], []⟩) (orc := []) (ob := []) (by kernel_rfl) trivial ?_
    refine N_then ?_
    refine W_ret ?_
    cases h
    exact N_end (.inl rfl) (by kernel_rfl)

def C_internal_strconv_underscoreOK (k : Nat) : FnC := ⟨true, 1, [], fun | [⟨.str, s1⟩], [⟨.bool, rz⟩] => internal_strconv_underscoreOK k s1 = some rz | _, _ => False⟩
noncomputable def E_internal_strconv_underscoreOK (k : Nat) : Env := ⟨Tryd.prog, Gu, 94, [(80, C_internal_strconv_lower k)]⟩
theorem c_internal_strconv_underscoreOK (k : Nat) : Contract Tryd.prog Gu 81 (C_internal_strconv_underscoreOK k) := by
  refine contract_of Gu_stable (fn := Tryd.f81) Tryd.func81 (by kernel_rfl) rfl ?_ ?_
  · intro xs rs h
    unfold C_internal_strconv_underscoreOK at h
    simp only at h
    split at h
    · exact ⟨by show 1 ≤ _; rw [Tryd.ntmps81]; decide, rfl, fun _ u hu => by simp at hu; (rcases hu with rfl) <;> rfl⟩
    · exact h.elim
  · intro w0 M xs rs hG h
    unfold C_internal_strconv_underscoreOK at h
    simp only at h
    split at h
    case h_2 => exact h.elim
    rename_i s1 rz
    change List UInt8 at s1
    change Bool at rz
    have hE : EnvOK (E_internal_strconv_underscoreOK k) ⟨Tryd.prog, Tryd.f81.ntmps, w0, M, fun _ => False, fun _ => undef⟩ := (EnvOK.cons (c_internal_strconv_lower k) (EnvOK.nil rfl Tryd.ntmps81 hG))
    unfold internal_strconv_underscoreOK at h
    refine W_seq ?_
    refine W_region ?_
    refine WL_all hE [0] [] [] (st' := ⟨[(0, SS s1)], [], []⟩) (orc := []) (ob := []) (by kernel_rfl) trivial ?_
    refine N_then ?_
    refine W_seq ?_
    refine W_region ?_
    refine WL_all hE [0, 3] [] [] (st' := ⟨[(0, SS s1), (3, I32 (94 : Int))], [], []⟩) (orc := []) (ob := []) (by kernel_rfl) trivial ?_
    refine N_then ?_
    refine W_seq ?_
    refine W_region ?_
    refine WL_all hE [0, 3, 4] [] [] (st' := ⟨[(0, SS s1), (3, I32 (94 : Int)), (4, I64 (0 : Int))], [], []⟩) (orc := []) (ob := []) (by kernel_rfl) trivial ?_
    refine N_then ?_
    refine W_join (α := List UInt8) (fun z => internal_strconv_underscoreOK_j1 k z = some rz) (fun s2 => ⟨[(0, SS s2), (3, I32 (94 : Int)), (4, I64 (0 : Int))], [], []⟩) ?_ (fun hJ11 => ?_)
    · rintro s2 h
      unfold internal_strconv_underscoreOK_j1 at h
      refine W_seq ?_
      refine W_region ?_
      refine WL_all hE [0, 3, 4, 5] [] [] (st' := ⟨[(0, SS s2), (3, I32 (94 : Int)), (4, I64 (0 : Int)), (5, BB false)], [], []⟩) (orc := []) (ob := []) (by kernel_rfl) trivial ?_
      refine N_then ?_
      refine W_join (α := (Int × Int × Bool)) (fun z => internal_strconv_underscoreOK_j2 k s2 z.1 z.2.1 z.2.2 = some rz) (fun z => ⟨[(0, SS s2), (3, I32 (z.1)), (4, I64 (z.2.1)), (5, BB (z.2.2))], [], []⟩) ?_ (fun hJ7 => ?_)
      · rintro ⟨saw1, i1, hex1⟩ h
        unfold internal_strconv_underscoreOK_j2 at h
        refine W_seq ?_
        refine W_block ?_
        refine W_loop (α := (Int × Int)) (fun n z => internal_strconv_underscoreOK_l1 k s2 hex1 n z.1 z.2 = some rz) (fun z => ⟨[(0, SS s2), (3, I32 (z.1)), (4, I64 (z.2)), (5, BB hex1)], [], []⟩) ?_ (k := k) (x := (saw1, i1)) h
        clear h
        rintro fuel1 ⟨saw2, i2⟩ h
        cases fuel1 with
        | zero => exact absurd (show none = some _ from h) (by simp)
        | succ fuel1 =>
          have h : internal_strconv_underscoreOK_b1 k s2 hex1 (internal_strconv_underscoreOK_l1 k s2 hex1 fuel1) saw2 i2 = some rz := h
          unfold internal_strconv_underscoreOK_b1 at h
          refine W_seq ?_
          refine W_seq ?_
          refine W_region ?_
          refine WL_all hE [0, 3, 4, 5, 54] [] [] (st' := ⟨[(0, SS s2), (3, I32 saw2), (4, I64 i2), (5, BB hex1), (54, BB (decide (i2 < (List.length s2 : Int))))], [], []⟩) (orc := []) (ob := []) (by kernel_rfl) trivial ?_
          refine N_then ?_
          refine W_cond (b := decide (i2 < (List.length s2 : Int))) (by kernel_rfl) (fun e1 => ?_) (fun e1 => ?_)
          · replace h := ite_t e1 h
            refine W_skip ?_
            refine N_then ?_
            refine W_join (α := Int) (fun z => internal_strconv_underscoreOK_j3 (internal_strconv_underscoreOK_l1 k s2 hex1 fuel1) i2 z = some rz) (fun saw3 => ⟨[(0, SS s2), (3, I32 saw3), (4, I64 i2), (5, BB hex1)], [], []⟩) ?_ (fun hJ3 => ?_)
            · rintro saw3 h
              unfold internal_strconv_underscoreOK_j3 at h
              refine W_region ?_
              refine WL_all hE [0, 3, 4, 5] [] [] (st' := ⟨[(0, SS s2), (3, I32 saw3), (4, I64 (wi64 (i2 + (1 : Int)))), (5, BB hex1)], [], []⟩) (orc := []) (ob := []) (by kernel_rfl) trivial ?_
              exact N_round (saw3, wi64 (i2 + (1 : Int))) (Nat.lt_succ_self _) h
            refine W_block ?_
            refine W_seq ?_
            refine W_seq ?_
            refine W_region ?_
            obtain ⟨b1, e2, h⟩ := bind_some h
            refine WL_tk hE 5 [0, 3, 4, 5, 61] [] [] (st' := ⟨[(0, SS s2), (3, I32 saw2), (4, I64 i2), (5, BB hex1), (61, BB (decide ((48 : Int) ≤ b1)))], [], []⟩) (orc := [tU8 b1]) (ob := [byteAt s2 i2 = some b1]) (by kernel_rfl) ⟨e2, trivial⟩ ?_
            refine WL_join (α := Bool) (fun z => internal_strconv_underscoreOK_j4 k (internal_strconv_underscoreOK_l1 k s2 hex1 fuel1) i2 s2 saw2 hex1 z = some rz) (fun t1 => ⟨[(0, SS s2), (3, I32 saw2), (4, I64 i2), (5, BB hex1), (66, BB t1)], [], []⟩) 5 ?_ (fun hJ4 => ?_)
            · rintro t1 h
              unfold internal_strconv_underscoreOK_j4 at h
              refine WL_tk hE 1 [0, 3, 4, 5, 67] [] [] (st' := ⟨[(0, SS s2), (3, I32 saw2), (4, I64 i2), (5, BB hex1), (67, BB t1)], [], []⟩) (orc := []) (ob := []) (by kernel_rfl) trivial ?_
              refine WL_join (α := Bool) (fun z => internal_strconv_underscoreOK_j5 (internal_strconv_underscoreOK_l1 k s2 hex1 fuel1) i2 s2 saw2 z = some rz) (fun t2 => ⟨[(0, SS s2), (3, I32 saw2), (4, I64 i2), (5, BB hex1), (83, BB t2)], [], []⟩) 16 ?_ (fun hJ5 => ?_)
              · rintro t2 h
                unfold internal_strconv_underscoreOK_j5 at h
                refine WL_nil ?_
                refine N_then ?_
                refine W_cond (b := t2) (by kernel_rfl) (fun e3 => ?_) (fun e3 => ?_)
                · replace h := ite_t e3 h
                  refine W_seq ?_
                  refine W_region ?_
                  refine WL_all hE [0, 3, 4, 5] [] [] (st' := ⟨[(0, SS s2), (3, I32 (48 : Int)), (4, I64 i2), (5, BB hex1)], [], []⟩) (orc := []) (ob := []) (by kernel_rfl) trivial ?_
                  refine N_then ?_
                  refine W_exit ?_
                  refine N_then_exit ?_
                  refine N_block_exit ?_
                  exact hJ3 (48 : Int) h
                · replace h := ite_f e3 h
                  refine W_skip ?_
                  refine N_then ?_
                  refine W_seq ?_
                  refine W_seq ?_
                  refine W_region ?_
                  obtain ⟨b2, e4, h⟩ := bind_some h
                  refine WL_all hE [0, 3, 4, 5, 87] [] [] (st' := ⟨[(0, SS s2), (3, I32 saw2), (4, I64 i2), (5, BB hex1), (87, BB (b2 == (95 : Int)))], [], []⟩) (orc := [tU8 b2]) (ob := [byteAt s2 i2 = some b2]) (by kernel_rfl) ⟨e4, trivial⟩ ?_
                  refine N_then ?_
                  refine W_cond (b := b2 == (95 : Int)) (by kernel_rfl) (fun e5 => ?_) (fun e5 => ?_)
                  · replace h := ite_t e5 h
                    refine W_seq ?_
                    refine W_seq ?_
                    refine W_region ?_
                    refine WL_all hE [0, 4, 5, 89] [] [] (st' := ⟨[(0, SS s2), (4, I64 i2), (5, BB hex1), (89, BB (saw2 != (48 : Int)))], [], []⟩) (orc := []) (ob := []) (by kernel_rfl) trivial ?_
                    refine N_then ?_
                    refine W_cond (b := saw2 != (48 : Int)) (by kernel_rfl) (fun e6 => ?_) (fun e6 => ?_)
                    · replace h := ite_t e6 h
                      refine W_seq ?_
                      refine W_region ?_
                      refine WL_all hE [2] [] [] (st' := ⟨[(2, BB false)], [], []⟩) (orc := []) (ob := []) (by kernel_rfl) trivial ?_
                      refine N_then ?_
                      refine W_ret ?_
                      refine N_then_ret ?_
                      refine N_then_ret ?_
                      refine N_block_ret ?_
                      refine N_then_ret ?_
                      refine N_then_ret ?_
                      refine N_block_ret ?_
                      refine N_then_ret ?_
                      cases h
                      exact N_end (.inl rfl) (by kernel_rfl)
                    · replace h := ite_f e6 h
                      refine W_skip ?_
                      refine N_then ?_
                      refine W_seq ?_
                      refine W_region ?_
                      refine WL_all hE [0, 3, 4, 5] [] [] (st' := ⟨[(0, SS s2), (3, I32 (95 : Int)), (4, I64 i2), (5, BB hex1)], [], []⟩) (orc := []) (ob := []) (by kernel_rfl) trivial ?_
                      refine N_then ?_
                      refine W_exit ?_
                      refine N_then_exit ?_
                      refine N_block_exit ?_
                      exact hJ3 (95 : Int) h
                  · replace h := ite_f e5 h
                    refine W_skip ?_
                    refine N_then ?_
                    refine W_seq ?_
                    refine W_seq ?_
                    refine W_region ?_
                    refine WL_all hE [0, 4, 5, 91] [] [] (st' := ⟨[(0, SS s2), (4, I64 i2), (5, BB hex1), (91, BB (saw2 == (95 : Int)))], [], []⟩) (orc := []) (ob := []) (by kernel_rfl) trivial ?_
                    refine N_then ?_
                    refine W_cond (b := saw2 == (95 : Int)) (by kernel_rfl) (fun e7 => ?_) (fun e7 => ?_)
                    · replace h := ite_t e7 h
                      refine W_seq ?_
                      refine W_region ?_
                      refine WL_all hE [2] [] [] (st' := ⟨[(2, BB false)], [], []⟩) (orc := []) (ob := []) (by kernel_rfl) trivial ?_
                      refine N_then ?_
                      refine W_ret ?_
                      refine N_then_ret ?_
                      refine N_block_ret ?_
                      refine N_then_ret ?_
                      refine N_then_ret ?_
                      refine N_block_ret ?_
                      refine N_then_ret ?_
                      cases h
                      exact N_end (.inl rfl) (by kernel_rfl)
                    · replace h := ite_f e7 h
                      refine W_skip ?_
                      refine N_then ?_
                      refine W_region ?_
                      refine WL_all hE [0, 3, 4, 5] [] [] (st' := ⟨[(0, SS s2), (3, I32 (33 : Int)), (4, I64 i2), (5, BB hex1)], [], []⟩) (orc := []) (ob := []) (by kernel_rfl) trivial ?_
                      refine N_block ?_
                      exact hJ3 (33 : Int) h
              refine WL_split (fun g => ⟨[(0, SS s2), (3, I32 saw2), (4, I64 i2), (5, BB hex1), (67, BB g)], [], []⟩) (b := t1) (fun e8 => ?_) (fun e8 => ?_)
              · replace h := ite_t e8 h
                refine WL_all hE [0, 3, 4, 5, 83] [] [] (st' := ⟨[(0, SS s2), (3, I32 saw2), (4, I64 i2), (5, BB hex1), (83, BB true)], [], []⟩) (orc := []) (ob := []) (by kernel_rfl) trivial ?_
                exact hJ5 true h
              · replace h := ite_f e8 h
                refine WL_tk hE 2 [0, 3, 4, 5, 67, 69] [] [] (st' := ⟨[(0, SS s2), (3, I32 saw2), (4, I64 i2), (5, BB hex1), (67, BB false), (69, BB hex1)], [], []⟩) (orc := []) (ob := []) (by kernel_rfl) trivial ?_
                refine WL_join (α := Bool) (fun z => internal_strconv_underscoreOK_j6 k s2 i2 (internal_strconv_underscoreOK_l1 k s2 hex1 fuel1) saw2 z = some rz) (fun t3 => ⟨[(0, SS s2), (3, I32 saw2), (4, I64 i2), (5, BB hex1), (67, BB false), (75, BB t3)], [], []⟩) 6 ?_ (fun hJ6 => ?_)
                · rintro t3 h
                  unfold internal_strconv_underscoreOK_j6 at h
                  refine WL_tk hE 1 [0, 3, 4, 5, 67, 76] [] [] (st' := ⟨[(0, SS s2), (3, I32 saw2), (4, I64 i2), (5, BB hex1), (67, BB false), (76, BB t3)], [], []⟩) (orc := []) (ob := []) (by kernel_rfl) trivial ?_
                  refine WL_join (α := Bool) (fun z => internal_strconv_underscoreOK_j7 (internal_strconv_underscoreOK_l1 k s2 hex1 fuel1) i2 s2 saw2 z = some rz) (fun t4 => ⟨[(0, SS s2), (3, I32 saw2), (4, I64 i2), (5, BB hex1), (67, BB false), (82, BB t4)], [], []⟩) 6 ?_ (fun hJ7 => ?_)
                  · rintro t4 h
                    unfold internal_strconv_underscoreOK_j7 at h
                    refine WL_all hE [0, 3, 4, 5, 83] [] [] (st' := ⟨[(0, SS s2), (3, I32 saw2), (4, I64 i2), (5, BB hex1), (83, BB t4)], [], []⟩) (orc := []) (ob := []) (by kernel_rfl) trivial ?_
                    exact hJ5 t4 h
                  refine WL_split (fun g => ⟨[(0, SS s2), (3, I32 saw2), (4, I64 i2), (5, BB hex1), (67, BB false), (76, BB g)], [], []⟩) (b := t3) (fun e9 => ?_) (fun e9 => ?_)
                  · replace h := ite_t e9 h
                    obtain ⟨b3, e10, h⟩ := bind_some h
                    obtain ⟨v1, e11, h⟩ := bind_some h
                    refine WL_all hE [0, 3, 4, 5, 67, 82] [] [] (st' := ⟨[(0, SS s2), (3, I32 saw2), (4, I64 i2), (5, BB hex1), (67, BB false), (82, BB (decide (v1 ≤ (102 : Int))))], [], []⟩) (orc := [tU8 b3, tU8 v1]) (ob := [byteAt s2 i2 = some b3, internal_strconv_lower k b3 = some v1]) (by kernel_rfl) ⟨e10, e11, trivial⟩ ?_
                    exact hJ7 (decide (v1 ≤ (102 : Int))) h
                  · replace h := ite_f e9 h
                    refine WL_all hE [0, 3, 4, 5, 67, 82] [] [] (st' := ⟨[(0, SS s2), (3, I32 saw2), (4, I64 i2), (5, BB hex1), (67, BB false), (82, BB false)], [], []⟩) (orc := []) (ob := []) (by kernel_rfl) trivial ?_
                    exact hJ7 false h
                refine WL_split (fun g => ⟨[(0, SS s2), (3, I32 saw2), (4, I64 i2), (5, BB hex1), (67, BB false), (69, BB g)], [], []⟩) (b := hex1) (fun e12 => ?_) (fun e12 => ?_)
                · replace h := ite_t e12 h
                  obtain ⟨b4, e13, h⟩ := bind_some h
                  obtain ⟨v2, e14, h⟩ := bind_some h
                  refine WL_all hE [0, 3, 4, 5, 67, 75] [] [] (st' := ⟨[(0, SS s2), (3, I32 saw2), (4, I64 i2), (5, BB hex1), (67, BB false), (75, BB (decide ((97 : Int) ≤ v2)))], [], []⟩) (orc := [tU8 b4, tU8 v2]) (ob := [byteAt s2 i2 = some b4, internal_strconv_lower k b4 = some v2]) (by kernel_rfl) ⟨e13, e14, trivial⟩ ?_
                  exact hJ6 (decide ((97 : Int) ≤ v2)) h
                · replace h := ite_f e12 h
                  refine WL_all hE [0, 3, 4, 5, 67, 75] [] [] (st' := ⟨[(0, SS s2), (3, I32 saw2), (4, I64 i2), (5, BB hex1), (67, BB false), (75, BB false)], [], []⟩) (orc := []) (ob := []) (by kernel_rfl) trivial ?_
                  exact hJ6 false h
            refine WL_split (fun g => ⟨[(0, SS s2), (3, I32 saw2), (4, I64 i2), (5, BB hex1), (61, BB g)], [], []⟩) (b := decide ((48 : Int) ≤ b1)) (fun e15 => ?_) (fun e15 => ?_)
            · replace h := ite_t e15 h
              obtain ⟨b5, e16, h⟩ := bind_some h
              refine WL_all hE [0, 3, 4, 5, 66] [] [] (st' := ⟨[(0, SS s2), (3, I32 saw2), (4, I64 i2), (5, BB hex1), (66, BB (decide (b5 ≤ (57 : Int))))], [], []⟩) (orc := [tU8 b5]) (ob := [byteAt s2 i2 = some b5]) (by kernel_rfl) ⟨e16, trivial⟩ ?_
              exact hJ4 (decide (b5 ≤ (57 : Int))) h
            · replace h := ite_f e15 h
              refine WL_all hE [0, 3, 4, 5, 66] [] [] (st' := ⟨[(0, SS s2), (3, I32 saw2), (4, I64 i2), (5, BB hex1), (66, BB false)], [], []⟩) (orc := []) (ob := []) (by kernel_rfl) trivial ?_
              exact hJ4 false h
          · replace h := ite_f e1 h
            refine W_exit ?_
            refine N_then_exit ?_
            refine N_then_exit ?_
            refine N_block_exit ?_
            refine N_then ?_
            refine W_seq ?_
            refine W_region ?_
            refine WL_all hE [2] [] [] (st' := ⟨[(2, BB (saw2 != (95 : Int)))], [], []⟩) (orc := []) (ob := []) (by kernel_rfl) trivial ?_
            refine N_then ?_
            refine W_ret ?_
            cases h
            exact N_end (.inl rfl) (by kernel_rfl)
      refine W_seq ?_
      refine W_region ?_
      refine WL_tk hE 4 [0, 3, 4, 5, 24] [] [] (st' := ⟨[(0, SS s2), (3, I32 (94 : Int)), (4, I64 (0 : Int)), (5, BB false), (24, BB (decide ((2 : Int) ≤ (List.length s2 : Int))))], [], []⟩) (orc := []) (ob := []) (by kernel_rfl) trivial ?_
      refine WL_join (α := Bool) (fun z => internal_strconv_underscoreOK_j8 k s2 z = some rz) (fun t5 => ⟨[(0, SS s2), (3, I32 (94 : Int)), (4, I64 (0 : Int)), (5, BB false), (28, BB t5)], [], []⟩) 4 ?_ (fun hJ8 => ?_)
      · rintro t5 h
        unfold internal_strconv_underscoreOK_j8 at h
        refine WL_tk hE 1 [0, 3, 4, 5, 29] [] [] (st' := ⟨[(0, SS s2), (3, I32 (94 : Int)), (4, I64 (0 : Int)), (5, BB false), (29, BB t5)], [], []⟩) (orc := []) (ob := []) (by kernel_rfl) trivial ?_
        refine WL_join (α := Bool) (fun z => internal_strconv_underscoreOK_j9 k s2 z = some rz) (fun t6 => ⟨[(0, SS s2), (3, I32 (94 : Int)), (4, I64 (0 : Int)), (5, BB false), (46, BB t6)], [], []⟩) 17 ?_ (fun hJ9 => ?_)
        · rintro t6 h
          unfold internal_strconv_underscoreOK_j9 at h
          refine WL_nil ?_
          refine N_then ?_
          refine W_cond (b := t6) (by kernel_rfl) (fun e17 => ?_) (fun e17 => ?_)
          · replace h := ite_t e17 h
            refine W_seq ?_
            refine W_region ?_
            refine WL_all hE [0, 4] [] [] (st' := ⟨[(0, SS s2), (4, I64 (2 : Int))], [], []⟩) (orc := []) (ob := []) (by kernel_rfl) trivial ?_
            refine N_then ?_
            refine W_seq ?_
            refine W_region ?_
            refine WL_all hE [0, 3, 4] [] [] (st' := ⟨[(0, SS s2), (3, I32 (48 : Int)), (4, I64 (2 : Int))], [], []⟩) (orc := []) (ob := []) (by kernel_rfl) trivial ?_
            refine N_then ?_
            refine W_region ?_
            obtain ⟨b6, e18, h⟩ := bind_some h
            obtain ⟨v3, e19, h⟩ := bind_some h
            refine WL_all hE [0, 3, 4, 5] [] [] (st' := ⟨[(0, SS s2), (3, I32 (48 : Int)), (4, I64 (2 : Int)), (5, BB (v3 == (120 : Int)))], [], []⟩) (orc := [tU8 b6, tU8 v3]) (ob := [byteAt s2 (1 : Int) = some b6, internal_strconv_lower k b6 = some v3]) (by kernel_rfl) ⟨e18, e19, trivial⟩ ?_
            exact hJ7 ((48 : Int), (2 : Int), v3 == (120 : Int)) h
          · replace h := ite_f e17 h
            refine W_skip ?_
            refine N.norm (st' := ⟨[(0, SS s2), (3, I32 (94 : Int)), (4, I64 (0 : Int)), (5, BB false)], [], []⟩) (ks := [0, 3, 4, 5]) (bs := []) (rs := []) ?_ (by kernel_rfl)
            exact hJ7 ((94 : Int), (0 : Int), false) h
        refine WL_split (fun g => ⟨[(0, SS s2), (3, I32 (94 : Int)), (4, I64 (0 : Int)), (5, BB false), (29, BB g)], [], []⟩) (b := t5) (fun e20 => ?_) (fun e20 => ?_)
        · replace h := ite_t e20 h
          obtain ⟨b7, e21, h⟩ := bind_some h
          obtain ⟨v4, e22, h⟩ := bind_some h
          refine WL_tk hE 5 [0, 3, 4, 5, 29, 34] [] [] (st' := ⟨[(0, SS s2), (3, I32 (94 : Int)), (4, I64 (0 : Int)), (5, BB false), (29, BB true), (34, BB (v4 == (98 : Int)))], [], []⟩) (orc := [tU8 b7, tU8 v4]) (ob := [byteAt s2 (1 : Int) = some b7, internal_strconv_lower k b7 = some v4]) (by kernel_rfl) ⟨e21, e22, trivial⟩ ?_
          refine WL_join (α := Bool) (fun z => internal_strconv_underscoreOK_j10 k s2 z = some rz) (fun t7 => ⟨[(0, SS s2), (3, I32 (94 : Int)), (4, I64 (0 : Int)), (5, BB false), (29, BB true), (39, BB t7)], [], []⟩) 5 ?_ (fun hJ10 => ?_)
          · rintro t7 h
            unfold internal_strconv_underscoreOK_j10 at h
            refine WL_tk hE 1 [0, 3, 4, 5, 29, 40] [] [] (st' := ⟨[(0, SS s2), (3, I32 (94 : Int)), (4, I64 (0 : Int)), (5, BB false), (29, BB true), (40, BB t7)], [], []⟩) (orc := []) (ob := []) (by kernel_rfl) trivial ?_
            refine WL_join (α := Bool) (fun z => internal_strconv_underscoreOK_j11 k s2 z = some rz) (fun t8 => ⟨[(0, SS s2), (3, I32 (94 : Int)), (4, I64 (0 : Int)), (5, BB false), (29, BB true), (45, BB t8)], [], []⟩) 5 ?_ (fun hJ11 => ?_)
            · rintro t8 h
              unfold internal_strconv_underscoreOK_j11 at h
              refine WL_all hE [0, 3, 4, 5, 46] [] [] (st' := ⟨[(0, SS s2), (3, I32 (94 : Int)), (4, I64 (0 : Int)), (5, BB false), (46, BB t8)], [], []⟩) (orc := []) (ob := []) (by kernel_rfl) trivial ?_
              exact hJ9 t8 h
            refine WL_split (fun g => ⟨[(0, SS s2), (3, I32 (94 : Int)), (4, I64 (0 : Int)), (5, BB false), (29, BB true), (40, BB g)], [], []⟩) (b := t7) (fun e23 => ?_) (fun e23 => ?_)
            · replace h := ite_t e23 h
              refine WL_all hE [0, 3, 4, 5, 29, 45] [] [] (st' := ⟨[(0, SS s2), (3, I32 (94 : Int)), (4, I64 (0 : Int)), (5, BB false), (29, BB true), (45, BB true)], [], []⟩) (orc := []) (ob := []) (by kernel_rfl) trivial ?_
              exact hJ11 true h
            · replace h := ite_f e23 h
              obtain ⟨b8, e24, h⟩ := bind_some h
              obtain ⟨v5, e25, h⟩ := bind_some h
              refine WL_all hE [0, 3, 4, 5, 29, 45] [] [] (st' := ⟨[(0, SS s2), (3, I32 (94 : Int)), (4, I64 (0 : Int)), (5, BB false), (29, BB true), (45, BB (v5 == (120 : Int)))], [], []⟩) (orc := [tU8 b8, tU8 v5]) (ob := [byteAt s2 (1 : Int) = some b8, internal_strconv_lower k b8 = some v5]) (by kernel_rfl) ⟨e24, e25, trivial⟩ ?_
              exact hJ11 (v5 == (120 : Int)) h
          refine WL_split (fun g => ⟨[(0, SS s2), (3, I32 (94 : Int)), (4, I64 (0 : Int)), (5, BB false), (29, BB true), (34, BB g)], [], []⟩) (b := v4 == (98 : Int)) (fun e26 => ?_) (fun e26 => ?_)
          · replace h := ite_t e26 h
            refine WL_all hE [0, 3, 4, 5, 29, 39] [] [] (st' := ⟨[(0, SS s2), (3, I32 (94 : Int)), (4, I64 (0 : Int)), (5, BB false), (29, BB true), (39, BB true)], [], []⟩) (orc := []) (ob := []) (by kernel_rfl) trivial ?_
            exact hJ10 true h
          · replace h := ite_f e26 h
            obtain ⟨b9, e27, h⟩ := bind_some h
            obtain ⟨v6, e28, h⟩ := bind_some h
            refine WL_all hE [0, 3, 4, 5, 29, 39] [] [] (st' := ⟨[(0, SS s2), (3, I32 (94 : Int)), (4, I64 (0 : Int)), (5, BB false), (29, BB true), (39, BB (v6 == (111 : Int)))], [], []⟩) (orc := [tU8 b9, tU8 v6]) (ob := [byteAt s2 (1 : Int) = some b9, internal_strconv_lower k b9 = some v6]) (by kernel_rfl) ⟨e27, e28, trivial⟩ ?_
            exact hJ10 (v6 == (111 : Int)) h
        · replace h := ite_f e20 h
          refine WL_all hE [0, 3, 4, 5, 46] [] [] (st' := ⟨[(0, SS s2), (3, I32 (94 : Int)), (4, I64 (0 : Int)), (5, BB false), (46, BB false)], [], []⟩) (orc := []) (ob := []) (by kernel_rfl) trivial ?_
          exact hJ9 false h
      refine WL_split (fun g => ⟨[(0, SS s2), (3, I32 (94 : Int)), (4, I64 (0 : Int)), (5, BB false), (24, BB g)], [], []⟩) (b := decide ((2 : Int) ≤ (List.length s2 : Int))) (fun e29 => ?_) (fun e29 => ?_)
      · replace h := ite_t e29 h
        obtain ⟨b10, e30, h⟩ := bind_some h
        refine WL_all hE [0, 3, 4, 5, 28] [] [] (st' := ⟨[(0, SS s2), (3, I32 (94 : Int)), (4, I64 (0 : Int)), (5, BB false), (28, BB (b10 == (48 : Int)))], [], []⟩) (orc := [tU8 b10]) (ob := [byteAt s2 (0 : Int) = some b10]) (by kernel_rfl) ⟨e30, trivial⟩ ?_
        exact hJ8 (b10 == (48 : Int)) h
      · replace h := ite_f e29 h
        refine WL_all hE [0, 3, 4, 5, 28] [] [] (st' := ⟨[(0, SS s2), (3, I32 (94 : Int)), (4, I64 (0 : Int)), (5, BB false), (28, BB false)], [], []⟩) (orc := []) (ob := []) (by kernel_rfl) trivial ?_
        exact hJ8 false h
    refine W_seq ?_
    refine W_region ?_
    refine WL_tk hE 4 [0, 3, 4, 9] [] [] (st' := ⟨[(0, SS s1), (3, I32 (94 : Int)), (4, I64 (0 : Int)), (9, BB (decide ((1 : Int) ≤ (List.length s1 : Int))))], [], []⟩) (orc := []) (ob := []) (by kernel_rfl) trivial ?_
    refine WL_join (α := Bool) (fun z => internal_strconv_underscoreOK_j12 k s1 z = some rz) (fun t9 => ⟨[(0, SS s1), (3, I32 (94 : Int)), (4, I64 (0 : Int)), (18, BB t9)], [], []⟩) 9 ?_ (fun hJ12 => ?_)
    · rintro t9 h
      unfold internal_strconv_underscoreOK_j12 at h
      refine WL_nil ?_
      refine N_then ?_
      refine W_cond (b := t9) (by kernel_rfl) (fun e31 => ?_) (fun e31 => ?_)
      · replace h := ite_t e31 h
        refine W_region ?_
        obtain ⟨s3, e32, h⟩ := bind_some h
        refine WL_all hE [0, 3, 4] [] [] (st' := ⟨[(0, SS s3), (3, I32 (94 : Int)), (4, I64 (0 : Int))], [], []⟩) (orc := [tS s3]) (ob := [sub? s1 (1 : Int) (s1.length : Int) = some s3]) (by kernel_rfl) ⟨e32, trivial⟩ ?_
        exact hJ11 s3 h
      · replace h := ite_f e31 h
        refine W_skip ?_
        refine N.norm (st' := ⟨[(0, SS s1), (3, I32 (94 : Int)), (4, I64 (0 : Int))], [], []⟩) (ks := [0, 3, 4]) (bs := []) (rs := []) ?_ (by kernel_rfl)
        exact hJ11 s1 h
    refine WL_split (fun g => ⟨[(0, SS s1), (3, I32 (94 : Int)), (4, I64 (0 : Int)), (9, BB g)], [], []⟩) (b := decide ((1 : Int) ≤ (List.length s1 : Int))) (fun e33 => ?_) (fun e33 => ?_)
    · replace h := ite_t e33 h
      obtain ⟨b11, e34, h⟩ := bind_some h
      refine WL_tk hE 4 [0, 3, 4, 9, 13] [] [] (st' := ⟨[(0, SS s1), (3, I32 (94 : Int)), (4, I64 (0 : Int)), (9, BB true), (13, BB (b11 == (45 : Int)))], [], []⟩) (orc := [tU8 b11]) (ob := [byteAt s1 (0 : Int) = some b11]) (by kernel_rfl) ⟨e34, trivial⟩ ?_
      refine WL_join (α := Bool) (fun z => internal_strconv_underscoreOK_j13 k s1 z = some rz) (fun t10 => ⟨[(0, SS s1), (3, I32 (94 : Int)), (4, I64 (0 : Int)), (9, BB true), (17, BB t10)], [], []⟩) 4 ?_ (fun hJ13 => ?_)
      · rintro t10 h
        unfold internal_strconv_underscoreOK_j13 at h
        refine WL_all hE [0, 3, 4, 18] [] [] (st' := ⟨[(0, SS s1), (3, I32 (94 : Int)), (4, I64 (0 : Int)), (18, BB t10)], [], []⟩) (orc := []) (ob := []) (by kernel_rfl) trivial ?_
        exact hJ12 t10 h
      refine WL_split (fun g => ⟨[(0, SS s1), (3, I32 (94 : Int)), (4, I64 (0 : Int)), (9, BB true), (13, BB g)], [], []⟩) (b := b11 == (45 : Int)) (fun e35 => ?_) (fun e35 => ?_)
      · replace h := ite_t e35 h
        refine WL_all hE [0, 3, 4, 9, 17] [] [] (st' := ⟨[(0, SS s1), (3, I32 (94 : Int)), (4, I64 (0 : Int)), (9, BB true), (17, BB true)], [], []⟩) (orc := []) (ob := []) (by kernel_rfl) trivial ?_
        exact hJ13 true h
      · replace h := ite_f e35 h
        obtain ⟨b12, e36, h⟩ := bind_some h
        refine WL_all hE [0, 3, 4, 9, 17] [] [] (st' := ⟨[(0, SS s1), (3, I32 (94 : Int)), (4, I64 (0 : Int)), (9, BB true), (17, BB (b12 == (43 : Int)))], [], []⟩) (orc := [tU8 b12]) (ob := [byteAt s1 (0 : Int) = some b12]) (by kernel_rfl) ⟨e36, trivial⟩ ?_
        exact hJ13 (b12 == (43 : Int)) h
    · replace h := ite_f e33 h
      refine WL_all hE [0, 3, 4, 18] [] [] (st' := ⟨[(0, SS s1), (3, I32 (94 : Int)), (4, I64 (0 : Int)), (18, BB false)], [], []⟩) (orc := []) (ob := []) (by kernel_rfl) trivial ?_
      exact hJ12 false h

end Go.Ev
