/- Contracts, by program. -/
import Derived.Test.YtmelekiophkpiaaDoorProg
import Derived.Test.YtmelekiophkpiaaDoorME3
import Derived.Test.YtmelekiophkpiaaDoorMS1
import Derived.Test.YtmelekiophkpiaaDoorML1
import Derived.KernelRfl
namespace Go.Ev
open Go Go.Proofs
set_option linter.unusedVariables false
set_option maxRecDepth 100000

def C_l27_sample (k : Nat) : FnC := ⟨false, 1, [], fun | [], [⟨(.pair (.pair (.sl .str) (.pair (.sl (.pair (.int .i32) (.pair (.int .u32) (.pair (.int .u32) .unit)))) .unit)) (.pair (.sl (.pair .str (.pair (.int .i64) (.pair (.sl (.pair .str (.pair (.sl (.pair (.int .i32) (.pair (.int .u32) (.pair (.int .u32) .unit)))) (.pair (.sl (.pair (.int .i32) (.pair (.int .i64) (.pair (.int .u32) (.pair (.int .u32) .unit))))) (.pair (.pair (.sl (.pair (.int .u8) (.pair (.int .i32) (.pair (.int .u32) (.pair (.int .u32) (.pair (.sl (.int .i64)) .unit)))))) .unit) (.pair (.pair (.sl (.pair (.int .u8) (.pair (.int .i32) (.pair (.int .u32) (.pair (.int .u32) (.pair (.sl (.int .i64)) .unit)))))) .unit) (.pair (.int .u8) (.pair .bool .unit)))))))) .unit)))) .unit)), rz⟩] => l27_sample k = some rz | _, _ => False⟩
noncomputable def E_l27_sample (k : Nat) : Env := ⟨Tryd.prog, Gn, 11, []⟩
theorem c_l27_sample (k : Nat) : Contract Tryd.prog Gn 10 (C_l27_sample k) := by
  refine contract_of Gn_stable (fn := Tryd.f10) Tryd.func10 (by kernel_rfl) rfl ?_ ?_
  · intro xs rs h
    unfold C_l27_sample at h
    simp only at h
    split at h
    · exact ⟨by show 0 ≤ _; rw [Tryd.ntmps10]; decide, rfl, fun hf => by cases hf⟩
    · exact h.elim
  · intro w0 M xs rs hG h
    unfold C_l27_sample at h
    simp only at h
    split at h
    case h_2 => exact h.elim
    rename_i rz
    change ((List (List UInt8) × List ((Int × Int × Int × Unit)) × Unit) × List ((List UInt8 × Int × List ((List UInt8 × List ((Int × Int × Int × Unit)) × List ((Int × Int × Int × Int × Unit)) × (List ((Int × Int × Int × Int × List (Int) × Unit)) × Unit) × (List ((Int × Int × Int × Int × List (Int) × Unit)) × Unit) × Int × Bool × Unit)) × Unit)) × Unit) at rz
    have hE : EnvOK (E_l27_sample k) ⟨Tryd.prog, Tryd.f10.ntmps, w0, M, fun _ => False, fun _ => undef⟩ := (EnvOK.nil rfl Tryd.ntmps10 hG)
    unfold l27_sample at h
    refine W_seq (W_region (WL_allC hE [0] [0] [] (orc := []) (by kernel_rfl) .n (N_then (W_seq (W_region (WL_allC hE [0, 1] [0, 1] [] (orc := []) (by kernel_rfl) .n (N_then (W_seq (W_region (WL_allC hE [0] [0] [] (orc := []) (by kernel_rfl) .n (N_then (W_ret ?_))))))))))))
    cases h
    exact N_end (.inl rfl) (by kernel_rfl)

def C_strings_trimRightByte (k : Nat) : FnC := ⟨true, 1, [], fun | [⟨.str, s1⟩, ⟨(.int .u8), c1⟩], [⟨.str, rz⟩] => strings_trimRightByte k s1 c1 = some rz | _, _ => False⟩
noncomputable def E_strings_trimRightByte (k : Nat) : Env := ⟨Tryd.prog, Gn, 23, []⟩
theorem c_strings_trimRightByte (k : Nat) : Contract Tryd.prog Gn 49 (C_strings_trimRightByte k) := by
  refine contract_of Gn_stable (fn := Tryd.f49) Tryd.func49 (by kernel_rfl) rfl ?_ ?_
  · intro xs rs h
    unfold C_strings_trimRightByte at h
    simp only at h
    split at h
    · exact ⟨by show 2 ≤ _; rw [Tryd.ntmps49]; decide, rfl, fun _ u hu => by simp at hu; (rcases hu with rfl) <;> rfl⟩
    · exact h.elim
  · intro w0 M xs rs hG h
    unfold C_strings_trimRightByte at h
    simp only at h
    split at h
    case h_2 => exact h.elim
    rename_i s1 c1 rz
    change List UInt8 at s1
    change Int at c1
    change List UInt8 at rz
    have hE : EnvOK (E_strings_trimRightByte k) ⟨Tryd.prog, Tryd.f49.ntmps, w0, M, fun _ => False, fun _ => undef⟩ := (EnvOK.nil rfl Tryd.ntmps49 hG)
    unfold strings_trimRightByte at h
    refine W_seq (W_region (WL_allI hE (orc := []) (by kernel_rfl) .n (N_then (W_seq (W_block (W_loop (α := List UInt8) (fun n z => strings_trimRightByte_l1 c1 n z = some rz) (fun s2 => ⟨[(0, SS s2), (1, U8 c1)], [], []⟩) ?_ (k := k) (x := s1) h))))))
    clear h
    rintro fuel1 s2 h
    cases fuel1 with
    | zero => exact absurd (show none = some _ from h) (by simp)
    | succ fuel1 =>
      have h : strings_trimRightByte_b1 c1 (strings_trimRightByte_l1 c1 fuel1) s2 = some rz := h
      unfold strings_trimRightByte_b1 at h
      refine W_seq (W_seq (W_region (WL_tkC hE 4 [0, 1, 8] [] [] (orc := []) (by kernel_rfl) .n (WL_join (α := Bool) (fun z => strings_trimRightByte_j1 s2 (strings_trimRightByte_l1 c1 fuel1) z = some rz) (fun t1 => ⟨[(0, SS s2), (1, U8 c1), (16, BB t1)], [], []⟩) 8 ?_ (fun hJ1 => ?_)))))
      · rintro t1 h
        unfold strings_trimRightByte_j1 at h
        refine WL_nil (N_then (W_cond (b := t1) (by kernel_rfl) (fun e1 => ?_) (fun e1 => ?_)))
        · replace h := ite_t e1 h
          refine W_skip (N_then (W_block (W_region ?_)))
          obtain ⟨s3, e2, h⟩ := bind_some h
          exact WL_allI hE (orc := [tS s3]) (by kernel_rfl) (.c e2 .n) (N_block (N_round s3 (Nat.lt_succ_self _) h))
        · replace h := ite_f e1 h
          refine W_exit (N_then_exit (N_then_exit (N_block_exit (N_then (W_seq (W_region (WL_allC hE [4] [] [] (orc := []) (by kernel_rfl) .n (N_then (W_ret ?_)))))))))
          cases h
          exact N_end (.inl rfl) (by kernel_rfl)
      refine WL_splitC 8 (b := decide ((0 : Int) < (List.length s2 : Int))) (by kernel_rfl) (fun e3 => ?_) (fun e3 => ?_)
      · replace h := ite_t e3 h
        obtain ⟨b1, e4, h⟩ := bind_some h
        exact WL_allI hE (orc := [tU8 b1]) (by kernel_rfl) (.c e4 .n) (hJ1 (b1 == c1) h)
      · replace h := ite_f e3 h
        exact WL_allI hE (orc := []) (by kernel_rfl) .n (hJ1 false h)

def C_strings_trimLeftByte (k : Nat) : FnC := ⟨true, 1, [], fun | [⟨.str, s1⟩, ⟨(.int .u8), c1⟩], [⟨.str, rz⟩] => strings_trimLeftByte k s1 c1 = some rz | _, _ => False⟩
noncomputable def E_strings_trimLeftByte (k : Nat) : Env := ⟨Tryd.prog, Gn, 17, []⟩
theorem c_strings_trimLeftByte (k : Nat) : Contract Tryd.prog Gn 48 (C_strings_trimLeftByte k) := by
  refine contract_of Gn_stable (fn := Tryd.f48) Tryd.func48 (by kernel_rfl) rfl ?_ ?_
  · intro xs rs h
    unfold C_strings_trimLeftByte at h
    simp only at h
    split at h
    · exact ⟨by show 2 ≤ _; rw [Tryd.ntmps48]; decide, rfl, fun _ u hu => by simp at hu; (rcases hu with rfl) <;> rfl⟩
    · exact h.elim
  · intro w0 M xs rs hG h
    unfold C_strings_trimLeftByte at h
    simp only at h
    split at h
    case h_2 => exact h.elim
    rename_i s1 c1 rz
    change List UInt8 at s1
    change Int at c1
    change List UInt8 at rz
    have hE : EnvOK (E_strings_trimLeftByte k) ⟨Tryd.prog, Tryd.f48.ntmps, w0, M, fun _ => False, fun _ => undef⟩ := (EnvOK.nil rfl Tryd.ntmps48 hG)
    unfold strings_trimLeftByte at h
    refine W_seq (W_region (WL_allI hE (orc := []) (by kernel_rfl) .n (N_then (W_seq (W_block (W_loop (α := List UInt8) (fun n z => strings_trimLeftByte_l1 c1 n z = some rz) (fun s2 => ⟨[(0, SS s2), (1, U8 c1)], [], []⟩) ?_ (k := k) (x := s1) h))))))
    clear h
    rintro fuel1 s2 h
    cases fuel1 with
    | zero => exact absurd (show none = some _ from h) (by simp)
    | succ fuel1 =>
      have h : strings_trimLeftByte_b1 c1 (strings_trimLeftByte_l1 c1 fuel1) s2 = some rz := h
      unfold strings_trimLeftByte_b1 at h
      refine W_seq (W_seq (W_region (WL_tkC hE 4 [0, 1, 8] [] [] (orc := []) (by kernel_rfl) .n (WL_join (α := Bool) (fun z => strings_trimLeftByte_j1 s2 (strings_trimLeftByte_l1 c1 fuel1) z = some rz) (fun t1 => ⟨[(0, SS s2), (1, U8 c1), (13, BB t1)], [], []⟩) 5 ?_ (fun hJ1 => ?_)))))
      · rintro t1 h
        unfold strings_trimLeftByte_j1 at h
        refine WL_nil (N_then (W_cond (b := t1) (by kernel_rfl) (fun e1 => ?_) (fun e1 => ?_)))
        · replace h := ite_t e1 h
          refine W_skip (N_then (W_block (W_region ?_)))
          obtain ⟨s3, e2, h⟩ := bind_some h
          exact WL_allI hE (orc := [tS s3]) (by kernel_rfl) (.c e2 .n) (N_block (N_round s3 (Nat.lt_succ_self _) h))
        · replace h := ite_f e1 h
          refine W_exit (N_then_exit (N_then_exit (N_block_exit (N_then (W_seq (W_region (WL_allC hE [4] [] [] (orc := []) (by kernel_rfl) .n (N_then (W_ret ?_)))))))))
          cases h
          exact N_end (.inl rfl) (by kernel_rfl)
      refine WL_splitC 8 (b := decide ((0 : Int) < (List.length s2 : Int))) (by kernel_rfl) (fun e3 => ?_) (fun e3 => ?_)
      · replace h := ite_t e3 h
        obtain ⟨b1, e4, h⟩ := bind_some h
        exact WL_allI hE (orc := [tU8 b1]) (by kernel_rfl) (.c e4 .n) (hJ1 (b1 == c1) h)
      · replace h := ite_f e3 h
        exact WL_allI hE (orc := []) (by kernel_rfl) .n (hJ1 false h)

def C_strings_makeASCIISet (k : Nat) : FnC := ⟨true, 2, [], fun | [⟨.str, chars1⟩], [⟨(.arr 256 .bool), rz1⟩, ⟨.bool, rz2⟩] => strings_makeASCIISet k chars1 = some (rz1, rz2) | _, _ => False⟩
noncomputable def E_strings_makeASCIISet (k : Nat) : Env := ⟨Tryd.prog, Gn, 21, []⟩
theorem c_strings_makeASCIISet (k : Nat) : Contract Tryd.prog Gn 50 (C_strings_makeASCIISet k) := by
  refine contract_of Gn_stable (fn := Tryd.f50) Tryd.func50 (by kernel_rfl) rfl ?_ ?_
  · intro xs rs h
    unfold C_strings_makeASCIISet at h
    simp only at h
    split at h
    · exact ⟨by show 1 ≤ _; rw [Tryd.ntmps50]; decide, rfl, fun _ u hu => by simp at hu; (rcases hu with rfl | rfl) <;> rfl⟩
    · exact h.elim
  · intro w0 M xs rs hG h
    unfold C_strings_makeASCIISet at h
    simp only at h
    split at h
    case h_2 => exact h.elim
    rename_i chars1 rz1 rz2
    change List UInt8 at chars1
    change List (Bool) at rz1
    change Bool at rz2
    have hE : EnvOK (E_strings_makeASCIISet k) ⟨Tryd.prog, Tryd.f50.ntmps, w0, M, fun _ => False, fun _ => undef⟩ := (EnvOK.nil rfl Tryd.ntmps50 hG)
    unfold strings_makeASCIISet at h
    refine W_seq (W_region (WL_allC hE [0, 2] [2] [] (orc := []) (by kernel_rfl) .n (N_then (W_seq (W_seq (W_region (WL_allI hE (orc := []) (by kernel_rfl) .n (N_then (W_block (W_loop (α := (Int × List (Bool))) (fun n z => strings_makeASCIISet_l1 chars1 n z.1 z.2 = some (rz1, rz2)) (fun z => ⟨[(0, SS chars1), (2, .bp 2 []), (4, I64 (z.1))], [(2, .blk (.arr 256 .bool) (z.2) 110)], []⟩) ?_ (k := k) (x := ((0 : Int), (List.replicate 256 false))) h))))))))))
    clear h
    rintro fuel1 ⟨i1, blk1⟩ h
    cases fuel1 with
    | zero => exact absurd (show none = some _ from h) (by simp)
    | succ fuel1 =>
      have h : strings_makeASCIISet_b1 chars1 (strings_makeASCIISet_l1 chars1 fuel1) i1 blk1 = some (rz1, rz2) := h
      unfold strings_makeASCIISet_b1 at h
      refine W_seq (W_seq (W_region (WL_allC hE [0, 2, 4, 9] [2] [] (orc := []) (by kernel_rfl) .n (N_then (W_cond (b := decide (i1 < (List.length chars1 : Int))) (by kernel_rfl) (fun e1 => ?_) (fun e1 => ?_))))))
      · replace h := ite_t e1 h
        refine W_skip (N_then (W_seq (W_block (W_seq (W_region ?_)))))
        obtain ⟨b1, e2, h⟩ := bind_some h
        refine WL_allC hE [0, 2, 4, 5] [2] [] (orc := [tU8 b1]) (by kernel_rfl) (.c e2 .n) (N_then (W_seq (W_seq (W_region (WL_allC hE [0, 2, 4, 5, 16] [2] [] (orc := []) (by kernel_rfl) .n (N_then (W_cond (b := decide ((128 : Int) ≤ b1)) (by kernel_rfl) (fun e3 => ?_) (fun e3 => ?_))))))))
        · replace h := ite_t e3 h
          refine W_seq (W_region (WL_allI hE (st' := ⟨[(2, .bp 2 []), (3, BB false)], [(2, .blk (.arr 256 .bool) blk1 110)], []⟩) (orc := []) (by kernel_rfl) .n (N_then (W_ret (N_then_ret (N_block_ret (N_then_ret (N_then_ret (N_block_ret (N_then_ret ?_))))))))))
          cases h
          exact N_end (.inl rfl) (by kernel_rfl)
        · replace h := ite_f e3 h
          refine W_skip (N_then (W_region ?_))
          obtain ⟨_, e5, h⟩ := bind_some h
          replace e5 := chk_some e5
          obtain ⟨x1, e4, h⟩ := bind_some h
          exact WL_allC hE [0, 2, 4] [2] [] (orc := [tB x1]) (by kernel_rfl) (.c e5 (.c e4 .n)) (N_block (N_then (W_region (WL_allI hE (orc := []) (by kernel_rfl) .n (N_round (wi64 (i1 + (1 : Int)), List.set blk1 (b1).toNat true) (Nat.lt_succ_self _) h)))))
      · replace h := ite_f e1 h
        refine W_exit (N_then_exit (N_then_exit (N_block_exit (N_then (W_seq (W_region (WL_allC hE [2, 3] [2] [] (orc := []) (by kernel_rfl) .n (N_then (W_ret ?_)))))))))
        cases h
        exact N_end (.inl rfl) (by kernel_rfl)

def C_strings_asciiSet_contains (k : Nat) : FnC := ⟨true, 1, [], fun | [⟨(.ptr (.arr 256 .bool)), as1⟩, ⟨(.int .u8), c1⟩], [⟨.bool, rz⟩] => strings_asciiSet_contains k as1 c1 = some rz | _, _ => False⟩
noncomputable def E_strings_asciiSet_contains (k : Nat) : Env := ⟨Tryd.prog, Gn, 10, []⟩
theorem c_strings_asciiSet_contains (k : Nat) : Contract Tryd.prog Gn 61 (C_strings_asciiSet_contains k) := by
  refine contract_of Gn_stable (fn := Tryd.f61) Tryd.func61 (by kernel_rfl) rfl ?_ ?_
  · intro xs rs h
    unfold C_strings_asciiSet_contains at h
    simp only at h
    split at h
    · exact ⟨by show 2 ≤ _; rw [Tryd.ntmps61]; decide, rfl, fun _ u hu => by simp at hu; (rcases hu with rfl) <;> rfl⟩
    · exact h.elim
  · intro w0 M xs rs hG h
    unfold C_strings_asciiSet_contains at h
    simp only at h
    split at h
    case h_2 => exact h.elim
    rename_i as1 c1 rz
    change List (Bool) at as1
    change Int at c1
    change Bool at rz
    have hE : EnvOK (E_strings_asciiSet_contains k) ⟨Tryd.prog, Tryd.f61.ntmps, w0, M, fun _ => False, fun _ => undef⟩ := (EnvOK.nil rfl Tryd.ntmps61 hG)
    unfold strings_asciiSet_contains at h
    refine W_seq (W_region (WL_allC hE [0, 1] [] [] (orc := []) (by kernel_rfl) .n (N_then (W_seq (W_region ?_)))))
    obtain ⟨x1, e1, h⟩ := bind_some h
    refine WL_allC hE [4] [] [] (orc := [tB x1]) (by kernel_rfl) (.c e1 .n) (N_then (W_ret ?_))
    cases h
    exact N_end (.inl rfl) (by kernel_rfl)

def C_strings_trimRightASCII (k : Nat) : FnC := ⟨true, 1, [], fun | [⟨.str, s1⟩, ⟨(.ptr (.arr 256 .bool)), as1⟩], [⟨.str, rz⟩] => strings_trimRightASCII k s1 as1 = some rz | _, _ => False⟩
noncomputable def E_strings_trimRightASCII (k : Nat) : Env := ⟨Tryd.prog, Gn, 22, [(61, C_strings_asciiSet_contains k)]⟩
theorem c_strings_trimRightASCII (k : Nat) : Contract Tryd.prog Gn 52 (C_strings_trimRightASCII k) := by
  refine contract_of Gn_stable (fn := Tryd.f52) Tryd.func52 (by kernel_rfl) rfl ?_ ?_
  · intro xs rs h
    unfold C_strings_trimRightASCII at h
    simp only at h
    split at h
    · exact ⟨by show 2 ≤ _; rw [Tryd.ntmps52]; decide, rfl, fun _ u hu => by simp at hu; (rcases hu with rfl) <;> rfl⟩
    · exact h.elim
  · intro w0 M xs rs hG h
    unfold C_strings_trimRightASCII at h
    simp only at h
    split at h
    case h_2 => exact h.elim
    rename_i s1 as1 rz
    change List UInt8 at s1
    change List (Bool) at as1
    change List UInt8 at rz
    have hE : EnvOK (E_strings_trimRightASCII k) ⟨Tryd.prog, Tryd.f52.ntmps, w0, M, fun _ => False, fun _ => undef⟩ := (EnvOK.cons (c_strings_asciiSet_contains k) (EnvOK.nil rfl Tryd.ntmps52 hG))
    unfold strings_trimRightASCII at h
    refine W_seq (W_region (WL_allC hE [0, 1] [] [] (orc := []) (by kernel_rfl) .n (N_then (W_join (α := List UInt8) (fun z => strings_trimRightASCII_j1 z = some rz) (fun s2 => ⟨[(0, SS s2)], [], []⟩) ?_ (fun hJ1 => ?_)))))
    · rintro s2 h
      unfold strings_trimRightASCII_j1 at h
      refine W_seq (W_region (WL_allC hE [4] [] [] (orc := []) (by kernel_rfl) .n (N_then (W_ret ?_))))
      cases h
      exact N_end (.inl rfl) (by kernel_rfl)
    refine W_block (W_normI (by kernel_rfl) (W_loop (α := List UInt8) (fun n z => strings_trimRightASCII_l1 k as1 n z = some rz) (fun s3 => ⟨[(0, SS s3), (1, .vptr (.arr 256 .bool) as1)], [], []⟩) ?_ (k := k) (x := s1) h))
    clear h
    rintro fuel1 s3 h
    cases fuel1 with
    | zero => exact absurd (show none = some _ from h) (by simp)
    | succ fuel1 =>
      have h : strings_trimRightASCII_b1 k as1 (strings_trimRightASCII_l1 k as1 fuel1) s3 = some rz := h
      unfold strings_trimRightASCII_b1 at h
      refine W_seq (W_seq (W_region (WL_allC hE [0, 1, 7] [] [] (orc := []) (by kernel_rfl) .n (N_then (W_cond (b := decide ((0 : Int) < (List.length s3 : Int))) (by kernel_rfl) (fun e1 => ?_) (fun e1 => ?_))))))
      · replace h := ite_t e1 h
        refine W_skip (N_then (W_block (W_seq (W_seq (W_region ?_)))))
        obtain ⟨b1, e2, h⟩ := bind_some h
        obtain ⟨v1, e3, h⟩ := bind_some h
        refine WL_allC hE [0, 1, 15] [] [] (orc := [tU8 b1, tB v1]) (by kernel_rfl) (.c e2 (.c e3 .n)) (N_then (W_cond (b := !v1) (by kernel_rfl) (fun e4 => ?_) (fun e4 => ?_)))
        · replace h := ite_t e4 h
          exact W_exit (N_then_exit (N_block_out rfl (N_then_exit (N_block_exit (N_normI (by kernel_rfl) (hJ1 s3 h))))))
        · replace h := ite_f e4 h
          refine W_skip (N_then (W_region ?_))
          obtain ⟨s4, e5, h⟩ := bind_some h
          exact WL_allI hE (orc := [tS s4]) (by kernel_rfl) (.c e5 .n) (N_block (N_round s4 (Nat.lt_succ_self _) h))
      · replace h := ite_f e1 h
        exact W_exit (N_then_exit (N_then_exit (N_block_exit (N_normI (by kernel_rfl) (hJ1 s3 h)))))

def C_strings_trimLeftASCII (k : Nat) : FnC := ⟨true, 1, [], fun | [⟨.str, s1⟩, ⟨(.ptr (.arr 256 .bool)), as1⟩], [⟨.str, rz⟩] => strings_trimLeftASCII k s1 as1 = some rz | _, _ => False⟩
noncomputable def E_strings_trimLeftASCII (k : Nat) : Env := ⟨Tryd.prog, Gn, 16, [(61, C_strings_asciiSet_contains k)]⟩
theorem c_strings_trimLeftASCII (k : Nat) : Contract Tryd.prog Gn 51 (C_strings_trimLeftASCII k) := by
  refine contract_of Gn_stable (fn := Tryd.f51) Tryd.func51 (by kernel_rfl) rfl ?_ ?_
  · intro xs rs h
    unfold C_strings_trimLeftASCII at h
    simp only at h
    split at h
    · exact ⟨by show 2 ≤ _; rw [Tryd.ntmps51]; decide, rfl, fun _ u hu => by simp at hu; (rcases hu with rfl) <;> rfl⟩
    · exact h.elim
  · intro w0 M xs rs hG h
    unfold C_strings_trimLeftASCII at h
    simp only at h
    split at h
    case h_2 => exact h.elim
    rename_i s1 as1 rz
    change List UInt8 at s1
    change List (Bool) at as1
    change List UInt8 at rz
    have hE : EnvOK (E_strings_trimLeftASCII k) ⟨Tryd.prog, Tryd.f51.ntmps, w0, M, fun _ => False, fun _ => undef⟩ := (EnvOK.cons (c_strings_asciiSet_contains k) (EnvOK.nil rfl Tryd.ntmps51 hG))
    unfold strings_trimLeftASCII at h
    refine W_seq (W_region (WL_allC hE [0, 1] [] [] (orc := []) (by kernel_rfl) .n (N_then (W_join (α := List UInt8) (fun z => strings_trimLeftASCII_j1 z = some rz) (fun s2 => ⟨[(0, SS s2)], [], []⟩) ?_ (fun hJ1 => ?_)))))
    · rintro s2 h
      unfold strings_trimLeftASCII_j1 at h
      refine W_seq (W_region (WL_allC hE [4] [] [] (orc := []) (by kernel_rfl) .n (N_then (W_ret ?_))))
      cases h
      exact N_end (.inl rfl) (by kernel_rfl)
    refine W_block (W_normI (by kernel_rfl) (W_loop (α := List UInt8) (fun n z => strings_trimLeftASCII_l1 k as1 n z = some rz) (fun s3 => ⟨[(0, SS s3), (1, .vptr (.arr 256 .bool) as1)], [], []⟩) ?_ (k := k) (x := s1) h))
    clear h
    rintro fuel1 s3 h
    cases fuel1 with
    | zero => exact absurd (show none = some _ from h) (by simp)
    | succ fuel1 =>
      have h : strings_trimLeftASCII_b1 k as1 (strings_trimLeftASCII_l1 k as1 fuel1) s3 = some rz := h
      unfold strings_trimLeftASCII_b1 at h
      refine W_seq (W_seq (W_region (WL_allC hE [0, 1, 7] [] [] (orc := []) (by kernel_rfl) .n (N_then (W_cond (b := decide ((0 : Int) < (List.length s3 : Int))) (by kernel_rfl) (fun e1 => ?_) (fun e1 => ?_))))))
      · replace h := ite_t e1 h
        refine W_skip (N_then (W_block (W_seq (W_seq (W_region ?_)))))
        obtain ⟨b1, e2, h⟩ := bind_some h
        obtain ⟨v1, e3, h⟩ := bind_some h
        refine WL_allC hE [0, 1, 12] [] [] (orc := [tU8 b1, tB v1]) (by kernel_rfl) (.c e2 (.c e3 .n)) (N_then (W_cond (b := !v1) (by kernel_rfl) (fun e4 => ?_) (fun e4 => ?_)))
        · replace h := ite_t e4 h
          exact W_exit (N_then_exit (N_block_out rfl (N_then_exit (N_block_exit (N_normI (by kernel_rfl) (hJ1 s3 h))))))
        · replace h := ite_f e4 h
          refine W_skip (N_then (W_region ?_))
          obtain ⟨s4, e5, h⟩ := bind_some h
          exact WL_allI hE (orc := [tS s4]) (by kernel_rfl) (.c e5 .n) (N_block (N_round s4 (Nat.lt_succ_self _) h))
      · replace h := ite_f e1 h
        exact W_exit (N_then_exit (N_then_exit (N_block_exit (N_normI (by kernel_rfl) (hJ1 s3 h)))))

def C_strings_trimRightUnicode (k : Nat) : FnC := ⟨true, 1, [], fun | [⟨.str, s1⟩, ⟨.str, cutset1⟩], [⟨.str, rz⟩] => strings_trimRightUnicode k s1 cutset1 = some rz | _, _ => False⟩
noncomputable def E_strings_trimRightUnicode (k : Nat) : Env := ⟨Tryd.prog, Gn, 34, []⟩
theorem c_strings_trimRightUnicode (k : Nat) : Contract Tryd.prog Gn 54 (C_strings_trimRightUnicode k) := by
  refine contract_of Gn_stable (fn := Tryd.f54) Tryd.func54 (by kernel_rfl) rfl ?_ ?_
  · intro xs rs h
    unfold C_strings_trimRightUnicode at h
    simp only at h
    split at h
    · exact ⟨by show 2 ≤ _; rw [Tryd.ntmps54]; decide, rfl, fun _ u hu => by simp at hu; (rcases hu with rfl) <;> rfl⟩
    · exact h.elim
  · intro w0 M xs rs hG h
    unfold C_strings_trimRightUnicode at h
    simp only at h
    split at h
    case h_2 => exact h.elim
    rename_i s1 cutset1 rz
    change List UInt8 at s1
    change List UInt8 at cutset1
    change List UInt8 at rz
    have hE : EnvOK (E_strings_trimRightUnicode k) ⟨Tryd.prog, Tryd.f54.ntmps, w0, M, fun _ => False, fun _ => undef⟩ := (EnvOK.nil rfl Tryd.ntmps54 hG)
    unfold strings_trimRightUnicode at h
    cases h

def C_strings_trimLeftUnicode (k : Nat) : FnC := ⟨true, 1, [], fun | [⟨.str, s1⟩, ⟨.str, cutset1⟩], [⟨.str, rz⟩] => strings_trimLeftUnicode k s1 cutset1 = some rz | _, _ => False⟩
noncomputable def E_strings_trimLeftUnicode (k : Nat) : Env := ⟨Tryd.prog, Gn, 23, []⟩
theorem c_strings_trimLeftUnicode (k : Nat) : Contract Tryd.prog Gn 53 (C_strings_trimLeftUnicode k) := by
  refine contract_of Gn_stable (fn := Tryd.f53) Tryd.func53 (by kernel_rfl) rfl ?_ ?_
  · intro xs rs h
    unfold C_strings_trimLeftUnicode at h
    simp only at h
    split at h
    · exact ⟨by show 2 ≤ _; rw [Tryd.ntmps53]; decide, rfl, fun _ u hu => by simp at hu; (rcases hu with rfl) <;> rfl⟩
    · exact h.elim
  · intro w0 M xs rs hG h
    unfold C_strings_trimLeftUnicode at h
    simp only at h
    split at h
    case h_2 => exact h.elim
    rename_i s1 cutset1 rz
    change List UInt8 at s1
    change List UInt8 at cutset1
    change List UInt8 at rz
    have hE : EnvOK (E_strings_trimLeftUnicode k) ⟨Tryd.prog, Tryd.f53.ntmps, w0, M, fun _ => False, fun _ => undef⟩ := (EnvOK.nil rfl Tryd.ntmps53 hG)
    unfold strings_trimLeftUnicode at h
    cases h

def C_strings_Trim (k : Nat) : FnC := ⟨true, 1, [], fun | [⟨.str, s1⟩, ⟨.str, cutset1⟩], [⟨.str, rz⟩] => strings_Trim k s1 cutset1 = some rz | _, _ => False⟩
noncomputable def E_strings_Trim (k : Nat) : Env := ⟨Tryd.prog, Gn, 43, [(49, C_strings_trimRightByte k), (48, C_strings_trimLeftByte k), (50, C_strings_makeASCIISet k), (52, C_strings_trimRightASCII k), (51, C_strings_trimLeftASCII k), (54, C_strings_trimRightUnicode k), (53, C_strings_trimLeftUnicode k)]⟩
theorem c_strings_Trim (k : Nat) : Contract Tryd.prog Gn 41 (C_strings_Trim k) := by
  refine contract_of Gn_stable (fn := Tryd.f41) Tryd.func41 (by kernel_rfl) rfl ?_ ?_
  · intro xs rs h
    unfold C_strings_Trim at h
    simp only at h
    split at h
    · exact ⟨by show 2 ≤ _; rw [Tryd.ntmps41]; decide, rfl, fun _ u hu => by simp at hu; (rcases hu with rfl) <;> rfl⟩
    · exact h.elim
  · intro w0 M xs rs hG h
    unfold C_strings_Trim at h
    simp only at h
    split at h
    case h_2 => exact h.elim
    rename_i s1 cutset1 rz
    change List UInt8 at s1
    change List UInt8 at cutset1
    change List UInt8 at rz
    have hE : EnvOK (E_strings_Trim k) ⟨Tryd.prog, Tryd.f41.ntmps, w0, M, fun _ => False, fun _ => undef⟩ := (EnvOK.cons (c_strings_trimRightByte k) (EnvOK.cons (c_strings_trimLeftByte k) (EnvOK.cons (c_strings_makeASCIISet k) (EnvOK.cons (c_strings_trimRightASCII k) (EnvOK.cons (c_strings_trimLeftASCII k) (EnvOK.cons (c_strings_trimRightUnicode k) (EnvOK.cons (c_strings_trimLeftUnicode k) (EnvOK.nil rfl Tryd.ntmps41 hG))))))))
    unfold strings_Trim at h
    refine W_seq (W_region (WL_allC hE [0, 1] [] [] (orc := []) (by kernel_rfl) .n (N_then (W_seq (W_seq (W_region (WL_tkC hE 3 [0, 1, 9] [] [] (orc := []) (by kernel_rfl) .n (WL_join (α := Bool) (fun z => strings_Trim_j1 k s1 cutset1 z = some rz) (fun t1 => ⟨[(0, SS s1), (1, SS cutset1), (12, BB t1)], [], []⟩) 3 ?_ (fun hJ1 => ?_)))))))))
    · rintro t1 h
      unfold strings_Trim_j1 at h
      refine WL_nil (N_then (W_cond (b := t1) (by kernel_rfl) (fun e1 => ?_) (fun e1 => ?_)))
      · replace h := ite_t e1 h
        refine W_seq (W_region (WL_allC hE [4] [] [] (orc := []) (by kernel_rfl) .n (N_then (W_ret (N_then_ret ?_)))))
        cases h
        exact N_end (.inl rfl) (by kernel_rfl)
      · replace h := ite_f e1 h
        refine W_skip (N_then (W_seq (W_seq (W_region (WL_tkC hE 4 [0, 1, 17] [] [] (orc := []) (by kernel_rfl) .n (WL_join (α := Bool) (fun z => strings_Trim_j2 k cutset1 s1 z = some rz) (fun t2 => ⟨[(0, SS s1), (1, SS cutset1), (21, BB t2)], [], []⟩) 4 ?_ (fun hJ2 => ?_)))))))
        · rintro t2 h
          unfold strings_Trim_j2 at h
          refine WL_nil (N_then (W_cond (b := t2) (by kernel_rfl) (fun e2 => ?_) (fun e2 => ?_)))
          · replace h := ite_t e2 h
            refine W_seq (W_draw hE (by kernel_rfl) (by kernel_rfl) ?_)
            obtain ⟨b1, e3, h⟩ := bind_some h
            obtain ⟨v1, e4, h⟩ := bind_some h
            obtain ⟨b2, e5, h⟩ := bind_some h
            obtain ⟨v2, e6, h⟩ := bind_some h
            refine WD_allC hE [4] [] [] (orc := [tU8 b1, tS v1, tU8 b2, tS v2]) (by kernel_rfl) (.c e3 (.c e4 (.c e5 (.c e6 .n)))) (N_then (W_ret (N_then_ret ?_)))
            cases h
            exact N_end (.inl rfl) (by kernel_rfl)
          · replace h := ite_f e2 h
            refine W_skip (N_then (W_seq (W_seq (W_region ?_))))
            obtain ⟨v3, e7, h⟩ := bind_some h
            refine WL_allC hE [0, 1, 5, 6] [5] [] (orc := [⟨(.arr 256 .bool), v3.1⟩, tB v3.2]) (by kernel_rfl) (.c e7 .n) (N_then (W_seq (W_region (WL_allC hE [0, 1, 5, 34] [5] [] (orc := []) (by kernel_rfl) .n (N_then (W_cond (b := v3.2) (by kernel_rfl) (fun e8 => ?_) (fun e8 => ?_)))))))
            · replace h := ite_t e8 h
              refine W_seq (W_region ?_)
              obtain ⟨v4, e9, h⟩ := bind_some h
              obtain ⟨v5, e10, h⟩ := bind_some h
              refine WL_allI hE (st' := ⟨[(4, SS v5)], [], []⟩) (orc := [tS v4, tS v5]) (by kernel_rfl) (.c e9 (.c e10 .n)) (N_then (W_ret (N_then_ret ?_)))
              cases h
              exact N_end (.inl rfl) (by kernel_rfl)
            · replace h := ite_f e8 h
              refine W_skip (N_then (W_seq (W_region ?_)))
              obtain ⟨v6, e11, h⟩ := bind_some h
              obtain ⟨v7, e12, h⟩ := bind_some h
              refine WL_allC hE [4] [] [] (orc := [tS v6, tS v7]) (by kernel_rfl) (.c e11 (.c e12 .n)) (N_then (W_ret ?_))
              cases h
              exact N_end (.inl rfl) (by kernel_rfl)
        refine WL_splitC 17 (b := (List.length cutset1 : Int) == (1 : Int)) (by kernel_rfl) (fun e13 => ?_) (fun e13 => ?_)
        · replace h := ite_t e13 h
          obtain ⟨b3, e14, h⟩ := bind_some h
          exact WL_allI hE (orc := [tU8 b3]) (by kernel_rfl) (.c e14 .n) (hJ2 (decide (b3 < (128 : Int))) h)
        · replace h := ite_f e13 h
          exact WL_allI hE (orc := []) (by kernel_rfl) .n (hJ2 false h)
    refine WL_splitC 9 (b := s1 == ([] : List UInt8)) (by kernel_rfl) (fun e15 => ?_) (fun e15 => ?_)
    · rw [or_t e15] at h
      exact WL_allI hE (orc := []) (by kernel_rfl) .n (hJ1 true h)
    · rw [or_f e15] at h
      exact WL_allI hE (orc := []) (by kernel_rfl) .n (hJ1 (cutset1 == ([] : List UInt8)) h)

def C_feature_named (k : Nat) : FnC := ⟨true, 1, [], fun | [⟨.str, s1⟩], [⟨.bool, rz⟩] => feature_named k s1 = some rz | _, _ => False⟩
noncomputable def E_feature_named (k : Nat) : Env := ⟨Tryd.prog, Gn, 15, [(41, C_strings_Trim k)]⟩
theorem c_feature_named (k : Nat) : Contract Tryd.prog Gn 35 (C_feature_named k) := by
  refine contract_of Gn_stable (fn := Tryd.f35) Tryd.func35 (by kernel_rfl) rfl ?_ ?_
  · intro xs rs h
    unfold C_feature_named at h
    simp only at h
    split at h
    · exact ⟨by show 1 ≤ _; rw [Tryd.ntmps35]; decide, rfl, fun _ u hu => by simp at hu; (rcases hu with rfl) <;> rfl⟩
    · exact h.elim
  · intro w0 M xs rs hG h
    unfold C_feature_named at h
    simp only at h
    split at h
    case h_2 => exact h.elim
    rename_i s1 rz
    change List UInt8 at s1
    change Bool at rz
    have hE : EnvOK (E_feature_named k) ⟨Tryd.prog, Tryd.f35.ntmps, w0, M, fun _ => False, fun _ => undef⟩ := (EnvOK.cons (c_strings_Trim k) (EnvOK.nil rfl Tryd.ntmps35 hG))
    unfold feature_named at h
    refine W_seq (W_region (WL_allC hE [0] [] [] (orc := []) (by kernel_rfl) .n (N_then (W_seq (W_region (WL_tkC hE 3 [0, 5] [] [] (orc := []) (by kernel_rfl) .n (WL_join (α := Bool) (fun z => feature_named_j1 k s1 z = some rz) (fun t1 => ⟨[(0, SS s1), (9, BB t1)], [], []⟩) 4 ?_ (fun hJ1 => ?_))))))))
    · rintro t1 h
      unfold feature_named_j1 at h
      refine WL_tkC hE 1 [0, 10] [] [] (orc := []) (by kernel_rfl) .n (WL_join (α := Bool) (fun z => feature_named_j2 z = some rz) (fun t2 => ⟨[(14, BB t2)], [], []⟩) 4 ?_ (fun hJ2 => ?_))
      · rintro t2 h
        unfold feature_named_j2 at h
        refine WL_allC hE [2] [] [] (orc := []) (by kernel_rfl) .n (N_then (W_ret ?_))
        cases h
        exact N_end (.inl rfl) (by kernel_rfl)
      refine WL_splitC 10 (b := t1) (by kernel_rfl) (fun e1 => ?_) (fun e1 => ?_)
      · replace h := ite_t e1 h
        obtain ⟨v1, e2, h⟩ := bind_some h
        exact WL_allI hE (orc := [tS v1]) (by kernel_rfl) (.c e2 .n) (hJ2 (v1 == ([] : List UInt8)) h)
      · replace h := ite_f e1 h
        exact WL_allI hE (orc := []) (by kernel_rfl) .n (hJ2 false h)
    refine WL_splitC 5 (b := !(s1 == ([] : List UInt8))) (by kernel_rfl) (fun e3 => ?_) (fun e3 => ?_)
    · rw [and_t e3] at h
      exact WL_allI hE (orc := []) (by kernel_rfl) .n (hJ1 (decide ((List.length s1 : Int) ≤ (32 : Int))) h)
    · rw [and_f e3] at h
      exact WL_allI hE (orc := []) (by kernel_rfl) .n (hJ1 false h)

def C_feature_lettered (k : Nat) : FnC := ⟨true, 1, [], fun | [⟨(.int .i32), r1⟩], [⟨.bool, rz⟩] => feature_lettered k r1 = some rz | _, _ => False⟩
noncomputable def E_feature_lettered (k : Nat) : Env := ⟨Tryd.prog, Gn, 26, []⟩
theorem c_feature_lettered (k : Nat) : Contract Tryd.prog Gn 36 (C_feature_lettered k) := by
  refine contract_of Gn_stable (fn := Tryd.f36) Tryd.func36 (by kernel_rfl) rfl ?_ ?_
  · intro xs rs h
    unfold C_feature_lettered at h
    simp only at h
    split at h
    · exact ⟨by show 1 ≤ _; rw [Tryd.ntmps36]; decide, rfl, fun _ u hu => by simp at hu; (rcases hu with rfl) <;> rfl⟩
    · exact h.elim
  · intro w0 M xs rs hG h
    unfold C_feature_lettered at h
    simp only at h
    split at h
    case h_2 => exact h.elim
    rename_i r1 rz
    change Int at r1
    change Bool at rz
    have hE : EnvOK (E_feature_lettered k) ⟨Tryd.prog, Tryd.f36.ntmps, w0, M, fun _ => False, fun _ => undef⟩ := (EnvOK.nil rfl Tryd.ntmps36 hG)
    unfold feature_lettered at h
    refine W_seq (W_region (WL_allC hE [0] [] [] (orc := []) (by kernel_rfl) .n (N_then (W_seq (W_block (W_join (α := Bool) (fun z => feature_lettered_j1 r1 z = some rz) (fun t1 => ⟨[(0, I32 r1), (3, BB t1)], [], []⟩) ?_ (fun hJ2 => ?_)))))))
    · rintro t1 h
      unfold feature_lettered_j1 at h
      refine W_cond (b := t1) (by kernel_rfl) (fun e1 => ?_) (fun e1 => ?_)
      · replace h := ite_t e1 h
        refine W_seq (W_region (WL_allC hE [2] [] [] (orc := []) (by kernel_rfl) .n (N_then (W_ret (N_block_ret (N_then_ret ?_))))))
        cases h
        exact N_end (.inl rfl) (by kernel_rfl)
      · replace h := ite_f e1 h
        refine W_join (α := Bool) (fun z => feature_lettered_j2 z = some rz) (fun t2 => ⟨[(16, BB t2)], [], []⟩) ?_ (fun hJ2 => ?_)
        · rintro t2 h
          unfold feature_lettered_j2 at h
          refine W_cond (b := t2) (by kernel_rfl) (fun e2 => ?_) (fun e2 => ?_)
          · replace h := ite_t e2 h
            refine W_seq (W_region (WL_allC hE [2] [] [] (orc := []) (by kernel_rfl) .n (N_then (W_ret (N_block_ret (N_then_ret ?_))))))
            cases h
            exact N_end (.inl rfl) (by kernel_rfl)
          · replace h := ite_f e2 h
            refine W_skip (N_block (N_then (W_seq (W_region (WL_allC hE [2] [] [] (orc := []) (by kernel_rfl) .n (N_then (W_ret ?_)))))))
            cases h
            exact N_end (.inl rfl) (by kernel_rfl)
        refine W_seq (W_region (WL_allC hE [0, 16] [] [] (orc := []) (by kernel_rfl) .n (N_then (W_cond (b := decide (r1 < (161 : Int))) (by kernel_rfl) (fun e3 => ?_) (fun e3 => ?_)))))
        · replace h := ite_t e3 h
          exact W_skip (N_normI (by kernel_rfl) (hJ2 (decide (r1 < (161 : Int))) h))
        · replace h := ite_f e3 h
          refine W_seq (W_region (WL_allI hE (st' := ⟨[(0, I32 r1), (16, BB (decide ((1114111 : Int) < r1)))], [], []⟩) (orc := []) (by kernel_rfl) .n (N_then (W_cond (b := decide ((1114111 : Int) < r1)) (by kernel_rfl) (fun e4 => ?_) (fun e4 => ?_)))))
          · replace h := ite_t e4 h
            exact W_skip (N_normI (by kernel_rfl) (hJ2 (decide ((1114111 : Int) < r1)) h))
          · replace h := ite_f e4 h
            refine W_seq (W_region (WL_allC hE [0, 16] [] [] (orc := []) (by kernel_rfl) .n (N_then (W_cond (b := r1 == (65533 : Int)) (by kernel_rfl) (fun e5 => ?_) (fun e5 => ?_)))))
            · replace h := ite_t e5 h
              exact W_skip (N_normI (by kernel_rfl) (hJ2 (r1 == (65533 : Int)) h))
            · replace h := ite_f e5 h
              refine W_region ?_
              obtain ⟨_, e6, h⟩ := bind_some h
              replace e6 := chk_some e6
              exact WL_allI hE (orc := []) (by kernel_rfl) (.c e6 .n) (hJ2 ((Int.fdiv r1 (2 ^ min ((11 : Int)).toNat 32)) == (27 : Int)) h)
    refine W_seq (W_region (WL_tkC hE 3 [0, 6] [] [] (orc := []) (by kernel_rfl) .n (WL_join (α := Bool) (fun z => feature_lettered_j3 r1 z = some rz) (fun t3 => ⟨[(0, I32 r1), (9, BB t3)], [], []⟩) 3 ?_ (fun hJ3 => ?_))))
    · rintro t3 h
      unfold feature_lettered_j3 at h
      refine WL_allC hE [0, 3] [] [] (orc := []) (by kernel_rfl) .n (N_then (W_cond (b := t3) (by kernel_rfl) (fun e7 => ?_) (fun e7 => ?_)))
      · replace h := ite_t e7 h
        exact W_skip (N_normI (by kernel_rfl) (hJ2 t3 h))
      · replace h := ite_f e7 h
        refine W_region (WL_tkC hE 3 [0, 12] [] [] (orc := []) (by kernel_rfl) .n (WL_join (α := Bool) (fun z => feature_lettered_j4 r1 z = some rz) (fun t4 => ⟨[(0, I32 r1), (15, BB t4)], [], []⟩) 3 ?_ (fun hJ4 => ?_)))
        · rintro t4 h
          unfold feature_lettered_j4 at h
          exact WL_allI hE (orc := []) (by kernel_rfl) .n (hJ2 t4 h)
        refine WL_splitC 12 (b := decide ((65 : Int) ≤ r1)) (by kernel_rfl) (fun e8 => ?_) (fun e8 => ?_)
        · rw [and_t e8] at h
          exact WL_allI hE (orc := []) (by kernel_rfl) .n (hJ4 (decide (r1 ≤ (90 : Int))) h)
        · rw [and_f e8] at h
          exact WL_allI hE (orc := []) (by kernel_rfl) .n (hJ4 false h)
    refine WL_splitC 6 (b := decide ((97 : Int) ≤ r1)) (by kernel_rfl) (fun e9 => ?_) (fun e9 => ?_)
    · rw [and_t e9] at h
      exact WL_allI hE (orc := []) (by kernel_rfl) .n (hJ3 (decide (r1 ≤ (122 : Int))) h)
    · rw [and_f e9] at h
      exact WL_allI hE (orc := []) (by kernel_rfl) .n (hJ3 false h)

def C_feature_within (k : Nat) : FnC := ⟨true, 1, [], fun | [⟨(.pair (.sl .str) (.pair (.sl (.pair (.int .i32) (.pair (.int .u32) (.pair (.int .u32) .unit)))) .unit)), a1⟩, ⟨(.int .u32), plus1⟩, ⟨(.int .u32), minus1⟩], [⟨.bool, rz⟩] => feature_within k a1 plus1 minus1 = some rz | _, _ => False⟩
noncomputable def E_feature_within (k : Nat) : Env := ⟨Tryd.prog, Gn, 21, []⟩
theorem c_feature_within (k : Nat) : Contract Tryd.prog Gn 37 (C_feature_within k) := by
  refine contract_of Gn_stable (fn := Tryd.f37) Tryd.func37 (by kernel_rfl) rfl ?_ ?_
  · intro xs rs h
    unfold C_feature_within at h
    simp only at h
    split at h
    · exact ⟨by show 3 ≤ _; rw [Tryd.ntmps37]; decide, rfl, fun _ u hu => by simp at hu; (rcases hu with rfl) <;> rfl⟩
    · exact h.elim
  · intro w0 M xs rs hG h
    unfold C_feature_within at h
    simp only at h
    split at h
    case h_2 => exact h.elim
    rename_i a1 plus1 minus1 rz
    change (List (List UInt8) × List ((Int × Int × Int × Unit)) × Unit) at a1
    change Int at plus1
    change Int at minus1
    change Bool at rz
    have hE : EnvOK (E_feature_within k) ⟨Tryd.prog, Tryd.f37.ntmps, w0, M, fun _ => False, fun _ => undef⟩ := (EnvOK.nil rfl Tryd.ntmps37 hG)
    unfold feature_within at h
    refine W_seq (W_region (WL_allC hE [1, 2, 3] [3] [] (orc := []) (by kernel_rfl) .n (N_then (W_seq (W_region ?_)))))
    obtain ⟨_, e1, h⟩ := bind_some h
    replace e1 := chk_some e1
    refine WL_tkC hE 9 [1, 2, 15] [] [] (orc := []) (by kernel_rfl) (.c e1 .n) (WL_join (α := Bool) (fun z => feature_within_j1 z = some rz) (fun t1 => ⟨[(20, BB t1)], [], []⟩) 5 ?_ (fun hJ1 => ?_))
    · rintro t1 h
      unfold feature_within_j1 at h
      refine WL_allC hE [6] [] [] (orc := []) (by kernel_rfl) .n (N_then (W_ret ?_))
      cases h
      exact N_end (.inl rfl) (by kernel_rfl)
    refine WL_splitC 15 (b := (Int.fdiv (wu32 (BitVec.toNat (BitVec.ofInt 32 plus1 ||| BitVec.ofInt 32 minus1))) (2 ^ min ((List.length a1.1 : Int)).toNat 32)) == (0 : Int)) (by kernel_rfl) (fun e2 => ?_) (fun e2 => ?_)
    · rw [and_t e2] at h
      exact WL_allI hE (orc := []) (by kernel_rfl) .n (hJ1 ((wu32 (BitVec.toNat (BitVec.ofInt 32 plus1 &&& BitVec.ofInt 32 minus1))) == (0 : Int)) h)
    · rw [and_f e2] at h
      exact WL_allI hE (orc := []) (by kernel_rfl) .n (hJ1 false h)

def C_feature_Check (k : Nat) : FnC := ⟨true, 1, [], fun | [⟨(.pair (.sl .str) (.pair (.sl (.pair (.int .i32) (.pair (.int .u32) (.pair (.int .u32) .unit)))) .unit)), a1⟩], [⟨(.int .i64), rz⟩] => feature_Check k a1 = some rz | _, _ => False⟩
noncomputable def E_feature_Check (k : Nat) : Env := ⟨Tryd.prog, Gn, 75, [(35, C_feature_named k), (36, C_feature_lettered k), (37, C_feature_within k)]⟩
theorem c_feature_Check (k : Nat) : Contract Tryd.prog Gn 27 (C_feature_Check k) := by
  refine contract_of Gn_stable (fn := Tryd.f27) Tryd.func27 (by kernel_rfl) rfl ?_ ?_
  · intro xs rs h
    unfold C_feature_Check at h
    simp only at h
    split at h
    · exact ⟨by show 1 ≤ _; rw [Tryd.ntmps27]; decide, rfl, fun _ u hu => by simp at hu; (rcases hu with rfl) <;> rfl⟩
    · exact h.elim
  · intro w0 M xs rs hG h
    unfold C_feature_Check at h
    simp only at h
    split at h
    case h_2 => exact h.elim
    rename_i a1 rz
    change (List (List UInt8) × List ((Int × Int × Int × Unit)) × Unit) at a1
    change Int at rz
    have hE : EnvOK (E_feature_Check k) ⟨Tryd.prog, Tryd.f27.ntmps, w0, M, fun _ => False, fun _ => undef⟩ := (EnvOK.cons (c_feature_named k) (EnvOK.cons (c_feature_lettered k) (EnvOK.cons (c_feature_within k) (EnvOK.nil rfl Tryd.ntmps27 hG))))
    unfold feature_Check at h
    refine W_seq (W_region (WL_allC hE [1] [1] [] (orc := []) (by kernel_rfl) .n (N_then (W_seq (W_seq (W_region (WL_tkC hE 5 [1, 13] [1] [] (orc := []) (by kernel_rfl) .n (WL_join (α := Bool) (fun z => feature_Check_j1 k a1 z = some rz) (fun t1 => ⟨[(1, .ptr 1 0), (18, BB t1)], [(1, .cells [.val (.sl .str) a1.1, .val (.sl (.pair (.int .i32) (.pair (.int .u32) (.pair (.int .u32) .unit)))) a1.2.1] 25)], []⟩) 5 ?_ (fun hJ1 => ?_)))))))))
    · rintro t1 h
      unfold feature_Check_j1 at h
      refine WL_tkC hE 1 [1, 19] [1] [] (orc := []) (by kernel_rfl) .n (WL_join (α := Bool) (fun z => feature_Check_j2 k a1 z = some rz) (fun t2 => ⟨[(1, .ptr 1 0), (24, BB t2)], [(1, .cells [.val (.sl .str) a1.1, .val (.sl (.pair (.int .i32) (.pair (.int .u32) (.pair (.int .u32) .unit)))) a1.2.1] 25)], []⟩) 5 ?_ (fun hJ2 => ?_))
      · rintro t2 h
        unfold feature_Check_j2 at h
        refine WL_nil (N_then (W_cond (b := t2) (by kernel_rfl) (fun e1 => ?_) (fun e1 => ?_)))
        · replace h := ite_t e1 h
          refine W_seq (W_region (WL_allC hE [2] [] [] (orc := []) (by kernel_rfl) .n (N_then (W_ret (N_then_ret ?_)))))
          cases h
          exact N_end (.inl rfl) (by kernel_rfl)
        · replace h := ite_f e1 h
          refine W_skip (N_then (W_seq (W_region (WL_allC hE [1, 3] [1, 25] [] (orc := []) (by kernel_rfl) .n (N_then (W_seq (W_seq (W_region (WL_allI hE (orc := []) (by kernel_rfl) .n (N_then (W_block (W_loop (α := (Int × List (List UInt8 × Bool))) (fun n z => feature_Check_l1 k a1 n z.1 z.2 = some rz) (fun z => ⟨[(1, .ptr 1 0), (3, .iter 25), (27, .val (.sl .str) a1.1), (28, I64 (List.length a1.1 : Int)), (29, I64 (z.1))], [(1, .cells [.val (.sl .str) a1.1, .val (.sl (.pair (.int .i32) (.pair (.int .u32) (.pair (.int .u32) .unit)))) a1.2.1] 25), (25, .mp .str .bool (z.2))], []⟩) ?_ (k := k) (x := ((0 : Int), ([] : List (List UInt8 × Bool)))) h))))))))))))
          clear h
          rintro fuel1 ⟨t3, m1⟩ h
          cases fuel1 with
          | zero => exact absurd (show none = some _ from h) (by simp)
          | succ fuel1 =>
            have h : feature_Check_b1 k a1 (feature_Check_l1 k a1 fuel1) t3 m1 = some rz := h
            unfold feature_Check_b1 at h
            refine W_seq (W_region (WL_allC hE [1, 3, 27, 28, 29, 30] [1, 25] [] (orc := []) (by kernel_rfl) .n (N_then (W_seq (W_cond (b := decide (t3 < (List.length a1.1 : Int))) (by kernel_rfl) (fun e2 => ?_) (fun e2 => ?_))))))
            · replace h := ite_t e2 h
              refine W_skip (N_then (W_seq (W_block (W_seq (W_region ?_)))))
              obtain ⟨x1, e3, h⟩ := bind_some h
              refine WL_allC hE [1, 3, 5, 27, 28, 29] [1, 25] [] (orc := [tS x1]) (by kernel_rfl) (.c e3 .n) (N_then (W_seq (W_seq (W_region ?_))))
              obtain ⟨v1, e4, h⟩ := bind_some h
              refine WL_tkC hE 4 [1, 3, 5, 27, 28, 29, 36] [1, 25] [] (orc := [tB v1]) (by kernel_rfl) (.c e4 .n) (WL_join (α := Bool) (fun z => feature_Check_j3 (feature_Check_l1 k a1 fuel1) t3 m1 x1 z = some rz) (fun t4 => ⟨[(1, .ptr 1 0), (3, .iter 25), (5, SS x1), (27, .val (.sl .str) a1.1), (28, I64 (List.length a1.1 : Int)), (29, I64 t3), (40, BB t4)], [(1, .cells [.val (.sl .str) a1.1, .val (.sl (.pair (.int .i32) (.pair (.int .u32) (.pair (.int .u32) .unit)))) a1.2.1] 25), (25, .mp .str .bool m1)], []⟩) 4 ?_ (fun hJ3 => ?_))
              · rintro t4 h
                unfold feature_Check_j3 at h
                refine WL_nil (N_then (W_cond (b := t4) (by kernel_rfl) (fun e5 => ?_) (fun e5 => ?_)))
                · replace h := ite_t e5 h
                  refine W_seq (W_region (WL_allC hE [2] [] [] (orc := []) (by kernel_rfl) .n (N_then (W_ret (N_then_ret (N_block_ret (N_then_ret (N_then_ret (N_block_ret (N_then_ret ?_))))))))))
                  cases h
                  exact N_end (.inl rfl) (by kernel_rfl)
                · replace h := ite_f e5 h
                  exact W_skip (N_then (W_region (WL_allC hE [1, 3, 27, 28, 29] [1, 25] [] (orc := []) (by kernel_rfl) .n (N_block (N_then (W_region (WL_allI hE (orc := []) (by kernel_rfl) .n (N_round (wi64 (t3 + (1 : Int)), mset (eqEl .str) m1 x1 true) (Nat.lt_succ_self _) h))))))))
              refine WL_splitC 36 (b := !v1) (by kernel_rfl) (fun e6 => ?_) (fun e6 => ?_)
              · rw [or_t e6] at h
                exact WL_allI hE (orc := []) (by kernel_rfl) .n (hJ3 true h)
              · rw [or_f e6] at h
                exact WL_allI hE (orc := []) (by kernel_rfl) .n (hJ3 ((mget (eqEl .str) m1 x1).getD false) h)
            · replace h := ite_f e2 h
              refine W_exit (N_then_exit (N_then_exit (N_block_exit (N_then (W_seq (W_region (WL_allC hE [1, 6] [1, 44] [] (orc := []) (by kernel_rfl) .n (N_then (W_seq (W_seq (W_region (WL_allI hE (orc := []) (by kernel_rfl) .n (N_then (W_block (W_loop (α := (Int × List (Int × Bool))) (fun n z => feature_Check_l2 k a1 n z.1 z.2 = some rz) (fun z => ⟨[(1, .ptr 1 0), (6, .iter 44), (46, .val (.sl (.pair (.int .i32) (.pair (.int .u32) (.pair (.int .u32) .unit)))) a1.2.1), (47, I64 (List.length a1.2.1 : Int)), (48, I64 (z.1))], [(1, .cells [.val (.sl .str) a1.1, .val (.sl (.pair (.int .i32) (.pair (.int .u32) (.pair (.int .u32) .unit)))) a1.2.1] 25), (44, .mp (.int .i32) .bool (z.2))], []⟩) ?_ (k := k) (x := ((0 : Int), ([] : List (Int × Bool)))) h)))))))))))))))
              clear h
              rintro fuel2 ⟨t5, m2⟩ h
              cases fuel2 with
              | zero => exact absurd (show none = some _ from h) (by simp)
              | succ fuel2 =>
                have h : feature_Check_b2 k a1 (feature_Check_l2 k a1 fuel2) t5 m2 = some rz := h
                unfold feature_Check_b2 at h
                refine W_seq (W_region (WL_allC hE [1, 6, 46, 47, 48, 49] [1, 44] [] (orc := []) (by kernel_rfl) .n (N_then (W_seq (W_cond (b := decide (t5 < (List.length a1.2.1 : Int))) (by kernel_rfl) (fun e7 => ?_) (fun e7 => ?_))))))
                · replace h := ite_t e7 h
                  refine W_skip (N_then (W_seq (W_block (W_seq (W_region ?_)))))
                  obtain ⟨x2, e8, h⟩ := bind_some h
                  refine WL_allC hE [1, 6, 8, 46, 47, 48] [1, 8, 44] [] (orc := [⟨(.pair (.int .i32) (.pair (.int .u32) (.pair (.int .u32) .unit))), x2⟩]) (by kernel_rfl) (.c e8 .n) (N_then (W_seq (W_seq (W_region ?_))))
                  obtain ⟨v2, e9, h⟩ := bind_some h
                  refine WL_tkC hE 5 [1, 6, 8, 46, 47, 48, 56] [1, 8, 44] [] (orc := [tB v2]) (by kernel_rfl) (.c e9 .n) (WL_join (α := Bool) (fun z => feature_Check_j4 k (feature_Check_l2 k a1 fuel2) t5 m2 x2 a1 z = some rz) (fun t6 => ⟨[(1, .ptr 1 0), (6, .iter 44), (8, .ptr 8 0), (46, .val (.sl (.pair (.int .i32) (.pair (.int .u32) (.pair (.int .u32) .unit)))) a1.2.1), (47, I64 (List.length a1.2.1 : Int)), (48, I64 t5), (61, BB t6)], [(1, .cells [.val (.sl .str) a1.1, .val (.sl (.pair (.int .i32) (.pair (.int .u32) (.pair (.int .u32) .unit)))) a1.2.1] 25), (8, .cells [I32 x2.1, U32 x2.2.1, U32 x2.2.2.1] 62), (44, .mp (.int .i32) .bool m2)], []⟩) 5 ?_ (fun hJ4 => ?_))
                  · rintro t6 h
                    unfold feature_Check_j4 at h
                    refine WL_tkC hE 1 [1, 6, 8, 46, 47, 48, 62] [1, 8, 44] [] (orc := []) (by kernel_rfl) .n (WL_join (α := Bool) (fun z => feature_Check_j5 (feature_Check_l2 k a1 fuel2) t5 m2 x2 z = some rz) (fun t7 => ⟨[(1, .ptr 1 0), (6, .iter 44), (8, .ptr 8 0), (46, .val (.sl (.pair (.int .i32) (.pair (.int .u32) (.pair (.int .u32) .unit)))) a1.2.1), (47, I64 (List.length a1.2.1 : Int)), (48, I64 t5), (70, BB t7)], [(1, .cells [.val (.sl .str) a1.1, .val (.sl (.pair (.int .i32) (.pair (.int .u32) (.pair (.int .u32) .unit)))) a1.2.1] 25), (8, .cells [I32 x2.1, U32 x2.2.1, U32 x2.2.2.1] 62), (44, .mp (.int .i32) .bool m2)], []⟩) 8 ?_ (fun hJ5 => ?_))
                    · rintro t7 h
                      unfold feature_Check_j5 at h
                      refine WL_nil (N_then (W_cond (b := t7) (by kernel_rfl) (fun e10 => ?_) (fun e10 => ?_)))
                      · replace h := ite_t e10 h
                        refine W_seq (W_region (WL_allC hE [2] [] [] (orc := []) (by kernel_rfl) .n (N_then (W_ret (N_then_ret (N_block_ret (N_then_ret (N_then_ret (N_block_ret (N_then_ret ?_))))))))))
                        cases h
                        exact N_end (.inl rfl) (by kernel_rfl)
                      · replace h := ite_f e10 h
                        exact W_skip (N_then (W_region (WL_allC hE [1, 6, 46, 47, 48] [1, 44] [] (orc := []) (by kernel_rfl) .n (N_block (N_then (W_region (WL_allI hE (orc := []) (by kernel_rfl) .n (N_round (wi64 (t5 + (1 : Int)), mset (eqEl (.int .i32)) m2 x2.1 true) (Nat.lt_succ_self _) h))))))))
                    refine WL_splitC 62 (b := t6) (by kernel_rfl) (fun e11 => ?_) (fun e11 => ?_)
                    · replace h := ite_t e11 h
                      exact WL_allI hE (orc := []) (by kernel_rfl) .n (hJ5 true h)
                    · replace h := ite_f e11 h
                      obtain ⟨v3, e12, h⟩ := bind_some h
                      exact WL_allI hE (orc := [tB v3]) (by kernel_rfl) (.c e12 .n) (hJ5 (!v3) h)
                  refine WL_splitC 56 (b := !v2) (by kernel_rfl) (fun e13 => ?_) (fun e13 => ?_)
                  · rw [or_t e13] at h
                    exact WL_allI hE (orc := []) (by kernel_rfl) .n (hJ4 true h)
                  · rw [or_f e13] at h
                    exact WL_allI hE (orc := []) (by kernel_rfl) .n (hJ4 ((mget (eqEl (.int .i32)) m2 x2.1).getD false) h)
                · replace h := ite_f e7 h
                  refine W_exit (N_then_exit (N_then_exit (N_block_exit (N_then (W_seq (W_region (WL_allC hE [2] [] [] (orc := []) (by kernel_rfl) .n (N_then (W_ret ?_)))))))))
                  cases h
                  exact N_end (.inl rfl) (by kernel_rfl)
      refine WL_splitC 19 (b := t1) (by kernel_rfl) (fun e14 => ?_) (fun e14 => ?_)
      · rw [or_t e14] at h
        exact WL_allI hE (orc := []) (by kernel_rfl) .n (hJ2 true h)
      · rw [or_f e14] at h
        exact WL_allI hE (orc := []) (by kernel_rfl) .n (hJ2 (decide ((128 : Int) < (List.length a1.2.1 : Int))) h)
    refine WL_splitC 13 (b := decide ((24 : Int) < (List.length a1.1 : Int))) (by kernel_rfl) (fun e15 => ?_) (fun e15 => ?_)
    · rw [or_t e15] at h
      exact WL_allI hE (orc := []) (by kernel_rfl) .n (hJ1 true h)
    · rw [or_f e15] at h
      exact WL_allI hE (orc := []) (by kernel_rfl) .n (hJ1 (decide ((List.length a1.2.1 : Int) < (1 : Int))) h)

def C_family_named_c1 (k : Nat) : FnC := ⟨true, 1, [], fun | [⟨(.int .i32), r1⟩], [⟨.bool, rz⟩] => family_named_c1 k r1 = some rz | _, _ => False⟩
noncomputable def E_family_named_c1 (k : Nat) : Env := ⟨Tryd.prog, Gn, 21, []⟩
theorem c_family_named_c1 (k : Nat) : Contract Tryd.prog Gn 43 (C_family_named_c1 k) := by
  refine contract_of Gn_stable (fn := Tryd.f43) Tryd.func43 (by kernel_rfl) rfl ?_ ?_
  · intro xs rs h
    unfold C_family_named_c1 at h
    simp only at h
    split at h
    · exact ⟨by show 1 ≤ _; rw [Tryd.ntmps43]; decide, rfl, fun _ u hu => by simp at hu; (rcases hu with rfl) <;> rfl⟩
    · exact h.elim
  · intro w0 M xs rs hG h
    unfold C_family_named_c1 at h
    simp only at h
    split at h
    case h_2 => exact h.elim
    rename_i r1 rz
    change Int at r1
    change Bool at rz
    have hE : EnvOK (E_family_named_c1 k) ⟨Tryd.prog, Tryd.f43.ntmps, w0, M, fun _ => False, fun _ => undef⟩ := (EnvOK.nil rfl Tryd.ntmps43 hG)
    unfold family_named_c1 at h
    refine W_seq (W_region (WL_allC hE [0] [] [] (orc := []) (by kernel_rfl) .n (N_then (W_seq (W_region (WL_tkC hE 3 [0, 5] [] [] (orc := []) (by kernel_rfl) .n (WL_join (α := Bool) (fun z => family_named_c1_j1 r1 z = some rz) (fun t1 => ⟨[(0, I32 r1), (8, BB t1)], [], []⟩) 3 ?_ (fun hJ1 => ?_))))))))
    · rintro t1 h
      unfold family_named_c1_j1 at h
      refine WL_tkC hE 1 [0, 9] [] [] (orc := []) (by kernel_rfl) .n (WL_join (α := Bool) (fun z => family_named_c1_j2 r1 z = some rz) (fun t2 => ⟨[(0, I32 r1), (16, BB t2)], [], []⟩) 7 ?_ (fun hJ2 => ?_))
      · rintro t2 h
        unfold family_named_c1_j2 at h
        refine WL_tkC hE 1 [0, 17] [] [] (orc := []) (by kernel_rfl) .n (WL_join (α := Bool) (fun z => family_named_c1_j3 z = some rz) (fun t3 => ⟨[(20, BB t3)], [], []⟩) 3 ?_ (fun hJ3 => ?_))
        · rintro t3 h
          unfold family_named_c1_j3 at h
          refine WL_allC hE [2] [] [] (orc := []) (by kernel_rfl) .n (N_then (W_ret ?_))
          cases h
          exact N_end (.inl rfl) (by kernel_rfl)
        refine WL_splitC 17 (b := t2) (by kernel_rfl) (fun e1 => ?_) (fun e1 => ?_)
        · rw [and_t e1] at h
          exact WL_allI hE (orc := []) (by kernel_rfl) .n (hJ3 (r1 != (45 : Int)) h)
        · rw [and_f e1] at h
          exact WL_allI hE (orc := []) (by kernel_rfl) .n (hJ3 false h)
      refine WL_splitC 9 (b := t1) (by kernel_rfl) (fun e2 => ?_) (fun e2 => ?_)
      · replace h := ite_t e2 h
        refine WL_tkC hE 3 [0, 9, 12] [] [] (orc := []) (by kernel_rfl) .n (WL_join (α := Bool) (fun z => family_named_c1_j4 r1 z = some rz) (fun t4 => ⟨[(0, I32 r1), (9, BB true), (15, BB t4)], [], []⟩) 3 ?_ (fun hJ4 => ?_))
        · rintro t4 h
          unfold family_named_c1_j4 at h
          exact WL_allI hE (orc := []) (by kernel_rfl) .n (hJ2 t4 h)
        refine WL_splitC 12 (b := decide (r1 < (48 : Int))) (by kernel_rfl) (fun e3 => ?_) (fun e3 => ?_)
        · rw [or_t e3] at h
          exact WL_allI hE (orc := []) (by kernel_rfl) .n (hJ4 true h)
        · rw [or_f e3] at h
          exact WL_allI hE (orc := []) (by kernel_rfl) .n (hJ4 (decide ((57 : Int) < r1)) h)
      · replace h := ite_f e2 h
        exact WL_allI hE (orc := []) (by kernel_rfl) .n (hJ2 false h)
    refine WL_splitC 5 (b := decide (r1 < (97 : Int))) (by kernel_rfl) (fun e4 => ?_) (fun e4 => ?_)
    · rw [or_t e4] at h
      exact WL_allI hE (orc := []) (by kernel_rfl) .n (hJ1 true h)
    · rw [or_f e4] at h
      exact WL_allI hE (orc := []) (by kernel_rfl) .n (hJ1 (decide ((122 : Int) < r1)) h)

def C_strings_indexFunc_named_c1 (k : Nat) : FnC := ⟨true, 1, [], fun | [⟨.str, s1⟩, ⟨(.fn 43 .unit), f1⟩, ⟨.bool, truth1⟩], [⟨(.int .i64), rz⟩] => strings_indexFunc_named_c1 k s1 f1 truth1 = some rz | _, _ => False⟩
noncomputable def E_strings_indexFunc_named_c1 (k : Nat) : Env := ⟨Tryd.prog, Gn, 21, [(43, C_family_named_c1 k)]⟩
theorem c_strings_indexFunc_named_c1 (k : Nat) : Contract Tryd.prog Gn 65 (C_strings_indexFunc_named_c1 k) := by
  refine contract_of Gn_stable (fn := Tryd.f65) Tryd.func65 (by kernel_rfl) rfl ?_ ?_
  · intro xs rs h
    unfold C_strings_indexFunc_named_c1 at h
    simp only at h
    split at h
    · exact ⟨by show 3 ≤ _; rw [Tryd.ntmps65]; decide, rfl, fun _ u hu => by simp at hu; (rcases hu with rfl) <;> rfl⟩
    · exact h.elim
  · intro w0 M xs rs hG h
    unfold C_strings_indexFunc_named_c1 at h
    simp only at h
    split at h
    case h_2 => exact h.elim
    rename_i s1 f1 truth1 rz
    change List UInt8 at s1
    change (Unit) at f1
    change Bool at truth1
    change Int at rz
    have hE : EnvOK (E_strings_indexFunc_named_c1 k) ⟨Tryd.prog, Tryd.f65.ntmps, w0, M, fun _ => False, fun _ => undef⟩ := (EnvOK.cons (c_family_named_c1 k) (EnvOK.nil rfl Tryd.ntmps65 hG))
    unfold strings_indexFunc_named_c1 at h
    refine W_seq (W_region (WL_allC hE [0, 1, 2] [] [] (orc := []) (by kernel_rfl) .n (N_then (W_seq (W_seq (W_region (WL_allI hE (orc := []) (by kernel_rfl) .n (N_then (W_block (W_loop (α := Nat) (fun n z => strings_indexFunc_named_c1_l1 k s1 truth1 n z = some rz) (fun pos1 => ⟨[(1, .val (.fn 43 .unit) f1), (2, BB truth1), (10, .iter 10)], [(10, .iter s1 pos1)], []⟩) ?_ (k := k) (x := 0) h))))))))))
    clear h
    rintro fuel1 pos1 h
    cases fuel1 with
    | zero => exact absurd (show none = some _ from h) (by simp)
    | succ fuel1 =>
      have h : strings_indexFunc_named_c1_b1 k s1 truth1 (strings_indexFunc_named_c1_l1 k s1 truth1 fuel1) pos1 = some rz := h
      unfold strings_indexFunc_named_c1_b1 at h
      refine W_seq (W_region ?_)
      rcases Bool.eq_false_or_eq_true (decide (pos1 < List.length s1)) with e1 | e1
      · replace h := ite_t e1 h
        refine WL_tkC hE 1 [1, 2, 10, 11] [10] [] (orc := [tB true]) (by kernel_rfl) (.c (of_decide_eq_true e1) .n) (WL_allC hE [1, 2, 10, 11, 12] [10] [] (orc := []) (by kernel_rfl) .n (N_then (W_seq (W_cond_true (by kernel_rfl) (W_skip (N_then (W_block (W_seq (W_region (WL_allC hE [1, 2, 7, 8, 10] [10] [] (orc := []) (by kernel_rfl) .n (N_then (W_seq (W_region ?_)))))))))))))
        obtain ⟨v1, e2, h⟩ := bind_some h
        refine WL_allI hE (st' := ⟨[(1, .val (.fn 43 .unit) f1), (2, BB truth1), (7, I64 (pos1 : Int)), (10, .iter 10), (19, BB (v1 == truth1))], [(10, .iter s1 (pos1 + widthAt s1 pos1))], []⟩) (orc := [tB v1]) (by kernel_rfl) (.c e2 .n) (N_then (W_cond (b := v1 == truth1) (by kernel_rfl) (fun e3 => ?_) (fun e3 => ?_)))
        · replace h := ite_t e3 h
          refine W_seq (W_region (WL_allC hE [6] [] [] (orc := []) (by kernel_rfl) .n (N_then (W_ret (N_block_ret (N_then_ret (N_block_ret (N_then_ret ?_))))))))
          cases h
          exact N_end (.inl rfl) (by kernel_rfl)
        · replace h := ite_f e3 h
          exact W_skip (N_block (N_normI (by kernel_rfl) (N_round (pos1 + widthAt s1 pos1) (Nat.lt_succ_self _) h)))
      · replace h := ite_f e1 h
        refine WL_tk hE 1 [1, 2, 10, 11] [10] [] (st' := ⟨[(1, .val (.fn 43 .unit) f1), (2, BB truth1), (10, .iter 10), (11, .tup [tB false])], [(10, .iter s1 pos1)], []⟩) (orc := [tB false]) (by kernel_rfl) (Obs.all (.c (show List.length s1 ≤ pos1 from Nat.le_of_not_lt (of_decide_eq_false e1)) .n)) (WL_allC hE [1, 2, 10, 11, 12] [10] [] (orc := []) (by kernel_rfl) .n (N_then (W_seq (W_cond_false (by kernel_rfl) (W_exit (N_then_exit (N_then_exit (N_block_exit (N_then (W_seq (W_region (WL_allC hE [6] [] [] (orc := []) (by kernel_rfl) .n (N_then (W_ret ?_))))))))))))))
        cases h
        exact N_end (.inl rfl) (by kernel_rfl)

def C_strings_IndexFunc_named_c1 (k : Nat) : FnC := ⟨true, 1, [], fun | [⟨.str, s1⟩, ⟨(.fn 43 .unit), f1⟩], [⟨(.int .i64), rz⟩] => strings_IndexFunc_named_c1 k s1 f1 = some rz | _, _ => False⟩
noncomputable def E_strings_IndexFunc_named_c1 (k : Nat) : Env := ⟨Tryd.prog, Gn, 8, [(43, C_family_named_c1 k), (65, C_strings_indexFunc_named_c1 k)]⟩
theorem c_strings_IndexFunc_named_c1 (k : Nat) : Contract Tryd.prog Gn 55 (C_strings_IndexFunc_named_c1 k) := by
  refine contract_of Gn_stable (fn := Tryd.f55) Tryd.func55 (by kernel_rfl) rfl ?_ ?_
  · intro xs rs h
    unfold C_strings_IndexFunc_named_c1 at h
    simp only at h
    split at h
    · exact ⟨by show 2 ≤ _; rw [Tryd.ntmps55]; decide, rfl, fun _ u hu => by simp at hu; (rcases hu with rfl) <;> rfl⟩
    · exact h.elim
  · intro w0 M xs rs hG h
    unfold C_strings_IndexFunc_named_c1 at h
    simp only at h
    split at h
    case h_2 => exact h.elim
    rename_i s1 f1 rz
    change List UInt8 at s1
    change (Unit) at f1
    change Int at rz
    have hE : EnvOK (E_strings_IndexFunc_named_c1 k) ⟨Tryd.prog, Tryd.f55.ntmps, w0, M, fun _ => False, fun _ => undef⟩ := (EnvOK.cons (c_family_named_c1 k) (EnvOK.cons (c_strings_indexFunc_named_c1 k) (EnvOK.nil rfl Tryd.ntmps55 hG)))
    unfold strings_IndexFunc_named_c1 at h
    refine W_seq (W_region (WL_allC hE [0, 1] [] [] (orc := []) (by kernel_rfl) .n (N_then (W_seq (W_region ?_)))))
    obtain ⟨v1, e1, h⟩ := bind_some h
    refine WL_allC hE [4] [] [] (orc := [tI64 v1]) (by kernel_rfl) (.c e1 .n) (N_then (W_ret ?_))
    cases h
    exact N_end (.inl rfl) (by kernel_rfl)

def C_strings_ContainsFunc_named_c1 (k : Nat) : FnC := ⟨true, 1, [], fun | [⟨.str, s1⟩, ⟨(.fn 43 .unit), f1⟩], [⟨.bool, rz⟩] => strings_ContainsFunc_named_c1 k s1 f1 = some rz | _, _ => False⟩
noncomputable def E_strings_ContainsFunc_named_c1 (k : Nat) : Env := ⟨Tryd.prog, Gn, 9, [(43, C_family_named_c1 k), (55, C_strings_IndexFunc_named_c1 k)]⟩
theorem c_strings_ContainsFunc_named_c1 (k : Nat) : Contract Tryd.prog Gn 42 (C_strings_ContainsFunc_named_c1 k) := by
  refine contract_of Gn_stable (fn := Tryd.f42) Tryd.func42 (by kernel_rfl) rfl ?_ ?_
  · intro xs rs h
    unfold C_strings_ContainsFunc_named_c1 at h
    simp only at h
    split at h
    · exact ⟨by show 2 ≤ _; rw [Tryd.ntmps42]; decide, rfl, fun _ u hu => by simp at hu; (rcases hu with rfl) <;> rfl⟩
    · exact h.elim
  · intro w0 M xs rs hG h
    unfold C_strings_ContainsFunc_named_c1 at h
    simp only at h
    split at h
    case h_2 => exact h.elim
    rename_i s1 f1 rz
    change List UInt8 at s1
    change (Unit) at f1
    change Bool at rz
    have hE : EnvOK (E_strings_ContainsFunc_named_c1 k) ⟨Tryd.prog, Tryd.f42.ntmps, w0, M, fun _ => False, fun _ => undef⟩ := (EnvOK.cons (c_family_named_c1 k) (EnvOK.cons (c_strings_IndexFunc_named_c1 k) (EnvOK.nil rfl Tryd.ntmps42 hG)))
    unfold strings_ContainsFunc_named_c1 at h
    refine W_seq (W_region (WL_allC hE [0, 1] [] [] (orc := []) (by kernel_rfl) .n (N_then (W_seq (W_region ?_)))))
    obtain ⟨v1, e1, h⟩ := bind_some h
    refine WL_allC hE [4] [] [] (orc := [tI64 v1]) (by kernel_rfl) (.c e1 .n) (N_then (W_ret ?_))
    cases h
    exact N_end (.inl rfl) (by kernel_rfl)

def C_family_named (k : Nat) : FnC := ⟨true, 1, [], fun | [⟨.str, s1⟩], [⟨.bool, rz⟩] => family_named k s1 = some rz | _, _ => False⟩
noncomputable def E_family_named (k : Nat) : Env := ⟨Tryd.prog, Gn, 15, [(43, C_family_named_c1 k), (42, C_strings_ContainsFunc_named_c1 k)]⟩
theorem c_family_named (k : Nat) : Contract Tryd.prog Gn 38 (C_family_named k) := by
  refine contract_of Gn_stable (fn := Tryd.f38) Tryd.func38 (by kernel_rfl) rfl ?_ ?_
  · intro xs rs h
    unfold C_family_named at h
    simp only at h
    split at h
    · exact ⟨by show 1 ≤ _; rw [Tryd.ntmps38]; decide, rfl, fun _ u hu => by simp at hu; (rcases hu with rfl) <;> rfl⟩
    · exact h.elim
  · intro w0 M xs rs hG h
    unfold C_family_named at h
    simp only at h
    split at h
    case h_2 => exact h.elim
    rename_i s1 rz
    change List UInt8 at s1
    change Bool at rz
    have hE : EnvOK (E_family_named k) ⟨Tryd.prog, Tryd.f38.ntmps, w0, M, fun _ => False, fun _ => undef⟩ := (EnvOK.cons (c_family_named_c1 k) (EnvOK.cons (c_strings_ContainsFunc_named_c1 k) (EnvOK.nil rfl Tryd.ntmps38 hG)))
    unfold family_named at h
    refine W_seq (W_region (WL_allC hE [0] [] [] (orc := []) (by kernel_rfl) .n (N_then (W_seq (W_region (WL_tkC hE 3 [0, 5] [] [] (orc := []) (by kernel_rfl) .n (WL_join (α := Bool) (fun z => family_named_j1 k s1 z = some rz) (fun t1 => ⟨[(0, SS s1), (9, BB t1)], [], []⟩) 4 ?_ (fun hJ1 => ?_))))))))
    · rintro t1 h
      unfold family_named_j1 at h
      refine WL_tkC hE 1 [0, 10] [] [] (orc := []) (by kernel_rfl) .n (WL_join (α := Bool) (fun z => family_named_j2 z = some rz) (fun t2 => ⟨[(14, BB t2)], [], []⟩) 4 ?_ (fun hJ2 => ?_))
      · rintro t2 h
        unfold family_named_j2 at h
        refine WL_allC hE [2] [] [] (orc := []) (by kernel_rfl) .n (N_then (W_ret ?_))
        cases h
        exact N_end (.inl rfl) (by kernel_rfl)
      refine WL_splitC 10 (b := t1) (by kernel_rfl) (fun e1 => ?_) (fun e1 => ?_)
      · replace h := ite_t e1 h
        obtain ⟨v1, e2, h⟩ := bind_some h
        exact WL_allI hE (orc := [tB v1]) (by kernel_rfl) (.c e2 .n) (hJ2 (!v1) h)
      · replace h := ite_f e1 h
        exact WL_allI hE (orc := []) (by kernel_rfl) .n (hJ2 false h)
    refine WL_splitC 5 (b := !(s1 == ([] : List UInt8))) (by kernel_rfl) (fun e3 => ?_) (fun e3 => ?_)
    · rw [and_t e3] at h
      exact WL_allI hE (orc := []) (by kernel_rfl) .n (hJ1 (decide ((List.length s1 : Int) ≤ (32 : Int))) h)
    · rw [and_f e3] at h
      exact WL_allI hE (orc := []) (by kernel_rfl) .n (hJ1 false h)

def C_family_shaped (k : Nat) : FnC := ⟨true, 1, [], fun | [⟨(.sl (.pair .str (.pair (.int .i64) (.pair (.sl (.pair .str (.pair (.sl (.pair (.int .i32) (.pair (.int .u32) (.pair (.int .u32) .unit)))) (.pair (.sl (.pair (.int .i32) (.pair (.int .i64) (.pair (.int .u32) (.pair (.int .u32) .unit))))) (.pair (.pair (.sl (.pair (.int .u8) (.pair (.int .i32) (.pair (.int .u32) (.pair (.int .u32) (.pair (.sl (.int .i64)) .unit)))))) .unit) (.pair (.pair (.sl (.pair (.int .u8) (.pair (.int .i32) (.pair (.int .u32) (.pair (.int .u32) (.pair (.sl (.int .i64)) .unit)))))) .unit) (.pair (.int .u8) (.pair .bool .unit)))))))) .unit)))), l1⟩], [⟨.bool, rz⟩] => family_shaped k l1 = some rz | _, _ => False⟩
noncomputable def E_family_shaped (k : Nat) : Env := ⟨Tryd.prog, Gn, 73, [(38, C_family_named k)]⟩
theorem c_family_shaped (k : Nat) : Contract Tryd.prog Gn 28 (C_family_shaped k) := by
  refine contract_of Gn_stable (fn := Tryd.f28) Tryd.func28 (by kernel_rfl) rfl ?_ ?_
  · intro xs rs h
    unfold C_family_shaped at h
    simp only at h
    split at h
    · exact ⟨by show 1 ≤ _; rw [Tryd.ntmps28]; decide, rfl, fun _ u hu => by simp at hu; (rcases hu with rfl) <;> rfl⟩
    · exact h.elim
  · intro w0 M xs rs hG h
    unfold C_family_shaped at h
    simp only at h
    split at h
    case h_2 => exact h.elim
    rename_i l1 rz
    change List ((List UInt8 × Int × List ((List UInt8 × List ((Int × Int × Int × Unit)) × List ((Int × Int × Int × Int × Unit)) × (List ((Int × Int × Int × Int × List (Int) × Unit)) × Unit) × (List ((Int × Int × Int × Int × List (Int) × Unit)) × Unit) × Int × Bool × Unit)) × Unit)) at l1
    change Bool at rz
    have hE : EnvOK (E_family_shaped k) ⟨Tryd.prog, Tryd.f28.ntmps, w0, M, fun _ => False, fun _ => undef⟩ := (EnvOK.cons (c_family_named k) (EnvOK.nil rfl Tryd.ntmps28 hG))
    unfold family_shaped at h
    refine W_seq (W_region (WL_allC hE [0] [] [] (orc := []) (by kernel_rfl) .n (N_then (W_seq (W_seq (W_region (WL_tkC hE 4 [0, 11] [] [] (orc := []) (by kernel_rfl) .n (WL_join (α := Bool) (fun z => family_shaped_j1 k l1 z = some rz) (fun t1 => ⟨[(0, .val (.sl (.pair .str (.pair (.int .i64) (.pair (.sl (.pair .str (.pair (.sl (.pair (.int .i32) (.pair (.int .u32) (.pair (.int .u32) .unit)))) (.pair (.sl (.pair (.int .i32) (.pair (.int .i64) (.pair (.int .u32) (.pair (.int .u32) .unit))))) (.pair (.pair (.sl (.pair (.int .u8) (.pair (.int .i32) (.pair (.int .u32) (.pair (.int .u32) (.pair (.sl (.int .i64)) .unit)))))) .unit) (.pair (.pair (.sl (.pair (.int .u8) (.pair (.int .i32) (.pair (.int .u32) (.pair (.int .u32) (.pair (.sl (.int .i64)) .unit)))))) .unit) (.pair (.int .u8) (.pair .bool .unit)))))))) .unit)))) l1), (15, BB t1)], [], []⟩) 4 ?_ (fun hJ1 => ?_)))))))))
    · rintro t1 h
      unfold family_shaped_j1 at h
      refine WL_tkC hE 1 [0, 16] [] [] (orc := []) (by kernel_rfl) .n (WL_join (α := Bool) (fun z => family_shaped_j2 k l1 z = some rz) (fun t2 => ⟨[(0, .val (.sl (.pair .str (.pair (.int .i64) (.pair (.sl (.pair .str (.pair (.sl (.pair (.int .i32) (.pair (.int .u32) (.pair (.int .u32) .unit)))) (.pair (.sl (.pair (.int .i32) (.pair (.int .i64) (.pair (.int .u32) (.pair (.int .u32) .unit))))) (.pair (.pair (.sl (.pair (.int .u8) (.pair (.int .i32) (.pair (.int .u32) (.pair (.int .u32) (.pair (.sl (.int .i64)) .unit)))))) .unit) (.pair (.pair (.sl (.pair (.int .u8) (.pair (.int .i32) (.pair (.int .u32) (.pair (.int .u32) (.pair (.sl (.int .i64)) .unit)))))) .unit) (.pair (.int .u8) (.pair .bool .unit)))))))) .unit)))) l1), (22, BB t2)], [], []⟩) 6 ?_ (fun hJ2 => ?_))
      · rintro t2 h
        unfold family_shaped_j2 at h
        refine WL_tkC hE 1 [0, 23] [] [] (orc := []) (by kernel_rfl) .n (WL_join (α := Bool) (fun z => family_shaped_j3 k l1 z = some rz) (fun t3 => ⟨[(0, .val (.sl (.pair .str (.pair (.int .i64) (.pair (.sl (.pair .str (.pair (.sl (.pair (.int .i32) (.pair (.int .u32) (.pair (.int .u32) .unit)))) (.pair (.sl (.pair (.int .i32) (.pair (.int .i64) (.pair (.int .u32) (.pair (.int .u32) .unit))))) (.pair (.pair (.sl (.pair (.int .u8) (.pair (.int .i32) (.pair (.int .u32) (.pair (.int .u32) (.pair (.sl (.int .i64)) .unit)))))) .unit) (.pair (.pair (.sl (.pair (.int .u8) (.pair (.int .i32) (.pair (.int .u32) (.pair (.int .u32) (.pair (.sl (.int .i64)) .unit)))))) .unit) (.pair (.int .u8) (.pair .bool .unit)))))))) .unit)))) l1), (30, BB t3)], [], []⟩) 7 ?_ (fun hJ3 => ?_))
        · rintro t3 h
          unfold family_shaped_j3 at h
          refine WL_nil (N_then (W_cond (b := t3) (by kernel_rfl) (fun e1 => ?_) (fun e1 => ?_)))
          · replace h := ite_t e1 h
            refine W_seq (W_region (WL_allC hE [2] [] [] (orc := []) (by kernel_rfl) .n (N_then (W_ret (N_then_ret ?_)))))
            cases h
            exact N_end (.inl rfl) (by kernel_rfl)
          · replace h := ite_f e1 h
            refine W_skip (N_then (W_seq (W_region (WL_allC hE [0, 3] [31] [] (orc := []) (by kernel_rfl) .n (N_then (W_seq (W_seq (W_region (WL_allI hE (orc := []) (by kernel_rfl) .n (N_then (W_block (W_loop (α := (Int × List (List UInt8 × (Unit)))) (fun n z => family_shaped_l1 k l1 n z.1 z.2 = some rz) (fun z => ⟨[(3, .iter 31), (32, .val (.sl (.pair .str (.pair (.int .i64) (.pair (.sl (.pair .str (.pair (.sl (.pair (.int .i32) (.pair (.int .u32) (.pair (.int .u32) .unit)))) (.pair (.sl (.pair (.int .i32) (.pair (.int .i64) (.pair (.int .u32) (.pair (.int .u32) .unit))))) (.pair (.pair (.sl (.pair (.int .u8) (.pair (.int .i32) (.pair (.int .u32) (.pair (.int .u32) (.pair (.sl (.int .i64)) .unit)))))) .unit) (.pair (.pair (.sl (.pair (.int .u8) (.pair (.int .i32) (.pair (.int .u32) (.pair (.int .u32) (.pair (.sl (.int .i64)) .unit)))))) .unit) (.pair (.int .u8) (.pair .bool .unit)))))))) .unit)))) l1), (33, I64 (List.length l1 : Int)), (34, I64 (z.1))], [(31, .mp .str .unit (z.2))], []⟩) ?_ (k := k) (x := ((0 : Int), ([] : List (List UInt8 × (Unit))))) h))))))))))))
            clear h
            rintro fuel1 ⟨t4, m1⟩ h
            cases fuel1 with
            | zero => exact absurd (show none = some _ from h) (by simp)
            | succ fuel1 =>
              have h : family_shaped_b1 k l1 (family_shaped_l1 k l1 fuel1) t4 m1 = some rz := h
              unfold family_shaped_b1 at h
              refine W_seq (W_region (WL_allC hE [3, 32, 33, 34, 35] [31] [] (orc := []) (by kernel_rfl) .n (N_then (W_seq (W_cond (b := decide (t4 < (List.length l1 : Int))) (by kernel_rfl) (fun e2 => ?_) (fun e2 => ?_))))))
              · replace h := ite_t e2 h
                refine W_skip (N_then (W_seq (W_block (W_seq (W_region ?_)))))
                obtain ⟨x1, e3, h⟩ := bind_some h
                refine WL_allI hE (st' := ⟨[(3, .iter 31), (4, I64 t4), (5, .ptr 5 0), (32, .val (.sl (.pair .str (.pair (.int .i64) (.pair (.sl (.pair .str (.pair (.sl (.pair (.int .i32) (.pair (.int .u32) (.pair (.int .u32) .unit)))) (.pair (.sl (.pair (.int .i32) (.pair (.int .i64) (.pair (.int .u32) (.pair (.int .u32) .unit))))) (.pair (.pair (.sl (.pair (.int .u8) (.pair (.int .i32) (.pair (.int .u32) (.pair (.int .u32) (.pair (.sl (.int .i64)) .unit)))))) .unit) (.pair (.pair (.sl (.pair (.int .u8) (.pair (.int .i32) (.pair (.int .u32) (.pair (.int .u32) (.pair (.sl (.int .i64)) .unit)))))) .unit) (.pair (.int .u8) (.pair .bool .unit)))))))) .unit)))) l1), (33, I64 (List.length l1 : Int)), (34, I64 t4)], [(5, .cells [SS x1.1, I64 x1.2.1, .val (.sl (.pair .str (.pair (.sl (.pair (.int .i32) (.pair (.int .u32) (.pair (.int .u32) .unit)))) (.pair (.sl (.pair (.int .i32) (.pair (.int .i64) (.pair (.int .u32) (.pair (.int .u32) .unit))))) (.pair (.pair (.sl (.pair (.int .u8) (.pair (.int .i32) (.pair (.int .u32) (.pair (.int .u32) (.pair (.sl (.int .i64)) .unit)))))) .unit) (.pair (.pair (.sl (.pair (.int .u8) (.pair (.int .i32) (.pair (.int .u32) (.pair (.int .u32) (.pair (.sl (.int .i64)) .unit)))))) .unit) (.pair (.int .u8) (.pair .bool .unit)))))))) x1.2.2.1] 39), (31, .mp .str .unit m1)], []⟩) (orc := [⟨(.pair .str (.pair (.int .i64) (.pair (.sl (.pair .str (.pair (.sl (.pair (.int .i32) (.pair (.int .u32) (.pair (.int .u32) .unit)))) (.pair (.sl (.pair (.int .i32) (.pair (.int .i64) (.pair (.int .u32) (.pair (.int .u32) .unit))))) (.pair (.pair (.sl (.pair (.int .u8) (.pair (.int .i32) (.pair (.int .u32) (.pair (.int .u32) (.pair (.sl (.int .i64)) .unit)))))) .unit) (.pair (.pair (.sl (.pair (.int .u8) (.pair (.int .i32) (.pair (.int .u32) (.pair (.int .u32) (.pair (.sl (.int .i64)) .unit)))))) .unit) (.pair (.int .u8) (.pair .bool .unit)))))))) .unit))), x1⟩]) (by kernel_rfl) (.c e3 .n) (N_then (W_seq (W_seq (W_region (WL_allC hE [3, 4, 5, 7, 32, 33, 34] [5, 31] [] (orc := []) (by kernel_rfl) .n (N_then (W_seq (W_region (WL_tkC hE 2 [3, 4, 5, 32, 33, 34, 47] [5, 31] [] (orc := []) (by kernel_rfl) .n (WL_join (α := Bool) (fun z => family_shaped_j4 (family_shaped_l1 k l1 fuel1) t4 m1 x1 z = some rz) (fun t5 => ⟨[(3, .iter 31), (4, I64 t4), (5, .ptr 5 0), (32, .val (.sl (.pair .str (.pair (.int .i64) (.pair (.sl (.pair .str (.pair (.sl (.pair (.int .i32) (.pair (.int .u32) (.pair (.int .u32) .unit)))) (.pair (.sl (.pair (.int .i32) (.pair (.int .i64) (.pair (.int .u32) (.pair (.int .u32) .unit))))) (.pair (.pair (.sl (.pair (.int .u8) (.pair (.int .i32) (.pair (.int .u32) (.pair (.int .u32) (.pair (.sl (.int .i64)) .unit)))))) .unit) (.pair (.pair (.sl (.pair (.int .u8) (.pair (.int .i32) (.pair (.int .u32) (.pair (.int .u32) (.pair (.sl (.int .i64)) .unit)))))) .unit) (.pair (.int .u8) (.pair .bool .unit)))))))) .unit)))) l1), (33, I64 (List.length l1 : Int)), (34, I64 t4), (52, BB t5)], [(5, .cells [SS x1.1, I64 x1.2.1, .val (.sl (.pair .str (.pair (.sl (.pair (.int .i32) (.pair (.int .u32) (.pair (.int .u32) .unit)))) (.pair (.sl (.pair (.int .i32) (.pair (.int .i64) (.pair (.int .u32) (.pair (.int .u32) .unit))))) (.pair (.pair (.sl (.pair (.int .u8) (.pair (.int .i32) (.pair (.int .u32) (.pair (.int .u32) (.pair (.sl (.int .i64)) .unit)))))) .unit) (.pair (.pair (.sl (.pair (.int .u8) (.pair (.int .i32) (.pair (.int .u32) (.pair (.int .u32) (.pair (.sl (.int .i64)) .unit)))))) .unit) (.pair (.int .u8) (.pair .bool .unit)))))))) x1.2.2.1] 39), (31, .mp .str .unit m1)], []⟩) 5 ?_ (fun hJ4 => ?_)))))))))))
                · rintro t5 h
                  unfold family_shaped_j4 at h
                  refine WL_tkC hE 1 [3, 4, 5, 32, 33, 34, 53] [5, 31] [] (orc := []) (by kernel_rfl) .n (WL_join (α := Bool) (fun z => family_shaped_j5 (family_shaped_l1 k l1 fuel1) t4 m1 x1 z = some rz) (fun t6 => ⟨[(3, .iter 31), (5, .ptr 5 0), (32, .val (.sl (.pair .str (.pair (.int .i64) (.pair (.sl (.pair .str (.pair (.sl (.pair (.int .i32) (.pair (.int .u32) (.pair (.int .u32) .unit)))) (.pair (.sl (.pair (.int .i32) (.pair (.int .i64) (.pair (.int .u32) (.pair (.int .u32) .unit))))) (.pair (.pair (.sl (.pair (.int .u8) (.pair (.int .i32) (.pair (.int .u32) (.pair (.int .u32) (.pair (.sl (.int .i64)) .unit)))))) .unit) (.pair (.pair (.sl (.pair (.int .u8) (.pair (.int .i32) (.pair (.int .u32) (.pair (.int .u32) (.pair (.sl (.int .i64)) .unit)))))) .unit) (.pair (.int .u8) (.pair .bool .unit)))))))) .unit)))) l1), (33, I64 (List.length l1 : Int)), (34, I64 t4), (67, BB t6)], [(5, .cells [SS x1.1, I64 x1.2.1, .val (.sl (.pair .str (.pair (.sl (.pair (.int .i32) (.pair (.int .u32) (.pair (.int .u32) .unit)))) (.pair (.sl (.pair (.int .i32) (.pair (.int .i64) (.pair (.int .u32) (.pair (.int .u32) .unit))))) (.pair (.pair (.sl (.pair (.int .u8) (.pair (.int .i32) (.pair (.int .u32) (.pair (.int .u32) (.pair (.sl (.int .i64)) .unit)))))) .unit) (.pair (.pair (.sl (.pair (.int .u8) (.pair (.int .i32) (.pair (.int .u32) (.pair (.int .u32) (.pair (.sl (.int .i64)) .unit)))))) .unit) (.pair (.int .u8) (.pair .bool .unit)))))))) x1.2.2.1] 39), (31, .mp .str .unit m1)], []⟩) 14 ?_ (fun hJ5 => ?_))
                  · rintro t6 h
                    unfold family_shaped_j5 at h
                    refine WL_nil (N_then (W_cond (b := t6) (by kernel_rfl) (fun e4 => ?_) (fun e4 => ?_)))
                    · replace h := ite_t e4 h
                      refine W_seq (W_region (WL_allC hE [2] [] [] (orc := []) (by kernel_rfl) .n (N_then (W_ret (N_then_ret (N_block_ret (N_then_ret (N_then_ret (N_block_ret (N_then_ret ?_))))))))))
                      cases h
                      exact N_end (.inl rfl) (by kernel_rfl)
                    · replace h := ite_f e4 h
                      exact W_skip (N_then (W_region (WL_allC hE [3, 32, 33, 34] [31] [] (orc := []) (by kernel_rfl) .n (N_block (N_then (W_region (WL_allI hE (orc := []) (by kernel_rfl) .n (N_round (wi64 (t4 + (1 : Int)), mset (eqEl .str) m1 x1.1 (())) (Nat.lt_succ_self _) h))))))))
                  refine WL_splitC 53 (b := t5) (by kernel_rfl) (fun e5 => ?_) (fun e5 => ?_)
                  · replace h := ite_t e5 h
                    exact WL_allI hE (orc := []) (by kernel_rfl) .n (hJ5 true h)
                  · replace h := ite_f e5 h
                    refine WL_tkC hE 3 [3, 4, 5, 32, 33, 34, 53, 56] [5, 31] [] (orc := []) (by kernel_rfl) .n (WL_join (α := Bool) (fun z => family_shaped_j6 (family_shaped_l1 k l1 fuel1) t4 m1 x1 z = some rz) (fun t7 => ⟨[(3, .iter 31), (5, .ptr 5 0), (32, .val (.sl (.pair .str (.pair (.int .i64) (.pair (.sl (.pair .str (.pair (.sl (.pair (.int .i32) (.pair (.int .u32) (.pair (.int .u32) .unit)))) (.pair (.sl (.pair (.int .i32) (.pair (.int .i64) (.pair (.int .u32) (.pair (.int .u32) .unit))))) (.pair (.pair (.sl (.pair (.int .u8) (.pair (.int .i32) (.pair (.int .u32) (.pair (.int .u32) (.pair (.sl (.int .i64)) .unit)))))) .unit) (.pair (.pair (.sl (.pair (.int .u8) (.pair (.int .i32) (.pair (.int .u32) (.pair (.int .u32) (.pair (.sl (.int .i64)) .unit)))))) .unit) (.pair (.int .u8) (.pair .bool .unit)))))))) .unit)))) l1), (33, I64 (List.length l1 : Int)), (34, I64 t4), (53, BB false), (66, BB t7)], [(5, .cells [SS x1.1, I64 x1.2.1, .val (.sl (.pair .str (.pair (.sl (.pair (.int .i32) (.pair (.int .u32) (.pair (.int .u32) .unit)))) (.pair (.sl (.pair (.int .i32) (.pair (.int .i64) (.pair (.int .u32) (.pair (.int .u32) .unit))))) (.pair (.pair (.sl (.pair (.int .u8) (.pair (.int .i32) (.pair (.int .u32) (.pair (.int .u32) (.pair (.sl (.int .i64)) .unit)))))) .unit) (.pair (.pair (.sl (.pair (.int .u8) (.pair (.int .i32) (.pair (.int .u32) (.pair (.int .u32) (.pair (.sl (.int .i64)) .unit)))))) .unit) (.pair (.int .u8) (.pair .bool .unit)))))))) x1.2.2.1] 39), (31, .mp .str .unit m1)], []⟩) 10 ?_ (fun hJ6 => ?_))
                    · rintro t7 h
                      unfold family_shaped_j6 at h
                      exact WL_allI hE (orc := []) (by kernel_rfl) .n (hJ5 t7 h)
                    refine WL_splitC 56 (b := decide ((0 : Int) < t4)) (by kernel_rfl) (fun e6 => ?_) (fun e6 => ?_)
                    · replace h := ite_t e6 h
                      refine WL_tkC hE 4 [3, 4, 5, 32, 33, 34, 53, 56, 60] [5, 31] [] (orc := []) (by kernel_rfl) .n (WL_join (α := Bool) (fun z => family_shaped_j7 (family_shaped_l1 k l1 fuel1) t4 m1 x1 z = some rz) (fun t8 => ⟨[(3, .iter 31), (5, .ptr 5 0), (32, .val (.sl (.pair .str (.pair (.int .i64) (.pair (.sl (.pair .str (.pair (.sl (.pair (.int .i32) (.pair (.int .u32) (.pair (.int .u32) .unit)))) (.pair (.sl (.pair (.int .i32) (.pair (.int .i64) (.pair (.int .u32) (.pair (.int .u32) .unit))))) (.pair (.pair (.sl (.pair (.int .u8) (.pair (.int .i32) (.pair (.int .u32) (.pair (.int .u32) (.pair (.sl (.int .i64)) .unit)))))) .unit) (.pair (.pair (.sl (.pair (.int .u8) (.pair (.int .i32) (.pair (.int .u32) (.pair (.int .u32) (.pair (.sl (.int .i64)) .unit)))))) .unit) (.pair (.int .u8) (.pair .bool .unit)))))))) .unit)))) l1), (33, I64 (List.length l1 : Int)), (34, I64 t4), (53, BB false), (56, BB true), (65, BB t8)], [(5, .cells [SS x1.1, I64 x1.2.1, .val (.sl (.pair .str (.pair (.sl (.pair (.int .i32) (.pair (.int .u32) (.pair (.int .u32) .unit)))) (.pair (.sl (.pair (.int .i32) (.pair (.int .i64) (.pair (.int .u32) (.pair (.int .u32) .unit))))) (.pair (.pair (.sl (.pair (.int .u8) (.pair (.int .i32) (.pair (.int .u32) (.pair (.int .u32) (.pair (.sl (.int .i64)) .unit)))))) .unit) (.pair (.pair (.sl (.pair (.int .u8) (.pair (.int .i32) (.pair (.int .u32) (.pair (.int .u32) (.pair (.sl (.int .i64)) .unit)))))) .unit) (.pair (.int .u8) (.pair .bool .unit)))))))) x1.2.2.1] 39), (31, .mp .str .unit m1)], []⟩) 5 ?_ (fun hJ7 => ?_))
                      · rintro t8 h
                        unfold family_shaped_j7 at h
                        exact WL_allI hE (orc := []) (by kernel_rfl) .n (hJ6 t8 h)
                      refine WL_splitC 60 (b := decide (x1.2.1 < (0 : Int))) (by kernel_rfl) (fun e7 => ?_) (fun e7 => ?_)
                      · rw [or_t e7] at h
                        exact WL_allI hE (orc := []) (by kernel_rfl) .n (hJ7 true h)
                      · rw [or_f e7] at h
                        exact WL_allI hE (orc := []) (by kernel_rfl) .n (hJ7 (decide (t4 ≤ x1.2.1)) h)
                    · replace h := ite_f e6 h
                      exact WL_allI hE (orc := []) (by kernel_rfl) .n (hJ6 false h)
                refine WL_splitC 47 (b := (mget (eqEl .str) m1 x1.1).isSome) (by kernel_rfl) (fun e8 => ?_) (fun e8 => ?_)
                · replace h := ite_t e8 h
                  exact WL_allI hE (orc := []) (by kernel_rfl) .n (hJ4 true h)
                · replace h := ite_f e8 h
                  obtain ⟨v1, e9, h⟩ := bind_some h
                  exact WL_allI hE (orc := [tB v1]) (by kernel_rfl) (.c e9 .n) (hJ4 (!v1) h)
              · replace h := ite_f e2 h
                refine W_exit (N_then_exit (N_then_exit (N_block_exit (N_then (W_seq (W_region (WL_allC hE [2] [] [] (orc := []) (by kernel_rfl) .n (N_then (W_ret ?_)))))))))
                cases h
                exact N_end (.inl rfl) (by kernel_rfl)
        refine WL_splitC 23 (b := t2) (by kernel_rfl) (fun e10 => ?_) (fun e10 => ?_)
        · replace h := ite_t e10 h
          exact WL_allI hE (orc := []) (by kernel_rfl) .n (hJ3 true h)
        · replace h := ite_f e10 h
          obtain ⟨x2, e11, h⟩ := bind_some h
          exact WL_allI hE (orc := [⟨(.pair .str (.pair (.int .i64) (.pair (.sl (.pair .str (.pair (.sl (.pair (.int .i32) (.pair (.int .u32) (.pair (.int .u32) .unit)))) (.pair (.sl (.pair (.int .i32) (.pair (.int .i64) (.pair (.int .u32) (.pair (.int .u32) .unit))))) (.pair (.pair (.sl (.pair (.int .u8) (.pair (.int .i32) (.pair (.int .u32) (.pair (.int .u32) (.pair (.sl (.int .i64)) .unit)))))) .unit) (.pair (.pair (.sl (.pair (.int .u8) (.pair (.int .i32) (.pair (.int .u32) (.pair (.int .u32) (.pair (.sl (.int .i64)) .unit)))))) .unit) (.pair (.int .u8) (.pair .bool .unit)))))))) .unit))), x2⟩]) (by kernel_rfl) (.c e11 .n) (hJ3 (decide ((0 : Int) < (List.length x2.2.2.1 : Int))) h)
      refine WL_splitC 16 (b := t1) (by kernel_rfl) (fun e12 => ?_) (fun e12 => ?_)
      · replace h := ite_t e12 h
        exact WL_allI hE (orc := []) (by kernel_rfl) .n (hJ2 true h)
      · replace h := ite_f e12 h
        obtain ⟨x3, e13, h⟩ := bind_some h
        exact WL_allI hE (orc := [⟨(.pair .str (.pair (.int .i64) (.pair (.sl (.pair .str (.pair (.sl (.pair (.int .i32) (.pair (.int .u32) (.pair (.int .u32) .unit)))) (.pair (.sl (.pair (.int .i32) (.pair (.int .i64) (.pair (.int .u32) (.pair (.int .u32) .unit))))) (.pair (.pair (.sl (.pair (.int .u8) (.pair (.int .i32) (.pair (.int .u32) (.pair (.int .u32) (.pair (.sl (.int .i64)) .unit)))))) .unit) (.pair (.pair (.sl (.pair (.int .u8) (.pair (.int .i32) (.pair (.int .u32) (.pair (.int .u32) (.pair (.sl (.int .i64)) .unit)))))) .unit) (.pair (.int .u8) (.pair .bool .unit)))))))) .unit))), x3⟩]) (by kernel_rfl) (.c e13 .n) (hJ2 (x3.2.1 != (-1 : Int)) h)
    refine WL_splitC 11 (b := (List.length l1 : Int) == (0 : Int)) (by kernel_rfl) (fun e14 => ?_) (fun e14 => ?_)
    · rw [or_t e14] at h
      exact WL_allI hE (orc := []) (by kernel_rfl) .n (hJ1 true h)
    · rw [or_f e14] at h
      exact WL_allI hE (orc := []) (by kernel_rfl) .n (hJ1 (decide ((32 : Int) < (List.length l1 : Int))) h)

def C_rule_named (k : Nat) : FnC := ⟨true, 1, [], fun | [⟨.str, s1⟩], [⟨.bool, rz⟩] => rule_named k s1 = some rz | _, _ => False⟩
noncomputable def E_rule_named (k : Nat) : Env := ⟨Tryd.prog, Gn, 11, [(41, C_strings_Trim k)]⟩
theorem c_rule_named (k : Nat) : Contract Tryd.prog Gn 44 (C_rule_named k) := by
  refine contract_of Gn_stable (fn := Tryd.f44) Tryd.func44 (by kernel_rfl) rfl ?_ ?_
  · intro xs rs h
    unfold C_rule_named at h
    simp only at h
    split at h
    · exact ⟨by show 1 ≤ _; rw [Tryd.ntmps44]; decide, rfl, fun _ u hu => by simp at hu; (rcases hu with rfl) <;> rfl⟩
    · exact h.elim
  · intro w0 M xs rs hG h
    unfold C_rule_named at h
    simp only at h
    split at h
    case h_2 => exact h.elim
    rename_i s1 rz
    change List UInt8 at s1
    change Bool at rz
    have hE : EnvOK (E_rule_named k) ⟨Tryd.prog, Tryd.f44.ntmps, w0, M, fun _ => False, fun _ => undef⟩ := (EnvOK.cons (c_strings_Trim k) (EnvOK.nil rfl Tryd.ntmps44 hG))
    unfold rule_named at h
    refine W_seq (W_region (WL_allC hE [0] [] [] (orc := []) (by kernel_rfl) .n (N_then (W_seq (W_region (WL_tkC hE 4 [0, 6] [] [] (orc := []) (by kernel_rfl) .n (WL_join (α := Bool) (fun z => rule_named_j1 z = some rz) (fun t1 => ⟨[(10, BB t1)], [], []⟩) 4 ?_ (fun hJ1 => ?_))))))))
    · rintro t1 h
      unfold rule_named_j1 at h
      refine WL_allC hE [2] [] [] (orc := []) (by kernel_rfl) .n (N_then (W_ret ?_))
      cases h
      exact N_end (.inl rfl) (by kernel_rfl)
    refine WL_splitC 6 (b := decide ((List.length s1 : Int) ≤ (32 : Int))) (by kernel_rfl) (fun e1 => ?_) (fun e1 => ?_)
    · replace h := ite_t e1 h
      obtain ⟨v1, e2, h⟩ := bind_some h
      exact WL_allI hE (orc := [tS v1]) (by kernel_rfl) (.c e2 .n) (hJ1 (v1 == ([] : List UInt8)) h)
    · replace h := ite_f e1 h
      exact WL_allI hE (orc := []) (by kernel_rfl) .n (hJ1 false h)

def C_feature_Of_c1 (k : Nat) : FnC := ⟨true, 1, [(.int .i32)], fun | [⟨(.pair (.int .i32) (.pair (.int .u32) (.pair (.int .u32) .unit))), l1⟩, ⟨(.ptr (.int .i32)), t1⟩], [⟨.bool, rz⟩] => feature_Of_c1 k l1 t1 = some rz | _, _ => False⟩
noncomputable def E_feature_Of_c1 (k : Nat) : Env := ⟨Tryd.prog, Gn, 8, []⟩
theorem c_feature_Of_c1 (k : Nat) : Contract Tryd.prog Gn 68 (C_feature_Of_c1 k) := by
  refine contract_of Gn_stable (fn := Tryd.f68) Tryd.func68 (by kernel_rfl) rfl ?_ ?_
  · intro xs rs h
    unfold C_feature_Of_c1 at h
    simp only at h
    split at h
    · exact ⟨by show 2 ≤ _; rw [Tryd.ntmps68]; decide, rfl, fun _ u hu => by simp at hu; (rcases hu with rfl) <;> rfl⟩
    · exact h.elim
  · intro w0 M xs rs hG h
    unfold C_feature_Of_c1 at h
    simp only at h
    split at h
    case h_2 => exact h.elim
    rename_i l1 t1 rz
    change (Int × Int × Int × Unit) at l1
    change Int at t1
    change Bool at rz
    have hE : EnvOK (E_feature_Of_c1 k) ⟨Tryd.prog, Tryd.f68.ntmps, w0, M, fun _ => False, fun _ => undef⟩ := (EnvOK.nil rfl Tryd.ntmps68 hG)
    unfold feature_Of_c1 at h
    refine W_seq (W_region (WL_allC hE [1, 2] [2] [] (orc := []) (by kernel_rfl) .n (N_then (W_seq (W_region (WL_allC hE [3] [] [] (orc := []) (by kernel_rfl) .n (N_then (W_ret ?_))))))))
    cases h
    exact N_end (.inl rfl) (by kernel_rfl)

def C_slices_IndexFunc___api_Letter_api_Letter__Of_c1 (k : Nat) : FnC := ⟨true, 1, [], fun | [⟨(.sl (.pair (.int .i32) (.pair (.int .u32) (.pair (.int .u32) .unit)))), s1⟩, ⟨(.fn 68 (.pair (.ptr (.int .i32)) .unit)), f1⟩], [⟨(.int .i64), rz⟩] => slices_IndexFunc___api_Letter_api_Letter__Of_c1 k s1 f1 = some rz | _, _ => False⟩
noncomputable def E_slices_IndexFunc___api_Letter_api_Letter__Of_c1 (k : Nat) : Env := ⟨Tryd.prog, Gn, 19, [(68, C_feature_Of_c1 k)]⟩
theorem c_slices_IndexFunc___api_Letter_api_Letter__Of_c1 (k : Nat) : Contract Tryd.prog Gn 67 (C_slices_IndexFunc___api_Letter_api_Letter__Of_c1 k) := by
  refine contract_of Gn_stable (fn := Tryd.f67) Tryd.func67 (by kernel_rfl) rfl ?_ ?_
  · intro xs rs h
    unfold C_slices_IndexFunc___api_Letter_api_Letter__Of_c1 at h
    simp only at h
    split at h
    · exact ⟨by show 2 ≤ _; rw [Tryd.ntmps67]; decide, rfl, fun _ u hu => by simp at hu; (rcases hu with rfl) <;> rfl⟩
    · exact h.elim
  · intro w0 M xs rs hG h
    unfold C_slices_IndexFunc___api_Letter_api_Letter__Of_c1 at h
    simp only at h
    split at h
    case h_2 => exact h.elim
    rename_i s1 f1 rz
    change List ((Int × Int × Int × Unit)) at s1
    change (Int × Unit) at f1
    change Int at rz
    have hE : EnvOK (E_slices_IndexFunc___api_Letter_api_Letter__Of_c1 k) ⟨Tryd.prog, Tryd.f67.ntmps, w0, M, fun _ => False, fun _ => undef⟩ := (EnvOK.cons (c_feature_Of_c1 k) (EnvOK.nil rfl Tryd.ntmps67 hG))
    unfold slices_IndexFunc___api_Letter_api_Letter__Of_c1 at h
    refine W_seq (W_region (WL_allC hE [0, 1] [] [] (orc := []) (by kernel_rfl) .n (N_then (W_seq (W_seq (W_region (WL_allI hE (orc := []) (by kernel_rfl) .n (N_then (W_block (W_loop (α := Int) (fun n z => slices_IndexFunc___api_Letter_api_Letter__Of_c1_l1 k s1 f1 n z = some rz) (fun t1 => ⟨[(0, .val (.sl (.pair (.int .i32) (.pair (.int .u32) (.pair (.int .u32) .unit)))) s1), (1, .val (.fn 68 (.pair (.ptr (.int .i32)) .unit)) f1), (7, I64 (List.length s1 : Int)), (8, I64 t1)], [], []⟩) ?_ (k := k) (x := (0 : Int)) h))))))))))
    clear h
    rintro fuel1 t1 h
    cases fuel1 with
    | zero => exact absurd (show none = some _ from h) (by simp)
    | succ fuel1 =>
      have h : slices_IndexFunc___api_Letter_api_Letter__Of_c1_b1 k s1 f1 (slices_IndexFunc___api_Letter_api_Letter__Of_c1_l1 k s1 f1 fuel1) t1 = some rz := h
      unfold slices_IndexFunc___api_Letter_api_Letter__Of_c1_b1 at h
      refine W_seq (W_region (WL_allC hE [0, 1, 7, 8, 9] [] [] (orc := []) (by kernel_rfl) .n (N_then (W_seq (W_cond (b := decide (t1 < (List.length s1 : Int))) (by kernel_rfl) (fun e1 => ?_) (fun e1 => ?_))))))
      · replace h := ite_t e1 h
        refine W_skip (N_then (W_seq (W_block (W_seq (W_region (WL_allC hE [0, 1, 5, 7, 8] [] [] (orc := []) (by kernel_rfl) .n (N_then (W_seq (W_region ?_)))))))))
        obtain ⟨x1, e2, h⟩ := bind_some h
        obtain ⟨v1, e3, h⟩ := bind_some h
        refine WL_allC hE [0, 1, 5, 7, 8, 16] [] [] (orc := [⟨(.pair (.int .i32) (.pair (.int .u32) (.pair (.int .u32) .unit))), x1⟩, tB v1]) (by kernel_rfl) (.c e2 (.c e3 .n)) (N_then (W_cond (b := v1) (by kernel_rfl) (fun e4 => ?_) (fun e4 => ?_)))
        · replace h := ite_t e4 h
          refine W_seq (W_region (WL_allI hE (st' := ⟨[(4, I64 t1)], [], []⟩) (orc := []) (by kernel_rfl) .n (N_then (W_ret (N_block_ret (N_then_ret (N_then_ret (N_block_ret (N_then_ret ?_)))))))))
          cases h
          exact N_end (.inl rfl) (by kernel_rfl)
        · replace h := ite_f e4 h
          exact W_skip (N_block (N_then (W_region (WL_allI hE (orc := []) (by kernel_rfl) .n (N_round (wi64 (t1 + (1 : Int))) (Nat.lt_succ_self _) h)))))
      · replace h := ite_f e1 h
        refine W_exit (N_then_exit (N_then_exit (N_block_exit (N_then (W_seq (W_region (WL_allC hE [4] [] [] (orc := []) (by kernel_rfl) .n (N_then (W_ret ?_)))))))))
        cases h
        exact N_end (.inl rfl) (by kernel_rfl)

def C_feature_Of (k : Nat) : FnC := ⟨true, 2, [], fun | [⟨(.pair (.sl .str) (.pair (.sl (.pair (.int .i32) (.pair (.int .u32) (.pair (.int .u32) .unit)))) .unit)), a1⟩, ⟨(.int .i32), r1⟩], [⟨(.pair (.int .i32) (.pair (.int .u32) (.pair (.int .u32) .unit))), rz1⟩, ⟨(.int .i64), rz2⟩] => feature_Of k a1 r1 = some (rz1, rz2) | _, _ => False⟩
noncomputable def E_feature_Of (k : Nat) : Env := ⟨Tryd.prog, Gn, 26, [(27, C_feature_Check k), (68, C_feature_Of_c1 k), (67, C_slices_IndexFunc___api_Letter_api_Letter__Of_c1 k)]⟩
theorem c_feature_Of (k : Nat) : Contract Tryd.prog Gn 59 (C_feature_Of k) := by
  refine contract_of Gn_stable (fn := Tryd.f59) Tryd.func59 (by kernel_rfl) rfl ?_ ?_
  · intro xs rs h
    unfold C_feature_Of at h
    simp only at h
    split at h
    · exact ⟨by show 2 ≤ _; rw [Tryd.ntmps59]; decide, rfl, fun _ u hu => by simp at hu; (rcases hu with rfl | rfl) <;> rfl⟩
    · exact h.elim
  · intro w0 M xs rs hG h
    unfold C_feature_Of at h
    simp only at h
    split at h
    case h_2 => exact h.elim
    rename_i a1 r1 rz1 rz2
    change (List (List UInt8) × List ((Int × Int × Int × Unit)) × Unit) at a1
    change Int at r1
    change (Int × Int × Int × Unit) at rz1
    change Int at rz2
    have hE : EnvOK (E_feature_Of k) ⟨Tryd.prog, Tryd.f59.ntmps, w0, M, fun _ => False, fun _ => undef⟩ := (EnvOK.cons (c_feature_Check k) (EnvOK.cons (c_feature_Of_c1 k) (EnvOK.cons (c_slices_IndexFunc___api_Letter_api_Letter__Of_c1 k) (EnvOK.nil rfl Tryd.ntmps59 hG))))
    unfold feature_Of at h
    refine W_seq (W_region (WL_allC hE [2, 3, 4] [2, 3, 4] [] (orc := []) (by kernel_rfl) .n (N_then (W_seq (W_seq (W_region ?_))))))
    obtain ⟨v1, e1, h⟩ := bind_some h
    refine WL_allC hE [2, 3, 4, 6] [2, 3, 4] [] (orc := [tI64 v1]) (by kernel_rfl) (.c e1 .n) (N_then (W_seq (W_region (WL_allC hE [2, 3, 4, 6, 11] [2, 3, 4] [] (orc := []) (by kernel_rfl) .n (N_then (W_cond (b := v1 != (0 : Int)) (by kernel_rfl) (fun e2 => ?_) (fun e2 => ?_)))))))
    · replace h := ite_t e2 h
      refine W_seq (W_region (WL_allI hE (st' := ⟨[(4, .ptr 4 0), (5, I64 v1)], [(4, .cells [I32 (0 : Int), U32 (0 : Int), U32 (0 : Int)] 62)], []⟩) (orc := []) (by kernel_rfl) .n (N_then (W_ret (N_then_ret ?_)))))
      cases h
      exact N_end (.inl rfl) (by kernel_rfl)
    · replace h := ite_f e2 h
      refine W_skip (N_then (W_seq (W_region ?_)))
      obtain ⟨v2, e3, h⟩ := bind_some h
      refine WL_allC hE [2, 4, 7] [2, 4] [] (orc := [tI64 v2]) (by kernel_rfl) (.c e3 .n) (N_then (W_seq (W_seq (W_region (WL_allC hE [2, 4, 7, 19] [2, 4] [] (orc := []) (by kernel_rfl) .n (N_then (W_cond (b := decide (v2 < (0 : Int))) (by kernel_rfl) (fun e4 => ?_) (fun e4 => ?_))))))))
      · replace h := ite_t e4 h
        refine W_seq (W_region (WL_allC hE [4, 5] [4] [] (orc := []) (by kernel_rfl) .n (N_then (W_ret (N_then_ret ?_)))))
        cases h
        exact N_end (.inl rfl) (by kernel_rfl)
      · replace h := ite_f e4 h
        refine W_skip (N_then (W_seq (W_region ?_)))
        obtain ⟨x1, e5, h⟩ := bind_some h
        refine WL_allI hE (st' := ⟨[(4, .ptr 4 0), (5, I64 (0 : Int))], [(4, .cells [I32 x1.1, U32 x1.2.1, U32 x1.2.2.1] 62)], []⟩) (orc := [⟨(.pair (.int .i32) (.pair (.int .u32) (.pair (.int .u32) .unit))), x1⟩]) (by kernel_rfl) (.c e5 .n) (N_then (W_ret ?_))
        cases h
        exact N_end (.inl rfl) (by kernel_rfl)

def C_rule_letter (k : Nat) : FnC := ⟨true, 1, [], fun | [⟨(.pair (.sl .str) (.pair (.sl (.pair (.int .i32) (.pair (.int .u32) (.pair (.int .u32) .unit)))) .unit)), a1⟩, ⟨(.int .i32), r1⟩], [⟨.bool, rz⟩] => rule_letter k a1 r1 = some rz | _, _ => False⟩
noncomputable def E_rule_letter (k : Nat) : Env := ⟨Tryd.prog, Gn, 15, [(59, C_feature_Of k)]⟩
theorem c_rule_letter (k : Nat) : Contract Tryd.prog Gn 56 (C_rule_letter k) := by
  refine contract_of Gn_stable (fn := Tryd.f56) Tryd.func56 (by kernel_rfl) rfl ?_ ?_
  · intro xs rs h
    unfold C_rule_letter at h
    simp only at h
    split at h
    · exact ⟨by show 2 ≤ _; rw [Tryd.ntmps56]; decide, rfl, fun _ u hu => by simp at hu; (rcases hu with rfl) <;> rfl⟩
    · exact h.elim
  · intro w0 M xs rs hG h
    unfold C_rule_letter at h
    simp only at h
    split at h
    case h_2 => exact h.elim
    rename_i a1 r1 rz
    change (List (List UInt8) × List ((Int × Int × Int × Unit)) × Unit) at a1
    change Int at r1
    change Bool at rz
    have hE : EnvOK (E_rule_letter k) ⟨Tryd.prog, Tryd.f56.ntmps, w0, M, fun _ => False, fun _ => undef⟩ := (EnvOK.cons (c_feature_Of k) (EnvOK.nil rfl Tryd.ntmps56 hG))
    unfold rule_letter at h
    refine W_seq (W_region (WL_allC hE [1, 2] [2] [] (orc := []) (by kernel_rfl) .n (N_then (W_seq (W_region ?_)))))
    obtain ⟨v1, e1, h⟩ := bind_some h
    refine WL_allC hE [6] [] [] (orc := [⟨(.pair (.int .i32) (.pair (.int .u32) (.pair (.int .u32) .unit))), v1.1⟩, tI64 v1.2]) (by kernel_rfl) (.c e1 .n) (N_then (W_seq (W_region (WL_allC hE [4] [] [] (orc := []) (by kernel_rfl) .n (N_then (W_ret ?_))))))
    cases h
    exact N_end (.inl rfl) (by kernel_rfl)

def B_strings_Builder_WriteString_i1 (k : Nat) : FnB (List UInt8 × List (Int)) (Option (Option (Nat × Int)) × Int × List (Int)) where
  n := 19
  S := fun z => ⟨[(0, .ptr 19 0), (1, SS (z.1))], [(19, .cells [.selfp 19, .row 20] 52)], [(20, ⟨5, (.int .u8), (z.2)⟩)]⟩
  S' := fun z y => ⟨[], [(19, .cells [.selfp 19, .row 20] 52)], [(20, ⟨5, (.int .u8), (y.2.2)⟩)]⟩
  rs := fun z y => [I64 (y.2.1), .val .err (y.1)]
  rel := fun z y => strings_Builder_WriteString_i1 k (z.1) (z.2) = some y
noncomputable def E_strings_Builder_WriteString_i1 (k : Nat) : Env := ⟨Tryd.prog, Gn, 19, []⟩
theorem b_strings_Builder_WriteString_i1 (k : Nat) : BC Tryd.prog Gn 16 (B_strings_Builder_WriteString_i1 k) := by
  refine bc_of (fn := Tryd.f16) Tryd.func16 (by kernel_rfl) rfl Tryd.ntmps16 ?_
  rintro cx hP hn hG ⟨s1, l1⟩ y0 h
  have hE : EnvOK (E_strings_Builder_WriteString_i1 k) cx := (EnvOK.nil hP hn hG)
  replace h : strings_Builder_WriteString_i1 k s1 l1 = some y0 := h
  unfold strings_Builder_WriteString_i1 at h
  refine W_seq (W_region (WL_allC hE [0, 1] [19] [20] (orc := []) (by kernel_rfl) .n (N_then (W_seq (W_region (WL_tkC hE 1 [0, 1, 6] [19] [20] (orc := []) (by kernel_rfl) .n ?_))))))
  obtain ⟨v1, e1, h⟩ := bind_some h
  refine WL_callBC hE (b_bld_copyCheck k) l1 v1 e1 (ρ := [(19, 20), (20, 21)]) (ρ' := [(20, 19), (21, 20)]) (n := 20) (by kernel_rfl) [0, 1] [19] [20] (by kernel_rfl) (by kernel_rfl) (by kernel_rfl) (WL_nil (N_then (W_seq (W_region ?_))))
  obtain ⟨_, e2, h⟩ := bind_some h
  replace e2 := chk_some e2
  refine WL_allC hE [0, 1] [19] [20] (orc := []) (by kernel_rfl) (.c e2 .n) (N_then (W_seq (W_region (WL_allI hE (st' := ⟨[(0, .ptr 19 0), (4, I64 (List.length s1 : Int)), (5, .val .err (none : Option (Option (Nat × Int))))], [(19, .cells [.selfp 19, .row 20] 52)], [(20, ⟨5, (.int .u8), l1 ++ (bytesEl s1)⟩)]⟩) (orc := []) (by kernel_rfl) .n (N_then (W_ret ?_))))))
  replace h := Option.some.inj h
  subst h
  exact N_normC [0, 4, 5] [19] [20] (by kernel_rfl) (N_endB hE.P [19] [20] (.inl rfl) (by kernel_rfl) (by kernel_rfl))

def C_feature_Text (k : Nat) : FnC := ⟨true, 2, [], fun | [⟨(.pair (.sl .str) (.pair (.sl (.pair (.int .i32) (.pair (.int .u32) (.pair (.int .u32) .unit)))) .unit)), a1⟩, ⟨(.int .u32), plus1⟩, ⟨(.int .u32), minus1⟩], [⟨.str, rz1⟩, ⟨(.int .i64), rz2⟩] => feature_Text k a1 plus1 minus1 = some (rz1, rz2) | _, _ => False⟩
noncomputable def E_feature_Text (k : Nat) : Env := ⟨Tryd.prog, Gn, 50, [(27, C_feature_Check k), (37, C_feature_within k)]⟩
theorem c_feature_Text (k : Nat) : Contract Tryd.prog Gn 60 (C_feature_Text k) := by
  refine contract_of Gn_stable (fn := Tryd.f60) Tryd.func60 (by kernel_rfl) rfl ?_ ?_
  · intro xs rs h
    unfold C_feature_Text at h
    simp only at h
    split at h
    · exact ⟨by show 3 ≤ _; rw [Tryd.ntmps60]; decide, rfl, fun _ u hu => by simp at hu; (rcases hu with rfl | rfl) <;> rfl⟩
    · exact h.elim
  · intro w0 M xs rs hG h
    unfold C_feature_Text at h
    simp only at h
    split at h
    case h_2 => exact h.elim
    rename_i a1 plus1 minus1 rz1 rz2
    change (List (List UInt8) × List ((Int × Int × Int × Unit)) × Unit) at a1
    change Int at plus1
    change Int at minus1
    change List UInt8 at rz1
    change Int at rz2
    have hE : EnvOK (E_feature_Text k) ⟨Tryd.prog, Tryd.f60.ntmps, w0, M, fun _ => False, fun _ => undef⟩ := (EnvOK.cons (c_feature_Check k) (EnvOK.cons (c_feature_within k) (EnvOK.nil rfl Tryd.ntmps60 hG)))
    unfold feature_Text at h
    refine W_seq (W_region (WL_allC hE [1, 2, 3] [3] [] (orc := []) (by kernel_rfl) .n (N_then (W_seq (W_seq (W_region ?_))))))
    obtain ⟨v1, e1, h⟩ := bind_some h
    refine WL_allC hE [1, 2, 3, 8] [3] [] (orc := [tI64 v1]) (by kernel_rfl) (.c e1 .n) (N_then (W_seq (W_region (WL_allC hE [1, 2, 3, 8, 15] [3] [] (orc := []) (by kernel_rfl) .n (N_then (W_cond (b := v1 != (0 : Int)) (by kernel_rfl) (fun e2 => ?_) (fun e2 => ?_)))))))
    · replace h := ite_t e2 h
      refine W_seq (W_region (WL_allI hE (st' := ⟨[(6, SS ([] : List UInt8)), (7, I64 v1)], [], []⟩) (orc := []) (by kernel_rfl) .n (N_then (W_ret (N_then_ret ?_)))))
      cases h
      exact N_end (.inl rfl) (by kernel_rfl)
    · replace h := ite_f e2 h
      refine W_skip (N_then (W_seq (W_seq (W_region ?_))))
      obtain ⟨v2, e3, h⟩ := bind_some h
      refine WL_allC hE [1, 2, 3, 21] [3] [] (orc := [tB v2]) (by kernel_rfl) (.c e3 .n) (N_then (W_cond (b := !v2) (by kernel_rfl) (fun e4 => ?_) (fun e4 => ?_)))
      · replace h := ite_t e4 h
        refine W_seq (W_region (WL_allC hE [6, 7] [] [] (orc := []) (by kernel_rfl) .n (N_then (W_ret (N_then_ret ?_)))))
        cases h
        exact N_end (.inl rfl) (by kernel_rfl)
      · replace h := ite_f e4 h
        refine W_skip (N_then (W_seq (W_region (WL_allC hE [1, 2, 3, 9] [3, 9] [1000009] (orc := []) (by kernel_rfl) .n (N_then (W_seq (W_seq (W_region (WL_allI hE (orc := []) (by kernel_rfl) .n (N_then (W_block (W_loop (α := (Int × List (Int))) (fun n z => feature_Text_l1 k a1 plus1 minus1 n z.1 z.2 = some (rz1, rz2)) (fun z => ⟨[(1, U32 plus1), (2, U32 minus1), (9, .ptr 9 0), (23, .val (.sl .str) a1.1), (24, I64 (List.length a1.1 : Int)), (25, I64 (z.1))], [(9, .cells [.selfp 9, .row 1000009] 52)], [(1000009, ⟨5, (.int .u8), (z.2)⟩)]⟩) ?_ (k := k) (x := ((0 : Int), ([] : List (Int)))) h))))))))))))
        clear h
        rintro fuel1 ⟨t1, t2⟩ h
        cases fuel1 with
        | zero => exact absurd (show none = some _ from h) (by simp)
        | succ fuel1 =>
          have h : feature_Text_b1 k a1 plus1 minus1 (feature_Text_l1 k a1 plus1 minus1 fuel1) t1 t2 = some (rz1, rz2) := h
          unfold feature_Text_b1 at h
          refine W_seq (W_region (WL_allC hE [1, 2, 9, 23, 24, 25, 26] [9] [1000009] (orc := []) (by kernel_rfl) .n (N_then (W_seq (W_cond (b := decide (t1 < (List.length a1.1 : Int))) (by kernel_rfl) (fun e5 => ?_) (fun e5 => ?_))))))
          · replace h := ite_t e5 h
            refine W_skip (N_then (W_join (α := List (Int)) (fun z => feature_Text_j1 (feature_Text_l1 k a1 plus1 minus1 fuel1) t1 z = some (rz1, rz2)) (fun t3 => ⟨[(1, U32 plus1), (2, U32 minus1), (9, .ptr 9 0), (23, .val (.sl .str) a1.1), (24, I64 (List.length a1.1 : Int)), (25, I64 t1)], [(9, .cells [.selfp 9, .row 1000009] 52)], [(1000009, ⟨5, (.int .u8), t3⟩)]⟩) ?_ (fun hJ1 => ?_)))
            · rintro t3 h
              unfold feature_Text_j1 at h
              exact W_region (WL_allI hE (orc := []) (by kernel_rfl) .n (N_round (wi64 (t1 + (1 : Int)), t3) (Nat.lt_succ_self _) h))
            refine W_block (W_seq (W_region ?_))
            obtain ⟨x1, e6, h⟩ := bind_some h
            refine WL_allC hE [1, 2, 9, 10, 11, 23, 24, 25] [9] [1000009] (orc := [tS x1]) (by kernel_rfl) (.c e6 .n) (N_then (W_block (W_seq (W_region ?_))))
            obtain ⟨_, e7, h⟩ := bind_some h
            replace e7 := chk_some e7
            refine WL_allC hE [1, 2, 9, 10, 11, 23, 24, 25, 30] [9] [1000009] (orc := []) (by kernel_rfl) (.c e7 .n) (N_then (W_cond (b := (wu32 (BitVec.toNat (BitVec.ofInt 32 (Int.fdiv plus1 (2 ^ min (t1).toNat 32)) &&& BitVec.ofInt 32 (1 : Int)))) == (1 : Int)) (by kernel_rfl) (fun e8 => ?_) (fun e8 => ?_)))
            · replace h := ite_t e8 h
              refine W_region ?_
              obtain ⟨_, e9, h⟩ := bind_some h
              replace e9 := chk_some e9
              refine WL_tkC hE 2 [1, 2, 9, 23, 24, 25, 37] [9] [1000009] (orc := []) (by kernel_rfl) (.c e9 .n) ?_
              obtain ⟨v3, e10, h⟩ := bind_some h
              exact WL_callB hE (b_strings_Builder_WriteString_i1 k) (([43] : List UInt8) ++ x1, t2) v3 e10 (ρ := [(9, 19), (1000009, 20)]) (ρ' := [(19, 9), (20, 1000009)]) (n := 19) (by kernel_rfl) [1, 2, 9, 23, 24, 25] [9] [1000009] (by kernel_rfl) (by kernel_rfl) (by kernel_rfl) (WL_nil (N_block (N_block (hJ1 v3.2.2 h))))
            · replace h := ite_f e8 h
              refine W_seq (W_region ?_)
              obtain ⟨_, e11, h⟩ := bind_some h
              replace e11 := chk_some e11
              refine WL_allI hE (st' := ⟨[(1, U32 plus1), (2, U32 minus1), (9, .ptr 9 0), (11, SS x1), (23, .val (.sl .str) a1.1), (24, I64 (List.length a1.1 : Int)), (25, I64 t1), (39, BB ((wu32 (BitVec.toNat (BitVec.ofInt 32 (Int.fdiv minus1 (2 ^ min (t1).toNat 32)) &&& BitVec.ofInt 32 (1 : Int)))) == (1 : Int)))], [(9, .cells [.selfp 9, .row 1000009] 52)], [(1000009, ⟨5, (.int .u8), t2⟩)]⟩) (orc := []) (by kernel_rfl) (.c e11 .n) (N_then (W_cond (b := (wu32 (BitVec.toNat (BitVec.ofInt 32 (Int.fdiv minus1 (2 ^ min (t1).toNat 32)) &&& BitVec.ofInt 32 (1 : Int)))) == (1 : Int)) (by kernel_rfl) (fun e12 => ?_) (fun e12 => ?_)))
              · replace h := ite_t e12 h
                refine W_region ?_
                obtain ⟨_, e13, h⟩ := bind_some h
                replace e13 := chk_some e13
                refine WL_tkC hE 2 [1, 2, 9, 23, 24, 25, 46] [9] [1000009] (orc := []) (by kernel_rfl) (.c e13 .n) ?_
                obtain ⟨v4, e14, h⟩ := bind_some h
                exact WL_callB hE (b_strings_Builder_WriteString_i1 k) (([45] : List UInt8) ++ x1, t2) v4 e14 (ρ := [(9, 19), (1000009, 20)]) (ρ' := [(19, 9), (20, 1000009)]) (n := 19) (by kernel_rfl) [1, 2, 9, 23, 24, 25] [9] [1000009] (by kernel_rfl) (by kernel_rfl) (by kernel_rfl) (WL_nil (N_block (N_block (hJ1 v4.2.2 h))))
              · replace h := ite_f e12 h
                exact W_skip (N_block (N_block (N_normI (by kernel_rfl) (hJ1 t2 h))))
          · replace h := ite_f e5 h
            refine W_exit (N_then_exit (N_then_exit (N_block_exit (N_then (W_seq (W_region ?_))))))
            obtain ⟨v5, e15, h⟩ := bind_some h
            refine WL_callBC hE (b_bld_String k) t2 v5 e15 (ρ := [(9, 14), (1000009, 15)]) (ρ' := []) (n := 14) (by kernel_rfl) [49] [] [] (by kernel_rfl) (by kernel_rfl) (by kernel_rfl) (WL_allC hE [6, 7] [] [] (orc := []) (by kernel_rfl) .n (N_then (W_ret ?_)))
            cases h
            exact N_end (.inl rfl) (by kernel_rfl)

def C_rule_class (k : Nat) : FnC := ⟨true, 1, [], fun | [⟨(.pair (.sl .str) (.pair (.sl (.pair (.int .i32) (.pair (.int .u32) (.pair (.int .u32) .unit)))) .unit)), a1⟩, ⟨(.int .u32), plus1⟩, ⟨(.int .u32), minus1⟩], [⟨.bool, rz⟩] => rule_class k a1 plus1 minus1 = some rz | _, _ => False⟩
noncomputable def E_rule_class (k : Nat) : Env := ⟨Tryd.prog, Gn, 18, [(60, C_feature_Text k)]⟩
theorem c_rule_class (k : Nat) : Contract Tryd.prog Gn 57 (C_rule_class k) := by
  refine contract_of Gn_stable (fn := Tryd.f57) Tryd.func57 (by kernel_rfl) rfl ?_ ?_
  · intro xs rs h
    unfold C_rule_class at h
    simp only at h
    split at h
    · exact ⟨by show 3 ≤ _; rw [Tryd.ntmps57]; decide, rfl, fun _ u hu => by simp at hu; (rcases hu with rfl) <;> rfl⟩
    · exact h.elim
  · intro w0 M xs rs hG h
    unfold C_rule_class at h
    simp only at h
    split at h
    case h_2 => exact h.elim
    rename_i a1 plus1 minus1 rz
    change (List (List UInt8) × List ((Int × Int × Int × Unit)) × Unit) at a1
    change Int at plus1
    change Int at minus1
    change Bool at rz
    have hE : EnvOK (E_rule_class k) ⟨Tryd.prog, Tryd.f57.ntmps, w0, M, fun _ => False, fun _ => undef⟩ := (EnvOK.cons (c_feature_Text k) (EnvOK.nil rfl Tryd.ntmps57 hG))
    unfold rule_class at h
    refine W_seq (W_region (WL_allC hE [1, 2, 3] [3] [] (orc := []) (by kernel_rfl) .n (N_then (W_seq (W_region ?_)))))
    obtain ⟨v1, e1, h⟩ := bind_some h
    refine WL_allC hE [8] [] [] (orc := [tS v1.1, tI64 v1.2]) (by kernel_rfl) (.c e1 .n) (N_then (W_seq (W_region (WL_allC hE [6] [] [] (orc := []) (by kernel_rfl) .n (N_then (W_ret ?_))))))
    cases h
    exact N_end (.inl rfl) (by kernel_rfl)

def C_rule_either (k : Nat) : FnC := ⟨true, 1, [], fun | [⟨(.pair (.sl .str) (.pair (.sl (.pair (.int .i32) (.pair (.int .u32) (.pair (.int .u32) .unit)))) .unit)), a1⟩, ⟨(.int .i32), r1⟩, ⟨(.int .u32), plus1⟩, ⟨(.int .u32), minus1⟩], [⟨.bool, rz⟩] => rule_either k a1 r1 plus1 minus1 = some rz | _, _ => False⟩
noncomputable def E_rule_either (k : Nat) : Env := ⟨Tryd.prog, Gn, 24, [(56, C_rule_letter k), (57, C_rule_class k)]⟩
theorem c_rule_either (k : Nat) : Contract Tryd.prog Gn 45 (C_rule_either k) := by
  refine contract_of Gn_stable (fn := Tryd.f45) Tryd.func45 (by kernel_rfl) rfl ?_ ?_
  · intro xs rs h
    unfold C_rule_either at h
    simp only at h
    split at h
    · exact ⟨by show 4 ≤ _; rw [Tryd.ntmps45]; decide, rfl, fun _ u hu => by simp at hu; (rcases hu with rfl) <;> rfl⟩
    · exact h.elim
  · intro w0 M xs rs hG h
    unfold C_rule_either at h
    simp only at h
    split at h
    case h_2 => exact h.elim
    rename_i a1 r1 plus1 minus1 rz
    change (List (List UInt8) × List ((Int × Int × Int × Unit)) × Unit) at a1
    change Int at r1
    change Int at plus1
    change Int at minus1
    change Bool at rz
    have hE : EnvOK (E_rule_either k) ⟨Tryd.prog, Tryd.f45.ntmps, w0, M, fun _ => False, fun _ => undef⟩ := (EnvOK.cons (c_rule_letter k) (EnvOK.cons (c_rule_class k) (EnvOK.nil rfl Tryd.ntmps45 hG)))
    unfold rule_either at h
    refine W_seq (W_region (WL_allC hE [1, 2, 3, 4] [4] [] (orc := []) (by kernel_rfl) .n (N_then (W_seq (W_seq (W_region (WL_allC hE [1, 2, 3, 4, 10] [4] [] (orc := []) (by kernel_rfl) .n (N_then (W_cond (b := r1 != (0 : Int)) (by kernel_rfl) (fun e1 => ?_) (fun e1 => ?_))))))))))
    · replace h := ite_t e1 h
      refine W_seq (W_region ?_)
      obtain ⟨v1, e2, h⟩ := bind_some h
      refine WL_tkC hE 4 [2, 3, 14] [] [] (orc := [tB v1]) (by kernel_rfl) (.c e2 .n) (WL_join (α := Bool) (fun z => rule_either_j1 z = some rz) (fun t1 => ⟨[(19, BB t1)], [], []⟩) 5 ?_ (fun hJ1 => ?_))
      · rintro t1 h
        unfold rule_either_j1 at h
        refine WL_allC hE [8] [] [] (orc := []) (by kernel_rfl) .n (N_then (W_ret (N_then_ret ?_)))
        cases h
        exact N_end (.inl rfl) (by kernel_rfl)
      refine WL_splitC 14 (b := v1) (by kernel_rfl) (fun e3 => ?_) (fun e3 => ?_)
      · rw [and_t e3] at h
        exact WL_allI hE (orc := []) (by kernel_rfl) .n (hJ1 ((wu32 (BitVec.toNat (BitVec.ofInt 32 plus1 ||| BitVec.ofInt 32 minus1))) == (0 : Int)) h)
      · rw [and_f e3] at h
        exact WL_allI hE (orc := []) (by kernel_rfl) .n (hJ1 false h)
    · replace h := ite_f e1 h
      refine W_skip (N_then (W_seq (W_region ?_)))
      obtain ⟨v2, e4, h⟩ := bind_some h
      refine WL_allC hE [8] [] [] (orc := [tB v2]) (by kernel_rfl) (.c e4 .n) (N_then (W_ret ?_))
      cases h
      exact N_end (.inl rfl) (by kernel_rfl)

def C_rule_swap (k : Nat) : FnC := ⟨true, 1, [], fun | [⟨(.pair (.sl .str) (.pair (.sl (.pair (.int .i32) (.pair (.int .u32) (.pair (.int .u32) .unit)))) .unit)), a1⟩, ⟨(.pair (.int .i32) (.pair (.int .i64) (.pair (.int .u32) (.pair (.int .u32) .unit)))), s1⟩, ⟨(.int .i64), slots1⟩], [⟨.bool, rz⟩] => rule_swap k a1 s1 slots1 = some rz | _, _ => False⟩
noncomputable def E_rule_swap (k : Nat) : Env := ⟨Tryd.prog, Gn, 39, [(45, C_rule_either k)]⟩
theorem c_rule_swap (k : Nat) : Contract Tryd.prog Gn 46 (C_rule_swap k) := by
  refine contract_of Gn_stable (fn := Tryd.f46) Tryd.func46 (by kernel_rfl) rfl ?_ ?_
  · intro xs rs h
    unfold C_rule_swap at h
    simp only at h
    split at h
    · exact ⟨by show 3 ≤ _; rw [Tryd.ntmps46]; decide, rfl, fun _ u hu => by simp at hu; (rcases hu with rfl) <;> rfl⟩
    · exact h.elim
  · intro w0 M xs rs hG h
    unfold C_rule_swap at h
    simp only at h
    split at h
    case h_2 => exact h.elim
    rename_i a1 s1 slots1 rz
    change (List (List UInt8) × List ((Int × Int × Int × Unit)) × Unit) at a1
    change (Int × Int × Int × Int × Unit) at s1
    change Int at slots1
    change Bool at rz
    have hE : EnvOK (E_rule_swap k) ⟨Tryd.prog, Tryd.f46.ntmps, w0, M, fun _ => False, fun _ => undef⟩ := (EnvOK.cons (c_rule_either k) (EnvOK.nil rfl Tryd.ntmps46 hG))
    unfold rule_swap at h
    refine W_seq (W_region (WL_allC hE [2, 3, 4] [3, 4] [] (orc := []) (by kernel_rfl) .n (N_then (W_seq (W_seq (W_region (WL_tkC hE 4 [2, 3, 4, 10] [3, 4] [] (orc := []) (by kernel_rfl) .n (WL_join (α := Bool) (fun z => rule_swap_j1 k a1 s1 slots1 z = some rz) (fun t1 => ⟨[(2, I64 slots1), (3, .ptr 3 0), (4, .ptr 4 0), (14, BB t1)], [(3, .cells [.val (.sl .str) a1.1, .val (.sl (.pair (.int .i32) (.pair (.int .u32) (.pair (.int .u32) .unit)))) a1.2.1] 25), (4, .cells [I32 s1.1, I64 s1.2.1, U32 s1.2.2.1, U32 s1.2.2.2.1] 105)], []⟩) 4 ?_ (fun hJ1 => ?_)))))))))
    · rintro t1 h
      unfold rule_swap_j1 at h
      refine WL_tkC hE 1 [2, 3, 4, 15] [3, 4] [] (orc := []) (by kernel_rfl) .n (WL_join (α := Bool) (fun z => rule_swap_j2 k a1 s1 z = some rz) (fun t2 => ⟨[(3, .ptr 3 0), (4, .ptr 4 0), (30, BB t2)], [(3, .cells [.val (.sl .str) a1.1, .val (.sl (.pair (.int .i32) (.pair (.int .u32) (.pair (.int .u32) .unit)))) a1.2.1] 25), (4, .cells [I32 s1.1, I64 s1.2.1, U32 s1.2.2.1, U32 s1.2.2.2.1] 105)], []⟩) 15 ?_ (fun hJ2 => ?_))
      · rintro t2 h
        unfold rule_swap_j2 at h
        refine WL_nil (N_then (W_cond (b := t2) (by kernel_rfl) (fun e1 => ?_) (fun e1 => ?_)))
        · replace h := ite_t e1 h
          refine W_seq (W_region (WL_allC hE [6] [] [] (orc := []) (by kernel_rfl) .n (N_then (W_ret (N_then_ret ?_)))))
          cases h
          exact N_end (.inl rfl) (by kernel_rfl)
        · replace h := ite_f e1 h
          refine W_skip (N_then (W_seq (W_region ?_)))
          obtain ⟨v1, e2, h⟩ := bind_some h
          refine WL_allC hE [6] [] [] (orc := [tB v1]) (by kernel_rfl) (.c e2 .n) (N_then (W_ret ?_))
          cases h
          exact N_end (.inl rfl) (by kernel_rfl)
      refine WL_splitC 15 (b := t1) (by kernel_rfl) (fun e3 => ?_) (fun e3 => ?_)
      · replace h := ite_t e3 h
        exact WL_allI hE (orc := []) (by kernel_rfl) .n (hJ2 true h)
      · replace h := ite_f e3 h
        refine WL_tkC hE 4 [2, 3, 4, 15, 19] [3, 4] [] (orc := []) (by kernel_rfl) .n (WL_join (α := Bool) (fun z => rule_swap_j3 k a1 s1 z = some rz) (fun t3 => ⟨[(3, .ptr 3 0), (4, .ptr 4 0), (15, BB false), (29, BB t3)], [(3, .cells [.val (.sl .str) a1.1, .val (.sl (.pair (.int .i32) (.pair (.int .u32) (.pair (.int .u32) .unit)))) a1.2.1] 25), (4, .cells [I32 s1.1, I64 s1.2.1, U32 s1.2.2.1, U32 s1.2.2.2.1] 105)], []⟩) 10 ?_ (fun hJ3 => ?_))
        · rintro t3 h
          unfold rule_swap_j3 at h
          exact WL_allI hE (orc := []) (by kernel_rfl) .n (hJ2 t3 h)
        refine WL_splitC 19 (b := s1.1 == (0 : Int)) (by kernel_rfl) (fun e4 => ?_) (fun e4 => ?_)
        · replace h := ite_t e4 h
          refine WL_tkC hE 4 [2, 3, 4, 15, 19, 23] [3, 4] [] (orc := []) (by kernel_rfl) .n (WL_join (α := Bool) (fun z => rule_swap_j4 k a1 s1 z = some rz) (fun t4 => ⟨[(3, .ptr 3 0), (4, .ptr 4 0), (15, BB false), (19, BB true), (28, BB t4)], [(3, .cells [.val (.sl .str) a1.1, .val (.sl (.pair (.int .i32) (.pair (.int .u32) (.pair (.int .u32) .unit)))) a1.2.1] 25), (4, .cells [I32 s1.1, I64 s1.2.1, U32 s1.2.2.1, U32 s1.2.2.2.1] 105)], []⟩) 5 ?_ (fun hJ4 => ?_))
          · rintro t4 h
            unfold rule_swap_j4 at h
            exact WL_allI hE (orc := []) (by kernel_rfl) .n (hJ3 t4 h)
          refine WL_splitC 23 (b := decide (s1.2.1 < (0 : Int))) (by kernel_rfl) (fun e5 => ?_) (fun e5 => ?_)
          · rw [or_t e5] at h
            exact WL_allI hE (orc := []) (by kernel_rfl) .n (hJ4 true h)
          · rw [or_f e5] at h
            exact WL_allI hE (orc := []) (by kernel_rfl) .n (hJ4 (decide (slots1 ≤ s1.2.1)) h)
        · replace h := ite_f e4 h
          exact WL_allI hE (orc := []) (by kernel_rfl) .n (hJ3 false h)
    refine WL_splitC 10 (b := s1.1 != (0 : Int)) (by kernel_rfl) (fun e6 => ?_) (fun e6 => ?_)
    · rw [and_t e6] at h
      exact WL_allI hE (orc := []) (by kernel_rfl) .n (hJ1 (s1.2.1 != (0 : Int)) h)
    · rw [and_f e6] at h
      exact WL_allI hE (orc := []) (by kernel_rfl) .n (hJ1 false h)

def C_slices_Index___bool_bool_ (k : Nat) : FnC := ⟨true, 1, [], fun | [⟨(.sl .bool), s1⟩, ⟨.bool, v1⟩], [⟨(.int .i64), rz⟩] => slices_Index___bool_bool_ k s1 v1 = some rz | _, _ => False⟩
noncomputable def E_slices_Index___bool_bool_ (k : Nat) : Env := ⟨Tryd.prog, Gn, 19, []⟩
theorem c_slices_Index___bool_bool_ (k : Nat) : Contract Tryd.prog Gn 72 (C_slices_Index___bool_bool_ k) := by
  refine contract_of Gn_stable (fn := Tryd.f72) Tryd.func72 (by kernel_rfl) rfl ?_ ?_
  · intro xs rs h
    unfold C_slices_Index___bool_bool_ at h
    simp only at h
    split at h
    · exact ⟨by show 2 ≤ _; rw [Tryd.ntmps72]; decide, rfl, fun _ u hu => by simp at hu; (rcases hu with rfl) <;> rfl⟩
    · exact h.elim
  · intro w0 M xs rs hG h
    unfold C_slices_Index___bool_bool_ at h
    simp only at h
    split at h
    case h_2 => exact h.elim
    rename_i s1 v1 rz
    change List (Bool) at s1
    change Bool at v1
    change Int at rz
    have hE : EnvOK (E_slices_Index___bool_bool_ k) ⟨Tryd.prog, Tryd.f72.ntmps, w0, M, fun _ => False, fun _ => undef⟩ := (EnvOK.nil rfl Tryd.ntmps72 hG)
    unfold slices_Index___bool_bool_ at h
    refine W_seq (W_region (WL_allC hE [0, 1] [] [] (orc := []) (by kernel_rfl) .n (N_then (W_seq (W_seq (W_region (WL_allI hE (orc := []) (by kernel_rfl) .n (N_then (W_block (W_loop (α := Int) (fun n z => slices_Index___bool_bool__l1 s1 v1 n z = some rz) (fun t1 => ⟨[(0, .val (.sl .bool) s1), (1, BB v1), (7, I64 (List.length s1 : Int)), (8, I64 t1)], [], []⟩) ?_ (k := k) (x := (0 : Int)) h))))))))))
    clear h
    rintro fuel1 t1 h
    cases fuel1 with
    | zero => exact absurd (show none = some _ from h) (by simp)
    | succ fuel1 =>
      have h : slices_Index___bool_bool__b1 s1 v1 (slices_Index___bool_bool__l1 s1 v1 fuel1) t1 = some rz := h
      unfold slices_Index___bool_bool__b1 at h
      refine W_seq (W_region (WL_allC hE [0, 1, 7, 8, 9] [] [] (orc := []) (by kernel_rfl) .n (N_then (W_seq (W_cond (b := decide (t1 < (List.length s1 : Int))) (by kernel_rfl) (fun e1 => ?_) (fun e1 => ?_))))))
      · replace h := ite_t e1 h
        refine W_skip (N_then (W_seq (W_block (W_seq (W_region (WL_allC hE [0, 1, 5, 7, 8] [] [] (orc := []) (by kernel_rfl) .n (N_then (W_seq (W_region ?_)))))))))
        obtain ⟨x1, e2, h⟩ := bind_some h
        refine WL_allC hE [0, 1, 5, 7, 8, 16] [] [] (orc := [tB x1]) (by kernel_rfl) (.c e2 .n) (N_then (W_cond (b := v1 == x1) (by kernel_rfl) (fun e3 => ?_) (fun e3 => ?_)))
        · replace h := ite_t e3 h
          refine W_seq (W_region (WL_allI hE (st' := ⟨[(4, I64 t1)], [], []⟩) (orc := []) (by kernel_rfl) .n (N_then (W_ret (N_block_ret (N_then_ret (N_then_ret (N_block_ret (N_then_ret ?_)))))))))
          cases h
          exact N_end (.inl rfl) (by kernel_rfl)
        · replace h := ite_f e3 h
          exact W_skip (N_block (N_then (W_region (WL_allI hE (orc := []) (by kernel_rfl) .n (N_round (wi64 (t1 + (1 : Int))) (Nat.lt_succ_self _) h)))))
      · replace h := ite_f e1 h
        refine W_exit (N_then_exit (N_then_exit (N_block_exit (N_then (W_seq (W_region (WL_allC hE [4] [] [] (orc := []) (by kernel_rfl) .n (N_then (W_ret ?_)))))))))
        cases h
        exact N_end (.inl rfl) (by kernel_rfl)

def C_slices_Contains___bool_bool_ (k : Nat) : FnC := ⟨true, 1, [], fun | [⟨(.sl .bool), s1⟩, ⟨.bool, v1⟩], [⟨.bool, rz⟩] => slices_Contains___bool_bool_ k s1 v1 = some rz | _, _ => False⟩
noncomputable def E_slices_Contains___bool_bool_ (k : Nat) : Env := ⟨Tryd.prog, Gn, 9, [(72, C_slices_Index___bool_bool_ k)]⟩
theorem c_slices_Contains___bool_bool_ (k : Nat) : Contract Tryd.prog Gn 66 (C_slices_Contains___bool_bool_ k) := by
  refine contract_of Gn_stable (fn := Tryd.f66) Tryd.func66 (by kernel_rfl) rfl ?_ ?_
  · intro xs rs h
    unfold C_slices_Contains___bool_bool_ at h
    simp only at h
    split at h
    · exact ⟨by show 2 ≤ _; rw [Tryd.ntmps66]; decide, rfl, fun _ u hu => by simp at hu; (rcases hu with rfl) <;> rfl⟩
    · exact h.elim
  · intro w0 M xs rs hG h
    unfold C_slices_Contains___bool_bool_ at h
    simp only at h
    split at h
    case h_2 => exact h.elim
    rename_i s1 v1 rz
    change List (Bool) at s1
    change Bool at v1
    change Bool at rz
    have hE : EnvOK (E_slices_Contains___bool_bool_ k) ⟨Tryd.prog, Tryd.f66.ntmps, w0, M, fun _ => False, fun _ => undef⟩ := (EnvOK.cons (c_slices_Index___bool_bool_ k) (EnvOK.nil rfl Tryd.ntmps66 hG))
    unfold slices_Contains___bool_bool_ at h
    refine W_seq (W_region (WL_allC hE [0, 1] [] [] (orc := []) (by kernel_rfl) .n (N_then (W_seq (W_region ?_)))))
    obtain ⟨v2, e1, h⟩ := bind_some h
    refine WL_allC hE [4] [] [] (orc := [tI64 v2]) (by kernel_rfl) (.c e1 .n) (N_then (W_ret ?_))
    cases h
    exact N_end (.inl rfl) (by kernel_rfl)

def C_pattern_tree (k : Nat) : FnC := ⟨true, 1, [], fun | [⟨(.pair (.sl (.pair (.int .u8) (.pair (.int .i32) (.pair (.int .u32) (.pair (.int .u32) (.pair (.sl (.int .i64)) .unit)))))) .unit), p1⟩], [⟨.bool, rz⟩] => pattern_tree k p1 = some rz | _, _ => False⟩
noncomputable def E_pattern_tree (k : Nat) : Env := ⟨Tryd.prog, Gn, 101, [(66, C_slices_Contains___bool_bool_ k)]⟩
theorem c_pattern_tree (k : Nat) : Contract Tryd.prog Gn 58 (C_pattern_tree k) := by
  refine contract_of Gn_stable (fn := Tryd.f58) Tryd.func58 (by kernel_rfl) rfl ?_ ?_
  · intro xs rs h
    unfold C_pattern_tree at h
    simp only at h
    split at h
    · exact ⟨by show 1 ≤ _; rw [Tryd.ntmps58]; decide, rfl, fun _ u hu => by simp at hu; (rcases hu with rfl) <;> rfl⟩
    · exact h.elim
  · intro w0 M xs rs hG h
    unfold C_pattern_tree at h
    simp only at h
    split at h
    case h_2 => exact h.elim
    rename_i p1 rz
    change (List ((Int × Int × Int × Int × List (Int) × Unit)) × Unit) at p1
    change Bool at rz
    have hE : EnvOK (E_pattern_tree k) ⟨Tryd.prog, Tryd.f58.ntmps, w0, M, fun _ => False, fun _ => undef⟩ := (EnvOK.cons (c_slices_Contains___bool_bool_ k) (EnvOK.nil rfl Tryd.ntmps58 hG))
    unfold pattern_tree at h
    refine W_seq (W_region (WL_allC hE [1] [1] [] (orc := []) (by kernel_rfl) .n (N_then (W_seq (W_region (WL_allC hE [1, 3] [1] [] (orc := []) (by kernel_rfl) .n (N_then (W_seq (W_seq (W_region (WL_tkC hE 3 [1, 3, 14] [1] [] (orc := []) (by kernel_rfl) .n (WL_join (α := Bool) (fun z => pattern_tree_j1 k p1 z = some rz) (fun t1 => ⟨[(1, .ptr 1 0), (3, I64 (List.length p1.1 : Int)), (17, BB t1)], [(1, .cells [.val (.sl (.pair (.int .u8) (.pair (.int .i32) (.pair (.int .u32) (.pair (.int .u32) (.pair (.sl (.int .i64)) .unit)))))) p1.1] 95)], []⟩) 3 ?_ (fun hJ1 => ?_)))))))))))))
    · rintro t1 h
      unfold pattern_tree_j1 at h
      refine WL_nil (N_then (W_cond (b := t1) (by kernel_rfl) (fun e1 => ?_) (fun e1 => ?_)))
      · replace h := ite_t e1 h
        refine W_seq (W_region (WL_allC hE [2] [] [] (orc := []) (by kernel_rfl) .n (N_then (W_ret (N_then_ret ?_)))))
        cases h
        exact N_end (.inl rfl) (by kernel_rfl)
      · replace h := ite_f e1 h
        refine W_skip (N_then (W_seq (W_region ?_)))
        obtain ⟨_, e2, h⟩ := bind_some h
        replace e2 := chk_some e2
        refine WL_allC hE [1, 3, 4] [1] [19] (orc := []) (by kernel_rfl) (.c e2 .n) (N_then (W_seq (W_seq (W_region (WL_allI hE (orc := []) (by kernel_rfl) .n (N_then (W_block (W_loop (α := (Int × List (Bool))) (fun n z => pattern_tree_l1 k p1 n z.1 z.2 = some rz) (fun z => ⟨[(3, I64 (List.length p1.1 : Int)), (4, .row 19), (21, .val (.sl (.pair (.int .u8) (.pair (.int .i32) (.pair (.int .u32) (.pair (.int .u32) (.pair (.sl (.int .i64)) .unit)))))) p1.1), (22, I64 (List.length p1.1 : Int)), (23, I64 (z.1))], [], [(19, ⟨4, .bool, (z.2)⟩)]⟩) ?_ (k := k) (x := ((0 : Int), List.replicate ((List.length p1.1 : Int)).toNat false)) h))))))))
        clear h
        rintro fuel1 ⟨t2, t3⟩ h
        cases fuel1 with
        | zero => exact absurd (show none = some _ from h) (by simp)
        | succ fuel1 =>
          have h : pattern_tree_b1 k p1 (pattern_tree_l1 k p1 fuel1) t2 t3 = some rz := h
          unfold pattern_tree_b1 at h
          refine W_seq (W_region (WL_allC hE [3, 4, 21, 22, 23, 24] [] [19] (orc := []) (by kernel_rfl) .n (N_then (W_seq (W_cond (b := decide (t2 < (List.length p1.1 : Int))) (by kernel_rfl) (fun e3 => ?_) (fun e3 => ?_))))))
          · replace h := ite_t e3 h
            refine W_skip (N_then (W_seq (W_block (W_seq (W_region ?_)))))
            obtain ⟨x1, e4, h⟩ := bind_some h
            refine WL_allC hE [3, 4, 5, 6, 21, 22, 23] [6] [19] (orc := [⟨(.pair (.int .u8) (.pair (.int .i32) (.pair (.int .u32) (.pair (.int .u32) (.pair (.sl (.int .i64)) .unit))))), x1⟩]) (by kernel_rfl) (.c e4 .n) (N_then (W_join (α := Unit) (fun _ => pattern_tree_j2 k x1 t2 p1 (pattern_tree_l1 k p1 fuel1) t3 = some rz) (fun _ => ⟨[(3, I64 (List.length p1.1 : Int)), (4, .row 19), (5, I64 t2), (6, .ptr 6 0), (21, .val (.sl (.pair (.int .u8) (.pair (.int .i32) (.pair (.int .u32) (.pair (.int .u32) (.pair (.sl (.int .i64)) .unit)))))) p1.1), (22, I64 (List.length p1.1 : Int)), (23, I64 t2)], [(6, .cells [U8 x1.1, I32 x1.2.1, U32 x1.2.2.1, U32 x1.2.2.2.1, .val (.sl (.int .i64)) x1.2.2.2.2.1] 119)], [(19, ⟨4, .bool, t3⟩)]⟩) ?_ (fun hJ7 => ?_)))
            · rintro _ h
              unfold pattern_tree_j2 at h
              refine W_seq (W_seq (W_region (WL_tkC hE 4 [3, 4, 5, 6, 21, 22, 23, 53] [6] [19] (orc := []) (by kernel_rfl) .n (WL_join (α := Bool) (fun z => pattern_tree_j3 k x1 t2 p1 (pattern_tree_l1 k p1 fuel1) t3 z = some rz) (fun t4 => ⟨[(3, I64 (List.length p1.1 : Int)), (4, .row 19), (5, I64 t2), (6, .ptr 6 0), (21, .val (.sl (.pair (.int .u8) (.pair (.int .i32) (.pair (.int .u32) (.pair (.int .u32) (.pair (.sl (.int .i64)) .unit)))))) p1.1), (22, I64 (List.length p1.1 : Int)), (23, I64 t2), (57, BB t4)], [(6, .cells [U8 x1.1, I32 x1.2.1, U32 x1.2.2.1, U32 x1.2.2.2.1, .val (.sl (.int .i64)) x1.2.2.2.2.1] 119)], [(19, ⟨4, .bool, t3⟩)]⟩) 4 ?_ (fun hJ3 => ?_)))))
              · rintro t4 h
                unfold pattern_tree_j3 at h
                refine WL_tkC hE 1 [3, 4, 5, 6, 21, 22, 23, 58] [6] [19] (orc := []) (by kernel_rfl) .n (WL_join (α := Bool) (fun z => pattern_tree_j4 k x1 t2 p1 (pattern_tree_l1 k p1 fuel1) t3 z = some rz) (fun t5 => ⟨[(3, I64 (List.length p1.1 : Int)), (4, .row 19), (5, I64 t2), (6, .ptr 6 0), (21, .val (.sl (.pair (.int .u8) (.pair (.int .i32) (.pair (.int .u32) (.pair (.int .u32) (.pair (.sl (.int .i64)) .unit)))))) p1.1), (22, I64 (List.length p1.1 : Int)), (23, I64 t2), (70, BB t5)], [(6, .cells [U8 x1.1, I32 x1.2.1, U32 x1.2.2.1, U32 x1.2.2.2.1, .val (.sl (.int .i64)) x1.2.2.2.2.1] 119)], [(19, ⟨4, .bool, t3⟩)]⟩) 12 ?_ (fun hJ4 => ?_))
                · rintro t5 h
                  unfold pattern_tree_j4 at h
                  refine WL_nil (N_then (W_cond (b := t5) (by kernel_rfl) (fun e5 => ?_) (fun e5 => ?_)))
                  · replace h := ite_t e5 h
                    refine W_seq (W_region (WL_allC hE [2] [] [] (orc := []) (by kernel_rfl) .n (N_then (W_ret (N_then_ret (N_block_ret (N_then_ret (N_then_ret (N_block_ret (N_then_ret ?_))))))))))
                    cases h
                    exact N_end (.inl rfl) (by kernel_rfl)
                  · replace h := ite_f e5 h
                    refine W_skip (N_then (W_seq (W_region (WL_allI hE (orc := []) (by kernel_rfl) .n (N_then (W_block (W_loop (α := (Int × List (Bool))) (fun n z => pattern_tree_l2 x1 t2 p1 (pattern_tree_l1 k p1 fuel1) n z.1 z.2 = some rz) (fun z => ⟨[(3, I64 (List.length p1.1 : Int)), (4, .row 19), (5, I64 t2), (21, .val (.sl (.pair (.int .u8) (.pair (.int .i32) (.pair (.int .u32) (.pair (.int .u32) (.pair (.sl (.int .i64)) .unit)))))) p1.1), (22, I64 (List.length p1.1 : Int)), (23, I64 t2), (72, .val (.sl (.int .i64)) x1.2.2.2.2.1), (73, I64 (List.length x1.2.2.2.2.1 : Int)), (74, I64 (z.1))], [], [(19, ⟨4, .bool, (z.2)⟩)]⟩) ?_ (k := k) (x := ((0 : Int), t3)) h)))))))
                    clear h
                    rintro fuel2 ⟨t6, t7⟩ h
                    cases fuel2 with
                    | zero => exact absurd (show none = some _ from h) (by simp)
                    | succ fuel2 =>
                      have h : pattern_tree_b2 x1 t2 p1 (pattern_tree_l1 k p1 fuel1) (pattern_tree_l2 x1 t2 p1 (pattern_tree_l1 k p1 fuel1) fuel2) t6 t7 = some rz := h
                      unfold pattern_tree_b2 at h
                      refine W_seq (W_region (WL_allC hE [3, 4, 5, 21, 22, 23, 72, 73, 74, 75] [] [19] (orc := []) (by kernel_rfl) .n (N_then (W_seq (W_cond (b := decide (t6 < (List.length x1.2.2.2.2.1 : Int))) (by kernel_rfl) (fun e6 => ?_) (fun e6 => ?_))))))
                      · replace h := ite_t e6 h
                        refine W_skip (N_then (W_seq (W_block (W_seq (W_region ?_)))))
                        obtain ⟨x2, e7, h⟩ := bind_some h
                        refine WL_allC hE [3, 4, 5, 8, 21, 22, 23, 72, 73, 74] [] [19] (orc := [tI64 x2]) (by kernel_rfl) (.c e7 .n) (N_then (W_seq (W_seq (W_region (WL_tkC hE 4 [3, 4, 5, 8, 21, 22, 23, 72, 73, 74, 81] [] [19] (orc := []) (by kernel_rfl) .n (WL_join (α := Bool) (fun z => pattern_tree_j5 t7 x2 (pattern_tree_l2 x1 t2 p1 (pattern_tree_l1 k p1 fuel1) fuel2) t6 z = some rz) (fun t8 => ⟨[(3, I64 (List.length p1.1 : Int)), (4, .row 19), (5, I64 t2), (8, I64 x2), (21, .val (.sl (.pair (.int .u8) (.pair (.int .i32) (.pair (.int .u32) (.pair (.int .u32) (.pair (.sl (.int .i64)) .unit)))))) p1.1), (22, I64 (List.length p1.1 : Int)), (23, I64 t2), (72, .val (.sl (.int .i64)) x1.2.2.2.2.1), (73, I64 (List.length x1.2.2.2.2.1 : Int)), (74, I64 t6), (85, BB t8)], [], [(19, ⟨4, .bool, t7⟩)]⟩) 4 ?_ (fun hJ5 => ?_)))))))
                        · rintro t8 h
                          unfold pattern_tree_j5 at h
                          refine WL_tkC hE 1 [3, 4, 5, 8, 21, 22, 23, 72, 73, 74, 86] [] [19] (orc := []) (by kernel_rfl) .n (WL_join (α := Bool) (fun z => pattern_tree_j6 t7 x2 (pattern_tree_l2 x1 t2 p1 (pattern_tree_l1 k p1 fuel1) fuel2) t6 z = some rz) (fun t9 => ⟨[(3, I64 (List.length p1.1 : Int)), (4, .row 19), (5, I64 t2), (8, I64 x2), (21, .val (.sl (.pair (.int .u8) (.pair (.int .i32) (.pair (.int .u32) (.pair (.int .u32) (.pair (.sl (.int .i64)) .unit)))))) p1.1), (22, I64 (List.length p1.1 : Int)), (23, I64 t2), (72, .val (.sl (.int .i64)) x1.2.2.2.2.1), (73, I64 (List.length x1.2.2.2.2.1 : Int)), (74, I64 t6), (91, BB t9)], [], [(19, ⟨4, .bool, t7⟩)]⟩) 5 ?_ (fun hJ6 => ?_))
                          · rintro t9 h
                            unfold pattern_tree_j6 at h
                            refine WL_nil (N_then (W_cond (b := t9) (by kernel_rfl) (fun e8 => ?_) (fun e8 => ?_)))
                            · replace h := ite_t e8 h
                              refine W_seq (W_region (WL_allC hE [2] [] [] (orc := []) (by kernel_rfl) .n (N_then (W_ret (N_then_ret (N_block_ret (N_then_ret (N_then_ret (N_block_ret (N_block_ret (N_then_ret (N_then_ret (N_block_ret (N_then_ret ?_))))))))))))))
                              cases h
                              exact N_end (.inl rfl) (by kernel_rfl)
                            · replace h := ite_f e8 h
                              refine W_skip (N_then (W_region ?_))
                              obtain ⟨x3, e9, h⟩ := bind_some h
                              exact WL_allC hE [3, 4, 5, 21, 22, 23, 72, 73, 74] [] [19] (orc := [tB x3, tB x3]) (by kernel_rfl) (.c e9 (.c e9 .n)) (N_block (N_then (W_region (WL_allI hE (orc := []) (by kernel_rfl) .n (N_round (wi64 (t6 + (1 : Int)), List.set t7 (x2).toNat true) (Nat.lt_succ_self _) h)))))
                          refine WL_splitC 86 (b := t8) (by kernel_rfl) (fun e10 => ?_) (fun e10 => ?_)
                          · replace h := ite_t e10 h
                            exact WL_allI hE (orc := []) (by kernel_rfl) .n (hJ6 true h)
                          · replace h := ite_f e10 h
                            obtain ⟨x4, e11, h⟩ := bind_some h
                            exact WL_allI hE (orc := [tB x4, tB x4]) (by kernel_rfl) (.c e11 (.c e11 .n)) (hJ6 x4 h)
                        refine WL_splitC 81 (b := decide (x2 ≤ t2)) (by kernel_rfl) (fun e12 => ?_) (fun e12 => ?_)
                        · rw [or_t e12] at h
                          exact WL_allI hE (orc := []) (by kernel_rfl) .n (hJ5 true h)
                        · rw [or_f e12] at h
                          exact WL_allI hE (orc := []) (by kernel_rfl) .n (hJ5 (decide ((List.length p1.1 : Int) ≤ x2)) h)
                      · replace h := ite_f e6 h
                        exact W_exit (N_then_exit (N_then_exit (N_block_exit (N_block (N_then (W_region (WL_allI hE (orc := []) (by kernel_rfl) .n (N_round (wi64 (t2 + (1 : Int)), t7) (Nat.lt_succ_self _) h))))))))
                refine WL_splitC 58 (b := t4) (by kernel_rfl) (fun e13 => ?_) (fun e13 => ?_)
                · replace h := ite_t e13 h
                  exact WL_allI hE (orc := []) (by kernel_rfl) .n (hJ4 true h)
                · replace h := ite_f e13 h
                  refine WL_tkC hE 7 [3, 4, 5, 6, 21, 22, 23, 58, 65] [6] [19] (orc := []) (by kernel_rfl) .n (WL_join (α := Bool) (fun z => pattern_tree_j7 k x1 t2 p1 (pattern_tree_l1 k p1 fuel1) t3 z = some rz) (fun t10 => ⟨[(3, I64 (List.length p1.1 : Int)), (4, .row 19), (5, I64 t2), (6, .ptr 6 0), (21, .val (.sl (.pair (.int .u8) (.pair (.int .i32) (.pair (.int .u32) (.pair (.int .u32) (.pair (.sl (.int .i64)) .unit)))))) p1.1), (22, I64 (List.length p1.1 : Int)), (23, I64 t2), (58, BB false), (69, BB t10)], [(6, .cells [U8 x1.1, I32 x1.2.1, U32 x1.2.2.1, U32 x1.2.2.2.1, .val (.sl (.int .i64)) x1.2.2.2.2.1] 119)], [(19, ⟨4, .bool, t3⟩)]⟩) 4 ?_ (fun hJ7 => ?_))
                  · rintro t10 h
                    unfold pattern_tree_j7 at h
                    exact WL_allI hE (orc := []) (by kernel_rfl) .n (hJ4 t10 h)
                  refine WL_splitC 65 (b := (wu32 (BitVec.toNat (BitVec.ofInt 32 x1.2.2.1 ||| BitVec.ofInt 32 x1.2.2.2.1))) != (0 : Int)) (by kernel_rfl) (fun e14 => ?_) (fun e14 => ?_)
                  · rw [and_t e14] at h
                    exact WL_allI hE (orc := []) (by kernel_rfl) .n (hJ7 (x1.1 != (3 : Int)) h)
                  · rw [and_f e14] at h
                    exact WL_allI hE (orc := []) (by kernel_rfl) .n (hJ7 false h)
              refine WL_splitC 53 (b := x1.2.1 != (0 : Int)) (by kernel_rfl) (fun e15 => ?_) (fun e15 => ?_)
              · rw [and_t e15] at h
                exact WL_allI hE (orc := []) (by kernel_rfl) .n (hJ3 (x1.1 != (2 : Int)) h)
              · rw [and_f e15] at h
                exact WL_allI hE (orc := []) (by kernel_rfl) .n (hJ3 false h)
            refine W_seq (W_region (WL_allC hE [3, 4, 5, 6, 21, 22, 23, 29] [6] [19] (orc := []) (by kernel_rfl) .n (N_then (W_block (W_join (α := Bool) (fun z => pattern_tree_j8 k x1 t2 p1 (pattern_tree_l1 k p1 fuel1) t3 z = some rz) (fun t11 => ⟨[(3, I64 (List.length p1.1 : Int)), (4, .row 19), (5, I64 t2), (6, .ptr 6 0), (21, .val (.sl (.pair (.int .u8) (.pair (.int .i32) (.pair (.int .u32) (.pair (.int .u32) (.pair (.sl (.int .i64)) .unit)))))) p1.1), (22, I64 (List.length p1.1 : Int)), (23, I64 t2), (29, U8 x1.1), (30, BB t11)], [(6, .cells [U8 x1.1, I32 x1.2.1, U32 x1.2.2.1, U32 x1.2.2.2.1, .val (.sl (.int .i64)) x1.2.2.2.2.1] 119)], [(19, ⟨4, .bool, t3⟩)]⟩) ?_ (fun hJ10 => ?_))))))
            · rintro t11 h
              unfold pattern_tree_j8 at h
              refine W_cond (b := t11) (by kernel_rfl) (fun e16 => ?_) (fun e16 => ?_)
              · replace h := ite_t e16 h
                exact W_skip (N_block (N_normI (by kernel_rfl) (hJ7 () h)))
              · replace h := ite_f e16 h
                refine W_join (α := Bool) (fun z => pattern_tree_j9 k x1 t2 p1 (pattern_tree_l1 k p1 fuel1) t3 z = some rz) (fun t12 => ⟨[(3, I64 (List.length p1.1 : Int)), (4, .row 19), (5, I64 t2), (6, .ptr 6 0), (21, .val (.sl (.pair (.int .u8) (.pair (.int .i32) (.pair (.int .u32) (.pair (.int .u32) (.pair (.sl (.int .i64)) .unit)))))) p1.1), (22, I64 (List.length p1.1 : Int)), (23, I64 t2), (29, U8 x1.1), (33, BB t12)], [(6, .cells [U8 x1.1, I32 x1.2.1, U32 x1.2.2.1, U32 x1.2.2.2.1, .val (.sl (.int .i64)) x1.2.2.2.2.1] 119)], [(19, ⟨4, .bool, t3⟩)]⟩) ?_ (fun hJ10 => ?_)
                · rintro t12 h
                  unfold pattern_tree_j9 at h
                  refine W_cond (b := t12) (by kernel_rfl) (fun e17 => ?_) (fun e17 => ?_)
                  · replace h := ite_t e17 h
                    refine W_seq (W_region (WL_allC hE [3, 4, 5, 6, 21, 22, 23, 39] [6] [19] (orc := []) (by kernel_rfl) .n (N_then (W_cond (b := (List.length x1.2.2.2.2.1 : Int) != (1 : Int)) (by kernel_rfl) (fun e18 => ?_) (fun e18 => ?_)))))
                    · replace h := ite_t e18 h
                      refine W_seq (W_region (WL_allC hE [2] [] [] (orc := []) (by kernel_rfl) .n (N_then (W_ret (N_block_ret (N_then_ret (N_block_ret (N_then_ret (N_then_ret (N_block_ret (N_then_ret ?_)))))))))))
                      cases h
                      exact N_end (.inl rfl) (by kernel_rfl)
                    · replace h := ite_f e18 h
                      exact W_skip (N_block (N_normI (by kernel_rfl) (hJ7 () h)))
                  · replace h := ite_f e17 h
                    refine W_join (α := Bool) (fun z => pattern_tree_j10 k x1 t2 p1 (pattern_tree_l1 k p1 fuel1) t3 z = some rz) (fun t13 => ⟨[(3, I64 (List.length p1.1 : Int)), (4, .row 19), (5, I64 t2), (6, .ptr 6 0), (21, .val (.sl (.pair (.int .u8) (.pair (.int .i32) (.pair (.int .u32) (.pair (.int .u32) (.pair (.sl (.int .i64)) .unit)))))) p1.1), (22, I64 (List.length p1.1 : Int)), (23, I64 t2), (40, BB t13)], [(6, .cells [U8 x1.1, I32 x1.2.1, U32 x1.2.2.1, U32 x1.2.2.2.1, .val (.sl (.int .i64)) x1.2.2.2.2.1] 119)], [(19, ⟨4, .bool, t3⟩)]⟩) ?_ (fun hJ10 => ?_)
                    · rintro t13 h
                      unfold pattern_tree_j10 at h
                      refine W_cond (b := t13) (by kernel_rfl) (fun e19 => ?_) (fun e19 => ?_)
                      · replace h := ite_t e19 h
                        refine W_seq (W_region (WL_allC hE [3, 4, 5, 6, 21, 22, 23, 49] [6] [19] (orc := []) (by kernel_rfl) .n (N_then (W_cond (b := (List.length x1.2.2.2.2.1 : Int) != (0 : Int)) (by kernel_rfl) (fun e20 => ?_) (fun e20 => ?_)))))
                        · replace h := ite_t e20 h
                          refine W_seq (W_region (WL_allC hE [2] [] [] (orc := []) (by kernel_rfl) .n (N_then (W_ret (N_block_ret (N_then_ret (N_block_ret (N_then_ret (N_then_ret (N_block_ret (N_then_ret ?_)))))))))))
                          cases h
                          exact N_end (.inl rfl) (by kernel_rfl)
                        · replace h := ite_f e20 h
                          exact W_skip (N_block (N_normI (by kernel_rfl) (hJ7 () h)))
                      · replace h := ite_f e19 h
                        refine W_seq (W_region (WL_allC hE [2] [] [] (orc := []) (by kernel_rfl) .n (N_then (W_ret (N_block_ret (N_then_ret (N_block_ret (N_then_ret (N_then_ret (N_block_ret (N_then_ret ?_)))))))))))
                        cases h
                        exact N_end (.inl rfl) (by kernel_rfl)
                    refine W_seq (W_region (WL_allI hE (st' := ⟨[(3, I64 (List.length p1.1 : Int)), (4, .row 19), (5, I64 t2), (6, .ptr 6 0), (21, .val (.sl (.pair (.int .u8) (.pair (.int .i32) (.pair (.int .u32) (.pair (.int .u32) (.pair (.sl (.int .i64)) .unit)))))) p1.1), (22, I64 (List.length p1.1 : Int)), (23, I64 t2), (29, U8 x1.1), (40, BB (x1.1 == (1 : Int)))], [(6, .cells [U8 x1.1, I32 x1.2.1, U32 x1.2.2.1, U32 x1.2.2.2.1, .val (.sl (.int .i64)) x1.2.2.2.2.1] 119)], [(19, ⟨4, .bool, t3⟩)]⟩) (orc := []) (by kernel_rfl) .n (N_then (W_cond (b := x1.1 == (1 : Int)) (by kernel_rfl) (fun e21 => ?_) (fun e21 => ?_)))))
                    · replace h := ite_t e21 h
                      exact W_skip (N_normI (by kernel_rfl) (hJ10 (x1.1 == (1 : Int)) h))
                    · replace h := ite_f e21 h
                      refine W_seq (W_region (WL_allC hE [3, 4, 5, 6, 21, 22, 23, 29, 40] [6] [19] (orc := []) (by kernel_rfl) .n (N_then (W_cond (b := x1.1 == (2 : Int)) (by kernel_rfl) (fun e22 => ?_) (fun e22 => ?_)))))
                      · replace h := ite_t e22 h
                        exact W_skip (N_normI (by kernel_rfl) (hJ10 (x1.1 == (2 : Int)) h))
                      · replace h := ite_f e22 h
                        refine W_seq (W_region (WL_allC hE [3, 4, 5, 6, 21, 22, 23, 29, 40] [6] [19] (orc := []) (by kernel_rfl) .n (N_then (W_cond (b := x1.1 == (3 : Int)) (by kernel_rfl) (fun e23 => ?_) (fun e23 => ?_)))))
                        · replace h := ite_t e23 h
                          exact W_skip (N_normI (by kernel_rfl) (hJ10 (x1.1 == (3 : Int)) h))
                        · replace h := ite_f e23 h
                          refine W_seq (W_region (WL_allC hE [3, 4, 5, 6, 21, 22, 23, 29, 40] [6] [19] (orc := []) (by kernel_rfl) .n (N_then (W_cond (b := x1.1 == (4 : Int)) (by kernel_rfl) (fun e24 => ?_) (fun e24 => ?_)))))
                          · replace h := ite_t e24 h
                            exact W_skip (N_normI (by kernel_rfl) (hJ10 (x1.1 == (4 : Int)) h))
                          · replace h := ite_f e24 h
                            exact W_region (WL_allI hE (orc := []) (by kernel_rfl) .n (hJ10 (x1.1 == (5 : Int)) h))
                refine W_seq (W_region (WL_allI hE (st' := ⟨[(3, I64 (List.length p1.1 : Int)), (4, .row 19), (5, I64 t2), (6, .ptr 6 0), (21, .val (.sl (.pair (.int .u8) (.pair (.int .i32) (.pair (.int .u32) (.pair (.int .u32) (.pair (.sl (.int .i64)) .unit)))))) p1.1), (22, I64 (List.length p1.1 : Int)), (23, I64 t2), (29, U8 x1.1), (33, BB (x1.1 == (8 : Int)))], [(6, .cells [U8 x1.1, I32 x1.2.1, U32 x1.2.2.1, U32 x1.2.2.2.1, .val (.sl (.int .i64)) x1.2.2.2.2.1] 119)], [(19, ⟨4, .bool, t3⟩)]⟩) (orc := []) (by kernel_rfl) .n (N_then (W_cond (b := x1.1 == (8 : Int)) (by kernel_rfl) (fun e25 => ?_) (fun e25 => ?_)))))
                · replace h := ite_t e25 h
                  exact W_skip (N_normI (by kernel_rfl) (hJ10 (x1.1 == (8 : Int)) h))
                · replace h := ite_f e25 h
                  exact W_region (WL_allI hE (orc := []) (by kernel_rfl) .n (hJ10 (x1.1 == (9 : Int)) h))
            refine W_seq (W_region (WL_allC hE [3, 4, 5, 6, 21, 22, 23, 29, 30] [6] [19] (orc := []) (by kernel_rfl) .n (N_then (W_cond (b := x1.1 == (6 : Int)) (by kernel_rfl) (fun e26 => ?_) (fun e26 => ?_)))))
            · replace h := ite_t e26 h
              exact W_skip (N_normI (by kernel_rfl) (hJ10 (x1.1 == (6 : Int)) h))
            · replace h := ite_f e26 h
              exact W_region (WL_allI hE (orc := []) (by kernel_rfl) .n (hJ10 (x1.1 == (7 : Int)) h))
          · replace h := ite_f e3 h
            refine W_exit (N_then_exit (N_then_exit (N_block_exit (N_then (W_seq (W_region ?_))))))
            obtain ⟨s1, e27, h⟩ := bind_some h
            obtain ⟨v1, e28, h⟩ := bind_some h
            refine WL_allC hE [2] [] [] (orc := [⟨(.sl .bool), s1⟩, tB v1]) (by kernel_rfl) (.c e27 (.c e28 .n)) (N_then (W_ret ?_))
            cases h
            exact N_end (.inl rfl) (by kernel_rfl)
    refine WL_splitC 14 (b := decide ((List.length p1.1 : Int) < (1 : Int))) (by kernel_rfl) (fun e29 => ?_) (fun e29 => ?_)
    · rw [or_t e29] at h
      exact WL_allI hE (orc := []) (by kernel_rfl) .n (hJ1 true h)
    · rw [or_f e29] at h
      exact WL_allI hE (orc := []) (by kernel_rfl) .n (hJ1 (decide ((256 : Int) < (List.length p1.1 : Int))) h)

def C_pattern_Check (k : Nat) : FnC := ⟨true, 1, [], fun | [⟨(.pair (.sl .str) (.pair (.sl (.pair (.int .i32) (.pair (.int .u32) (.pair (.int .u32) .unit)))) .unit)), a1⟩, ⟨(.pair (.sl (.pair (.int .u8) (.pair (.int .i32) (.pair (.int .u32) (.pair (.int .u32) (.pair (.sl (.int .i64)) .unit)))))) .unit), p1⟩], [⟨(.int .i64), rz⟩] => pattern_Check k a1 p1 = some rz | _, _ => False⟩
noncomputable def E_pattern_Check (k : Nat) : Env := ⟨Tryd.prog, Gn, 54, [(27, C_feature_Check k), (58, C_pattern_tree k), (59, C_feature_Of k), (60, C_feature_Text k)]⟩
theorem c_pattern_Check (k : Nat) : Contract Tryd.prog Gn 47 (C_pattern_Check k) := by
  refine contract_of Gn_stable (fn := Tryd.f47) Tryd.func47 (by kernel_rfl) rfl ?_ ?_
  · intro xs rs h
    unfold C_pattern_Check at h
    simp only at h
    split at h
    · exact ⟨by show 2 ≤ _; rw [Tryd.ntmps47]; decide, rfl, fun _ u hu => by simp at hu; (rcases hu with rfl) <;> rfl⟩
    · exact h.elim
  · intro w0 M xs rs hG h
    unfold C_pattern_Check at h
    simp only at h
    split at h
    case h_2 => exact h.elim
    rename_i a1 p1 rz
    change (List (List UInt8) × List ((Int × Int × Int × Unit)) × Unit) at a1
    change (List ((Int × Int × Int × Int × List (Int) × Unit)) × Unit) at p1
    change Int at rz
    have hE : EnvOK (E_pattern_Check k) ⟨Tryd.prog, Tryd.f47.ntmps, w0, M, fun _ => False, fun _ => undef⟩ := (EnvOK.cons (c_feature_Check k) (EnvOK.cons (c_pattern_tree k) (EnvOK.cons (c_feature_Of k) (EnvOK.cons (c_feature_Text k) (EnvOK.nil rfl Tryd.ntmps47 hG)))))
    unfold pattern_Check at h
    refine W_seq (W_region (WL_allC hE [2, 3] [2, 3] [] (orc := []) (by kernel_rfl) .n (N_then (W_seq (W_seq (W_region ?_))))))
    obtain ⟨v1, e1, h⟩ := bind_some h
    refine WL_allC hE [2, 3, 5] [2, 3] [] (orc := [tI64 v1]) (by kernel_rfl) (.c e1 .n) (N_then (W_seq (W_region (WL_allC hE [2, 3, 5, 15] [2, 3] [] (orc := []) (by kernel_rfl) .n (N_then (W_cond (b := v1 != (0 : Int)) (by kernel_rfl) (fun e2 => ?_) (fun e2 => ?_)))))))
    · replace h := ite_t e2 h
      refine W_seq (W_region (WL_allI hE (st' := ⟨[(4, I64 v1)], [], []⟩) (orc := []) (by kernel_rfl) .n (N_then (W_ret (N_then_ret ?_)))))
      cases h
      exact N_end (.inl rfl) (by kernel_rfl)
    · replace h := ite_f e2 h
      refine W_skip (N_then (W_seq (W_seq (W_region ?_))))
      obtain ⟨v2, e3, h⟩ := bind_some h
      refine WL_allC hE [2, 3, 19] [2, 3] [] (orc := [tB v2]) (by kernel_rfl) (.c e3 .n) (N_then (W_cond (b := !v2) (by kernel_rfl) (fun e4 => ?_) (fun e4 => ?_)))
      · replace h := ite_t e4 h
        refine W_seq (W_region (WL_allC hE [4] [] [] (orc := []) (by kernel_rfl) .n (N_then (W_ret (N_then_ret ?_)))))
        cases h
        exact N_end (.inl rfl) (by kernel_rfl)
      · replace h := ite_f e4 h
        refine W_skip (N_then (W_seq (W_seq (W_region (WL_allI hE (orc := []) (by kernel_rfl) .n (N_then (W_block (W_loop (α := Int) (fun n z => pattern_Check_l1 k p1 a1 n z = some rz) (fun t1 => ⟨[(2, .ptr 2 0), (21, .val (.sl (.pair (.int .u8) (.pair (.int .i32) (.pair (.int .u32) (.pair (.int .u32) (.pair (.sl (.int .i64)) .unit)))))) p1.1), (22, I64 (List.length p1.1 : Int)), (23, I64 t1)], [(2, .cells [.val (.sl .str) a1.1, .val (.sl (.pair (.int .i32) (.pair (.int .u32) (.pair (.int .u32) .unit)))) a1.2.1] 25)], []⟩) ?_ (k := k) (x := (0 : Int)) h))))))))
        clear h
        rintro fuel1 t1 h
        cases fuel1 with
        | zero => exact absurd (show none = some _ from h) (by simp)
        | succ fuel1 =>
          have h : pattern_Check_b1 k p1 a1 (pattern_Check_l1 k p1 a1 fuel1) t1 = some rz := h
          unfold pattern_Check_b1 at h
          refine W_seq (W_region (WL_allC hE [2, 21, 22, 23, 24] [2] [] (orc := []) (by kernel_rfl) .n (N_then (W_seq (W_cond (b := decide (t1 < (List.length p1.1 : Int))) (by kernel_rfl) (fun e5 => ?_) (fun e5 => ?_))))))
          · replace h := ite_t e5 h
            refine W_skip (N_then (W_join (α := Unit) (fun _ => pattern_Check_j1 (pattern_Check_l1 k p1 a1 fuel1) t1 = some rz) (fun _ => ⟨[(2, .ptr 2 0), (21, .val (.sl (.pair (.int .u8) (.pair (.int .i32) (.pair (.int .u32) (.pair (.int .u32) (.pair (.sl (.int .i64)) .unit)))))) p1.1), (22, I64 (List.length p1.1 : Int)), (23, I64 t1)], [(2, .cells [.val (.sl .str) a1.1, .val (.sl (.pair (.int .i32) (.pair (.int .u32) (.pair (.int .u32) .unit)))) a1.2.1] 25)], []⟩) ?_ (fun hJ1 => ?_)))
            · rintro _ h
              unfold pattern_Check_j1 at h
              exact W_region (WL_allI hE (orc := []) (by kernel_rfl) .n (N_round (wi64 (t1 + (1 : Int))) (Nat.lt_succ_self _) h))
            refine W_block (W_seq (W_region ?_))
            obtain ⟨x1, e6, h⟩ := bind_some h
            refine WL_allC hE [2, 7, 21, 22, 23] [2, 7] [] (orc := [⟨(.pair (.int .u8) (.pair (.int .i32) (.pair (.int .u32) (.pair (.int .u32) (.pair (.sl (.int .i64)) .unit))))), x1⟩]) (by kernel_rfl) (.c e6 .n) (N_then (W_seq (W_region (WL_allC hE [2, 7, 21, 22, 23, 28] [2, 7] [] (orc := []) (by kernel_rfl) .n (N_then (W_block (W_seq (W_region (WL_allC hE [2, 7, 21, 22, 23, 28, 29] [2, 7] [] (orc := []) (by kernel_rfl) .n (N_then (W_cond (b := x1.1 == (2 : Int)) (by kernel_rfl) (fun e7 => ?_) (fun e7 => ?_))))))))))))
            · replace h := ite_t e7 h
              refine W_seq (W_region ?_)
              obtain ⟨v3, e8, h⟩ := bind_some h
              refine WL_allC hE [2, 9, 21, 22, 23] [2] [] (orc := [⟨(.pair (.int .i32) (.pair (.int .u32) (.pair (.int .u32) .unit))), v3.1⟩, tI64 v3.2]) (by kernel_rfl) (.c e8 .n) (N_then (W_seq (W_region (WL_allI hE (st' := ⟨[(2, .ptr 2 0), (21, .val (.sl (.pair (.int .u8) (.pair (.int .i32) (.pair (.int .u32) (.pair (.int .u32) (.pair (.sl (.int .i64)) .unit)))))) p1.1), (22, I64 (List.length p1.1 : Int)), (23, I64 t1), (39, BB (v3.2 != (0 : Int)))], [(2, .cells [.val (.sl .str) a1.1, .val (.sl (.pair (.int .i32) (.pair (.int .u32) (.pair (.int .u32) .unit)))) a1.2.1] 25)], []⟩) (orc := []) (by kernel_rfl) .n (N_then (W_cond (b := v3.2 != (0 : Int)) (by kernel_rfl) (fun e9 => ?_) (fun e9 => ?_)))))))
              · replace h := ite_t e9 h
                refine W_seq (W_region (WL_allC hE [4] [] [] (orc := []) (by kernel_rfl) .n (N_then (W_ret (N_block_ret (N_block_ret (N_then_ret (N_then_ret (N_block_ret (N_then_ret ?_))))))))))
                cases h
                exact N_end (.inl rfl) (by kernel_rfl)
              · replace h := ite_f e9 h
                exact W_skip (N_block (N_block (N_normI (by kernel_rfl) (hJ1 () h))))
            · replace h := ite_f e7 h
              refine W_seq (W_region (WL_allC hE [2, 7, 21, 22, 23, 40] [2, 7] [] (orc := []) (by kernel_rfl) .n (N_then (W_cond (b := x1.1 == (3 : Int)) (by kernel_rfl) (fun e10 => ?_) (fun e10 => ?_)))))
              · replace h := ite_t e10 h
                refine W_seq (W_region ?_)
                obtain ⟨v4, e11, h⟩ := bind_some h
                refine WL_allC hE [2, 11, 21, 22, 23] [2] [] (orc := [tS v4.1, tI64 v4.2]) (by kernel_rfl) (.c e11 .n) (N_then (W_seq (W_region (WL_allI hE (st' := ⟨[(2, .ptr 2 0), (21, .val (.sl (.pair (.int .u8) (.pair (.int .i32) (.pair (.int .u32) (.pair (.int .u32) (.pair (.sl (.int .i64)) .unit)))))) p1.1), (22, I64 (List.length p1.1 : Int)), (23, I64 t1), (52, BB (v4.2 != (0 : Int)))], [(2, .cells [.val (.sl .str) a1.1, .val (.sl (.pair (.int .i32) (.pair (.int .u32) (.pair (.int .u32) .unit)))) a1.2.1] 25)], []⟩) (orc := []) (by kernel_rfl) .n (N_then (W_cond (b := v4.2 != (0 : Int)) (by kernel_rfl) (fun e12 => ?_) (fun e12 => ?_)))))))
                · replace h := ite_t e12 h
                  refine W_seq (W_region (WL_allC hE [4] [] [] (orc := []) (by kernel_rfl) .n (N_then (W_ret (N_block_ret (N_block_ret (N_then_ret (N_then_ret (N_block_ret (N_then_ret ?_))))))))))
                  cases h
                  exact N_end (.inl rfl) (by kernel_rfl)
                · replace h := ite_f e12 h
                  exact W_skip (N_block (N_block (N_normI (by kernel_rfl) (hJ1 () h))))
              · replace h := ite_f e10 h
                exact W_skip (N_block (N_block (N_normI (by kernel_rfl) (hJ1 () h))))
          · replace h := ite_f e5 h
            refine W_exit (N_then_exit (N_then_exit (N_block_exit (N_then (W_seq (W_region (WL_allC hE [4] [] [] (orc := []) (by kernel_rfl) .n (N_then (W_ret ?_)))))))))
            cases h
            exact N_end (.inl rfl) (by kernel_rfl)

def C_rule_Check (k : Nat) : FnC := ⟨true, 1, [], fun | [⟨(.pair (.sl .str) (.pair (.sl (.pair (.int .i32) (.pair (.int .u32) (.pair (.int .u32) .unit)))) .unit)), a1⟩, ⟨(.pair .str (.pair (.sl (.pair (.int .i32) (.pair (.int .u32) (.pair (.int .u32) .unit)))) (.pair (.sl (.pair (.int .i32) (.pair (.int .i64) (.pair (.int .u32) (.pair (.int .u32) .unit))))) (.pair (.pair (.sl (.pair (.int .u8) (.pair (.int .i32) (.pair (.int .u32) (.pair (.int .u32) (.pair (.sl (.int .i64)) .unit)))))) .unit) (.pair (.pair (.sl (.pair (.int .u8) (.pair (.int .i32) (.pair (.int .u32) (.pair (.int .u32) (.pair (.sl (.int .i64)) .unit)))))) .unit) (.pair (.int .u8) (.pair .bool .unit))))))), r1⟩], [⟨(.int .i64), rz⟩] => rule_Check k a1 r1 = some rz | _, _ => False⟩
noncomputable def E_rule_Check (k : Nat) : Env := ⟨Tryd.prog, Gn, 95, [(27, C_feature_Check k), (44, C_rule_named k), (45, C_rule_either k), (46, C_rule_swap k), (47, C_pattern_Check k)]⟩
theorem c_rule_Check (k : Nat) : Contract Tryd.prog Gn 39 (C_rule_Check k) := by
  refine contract_of Gn_stable (fn := Tryd.f39) Tryd.func39 (by kernel_rfl) rfl ?_ ?_
  · intro xs rs h
    unfold C_rule_Check at h
    simp only at h
    split at h
    · exact ⟨by show 2 ≤ _; rw [Tryd.ntmps39]; decide, rfl, fun _ u hu => by simp at hu; (rcases hu with rfl) <;> rfl⟩
    · exact h.elim
  · intro w0 M xs rs hG h
    unfold C_rule_Check at h
    simp only at h
    split at h
    case h_2 => exact h.elim
    rename_i a1 r1 rz
    change (List (List UInt8) × List ((Int × Int × Int × Unit)) × Unit) at a1
    change (List UInt8 × List ((Int × Int × Int × Unit)) × List ((Int × Int × Int × Int × Unit)) × (List ((Int × Int × Int × Int × List (Int) × Unit)) × Unit) × (List ((Int × Int × Int × Int × List (Int) × Unit)) × Unit) × Int × Bool × Unit) at r1
    change Int at rz
    have hE : EnvOK (E_rule_Check k) ⟨Tryd.prog, Tryd.f39.ntmps, w0, M, fun _ => False, fun _ => undef⟩ := (EnvOK.cons (c_feature_Check k) (EnvOK.cons (c_rule_named k) (EnvOK.cons (c_rule_either k) (EnvOK.cons (c_rule_swap k) (EnvOK.cons (c_pattern_Check k) (EnvOK.nil rfl Tryd.ntmps39 hG))))))
    unfold rule_Check at h
    refine W_seq (W_region (WL_allC hE [2, 3] [2, 3] [] (orc := []) (by kernel_rfl) .n (N_then (W_seq (W_seq (W_region ?_))))))
    obtain ⟨v1, e1, h⟩ := bind_some h
    refine WL_allC hE [2, 3, 5] [2, 3] [] (orc := [tI64 v1]) (by kernel_rfl) (.c e1 .n) (N_then (W_seq (W_region (WL_allC hE [2, 3, 5, 13] [2, 3] [] (orc := []) (by kernel_rfl) .n (N_then (W_cond (b := v1 != (0 : Int)) (by kernel_rfl) (fun e2 => ?_) (fun e2 => ?_)))))))
    · replace h := ite_t e2 h
      refine W_seq (W_region (WL_allI hE (st' := ⟨[(4, I64 v1)], [], []⟩) (orc := []) (by kernel_rfl) .n (N_then (W_ret (N_then_ret ?_)))))
      cases h
      exact N_end (.inl rfl) (by kernel_rfl)
    · replace h := ite_f e2 h
      refine W_skip (N_then (W_seq (W_seq (W_region ?_))))
      obtain ⟨v2, e3, h⟩ := bind_some h
      refine WL_tkC hE 5 [2, 3, 19] [2, 3] [] (orc := [tB v2]) (by kernel_rfl) (.c e3 .n) (WL_join (α := Bool) (fun z => rule_Check_j1 k r1 a1 z = some rz) (fun t1 => ⟨[(2, .ptr 2 0), (3, .ptr 3 0), (23, BB t1)], [(2, .cells [.val (.sl .str) a1.1, .val (.sl (.pair (.int .i32) (.pair (.int .u32) (.pair (.int .u32) .unit)))) a1.2.1] 25), (3, .cells [SS r1.1, .val (.sl (.pair (.int .i32) (.pair (.int .u32) (.pair (.int .u32) .unit)))) r1.2.1, .val (.sl (.pair (.int .i32) (.pair (.int .i64) (.pair (.int .u32) (.pair (.int .u32) .unit))))) r1.2.2.1, .val (.sl (.pair (.int .u8) (.pair (.int .i32) (.pair (.int .u32) (.pair (.int .u32) (.pair (.sl (.int .i64)) .unit)))))) r1.2.2.2.1.1, .val (.sl (.pair (.int .u8) (.pair (.int .i32) (.pair (.int .u32) (.pair (.int .u32) (.pair (.sl (.int .i64)) .unit)))))) r1.2.2.2.2.1.1, U8 r1.2.2.2.2.2.1, BB r1.2.2.2.2.2.2.1] 97)], []⟩) 4 ?_ (fun hJ1 => ?_))
      · rintro t1 h
        unfold rule_Check_j1 at h
        refine WL_tkC hE 1 [2, 3, 24] [2, 3] [] (orc := []) (by kernel_rfl) .n (WL_join (α := Bool) (fun z => rule_Check_j2 k r1 a1 z = some rz) (fun t2 => ⟨[(2, .ptr 2 0), (3, .ptr 3 0), (28, BB t2)], [(2, .cells [.val (.sl .str) a1.1, .val (.sl (.pair (.int .i32) (.pair (.int .u32) (.pair (.int .u32) .unit)))) a1.2.1] 25), (3, .cells [SS r1.1, .val (.sl (.pair (.int .i32) (.pair (.int .u32) (.pair (.int .u32) .unit)))) r1.2.1, .val (.sl (.pair (.int .i32) (.pair (.int .i64) (.pair (.int .u32) (.pair (.int .u32) .unit))))) r1.2.2.1, .val (.sl (.pair (.int .u8) (.pair (.int .i32) (.pair (.int .u32) (.pair (.int .u32) (.pair (.sl (.int .i64)) .unit)))))) r1.2.2.2.1.1, .val (.sl (.pair (.int .u8) (.pair (.int .i32) (.pair (.int .u32) (.pair (.int .u32) (.pair (.sl (.int .i64)) .unit)))))) r1.2.2.2.2.1.1, U8 r1.2.2.2.2.2.1, BB r1.2.2.2.2.2.2.1] 97)], []⟩) 4 ?_ (fun hJ2 => ?_))
        · rintro t2 h
          unfold rule_Check_j2 at h
          refine WL_tkC hE 1 [2, 3, 29] [2, 3] [] (orc := []) (by kernel_rfl) .n (WL_join (α := Bool) (fun z => rule_Check_j3 k r1 a1 z = some rz) (fun t3 => ⟨[(2, .ptr 2 0), (3, .ptr 3 0), (34, BB t3)], [(2, .cells [.val (.sl .str) a1.1, .val (.sl (.pair (.int .i32) (.pair (.int .u32) (.pair (.int .u32) .unit)))) a1.2.1] 25), (3, .cells [SS r1.1, .val (.sl (.pair (.int .i32) (.pair (.int .u32) (.pair (.int .u32) .unit)))) r1.2.1, .val (.sl (.pair (.int .i32) (.pair (.int .i64) (.pair (.int .u32) (.pair (.int .u32) .unit))))) r1.2.2.1, .val (.sl (.pair (.int .u8) (.pair (.int .i32) (.pair (.int .u32) (.pair (.int .u32) (.pair (.sl (.int .i64)) .unit)))))) r1.2.2.2.1.1, .val (.sl (.pair (.int .u8) (.pair (.int .i32) (.pair (.int .u32) (.pair (.int .u32) (.pair (.sl (.int .i64)) .unit)))))) r1.2.2.2.2.1.1, U8 r1.2.2.2.2.2.1, BB r1.2.2.2.2.2.2.1] 97)], []⟩) 5 ?_ (fun hJ3 => ?_))
          · rintro t3 h
            unfold rule_Check_j3 at h
            refine WL_tkC hE 1 [2, 3, 35] [2, 3] [] (orc := []) (by kernel_rfl) .n (WL_join (α := Bool) (fun z => rule_Check_j4 k r1 a1 z = some rz) (fun t4 => ⟨[(2, .ptr 2 0), (3, .ptr 3 0), (40, BB t4)], [(2, .cells [.val (.sl .str) a1.1, .val (.sl (.pair (.int .i32) (.pair (.int .u32) (.pair (.int .u32) .unit)))) a1.2.1] 25), (3, .cells [SS r1.1, .val (.sl (.pair (.int .i32) (.pair (.int .u32) (.pair (.int .u32) .unit)))) r1.2.1, .val (.sl (.pair (.int .i32) (.pair (.int .i64) (.pair (.int .u32) (.pair (.int .u32) .unit))))) r1.2.2.1, .val (.sl (.pair (.int .u8) (.pair (.int .i32) (.pair (.int .u32) (.pair (.int .u32) (.pair (.sl (.int .i64)) .unit)))))) r1.2.2.2.1.1, .val (.sl (.pair (.int .u8) (.pair (.int .i32) (.pair (.int .u32) (.pair (.int .u32) (.pair (.sl (.int .i64)) .unit)))))) r1.2.2.2.2.1.1, U8 r1.2.2.2.2.2.1, BB r1.2.2.2.2.2.2.1] 97)], []⟩) 5 ?_ (fun hJ4 => ?_))
            · rintro t4 h
              unfold rule_Check_j4 at h
              refine WL_tkC hE 1 [2, 3, 41] [2, 3] [] (orc := []) (by kernel_rfl) .n (WL_join (α := Bool) (fun z => rule_Check_j5 k r1 a1 z = some rz) (fun t5 => ⟨[(2, .ptr 2 0), (3, .ptr 3 0), (50, BB t5)], [(2, .cells [.val (.sl .str) a1.1, .val (.sl (.pair (.int .i32) (.pair (.int .u32) (.pair (.int .u32) .unit)))) a1.2.1] 25), (3, .cells [SS r1.1, .val (.sl (.pair (.int .i32) (.pair (.int .u32) (.pair (.int .u32) .unit)))) r1.2.1, .val (.sl (.pair (.int .i32) (.pair (.int .i64) (.pair (.int .u32) (.pair (.int .u32) .unit))))) r1.2.2.1, .val (.sl (.pair (.int .u8) (.pair (.int .i32) (.pair (.int .u32) (.pair (.int .u32) (.pair (.sl (.int .i64)) .unit)))))) r1.2.2.2.1.1, .val (.sl (.pair (.int .u8) (.pair (.int .i32) (.pair (.int .u32) (.pair (.int .u32) (.pair (.sl (.int .i64)) .unit)))))) r1.2.2.2.2.1.1, U8 r1.2.2.2.2.2.1, BB r1.2.2.2.2.2.2.1] 97)], []⟩) 9 ?_ (fun hJ5 => ?_))
              · rintro t5 h
                unfold rule_Check_j5 at h
                refine WL_nil (N_then (W_cond (b := t5) (by kernel_rfl) (fun e4 => ?_) (fun e4 => ?_)))
                · replace h := ite_t e4 h
                  refine W_seq (W_region (WL_allC hE [4] [] [] (orc := []) (by kernel_rfl) .n (N_then (W_ret (N_then_ret ?_)))))
                  cases h
                  exact N_end (.inl rfl) (by kernel_rfl)
                · replace h := ite_f e4 h
                  refine W_skip (N_then (W_seq (W_seq (W_region (WL_allI hE (orc := []) (by kernel_rfl) .n (N_then (W_block (W_loop (α := Int) (fun n z => rule_Check_l1 k r1 a1 n z = some rz) (fun t6 => ⟨[(2, .ptr 2 0), (3, .ptr 3 0), (52, .val (.sl (.pair (.int .i32) (.pair (.int .u32) (.pair (.int .u32) .unit)))) r1.2.1), (53, I64 (List.length r1.2.1 : Int)), (54, I64 t6)], [(2, .cells [.val (.sl .str) a1.1, .val (.sl (.pair (.int .i32) (.pair (.int .u32) (.pair (.int .u32) .unit)))) a1.2.1] 25), (3, .cells [SS r1.1, .val (.sl (.pair (.int .i32) (.pair (.int .u32) (.pair (.int .u32) .unit)))) r1.2.1, .val (.sl (.pair (.int .i32) (.pair (.int .i64) (.pair (.int .u32) (.pair (.int .u32) .unit))))) r1.2.2.1, .val (.sl (.pair (.int .u8) (.pair (.int .i32) (.pair (.int .u32) (.pair (.int .u32) (.pair (.sl (.int .i64)) .unit)))))) r1.2.2.2.1.1, .val (.sl (.pair (.int .u8) (.pair (.int .i32) (.pair (.int .u32) (.pair (.int .u32) (.pair (.sl (.int .i64)) .unit)))))) r1.2.2.2.2.1.1, U8 r1.2.2.2.2.2.1, BB r1.2.2.2.2.2.2.1] 97)], []⟩) ?_ (k := k) (x := (0 : Int)) h))))))))
                  clear h
                  rintro fuel1 t6 h
                  cases fuel1 with
                  | zero => exact absurd (show none = some _ from h) (by simp)
                  | succ fuel1 =>
                    have h : rule_Check_b1 k r1 a1 (rule_Check_l1 k r1 a1 fuel1) t6 = some rz := h
                    unfold rule_Check_b1 at h
                    refine W_seq (W_region (WL_allC hE [2, 3, 52, 53, 54, 55] [2, 3] [] (orc := []) (by kernel_rfl) .n (N_then (W_seq (W_cond (b := decide (t6 < (List.length r1.2.1 : Int))) (by kernel_rfl) (fun e5 => ?_) (fun e5 => ?_))))))
                    · replace h := ite_t e5 h
                      refine W_skip (N_then (W_seq (W_block (W_seq (W_region ?_)))))
                      obtain ⟨x1, e6, h⟩ := bind_some h
                      refine WL_allC hE [2, 3, 7, 52, 53, 54] [2, 3, 7] [] (orc := [⟨(.pair (.int .i32) (.pair (.int .u32) (.pair (.int .u32) .unit))), x1⟩]) (by kernel_rfl) (.c e6 .n) (N_then (W_seq (W_region ?_)))
                      obtain ⟨v3, e7, h⟩ := bind_some h
                      refine WL_allC hE [2, 3, 52, 53, 54, 66] [2, 3] [] (orc := [tB v3]) (by kernel_rfl) (.c e7 .n) (N_then (W_cond (b := !v3) (by kernel_rfl) (fun e8 => ?_) (fun e8 => ?_)))
                      · replace h := ite_t e8 h
                        refine W_seq (W_region (WL_allI hE (st' := ⟨[(4, I64 (70 : Int))], [], []⟩) (orc := []) (by kernel_rfl) .n (N_then (W_ret (N_block_ret (N_then_ret (N_then_ret (N_block_ret (N_then_ret ?_)))))))))
                        cases h
                        exact N_end (.inl rfl) (by kernel_rfl)
                      · replace h := ite_f e8 h
                        exact W_skip (N_block (N_then (W_region (WL_allI hE (orc := []) (by kernel_rfl) .n (N_round (wi64 (t6 + (1 : Int))) (Nat.lt_succ_self _) h)))))
                    · replace h := ite_f e5 h
                      refine W_exit (N_then_exit (N_then_exit (N_block_exit (N_then (W_seq (W_seq (W_region (WL_allI hE (orc := []) (by kernel_rfl) .n (N_then (W_block (W_loop (α := Int) (fun n z => rule_Check_l2 k r1 a1 n z = some rz) (fun t7 => ⟨[(2, .ptr 2 0), (3, .ptr 3 0), (69, .val (.sl (.pair (.int .i32) (.pair (.int .i64) (.pair (.int .u32) (.pair (.int .u32) .unit))))) r1.2.2.1), (70, I64 (List.length r1.2.2.1 : Int)), (71, I64 t7)], [(2, .cells [.val (.sl .str) a1.1, .val (.sl (.pair (.int .i32) (.pair (.int .u32) (.pair (.int .u32) .unit)))) a1.2.1] 25), (3, .cells [SS r1.1, .val (.sl (.pair (.int .i32) (.pair (.int .u32) (.pair (.int .u32) .unit)))) r1.2.1, .val (.sl (.pair (.int .i32) (.pair (.int .i64) (.pair (.int .u32) (.pair (.int .u32) .unit))))) r1.2.2.1, .val (.sl (.pair (.int .u8) (.pair (.int .i32) (.pair (.int .u32) (.pair (.int .u32) (.pair (.sl (.int .i64)) .unit)))))) r1.2.2.2.1.1, .val (.sl (.pair (.int .u8) (.pair (.int .i32) (.pair (.int .u32) (.pair (.int .u32) (.pair (.sl (.int .i64)) .unit)))))) r1.2.2.2.2.1.1, U8 r1.2.2.2.2.2.1, BB r1.2.2.2.2.2.2.1] 97)], []⟩) ?_ (k := k) (x := (0 : Int)) h)))))))))))
                      clear h
                      rintro fuel2 t7 h
                      cases fuel2 with
                      | zero => exact absurd (show none = some _ from h) (by simp)
                      | succ fuel2 =>
                        have h : rule_Check_b2 k r1 a1 (rule_Check_l2 k r1 a1 fuel2) t7 = some rz := h
                        unfold rule_Check_b2 at h
                        refine W_seq (W_region (WL_allC hE [2, 3, 69, 70, 71, 72] [2, 3] [] (orc := []) (by kernel_rfl) .n (N_then (W_seq (W_cond (b := decide (t7 < (List.length r1.2.2.1 : Int))) (by kernel_rfl) (fun e9 => ?_) (fun e9 => ?_))))))
                        · replace h := ite_t e9 h
                          refine W_skip (N_then (W_seq (W_block (W_seq (W_region ?_)))))
                          obtain ⟨x2, e10, h⟩ := bind_some h
                          refine WL_allC hE [2, 3, 9, 69, 70, 71] [2, 3, 9] [] (orc := [⟨(.pair (.int .i32) (.pair (.int .i64) (.pair (.int .u32) (.pair (.int .u32) .unit)))), x2⟩]) (by kernel_rfl) (.c e10 .n) (N_then (W_seq (W_region ?_)))
                          obtain ⟨v4, e11, h⟩ := bind_some h
                          refine WL_allC hE [2, 3, 69, 70, 71, 81] [2, 3] [] (orc := [tB v4]) (by kernel_rfl) (.c e11 .n) (N_then (W_cond (b := !v4) (by kernel_rfl) (fun e12 => ?_) (fun e12 => ?_)))
                          · replace h := ite_t e12 h
                            refine W_seq (W_region (WL_allI hE (st' := ⟨[(4, I64 (70 : Int))], [], []⟩) (orc := []) (by kernel_rfl) .n (N_then (W_ret (N_block_ret (N_then_ret (N_then_ret (N_block_ret (N_then_ret ?_)))))))))
                            cases h
                            exact N_end (.inl rfl) (by kernel_rfl)
                          · replace h := ite_f e12 h
                            exact W_skip (N_block (N_then (W_region (WL_allI hE (orc := []) (by kernel_rfl) .n (N_round (wi64 (t7 + (1 : Int))) (Nat.lt_succ_self _) h)))))
                        · replace h := ite_f e9 h
                          refine W_exit (N_then_exit (N_then_exit (N_block_exit (N_then (W_seq (W_seq (W_region ?_)))))))
                          obtain ⟨v5, e13, h⟩ := bind_some h
                          refine WL_tkC hE 6 [2, 3, 88] [2, 3] [] (orc := [tI64 v5]) (by kernel_rfl) (.c e13 .n) (WL_join (α := Bool) (fun z => rule_Check_j6 z = some rz) (fun t8 => ⟨[(94, BB t8)], [], []⟩) 6 ?_ (fun hJ6 => ?_))
                          · rintro t8 h
                            unfold rule_Check_j6 at h
                            refine WL_nil (N_then (W_cond (b := t8) (by kernel_rfl) (fun e14 => ?_) (fun e14 => ?_)))
                            · replace h := ite_t e14 h
                              refine W_seq (W_region (WL_allC hE [4] [] [] (orc := []) (by kernel_rfl) .n (N_then (W_ret (N_then_ret ?_)))))
                              cases h
                              exact N_end (.inl rfl) (by kernel_rfl)
                            · replace h := ite_f e14 h
                              refine W_skip (N_then (W_seq (W_region (WL_allC hE [4] [] [] (orc := []) (by kernel_rfl) .n (N_then (W_ret ?_))))))
                              cases h
                              exact N_end (.inl rfl) (by kernel_rfl)
                          refine WL_splitC 88 (b := v5 != (0 : Int)) (by kernel_rfl) (fun e15 => ?_) (fun e15 => ?_)
                          · replace h := ite_t e15 h
                            exact WL_allI hE (orc := []) (by kernel_rfl) .n (hJ6 true h)
                          · replace h := ite_f e15 h
                            obtain ⟨v6, e16, h⟩ := bind_some h
                            exact WL_allI hE (orc := [tI64 v6]) (by kernel_rfl) (.c e16 .n) (hJ6 (v6 != (0 : Int)) h)
              refine WL_splitC 41 (b := t4) (by kernel_rfl) (fun e17 => ?_) (fun e17 => ?_)
              · rw [or_t e17] at h
                exact WL_allI hE (orc := []) (by kernel_rfl) .n (hJ5 true h)
              · rw [or_f e17] at h
                exact WL_allI hE (orc := []) (by kernel_rfl) .n (hJ5 ((wi64 ((List.length r1.2.1 : Int) + (List.length r1.2.2.1 : Int))) == (0 : Int)) h)
            refine WL_splitC 35 (b := t3) (by kernel_rfl) (fun e18 => ?_) (fun e18 => ?_)
            · rw [or_t e18] at h
              exact WL_allI hE (orc := []) (by kernel_rfl) .n (hJ4 true h)
            · rw [or_f e18] at h
              exact WL_allI hE (orc := []) (by kernel_rfl) .n (hJ4 (decide ((8 : Int) < (List.length r1.2.2.1 : Int))) h)
          refine WL_splitC 29 (b := t2) (by kernel_rfl) (fun e19 => ?_) (fun e19 => ?_)
          · rw [or_t e19] at h
            exact WL_allI hE (orc := []) (by kernel_rfl) .n (hJ3 true h)
          · rw [or_f e19] at h
            exact WL_allI hE (orc := []) (by kernel_rfl) .n (hJ3 (decide ((8 : Int) < (List.length r1.2.1 : Int))) h)
        refine WL_splitC 24 (b := t1) (by kernel_rfl) (fun e20 => ?_) (fun e20 => ?_)
        · rw [or_t e20] at h
          exact WL_allI hE (orc := []) (by kernel_rfl) .n (hJ2 true h)
        · rw [or_f e20] at h
          exact WL_allI hE (orc := []) (by kernel_rfl) .n (hJ2 (decide ((3 : Int) < r1.2.2.2.2.2.1)) h)
      refine WL_splitC 19 (b := !v2) (by kernel_rfl) (fun e21 => ?_) (fun e21 => ?_)
      · rw [or_t e21] at h
        exact WL_allI hE (orc := []) (by kernel_rfl) .n (hJ1 true h)
      · rw [or_f e21] at h
        exact WL_allI hE (orc := []) (by kernel_rfl) .n (hJ1 (decide (r1.2.2.2.2.2.1 < (1 : Int))) h)

def C_law_Check (k : Nat) : FnC := ⟨true, 1, [], fun | [⟨(.pair (.sl .str) (.pair (.sl (.pair (.int .i32) (.pair (.int .u32) (.pair (.int .u32) .unit)))) .unit)), a1⟩, ⟨(.sl (.pair .str (.pair (.sl (.pair (.int .i32) (.pair (.int .u32) (.pair (.int .u32) .unit)))) (.pair (.sl (.pair (.int .i32) (.pair (.int .i64) (.pair (.int .u32) (.pair (.int .u32) .unit))))) (.pair (.pair (.sl (.pair (.int .u8) (.pair (.int .i32) (.pair (.int .u32) (.pair (.int .u32) (.pair (.sl (.int .i64)) .unit)))))) .unit) (.pair (.pair (.sl (.pair (.int .u8) (.pair (.int .i32) (.pair (.int .u32) (.pair (.int .u32) (.pair (.sl (.int .i64)) .unit)))))) .unit) (.pair (.int .u8) (.pair .bool .unit)))))))), l1⟩], [⟨(.int .i64), rz⟩] => law_Check k a1 l1 = some rz | _, _ => False⟩
noncomputable def E_law_Check (k : Nat) : Env := ⟨Tryd.prog, Gn, 30, [(27, C_feature_Check k), (39, C_rule_Check k)]⟩
theorem c_law_Check (k : Nat) : Contract Tryd.prog Gn 29 (C_law_Check k) := by
  refine contract_of Gn_stable (fn := Tryd.f29) Tryd.func29 (by kernel_rfl) rfl ?_ ?_
  · intro xs rs h
    unfold C_law_Check at h
    simp only at h
    split at h
    · exact ⟨by show 2 ≤ _; rw [Tryd.ntmps29]; decide, rfl, fun _ u hu => by simp at hu; (rcases hu with rfl) <;> rfl⟩
    · exact h.elim
  · intro w0 M xs rs hG h
    unfold C_law_Check at h
    simp only at h
    split at h
    case h_2 => exact h.elim
    rename_i a1 l1 rz
    change (List (List UInt8) × List ((Int × Int × Int × Unit)) × Unit) at a1
    change List ((List UInt8 × List ((Int × Int × Int × Unit)) × List ((Int × Int × Int × Int × Unit)) × (List ((Int × Int × Int × Int × List (Int) × Unit)) × Unit) × (List ((Int × Int × Int × Int × List (Int) × Unit)) × Unit) × Int × Bool × Unit)) at l1
    change Int at rz
    have hE : EnvOK (E_law_Check k) ⟨Tryd.prog, Tryd.f29.ntmps, w0, M, fun _ => False, fun _ => undef⟩ := (EnvOK.cons (c_feature_Check k) (EnvOK.cons (c_rule_Check k) (EnvOK.nil rfl Tryd.ntmps29 hG)))
    unfold law_Check at h
    refine W_seq (W_region (WL_allC hE [1, 2] [2] [] (orc := []) (by kernel_rfl) .n (N_then (W_seq (W_seq (W_region ?_))))))
    obtain ⟨v1, e1, h⟩ := bind_some h
    refine WL_allC hE [1, 2, 5] [2] [] (orc := [tI64 v1]) (by kernel_rfl) (.c e1 .n) (N_then (W_seq (W_region (WL_allC hE [1, 2, 5, 12] [2] [] (orc := []) (by kernel_rfl) .n (N_then (W_cond (b := v1 != (0 : Int)) (by kernel_rfl) (fun e2 => ?_) (fun e2 => ?_)))))))
    · replace h := ite_t e2 h
      refine W_seq (W_region (WL_allI hE (st' := ⟨[(4, I64 v1)], [], []⟩) (orc := []) (by kernel_rfl) .n (N_then (W_ret (N_then_ret ?_)))))
      cases h
      exact N_end (.inl rfl) (by kernel_rfl)
    · replace h := ite_f e2 h
      refine W_skip (N_then (W_seq (W_seq (W_region (WL_allC hE [1, 2, 16] [2] [] (orc := []) (by kernel_rfl) .n (N_then (W_cond (b := decide ((64 : Int) < (List.length l1 : Int))) (by kernel_rfl) (fun e3 => ?_) (fun e3 => ?_))))))))
      · replace h := ite_t e3 h
        refine W_seq (W_region (WL_allC hE [4] [] [] (orc := []) (by kernel_rfl) .n (N_then (W_ret (N_then_ret ?_)))))
        cases h
        exact N_end (.inl rfl) (by kernel_rfl)
      · replace h := ite_f e3 h
        refine W_skip (N_then (W_seq (W_seq (W_region (WL_allI hE (orc := []) (by kernel_rfl) .n (N_then (W_block (W_loop (α := Int) (fun n z => law_Check_l1 k l1 a1 n z = some rz) (fun t1 => ⟨[(2, .ptr 2 0), (17, .val (.sl (.pair .str (.pair (.sl (.pair (.int .i32) (.pair (.int .u32) (.pair (.int .u32) .unit)))) (.pair (.sl (.pair (.int .i32) (.pair (.int .i64) (.pair (.int .u32) (.pair (.int .u32) .unit))))) (.pair (.pair (.sl (.pair (.int .u8) (.pair (.int .i32) (.pair (.int .u32) (.pair (.int .u32) (.pair (.sl (.int .i64)) .unit)))))) .unit) (.pair (.pair (.sl (.pair (.int .u8) (.pair (.int .i32) (.pair (.int .u32) (.pair (.int .u32) (.pair (.sl (.int .i64)) .unit)))))) .unit) (.pair (.int .u8) (.pair .bool .unit)))))))) l1), (18, I64 (List.length l1 : Int)), (19, I64 t1)], [(2, .cells [.val (.sl .str) a1.1, .val (.sl (.pair (.int .i32) (.pair (.int .u32) (.pair (.int .u32) .unit)))) a1.2.1] 25)], []⟩) ?_ (k := k) (x := (0 : Int)) h))))))))
        clear h
        rintro fuel1 t1 h
        cases fuel1 with
        | zero => exact absurd (show none = some _ from h) (by simp)
        | succ fuel1 =>
          have h : law_Check_b1 k l1 a1 (law_Check_l1 k l1 a1 fuel1) t1 = some rz := h
          unfold law_Check_b1 at h
          refine W_seq (W_region (WL_allC hE [2, 17, 18, 19, 20] [2] [] (orc := []) (by kernel_rfl) .n (N_then (W_seq (W_cond (b := decide (t1 < (List.length l1 : Int))) (by kernel_rfl) (fun e4 => ?_) (fun e4 => ?_))))))
          · replace h := ite_t e4 h
            refine W_skip (N_then (W_seq (W_block (W_seq (W_region ?_)))))
            obtain ⟨x1, e5, h⟩ := bind_some h
            refine WL_allC hE [2, 7, 17, 18, 19] [2, 7] [] (orc := [⟨(.pair .str (.pair (.sl (.pair (.int .i32) (.pair (.int .u32) (.pair (.int .u32) .unit)))) (.pair (.sl (.pair (.int .i32) (.pair (.int .i64) (.pair (.int .u32) (.pair (.int .u32) .unit))))) (.pair (.pair (.sl (.pair (.int .u8) (.pair (.int .i32) (.pair (.int .u32) (.pair (.int .u32) (.pair (.sl (.int .i64)) .unit)))))) .unit) (.pair (.pair (.sl (.pair (.int .u8) (.pair (.int .i32) (.pair (.int .u32) (.pair (.int .u32) (.pair (.sl (.int .i64)) .unit)))))) .unit) (.pair (.int .u8) (.pair .bool .unit))))))), x1⟩]) (by kernel_rfl) (.c e5 .n) (N_then (W_seq (W_region ?_)))
            obtain ⟨v2, e6, h⟩ := bind_some h
            refine WL_allI hE (st' := ⟨[(2, .ptr 2 0), (8, I64 v2), (17, .val (.sl (.pair .str (.pair (.sl (.pair (.int .i32) (.pair (.int .u32) (.pair (.int .u32) .unit)))) (.pair (.sl (.pair (.int .i32) (.pair (.int .i64) (.pair (.int .u32) (.pair (.int .u32) .unit))))) (.pair (.pair (.sl (.pair (.int .u8) (.pair (.int .i32) (.pair (.int .u32) (.pair (.int .u32) (.pair (.sl (.int .i64)) .unit)))))) .unit) (.pair (.pair (.sl (.pair (.int .u8) (.pair (.int .i32) (.pair (.int .u32) (.pair (.int .u32) (.pair (.sl (.int .i64)) .unit)))))) .unit) (.pair (.int .u8) (.pair .bool .unit)))))))) l1), (18, I64 (List.length l1 : Int)), (19, I64 t1)], [(2, .cells [.val (.sl .str) a1.1, .val (.sl (.pair (.int .i32) (.pair (.int .u32) (.pair (.int .u32) .unit)))) a1.2.1] 25)], []⟩) (orc := [tI64 v2]) (by kernel_rfl) (.c e6 .n) (N_then (W_seq (W_region (WL_allC hE [2, 8, 17, 18, 19, 27] [2] [] (orc := []) (by kernel_rfl) .n (N_then (W_cond (b := v2 != (0 : Int)) (by kernel_rfl) (fun e7 => ?_) (fun e7 => ?_)))))))
            · replace h := ite_t e7 h
              refine W_seq (W_region (WL_allC hE [4] [] [] (orc := []) (by kernel_rfl) .n (N_then (W_ret (N_block_ret (N_then_ret (N_then_ret (N_block_ret (N_then_ret ?_)))))))))
              cases h
              exact N_end (.inl rfl) (by kernel_rfl)
            · replace h := ite_f e7 h
              exact W_skip (N_block (N_then (W_region (WL_allI hE (orc := []) (by kernel_rfl) .n (N_round (wi64 (t1 + (1 : Int))) (Nat.lt_succ_self _) h)))))
          · replace h := ite_f e4 h
            refine W_exit (N_then_exit (N_then_exit (N_block_exit (N_then (W_seq (W_region (WL_allC hE [4] [] [] (orc := []) (by kernel_rfl) .n (N_then (W_ret ?_)))))))))
            cases h
            exact N_end (.inl rfl) (by kernel_rfl)

def C_family_Check (k : Nat) : FnC := ⟨true, 1, [], fun | [⟨(.pair (.pair (.sl .str) (.pair (.sl (.pair (.int .i32) (.pair (.int .u32) (.pair (.int .u32) .unit)))) .unit)) (.pair (.sl (.pair .str (.pair (.int .i64) (.pair (.sl (.pair .str (.pair (.sl (.pair (.int .i32) (.pair (.int .u32) (.pair (.int .u32) .unit)))) (.pair (.sl (.pair (.int .i32) (.pair (.int .i64) (.pair (.int .u32) (.pair (.int .u32) .unit))))) (.pair (.pair (.sl (.pair (.int .u8) (.pair (.int .i32) (.pair (.int .u32) (.pair (.int .u32) (.pair (.sl (.int .i64)) .unit)))))) .unit) (.pair (.pair (.sl (.pair (.int .u8) (.pair (.int .i32) (.pair (.int .u32) (.pair (.int .u32) (.pair (.sl (.int .i64)) .unit)))))) .unit) (.pair (.int .u8) (.pair .bool .unit)))))))) .unit)))) .unit)), f1⟩], [⟨(.int .i64), rz⟩] => family_Check k f1 = some rz | _, _ => False⟩
noncomputable def E_family_Check (k : Nat) : Env := ⟨Tryd.prog, Gn, 33, [(27, C_feature_Check k), (28, C_family_shaped k), (29, C_law_Check k)]⟩
theorem c_family_Check (k : Nat) : Contract Tryd.prog Gn 19 (C_family_Check k) := by
  refine contract_of Gn_stable (fn := Tryd.f19) Tryd.func19 (by kernel_rfl) rfl ?_ ?_
  · intro xs rs h
    unfold C_family_Check at h
    simp only at h
    split at h
    · exact ⟨by show 1 ≤ _; rw [Tryd.ntmps19]; decide, rfl, fun _ u hu => by simp at hu; (rcases hu with rfl) <;> rfl⟩
    · exact h.elim
  · intro w0 M xs rs hG h
    unfold C_family_Check at h
    simp only at h
    split at h
    case h_2 => exact h.elim
    rename_i f1 rz
    change ((List (List UInt8) × List ((Int × Int × Int × Unit)) × Unit) × List ((List UInt8 × Int × List ((List UInt8 × List ((Int × Int × Int × Unit)) × List ((Int × Int × Int × Int × Unit)) × (List ((Int × Int × Int × Int × List (Int) × Unit)) × Unit) × (List ((Int × Int × Int × Int × List (Int) × Unit)) × Unit) × Int × Bool × Unit)) × Unit)) × Unit) at f1
    change Int at rz
    have hE : EnvOK (E_family_Check k) ⟨Tryd.prog, Tryd.f19.ntmps, w0, M, fun _ => False, fun _ => undef⟩ := (EnvOK.cons (c_feature_Check k) (EnvOK.cons (c_family_shaped k) (EnvOK.cons (c_law_Check k) (EnvOK.nil rfl Tryd.ntmps19 hG))))
    unfold family_Check at h
    refine W_seq (W_region (WL_allC hE [1] [1] [] (orc := []) (by kernel_rfl) .n (N_then (W_seq (W_seq (W_region ?_))))))
    obtain ⟨v1, e1, h⟩ := bind_some h
    refine WL_allC hE [1, 3] [1] [] (orc := [tI64 v1]) (by kernel_rfl) (.c e1 .n) (N_then (W_seq (W_region (WL_allC hE [1, 3, 11] [1] [] (orc := []) (by kernel_rfl) .n (N_then (W_cond (b := v1 != (0 : Int)) (by kernel_rfl) (fun e2 => ?_) (fun e2 => ?_)))))))
    · replace h := ite_t e2 h
      refine W_seq (W_region (WL_allI hE (st' := ⟨[(2, I64 v1)], [], []⟩) (orc := []) (by kernel_rfl) .n (N_then (W_ret (N_then_ret ?_)))))
      cases h
      exact N_end (.inl rfl) (by kernel_rfl)
    · replace h := ite_f e2 h
      refine W_skip (N_then (W_seq (W_seq (W_region ?_))))
      obtain ⟨v2, e3, h⟩ := bind_some h
      refine WL_allC hE [1, 16] [1] [] (orc := [tB v2]) (by kernel_rfl) (.c e3 .n) (N_then (W_cond (b := !v2) (by kernel_rfl) (fun e4 => ?_) (fun e4 => ?_)))
      · replace h := ite_t e4 h
        refine W_seq (W_region (WL_allC hE [2] [] [] (orc := []) (by kernel_rfl) .n (N_then (W_ret (N_then_ret ?_)))))
        cases h
        exact N_end (.inl rfl) (by kernel_rfl)
      · replace h := ite_f e4 h
        refine W_skip (N_then (W_seq (W_seq (W_region (WL_allI hE (orc := []) (by kernel_rfl) .n (N_then (W_block (W_loop (α := Int) (fun n z => family_Check_l1 k f1 n z = some rz) (fun t1 => ⟨[(1, .ptr 1 0), (18, .val (.sl (.pair .str (.pair (.int .i64) (.pair (.sl (.pair .str (.pair (.sl (.pair (.int .i32) (.pair (.int .u32) (.pair (.int .u32) .unit)))) (.pair (.sl (.pair (.int .i32) (.pair (.int .i64) (.pair (.int .u32) (.pair (.int .u32) .unit))))) (.pair (.pair (.sl (.pair (.int .u8) (.pair (.int .i32) (.pair (.int .u32) (.pair (.int .u32) (.pair (.sl (.int .i64)) .unit)))))) .unit) (.pair (.pair (.sl (.pair (.int .u8) (.pair (.int .i32) (.pair (.int .u32) (.pair (.int .u32) (.pair (.sl (.int .i64)) .unit)))))) .unit) (.pair (.int .u8) (.pair .bool .unit)))))))) .unit)))) f1.2.1), (19, I64 (List.length f1.2.1 : Int)), (20, I64 t1)], [(1, .cells [.val (.sl .str) f1.1.1, .val (.sl (.pair (.int .i32) (.pair (.int .u32) (.pair (.int .u32) .unit)))) f1.1.2.1, .val (.sl (.pair .str (.pair (.int .i64) (.pair (.sl (.pair .str (.pair (.sl (.pair (.int .i32) (.pair (.int .u32) (.pair (.int .u32) .unit)))) (.pair (.sl (.pair (.int .i32) (.pair (.int .i64) (.pair (.int .u32) (.pair (.int .u32) .unit))))) (.pair (.pair (.sl (.pair (.int .u8) (.pair (.int .i32) (.pair (.int .u32) (.pair (.int .u32) (.pair (.sl (.int .i64)) .unit)))))) .unit) (.pair (.pair (.sl (.pair (.int .u8) (.pair (.int .i32) (.pair (.int .u32) (.pair (.int .u32) (.pair (.sl (.int .i64)) .unit)))))) .unit) (.pair (.int .u8) (.pair .bool .unit)))))))) .unit)))) f1.2.1] 28)], []⟩) ?_ (k := k) (x := (0 : Int)) h))))))))
        clear h
        rintro fuel1 t1 h
        cases fuel1 with
        | zero => exact absurd (show none = some _ from h) (by simp)
        | succ fuel1 =>
          have h : family_Check_b1 k f1 (family_Check_l1 k f1 fuel1) t1 = some rz := h
          unfold family_Check_b1 at h
          refine W_seq (W_region (WL_allC hE [1, 18, 19, 20, 21] [1] [] (orc := []) (by kernel_rfl) .n (N_then (W_seq (W_cond (b := decide (t1 < (List.length f1.2.1 : Int))) (by kernel_rfl) (fun e5 => ?_) (fun e5 => ?_))))))
          · replace h := ite_t e5 h
            refine W_skip (N_then (W_seq (W_block (W_seq (W_region ?_)))))
            obtain ⟨x1, e6, h⟩ := bind_some h
            refine WL_allC hE [1, 5, 18, 19, 20] [1, 5] [] (orc := [⟨(.pair .str (.pair (.int .i64) (.pair (.sl (.pair .str (.pair (.sl (.pair (.int .i32) (.pair (.int .u32) (.pair (.int .u32) .unit)))) (.pair (.sl (.pair (.int .i32) (.pair (.int .i64) (.pair (.int .u32) (.pair (.int .u32) .unit))))) (.pair (.pair (.sl (.pair (.int .u8) (.pair (.int .i32) (.pair (.int .u32) (.pair (.int .u32) (.pair (.sl (.int .i64)) .unit)))))) .unit) (.pair (.pair (.sl (.pair (.int .u8) (.pair (.int .i32) (.pair (.int .u32) (.pair (.int .u32) (.pair (.sl (.int .i64)) .unit)))))) .unit) (.pair (.int .u8) (.pair .bool .unit)))))))) .unit))), x1⟩]) (by kernel_rfl) (.c e6 .n) (N_then (W_seq (W_region ?_)))
            obtain ⟨v3, e7, h⟩ := bind_some h
            refine WL_allI hE (st' := ⟨[(1, .ptr 1 0), (6, I64 v3), (18, .val (.sl (.pair .str (.pair (.int .i64) (.pair (.sl (.pair .str (.pair (.sl (.pair (.int .i32) (.pair (.int .u32) (.pair (.int .u32) .unit)))) (.pair (.sl (.pair (.int .i32) (.pair (.int .i64) (.pair (.int .u32) (.pair (.int .u32) .unit))))) (.pair (.pair (.sl (.pair (.int .u8) (.pair (.int .i32) (.pair (.int .u32) (.pair (.int .u32) (.pair (.sl (.int .i64)) .unit)))))) .unit) (.pair (.pair (.sl (.pair (.int .u8) (.pair (.int .i32) (.pair (.int .u32) (.pair (.int .u32) (.pair (.sl (.int .i64)) .unit)))))) .unit) (.pair (.int .u8) (.pair .bool .unit)))))))) .unit)))) f1.2.1), (19, I64 (List.length f1.2.1 : Int)), (20, I64 t1)], [(1, .cells [.val (.sl .str) f1.1.1, .val (.sl (.pair (.int .i32) (.pair (.int .u32) (.pair (.int .u32) .unit)))) f1.1.2.1, .val (.sl (.pair .str (.pair (.int .i64) (.pair (.sl (.pair .str (.pair (.sl (.pair (.int .i32) (.pair (.int .u32) (.pair (.int .u32) .unit)))) (.pair (.sl (.pair (.int .i32) (.pair (.int .i64) (.pair (.int .u32) (.pair (.int .u32) .unit))))) (.pair (.pair (.sl (.pair (.int .u8) (.pair (.int .i32) (.pair (.int .u32) (.pair (.int .u32) (.pair (.sl (.int .i64)) .unit)))))) .unit) (.pair (.pair (.sl (.pair (.int .u8) (.pair (.int .i32) (.pair (.int .u32) (.pair (.int .u32) (.pair (.sl (.int .i64)) .unit)))))) .unit) (.pair (.int .u8) (.pair .bool .unit)))))))) .unit)))) f1.2.1] 28)], []⟩) (orc := [tI64 v3]) (by kernel_rfl) (.c e7 .n) (N_then (W_seq (W_region (WL_allC hE [1, 6, 18, 19, 20, 30] [1] [] (orc := []) (by kernel_rfl) .n (N_then (W_cond (b := v3 != (0 : Int)) (by kernel_rfl) (fun e8 => ?_) (fun e8 => ?_)))))))
            · replace h := ite_t e8 h
              refine W_seq (W_region (WL_allC hE [2] [] [] (orc := []) (by kernel_rfl) .n (N_then (W_ret (N_block_ret (N_then_ret (N_then_ret (N_block_ret (N_then_ret ?_)))))))))
              cases h
              exact N_end (.inl rfl) (by kernel_rfl)
            · replace h := ite_f e8 h
              exact W_skip (N_block (N_then (W_region (WL_allI hE (orc := []) (by kernel_rfl) .n (N_round (wi64 (t1 + (1 : Int))) (Nat.lt_succ_self _) h)))))
          · replace h := ite_f e5 h
            refine W_exit (N_then_exit (N_then_exit (N_block_exit (N_then (W_seq (W_region (WL_allC hE [2] [] [] (orc := []) (by kernel_rfl) .n (N_then (W_ret ?_)))))))))
            cases h
            exact N_end (.inl rfl) (by kernel_rfl)

def C_family_asked (k : Nat) : FnC := ⟨true, 1, [], fun | [⟨(.pair (.pair (.sl .str) (.pair (.sl (.pair (.int .i32) (.pair (.int .u32) (.pair (.int .u32) .unit)))) .unit)) (.pair (.sl (.pair .str (.pair (.int .i64) (.pair (.sl (.pair .str (.pair (.sl (.pair (.int .i32) (.pair (.int .u32) (.pair (.int .u32) .unit)))) (.pair (.sl (.pair (.int .i32) (.pair (.int .i64) (.pair (.int .u32) (.pair (.int .u32) .unit))))) (.pair (.pair (.sl (.pair (.int .u8) (.pair (.int .i32) (.pair (.int .u32) (.pair (.int .u32) (.pair (.sl (.int .i64)) .unit)))))) .unit) (.pair (.pair (.sl (.pair (.int .u8) (.pair (.int .i32) (.pair (.int .u32) (.pair (.int .u32) (.pair (.sl (.int .i64)) .unit)))))) .unit) (.pair (.int .u8) (.pair .bool .unit)))))))) .unit)))) .unit)), f1⟩, ⟨(.sl (.int .i64)), tongues1⟩], [⟨(.int .i64), rz⟩] => family_asked k f1 tongues1 = some rz | _, _ => False⟩
noncomputable def E_family_asked (k : Nat) : Env := ⟨Tryd.prog, Gn, 29, [(19, C_family_Check k)]⟩
theorem c_family_asked (k : Nat) : Contract Tryd.prog Gn 11 (C_family_asked k) := by
  refine contract_of Gn_stable (fn := Tryd.f11) Tryd.func11 (by kernel_rfl) rfl ?_ ?_
  · intro xs rs h
    unfold C_family_asked at h
    simp only at h
    split at h
    · exact ⟨by show 2 ≤ _; rw [Tryd.ntmps11]; decide, rfl, fun _ u hu => by simp at hu; (rcases hu with rfl) <;> rfl⟩
    · exact h.elim
  · intro w0 M xs rs hG h
    unfold C_family_asked at h
    simp only at h
    split at h
    case h_2 => exact h.elim
    rename_i f1 tongues1 rz
    change ((List (List UInt8) × List ((Int × Int × Int × Unit)) × Unit) × List ((List UInt8 × Int × List ((List UInt8 × List ((Int × Int × Int × Unit)) × List ((Int × Int × Int × Int × Unit)) × (List ((Int × Int × Int × Int × List (Int) × Unit)) × Unit) × (List ((Int × Int × Int × Int × List (Int) × Unit)) × Unit) × Int × Bool × Unit)) × Unit)) × Unit) at f1
    change List (Int) at tongues1
    change Int at rz
    have hE : EnvOK (E_family_asked k) ⟨Tryd.prog, Tryd.f11.ntmps, w0, M, fun _ => False, fun _ => undef⟩ := (EnvOK.cons (c_family_Check k) (EnvOK.nil rfl Tryd.ntmps11 hG))
    unfold family_asked at h
    refine W_seq (W_region (WL_allC hE [1, 2] [2] [] (orc := []) (by kernel_rfl) .n (N_then (W_seq (W_seq (W_region ?_))))))
    obtain ⟨v1, e1, h⟩ := bind_some h
    refine WL_allC hE [1, 2, 5] [2] [] (orc := [tI64 v1]) (by kernel_rfl) (.c e1 .n) (N_then (W_seq (W_region (WL_allC hE [1, 2, 5, 11] [2] [] (orc := []) (by kernel_rfl) .n (N_then (W_cond (b := v1 != (0 : Int)) (by kernel_rfl) (fun e2 => ?_) (fun e2 => ?_)))))))
    · replace h := ite_t e2 h
      refine W_seq (W_region (WL_allI hE (st' := ⟨[(4, I64 v1)], [], []⟩) (orc := []) (by kernel_rfl) .n (N_then (W_ret (N_then_ret ?_)))))
      cases h
      exact N_end (.inl rfl) (by kernel_rfl)
    · replace h := ite_f e2 h
      refine W_skip (N_then (W_seq (W_seq (W_region (WL_allI hE (orc := []) (by kernel_rfl) .n (N_then (W_block (W_loop (α := Int) (fun n z => family_asked_l1 tongues1 f1 n z = some rz) (fun t1 => ⟨[(2, .ptr 2 0), (13, .val (.sl (.int .i64)) tongues1), (14, I64 (List.length tongues1 : Int)), (15, I64 t1)], [(2, .cells [.val (.sl .str) f1.1.1, .val (.sl (.pair (.int .i32) (.pair (.int .u32) (.pair (.int .u32) .unit)))) f1.1.2.1, .val (.sl (.pair .str (.pair (.int .i64) (.pair (.sl (.pair .str (.pair (.sl (.pair (.int .i32) (.pair (.int .u32) (.pair (.int .u32) .unit)))) (.pair (.sl (.pair (.int .i32) (.pair (.int .i64) (.pair (.int .u32) (.pair (.int .u32) .unit))))) (.pair (.pair (.sl (.pair (.int .u8) (.pair (.int .i32) (.pair (.int .u32) (.pair (.int .u32) (.pair (.sl (.int .i64)) .unit)))))) .unit) (.pair (.pair (.sl (.pair (.int .u8) (.pair (.int .i32) (.pair (.int .u32) (.pair (.int .u32) (.pair (.sl (.int .i64)) .unit)))))) .unit) (.pair (.int .u8) (.pair .bool .unit)))))))) .unit)))) f1.2.1] 28)], []⟩) ?_ (k := k) (x := (0 : Int)) h))))))))
      clear h
      rintro fuel1 t1 h
      cases fuel1 with
      | zero => exact absurd (show none = some _ from h) (by simp)
      | succ fuel1 =>
        have h : family_asked_b1 tongues1 f1 (family_asked_l1 tongues1 f1 fuel1) t1 = some rz := h
        unfold family_asked_b1 at h
        refine W_seq (W_region (WL_allC hE [2, 13, 14, 15, 16] [2] [] (orc := []) (by kernel_rfl) .n (N_then (W_seq (W_cond (b := decide (t1 < (List.length tongues1 : Int))) (by kernel_rfl) (fun e3 => ?_) (fun e3 => ?_))))))
        · replace h := ite_t e3 h
          refine W_skip (N_then (W_seq (W_block (W_seq (W_region ?_)))))
          obtain ⟨x1, e4, h⟩ := bind_some h
          refine WL_allC hE [2, 7, 13, 14, 15] [2] [] (orc := [tI64 x1]) (by kernel_rfl) (.c e4 .n) (N_then (W_seq (W_region (WL_tkC hE 3 [2, 7, 13, 14, 15, 21] [2] [] (orc := []) (by kernel_rfl) .n (WL_join (α := Bool) (fun z => family_asked_j1 (family_asked_l1 tongues1 f1 fuel1) t1 z = some rz) (fun t2 => ⟨[(2, .ptr 2 0), (13, .val (.sl (.int .i64)) tongues1), (14, I64 (List.length tongues1 : Int)), (15, I64 t1), (27, BB t2)], [(2, .cells [.val (.sl .str) f1.1.1, .val (.sl (.pair (.int .i32) (.pair (.int .u32) (.pair (.int .u32) .unit)))) f1.1.2.1, .val (.sl (.pair .str (.pair (.int .i64) (.pair (.sl (.pair .str (.pair (.sl (.pair (.int .i32) (.pair (.int .u32) (.pair (.int .u32) .unit)))) (.pair (.sl (.pair (.int .i32) (.pair (.int .i64) (.pair (.int .u32) (.pair (.int .u32) .unit))))) (.pair (.pair (.sl (.pair (.int .u8) (.pair (.int .i32) (.pair (.int .u32) (.pair (.int .u32) (.pair (.sl (.int .i64)) .unit)))))) .unit) (.pair (.pair (.sl (.pair (.int .u8) (.pair (.int .i32) (.pair (.int .u32) (.pair (.int .u32) (.pair (.sl (.int .i64)) .unit)))))) .unit) (.pair (.int .u8) (.pair .bool .unit)))))))) .unit)))) f1.2.1] 28)], []⟩) 6 ?_ (fun hJ1 => ?_))))))
          · rintro t2 h
            unfold family_asked_j1 at h
            refine WL_nil (N_then (W_cond (b := t2) (by kernel_rfl) (fun e5 => ?_) (fun e5 => ?_)))
            · replace h := ite_t e5 h
              refine W_seq (W_region (WL_allC hE [4] [] [] (orc := []) (by kernel_rfl) .n (N_then (W_ret (N_block_ret (N_then_ret (N_then_ret (N_block_ret (N_then_ret ?_)))))))))
              cases h
              exact N_end (.inl rfl) (by kernel_rfl)
            · replace h := ite_f e5 h
              exact W_skip (N_block (N_then (W_region (WL_allI hE (orc := []) (by kernel_rfl) .n (N_round (wi64 (t1 + (1 : Int))) (Nat.lt_succ_self _) h)))))
          refine WL_splitC 21 (b := decide (x1 < (0 : Int))) (by kernel_rfl) (fun e6 => ?_) (fun e6 => ?_)
          · rw [or_t e6] at h
            exact WL_allI hE (orc := []) (by kernel_rfl) .n (hJ1 true h)
          · rw [or_f e6] at h
            exact WL_allI hE (orc := []) (by kernel_rfl) .n (hJ1 (decide ((List.length f1.2.1 : Int) ≤ x1)) h)
        · replace h := ite_f e3 h
          refine W_exit (N_then_exit (N_then_exit (N_block_exit (N_then (W_seq (W_region (WL_allC hE [4] [] [] (orc := []) (by kernel_rfl) .n (N_then (W_ret ?_)))))))))
          cases h
          exact N_end (.inl rfl) (by kernel_rfl)

def B_family_Text_c1_i1 (k : Nat) : FnB (Int × Int × List (List UInt8) × List ((Int × Int × Int × Unit)) × List ((List UInt8 × Int × List ((List UInt8 × List ((Int × Int × Int × Unit)) × List ((Int × Int × Int × Int × Unit)) × (List ((Int × Int × Int × Int × List (Int) × Unit)) × Unit) × (List ((Int × Int × Int × Int × List (Int) × Unit)) × Unit) × Int × Bool × Unit)) × Unit)) × List (Int)) (List (Int)) where
  n := 38
  S := fun z => ⟨[(0, I64 (z.1)), (1, I64 (z.2.1)), (2, .ptr 38 0), (3, .ptr 40 0), (4, .ptr 41 0)], [(38, .cells [.selfp 38, .row 39] 52), (40, .cells [.val (.sl .str) (z.2.2.1), .val (.sl (.pair (.int .i32) (.pair (.int .u32) (.pair (.int .u32) .unit)))) (z.2.2.2.1), .val (.sl (.pair .str (.pair (.int .i64) (.pair (.sl (.pair .str (.pair (.sl (.pair (.int .i32) (.pair (.int .u32) (.pair (.int .u32) .unit)))) (.pair (.sl (.pair (.int .i32) (.pair (.int .i64) (.pair (.int .u32) (.pair (.int .u32) .unit))))) (.pair (.pair (.sl (.pair (.int .u8) (.pair (.int .i32) (.pair (.int .u32) (.pair (.int .u32) (.pair (.sl (.int .i64)) .unit)))))) .unit) (.pair (.pair (.sl (.pair (.int .u8) (.pair (.int .i32) (.pair (.int .u32) (.pair (.int .u32) (.pair (.sl (.int .i64)) .unit)))))) .unit) (.pair (.int .u8) (.pair .bool .unit)))))))) .unit)))) (z.2.2.2.2.1)] 28), (41, .cells [.clos 15 [38, 40, 41]] 53)], [(39, ⟨5, (.int .u8), (z.2.2.2.2.2)⟩)]⟩
  S' := fun z y => ⟨[], [(38, .cells [.selfp 38, .row 39] 52), (40, .cells [.val (.sl .str) (z.2.2.1), .val (.sl (.pair (.int .i32) (.pair (.int .u32) (.pair (.int .u32) .unit)))) (z.2.2.2.1), .val (.sl (.pair .str (.pair (.int .i64) (.pair (.sl (.pair .str (.pair (.sl (.pair (.int .i32) (.pair (.int .u32) (.pair (.int .u32) .unit)))) (.pair (.sl (.pair (.int .i32) (.pair (.int .i64) (.pair (.int .u32) (.pair (.int .u32) .unit))))) (.pair (.pair (.sl (.pair (.int .u8) (.pair (.int .i32) (.pair (.int .u32) (.pair (.int .u32) (.pair (.sl (.int .i64)) .unit)))))) .unit) (.pair (.pair (.sl (.pair (.int .u8) (.pair (.int .i32) (.pair (.int .u32) (.pair (.int .u32) (.pair (.sl (.int .i64)) .unit)))))) .unit) (.pair (.int .u8) (.pair .bool .unit)))))))) .unit)))) (z.2.2.2.2.1)] 28), (41, .cells [.clos 15 [38, 40, 41]] 53)], [(39, ⟨5, (.int .u8), (y)⟩)]⟩
  rs := fun z y => []
  rel := fun z y => family_Text_c1_i1 k (z.1) (z.2.1) (z.2.2.1) (z.2.2.2.1) (z.2.2.2.2.1) (z.2.2.2.2.2) = some y
noncomputable def E_family_Text_c1_i1 (k : Nat) : Env := ⟨Tryd.prog, Gn, 38, [(17, C_strings_Repeat k)]⟩
theorem b_family_Text_c1_i1 : ∀ (k : Nat), BC Tryd.prog Gn 15 (B_family_Text_c1_i1 k) := by
  intro k
  induction k with
  | zero =>
    refine bc_of (fn := Tryd.f15) Tryd.func15 (by kernel_rfl) rfl Tryd.ntmps15 ?_
    rintro cx hP hn hG _ y0 h
    exact absurd (show none = some y0 from h) (by simp)
  | succ k ih =>
    refine bc_of (fn := Tryd.f15) Tryd.func15 (by kernel_rfl) rfl Tryd.ntmps15 ?_
    rintro cx hP hn hG ⟨tongue1, deep1, c1, c2, c3, l1⟩ y0 h
    have hE : EnvOK (E_family_Text_c1_i1 k) cx := (EnvOK.cons (c_strings_Repeat k) (EnvOK.nil hP hn hG))
    replace h : family_Text_c1_i1 (k + 1) tongue1 deep1 c1 c2 c3 l1 = some y0 := h
    unfold family_Text_c1_i1 at h
    refine W_seq ?_
    obtain ⟨v1, e2, h⟩ := bind_some h
    obtain ⟨x1, e1, h⟩ := bind_some h
    obtain ⟨_, e3, h⟩ := bind_some h
    replace e3 := chk_some e3
    obtain ⟨_, e4, h⟩ := bind_some h
    replace e4 := chk_some e4
    refine W_tailC hE 10 [0, 1, 2, 3, 4, 18] [38, 40, 41] [39] (orc := [tS v1, ⟨(.pair .str (.pair (.int .i64) (.pair (.sl (.pair .str (.pair (.sl (.pair (.int .i32) (.pair (.int .u32) (.pair (.int .u32) .unit)))) (.pair (.sl (.pair (.int .i32) (.pair (.int .i64) (.pair (.int .u32) (.pair (.int .u32) .unit))))) (.pair (.pair (.sl (.pair (.int .u8) (.pair (.int .i32) (.pair (.int .u32) (.pair (.int .u32) (.pair (.sl (.int .i64)) .unit)))))) .unit) (.pair (.pair (.sl (.pair (.int .u8) (.pair (.int .i32) (.pair (.int .u32) (.pair (.int .u32) (.pair (.sl (.int .i64)) .unit)))))) .unit) (.pair (.int .u8) (.pair .bool .unit)))))))) .unit))), x1⟩]) (by kernel_rfl) (by kernel_rfl) (by kernel_rfl) (.c e2 (.c e1 (.c e3 (.c e4 .n)))) ?_
    obtain ⟨v2, e5, h⟩ := bind_some h
    refine WL_callBC hE (b_strings_Builder_WriteString_i1 k) ((v1 ++ x1.1) ++ ([10] : List UInt8), l1) v2 e5 (ρ := [(38, 19), (39, 20)]) (ρ' := [(19, 38), (20, 39)]) (n := 19) (by kernel_rfl) [0, 1, 2, 3, 4] [38, 40, 41] [39] (by kernel_rfl) (by kernel_rfl) (by kernel_rfl) (WL_nil (N_then (W_seq (W_region (WL_allI hE (orc := []) (by kernel_rfl) .n (N_then (W_block (W_loop (α := (Int × List (Int))) (fun n z => family_Text_c1_i1_l1 c3 tongue1 (family_Text_c1_i1 k) deep1 c1 c2 n z.1 z.2 = some y0) (fun z => ⟨[(0, I64 tongue1), (1, I64 deep1), (2, .ptr 38 0), (3, .ptr 40 0), (4, .ptr 41 0), (21, .val (.sl (.pair .str (.pair (.int .i64) (.pair (.sl (.pair .str (.pair (.sl (.pair (.int .i32) (.pair (.int .u32) (.pair (.int .u32) .unit)))) (.pair (.sl (.pair (.int .i32) (.pair (.int .i64) (.pair (.int .u32) (.pair (.int .u32) .unit))))) (.pair (.pair (.sl (.pair (.int .u8) (.pair (.int .i32) (.pair (.int .u32) (.pair (.int .u32) (.pair (.sl (.int .i64)) .unit)))))) .unit) (.pair (.pair (.sl (.pair (.int .u8) (.pair (.int .i32) (.pair (.int .u32) (.pair (.int .u32) (.pair (.sl (.int .i64)) .unit)))))) .unit) (.pair (.int .u8) (.pair .bool .unit)))))))) .unit)))) c3), (22, I64 (List.length c3 : Int)), (23, I64 (z.1))], [(38, .cells [.selfp 38, .row 39] 52), (40, .cells [.val (.sl .str) c1, .val (.sl (.pair (.int .i32) (.pair (.int .u32) (.pair (.int .u32) .unit)))) c2, .val (.sl (.pair .str (.pair (.int .i64) (.pair (.sl (.pair .str (.pair (.sl (.pair (.int .i32) (.pair (.int .u32) (.pair (.int .u32) .unit)))) (.pair (.sl (.pair (.int .i32) (.pair (.int .i64) (.pair (.int .u32) (.pair (.int .u32) .unit))))) (.pair (.pair (.sl (.pair (.int .u8) (.pair (.int .i32) (.pair (.int .u32) (.pair (.int .u32) (.pair (.sl (.int .i64)) .unit)))))) .unit) (.pair (.pair (.sl (.pair (.int .u8) (.pair (.int .i32) (.pair (.int .u32) (.pair (.int .u32) (.pair (.sl (.int .i64)) .unit)))))) .unit) (.pair (.int .u8) (.pair .bool .unit)))))))) .unit)))) c3] 28), (41, .cells [.clos 15 [38, 40, 41]] 53)], [(39, ⟨5, (.int .u8), (z.2)⟩)]⟩) ?_ (k := k) (x := ((0 : Int), v2.2.2)) h))))))))
    clear h
    rintro fuel1 ⟨t2, t3⟩ h
    cases fuel1 with
    | zero => exact absurd (show none = some _ from h) (by simp)
    | succ fuel1 =>
      have h : family_Text_c1_i1_b1 c3 tongue1 (family_Text_c1_i1 k) deep1 c1 c2 (family_Text_c1_i1_l1 c3 tongue1 (family_Text_c1_i1 k) deep1 c1 c2 fuel1) t2 t3 = some y0 := h
      unfold family_Text_c1_i1_b1 at h
      refine W_seq (W_region (WL_allC hE [0, 1, 2, 3, 4, 21, 22, 23, 24] [38, 40, 41] [39] (orc := []) (by kernel_rfl) .n (N_then (W_seq (W_cond (b := decide (t2 < (List.length c3 : Int))) (by kernel_rfl) (fun e6 => ?_) (fun e6 => ?_))))))
      · replace h := ite_t e6 h
        refine W_skip (N_then (W_join (α := List (Int)) (fun z => family_Text_c1_i1_j1 (family_Text_c1_i1_l1 c3 tongue1 (family_Text_c1_i1 k) deep1 c1 c2 fuel1) t2 z = some y0) (fun t4 => ⟨[(0, I64 tongue1), (1, I64 deep1), (2, .ptr 38 0), (3, .ptr 40 0), (4, .ptr 41 0), (21, .val (.sl (.pair .str (.pair (.int .i64) (.pair (.sl (.pair .str (.pair (.sl (.pair (.int .i32) (.pair (.int .u32) (.pair (.int .u32) .unit)))) (.pair (.sl (.pair (.int .i32) (.pair (.int .i64) (.pair (.int .u32) (.pair (.int .u32) .unit))))) (.pair (.pair (.sl (.pair (.int .u8) (.pair (.int .i32) (.pair (.int .u32) (.pair (.int .u32) (.pair (.sl (.int .i64)) .unit)))))) .unit) (.pair (.pair (.sl (.pair (.int .u8) (.pair (.int .i32) (.pair (.int .u32) (.pair (.int .u32) (.pair (.sl (.int .i64)) .unit)))))) .unit) (.pair (.int .u8) (.pair .bool .unit)))))))) .unit)))) c3), (22, I64 (List.length c3 : Int)), (23, I64 t2)], [(38, .cells [.selfp 38, .row 39] 52), (40, .cells [.val (.sl .str) c1, .val (.sl (.pair (.int .i32) (.pair (.int .u32) (.pair (.int .u32) .unit)))) c2, .val (.sl (.pair .str (.pair (.int .i64) (.pair (.sl (.pair .str (.pair (.sl (.pair (.int .i32) (.pair (.int .u32) (.pair (.int .u32) .unit)))) (.pair (.sl (.pair (.int .i32) (.pair (.int .i64) (.pair (.int .u32) (.pair (.int .u32) .unit))))) (.pair (.pair (.sl (.pair (.int .u8) (.pair (.int .i32) (.pair (.int .u32) (.pair (.int .u32) (.pair (.sl (.int .i64)) .unit)))))) .unit) (.pair (.pair (.sl (.pair (.int .u8) (.pair (.int .i32) (.pair (.int .u32) (.pair (.int .u32) (.pair (.sl (.int .i64)) .unit)))))) .unit) (.pair (.int .u8) (.pair .bool .unit)))))))) .unit)))) c3] 28), (41, .cells [.clos 15 [38, 40, 41]] 53)], [(39, ⟨5, (.int .u8), t4⟩)]⟩) ?_ (fun hJ1 => ?_)))
        · rintro t4 h
          unfold family_Text_c1_i1_j1 at h
          exact W_region (WL_allI hE (orc := []) (by kernel_rfl) .n (N_round (wi64 (t2 + (1 : Int)), t4) (Nat.lt_succ_self _) h))
        refine W_block (W_seq (W_region ?_))
        obtain ⟨x2, e7, h⟩ := bind_some h
        refine WL_allC hE [0, 1, 2, 3, 4, 7, 8, 21, 22, 23] [8, 38, 40, 41] [39] (orc := [⟨(.pair .str (.pair (.int .i64) (.pair (.sl (.pair .str (.pair (.sl (.pair (.int .i32) (.pair (.int .u32) (.pair (.int .u32) .unit)))) (.pair (.sl (.pair (.int .i32) (.pair (.int .i64) (.pair (.int .u32) (.pair (.int .u32) .unit))))) (.pair (.pair (.sl (.pair (.int .u8) (.pair (.int .i32) (.pair (.int .u32) (.pair (.int .u32) (.pair (.sl (.int .i64)) .unit)))))) .unit) (.pair (.pair (.sl (.pair (.int .u8) (.pair (.int .i32) (.pair (.int .u32) (.pair (.int .u32) (.pair (.sl (.int .i64)) .unit)))))) .unit) (.pair (.int .u8) (.pair .bool .unit)))))))) .unit))), x2⟩]) (by kernel_rfl) (.c e7 .n) (N_then (W_seq (W_region (WL_allC hE [0, 1, 2, 3, 4, 7, 21, 22, 23, 31] [38, 40, 41] [39] (orc := []) (by kernel_rfl) .n (N_then (W_cond (b := x2.2.1 == tongue1) (by kernel_rfl) (fun e8 => ?_) (fun e8 => ?_)))))))
        · replace h := ite_t e8 h
          refine W_region (WL_tkC hE 4 [0, 1, 2, 3, 4, 21, 22, 23, 32, 33, 35] [38, 40, 41] [39] (orc := []) (by kernel_rfl) .n ?_)
          obtain ⟨v3, e9, h⟩ := bind_some h
          exact WL_callB hE ih (t2, wi64 (deep1 + (1 : Int)), c1, c2, c3, t3) v3 e9 (ρ := [(38, 38), (39, 39), (40, 40), (41, 41)]) (ρ' := [(38, 38), (40, 40), (41, 41), (39, 39)]) (n := 38) (by kernel_rfl) [0, 1, 2, 3, 4, 21, 22, 23] [38, 40, 41] [39] (by kernel_rfl) (by kernel_rfl) (by kernel_rfl) (WL_nil (N_block (hJ1 v3 h)))
        · replace h := ite_f e8 h
          exact W_skip (N_block (N_normI (by kernel_rfl) (hJ1 t3 h)))
      · replace h := ite_f e6 h
        refine W_exit (N_then_exit (N_then_exit (N_block_exit ?_)))
        replace h := Option.some.inj h
        subst h
        exact N_normC [2, 3, 4] [38, 40, 41] [39] (by kernel_rfl) (N_endB hE.P [38, 40, 41] [39] (.inr rfl) (by kernel_rfl) (by kernel_rfl))

def C_family_Text (k : Nat) : FnC := ⟨true, 2, [], fun | [⟨(.pair (.pair (.sl .str) (.pair (.sl (.pair (.int .i32) (.pair (.int .u32) (.pair (.int .u32) .unit)))) .unit)) (.pair (.sl (.pair .str (.pair (.int .i64) (.pair (.sl (.pair .str (.pair (.sl (.pair (.int .i32) (.pair (.int .u32) (.pair (.int .u32) .unit)))) (.pair (.sl (.pair (.int .i32) (.pair (.int .i64) (.pair (.int .u32) (.pair (.int .u32) .unit))))) (.pair (.pair (.sl (.pair (.int .u8) (.pair (.int .i32) (.pair (.int .u32) (.pair (.int .u32) (.pair (.sl (.int .i64)) .unit)))))) .unit) (.pair (.pair (.sl (.pair (.int .u8) (.pair (.int .i32) (.pair (.int .u32) (.pair (.int .u32) (.pair (.sl (.int .i64)) .unit)))))) .unit) (.pair (.int .u8) (.pair .bool .unit)))))))) .unit)))) .unit)), f1⟩], [⟨.str, rz1⟩, ⟨(.int .i64), rz2⟩] => family_Text k f1 = some (rz1, rz2) | _, _ => False⟩
noncomputable def E_family_Text (k : Nat) : Env := ⟨Tryd.prog, Gn, 16, [(11, C_family_asked k)]⟩
theorem c_family_Text (k : Nat) : Contract Tryd.prog Gn 9 (C_family_Text k) := by
  refine contract_of Gn_stable (fn := Tryd.f9) Tryd.func9 (by kernel_rfl) rfl ?_ ?_
  · intro xs rs h
    unfold C_family_Text at h
    simp only at h
    split at h
    · exact ⟨by show 1 ≤ _; rw [Tryd.ntmps9]; decide, rfl, fun _ u hu => by simp at hu; (rcases hu with rfl | rfl) <;> rfl⟩
    · exact h.elim
  · intro w0 M xs rs hG h
    unfold C_family_Text at h
    simp only at h
    split at h
    case h_2 => exact h.elim
    rename_i f1 rz1 rz2
    change ((List (List UInt8) × List ((Int × Int × Int × Unit)) × Unit) × List ((List UInt8 × Int × List ((List UInt8 × List ((Int × Int × Int × Unit)) × List ((Int × Int × Int × Int × Unit)) × (List ((Int × Int × Int × Int × List (Int) × Unit)) × Unit) × (List ((Int × Int × Int × Int × List (Int) × Unit)) × Unit) × Int × Bool × Unit)) × Unit)) × Unit) at f1
    change List UInt8 at rz1
    change Int at rz2
    have hE : EnvOK (E_family_Text k) ⟨Tryd.prog, Tryd.f9.ntmps, w0, M, fun _ => False, fun _ => undef⟩ := (EnvOK.cons (c_family_asked k) (EnvOK.nil rfl Tryd.ntmps9 hG))
    unfold family_Text at h
    refine W_seq (W_region (WL_allC hE [1] [1] [] (orc := []) (by kernel_rfl) .n (N_then (W_seq (W_seq (W_region ?_))))))
    obtain ⟨v1, e1, h⟩ := bind_some h
    refine WL_allC hE [1, 4] [1] [] (orc := [tI64 v1]) (by kernel_rfl) (.c e1 .n) (N_then (W_seq (W_region (WL_allC hE [1, 4, 10] [1] [] (orc := []) (by kernel_rfl) .n (N_then (W_cond (b := v1 != (0 : Int)) (by kernel_rfl) (fun e2 => ?_) (fun e2 => ?_)))))))
    · replace h := ite_t e2 h
      refine W_seq (W_region (WL_allI hE (st' := ⟨[(2, SS ([] : List UInt8)), (3, I64 v1)], [], []⟩) (orc := []) (by kernel_rfl) .n (N_then (W_ret (N_then_ret ?_)))))
      cases h
      exact N_end (.inl rfl) (by kernel_rfl)
    · replace h := ite_f e2 h
      refine W_skip (N_then (W_seq (W_region (WL_allI hE (st' := ⟨[(1, .ptr 1 0), (5, .ptr 5 0)], [(1, .cells [.val (.sl .str) f1.1.1, .val (.sl (.pair (.int .i32) (.pair (.int .u32) (.pair (.int .u32) .unit)))) f1.1.2.1, .val (.sl (.pair .str (.pair (.int .i64) (.pair (.sl (.pair .str (.pair (.sl (.pair (.int .i32) (.pair (.int .u32) (.pair (.int .u32) .unit)))) (.pair (.sl (.pair (.int .i32) (.pair (.int .i64) (.pair (.int .u32) (.pair (.int .u32) .unit))))) (.pair (.pair (.sl (.pair (.int .u8) (.pair (.int .i32) (.pair (.int .u32) (.pair (.int .u32) (.pair (.sl (.int .i64)) .unit)))))) .unit) (.pair (.pair (.sl (.pair (.int .u8) (.pair (.int .i32) (.pair (.int .u32) (.pair (.int .u32) (.pair (.sl (.int .i64)) .unit)))))) .unit) (.pair (.int .u8) (.pair .bool .unit)))))))) .unit)))) f1.2.1] 28), (5, .cells [.selfp 5, .row 1000005] 52)], [(1000005, ⟨5, (.int .u8), ([] : List (Int))⟩)]⟩) (orc := []) (by kernel_rfl) .n (N_then (W_seq (W_region (WL_allC hE [1, 5, 6] [1, 5, 6] [1000005] (orc := []) (by kernel_rfl) .n (N_then (W_seq (W_region (WL_allC hE [5, 6] [1, 5, 6] [1000005] (orc := []) (by kernel_rfl) .n (N_then (W_seq (W_region (WL_tkC hE 1 [5, 13] [1, 5, 6] [1000005] (orc := []) (by kernel_rfl) .n ?_))))))))))))))))
      obtain ⟨v2, e3, h⟩ := bind_some h
      refine WL_callBC hE (b_family_Text_c1_i1 k) ((0 : Int), (0 : Int), f1.1.1, f1.1.2.1, f1.2.1, ([] : List (Int))) v2 e3 (ρ := [(5, 38), (1000005, 39), (1, 40), (6, 41)]) (ρ' := [(38, 5), (40, 1), (41, 6), (39, 1000005)]) (n := 38) (by kernel_rfl) [5] [5] [1000005] (by kernel_rfl) (by kernel_rfl) (by kernel_rfl) (WL_nil (N_then (W_seq (W_region ?_))))
      obtain ⟨v3, e4, h⟩ := bind_some h
      refine WL_callBC hE (b_bld_String k) v2 v3 e4 (ρ := [(5, 14), (1000005, 15)]) (ρ' := []) (n := 14) (by kernel_rfl) [15] [] [] (by kernel_rfl) (by kernel_rfl) (by kernel_rfl) (WL_allC hE [2, 3] [] [] (orc := []) (by kernel_rfl) .n (N_then (W_ret ?_)))
      cases h
      exact N_end (.inl rfl) (by kernel_rfl)

def C_l27_awake (k : Nat) : FnC := ⟨true, 1, [], fun | [], [⟨.bool, rz⟩] => l27_awake k = some rz | _, _ => False⟩
noncomputable def E_l27_awake (k : Nat) : Env := ⟨Tryd.prog, Gn, 14, [(10, C_l27_sample k), (9, C_family_Text k)]⟩
theorem c_l27_awake (k : Nat) : Contract Tryd.prog Gn 4 (C_l27_awake k) := by
  refine contract_of Gn_stable (fn := Tryd.f4) Tryd.func4 (by kernel_rfl) rfl ?_ ?_
  · intro xs rs h
    unfold C_l27_awake at h
    simp only at h
    split at h
    · exact ⟨by show 0 ≤ _; rw [Tryd.ntmps4]; decide, rfl, fun _ u hu => by simp at hu; (rcases hu with rfl) <;> rfl⟩
    · exact h.elim
  · intro w0 M xs rs hG h
    unfold C_l27_awake at h
    simp only at h
    split at h
    case h_2 => exact h.elim
    rename_i rz
    change Bool at rz
    have hE : EnvOK (E_l27_awake k) ⟨Tryd.prog, Tryd.f4.ntmps, w0, M, fun _ => False, fun _ => undef⟩ := (EnvOK.cons (c_l27_sample k) (EnvOK.cons (c_family_Text k) (EnvOK.nil rfl Tryd.ntmps4 hG)))
    unfold l27_awake at h
    refine W_seq (W_region (WL_allC hE [] [] [] (orc := []) (by kernel_rfl) .n (N_then (W_seq (W_region ?_)))))
    obtain ⟨v1, e1, h⟩ := bind_some h
    obtain ⟨v2, e2, h⟩ := bind_some h
    refine WL_allC hE [1, 2] [] [] (orc := [⟨(.pair (.pair (.sl .str) (.pair (.sl (.pair (.int .i32) (.pair (.int .u32) (.pair (.int .u32) .unit)))) .unit)) (.pair (.sl (.pair .str (.pair (.int .i64) (.pair (.sl (.pair .str (.pair (.sl (.pair (.int .i32) (.pair (.int .u32) (.pair (.int .u32) .unit)))) (.pair (.sl (.pair (.int .i32) (.pair (.int .i64) (.pair (.int .u32) (.pair (.int .u32) .unit))))) (.pair (.pair (.sl (.pair (.int .u8) (.pair (.int .i32) (.pair (.int .u32) (.pair (.int .u32) (.pair (.sl (.int .i64)) .unit)))))) .unit) (.pair (.pair (.sl (.pair (.int .u8) (.pair (.int .i32) (.pair (.int .u32) (.pair (.int .u32) (.pair (.sl (.int .i64)) .unit)))))) .unit) (.pair (.int .u8) (.pair .bool .unit)))))))) .unit)))) .unit)), v1⟩, tS v2.1, tI64 v2.2]) (by kernel_rfl) (.c e1 (.c e2 .n)) (N_then (W_seq (W_region (WL_tkC hE 3 [1, 10] [] [] (orc := []) (by kernel_rfl) .n (WL_join (α := Bool) (fun z => l27_awake_j1 z = some rz) (fun t1 => ⟨[(13, BB t1)], [], []⟩) 3 ?_ (fun hJ1 => ?_))))))
    · rintro t1 h
      unfold l27_awake_j1 at h
      refine WL_allC hE [0] [] [] (orc := []) (by kernel_rfl) .n (N_then (W_ret ?_))
      cases h
      exact N_end (.inl rfl) (by kernel_rfl)
    refine WL_splitC 10 (b := v2.2 == (0 : Int)) (by kernel_rfl) (fun e3 => ?_) (fun e3 => ?_)
    · rw [and_t e3] at h
      exact WL_allI hE (orc := []) (by kernel_rfl) .n (hJ1 (v2.1 == ([112, 10, 32, 32, 113, 10] : List UInt8)) h)
    · rw [and_f e3] at h
      exact WL_allI hE (orc := []) (by kernel_rfl) .n (hJ1 false h)

def C_l27_large (k : Nat) : FnC := ⟨true, 1, [], fun | [⟨(.pair (.pair (.sl .str) (.pair (.sl (.pair (.int .i32) (.pair (.int .u32) (.pair (.int .u32) .unit)))) .unit)) (.pair (.sl (.pair .str (.pair (.int .i64) (.pair (.sl (.pair .str (.pair (.sl (.pair (.int .i32) (.pair (.int .u32) (.pair (.int .u32) .unit)))) (.pair (.sl (.pair (.int .i32) (.pair (.int .i64) (.pair (.int .u32) (.pair (.int .u32) .unit))))) (.pair (.pair (.sl (.pair (.int .u8) (.pair (.int .i32) (.pair (.int .u32) (.pair (.int .u32) (.pair (.sl (.int .i64)) .unit)))))) .unit) (.pair (.pair (.sl (.pair (.int .u8) (.pair (.int .i32) (.pair (.int .u32) (.pair (.int .u32) (.pair (.sl (.int .i64)) .unit)))))) .unit) (.pair (.int .u8) (.pair .bool .unit)))))))) .unit)))) .unit)), f1⟩], [⟨.bool, rz⟩] => l27_large k f1 = some rz | _, _ => False⟩
noncomputable def E_l27_large (k : Nat) : Env := ⟨Tryd.prog, Gn, 35, []⟩
theorem c_l27_large (k : Nat) : Contract Tryd.prog Gn 5 (C_l27_large k) := by
  refine contract_of Gn_stable (fn := Tryd.f5) Tryd.func5 (by kernel_rfl) rfl ?_ ?_
  · intro xs rs h
    unfold C_l27_large at h
    simp only at h
    split at h
    · exact ⟨by show 1 ≤ _; rw [Tryd.ntmps5]; decide, rfl, fun _ u hu => by simp at hu; (rcases hu with rfl) <;> rfl⟩
    · exact h.elim
  · intro w0 M xs rs hG h
    unfold C_l27_large at h
    simp only at h
    split at h
    case h_2 => exact h.elim
    rename_i f1 rz
    change ((List (List UInt8) × List ((Int × Int × Int × Unit)) × Unit) × List ((List UInt8 × Int × List ((List UInt8 × List ((Int × Int × Int × Unit)) × List ((Int × Int × Int × Int × Unit)) × (List ((Int × Int × Int × Int × List (Int) × Unit)) × Unit) × (List ((Int × Int × Int × Int × List (Int) × Unit)) × Unit) × Int × Bool × Unit)) × Unit)) × Unit) at f1
    change Bool at rz
    have hE : EnvOK (E_l27_large k) ⟨Tryd.prog, Tryd.f5.ntmps, w0, M, fun _ => False, fun _ => undef⟩ := (EnvOK.nil rfl Tryd.ntmps5 hG)
    unfold l27_large at h
    refine W_seq (W_region (WL_allC hE [1] [1] [] (orc := []) (by kernel_rfl) .n (N_then (W_seq (W_region (WL_allC hE [1, 3] [1] [] (orc := []) (by kernel_rfl) .n (N_then (W_seq (W_seq (W_region (WL_allI hE (orc := []) (by kernel_rfl) .n (N_then (W_block (W_loop (α := (Int × Int)) (fun n z => l27_large_l1 f1 n z.1 z.2 = some rz) (fun z => ⟨[(1, .ptr 1 0), (3, I64 (z.1)), (4, I64 (z.2))], [(1, .cells [.val (.sl .str) f1.1.1, .val (.sl (.pair (.int .i32) (.pair (.int .u32) (.pair (.int .u32) .unit)))) f1.1.2.1, .val (.sl (.pair .str (.pair (.int .i64) (.pair (.sl (.pair .str (.pair (.sl (.pair (.int .i32) (.pair (.int .u32) (.pair (.int .u32) .unit)))) (.pair (.sl (.pair (.int .i32) (.pair (.int .i64) (.pair (.int .u32) (.pair (.int .u32) .unit))))) (.pair (.pair (.sl (.pair (.int .u8) (.pair (.int .i32) (.pair (.int .u32) (.pair (.int .u32) (.pair (.sl (.int .i64)) .unit)))))) .unit) (.pair (.pair (.sl (.pair (.int .u8) (.pair (.int .i32) (.pair (.int .u32) (.pair (.int .u32) (.pair (.sl (.int .i64)) .unit)))))) .unit) (.pair (.int .u8) (.pair .bool .unit)))))))) .unit)))) f1.2.1] 28)], []⟩) ?_ (k := k) (x := ((0 : Int), (0 : Int))) h))))))))))))))
    clear h
    rintro fuel1 ⟨n1, i1⟩ h
    cases fuel1 with
    | zero => exact absurd (show none = some _ from h) (by simp)
    | succ fuel1 =>
      have h : l27_large_b1 f1 (l27_large_l1 f1 fuel1) n1 i1 = some rz := h
      unfold l27_large_b1 at h
      refine W_seq (W_seq (W_region (WL_tkC hE 6 [1, 3, 4, 10] [1] [] (orc := []) (by kernel_rfl) .n (WL_join (α := Bool) (fun z => l27_large_j1 f1 i1 (l27_large_l1 f1 fuel1) n1 z = some rz) (fun t1 => ⟨[(1, .ptr 1 0), (3, I64 n1), (4, I64 i1), (13, BB t1)], [(1, .cells [.val (.sl .str) f1.1.1, .val (.sl (.pair (.int .i32) (.pair (.int .u32) (.pair (.int .u32) .unit)))) f1.1.2.1, .val (.sl (.pair .str (.pair (.int .i64) (.pair (.sl (.pair .str (.pair (.sl (.pair (.int .i32) (.pair (.int .u32) (.pair (.int .u32) .unit)))) (.pair (.sl (.pair (.int .i32) (.pair (.int .i64) (.pair (.int .u32) (.pair (.int .u32) .unit))))) (.pair (.pair (.sl (.pair (.int .u8) (.pair (.int .i32) (.pair (.int .u32) (.pair (.int .u32) (.pair (.sl (.int .i64)) .unit)))))) .unit) (.pair (.pair (.sl (.pair (.int .u8) (.pair (.int .i32) (.pair (.int .u32) (.pair (.int .u32) (.pair (.sl (.int .i64)) .unit)))))) .unit) (.pair (.int .u8) (.pair .bool .unit)))))))) .unit)))) f1.2.1] 28)], []⟩) 3 ?_ (fun hJ1 => ?_)))))
      · rintro t1 h
        unfold l27_large_j1 at h
        refine WL_nil (N_then (W_cond (b := t1) (by kernel_rfl) (fun e1 => ?_) (fun e1 => ?_)))
        · replace h := ite_t e1 h
          refine W_skip (N_then (W_join (α := Int) (fun z => l27_large_j2 (l27_large_l1 f1 fuel1) i1 z = some rz) (fun n2 => ⟨[(1, .ptr 1 0), (3, I64 n2), (4, I64 i1)], [(1, .cells [.val (.sl .str) f1.1.1, .val (.sl (.pair (.int .i32) (.pair (.int .u32) (.pair (.int .u32) .unit)))) f1.1.2.1, .val (.sl (.pair .str (.pair (.int .i64) (.pair (.sl (.pair .str (.pair (.sl (.pair (.int .i32) (.pair (.int .u32) (.pair (.int .u32) .unit)))) (.pair (.sl (.pair (.int .i32) (.pair (.int .i64) (.pair (.int .u32) (.pair (.int .u32) .unit))))) (.pair (.pair (.sl (.pair (.int .u8) (.pair (.int .i32) (.pair (.int .u32) (.pair (.int .u32) (.pair (.sl (.int .i64)) .unit)))))) .unit) (.pair (.pair (.sl (.pair (.int .u8) (.pair (.int .i32) (.pair (.int .u32) (.pair (.int .u32) (.pair (.sl (.int .i64)) .unit)))))) .unit) (.pair (.int .u8) (.pair .bool .unit)))))))) .unit)))) f1.2.1] 28)], []⟩) ?_ (fun hJ2 => ?_)))
          · rintro n2 h
            unfold l27_large_j2 at h
            exact W_region (WL_allI hE (orc := []) (by kernel_rfl) .n (N_round (n2, wi64 (i1 + (1 : Int))) (Nat.lt_succ_self _) h))
          refine W_block (W_seq (W_region ?_))
          obtain ⟨x1, e2, h⟩ := bind_some h
          refine WL_allC hE [1, 3, 4, 23] [1] [] (orc := [⟨(.pair .str (.pair (.int .i64) (.pair (.sl (.pair .str (.pair (.sl (.pair (.int .i32) (.pair (.int .u32) (.pair (.int .u32) .unit)))) (.pair (.sl (.pair (.int .i32) (.pair (.int .i64) (.pair (.int .u32) (.pair (.int .u32) .unit))))) (.pair (.pair (.sl (.pair (.int .u8) (.pair (.int .i32) (.pair (.int .u32) (.pair (.int .u32) (.pair (.sl (.int .i64)) .unit)))))) .unit) (.pair (.pair (.sl (.pair (.int .u8) (.pair (.int .i32) (.pair (.int .u32) (.pair (.int .u32) (.pair (.sl (.int .i64)) .unit)))))) .unit) (.pair (.int .u8) (.pair .bool .unit)))))))) .unit))), x1⟩]) (by kernel_rfl) (.c e2 .n) (N_then (W_cond (b := decide ((List.length x1.2.2.1 : Int) ≤ (64 : Int))) (by kernel_rfl) (fun e3 => ?_) (fun e3 => ?_)))
          · replace h := ite_t e3 h
            exact W_region (WL_allI hE (orc := [⟨(.pair .str (.pair (.int .i64) (.pair (.sl (.pair .str (.pair (.sl (.pair (.int .i32) (.pair (.int .u32) (.pair (.int .u32) .unit)))) (.pair (.sl (.pair (.int .i32) (.pair (.int .i64) (.pair (.int .u32) (.pair (.int .u32) .unit))))) (.pair (.pair (.sl (.pair (.int .u8) (.pair (.int .i32) (.pair (.int .u32) (.pair (.int .u32) (.pair (.sl (.int .i64)) .unit)))))) .unit) (.pair (.pair (.sl (.pair (.int .u8) (.pair (.int .i32) (.pair (.int .u32) (.pair (.int .u32) (.pair (.sl (.int .i64)) .unit)))))) .unit) (.pair (.int .u8) (.pair .bool .unit)))))))) .unit))), x1⟩]) (by kernel_rfl) (.c e2 .n) (N_block (hJ2 (wi64 (n1 + (List.length x1.2.2.1 : Int))) h)))
          · replace h := ite_f e3 h
            exact W_skip (N_block (N_normI (by kernel_rfl) (hJ2 n1 h)))
        · replace h := ite_f e1 h
          refine W_exit (N_then_exit (N_then_exit (N_block_exit (N_then (W_seq (W_region (WL_allC hE [2] [] [] (orc := []) (by kernel_rfl) .n (N_then (W_ret ?_)))))))))
          cases h
          exact N_end (.inl rfl) (by kernel_rfl)
      refine WL_splitC 10 (b := decide (i1 < (List.length f1.2.1 : Int))) (by kernel_rfl) (fun e4 => ?_) (fun e4 => ?_)
      · rw [and_t e4] at h
        exact WL_allI hE (orc := []) (by kernel_rfl) .n (hJ1 (decide (i1 < (40 : Int))) h)
      · rw [and_f e4] at h
        exact WL_allI hE (orc := []) (by kernel_rfl) .n (hJ1 false h)

end Go.Ev
