/- Contracts, by program. -/
import Derived.Test.YtmelekiophkpiaaDoorProg
import Derived.Test.YtmelekiophkpiaaDoorME3
import Derived.Test.YtmelekiophkpiaaDoorMS1
import Derived.Test.YtmelekiophkpiaaDoorML1
import Derived.Test.YtmelekiophkpiaaDoorCtFa1P1
import Derived.KernelRfl
namespace Go.Ev
open Go Go.Proofs
set_option linter.unusedVariables false
set_option maxRecDepth 100000

def C_family_path (k : Nat) : FnC := ⟨false, 1, [], fun | [⟨(.pair (.pair (.sl .str) (.pair (.sl (.pair (.int .i32) (.pair (.int .u32) (.pair (.int .u32) .unit)))) .unit)) (.pair (.sl (.pair .str (.pair (.int .i64) (.pair (.sl (.pair .str (.pair (.sl (.pair (.int .i32) (.pair (.int .u32) (.pair (.int .u32) .unit)))) (.pair (.sl (.pair (.int .i32) (.pair (.int .i64) (.pair (.int .u32) (.pair (.int .u32) .unit))))) (.pair (.pair (.sl (.pair (.int .u8) (.pair (.int .i32) (.pair (.int .u32) (.pair (.int .u32) (.pair (.sl (.int .i64)) .unit)))))) .unit) (.pair (.pair (.sl (.pair (.int .u8) (.pair (.int .i32) (.pair (.int .u32) (.pair (.int .u32) (.pair (.sl (.int .i64)) .unit)))))) .unit) (.pair (.int .u8) (.pair .bool .unit)))))))) .unit)))) .unit)), f1⟩, ⟨(.int .i64), tongue1⟩], [⟨(.sl (.int .i64)), rz⟩] => family_path k f1 tongue1 = some rz | _, _ => False⟩
noncomputable def E_family_path (k : Nat) : Env := ⟨Tryd.prog, Gn, 21, []⟩
theorem c_family_path (k : Nat) : Contract Tryd.prog Gn 12 (C_family_path k) := by
  refine contract_of Gn_stable (fn := Tryd.f12) Tryd.func12 (by kernel_rfl) rfl ?_ ?_
  · intro xs rs h
    unfold C_family_path at h
    simp only at h
    split at h
    · exact ⟨by show 2 ≤ _; rw [Tryd.ntmps12]; decide, rfl, fun hf => by cases hf⟩
    · exact h.elim
  · intro w0 M xs rs hG h
    unfold C_family_path at h
    simp only at h
    split at h
    case h_2 => exact h.elim
    rename_i f1 tongue1 rz
    change ((List (List UInt8) × List ((Int × Int × Int × Unit)) × Unit) × List ((List UInt8 × Int × List ((List UInt8 × List ((Int × Int × Int × Unit)) × List ((Int × Int × Int × Int × Unit)) × (List ((Int × Int × Int × Int × List (Int) × Unit)) × Unit) × (List ((Int × Int × Int × Int × List (Int) × Unit)) × Unit) × Int × Bool × Unit)) × Unit)) × Unit) at f1
    change Int at tongue1
    change List (Int) at rz
    have hE : EnvOK (E_family_path k) ⟨Tryd.prog, Tryd.f12.ntmps, w0, M, fun _ => False, fun _ => undef⟩ := (EnvOK.nil rfl Tryd.ntmps12 hG)
    unfold family_path at h
    refine W_seq (W_region (WL_allC hE [1, 2] [2] [] (orc := []) (by kernel_rfl) .n (N_then (W_seq (W_region (WL_allI hE (orc := []) (by kernel_rfl) .n (N_then (W_seq (W_block (W_loop (α := (Int × List (Int))) (fun n z => family_path_l1 f1 n z.1 z.2 = some rz) (fun z => ⟨[(1, I64 (z.1)), (2, .ptr 2 0), (5, .row 5)], [(2, .cells [.val (.sl .str) f1.1.1, .val (.sl (.pair (.int .i32) (.pair (.int .u32) (.pair (.int .u32) .unit)))) f1.1.2.1, .val (.sl (.pair .str (.pair (.int .i64) (.pair (.sl (.pair .str (.pair (.sl (.pair (.int .i32) (.pair (.int .u32) (.pair (.int .u32) .unit)))) (.pair (.sl (.pair (.int .i32) (.pair (.int .i64) (.pair (.int .u32) (.pair (.int .u32) .unit))))) (.pair (.pair (.sl (.pair (.int .u8) (.pair (.int .i32) (.pair (.int .u32) (.pair (.int .u32) (.pair (.sl (.int .i64)) .unit)))))) .unit) (.pair (.pair (.sl (.pair (.int .u8) (.pair (.int .i32) (.pair (.int .u32) (.pair (.int .u32) (.pair (.sl (.int .i64)) .unit)))))) .unit) (.pair (.int .u8) (.pair .bool .unit)))))))) .unit)))) f1.2.1] 28)], [(5, ⟨3, (.int .i64), (z.2)⟩)]⟩) ?_ (k := k) (x := (tongue1, ([] : List (Int)))) h))))))))))
    clear h
    rintro fuel1 ⟨tongue2, out1⟩ h
    cases fuel1 with
    | zero => exact absurd (show none = some _ from h) (by simp)
    | succ fuel1 =>
      have h : family_path_b1 f1 (family_path_l1 f1 fuel1) tongue2 out1 = some rz := h
      unfold family_path_b1 at h
      refine W_seq (W_seq (W_region (WL_allC hE [1, 2, 5, 7] [2] [5] (orc := []) (by kernel_rfl) .n (N_then (W_cond (b := decide ((0 : Int) ≤ tongue2)) (by kernel_rfl) (fun e1 => ?_) (fun e1 => ?_))))))
      · replace h := ite_t e1 h
        refine W_skip (N_then (W_seq (W_block (W_region ?_))))
        obtain ⟨_, e2, h⟩ := bind_some h
        replace e2 := chk_some e2
        refine WL_allC hE [1, 2, 5] [2] [5] (orc := []) (by kernel_rfl) (.c e2 .n) (N_block (N_then (W_region ?_)))
        obtain ⟨x1, e3, h⟩ := bind_some h
        exact WL_allI hE (orc := [⟨(.pair .str (.pair (.int .i64) (.pair (.sl (.pair .str (.pair (.sl (.pair (.int .i32) (.pair (.int .u32) (.pair (.int .u32) .unit)))) (.pair (.sl (.pair (.int .i32) (.pair (.int .i64) (.pair (.int .u32) (.pair (.int .u32) .unit))))) (.pair (.pair (.sl (.pair (.int .u8) (.pair (.int .i32) (.pair (.int .u32) (.pair (.int .u32) (.pair (.sl (.int .i64)) .unit)))))) .unit) (.pair (.pair (.sl (.pair (.int .u8) (.pair (.int .i32) (.pair (.int .u32) (.pair (.int .u32) (.pair (.sl (.int .i64)) .unit)))))) .unit) (.pair (.int .u8) (.pair .bool .unit)))))))) .unit))), x1⟩]) (by kernel_rfl) (.c e3 .n) (N_round (x1.2.1, out1 ++ ([tongue2] : List (Int))) (Nat.lt_succ_self _) h)
      · replace h := ite_f e1 h
        refine W_exit (N_then_exit (N_then_exit (N_block_exit (N_then (W_seq (W_region (WL_tk hE 1 [5, 18] [] [5] (st' := ⟨[(5, .row 5), (18, .row 5)], [], [(5, ⟨3, (.int .i64), out1⟩)]⟩) (orc := []) (by kernel_rfl) (Obs.all .n) (WL_callI hE ic_slices_Reverse_int out1 (List.reverse out1) rfl 5 [5] [] [5] (st' := ⟨[(5, .row 5)], [], [(5, ⟨3, (.int .i64), List.reverse out1⟩)]⟩) (by kernel_rfl) (by kernel_rfl) (by kernel_rfl) (by kernel_rfl) (WL_nil (N_then (W_seq (W_region (WL_allC hE [4] [] [5] (orc := []) (by kernel_rfl) .n (N_then (W_ret ?_)))))))))))))))
        cases h
        exact N_end (.inl rfl) (by kernel_rfl)

def C_family_Path (k : Nat) : FnC := ⟨false, 2, [], fun | [⟨(.pair (.pair (.sl .str) (.pair (.sl (.pair (.int .i32) (.pair (.int .u32) (.pair (.int .u32) .unit)))) .unit)) (.pair (.sl (.pair .str (.pair (.int .i64) (.pair (.sl (.pair .str (.pair (.sl (.pair (.int .i32) (.pair (.int .u32) (.pair (.int .u32) .unit)))) (.pair (.sl (.pair (.int .i32) (.pair (.int .i64) (.pair (.int .u32) (.pair (.int .u32) .unit))))) (.pair (.pair (.sl (.pair (.int .u8) (.pair (.int .i32) (.pair (.int .u32) (.pair (.int .u32) (.pair (.sl (.int .i64)) .unit)))))) .unit) (.pair (.pair (.sl (.pair (.int .u8) (.pair (.int .i32) (.pair (.int .u32) (.pair (.int .u32) (.pair (.sl (.int .i64)) .unit)))))) .unit) (.pair (.int .u8) (.pair .bool .unit)))))))) .unit)))) .unit)), f1⟩, ⟨(.int .i64), tongue1⟩], [⟨(.sl (.int .i64)), rz1⟩, ⟨(.int .i64), rz2⟩] => family_Path k f1 tongue1 = some (rz1, rz2) | _, _ => False⟩
noncomputable def E_family_Path (k : Nat) : Env := ⟨Tryd.prog, Gn, 17, [(11, C_family_asked k), (12, C_family_path k)]⟩
theorem c_family_Path (k : Nat) : Contract Tryd.prog Gn 6 (C_family_Path k) := by
  refine contract_of Gn_stable (fn := Tryd.f6) Tryd.func6 (by kernel_rfl) rfl ?_ ?_
  · intro xs rs h
    unfold C_family_Path at h
    simp only at h
    split at h
    · exact ⟨by show 2 ≤ _; rw [Tryd.ntmps6]; decide, rfl, fun hf => by cases hf⟩
    · exact h.elim
  · intro w0 M xs rs hG h
    unfold C_family_Path at h
    simp only at h
    split at h
    case h_2 => exact h.elim
    rename_i f1 tongue1 rz1 rz2
    change ((List (List UInt8) × List ((Int × Int × Int × Unit)) × Unit) × List ((List UInt8 × Int × List ((List UInt8 × List ((Int × Int × Int × Unit)) × List ((Int × Int × Int × Int × Unit)) × (List ((Int × Int × Int × Int × List (Int) × Unit)) × Unit) × (List ((Int × Int × Int × Int × List (Int) × Unit)) × Unit) × Int × Bool × Unit)) × Unit)) × Unit) at f1
    change Int at tongue1
    change List (Int) at rz1
    change Int at rz2
    have hE : EnvOK (E_family_Path k) ⟨Tryd.prog, Tryd.f6.ntmps, w0, M, fun _ => False, fun _ => undef⟩ := (EnvOK.cons (c_family_asked k) (EnvOK.cons (c_family_path k) (EnvOK.nil rfl Tryd.ntmps6 hG)))
    unfold family_Path at h
    refine W_seq (W_region (WL_allC hE [1, 2] [2] [] (orc := []) (by kernel_rfl) .n (N_then (W_seq (W_seq (W_region ?_))))))
    obtain ⟨v1, e1, h⟩ := bind_some h
    refine WL_allC hE [1, 2, 6] [2] [] (orc := [tI64 v1]) (by kernel_rfl) (.c e1 .n) (N_then (W_seq (W_region (WL_allC hE [1, 2, 6, 12] [2] [] (orc := []) (by kernel_rfl) .n (N_then (W_cond (b := v1 != (0 : Int)) (by kernel_rfl) (fun e2 => ?_) (fun e2 => ?_)))))))
    · replace h := ite_t e2 h
      refine W_seq (W_region (WL_allI hE (st' := ⟨[(4, .row 4), (5, I64 v1)], [], [(4, ⟨3, (.int .i64), ([] : List (Int))⟩)]⟩) (orc := []) (by kernel_rfl) .n (N_then (W_ret (N_then_ret ?_)))))
      cases h
      exact N_end (.inl rfl) (by kernel_rfl)
    · replace h := ite_f e2 h
      refine W_skip (N_then (W_seq (W_region ?_)))
      obtain ⟨v2, e3, h⟩ := bind_some h
      refine WL_allC hE [4, 5] [] [] (orc := [⟨(.sl (.int .i64)), v2⟩]) (by kernel_rfl) (.c e3 .n) (N_then (W_ret ?_))
      cases h
      exact N_end (.inl rfl) (by kernel_rfl)

def C_family_Near (k : Nat) : FnC := ⟨true, 2, [], fun | [⟨(.pair (.pair (.sl .str) (.pair (.sl (.pair (.int .i32) (.pair (.int .u32) (.pair (.int .u32) .unit)))) .unit)) (.pair (.sl (.pair .str (.pair (.int .i64) (.pair (.sl (.pair .str (.pair (.sl (.pair (.int .i32) (.pair (.int .u32) (.pair (.int .u32) .unit)))) (.pair (.sl (.pair (.int .i32) (.pair (.int .i64) (.pair (.int .u32) (.pair (.int .u32) .unit))))) (.pair (.pair (.sl (.pair (.int .u8) (.pair (.int .i32) (.pair (.int .u32) (.pair (.int .u32) (.pair (.sl (.int .i64)) .unit)))))) .unit) (.pair (.pair (.sl (.pair (.int .u8) (.pair (.int .i32) (.pair (.int .u32) (.pair (.int .u32) (.pair (.sl (.int .i64)) .unit)))))) .unit) (.pair (.int .u8) (.pair .bool .unit)))))))) .unit)))) .unit)), f1⟩, ⟨(.int .i64), x1⟩, ⟨(.int .i64), y1⟩], [⟨(.int .i64), rz1⟩, ⟨(.int .i64), rz2⟩] => family_Near k f1 x1 y1 = some (rz1, rz2) | _, _ => False⟩
noncomputable def E_family_Near (k : Nat) : Env := ⟨Tryd.prog, Gn, 36, [(11, C_family_asked k)]⟩
theorem c_family_Near (k : Nat) : Contract Tryd.prog Gn 7 (C_family_Near k) := by
  refine contract_of Gn_stable (fn := Tryd.f7) Tryd.func7 (by kernel_rfl) rfl ?_ ?_
  · intro xs rs h
    unfold C_family_Near at h
    simp only at h
    split at h
    · exact ⟨by show 3 ≤ _; rw [Tryd.ntmps7]; decide, rfl, fun _ u hu => by simp at hu; (rcases hu with rfl | rfl) <;> rfl⟩
    · exact h.elim
  · intro w0 M xs rs hG h
    unfold C_family_Near at h
    simp only at h
    split at h
    case h_2 => exact h.elim
    rename_i f1 x1 y1 rz1 rz2
    change ((List (List UInt8) × List ((Int × Int × Int × Unit)) × Unit) × List ((List UInt8 × Int × List ((List UInt8 × List ((Int × Int × Int × Unit)) × List ((Int × Int × Int × Int × Unit)) × (List ((Int × Int × Int × Int × List (Int) × Unit)) × Unit) × (List ((Int × Int × Int × Int × List (Int) × Unit)) × Unit) × Int × Bool × Unit)) × Unit)) × Unit) at f1
    change Int at x1
    change Int at y1
    change Int at rz1
    change Int at rz2
    have hE : EnvOK (E_family_Near k) ⟨Tryd.prog, Tryd.f7.ntmps, w0, M, fun _ => False, fun _ => undef⟩ := (EnvOK.cons (c_family_asked k) (EnvOK.nil rfl Tryd.ntmps7 hG))
    unfold family_Near at h
    refine W_seq (W_region (WL_allC hE [1, 2, 3] [3] [] (orc := []) (by kernel_rfl) .n (N_then (W_seq (W_seq (W_region ?_))))))
    obtain ⟨v1, e1, h⟩ := bind_some h
    refine WL_allC hE [1, 2, 3, 8] [3] [] (orc := [tI64 v1]) (by kernel_rfl) (.c e1 .n) (N_then (W_seq (W_region (WL_allC hE [1, 2, 3, 8, 15] [3] [] (orc := []) (by kernel_rfl) .n (N_then (W_cond (b := v1 != (0 : Int)) (by kernel_rfl) (fun e2 => ?_) (fun e2 => ?_)))))))
    · replace h := ite_t e2 h
      refine W_seq (W_region (WL_allI hE (st' := ⟨[(6, I64 (0 : Int)), (7, I64 v1)], [], []⟩) (orc := []) (by kernel_rfl) .n (N_then (W_ret (N_then_ret ?_)))))
      cases h
      exact N_end (.inl rfl) (by kernel_rfl)
    · replace h := ite_f e2 h
      refine W_skip (N_then (W_seq (W_block (W_normI (by kernel_rfl) (W_loop (α := (Int × Int)) (fun n z => family_Near_l1 f1 n z.1 z.2 = some (rz1, rz2)) (fun z => ⟨[(1, I64 (z.1)), (2, I64 (z.2)), (3, .ptr 3 0)], [(3, .cells [.val (.sl .str) f1.1.1, .val (.sl (.pair (.int .i32) (.pair (.int .u32) (.pair (.int .u32) .unit)))) f1.1.2.1, .val (.sl (.pair .str (.pair (.int .i64) (.pair (.sl (.pair .str (.pair (.sl (.pair (.int .i32) (.pair (.int .u32) (.pair (.int .u32) .unit)))) (.pair (.sl (.pair (.int .i32) (.pair (.int .i64) (.pair (.int .u32) (.pair (.int .u32) .unit))))) (.pair (.pair (.sl (.pair (.int .u8) (.pair (.int .i32) (.pair (.int .u32) (.pair (.int .u32) (.pair (.sl (.int .i64)) .unit)))))) .unit) (.pair (.pair (.sl (.pair (.int .u8) (.pair (.int .i32) (.pair (.int .u32) (.pair (.int .u32) (.pair (.sl (.int .i64)) .unit)))))) .unit) (.pair (.int .u8) (.pair .bool .unit)))))))) .unit)))) f1.2.1] 28)], []⟩) ?_ (k := k) (x := (x1, y1)) h)))))
      clear h
      rintro fuel1 ⟨x2, y2⟩ h
      cases fuel1 with
      | zero => exact absurd (show none = some _ from h) (by simp)
      | succ fuel1 =>
        have h : family_Near_b1 f1 (family_Near_l1 f1 fuel1) x2 y2 = some (rz1, rz2) := h
        unfold family_Near_b1 at h
        refine W_seq (W_seq (W_region (WL_allC hE [1, 2, 3, 19] [3] [] (orc := []) (by kernel_rfl) .n (N_then (W_cond (b := x2 != y2) (by kernel_rfl) (fun e3 => ?_) (fun e3 => ?_))))))
        · replace h := ite_t e3 h
          refine W_skip (N_then (W_block (W_seq (W_region (WL_allC hE [1, 2, 3, 22] [3] [] (orc := []) (by kernel_rfl) .n (N_then (W_cond (b := decide (y2 < x2)) (by kernel_rfl) (fun e4 => ?_) (fun e4 => ?_))))))))
          · replace h := ite_t e4 h
            refine W_region ?_
            obtain ⟨x3, e5, h⟩ := bind_some h
            exact WL_allI hE (orc := [⟨(.pair .str (.pair (.int .i64) (.pair (.sl (.pair .str (.pair (.sl (.pair (.int .i32) (.pair (.int .u32) (.pair (.int .u32) .unit)))) (.pair (.sl (.pair (.int .i32) (.pair (.int .i64) (.pair (.int .u32) (.pair (.int .u32) .unit))))) (.pair (.pair (.sl (.pair (.int .u8) (.pair (.int .i32) (.pair (.int .u32) (.pair (.int .u32) (.pair (.sl (.int .i64)) .unit)))))) .unit) (.pair (.pair (.sl (.pair (.int .u8) (.pair (.int .i32) (.pair (.int .u32) (.pair (.int .u32) (.pair (.sl (.int .i64)) .unit)))))) .unit) (.pair (.int .u8) (.pair .bool .unit)))))))) .unit))), x3⟩]) (by kernel_rfl) (.c e5 .n) (N_block (N_round (x3.2.1, y2) (Nat.lt_succ_self _) h))
          · replace h := ite_f e4 h
            refine W_region ?_
            obtain ⟨x4, e6, h⟩ := bind_some h
            exact WL_allI hE (orc := [⟨(.pair .str (.pair (.int .i64) (.pair (.sl (.pair .str (.pair (.sl (.pair (.int .i32) (.pair (.int .u32) (.pair (.int .u32) .unit)))) (.pair (.sl (.pair (.int .i32) (.pair (.int .i64) (.pair (.int .u32) (.pair (.int .u32) .unit))))) (.pair (.pair (.sl (.pair (.int .u8) (.pair (.int .i32) (.pair (.int .u32) (.pair (.int .u32) (.pair (.sl (.int .i64)) .unit)))))) .unit) (.pair (.pair (.sl (.pair (.int .u8) (.pair (.int .i32) (.pair (.int .u32) (.pair (.int .u32) (.pair (.sl (.int .i64)) .unit)))))) .unit) (.pair (.int .u8) (.pair .bool .unit)))))))) .unit))), x4⟩]) (by kernel_rfl) (.c e6 .n) (N_block (N_round (x2, x4.2.1) (Nat.lt_succ_self _) h))
        · replace h := ite_f e3 h
          refine W_exit (N_then_exit (N_then_exit (N_block_exit (N_then (W_seq (W_region (WL_allC hE [6, 7] [] [] (orc := []) (by kernel_rfl) .n (N_then (W_ret ?_)))))))))
          cases h
          exact N_end (.inl rfl) (by kernel_rfl)

def C_family_Leaves_c1 (k : Nat) : FnC := ⟨true, 1, [(.int .i64)], fun | [⟨(.pair .str (.pair (.int .i64) (.pair (.sl (.pair .str (.pair (.sl (.pair (.int .i32) (.pair (.int .u32) (.pair (.int .u32) .unit)))) (.pair (.sl (.pair (.int .i32) (.pair (.int .i64) (.pair (.int .u32) (.pair (.int .u32) .unit))))) (.pair (.pair (.sl (.pair (.int .u8) (.pair (.int .i32) (.pair (.int .u32) (.pair (.int .u32) (.pair (.sl (.int .i64)) .unit)))))) .unit) (.pair (.pair (.sl (.pair (.int .u8) (.pair (.int .i32) (.pair (.int .u32) (.pair (.int .u32) (.pair (.sl (.int .i64)) .unit)))))) .unit) (.pair (.int .u8) (.pair .bool .unit)))))))) .unit))), b1⟩, ⟨(.ptr (.int .i64)), t1⟩], [⟨.bool, rz⟩] => family_Leaves_c1 k b1 t1 = some rz | _, _ => False⟩
noncomputable def E_family_Leaves_c1 (k : Nat) : Env := ⟨Tryd.prog, Gn, 8, []⟩
theorem c_family_Leaves_c1 (k : Nat) : Contract Tryd.prog Gn 14 (C_family_Leaves_c1 k) := by
  refine contract_of Gn_stable (fn := Tryd.f14) Tryd.func14 (by kernel_rfl) rfl ?_ ?_
  · intro xs rs h
    unfold C_family_Leaves_c1 at h
    simp only at h
    split at h
    · exact ⟨by show 2 ≤ _; rw [Tryd.ntmps14]; decide, rfl, fun _ u hu => by simp at hu; (rcases hu with rfl) <;> rfl⟩
    · exact h.elim
  · intro w0 M xs rs hG h
    unfold C_family_Leaves_c1 at h
    simp only at h
    split at h
    case h_2 => exact h.elim
    rename_i b1 t1 rz
    change (List UInt8 × Int × List ((List UInt8 × List ((Int × Int × Int × Unit)) × List ((Int × Int × Int × Int × Unit)) × (List ((Int × Int × Int × Int × List (Int) × Unit)) × Unit) × (List ((Int × Int × Int × Int × List (Int) × Unit)) × Unit) × Int × Bool × Unit)) × Unit) at b1
    change Int at t1
    change Bool at rz
    have hE : EnvOK (E_family_Leaves_c1 k) ⟨Tryd.prog, Tryd.f14.ntmps, w0, M, fun _ => False, fun _ => undef⟩ := (EnvOK.nil rfl Tryd.ntmps14 hG)
    unfold family_Leaves_c1 at h
    refine W_seq (W_region (WL_allC hE [1, 2] [2] [] (orc := []) (by kernel_rfl) .n (N_then (W_seq (W_region (WL_allC hE [3] [] [] (orc := []) (by kernel_rfl) .n (N_then (W_ret ?_))))))))
    cases h
    exact N_end (.inl rfl) (by kernel_rfl)

def C_slices_IndexFunc___api_Branch_api_Branch__Leaves_c1 (k : Nat) : FnC := ⟨true, 1, [], fun | [⟨(.sl (.pair .str (.pair (.int .i64) (.pair (.sl (.pair .str (.pair (.sl (.pair (.int .i32) (.pair (.int .u32) (.pair (.int .u32) .unit)))) (.pair (.sl (.pair (.int .i32) (.pair (.int .i64) (.pair (.int .u32) (.pair (.int .u32) .unit))))) (.pair (.pair (.sl (.pair (.int .u8) (.pair (.int .i32) (.pair (.int .u32) (.pair (.int .u32) (.pair (.sl (.int .i64)) .unit)))))) .unit) (.pair (.pair (.sl (.pair (.int .u8) (.pair (.int .i32) (.pair (.int .u32) (.pair (.int .u32) (.pair (.sl (.int .i64)) .unit)))))) .unit) (.pair (.int .u8) (.pair .bool .unit)))))))) .unit)))), s1⟩, ⟨(.fn 14 (.pair (.ptr (.int .i64)) .unit)), f1⟩], [⟨(.int .i64), rz⟩] => slices_IndexFunc___api_Branch_api_Branch__Leaves_c1 k s1 f1 = some rz | _, _ => False⟩
noncomputable def E_slices_IndexFunc___api_Branch_api_Branch__Leaves_c1 (k : Nat) : Env := ⟨Tryd.prog, Gn, 19, [(14, C_family_Leaves_c1 k)]⟩
theorem c_slices_IndexFunc___api_Branch_api_Branch__Leaves_c1 (k : Nat) : Contract Tryd.prog Gn 21 (C_slices_IndexFunc___api_Branch_api_Branch__Leaves_c1 k) := by
  refine contract_of Gn_stable (fn := Tryd.f21) Tryd.func21 (by kernel_rfl) rfl ?_ ?_
  · intro xs rs h
    unfold C_slices_IndexFunc___api_Branch_api_Branch__Leaves_c1 at h
    simp only at h
    split at h
    · exact ⟨by show 2 ≤ _; rw [Tryd.ntmps21]; decide, rfl, fun _ u hu => by simp at hu; (rcases hu with rfl) <;> rfl⟩
    · exact h.elim
  · intro w0 M xs rs hG h
    unfold C_slices_IndexFunc___api_Branch_api_Branch__Leaves_c1 at h
    simp only at h
    split at h
    case h_2 => exact h.elim
    rename_i s1 f1 rz
    change List ((List UInt8 × Int × List ((List UInt8 × List ((Int × Int × Int × Unit)) × List ((Int × Int × Int × Int × Unit)) × (List ((Int × Int × Int × Int × List (Int) × Unit)) × Unit) × (List ((Int × Int × Int × Int × List (Int) × Unit)) × Unit) × Int × Bool × Unit)) × Unit)) at s1
    change (Int × Unit) at f1
    change Int at rz
    have hE : EnvOK (E_slices_IndexFunc___api_Branch_api_Branch__Leaves_c1 k) ⟨Tryd.prog, Tryd.f21.ntmps, w0, M, fun _ => False, fun _ => undef⟩ := (EnvOK.cons (c_family_Leaves_c1 k) (EnvOK.nil rfl Tryd.ntmps21 hG))
    unfold slices_IndexFunc___api_Branch_api_Branch__Leaves_c1 at h
    refine W_seq (W_region (WL_allC hE [0, 1] [] [] (orc := []) (by kernel_rfl) .n (N_then (W_seq (W_seq (W_region (WL_allI hE (orc := []) (by kernel_rfl) .n (N_then (W_block (W_loop (α := Int) (fun n z => slices_IndexFunc___api_Branch_api_Branch__Leaves_c1_l1 k s1 f1 n z = some rz) (fun t1 => ⟨[(0, .val (.sl (.pair .str (.pair (.int .i64) (.pair (.sl (.pair .str (.pair (.sl (.pair (.int .i32) (.pair (.int .u32) (.pair (.int .u32) .unit)))) (.pair (.sl (.pair (.int .i32) (.pair (.int .i64) (.pair (.int .u32) (.pair (.int .u32) .unit))))) (.pair (.pair (.sl (.pair (.int .u8) (.pair (.int .i32) (.pair (.int .u32) (.pair (.int .u32) (.pair (.sl (.int .i64)) .unit)))))) .unit) (.pair (.pair (.sl (.pair (.int .u8) (.pair (.int .i32) (.pair (.int .u32) (.pair (.int .u32) (.pair (.sl (.int .i64)) .unit)))))) .unit) (.pair (.int .u8) (.pair .bool .unit)))))))) .unit)))) s1), (1, .val (.fn 14 (.pair (.ptr (.int .i64)) .unit)) f1), (7, I64 (List.length s1 : Int)), (8, I64 t1)], [], []⟩) ?_ (k := k) (x := (0 : Int)) h))))))))))
    clear h
    rintro fuel1 t1 h
    cases fuel1 with
    | zero => exact absurd (show none = some _ from h) (by simp)
    | succ fuel1 =>
      have h : slices_IndexFunc___api_Branch_api_Branch__Leaves_c1_b1 k s1 f1 (slices_IndexFunc___api_Branch_api_Branch__Leaves_c1_l1 k s1 f1 fuel1) t1 = some rz := h
      unfold slices_IndexFunc___api_Branch_api_Branch__Leaves_c1_b1 at h
      refine W_seq (W_region (WL_allC hE [0, 1, 7, 8, 9] [] [] (orc := []) (by kernel_rfl) .n (N_then (W_seq (W_cond (b := decide (t1 < (List.length s1 : Int))) (by kernel_rfl) (fun e1 => ?_) (fun e1 => ?_))))))
      · replace h := ite_t e1 h
        refine W_skip (N_then (W_seq (W_block (W_seq (W_region (WL_allC hE [0, 1, 5, 7, 8] [] [] (orc := []) (by kernel_rfl) .n (N_then (W_seq (W_region ?_)))))))))
        obtain ⟨x1, e2, h⟩ := bind_some h
        obtain ⟨v1, e3, h⟩ := bind_some h
        refine WL_allC hE [0, 1, 5, 7, 8, 16] [] [] (orc := [⟨(.pair .str (.pair (.int .i64) (.pair (.sl (.pair .str (.pair (.sl (.pair (.int .i32) (.pair (.int .u32) (.pair (.int .u32) .unit)))) (.pair (.sl (.pair (.int .i32) (.pair (.int .i64) (.pair (.int .u32) (.pair (.int .u32) .unit))))) (.pair (.pair (.sl (.pair (.int .u8) (.pair (.int .i32) (.pair (.int .u32) (.pair (.int .u32) (.pair (.sl (.int .i64)) .unit)))))) .unit) (.pair (.pair (.sl (.pair (.int .u8) (.pair (.int .i32) (.pair (.int .u32) (.pair (.int .u32) (.pair (.sl (.int .i64)) .unit)))))) .unit) (.pair (.int .u8) (.pair .bool .unit)))))))) .unit))), x1⟩, tB v1]) (by kernel_rfl) (.c e2 (.c e3 .n)) (N_then (W_cond (b := v1) (by kernel_rfl) (fun e4 => ?_) (fun e4 => ?_)))
        · replace h := ite_t e4 h
          refine W_seq (W_region (WL_allI hE (st' := ⟨[(4, I64 t1)], [], []⟩) (orc := []) (by kernel_rfl) .n (N_then (W_ret (N_block_ret (N_then_ret (N_then_ret (N_block_ret (N_then_ret ?_)))))))))
          cases h
          exact N_end (.inl rfl) (by kernel_rfl)
        · replace h := ite_f e4 h
          exact W_skip (N_block (N_then (W_region (WL_allI hE (orc := []) (by kernel_rfl) .n (N_round (wi64 (t1 + (1 : Int))) (Nat.lt_succ_self _) h)))))
      · replace h := ite_f e1 h
        refine W_exit (N_then_exit (N_then_exit (N_block_exit (N_then (W_seq (W_region (WL_allC hE [4] [] [] (orc := []) (by kernel_rfl) .n (N_then (W_ret ?_)))))))))
        cases h
        exact N_end (.inl rfl) (by kernel_rfl)

def C_slices_ContainsFunc___api_Branch_api_Branch__Leaves_c1 (k : Nat) : FnC := ⟨true, 1, [], fun | [⟨(.sl (.pair .str (.pair (.int .i64) (.pair (.sl (.pair .str (.pair (.sl (.pair (.int .i32) (.pair (.int .u32) (.pair (.int .u32) .unit)))) (.pair (.sl (.pair (.int .i32) (.pair (.int .i64) (.pair (.int .u32) (.pair (.int .u32) .unit))))) (.pair (.pair (.sl (.pair (.int .u8) (.pair (.int .i32) (.pair (.int .u32) (.pair (.int .u32) (.pair (.sl (.int .i64)) .unit)))))) .unit) (.pair (.pair (.sl (.pair (.int .u8) (.pair (.int .i32) (.pair (.int .u32) (.pair (.int .u32) (.pair (.sl (.int .i64)) .unit)))))) .unit) (.pair (.int .u8) (.pair .bool .unit)))))))) .unit)))), s1⟩, ⟨(.fn 14 (.pair (.ptr (.int .i64)) .unit)), f1⟩], [⟨.bool, rz⟩] => slices_ContainsFunc___api_Branch_api_Branch__Leaves_c1 k s1 f1 = some rz | _, _ => False⟩
noncomputable def E_slices_ContainsFunc___api_Branch_api_Branch__Leaves_c1 (k : Nat) : Env := ⟨Tryd.prog, Gn, 9, [(14, C_family_Leaves_c1 k), (21, C_slices_IndexFunc___api_Branch_api_Branch__Leaves_c1 k)]⟩
theorem c_slices_ContainsFunc___api_Branch_api_Branch__Leaves_c1 (k : Nat) : Contract Tryd.prog Gn 13 (C_slices_ContainsFunc___api_Branch_api_Branch__Leaves_c1 k) := by
  refine contract_of Gn_stable (fn := Tryd.f13) Tryd.func13 (by kernel_rfl) rfl ?_ ?_
  · intro xs rs h
    unfold C_slices_ContainsFunc___api_Branch_api_Branch__Leaves_c1 at h
    simp only at h
    split at h
    · exact ⟨by show 2 ≤ _; rw [Tryd.ntmps13]; decide, rfl, fun _ u hu => by simp at hu; (rcases hu with rfl) <;> rfl⟩
    · exact h.elim
  · intro w0 M xs rs hG h
    unfold C_slices_ContainsFunc___api_Branch_api_Branch__Leaves_c1 at h
    simp only at h
    split at h
    case h_2 => exact h.elim
    rename_i s1 f1 rz
    change List ((List UInt8 × Int × List ((List UInt8 × List ((Int × Int × Int × Unit)) × List ((Int × Int × Int × Int × Unit)) × (List ((Int × Int × Int × Int × List (Int) × Unit)) × Unit) × (List ((Int × Int × Int × Int × List (Int) × Unit)) × Unit) × Int × Bool × Unit)) × Unit)) at s1
    change (Int × Unit) at f1
    change Bool at rz
    have hE : EnvOK (E_slices_ContainsFunc___api_Branch_api_Branch__Leaves_c1 k) ⟨Tryd.prog, Tryd.f13.ntmps, w0, M, fun _ => False, fun _ => undef⟩ := (EnvOK.cons (c_family_Leaves_c1 k) (EnvOK.cons (c_slices_IndexFunc___api_Branch_api_Branch__Leaves_c1 k) (EnvOK.nil rfl Tryd.ntmps13 hG)))
    unfold slices_ContainsFunc___api_Branch_api_Branch__Leaves_c1 at h
    refine W_seq (W_region (WL_allC hE [0, 1] [] [] (orc := []) (by kernel_rfl) .n (N_then (W_seq (W_region ?_)))))
    obtain ⟨v1, e1, h⟩ := bind_some h
    refine WL_allC hE [4] [] [] (orc := [tI64 v1]) (by kernel_rfl) (.c e1 .n) (N_then (W_ret ?_))
    cases h
    exact N_end (.inl rfl) (by kernel_rfl)

def C_family_Leaves (k : Nat) : FnC := ⟨false, 2, [], fun | [⟨(.pair (.pair (.sl .str) (.pair (.sl (.pair (.int .i32) (.pair (.int .u32) (.pair (.int .u32) .unit)))) .unit)) (.pair (.sl (.pair .str (.pair (.int .i64) (.pair (.sl (.pair .str (.pair (.sl (.pair (.int .i32) (.pair (.int .u32) (.pair (.int .u32) .unit)))) (.pair (.sl (.pair (.int .i32) (.pair (.int .i64) (.pair (.int .u32) (.pair (.int .u32) .unit))))) (.pair (.pair (.sl (.pair (.int .u8) (.pair (.int .i32) (.pair (.int .u32) (.pair (.int .u32) (.pair (.sl (.int .i64)) .unit)))))) .unit) (.pair (.pair (.sl (.pair (.int .u8) (.pair (.int .i32) (.pair (.int .u32) (.pair (.int .u32) (.pair (.sl (.int .i64)) .unit)))))) .unit) (.pair (.int .u8) (.pair .bool .unit)))))))) .unit)))) .unit)), f1⟩], [⟨(.sl (.int .i64)), rz1⟩, ⟨(.int .i64), rz2⟩] => family_Leaves k f1 = some (rz1, rz2) | _, _ => False⟩
noncomputable def E_family_Leaves (k : Nat) : Env := ⟨Tryd.prog, Gn, 29, [(11, C_family_asked k), (14, C_family_Leaves_c1 k), (13, C_slices_ContainsFunc___api_Branch_api_Branch__Leaves_c1 k)]⟩
theorem c_family_Leaves (k : Nat) : Contract Tryd.prog Gn 8 (C_family_Leaves k) := by
  refine contract_of Gn_stable (fn := Tryd.f8) Tryd.func8 (by kernel_rfl) rfl ?_ ?_
  · intro xs rs h
    unfold C_family_Leaves at h
    simp only at h
    split at h
    · exact ⟨by show 1 ≤ _; rw [Tryd.ntmps8]; decide, rfl, fun hf => by cases hf⟩
    · exact h.elim
  · intro w0 M xs rs hG h
    unfold C_family_Leaves at h
    simp only at h
    split at h
    case h_2 => exact h.elim
    rename_i f1 rz1 rz2
    change ((List (List UInt8) × List ((Int × Int × Int × Unit)) × Unit) × List ((List UInt8 × Int × List ((List UInt8 × List ((Int × Int × Int × Unit)) × List ((Int × Int × Int × Int × Unit)) × (List ((Int × Int × Int × Int × List (Int) × Unit)) × Unit) × (List ((Int × Int × Int × Int × List (Int) × Unit)) × Unit) × Int × Bool × Unit)) × Unit)) × Unit) at f1
    change List (Int) at rz1
    change Int at rz2
    have hE : EnvOK (E_family_Leaves k) ⟨Tryd.prog, Tryd.f8.ntmps, w0, M, fun _ => False, fun _ => undef⟩ := (EnvOK.cons (c_family_asked k) (EnvOK.cons (c_family_Leaves_c1 k) (EnvOK.cons (c_slices_ContainsFunc___api_Branch_api_Branch__Leaves_c1 k) (EnvOK.nil rfl Tryd.ntmps8 hG))))
    unfold family_Leaves at h
    refine W_seq (W_region (WL_allC hE [1] [1] [] (orc := []) (by kernel_rfl) .n (N_then (W_seq (W_seq (W_region ?_))))))
    obtain ⟨v1, e1, h⟩ := bind_some h
    refine WL_allC hE [1, 4] [1] [] (orc := [tI64 v1]) (by kernel_rfl) (.c e1 .n) (N_then (W_seq (W_region (WL_allC hE [1, 4, 10] [1] [] (orc := []) (by kernel_rfl) .n (N_then (W_cond (b := v1 != (0 : Int)) (by kernel_rfl) (fun e2 => ?_) (fun e2 => ?_)))))))
    · replace h := ite_t e2 h
      refine W_seq (W_region (WL_allI hE (st' := ⟨[(2, .row 2), (3, I64 v1)], [], [(2, ⟨3, (.int .i64), ([] : List (Int))⟩)]⟩) (orc := []) (by kernel_rfl) .n (N_then (W_ret (N_then_ret ?_)))))
      cases h
      exact N_end (.inl rfl) (by kernel_rfl)
    · replace h := ite_f e2 h
      refine W_skip (N_then (W_seq (W_region (WL_allC hE [1, 5] [1] [5] (orc := []) (by kernel_rfl) .n (N_then (W_seq (W_seq (W_region (WL_allI hE (orc := []) (by kernel_rfl) .n (N_then (W_block (W_loop (α := (Int × List (Int))) (fun n z => family_Leaves_l1 k f1 n z.1 z.2 = some (rz1, rz2)) (fun z => ⟨[(1, .ptr 1 0), (5, .row 5), (14, I64 (List.length f1.2.1 : Int)), (15, I64 (z.1))], [(1, .cells [.val (.sl .str) f1.1.1, .val (.sl (.pair (.int .i32) (.pair (.int .u32) (.pair (.int .u32) .unit)))) f1.1.2.1, .val (.sl (.pair .str (.pair (.int .i64) (.pair (.sl (.pair .str (.pair (.sl (.pair (.int .i32) (.pair (.int .u32) (.pair (.int .u32) .unit)))) (.pair (.sl (.pair (.int .i32) (.pair (.int .i64) (.pair (.int .u32) (.pair (.int .u32) .unit))))) (.pair (.pair (.sl (.pair (.int .u8) (.pair (.int .i32) (.pair (.int .u32) (.pair (.int .u32) (.pair (.sl (.int .i64)) .unit)))))) .unit) (.pair (.pair (.sl (.pair (.int .u8) (.pair (.int .i32) (.pair (.int .u32) (.pair (.int .u32) (.pair (.sl (.int .i64)) .unit)))))) .unit) (.pair (.int .u8) (.pair .bool .unit)))))))) .unit)))) f1.2.1] 28)], [(5, ⟨3, (.int .i64), (z.2)⟩)]⟩) ?_ (k := k) (x := ((0 : Int), ([] : List (Int)))) h))))))))))))
      clear h
      rintro fuel1 ⟨t1, out1⟩ h
      cases fuel1 with
      | zero => exact absurd (show none = some _ from h) (by simp)
      | succ fuel1 =>
        have h : family_Leaves_b1 k f1 (family_Leaves_l1 k f1 fuel1) t1 out1 = some (rz1, rz2) := h
        unfold family_Leaves_b1 at h
        refine W_seq (W_region (WL_allC hE [1, 5, 14, 15, 16] [1] [5] (orc := []) (by kernel_rfl) .n (N_then (W_seq (W_cond (b := decide (t1 < (List.length f1.2.1 : Int))) (by kernel_rfl) (fun e3 => ?_) (fun e3 => ?_))))))
        · replace h := ite_t e3 h
          refine W_skip (N_then (W_join (α := List (Int)) (fun z => family_Leaves_j1 (family_Leaves_l1 k f1 fuel1) t1 z = some (rz1, rz2)) (fun out2 => ⟨[(1, .ptr 1 0), (5, .row 5), (14, I64 (List.length f1.2.1 : Int)), (15, I64 t1)], [(1, .cells [.val (.sl .str) f1.1.1, .val (.sl (.pair (.int .i32) (.pair (.int .u32) (.pair (.int .u32) .unit)))) f1.1.2.1, .val (.sl (.pair .str (.pair (.int .i64) (.pair (.sl (.pair .str (.pair (.sl (.pair (.int .i32) (.pair (.int .u32) (.pair (.int .u32) .unit)))) (.pair (.sl (.pair (.int .i32) (.pair (.int .i64) (.pair (.int .u32) (.pair (.int .u32) .unit))))) (.pair (.pair (.sl (.pair (.int .u8) (.pair (.int .i32) (.pair (.int .u32) (.pair (.int .u32) (.pair (.sl (.int .i64)) .unit)))))) .unit) (.pair (.pair (.sl (.pair (.int .u8) (.pair (.int .i32) (.pair (.int .u32) (.pair (.int .u32) (.pair (.sl (.int .i64)) .unit)))))) .unit) (.pair (.int .u8) (.pair .bool .unit)))))))) .unit)))) f1.2.1] 28)], [(5, ⟨3, (.int .i64), out2⟩)]⟩) ?_ (fun hJ1 => ?_)))
          · rintro out2 h
            unfold family_Leaves_j1 at h
            exact W_region (WL_allI hE (orc := []) (by kernel_rfl) .n (N_round (wi64 (t1 + (1 : Int)), out2) (Nat.lt_succ_self _) h))
          refine W_block (W_seq (W_region (WL_allC hE [1, 5, 6, 14, 15] [1, 6] [5] (orc := []) (by kernel_rfl) .n (N_then (W_seq (W_region ?_))))))
          obtain ⟨v2, e4, h⟩ := bind_some h
          refine WL_allC hE [1, 5, 6, 14, 15, 22] [1, 6] [5] (orc := [tB v2]) (by kernel_rfl) (.c e4 .n) (N_then (W_cond (b := !v2) (by kernel_rfl) (fun e5 => ?_) (fun e5 => ?_)))
          · replace h := ite_t e5 h
            refine W_region ?_
            obtain ⟨_, e6, h⟩ := bind_some h
            replace e6 := chk_some e6
            exact WL_allI hE (orc := []) (by kernel_rfl) (.c e6 .n) (N_block (hJ1 (out1 ++ ([t1] : List (Int))) h))
          · replace h := ite_f e5 h
            exact W_skip (N_block (N_normI (by kernel_rfl) (hJ1 out1 h)))
        · replace h := ite_f e3 h
          refine W_exit (N_then_exit (N_then_exit (N_block_exit (N_then (W_seq (W_region (WL_allC hE [2, 3] [] [5] (orc := []) (by kernel_rfl) .n (N_then (W_ret ?_)))))))))
          cases h
          exact N_end (.inl rfl) (by kernel_rfl)

def C_l27_FamilyPaths (k : Nat) : FnC := ⟨true, 1, [], fun | [⟨(.pair (.pair (.sl .str) (.pair (.sl (.pair (.int .i32) (.pair (.int .u32) (.pair (.int .u32) .unit)))) .unit)) (.pair (.sl (.pair .str (.pair (.int .i64) (.pair (.sl (.pair .str (.pair (.sl (.pair (.int .i32) (.pair (.int .u32) (.pair (.int .u32) .unit)))) (.pair (.sl (.pair (.int .i32) (.pair (.int .i64) (.pair (.int .u32) (.pair (.int .u32) .unit))))) (.pair (.pair (.sl (.pair (.int .u8) (.pair (.int .i32) (.pair (.int .u32) (.pair (.int .u32) (.pair (.sl (.int .i64)) .unit)))))) .unit) (.pair (.pair (.sl (.pair (.int .u8) (.pair (.int .i32) (.pair (.int .u32) (.pair (.int .u32) (.pair (.sl (.int .i64)) .unit)))))) .unit) (.pair (.int .u8) (.pair .bool .unit)))))))) .unit)))) .unit)), f1⟩, ⟨(.int .i64), x1⟩, ⟨(.int .i64), y1⟩], [⟨.bool, rz⟩] => l27_FamilyPaths k f1 x1 y1 = some rz | _, _ => False⟩
noncomputable def E_l27_FamilyPaths (k : Nat) : Env := ⟨Tryd.prog, Gn, 256, [(4, C_l27_awake k), (5, C_l27_large k), (6, C_family_Path k), (7, C_family_Near k), (8, C_family_Leaves k), (9, C_family_Text k)]⟩
theorem c_l27_FamilyPaths (k : Nat) : Contract Tryd.prog Gn 3 (C_l27_FamilyPaths k) := by
  refine contract_of Gn_stable (fn := Tryd.f3) Tryd.func3 (by kernel_rfl) rfl ?_ ?_
  · intro xs rs h
    unfold C_l27_FamilyPaths at h
    simp only at h
    split at h
    · exact ⟨by show 3 ≤ _; rw [Tryd.ntmps3]; decide, rfl, fun _ u hu => by simp at hu; (rcases hu with rfl) <;> rfl⟩
    · exact h.elim
  · intro w0 M xs rs hG h
    unfold C_l27_FamilyPaths at h
    simp only at h
    split at h
    case h_2 => exact h.elim
    rename_i f1 x1 y1 rz
    change ((List (List UInt8) × List ((Int × Int × Int × Unit)) × Unit) × List ((List UInt8 × Int × List ((List UInt8 × List ((Int × Int × Int × Unit)) × List ((Int × Int × Int × Int × Unit)) × (List ((Int × Int × Int × Int × List (Int) × Unit)) × Unit) × (List ((Int × Int × Int × Int × List (Int) × Unit)) × Unit) × Int × Bool × Unit)) × Unit)) × Unit) at f1
    change Int at x1
    change Int at y1
    change Bool at rz
    have hE : EnvOK (E_l27_FamilyPaths k) ⟨Tryd.prog, Tryd.f3.ntmps, w0, M, fun _ => False, fun _ => undef⟩ := (EnvOK.cons (c_l27_awake k) (EnvOK.cons (c_l27_large k) (EnvOK.cons (c_family_Path k) (EnvOK.cons (c_family_Near k) (EnvOK.cons (c_family_Leaves k) (EnvOK.cons (c_family_Text k) (EnvOK.nil rfl Tryd.ntmps3 hG)))))))
    unfold l27_FamilyPaths at h
    refine W_seq (W_region (WL_allC hE [1, 2, 3] [3] [] (orc := []) (by kernel_rfl) .n (N_then (W_seq (W_region ?_)))))
    obtain ⟨v1, e1, h⟩ := bind_some h
    refine WL_allC hE [1, 2, 3, 7] [3] [] (orc := [tB v1]) (by kernel_rfl) (.c e1 .n) (N_then (W_seq (W_seq (W_region (WL_allC hE [1, 2, 3, 30] [3] [] (orc := []) (by kernel_rfl) .n (N_then (W_cond (b := !v1) (by kernel_rfl) (fun e2 => ?_) (fun e2 => ?_))))))))
    · replace h := ite_t e2 h
      refine W_seq (W_region (WL_allI hE (st' := ⟨[(6, BB false)], [], []⟩) (orc := []) (by kernel_rfl) .n (N_then (W_ret (N_then_ret ?_)))))
      cases h
      exact N_end (.inl rfl) (by kernel_rfl)
    · replace h := ite_f e2 h
      refine W_skip (N_then (W_seq (W_seq (W_region ?_))))
      obtain ⟨v2, e3, h⟩ := bind_some h
      refine WL_allC hE [1, 2, 3, 32] [3] [] (orc := [tB v2]) (by kernel_rfl) (.c e3 .n) (N_then (W_cond (b := v2) (by kernel_rfl) (fun e4 => ?_) (fun e4 => ?_)))
      · replace h := ite_t e4 h
        refine W_seq (W_region (WL_allC hE [6] [] [] (orc := []) (by kernel_rfl) .n (N_then (W_ret (N_then_ret ?_)))))
        cases h
        exact N_end (.inl rfl) (by kernel_rfl)
      · replace h := ite_f e4 h
        refine W_skip (N_then (W_seq (W_region ?_)))
        obtain ⟨v3, e5, h⟩ := bind_some h
        refine WL_allC hE [1, 2, 3, 8, 9] [3] [] (orc := [⟨(.sl (.int .i64)), v3.1⟩, tI64 v3.2]) (by kernel_rfl) (.c e5 .n) (N_then (W_seq (W_region ?_)))
        obtain ⟨v4, e6, h⟩ := bind_some h
        refine WL_allI hE (st' := ⟨[(1, I64 x1), (2, I64 y1), (3, .ptr 3 0), (8, .val (.sl (.int .i64)) v3.1), (9, I64 v3.2), (10, .val (.sl (.int .i64)) v4.1), (11, I64 v4.2)], [(3, .cells [.val (.sl .str) f1.1.1, .val (.sl (.pair (.int .i32) (.pair (.int .u32) (.pair (.int .u32) .unit)))) f1.1.2.1, .val (.sl (.pair .str (.pair (.int .i64) (.pair (.sl (.pair .str (.pair (.sl (.pair (.int .i32) (.pair (.int .u32) (.pair (.int .u32) .unit)))) (.pair (.sl (.pair (.int .i32) (.pair (.int .i64) (.pair (.int .u32) (.pair (.int .u32) .unit))))) (.pair (.pair (.sl (.pair (.int .u8) (.pair (.int .i32) (.pair (.int .u32) (.pair (.int .u32) (.pair (.sl (.int .i64)) .unit)))))) .unit) (.pair (.pair (.sl (.pair (.int .u8) (.pair (.int .i32) (.pair (.int .u32) (.pair (.int .u32) (.pair (.sl (.int .i64)) .unit)))))) .unit) (.pair (.int .u8) (.pair .bool .unit)))))))) .unit)))) f1.2.1] 28)], []⟩) (orc := [⟨(.sl (.int .i64)), v4.1⟩, tI64 v4.2]) (by kernel_rfl) (.c e6 .n) (N_then (W_seq (W_region ?_)))
        obtain ⟨v5, e7, h⟩ := bind_some h
        refine WL_allC hE [1, 2, 3, 8, 9, 10, 11, 12, 13] [3] [] (orc := [tI64 v5.1, tI64 v5.2]) (by kernel_rfl) (.c e7 .n) (N_then (W_seq (W_region ?_)))
        obtain ⟨v6, e8, h⟩ := bind_some h
        refine WL_allC hE [1, 2, 3, 8, 9, 10, 11, 12, 13, 14, 15] [3] [] (orc := [tI64 v6.1, tI64 v6.2]) (by kernel_rfl) (.c e8 .n) (N_then (W_seq (W_seq (W_region (WL_tkC hE 3 [1, 2, 3, 8, 10, 11, 12, 13, 14, 15, 61] [3] [] (orc := []) (by kernel_rfl) .n (WL_join (α := Bool) (fun z => l27_FamilyPaths_j1 k v6 v5 v3 f1 v4 x1 y1 z = some rz) (fun t1 => ⟨[(1, I64 x1), (2, I64 y1), (3, .ptr 3 0), (8, .val (.sl (.int .i64)) v3.1), (10, .val (.sl (.int .i64)) v4.1), (12, I64 v5.1), (13, I64 v5.2), (14, I64 v6.1), (15, I64 v6.2), (64, BB t1)], [(3, .cells [.val (.sl .str) f1.1.1, .val (.sl (.pair (.int .i32) (.pair (.int .u32) (.pair (.int .u32) .unit)))) f1.1.2.1, .val (.sl (.pair .str (.pair (.int .i64) (.pair (.sl (.pair .str (.pair (.sl (.pair (.int .i32) (.pair (.int .u32) (.pair (.int .u32) .unit)))) (.pair (.sl (.pair (.int .i32) (.pair (.int .i64) (.pair (.int .u32) (.pair (.int .u32) .unit))))) (.pair (.pair (.sl (.pair (.int .u8) (.pair (.int .i32) (.pair (.int .u32) (.pair (.int .u32) (.pair (.sl (.int .i64)) .unit)))))) .unit) (.pair (.pair (.sl (.pair (.int .u8) (.pair (.int .i32) (.pair (.int .u32) (.pair (.int .u32) (.pair (.sl (.int .i64)) .unit)))))) .unit) (.pair (.int .u8) (.pair .bool .unit)))))))) .unit)))) f1.2.1] 28)], []⟩) 3 ?_ (fun hJ1 => ?_)))))))
        · rintro t1 h
          unfold l27_FamilyPaths_j1 at h
          refine WL_nil (N_then (W_cond (b := t1) (by kernel_rfl) (fun e9 => ?_) (fun e9 => ?_)))
          · replace h := ite_t e9 h
            refine W_seq (W_region (WL_tkC hE 3 [12, 14, 15, 67] [] [] (orc := []) (by kernel_rfl) .n (WL_join (α := Bool) (fun z => l27_FamilyPaths_j2 v6 v5 z = some rz) (fun t2 => ⟨[(12, I64 v5.1), (14, I64 v6.1), (70, BB t2)], [], []⟩) 3 ?_ (fun hJ2 => ?_))))
            · rintro t2 h
              unfold l27_FamilyPaths_j2 at h
              refine WL_tkC hE 1 [12, 14, 71] [] [] (orc := []) (by kernel_rfl) .n (WL_join (α := Bool) (fun z => l27_FamilyPaths_j3 v6 z = some rz) (fun t3 => ⟨[(14, I64 v6.1), (74, BB t3)], [], []⟩) 3 ?_ (fun hJ3 => ?_))
              · rintro t3 h
                unfold l27_FamilyPaths_j3 at h
                refine WL_tkC hE 1 [14, 75] [] [] (orc := []) (by kernel_rfl) .n (WL_join (α := Bool) (fun z => l27_FamilyPaths_j4 z = some rz) (fun t4 => ⟨[(78, BB t4)], [], []⟩) 3 ?_ (fun hJ4 => ?_))
                · rintro t4 h
                  unfold l27_FamilyPaths_j4 at h
                  refine WL_allC hE [6] [] [] (orc := []) (by kernel_rfl) .n (N_then (W_ret (N_then_ret ?_)))
                  cases h
                  exact N_end (.inl rfl) (by kernel_rfl)
                refine WL_splitC 75 (b := t3) (by kernel_rfl) (fun e10 => ?_) (fun e10 => ?_)
                · rw [and_t e10] at h
                  exact WL_allI hE (orc := []) (by kernel_rfl) .n (hJ4 (v6.1 == (0 : Int)) h)
                · rw [and_f e10] at h
                  exact WL_allI hE (orc := []) (by kernel_rfl) .n (hJ4 false h)
              refine WL_splitC 71 (b := t2) (by kernel_rfl) (fun e11 => ?_) (fun e11 => ?_)
              · rw [and_t e11] at h
                exact WL_allI hE (orc := []) (by kernel_rfl) .n (hJ3 (v5.1 == (0 : Int)) h)
              · rw [and_f e11] at h
                exact WL_allI hE (orc := []) (by kernel_rfl) .n (hJ3 false h)
            refine WL_splitC 67 (b := v5.2 != (0 : Int)) (by kernel_rfl) (fun e12 => ?_) (fun e12 => ?_)
            · rw [and_t e12] at h
              exact WL_allI hE (orc := []) (by kernel_rfl) .n (hJ2 (v6.2 != (0 : Int)) h)
            · rw [and_f e12] at h
              exact WL_allI hE (orc := []) (by kernel_rfl) .n (hJ2 false h)
          · replace h := ite_f e9 h
            refine W_skip (N_then (W_seq (W_seq (W_region (WL_tkC hE 3 [1, 2, 3, 8, 10, 12, 14, 15, 81] [3] [] (orc := []) (by kernel_rfl) .n (WL_join (α := Bool) (fun z => l27_FamilyPaths_j5 k v3 f1 v4 v5 x1 y1 v6 z = some rz) (fun t5 => ⟨[(1, I64 x1), (2, I64 y1), (3, .ptr 3 0), (8, .val (.sl (.int .i64)) v3.1), (10, .val (.sl (.int .i64)) v4.1), (12, I64 v5.1), (14, I64 v6.1), (84, BB t5)], [(3, .cells [.val (.sl .str) f1.1.1, .val (.sl (.pair (.int .i32) (.pair (.int .u32) (.pair (.int .u32) .unit)))) f1.1.2.1, .val (.sl (.pair .str (.pair (.int .i64) (.pair (.sl (.pair .str (.pair (.sl (.pair (.int .i32) (.pair (.int .u32) (.pair (.int .u32) .unit)))) (.pair (.sl (.pair (.int .i32) (.pair (.int .i64) (.pair (.int .u32) (.pair (.int .u32) .unit))))) (.pair (.pair (.sl (.pair (.int .u8) (.pair (.int .i32) (.pair (.int .u32) (.pair (.int .u32) (.pair (.sl (.int .i64)) .unit)))))) .unit) (.pair (.pair (.sl (.pair (.int .u8) (.pair (.int .i32) (.pair (.int .u32) (.pair (.int .u32) (.pair (.sl (.int .i64)) .unit)))))) .unit) (.pair (.int .u8) (.pair .bool .unit)))))))) .unit)))) f1.2.1] 28)], []⟩) 3 ?_ (fun hJ5 => ?_)))))))
            · rintro t5 h
              unfold l27_FamilyPaths_j5 at h
              refine WL_tkC hE 1 [1, 2, 3, 8, 10, 12, 14, 85] [3] [] (orc := []) (by kernel_rfl) .n (WL_join (α := Bool) (fun z => l27_FamilyPaths_j6 k v3 f1 v4 v5 x1 y1 z = some rz) (fun t6 => ⟨[(1, I64 x1), (2, I64 y1), (3, .ptr 3 0), (8, .val (.sl (.int .i64)) v3.1), (10, .val (.sl (.int .i64)) v4.1), (12, I64 v5.1), (89, BB t6)], [(3, .cells [.val (.sl .str) f1.1.1, .val (.sl (.pair (.int .i32) (.pair (.int .u32) (.pair (.int .u32) .unit)))) f1.1.2.1, .val (.sl (.pair .str (.pair (.int .i64) (.pair (.sl (.pair .str (.pair (.sl (.pair (.int .i32) (.pair (.int .u32) (.pair (.int .u32) .unit)))) (.pair (.sl (.pair (.int .i32) (.pair (.int .i64) (.pair (.int .u32) (.pair (.int .u32) .unit))))) (.pair (.pair (.sl (.pair (.int .u8) (.pair (.int .i32) (.pair (.int .u32) (.pair (.int .u32) (.pair (.sl (.int .i64)) .unit)))))) .unit) (.pair (.pair (.sl (.pair (.int .u8) (.pair (.int .i32) (.pair (.int .u32) (.pair (.int .u32) (.pair (.sl (.int .i64)) .unit)))))) .unit) (.pair (.int .u8) (.pair .bool .unit)))))))) .unit)))) f1.2.1] 28)], []⟩) 4 ?_ (fun hJ6 => ?_))
              · rintro t6 h
                unfold l27_FamilyPaths_j6 at h
                refine WL_tkC hE 1 [1, 2, 3, 8, 10, 12, 90] [3] [] (orc := []) (by kernel_rfl) .n (WL_join (α := Bool) (fun z => l27_FamilyPaths_j7 k v3 f1 v4 v5 x1 y1 z = some rz) (fun t7 => ⟨[(1, I64 x1), (2, I64 y1), (3, .ptr 3 0), (8, .val (.sl (.int .i64)) v3.1), (10, .val (.sl (.int .i64)) v4.1), (12, I64 v5.1), (94, BB t7)], [(3, .cells [.val (.sl .str) f1.1.1, .val (.sl (.pair (.int .i32) (.pair (.int .u32) (.pair (.int .u32) .unit)))) f1.1.2.1, .val (.sl (.pair .str (.pair (.int .i64) (.pair (.sl (.pair .str (.pair (.sl (.pair (.int .i32) (.pair (.int .u32) (.pair (.int .u32) .unit)))) (.pair (.sl (.pair (.int .i32) (.pair (.int .i64) (.pair (.int .u32) (.pair (.int .u32) .unit))))) (.pair (.pair (.sl (.pair (.int .u8) (.pair (.int .i32) (.pair (.int .u32) (.pair (.int .u32) (.pair (.sl (.int .i64)) .unit)))))) .unit) (.pair (.pair (.sl (.pair (.int .u8) (.pair (.int .i32) (.pair (.int .u32) (.pair (.int .u32) (.pair (.sl (.int .i64)) .unit)))))) .unit) (.pair (.int .u8) (.pair .bool .unit)))))))) .unit)))) f1.2.1] 28)], []⟩) 4 ?_ (fun hJ7 => ?_))
                · rintro t7 h
                  unfold l27_FamilyPaths_j7 at h
                  refine WL_tkC hE 1 [1, 2, 3, 8, 10, 12, 95] [3] [] (orc := []) (by kernel_rfl) .n (WL_join (α := Bool) (fun z => l27_FamilyPaths_j8 k v3 f1 v4 v5 x1 y1 z = some rz) (fun t8 => ⟨[(1, I64 x1), (2, I64 y1), (3, .ptr 3 0), (8, .val (.sl (.int .i64)) v3.1), (10, .val (.sl (.int .i64)) v4.1), (12, I64 v5.1), (100, BB t8)], [(3, .cells [.val (.sl .str) f1.1.1, .val (.sl (.pair (.int .i32) (.pair (.int .u32) (.pair (.int .u32) .unit)))) f1.1.2.1, .val (.sl (.pair .str (.pair (.int .i64) (.pair (.sl (.pair .str (.pair (.sl (.pair (.int .i32) (.pair (.int .u32) (.pair (.int .u32) .unit)))) (.pair (.sl (.pair (.int .i32) (.pair (.int .i64) (.pair (.int .u32) (.pair (.int .u32) .unit))))) (.pair (.pair (.sl (.pair (.int .u8) (.pair (.int .i32) (.pair (.int .u32) (.pair (.int .u32) (.pair (.sl (.int .i64)) .unit)))))) .unit) (.pair (.pair (.sl (.pair (.int .u8) (.pair (.int .i32) (.pair (.int .u32) (.pair (.int .u32) (.pair (.sl (.int .i64)) .unit)))))) .unit) (.pair (.int .u8) (.pair .bool .unit)))))))) .unit)))) f1.2.1] 28)], []⟩) 5 ?_ (fun hJ8 => ?_))
                  · rintro t8 h
                    unfold l27_FamilyPaths_j8 at h
                    refine WL_tkC hE 1 [1, 2, 3, 8, 10, 12, 101] [3] [] (orc := []) (by kernel_rfl) .n (WL_join (α := Bool) (fun z => l27_FamilyPaths_j9 k v3 f1 v4 v5 x1 y1 z = some rz) (fun t9 => ⟨[(1, I64 x1), (2, I64 y1), (3, .ptr 3 0), (8, .val (.sl (.int .i64)) v3.1), (10, .val (.sl (.int .i64)) v4.1), (12, I64 v5.1), (110, BB t9)], [(3, .cells [.val (.sl .str) f1.1.1, .val (.sl (.pair (.int .i32) (.pair (.int .u32) (.pair (.int .u32) .unit)))) f1.1.2.1, .val (.sl (.pair .str (.pair (.int .i64) (.pair (.sl (.pair .str (.pair (.sl (.pair (.int .i32) (.pair (.int .u32) (.pair (.int .u32) .unit)))) (.pair (.sl (.pair (.int .i32) (.pair (.int .i64) (.pair (.int .u32) (.pair (.int .u32) .unit))))) (.pair (.pair (.sl (.pair (.int .u8) (.pair (.int .i32) (.pair (.int .u32) (.pair (.int .u32) (.pair (.sl (.int .i64)) .unit)))))) .unit) (.pair (.pair (.sl (.pair (.int .u8) (.pair (.int .i32) (.pair (.int .u32) (.pair (.int .u32) (.pair (.sl (.int .i64)) .unit)))))) .unit) (.pair (.int .u8) (.pair .bool .unit)))))))) .unit)))) f1.2.1] 28)], []⟩) 9 ?_ (fun hJ9 => ?_))
                    · rintro t9 h
                      unfold l27_FamilyPaths_j9 at h
                      refine WL_nil (N_then (W_cond (b := t9) (by kernel_rfl) (fun e13 => ?_) (fun e13 => ?_)))
                      · replace h := ite_t e13 h
                        refine W_seq (W_region (WL_allC hE [6] [] [] (orc := []) (by kernel_rfl) .n (N_then (W_ret (N_then_ret ?_)))))
                        cases h
                        exact N_end (.inl rfl) (by kernel_rfl)
                      · replace h := ite_f e13 h
                        refine W_skip (N_then (W_seq (W_seq (W_region (WL_allI hE (orc := []) (by kernel_rfl) .n (N_then (W_block (W_loop (α := Int) (fun n z => l27_FamilyPaths_l1 k v3 f1 v4 v5 x1 y1 n z = some rz) (fun k1 => ⟨[(1, I64 x1), (2, I64 y1), (3, .ptr 3 0), (8, .val (.sl (.int .i64)) v3.1), (10, .val (.sl (.int .i64)) v4.1), (12, I64 v5.1), (16, I64 k1)], [(3, .cells [.val (.sl .str) f1.1.1, .val (.sl (.pair (.int .i32) (.pair (.int .u32) (.pair (.int .u32) .unit)))) f1.1.2.1, .val (.sl (.pair .str (.pair (.int .i64) (.pair (.sl (.pair .str (.pair (.sl (.pair (.int .i32) (.pair (.int .u32) (.pair (.int .u32) .unit)))) (.pair (.sl (.pair (.int .i32) (.pair (.int .i64) (.pair (.int .u32) (.pair (.int .u32) .unit))))) (.pair (.pair (.sl (.pair (.int .u8) (.pair (.int .i32) (.pair (.int .u32) (.pair (.int .u32) (.pair (.sl (.int .i64)) .unit)))))) .unit) (.pair (.pair (.sl (.pair (.int .u8) (.pair (.int .i32) (.pair (.int .u32) (.pair (.int .u32) (.pair (.sl (.int .i64)) .unit)))))) .unit) (.pair (.int .u8) (.pair .bool .unit)))))))) .unit)))) f1.2.1] 28)], []⟩) ?_ (k := k) (x := (1 : Int)) h))))))))
                        clear h
                        rintro fuel1 k1 h
                        cases fuel1 with
                        | zero => exact absurd (show none = some _ from h) (by simp)
                        | succ fuel1 =>
                          have h : l27_FamilyPaths_b1 k v3 f1 v4 v5 x1 y1 (l27_FamilyPaths_l1 k v3 f1 v4 v5 x1 y1 fuel1) k1 = some rz := h
                          unfold l27_FamilyPaths_b1 at h
                          refine W_seq (W_seq (W_region (WL_allC hE [1, 2, 3, 8, 10, 12, 16, 114] [3] [] (orc := []) (by kernel_rfl) .n (N_then (W_cond (b := decide (k1 < (List.length v3.1 : Int))) (by kernel_rfl) (fun e14 => ?_) (fun e14 => ?_))))))
                          · replace h := ite_t e14 h
                            refine W_skip (N_then (W_seq (W_block (W_seq (W_draw hE (by kernel_rfl) (by kernel_rfl) ?_)))))
                            obtain ⟨x2, e15, h⟩ := bind_some h
                            obtain ⟨x3, e16, h⟩ := bind_some h
                            refine WD_tkC hE 11 [1, 2, 3, 8, 10, 12, 16, 127] [3] [] (orc := [tI64 x2, tI64 x3]) (by kernel_rfl) (.c e15 (.c e16 .n)) (WD_join (α := Bool) (fun z => l27_FamilyPaths_j10 (l27_FamilyPaths_l1 k v3 f1 v4 v5 x1 y1 fuel1) k1 v3 f1 z = some rz) (fun t10 => ⟨[(1, I64 x1), (2, I64 y1), (3, .ptr 3 0), (8, .val (.sl (.int .i64)) v3.1), (10, .val (.sl (.int .i64)) v4.1), (12, I64 v5.1), (16, I64 k1), (136, BB t10)], [(3, .cells [.val (.sl .str) f1.1.1, .val (.sl (.pair (.int .i32) (.pair (.int .u32) (.pair (.int .u32) .unit)))) f1.1.2.1, .val (.sl (.pair .str (.pair (.int .i64) (.pair (.sl (.pair .str (.pair (.sl (.pair (.int .i32) (.pair (.int .u32) (.pair (.int .u32) .unit)))) (.pair (.sl (.pair (.int .i32) (.pair (.int .i64) (.pair (.int .u32) (.pair (.int .u32) .unit))))) (.pair (.pair (.sl (.pair (.int .u8) (.pair (.int .i32) (.pair (.int .u32) (.pair (.int .u32) (.pair (.sl (.int .i64)) .unit)))))) .unit) (.pair (.pair (.sl (.pair (.int .u8) (.pair (.int .i32) (.pair (.int .u32) (.pair (.int .u32) (.pair (.sl (.int .i64)) .unit)))))) .unit) (.pair (.int .u8) (.pair .bool .unit)))))))) .unit)))) f1.2.1] 28)], []⟩) 9 ?_ (fun KK hJ10 => ?_))
                            · rintro t10 h
                              unfold l27_FamilyPaths_j10 at h
                              refine WD_tkC hE 1 [1, 2, 3, 8, 10, 12, 16, 137] [3] [] (orc := []) (by kernel_rfl) .n (WD_join (α := Bool) (fun z => l27_FamilyPaths_j11 (l27_FamilyPaths_l1 k v3 f1 v4 v5 x1 y1 fuel1) k1 z = some rz) (fun t11 => ⟨[(1, I64 x1), (2, I64 y1), (3, .ptr 3 0), (8, .val (.sl (.int .i64)) v3.1), (10, .val (.sl (.int .i64)) v4.1), (12, I64 v5.1), (16, I64 k1), (153, BB t11)], [(3, .cells [.val (.sl .str) f1.1.1, .val (.sl (.pair (.int .i32) (.pair (.int .u32) (.pair (.int .u32) .unit)))) f1.1.2.1, .val (.sl (.pair .str (.pair (.int .i64) (.pair (.sl (.pair .str (.pair (.sl (.pair (.int .i32) (.pair (.int .u32) (.pair (.int .u32) .unit)))) (.pair (.sl (.pair (.int .i32) (.pair (.int .i64) (.pair (.int .u32) (.pair (.int .u32) .unit))))) (.pair (.pair (.sl (.pair (.int .u8) (.pair (.int .i32) (.pair (.int .u32) (.pair (.int .u32) (.pair (.sl (.int .i64)) .unit)))))) .unit) (.pair (.pair (.sl (.pair (.int .u8) (.pair (.int .i32) (.pair (.int .u32) (.pair (.int .u32) (.pair (.sl (.int .i64)) .unit)))))) .unit) (.pair (.int .u8) (.pair .bool .unit)))))))) .unit)))) f1.2.1] 28)], []⟩) 16 ?_ (fun KK hJ11 => ?_))
                              · rintro t11 h
                                unfold l27_FamilyPaths_j11 at h
                                refine WD_nil (N_then (W_cond (b := t11) (by kernel_rfl) (fun e17 => ?_) (fun e17 => ?_)))
                                · replace h := ite_t e17 h
                                  refine W_seq (W_region (WL_allC hE [6] [] [] (orc := []) (by kernel_rfl) .n (N_then (W_ret (N_block_ret (N_then_ret (N_then_ret (N_block_ret (N_then_ret ?_)))))))))
                                  cases h
                                  exact N_end (.inl rfl) (by kernel_rfl)
                                · replace h := ite_f e17 h
                                  exact W_skip (N_block (N_then (W_region (WL_allI hE (orc := []) (by kernel_rfl) .n (N_round (wi64 (k1 + (1 : Int))) (Nat.lt_succ_self _) h)))))
                              refine WDK_splitC 137 (b := t10) (by kernel_rfl) (fun e18 => ?_) (fun e18 => ?_)
                              · replace h := ite_t e18 h
                                exact WDK_allI hE (orc := []) (by kernel_rfl) .n (hJ11 true h)
                              · replace h := ite_f e18 h
                                obtain ⟨x4, e19, h⟩ := bind_some h
                                obtain ⟨x5, e20, h⟩ := bind_some h
                                obtain ⟨x6, e21, h⟩ := bind_some h
                                exact WDK_allI hE (orc := [tI64 x4, ⟨(.pair .str (.pair (.int .i64) (.pair (.sl (.pair .str (.pair (.sl (.pair (.int .i32) (.pair (.int .u32) (.pair (.int .u32) .unit)))) (.pair (.sl (.pair (.int .i32) (.pair (.int .i64) (.pair (.int .u32) (.pair (.int .u32) .unit))))) (.pair (.pair (.sl (.pair (.int .u8) (.pair (.int .i32) (.pair (.int .u32) (.pair (.int .u32) (.pair (.sl (.int .i64)) .unit)))))) .unit) (.pair (.pair (.sl (.pair (.int .u8) (.pair (.int .i32) (.pair (.int .u32) (.pair (.int .u32) (.pair (.sl (.int .i64)) .unit)))))) .unit) (.pair (.int .u8) (.pair .bool .unit)))))))) .unit))), x5⟩, tI64 x6]) (by kernel_rfl) (.c e19 (.c e20 (.c e21 .n))) (hJ11 (x5.2.1 != x6) h)
                            refine WDK_splitC 127 (b := decide (x2 ≤ x3)) (by kernel_rfl) (fun e22 => ?_) (fun e22 => ?_)
                            · rw [or_t e22] at h
                              exact WDK_allI hE (orc := []) (by kernel_rfl) .n (hJ10 true h)
                            · rw [or_f e22] at h
                              exact WDK_allI hE (orc := [tI64 x2]) (by kernel_rfl) (.c e15 .n) (hJ10 (decide ((List.length f1.2.1 : Int) ≤ x2)) h)
                          · replace h := ite_f e14 h
                            refine W_exit (N_then_exit (N_then_exit (N_block_exit (N_then (W_seq (W_region (WL_allC hE [1, 2, 3, 8, 10, 12, 17] [3] [] (orc := []) (by kernel_rfl) .n (N_then (W_seq (W_seq (W_region (WL_allI hE (orc := []) (by kernel_rfl) .n (N_then (W_block (W_loop (α := (Int × Int × List (List UInt8) × List ((Int × Int × Int × Unit)) × List ((List UInt8 × Int × List ((List UInt8 × List ((Int × Int × Int × Unit)) × List ((Int × Int × Int × Int × Unit)) × (List ((Int × Int × Int × Int × List (Int) × Unit)) × Unit) × (List ((Int × Int × Int × Int × List (Int) × Unit)) × Unit) × Int × Bool × Unit)) × Unit)))) (fun n z => l27_FamilyPaths_l2 k v3 v4 v5 x1 y1 n z.1 z.2.1 z.2.2.1 z.2.2.2.1 z.2.2.2.2 = some rz) (fun z => ⟨[(1, I64 x1), (2, I64 y1), (3, .ptr 3 0), (8, .val (.sl (.int .i64)) v3.1), (10, .val (.sl (.int .i64)) v4.1), (12, I64 v5.1), (17, I64 (z.1)), (18, I64 (z.2.1))], [(3, .cells [.val (.sl .str) (z.2.2.1), .val (.sl (.pair (.int .i32) (.pair (.int .u32) (.pair (.int .u32) .unit)))) (z.2.2.2.1), .val (.sl (.pair .str (.pair (.int .i64) (.pair (.sl (.pair .str (.pair (.sl (.pair (.int .i32) (.pair (.int .u32) (.pair (.int .u32) .unit)))) (.pair (.sl (.pair (.int .i32) (.pair (.int .i64) (.pair (.int .u32) (.pair (.int .u32) .unit))))) (.pair (.pair (.sl (.pair (.int .u8) (.pair (.int .i32) (.pair (.int .u32) (.pair (.int .u32) (.pair (.sl (.int .i64)) .unit)))))) .unit) (.pair (.pair (.sl (.pair (.int .u8) (.pair (.int .i32) (.pair (.int .u32) (.pair (.int .u32) (.pair (.sl (.int .i64)) .unit)))))) .unit) (.pair (.int .u8) (.pair .bool .unit)))))))) .unit)))) (z.2.2.2.2)] 28)], []⟩) ?_ (k := k) (x := ((-1 : Int), (0 : Int), f1.1.1, f1.1.2.1, f1.2.1)) h)))))))))))))))
                            clear h
                            rintro fuel2 ⟨last1, k2, f2, f3, f4⟩ h
                            cases fuel2 with
                            | zero => exact absurd (show none = some _ from h) (by simp)
                            | succ fuel2 =>
                              have h : l27_FamilyPaths_b2 k v3 v4 v5 x1 y1 (l27_FamilyPaths_l2 k v3 v4 v5 x1 y1 fuel2) last1 k2 f2 f3 f4 = some rz := h
                              unfold l27_FamilyPaths_b2 at h
                              refine W_seq (W_seq (W_region (WL_allC hE [1, 2, 3, 8, 10, 12, 17, 18, 157] [3] [] (orc := []) (by kernel_rfl) .n (N_then (W_cond (b := decide (k2 < (List.length v3.1 : Int))) (by kernel_rfl) (fun e23 => ?_) (fun e23 => ?_))))))
                              · replace h := ite_t e23 h
                                refine W_skip (N_then (W_seq (W_block (W_seq (W_region (WL_allI hE (orc := []) (by kernel_rfl) .n (N_then (W_block (W_loop (α := (Int × Int)) (fun n z => l27_FamilyPaths_l3 v4 v3 k2 (l27_FamilyPaths_l2 k v3 v4 v5 x1 y1 fuel2) f2 f3 f4 n z.1 z.2 = some rz) (fun z => ⟨[(1, I64 x1), (2, I64 y1), (3, .ptr 3 0), (8, .val (.sl (.int .i64)) v3.1), (10, .val (.sl (.int .i64)) v4.1), (12, I64 v5.1), (17, I64 (z.1)), (18, I64 k2), (19, I64 (z.2))], [(3, .cells [.val (.sl .str) f2, .val (.sl (.pair (.int .i32) (.pair (.int .u32) (.pair (.int .u32) .unit)))) f3, .val (.sl (.pair .str (.pair (.int .i64) (.pair (.sl (.pair .str (.pair (.sl (.pair (.int .i32) (.pair (.int .u32) (.pair (.int .u32) .unit)))) (.pair (.sl (.pair (.int .i32) (.pair (.int .i64) (.pair (.int .u32) (.pair (.int .u32) .unit))))) (.pair (.pair (.sl (.pair (.int .u8) (.pair (.int .i32) (.pair (.int .u32) (.pair (.int .u32) (.pair (.sl (.int .i64)) .unit)))))) .unit) (.pair (.pair (.sl (.pair (.int .u8) (.pair (.int .i32) (.pair (.int .u32) (.pair (.int .u32) (.pair (.sl (.int .i64)) .unit)))))) .unit) (.pair (.int .u8) (.pair .bool .unit)))))))) .unit)))) f4] 28)], []⟩) ?_ (k := k) (x := (last1, (0 : Int))) h)))))))))
                                clear h
                                rintro fuel3 ⟨last2, j1⟩ h
                                cases fuel3 with
                                | zero => exact absurd (show none = some _ from h) (by simp)
                                | succ fuel3 =>
                                  have h : l27_FamilyPaths_b3 v4 v3 k2 (l27_FamilyPaths_l2 k v3 v4 v5 x1 y1 fuel2) f2 f3 f4 (l27_FamilyPaths_l3 v4 v3 k2 (l27_FamilyPaths_l2 k v3 v4 v5 x1 y1 fuel2) f2 f3 f4 fuel3) last2 j1 = some rz := h
                                  unfold l27_FamilyPaths_b3 at h
                                  refine W_seq (W_seq (W_region (WL_allC hE [1, 2, 3, 8, 10, 12, 17, 18, 19, 163] [3] [] (orc := []) (by kernel_rfl) .n (N_then (W_cond (b := decide (j1 < (List.length v4.1 : Int))) (by kernel_rfl) (fun e24 => ?_) (fun e24 => ?_))))))
                                  · replace h := ite_t e24 h
                                    refine W_skip (N_then (W_join (α := Int) (fun z => l27_FamilyPaths_j12 (l27_FamilyPaths_l3 v4 v3 k2 (l27_FamilyPaths_l2 k v3 v4 v5 x1 y1 fuel2) f2 f3 f4 fuel3) j1 z = some rz) (fun last3 => ⟨[(1, I64 x1), (2, I64 y1), (3, .ptr 3 0), (8, .val (.sl (.int .i64)) v3.1), (10, .val (.sl (.int .i64)) v4.1), (12, I64 v5.1), (17, I64 last3), (18, I64 k2), (19, I64 j1)], [(3, .cells [.val (.sl .str) f2, .val (.sl (.pair (.int .i32) (.pair (.int .u32) (.pair (.int .u32) .unit)))) f3, .val (.sl (.pair .str (.pair (.int .i64) (.pair (.sl (.pair .str (.pair (.sl (.pair (.int .i32) (.pair (.int .u32) (.pair (.int .u32) .unit)))) (.pair (.sl (.pair (.int .i32) (.pair (.int .i64) (.pair (.int .u32) (.pair (.int .u32) .unit))))) (.pair (.pair (.sl (.pair (.int .u8) (.pair (.int .i32) (.pair (.int .u32) (.pair (.int .u32) (.pair (.sl (.int .i64)) .unit)))))) .unit) (.pair (.pair (.sl (.pair (.int .u8) (.pair (.int .i32) (.pair (.int .u32) (.pair (.int .u32) (.pair (.sl (.int .i64)) .unit)))))) .unit) (.pair (.int .u8) (.pair .bool .unit)))))))) .unit)))) f4] 28)], []⟩) ?_ (fun hJ12 => ?_)))
                                    · rintro last3 h
                                      unfold l27_FamilyPaths_j12 at h
                                      exact W_region (WL_allI hE (orc := []) (by kernel_rfl) .n (N_round (last3, wi64 (j1 + (1 : Int))) (Nat.lt_succ_self _) h))
                                    refine W_block (W_seq (W_draw hE (by kernel_rfl) (by kernel_rfl) ?_))
                                    obtain ⟨x7, e25, h⟩ := bind_some h
                                    obtain ⟨x8, e26, h⟩ := bind_some h
                                    refine WD_allC hE [1, 2, 3, 8, 10, 12, 17, 18, 19, 174] [3] [] (orc := [tI64 x7, tI64 x8]) (by kernel_rfl) (.c e25 (.c e26 .n)) (N_then (W_cond (b := x7 == x8) (by kernel_rfl) (fun e27 => ?_) (fun e27 => ?_)))
                                    · replace h := ite_t e27 h
                                      exact W_region (WL_allI hE (orc := [tI64 x7]) (by kernel_rfl) (.c e25 .n) (N_block (hJ12 x7 h)))
                                    · replace h := ite_f e27 h
                                      exact W_skip (N_block (N_normI (by kernel_rfl) (hJ12 last2 h)))
                                  · replace h := ite_f e24 h
                                    exact W_exit (N_then_exit (N_then_exit (N_block_exit (N_block (N_then (W_region (WL_allI hE (orc := []) (by kernel_rfl) .n (N_round (last2, wi64 (k2 + (1 : Int)), f2, f3, f4) (Nat.lt_succ_self _) h))))))))
                              · replace h := ite_f e23 h
                                refine W_exit (N_then_exit (N_then_exit (N_block_exit (N_then (W_seq (W_region ?_))))))
                                obtain ⟨v7, e28, h⟩ := bind_some h
                                refine WL_allC hE [1, 2, 3, 12, 17, 20, 21] [3] [] (orc := [⟨(.sl (.int .i64)), v7.1⟩, tI64 v7.2]) (by kernel_rfl) (.c e28 .n) (N_then (W_seq (W_region ?_)))
                                obtain ⟨v8, e29, h⟩ := bind_some h
                                refine WL_allI hE (st' := ⟨[(1, I64 x1), (2, I64 y1), (3, .ptr 3 0), (12, I64 v5.1), (17, I64 last1), (20, .val (.sl (.int .i64)) v7.1), (21, I64 v7.2), (22, SS v8.1), (23, I64 v8.2)], [(3, .cells [.val (.sl .str) f2, .val (.sl (.pair (.int .i32) (.pair (.int .u32) (.pair (.int .u32) .unit)))) f3, .val (.sl (.pair .str (.pair (.int .i64) (.pair (.sl (.pair .str (.pair (.sl (.pair (.int .i32) (.pair (.int .u32) (.pair (.int .u32) .unit)))) (.pair (.sl (.pair (.int .i32) (.pair (.int .i64) (.pair (.int .u32) (.pair (.int .u32) .unit))))) (.pair (.pair (.sl (.pair (.int .u8) (.pair (.int .i32) (.pair (.int .u32) (.pair (.int .u32) (.pair (.sl (.int .i64)) .unit)))))) .unit) (.pair (.pair (.sl (.pair (.int .u8) (.pair (.int .i32) (.pair (.int .u32) (.pair (.int .u32) (.pair (.sl (.int .i64)) .unit)))))) .unit) (.pair (.int .u8) (.pair .bool .unit)))))))) .unit)))) f4] 28)], []⟩) (orc := [tS v8.1, tI64 v8.2]) (by kernel_rfl) (.c e29 .n) (N_then (W_seq (W_seq (W_region (WL_tkC hE 4 [1, 2, 3, 12, 20, 21, 22, 23, 192] [3] [] (orc := []) (by kernel_rfl) .n (WL_join (α := Bool) (fun z => l27_FamilyPaths_j13 k v7 v8 f2 f3 f4 z = some rz) (fun t12 => ⟨[(3, .ptr 3 0), (20, .val (.sl (.int .i64)) v7.1), (21, I64 v7.2), (22, SS v8.1), (23, I64 v8.2), (201, BB t12)], [(3, .cells [.val (.sl .str) f2, .val (.sl (.pair (.int .i32) (.pair (.int .u32) (.pair (.int .u32) .unit)))) f3, .val (.sl (.pair .str (.pair (.int .i64) (.pair (.sl (.pair .str (.pair (.sl (.pair (.int .i32) (.pair (.int .u32) (.pair (.int .u32) .unit)))) (.pair (.sl (.pair (.int .i32) (.pair (.int .i64) (.pair (.int .u32) (.pair (.int .u32) .unit))))) (.pair (.pair (.sl (.pair (.int .u8) (.pair (.int .i32) (.pair (.int .u32) (.pair (.int .u32) (.pair (.sl (.int .i64)) .unit)))))) .unit) (.pair (.pair (.sl (.pair (.int .u8) (.pair (.int .i32) (.pair (.int .u32) (.pair (.int .u32) (.pair (.sl (.int .i64)) .unit)))))) .unit) (.pair (.int .u8) (.pair .bool .unit)))))))) .unit)))) f4] 28)], []⟩) 9 ?_ (fun hJ13 => ?_)))))))
                                · rintro t12 h
                                  unfold l27_FamilyPaths_j13 at h
                                  refine WL_tkC hE 1 [3, 20, 21, 22, 23, 202] [3] [] (orc := []) (by kernel_rfl) .n (WL_join (α := Bool) (fun z => l27_FamilyPaths_j14 k v7 v8 f2 f3 f4 z = some rz) (fun t13 => ⟨[(3, .ptr 3 0), (20, .val (.sl (.int .i64)) v7.1), (22, SS v8.1), (23, I64 v8.2), (205, BB t13)], [(3, .cells [.val (.sl .str) f2, .val (.sl (.pair (.int .i32) (.pair (.int .u32) (.pair (.int .u32) .unit)))) f3, .val (.sl (.pair .str (.pair (.int .i64) (.pair (.sl (.pair .str (.pair (.sl (.pair (.int .i32) (.pair (.int .u32) (.pair (.int .u32) .unit)))) (.pair (.sl (.pair (.int .i32) (.pair (.int .i64) (.pair (.int .u32) (.pair (.int .u32) .unit))))) (.pair (.pair (.sl (.pair (.int .u8) (.pair (.int .i32) (.pair (.int .u32) (.pair (.int .u32) (.pair (.sl (.int .i64)) .unit)))))) .unit) (.pair (.pair (.sl (.pair (.int .u8) (.pair (.int .i32) (.pair (.int .u32) (.pair (.int .u32) (.pair (.sl (.int .i64)) .unit)))))) .unit) (.pair (.int .u8) (.pair .bool .unit)))))))) .unit)))) f4] 28)], []⟩) 3 ?_ (fun hJ14 => ?_))
                                  · rintro t13 h
                                    unfold l27_FamilyPaths_j14 at h
                                    refine WL_tkC hE 1 [3, 20, 22, 23, 206] [3] [] (orc := []) (by kernel_rfl) .n (WL_join (α := Bool) (fun z => l27_FamilyPaths_j15 k v7 v8 f2 f3 f4 z = some rz) (fun t14 => ⟨[(3, .ptr 3 0), (20, .val (.sl (.int .i64)) v7.1), (22, SS v8.1), (209, BB t14)], [(3, .cells [.val (.sl .str) f2, .val (.sl (.pair (.int .i32) (.pair (.int .u32) (.pair (.int .u32) .unit)))) f3, .val (.sl (.pair .str (.pair (.int .i64) (.pair (.sl (.pair .str (.pair (.sl (.pair (.int .i32) (.pair (.int .u32) (.pair (.int .u32) .unit)))) (.pair (.sl (.pair (.int .i32) (.pair (.int .i64) (.pair (.int .u32) (.pair (.int .u32) .unit))))) (.pair (.pair (.sl (.pair (.int .u8) (.pair (.int .i32) (.pair (.int .u32) (.pair (.int .u32) (.pair (.sl (.int .i64)) .unit)))))) .unit) (.pair (.pair (.sl (.pair (.int .u8) (.pair (.int .i32) (.pair (.int .u32) (.pair (.int .u32) (.pair (.sl (.int .i64)) .unit)))))) .unit) (.pair (.int .u8) (.pair .bool .unit)))))))) .unit)))) f4] 28)], []⟩) 3 ?_ (fun hJ15 => ?_))
                                    · rintro t14 h
                                      unfold l27_FamilyPaths_j15 at h
                                      refine WL_tkC hE 1 [3, 20, 22, 210] [3] [] (orc := []) (by kernel_rfl) .n (WL_join (α := Bool) (fun z => l27_FamilyPaths_j16 k v7 v8 f2 f3 f4 z = some rz) (fun t15 => ⟨[(3, .ptr 3 0), (20, .val (.sl (.int .i64)) v7.1), (22, SS v8.1), (214, BB t15)], [(3, .cells [.val (.sl .str) f2, .val (.sl (.pair (.int .i32) (.pair (.int .u32) (.pair (.int .u32) .unit)))) f3, .val (.sl (.pair .str (.pair (.int .i64) (.pair (.sl (.pair .str (.pair (.sl (.pair (.int .i32) (.pair (.int .u32) (.pair (.int .u32) .unit)))) (.pair (.sl (.pair (.int .i32) (.pair (.int .i64) (.pair (.int .u32) (.pair (.int .u32) .unit))))) (.pair (.pair (.sl (.pair (.int .u8) (.pair (.int .i32) (.pair (.int .u32) (.pair (.int .u32) (.pair (.sl (.int .i64)) .unit)))))) .unit) (.pair (.pair (.sl (.pair (.int .u8) (.pair (.int .i32) (.pair (.int .u32) (.pair (.int .u32) (.pair (.sl (.int .i64)) .unit)))))) .unit) (.pair (.int .u8) (.pair .bool .unit)))))))) .unit)))) f4] 28)], []⟩) 4 ?_ (fun hJ16 => ?_))
                                      · rintro t15 h
                                        unfold l27_FamilyPaths_j16 at h
                                        refine WL_nil (N_then (W_cond (b := t15) (by kernel_rfl) (fun e30 => ?_) (fun e30 => ?_)))
                                        · replace h := ite_t e30 h
                                          refine W_seq (W_region (WL_allC hE [6] [] [] (orc := []) (by kernel_rfl) .n (N_then (W_ret (N_then_ret ?_)))))
                                          cases h
                                          exact N_end (.inl rfl) (by kernel_rfl)
                                        · replace h := ite_f e30 h
                                          refine W_skip (N_then (W_seq (W_seq (W_region (WL_allI hE (orc := []) (by kernel_rfl) .n (N_then (W_block (W_loop (α := (Int × List (List UInt8) × List ((Int × Int × Int × Unit)) × List ((List UInt8 × Int × List ((List UInt8 × List ((Int × Int × Int × Unit)) × List ((Int × Int × Int × Int × Unit)) × (List ((Int × Int × Int × Int × List (Int) × Unit)) × Unit) × (List ((Int × Int × Int × Int × List (Int) × Unit)) × Unit) × Int × Bool × Unit)) × Unit)))) (fun n z => l27_FamilyPaths_l4 k v7 v8 n z.1 z.2.1 z.2.2.1 z.2.2.2 = some rz) (fun z => ⟨[(3, .ptr 3 0), (20, .val (.sl (.int .i64)) v7.1), (22, SS v8.1), (24, I64 (z.1))], [(3, .cells [.val (.sl .str) (z.2.1), .val (.sl (.pair (.int .i32) (.pair (.int .u32) (.pair (.int .u32) .unit)))) (z.2.2.1), .val (.sl (.pair .str (.pair (.int .i64) (.pair (.sl (.pair .str (.pair (.sl (.pair (.int .i32) (.pair (.int .u32) (.pair (.int .u32) .unit)))) (.pair (.sl (.pair (.int .i32) (.pair (.int .i64) (.pair (.int .u32) (.pair (.int .u32) .unit))))) (.pair (.pair (.sl (.pair (.int .u8) (.pair (.int .i32) (.pair (.int .u32) (.pair (.int .u32) (.pair (.sl (.int .i64)) .unit)))))) .unit) (.pair (.pair (.sl (.pair (.int .u8) (.pair (.int .i32) (.pair (.int .u32) (.pair (.int .u32) (.pair (.sl (.int .i64)) .unit)))))) .unit) (.pair (.int .u8) (.pair .bool .unit)))))))) .unit)))) (z.2.2.2)] 28)], []⟩) ?_ (k := k) (x := ((0 : Int), f2, f3, f4)) h))))))))
                                          clear h
                                          rintro fuel4 ⟨k3, f5, f6, f7⟩ h
                                          cases fuel4 with
                                          | zero => exact absurd (show none = some _ from h) (by simp)
                                          | succ fuel4 =>
                                            have h : l27_FamilyPaths_b4 k v7 v8 (l27_FamilyPaths_l4 k v7 v8 fuel4) k3 f5 f6 f7 = some rz := h
                                            unfold l27_FamilyPaths_b4 at h
                                            refine W_seq (W_seq (W_region (WL_allC hE [3, 20, 22, 24, 218] [3] [] (orc := []) (by kernel_rfl) .n (N_then (W_cond (b := decide (k3 < (List.length v7.1 : Int))) (by kernel_rfl) (fun e31 => ?_) (fun e31 => ?_))))))
                                            · replace h := ite_t e31 h
                                              refine W_skip (N_then (W_seq (W_block (W_seq (W_region (WL_allI hE (orc := []) (by kernel_rfl) .n (N_then (W_block (W_loop (α := Int) (fun n z => l27_FamilyPaths_l5 f7 v7 k3 (l27_FamilyPaths_l4 k v7 v8 fuel4) f5 f6 n z = some rz) (fun j2 => ⟨[(3, .ptr 3 0), (20, .val (.sl (.int .i64)) v7.1), (22, SS v8.1), (24, I64 k3), (25, I64 j2)], [(3, .cells [.val (.sl .str) f5, .val (.sl (.pair (.int .i32) (.pair (.int .u32) (.pair (.int .u32) .unit)))) f6, .val (.sl (.pair .str (.pair (.int .i64) (.pair (.sl (.pair .str (.pair (.sl (.pair (.int .i32) (.pair (.int .u32) (.pair (.int .u32) .unit)))) (.pair (.sl (.pair (.int .i32) (.pair (.int .i64) (.pair (.int .u32) (.pair (.int .u32) .unit))))) (.pair (.pair (.sl (.pair (.int .u8) (.pair (.int .i32) (.pair (.int .u32) (.pair (.int .u32) (.pair (.sl (.int .i64)) .unit)))))) .unit) (.pair (.pair (.sl (.pair (.int .u8) (.pair (.int .i32) (.pair (.int .u32) (.pair (.int .u32) (.pair (.sl (.int .i64)) .unit)))))) .unit) (.pair (.int .u8) (.pair .bool .unit)))))))) .unit)))) f7] 28)], []⟩) ?_ (k := k) (x := (0 : Int)) h)))))))))
                                              clear h
                                              rintro fuel5 j2 h
                                              cases fuel5 with
                                              | zero => exact absurd (show none = some _ from h) (by simp)
                                              | succ fuel5 =>
                                                have h : l27_FamilyPaths_b5 f7 v7 k3 (l27_FamilyPaths_l4 k v7 v8 fuel4) f5 f6 (l27_FamilyPaths_l5 f7 v7 k3 (l27_FamilyPaths_l4 k v7 v8 fuel4) f5 f6 fuel5) j2 = some rz := h
                                                unfold l27_FamilyPaths_b5 at h
                                                refine W_seq (W_seq (W_region (WL_allC hE [3, 20, 22, 24, 25, 225] [3] [] (orc := []) (by kernel_rfl) .n (N_then (W_cond (b := decide (j2 < (List.length f7 : Int))) (by kernel_rfl) (fun e32 => ?_) (fun e32 => ?_))))))
                                                · replace h := ite_t e32 h
                                                  refine W_skip (N_then (W_seq (W_block (W_seq (W_draw hE (by kernel_rfl) (by kernel_rfl) ?_)))))
                                                  obtain ⟨x9, e33, h⟩ := bind_some h
                                                  obtain ⟨x10, e34, h⟩ := bind_some h
                                                  refine WD_allC hE [3, 20, 22, 24, 25, 238] [3] [] (orc := [⟨(.pair .str (.pair (.int .i64) (.pair (.sl (.pair .str (.pair (.sl (.pair (.int .i32) (.pair (.int .u32) (.pair (.int .u32) .unit)))) (.pair (.sl (.pair (.int .i32) (.pair (.int .i64) (.pair (.int .u32) (.pair (.int .u32) .unit))))) (.pair (.pair (.sl (.pair (.int .u8) (.pair (.int .i32) (.pair (.int .u32) (.pair (.int .u32) (.pair (.sl (.int .i64)) .unit)))))) .unit) (.pair (.pair (.sl (.pair (.int .u8) (.pair (.int .i32) (.pair (.int .u32) (.pair (.int .u32) (.pair (.sl (.int .i64)) .unit)))))) .unit) (.pair (.int .u8) (.pair .bool .unit)))))))) .unit))), x9⟩, tI64 x10]) (by kernel_rfl) (.c e33 (.c e34 .n)) (N_then (W_cond (b := x9.2.1 == x10) (by kernel_rfl) (fun e35 => ?_) (fun e35 => ?_)))
                                                  · replace h := ite_t e35 h
                                                    refine W_seq (W_region (WL_allC hE [6] [] [] (orc := []) (by kernel_rfl) .n (N_then (W_ret (N_block_ret (N_then_ret (N_then_ret (N_block_ret (N_block_ret (N_then_ret (N_then_ret (N_block_ret (N_then_ret ?_)))))))))))))
                                                    cases h
                                                    exact N_end (.inl rfl) (by kernel_rfl)
                                                  · replace h := ite_f e35 h
                                                    exact W_skip (N_block (N_then (W_region (WL_allI hE (orc := []) (by kernel_rfl) .n (N_round (wi64 (j2 + (1 : Int))) (Nat.lt_succ_self _) h)))))
                                                · replace h := ite_f e32 h
                                                  exact W_exit (N_then_exit (N_then_exit (N_block_exit (N_block (N_then (W_region (WL_allI hE (orc := []) (by kernel_rfl) .n (N_round (wi64 (k3 + (1 : Int)), f5, f6, f7) (Nat.lt_succ_self _) h))))))))
                                            · replace h := ite_f e31 h
                                              refine W_exit (N_then_exit (N_then_exit (N_block_exit (N_then (W_seq (W_region (WL_allI hE (st' := ⟨[(3, .ptr 3 0), (22, SS v8.1), (26, I64 (0 : Int))], [(3, .cells [.val (.sl .str) f5, .val (.sl (.pair (.int .i32) (.pair (.int .u32) (.pair (.int .u32) .unit)))) f6, .val (.sl (.pair .str (.pair (.int .i64) (.pair (.sl (.pair .str (.pair (.sl (.pair (.int .i32) (.pair (.int .u32) (.pair (.int .u32) .unit)))) (.pair (.sl (.pair (.int .i32) (.pair (.int .i64) (.pair (.int .u32) (.pair (.int .u32) .unit))))) (.pair (.pair (.sl (.pair (.int .u8) (.pair (.int .i32) (.pair (.int .u32) (.pair (.int .u32) (.pair (.sl (.int .i64)) .unit)))))) .unit) (.pair (.pair (.sl (.pair (.int .u8) (.pair (.int .i32) (.pair (.int .u32) (.pair (.int .u32) (.pair (.sl (.int .i64)) .unit)))))) .unit) (.pair (.int .u8) (.pair .bool .unit)))))))) .unit)))) f7] 28)], []⟩) (orc := []) (by kernel_rfl) .n (N_then (W_seq (W_seq (W_region (WL_allI hE (orc := []) (by kernel_rfl) .n (N_then (W_block (W_loop (α := (Int × Int)) (fun n z => l27_FamilyPaths_l6 v8 f7 n z.1 z.2 = some rz) (fun z => ⟨[(3, .ptr 3 0), (22, SS v8.1), (26, I64 (z.1)), (27, I64 (z.2))], [(3, .cells [.val (.sl .str) f5, .val (.sl (.pair (.int .i32) (.pair (.int .u32) (.pair (.int .u32) .unit)))) f6, .val (.sl (.pair .str (.pair (.int .i64) (.pair (.sl (.pair .str (.pair (.sl (.pair (.int .i32) (.pair (.int .u32) (.pair (.int .u32) .unit)))) (.pair (.sl (.pair (.int .i32) (.pair (.int .i64) (.pair (.int .u32) (.pair (.int .u32) .unit))))) (.pair (.pair (.sl (.pair (.int .u8) (.pair (.int .i32) (.pair (.int .u32) (.pair (.int .u32) (.pair (.sl (.int .i64)) .unit)))))) .unit) (.pair (.pair (.sl (.pair (.int .u8) (.pair (.int .i32) (.pair (.int .u32) (.pair (.int .u32) (.pair (.sl (.int .i64)) .unit)))))) .unit) (.pair (.int .u8) (.pair .bool .unit)))))))) .unit)))) f7] 28)], []⟩) ?_ (k := k) (x := ((0 : Int), (0 : Int))) h)))))))))))))))
                                              clear h
                                              rintro fuel6 ⟨lines1, k4⟩ h
                                              cases fuel6 with
                                              | zero => exact absurd (show none = some _ from h) (by simp)
                                              | succ fuel6 =>
                                                have h : l27_FamilyPaths_b6 v8 f7 (l27_FamilyPaths_l6 v8 f7 fuel6) lines1 k4 = some rz := h
                                                unfold l27_FamilyPaths_b6 at h
                                                refine W_seq (W_seq (W_region (WL_allC hE [3, 22, 26, 27, 242] [3] [] (orc := []) (by kernel_rfl) .n (N_then (W_cond (b := decide (k4 < (List.length v8.1 : Int))) (by kernel_rfl) (fun e36 => ?_) (fun e36 => ?_))))))
                                                · replace h := ite_t e36 h
                                                  refine W_skip (N_then (W_join (α := Int) (fun z => l27_FamilyPaths_j17 (l27_FamilyPaths_l6 v8 f7 fuel6) k4 z = some rz) (fun lines2 => ⟨[(3, .ptr 3 0), (22, SS v8.1), (26, I64 lines2), (27, I64 k4)], [(3, .cells [.val (.sl .str) f5, .val (.sl (.pair (.int .i32) (.pair (.int .u32) (.pair (.int .u32) .unit)))) f6, .val (.sl (.pair .str (.pair (.int .i64) (.pair (.sl (.pair .str (.pair (.sl (.pair (.int .i32) (.pair (.int .u32) (.pair (.int .u32) .unit)))) (.pair (.sl (.pair (.int .i32) (.pair (.int .i64) (.pair (.int .u32) (.pair (.int .u32) .unit))))) (.pair (.pair (.sl (.pair (.int .u8) (.pair (.int .i32) (.pair (.int .u32) (.pair (.int .u32) (.pair (.sl (.int .i64)) .unit)))))) .unit) (.pair (.pair (.sl (.pair (.int .u8) (.pair (.int .i32) (.pair (.int .u32) (.pair (.int .u32) (.pair (.sl (.int .i64)) .unit)))))) .unit) (.pair (.int .u8) (.pair .bool .unit)))))))) .unit)))) f7] 28)], []⟩) ?_ (fun hJ17 => ?_)))
                                                  · rintro lines2 h
                                                    unfold l27_FamilyPaths_j17 at h
                                                    exact W_region (WL_allI hE (orc := []) (by kernel_rfl) .n (N_round (lines2, wi64 (k4 + (1 : Int))) (Nat.lt_succ_self _) h))
                                                  refine W_block (W_seq (W_region ?_))
                                                  obtain ⟨b1, e37, h⟩ := bind_some h
                                                  refine WL_allC hE [3, 22, 26, 27, 248] [3] [] (orc := [tU8 b1]) (by kernel_rfl) (.c e37 .n) (N_then (W_cond (b := b1 == (10 : Int)) (by kernel_rfl) (fun e38 => ?_) (fun e38 => ?_)))
                                                  · replace h := ite_t e38 h
                                                    exact W_region (WL_allI hE (orc := []) (by kernel_rfl) .n (N_block (hJ17 (wi64 (lines1 + (1 : Int))) h)))
                                                  · replace h := ite_f e38 h
                                                    exact W_skip (N_block (N_normI (by kernel_rfl) (hJ17 lines1 h)))
                                                · replace h := ite_f e36 h
                                                  refine W_exit (N_then_exit (N_then_exit (N_block_exit (N_then (W_seq (W_region (WL_allC hE [6] [] [] (orc := []) (by kernel_rfl) .n (N_then (W_ret ?_)))))))))
                                                  cases h
                                                  exact N_end (.inl rfl) (by kernel_rfl)
                                      refine WL_splitC 210 (b := t14) (by kernel_rfl) (fun e39 => ?_) (fun e39 => ?_)
                                      · rw [or_t e39] at h
                                        exact WL_allI hE (orc := []) (by kernel_rfl) .n (hJ16 true h)
                                      · rw [or_f e39] at h
                                        exact WL_allI hE (orc := []) (by kernel_rfl) .n (hJ16 ((List.length v7.1 : Int) == (0 : Int)) h)
                                    refine WL_splitC 206 (b := t13) (by kernel_rfl) (fun e40 => ?_) (fun e40 => ?_)
                                    · rw [or_t e40] at h
                                      exact WL_allI hE (orc := []) (by kernel_rfl) .n (hJ15 true h)
                                    · rw [or_f e40] at h
                                      exact WL_allI hE (orc := []) (by kernel_rfl) .n (hJ15 (v8.2 != (0 : Int)) h)
                                  refine WL_splitC 202 (b := t12) (by kernel_rfl) (fun e41 => ?_) (fun e41 => ?_)
                                  · rw [or_t e41] at h
                                    exact WL_allI hE (orc := []) (by kernel_rfl) .n (hJ14 true h)
                                  · rw [or_f e41] at h
                                    exact WL_allI hE (orc := []) (by kernel_rfl) .n (hJ14 (v7.2 != (0 : Int)) h)
                                refine WL_splitC 192 (b := last1 != v5.1) (by kernel_rfl) (fun e42 => ?_) (fun e42 => ?_)
                                · replace h := ite_t e42 h
                                  exact WL_allI hE (orc := []) (by kernel_rfl) .n (hJ13 true h)
                                · replace h := ite_f e42 h
                                  refine WL_tkC hE 4 [1, 3, 12, 20, 21, 22, 23, 192, 196] [3] [] (orc := []) (by kernel_rfl) .n (WL_join (α := Bool) (fun z => l27_FamilyPaths_j18 k v7 v8 f2 f3 f4 z = some rz) (fun t16 => ⟨[(3, .ptr 3 0), (20, .val (.sl (.int .i64)) v7.1), (21, I64 v7.2), (22, SS v8.1), (23, I64 v8.2), (192, BB false), (200, BB t16)], [(3, .cells [.val (.sl .str) f2, .val (.sl (.pair (.int .i32) (.pair (.int .u32) (.pair (.int .u32) .unit)))) f3, .val (.sl (.pair .str (.pair (.int .i64) (.pair (.sl (.pair .str (.pair (.sl (.pair (.int .i32) (.pair (.int .u32) (.pair (.int .u32) .unit)))) (.pair (.sl (.pair (.int .i32) (.pair (.int .i64) (.pair (.int .u32) (.pair (.int .u32) .unit))))) (.pair (.pair (.sl (.pair (.int .u8) (.pair (.int .i32) (.pair (.int .u32) (.pair (.int .u32) (.pair (.sl (.int .i64)) .unit)))))) .unit) (.pair (.pair (.sl (.pair (.int .u8) (.pair (.int .i32) (.pair (.int .u32) (.pair (.int .u32) (.pair (.sl (.int .i64)) .unit)))))) .unit) (.pair (.int .u8) (.pair .bool .unit)))))))) .unit)))) f4] 28)], []⟩) 4 ?_ (fun hJ18 => ?_))
                                  · rintro t16 h
                                    unfold l27_FamilyPaths_j18 at h
                                    exact WL_allI hE (orc := []) (by kernel_rfl) .n (hJ13 t16 h)
                                  refine WL_splitC 196 (b := x1 == y1) (by kernel_rfl) (fun e43 => ?_) (fun e43 => ?_)
                                  · rw [and_t e43] at h
                                    exact WL_allI hE (orc := []) (by kernel_rfl) .n (hJ18 (v5.1 != x1) h)
                                  · rw [and_f e43] at h
                                    exact WL_allI hE (orc := []) (by kernel_rfl) .n (hJ18 false h)
                    refine WL_splitC 101 (b := t8) (by kernel_rfl) (fun e44 => ?_) (fun e44 => ?_)
                    · replace h := ite_t e44 h
                      exact WL_allI hE (orc := []) (by kernel_rfl) .n (hJ9 true h)
                    · replace h := ite_f e44 h
                      obtain ⟨x11, e45, h⟩ := bind_some h
                      exact WL_allI hE (orc := [tI64 x11]) (by kernel_rfl) (.c e45 .n) (hJ9 (x11 != x1) h)
                  refine WL_splitC 95 (b := t7) (by kernel_rfl) (fun e46 => ?_) (fun e46 => ?_)
                  · replace h := ite_t e46 h
                    exact WL_allI hE (orc := []) (by kernel_rfl) .n (hJ8 true h)
                  · replace h := ite_f e46 h
                    obtain ⟨x12, e47, h⟩ := bind_some h
                    exact WL_allI hE (orc := [tI64 x12]) (by kernel_rfl) (.c e47 .n) (hJ8 (x12 != (0 : Int)) h)
                refine WL_splitC 90 (b := t6) (by kernel_rfl) (fun e48 => ?_) (fun e48 => ?_)
                · rw [or_t e48] at h
                  exact WL_allI hE (orc := []) (by kernel_rfl) .n (hJ7 true h)
                · rw [or_f e48] at h
                  exact WL_allI hE (orc := []) (by kernel_rfl) .n (hJ7 ((List.length v3.1 : Int) == (0 : Int)) h)
              refine WL_splitC 85 (b := t5) (by kernel_rfl) (fun e49 => ?_) (fun e49 => ?_)
              · rw [or_t e49] at h
                exact WL_allI hE (orc := []) (by kernel_rfl) .n (hJ6 true h)
              · rw [or_f e49] at h
                exact WL_allI hE (orc := []) (by kernel_rfl) .n (hJ6 (v5.1 != v6.1) h)
            refine WL_splitC 81 (b := v5.2 != (0 : Int)) (by kernel_rfl) (fun e50 => ?_) (fun e50 => ?_)
            · rw [or_t e50] at h
              exact WL_allI hE (orc := []) (by kernel_rfl) .n (hJ5 true h)
            · rw [or_f e50] at h
              exact WL_allI hE (orc := []) (by kernel_rfl) .n (hJ5 (v6.2 != (0 : Int)) h)
        refine WL_splitC 61 (b := v3.2 != (0 : Int)) (by kernel_rfl) (fun e51 => ?_) (fun e51 => ?_)
        · rw [or_t e51] at h
          exact WL_allI hE (orc := []) (by kernel_rfl) .n (hJ1 true h)
        · rw [or_f e51] at h
          exact WL_allI hE (orc := []) (by kernel_rfl) .n (hJ1 (v4.2 != (0 : Int)) h)

end Go.Ev
