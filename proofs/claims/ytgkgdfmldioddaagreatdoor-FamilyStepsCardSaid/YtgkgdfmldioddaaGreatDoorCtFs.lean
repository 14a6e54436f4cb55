/- Contracts, by program. -/
import Derived.Test.YtgkgdfmldioddaaGreatDoorProg
import Derived.Test.YtgkgdfmldioddaaGreatDoorMM6
import Derived.Test.YtgkgdfmldioddaaGreatDoorMM7
import Derived.Test.YtgkgdfmldioddaaGreatDoorMM8
import Derived.Test.YtgkgdfmldioddaaGreatDoorCtFsP1
import Derived.Test.YtgkgdfmldioddaaGreatDoorCtFsP2
import Derived.Test.YtgkgdfmldioddaaGreatDoorCtFsP3
import Derived.Test.YtgkgdfmldioddaaGreatDoorCtFsP4
import Derived.Test.YtgkgdfmldioddaaGreatDoorCtFsP5
import Derived.Test.YtgkgdfmldioddaaGreatDoorCtFsP6
import Derived.Test.YtgkgdfmldioddaaGreatDoorCtFsP7
import Derived.KernelRfl
import Derived.Test.YtgkgdfmldioddaaGreatDoorTyA
set_option linter.unusedSectionVars false
set_option linter.unusedVariables false
set_option linter.unusedSimpArgs false
namespace Go.Ev
open Go Go.Proofs
set_option linter.unusedVariables false
set_option maxRecDepth 100000
noncomputable def zix (k : Nat) : FnB yT54 yT54 where
 n := 8
 S := fun z => ⟨[(0, .val yT37 (z))], [], []⟩
 S' := fun z y => ⟨[], [], [(3500001, ⟨166, yT40, (y)⟩)]⟩
 rs := fun z y => [.row 3500001]
 rel := fun z y => zgs k (z) = some y
noncomputable def ziy (k : Nat) : Env := envOf Tryz.prog Gl 8 []
theorem ziz (k : Nat) : BC Tryz.prog Gl 171 (zix k) := by
 refine bc_of (fn := Tryz.f171) Tryz.func171 (by kernel_rfl) rfl Tryz.ntmps171 ?_
 rintro cx hP hn hG s1 y0 h
 have hE : EnvOK (ziy k) cx := envOf_ok hP hn hG
 replace h : zgs k s1 = some y0 := h
 unfold zgs at h
 refine W_seq (zbt (WL_allC hE [0] [] [] (orc := []) (by kernel_rfl) .n (N_then (W_seq (W_seq (zbt (WL_tkC hE 1 [0, 3] [] [] (orc := []) (by kernel_rfl) .n (WL_nilq hE (d := 4) (u := yT40) (xs := s1) (by kernel_rfl) (by kernel_rfl) fun nq1 e1 => (WL_nil (N_then (W_cond (b := nq1) (by kernel_rfl) (fun e2 => ?_) (fun e2 => ?_))))))))))))
 ·replace h : (some ([] : List yT61)) = some y0 := by
   rw [e1 e2] at h
   exact h
  refine W_seq (zbt (WL_allC hE [2] [] [2] (orc := []) (by kernel_rfl) .n (N_then (W_ret (zbq ?_)))))
  replace h := Option.some.inj h
  subst h
  exact N_renC [2] [] [2] [(2, 3500001)] (by kernel_rfl) (N_endB hE.P [] [3500001] (.inl rfl) (by kernel_rfl) (by kernel_rfl))
 ·refine W_skip (N_then (W_seq (zbt ?_)))
  obtain ⟨_, e3, h⟩ := bind_some h
  replace e3 := zbw e3
  refine WL_allC hE [2] [] [5] (orc := []) (by kernel_rfl) (.c e3 .n) (N_then (W_ret ?_))
  replace h := Option.some.inj h
  subst h
  exact N_renC [2] [] [5] [(5, 3500001)] (by kernel_rfl) (N_endB hE.P [] [3500001] (.inl rfl) (by kernel_rfl) (by kernel_rfl))
noncomputable def zi0 (k : Nat) : PB Tryz.prog Gl yT54 yT54 := ⟨171, zix k, fun st => getH st [.sl 0 yT37], fun z => zgs k (z), (ziz k), fun _ _ h => h⟩
noncomputable def zi1 (k : Nat) : FnB yT53 yT53 where
 n := 8
 S := fun z => ⟨[(0, .val yT34 (z))], [], []⟩
 S' := fun z y => ⟨[], [], [(3500001, ⟨169, yT35, (y)⟩)]⟩
 rs := fun z y => [.row 3500001]
 rel := fun z y => zgt k (z) = some y
noncomputable def zi2 (k : Nat) : Env := envOf Tryz.prog Gl 8 []
theorem zi3 (k : Nat) : BC Tryz.prog Gl 172 (zi1 k) := by
 refine bc_of (fn := Tryz.f172) Tryz.func172 (by kernel_rfl) rfl Tryz.ntmps172 ?_
 rintro cx hP hn hG s1 y0 h
 have hE : EnvOK (zi2 k) cx := envOf_ok hP hn hG
 replace h : zgt k s1 = some y0 := h
 unfold zgt at h
 refine W_seq (zbt (WL_allC hE [0] [] [] (orc := []) (by kernel_rfl) .n (N_then (W_seq (W_seq (zbt (WL_tkC hE 1 [0, 3] [] [] (orc := []) (by kernel_rfl) .n (WL_nilq hE (d := 4) (u := yT35) (xs := s1) (by kernel_rfl) (by kernel_rfl) fun nq1 e1 => (WL_nil (N_then (W_cond (b := nq1) (by kernel_rfl) (fun e2 => ?_) (fun e2 => ?_))))))))))))
 ·replace h : (some ([] : List yT57)) = some y0 := by
   rw [e1 e2] at h
   exact h
  refine W_seq (zbt (WL_allC hE [2] [] [2] (orc := []) (by kernel_rfl) .n (N_then (W_ret (zbq ?_)))))
  replace h := Option.some.inj h
  subst h
  exact N_renC [2] [] [2] [(2, 3500001)] (by kernel_rfl) (N_endB hE.P [] [3500001] (.inl rfl) (by kernel_rfl) (by kernel_rfl))
 ·refine W_skip (N_then (W_seq (zbt ?_)))
  obtain ⟨_, e3, h⟩ := bind_some h
  replace e3 := zbw e3
  refine WL_allC hE [2] [] [5] (orc := []) (by kernel_rfl) (.c e3 .n) (N_then (W_ret ?_))
  replace h := Option.some.inj h
  subst h
  exact N_renC [2] [] [5] [(5, 3500001)] (by kernel_rfl) (N_endB hE.P [] [3500001] (.inl rfl) (by kernel_rfl) (by kernel_rfl))
noncomputable def zi4 (k : Nat) : PB Tryz.prog Gl yT53 yT53 := ⟨172, zi1 k, fun st => getH st [.sl 0 yT34], fun z => zgt k (z), (zi3 k), fun _ _ h => h⟩
noncomputable def zi5 (k : Nat) : FnB (List (Int)) (List (Int)) where
 n := 8
 S := fun z => ⟨[(0, .val (.sl (.int .i64)) (z))], [], []⟩
 S' := fun z y => ⟨[], [], [(3500001, ⟨3, (.int .i64), (y)⟩)]⟩
 rs := fun z y => [.row 3500001]
 rel := fun z y => zgu k (z) = some y
noncomputable def E_slices_Clone___int_int__i1 (k : Nat) : Env := envOf Tryz.prog Gl 8 []
theorem b_slices_Clone___int_int__i1 (k : Nat) : BC Tryz.prog Gl 218 (zi5 k) := by
 refine bc_of (fn := Tryz.f218) Tryz.func218 (by kernel_rfl) rfl Tryz.ntmps218 ?_
 rintro cx hP hn hG s1 y0 h
 have hE : EnvOK (E_slices_Clone___int_int__i1 k) cx := envOf_ok hP hn hG
 replace h : zgu k s1 = some y0 := h
 unfold zgu at h
 refine W_seq (zbt (WL_allC hE [0] [] [] (orc := []) (by kernel_rfl) .n (N_then (W_seq (W_seq (zbt (WL_tkC hE 1 [0, 3] [] [] (orc := []) (by kernel_rfl) .n (WL_nilq hE (d := 4) (u := (.int .i64)) (xs := s1) (by kernel_rfl) (by kernel_rfl) fun nq1 e1 => (WL_nil (N_then (W_cond (b := nq1) (by kernel_rfl) (fun e2 => ?_) (fun e2 => ?_))))))))))))
 ·replace h : (some ([] : List (Int))) = some y0 := by
   rw [e1 e2] at h
   exact h
  refine W_seq (zbt (WL_allC hE [2] [] [2] (orc := []) (by kernel_rfl) .n (N_then (W_ret (zbq ?_)))))
  replace h := Option.some.inj h
  subst h
  exact N_renC [2] [] [2] [(2, 3500001)] (by kernel_rfl) (N_endB hE.P [] [3500001] (.inl rfl) (by kernel_rfl) (by kernel_rfl))
 ·refine W_skip (N_then (W_seq (zbt ?_)))
  obtain ⟨_, e3, h⟩ := bind_some h
  replace e3 := zbw e3
  refine WL_allC hE [2] [] [5] (orc := []) (by kernel_rfl) (.c e3 .n) (N_then (W_ret ?_))
  replace h := Option.some.inj h
  subst h
  exact N_renC [2] [] [5] [(5, 3500001)] (by kernel_rfl) (N_endB hE.P [] [3500001] (.inl rfl) (by kernel_rfl) (by kernel_rfl))
noncomputable def pb_slices_Clone___int_int__i1 (k : Nat) : PB Tryz.prog Gl (List (Int)) (List (Int)) := ⟨218, zi5 k, fun st => getH st [.sl 0 (.sl (.int .i64))], fun z => zgu k (z), (b_slices_Clone___int_int__i1 k), fun _ _ h => h⟩
noncomputable def zi6 (k : Nat) : FnB yT29 yT44 where
 n := 59
 S := fun z => ⟨[(0, I64 (z.1)), (1, .ptr 59 0), (2, .ptr 60 0), (3, .ptr 61 0), (4, .ptr 63 0)], [(59, .cells [.val yT31 (z.2.1)] 83), (60, .cells [BB (z.2.2.1)] 4), (61, .cells [.osl 62] 83), (62, .rr 207 ⟨yT32, 4, 3, (.int .i64)⟩ (z.2.2.2) none), (63, .cells [.clos 217 [59, 60, 61, 63]] 157)], []⟩
 S' := fun z y => ⟨[], [(59, .cells [.val yT31 (z.2.1)] 83), (60, .cells [BB (z.2.2.1)] 4), (61, .cells [.osl 62] 83), (62, .rr 207 ⟨yT32, 4, 3, (.int .i64)⟩ (y) none), (63, .cells [.clos 217 [59, 60, 61, 63]] 157)], []⟩
 rs := fun z y => []
 rel := fun z y => zgx k (z.1) (z.2.1) (z.2.2.1) (z.2.2.2) = some y
noncomputable def zi7 (k : Nat) (h : BC Tryz.prog Gl 217 (zi6 k)) : PB Tryz.prog Gl yT29 yT44 := ⟨217, zi6 k, fun st => getH st [.sl 0 (.int .i64), .bx 59 0 yT31, .bx 60 0 .bool, .rr 62 yT32], fun z => zgx k (z.1) (z.2.1) (z.2.2.1) (z.2.2.2), h, fun _ _ h => h⟩
theorem b_pattern_walked_c1_i3 : ∀ k : Nat, BC Tryz.prog Gl 217 (zi6 k)
 | 0 => mkB0 Tryz.func217 (by kernel_rfl) rfl _ fun _ _ h => nomatch (show (none : Option _) = some _ from h)
 | k + 1 => mkB Tryz.func217 (by kernel_rfl) rfl (zi6 (k + 1)) Tryz.ntmps217 [] (fun z => zgx (k + 1) (z.1) (z.2.1) (z.2.2.1) (z.2.2.2)) (fun _ _ h => h) (fun st => getH st [.rr 62 yT32]) [59, 60, 61, 62, 63] [] (fun z => .sk 1 (.a yT32 fun x1 => .sk 1 (.cb (pb_slices_Clone___int_int__i1 k) [] [(3500001, 17)] (fun _ => .j [.rw 17 3 (.int .i64)] (sB [1, 2, 3, 4, 6, 7] [6, 59, 60, 61, 62, 63] [17]) (zgw k (z.2.2.2) x1 (zgx k) (z.2.1) (z.2.2.1)) (.sk 1 (.pg 3 (.t (.ci pi_Rev_int .z)))) (fun z'1 => .sk 5 (.lp [.sl 38 (.int .i64), .rr 62 yT32] (sB [1, 2, 3, 4, 8, 36, 37, 38] [59, 60, 61, 62, 63] [17]) (fun n => Un2 (zgv z'1 (z.2.2.2) (zgx k) (z.2.1) (z.2.2.1) n)) k fun _ _ => .sk 2 (.t (.sk 3 (.u 0 (.sk 1 (.la [[], [0], [1], [2], [3], [7], [1, 0], [2, 0], [3, 0], [7, 0], [2, 1], [3, 1], [7, 1], [3, 2], [7, 2], [7, 3], [8, 7], [2, 1, 0], [3, 1, 0], [7, 1, 0], [3, 2, 0], [7, 2, 0], [7, 3, 0], [8, 7, 0], [3, 2, 1], [7, 2, 1], [7, 3, 1], [8, 7, 1], [4, 3, 2], [7, 3, 2], [8, 7, 2], [8, 7, 3], [9, 8, 7], [3, 2, 1, 0], [7, 2, 1, 0], [7, 3, 1, 0], [8, 7, 1, 0], [4, 3, 2, 0], [7, 3, 2, 0], [8, 7, 2, 0], [8, 7, 3, 0], [9, 8, 7, 0], [4, 3, 2, 1], [7, 3, 2, 1], [8, 7, 2, 1], [8, 7, 3, 1], [9, 8, 7, 1], [5, 4, 3, 2], [7, 4, 3, 2], [8, 7, 3, 2], [9, 8, 7, 2], [9, 8, 7, 3], [4, 3, 2, 1, 0], [7, 3, 2, 1, 0], [8, 7, 2, 1, 0], [8, 7, 3, 1, 0], [9, 8, 7, 1, 0], [5, 4, 3, 2, 0], [7, 4, 3, 2, 0], [8, 7, 3, 2, 0], [9, 8, 7, 2, 0], [9, 8, 7, 3, 0], [5, 4, 3, 2, 1], [7, 4, 3, 2, 1], [8, 7, 3, 2, 1], [9, 8, 7, 2, 1], [9, 8, 7, 3, 1], [6, 5, 4, 3, 2], [7, 5, 4, 3, 2], [8, 7, 4, 3, 2], [9, 8, 7, 3, 2], [5, 4, 3, 2, 1, 0], [7, 4, 3, 2, 1, 0], [8, 7, 3, 2, 1, 0], [9, 8, 7, 2, 1, 0], [9, 8, 7, 3, 1, 0], [6, 5, 4, 3, 2, 0], [7, 5, 4, 3, 2, 0], [8, 7, 4, 3, 2, 0], [9, 8, 7, 3, 2, 0], [6, 5, 4, 3, 2, 1], [7, 5, 4, 3, 2, 1], [8, 7, 4, 3, 2, 1], [9, 8, 7, 3, 2, 1], [7, 6, 5, 4, 3, 2], [8, 7, 5, 4, 3, 2], [9, 8, 7, 4, 3, 2], [6, 5, 4, 3, 2, 1, 0], [7, 5, 4, 3, 2, 1, 0], [8, 7, 4, 3, 2, 1, 0], [9, 8, 7, 3, 2, 1, 0], [7, 6, 5, 4, 3, 2, 0], [8, 7, 5, 4, 3, 2, 0], [9, 8, 7, 4, 3, 2, 0], [7, 6, 5, 4, 3, 2, 1], [8, 7, 5, 4, 3, 2, 1], [9, 8, 7, 4, 3, 2, 1], [8, 7, 6, 5, 4, 3, 2], [9, 8, 7, 5, 4, 3, 2], [7, 6, 5, 4, 3, 2, 1, 0], [8, 7, 5, 4, 3, 2, 1, 0], [9, 8, 7, 4, 3, 2, 1, 0], [8, 7, 6, 5, 4, 3, 2, 0], [9, 8, 7, 5, 4, 3, 2, 0], [8, 7, 6, 5, 4, 3, 2, 1], [9, 8, 7, 5, 4, 3, 2, 1], [9, 8, 7, 6, 5, 4, 3, 2], [8, 7, 6, 5, 4, 3, 2, 1, 0], [9, 8, 7, 5, 4, 3, 2, 1, 0], [9, 8, 7, 6, 5, 4, 3, 2, 0], [9, 8, 7, 6, 5, 4, 3, 2, 1], [10, 9, 8, 7, 6, 5, 4, 3, 2], [9, 8, 7, 6, 5, 4, 3, 2, 1, 0], [10, 9, 8, 7, 6, 5, 4, 3, 2, 0], [10, 9, 8, 7, 6, 5, 4, 3, 2, 1], [10, 9, 8, 7, 6, 5, 4, 3, 2, 1, 0], [11, 10, 9, 8, 7, 6, 5, 4, 3, 2, 1, 0], [12, 11, 10, 9, 8, 7, 6, 5, 4, 3, 2, 1, 0], [13, 12, 11, 10, 9, 8, 7, 6, 5, 4, 3, 2, 1, 0]] (.sk 1 (.u 0 (.u 0 (.cb (zi7 k (b_pattern_walked_c1_i3 k)) [(59, 59), (60, 60), (61, 61), (62, 62), (63, 63)] [(59, 59), (60, 60), (61, 61), (62, 62), (63, 63)] (fun _ => .z)))))))))))))))) (by kernel_rfl)
noncomputable def pb_pattern_walked_c1_i3 (k : Nat) : PB Tryz.prog Gl yT29 yT44 := zi7 k (b_pattern_walked_c1_i3 k)
noncomputable def zi8 (k : Nat) : FnB yT30 yT44 where
 n := 15
 S := fun z => ⟨[(0, .osl 15), (1, .val yT31 (z.1)), (2, I64 (z.2.1)), (3, BB (z.2.2.1))], [(15, .rr 207 ⟨yT32, 4, 3, (.int .i64)⟩ (z.2.2.2) none)], []⟩
 S' := fun z y => ⟨[], [(15, .rr 207 ⟨yT32, 4, 3, (.int .i64)⟩ (y) none)], []⟩
 rs := fun z y => [.osl 15]
 rel := fun z y => zgy k (z.1) (z.2.1) (z.2.2.1) (z.2.2.2) = some y
theorem b_pattern_walked_i3 (k : Nat) : BC Tryz.prog Gl 199 (zi8 k) := mkB Tryz.func199 (by kernel_rfl) rfl (zi8 k) Tryz.ntmps199 [] (fun z => zgy k (z.1) (z.2.1) (z.2.2.1) (z.2.2.2)) (fun _ _ h => h) (fun st => getH st [.rr 15 yT32]) [15] [] (fun _ => .sk 5 (.cb (pb_pattern_walked_c1_i3 k) [(5, 59), (7, 60), (4, 61), (15, 62), (9, 63)] [(59, 5), (60, 7), (61, 4), (62, 15), (63, 9)] (fun _ => .z))) (by kernel_rfl)
noncomputable def pb_pattern_walked_i3 (k : Nat) : PB Tryz.prog Gl yT30 yT44 := ⟨199, zi8 k, fun st => getH st [.sl 1 yT31, .sl 2 (.int .i64), .sl 3 .bool, .rr 15 yT32], fun z => zgy k (z.1) (z.2.1) (z.2.2.1) (z.2.2.2), (b_pattern_walked_i3 k), fun _ _ h => h⟩
noncomputable def F_pattern_Turned (k : Nat) : FnF := ⟨[yT28], [yT28, (.int .i64)], [], fun x => zgz k x⟩
theorem c_pattern_Turned (k : Nat) : Contract Tryz.prog Gl 175 (F_pattern_Turned k).toC := mkC zby Tryz.func175 (by kernel_rfl) rfl Tryz.ntmps175 (F_pattern_Turned k) (by kernel_rfl) [q_pattern_tree k] (fun _ => .sk 4 (.f (.sk 1 (.cn (pb_pattern_walked_i3 k) 0 5000000 [(5000000, 15)] [(15, 5000000)] (fun _ => .z))))) (by kernel_rfl)
noncomputable def q_pattern_Turned (k : Nat) : PF Tryz.prog Gl := ⟨175, F_pattern_Turned k, c_pattern_Turned k⟩
noncomputable def F_rule_turned (k : Nat) : FnF := ⟨[yT5], [yT5], [], fun x => rule_turned k x⟩
theorem c_rule_turned (k : Nat) : Contract Tryz.prog Gl 139 (F_rule_turned k).toC := mkC zby Tryz.func139 (by kernel_rfl) rfl Tryz.ntmps139 (F_rule_turned k) (by kernel_rfl) [q_pattern_Turned k] (fun x => .sk 3 (.cb (zi0 k) [] [(3500001, 8)] (fun v1 => .sk 1 (.cb (zi4 k) [] [(3500001, 12)] (fun v2 => .sk 1 (.ci pi_Rev_Slot (.sk 1 (.ci pi_Rev_Swap (.sk 2 (.lp [.sl 23 (.int .i64), .rw 12 169 yT35] (sB [1, 2, 3, 22, 23] [1, 2, 3] [8, 12]) (fun n => Un2 (zg0 k v2 v1 x n)) k fun g'1 y'1 => .sk 2 (.t (.j [.rw 12 169 yT35] (sB [1, 2, 3, 22, 23] [1, 2, 3] [8, 12]) (rule_turned_j1 (Cn2 g'1) (y'1.1)) (.sk 3 (.u 0 (.t (.tl 16 (.u 0 (.u 0 (.u 0 (.u 0 .z)))))))) (fun _ => .z))))))))))))) (by kernel_rfl)
noncomputable def q_rule_turned (k : Nat) : PF Tryz.prog Gl := ⟨139, F_rule_turned k, c_rule_turned k⟩
noncomputable def F_rule_makes_false (k : Nat) : FnF := ⟨[yT33, yT5, .str, .bool], [(.sl .str), (.int .i64)], [], fun x => cK (Bool.not (x.2.2.2)) (zg3 k (x.1) (x.2.1) (x.2.2.1))⟩
theorem c_rule_makes_false (k : Nat) : Contract Tryz.prog Gl 99 (F_rule_makes_false k).toC := mkCc zby Tryz.func99 (by kernel_rfl) rfl Tryz.ntmps99 (F_rule_makes_false k) (by kernel_rfl) [q_rule_Check k, q_rule_turned k] [yT33, yT5, .str] (fun x => ((x.1), (x.2.1), (x.2.2), false)) (fun x => zg3 k (x.1) (x.2.1) (x.2.2)) (fun z y h => by obtain ⟨a0, a1, a2, a3⟩ := z; obtain ⟨e3, h⟩ := cK_some h; have q3 : a3 = false := (by cases a3 <;> first | rfl | cases e3); subst q3; exact ⟨(a0, a1, a2), rfl, h⟩) (fun _ => .sk 6 (.f (.sk 1 (.cb (pb_rule_letters_i1 k) [] [(3500001, 29)] (fun _ => .sk 2 (.f (.sk 3 (.c (.sk 1 (.cb (zic k) [] [(2, 41), (14, 96), (16, 95)] (fun _ => .sk 1 (.fz 29 (.cb (pb_rule_maker_run_i6 k) [(95, 161), (96, 162), (41, 163)] [(161, 95), (162, 96), (163, 41), (3500001, 47)] (fun _ => .z)))))) (.sk 1 (.c (.sk 1 (.cb (zic k) [] [(2, 54), (14, 96), (16, 95)] (fun _ => .sk 1 (.fz 29 (.cb (pb_rule_maker_run_i7 k) [(95, 161), (96, 162), (54, 163)] [(161, 95), (162, 96), (163, 54), (3500001, 60)] (fun _ => .z)))))) (.sk 1 (.la [[], [0], [1], [1, 0], [2, 1], [2, 1, 0], [3, 2, 1, 0], [4, 3, 2, 1, 0]] (.sk 1 (.cb (zic k) [] [(2, 66), (14, 96), (16, 95)] (fun _ => .sk 1 (.ci pi_Rev_rune (.sk 1 (.fz 29 (.cb (pb_rule_maker_run_i7 k) [(95, 161), (96, 162), (66, 163)] [(161, 95), (162, 96), (163, 66), (3500001, 75)] (fun v9 => .sk 2 (.lp [.sl 80 (.int .i64), .rw 75 9 .str] (sB [12, 16, 78, 79, 80] [] [75]) (fun n => Un2 (zg2 v9 n)) k fun _ _ => .sk 2 (.t (.sk 3 (.u 0 (.sk 2 (.ci pi_Rev_rune (.u 0 (.u 0 .z)))))))))))))))))))))))))))) (by kernel_rfl)
noncomputable def q_rule_makes_false (k : Nat) : PF Tryz.prog Gl := ⟨99, F_rule_makes_false k, c_rule_makes_false k⟩
noncomputable def F_rule_Apply (k : Nat) : FnF := ⟨[yT33, yT5, .str], [.str, (.int .i64)], [], fun x => rule_Apply k (x.1) (x.2.1) (x.2.2)⟩
theorem c_rule_Apply (k : Nat) : Contract Tryz.prog Gl 71 (F_rule_Apply k).toC := mkC zby Tryz.func71 (by kernel_rfl) rfl Tryz.ntmps71 (F_rule_Apply k) (by kernel_rfl) [q_rule_makes_false k] (fun _ => .z) (by kernel_rfl)
noncomputable def q_rule_Apply (k : Nat) : PF Tryz.prog Gl := ⟨71, F_rule_Apply k, c_rule_Apply k⟩
noncomputable def F_law_behind (k : Nat) : FnF := ⟨[yT33, .str, yT4], [.str, (.sl (.pair (.int .i64) (.pair .str (.pair .str .unit)))), (.int .i64)], [], fun x => law_behind k (x.1) (x.2.1) (x.2.2)⟩
theorem c_law_behind (k : Nat) : Contract Tryz.prog Gl 42 (F_law_behind k).toC := mkC zby Tryz.func42 (by kernel_rfl) rfl Tryz.ntmps42 (F_law_behind k) (by kernel_rfl) [q_rule_Apply k] (fun x => .sk 6 (.lp [.sl 1 .str, .sl 16 (.int .i64), .rw 9 130 (.pair (.int .i64) (.pair .str (.pair .str .unit)))] (sB [1, 3, 9, 14, 15, 16] [3] [9]) (fun n => Un3 (law_behind_l1 k (x.2.2) (x.1) n)) k fun g'1 y'1 => .sk 2 (.t (.sk 4 (.ac [.str, (.int .i64)] fun v1 => .sk 2 (.f (.j [.rw 9 130 (.pair (.int .i64) (.pair .str (.pair .str .unit)))] (sB [3, 9, 12, 14, 15, 16] [3] [9]) (law_behind_j1 (Cn3 g'1) v1 (y'1.2.1)) .z (fun _ => .z)))))))) (by kernel_rfl)
noncomputable def q_law_behind (k : Nat) : PF Tryz.prog Gl := ⟨42, F_law_behind k, c_law_behind k⟩
noncomputable def F_law_Apply (k : Nat) : FnF := ⟨[yT33, yT4, .str], [.str, (.int .i64)], [], fun x => zg4 k (x.1) (x.2.1) (x.2.2)⟩
theorem c_law_Apply (k : Nat) : Contract Tryz.prog Gl 16 (F_law_Apply k).toC := mkC zby Tryz.func16 (by kernel_rfl) rfl Tryz.ntmps16 (F_law_Apply k) (by kernel_rfl) [q_law_asked k, q_law_behind k] (fun _ => .z) (by kernel_rfl)
noncomputable def q_law_Apply (k : Nat) : PF Tryz.prog Gl := ⟨16, F_law_Apply k, c_law_Apply k⟩
noncomputable def F_family_Table (k : Nat) : FnF := ⟨[yT1, .str], [(.sl .str), (.int .i64)], [], fun x => family_Table k (x.1) (x.2)⟩
theorem c_family_Table (k : Nat) : Contract Tryz.prog Gl 11 (F_family_Table k).toC := mkC zby Tryz.func11 (by kernel_rfl) rfl Tryz.ntmps11 (F_family_Table k) (by kernel_rfl) [q_family_asked k, q_word_Check k, q_law_Apply k] (fun x => .sk 6 (.f (.sk 4 (.f (.sk 4 (.lp [.sl 33 (.int .i64), .rw 29 9 .str] (sB [1, 2, 8, 31, 32, 33] [2] [29]) (fun n => Un2 (zg6 k (x.1) (x.2) n)) k fun g'1 y'1 => .sk 2 (.t (.sk 2 (.a yT3 fun x1 => .sk 1 (.j [.sl 11 .str] (sB [1, 2, 8, 9, 10, 11, 31, 32, 33] [2, 10] [29]) (zg5 k (x.1) x1 (y'1.2) (y'1.1) (Cn2 g'1)) (.sk 1 (.t (.sk 1 (.u 0 .z)))) (fun _ => .sk 4 (.f (.sk 1 (.u 0 .z)))))))))))))) (by kernel_rfl)
noncomputable def q_family_Table (k : Nat) : PF Tryz.prog Gl := ⟨11, F_family_Table k, c_family_Table k⟩
noncomputable def F_family_path (k : Nat) : FnF := ⟨[yT1, (.int .i64)], [(.sl (.int .i64))], [], fun x => family_path k (x.1) (x.2)⟩
theorem c_family_path (k : Nat) : Contract Tryz.prog Gl 31 (F_family_path k).toC := mkC zby Tryz.func31 (by kernel_rfl) rfl Tryz.ntmps31 (F_family_path k) (by kernel_rfl) [] (fun x => .sk 5 (.lp [.sl 1 (.int .i64), .rw 5 3 (.int .i64)] (sB [1, 2, 5] [2] [5]) (fun n => Un2 (zd9 (x.1) n)) k fun _ _ => .sk 2 (.f (.sk 1 (.ci pi_Rev_int .z))))) (by kernel_rfl)
noncomputable def q_family_path (k : Nat) : PF Tryz.prog Gl := ⟨31, F_family_path k, c_family_path k⟩
noncomputable def F_family_Down (k : Nat) : FnF := ⟨[yT1, (.int .i64), .str], [.str, (.int .i64)], [], fun x => family_Down k (x.1) (x.2.1) (x.2.2)⟩
theorem c_family_Down (k : Nat) : Contract Tryz.prog Gl 9 (F_family_Down k).toC := mkC zby Tryz.func9 (by kernel_rfl) rfl Tryz.ntmps9 (F_family_Down k) (by kernel_rfl) [q_family_asked k, q_word_Check k, q_family_path k, q_law_Apply k] (fun x => .sk 5 (.f (.sk 4 (.f (.sk 2 (.ac [(.sl (.int .i64))] fun v3 => .lp [.sl 2 .str, .sl 31 (.int .i64)] (sB [2, 3, 29, 30, 31] [3] []) (fun n => Un2 (zg7 k v3 (x.1) n)) k fun _ _ => .z)))))) (by kernel_rfl)
noncomputable def q_family_Down (k : Nat) : PF Tryz.prog Gl := ⟨9, F_family_Down k, c_family_Down k⟩
noncomputable def F_l27_FamilySteps (k : Nat) : FnF := ⟨[yT1, .str], [.bool], [], fun x => zhb k (x.1) (x.2)⟩
theorem c_l27_FamilySteps (k : Nat) : Contract Tryz.prog Gl 4 (F_l27_FamilySteps k).toC := mkC zby Tryz.func4 (by kernel_rfl) rfl Tryz.ntmps4 (F_l27_FamilySteps k) (by kernel_rfl) [q_l27_awake k, q_l27_large k, q_family_Table k, q_law_Apply k, q_family_Down k] (fun x => .sk 5 (.f (.sk 3 (.f (.sk 1 (.ac [(.sl .str), (.int .i64)] fun v3 => .sk 2 (.f (.sk 2 (.pg 3 (.g 5 (zha k v3 (x.1) (x.2)) .z .z (fun _ => .f (.sk 2 (.lp [.sl 8 (.int .i64)] (sB [1, 2, 6, 8] [2] []) (zg9 k v3 (x.1) (x.2)) k fun g'1 y'1 => .sk 2 (.t (.sk 5 (.pg 3 (.f (.sk 4 (.ac [.str, (.int .i64)] fun v4 => .sk 1 (.ac [.str, (.int .i64)] fun v5 => .sk 1 (.g 6 (zg8 g'1 y'1 v5 v4) .z .z (fun _ => .pg 2 (.pg 3 .z))))))))))))))))))))))) (by kernel_rfl)
noncomputable def q_l27_FamilySteps (k : Nat) : PF Tryz.prog Gl := ⟨4, F_l27_FamilySteps k, c_l27_FamilySteps k⟩
end Go.Ev
