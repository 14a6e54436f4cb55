/- Contracts, by program. -/
import Derived.Test.YtgkgdfmldioddaaGreatDoorProg
import Derived.Test.YtgkgdfmldioddaaGreatDoorMM6
import Derived.Test.YtgkgdfmldioddaaGreatDoorMM7
import Derived.Test.YtgkgdfmldioddaaGreatDoorMM8
import Derived.Test.YtgkgdfmldioddaaGreatDoorCtFsP3
import Derived.KernelRfl
import Derived.Test.YtgkgdfmldioddaaGreatDoorTyA
set_option linter.unusedSectionVars false
set_option linter.unusedVariables false
set_option linter.unusedSimpArgs false
namespace Go.Ev
open Go Go.Proofs
set_option linter.unusedVariables false
set_option maxRecDepth 100000
noncomputable def ziu (k : Nat) : FnB yT18 (List (Int)) where
 n := 6
 S := fun z => ⟨[(0, .ptr 6 0), (1, .val yT74 (z.1))], [(6, .cells [SS (z.2.1), .val yT37 (z.2.2.1), .val yT34 (z.2.2.2.1), .val yT31 (z.2.2.2.2.1), .val yT31 (z.2.2.2.2.2.1), U8 (z.2.2.2.2.2.2.1), BB (z.2.2.2.2.2.2.2.1), .iter 7, .clos 163 [8]] 241), (7, .mp yT66 yT65 (z.2.2.2.2.2.2.2.2.1)), (8, .cells [.val (.sl .str) (z.2.2.2.2.2.2.2.2.2.1), .val yT37 (z.2.2.2.2.2.2.2.2.2.2)] 25)], []⟩
 S' := fun z y => ⟨[], [(2, .cells [.ptr 6 0] 212), (3, .cells [.val yT74 (y)] 50), (6, .cells [SS (z.2.1), .val yT37 (z.2.2.1), .val yT34 (z.2.2.2.1), .val yT31 (z.2.2.2.2.1), .val yT31 (z.2.2.2.2.2.1), U8 (z.2.2.2.2.2.2.1), BB (z.2.2.2.2.2.2.2.1), .iter 7, .clos 163 [8]] 241), (7, .mp yT66 yT65 (z.2.2.2.2.2.2.2.2.1)), (8, .cells [.val (.sl .str) (z.2.2.2.2.2.2.2.2.2.1), .val yT37 (z.2.2.2.2.2.2.2.2.2.2)] 25)], []⟩
 rs := fun z y => [.clos 170 [2, 3]]
 rel := fun z y => zgc k (z.1) (z.2.1) (z.2.2.1) (z.2.2.2.1) (z.2.2.2.2.1) (z.2.2.2.2.2.1) (z.2.2.2.2.2.2.1) (z.2.2.2.2.2.2.2.1) (z.2.2.2.2.2.2.2.2.1) (z.2.2.2.2.2.2.2.2.2.1) (z.2.2.2.2.2.2.2.2.2.2) = some y
theorem b_rule_maker_right_i1 (k : Nat) : BC Tryz.prog Gl 138 (ziu k) := mkB Tryz.func138 (by kernel_rfl) rfl (ziu k) Tryz.ntmps138 [] (fun z => zgc k (z.1) (z.2.1) (z.2.2.1) (z.2.2.2.1) (z.2.2.2.2.1) (z.2.2.2.2.2.1) (z.2.2.2.2.2.2.1) (z.2.2.2.2.2.2.2.1) (z.2.2.2.2.2.2.2.2.1) (z.2.2.2.2.2.2.2.2.2.1) (z.2.2.2.2.2.2.2.2.2.2)) (fun _ _ h => h) (fun st => getH st [.bx 3 0 yT74]) [2, 3, 6, 7, 8] [] (fun _ => .z) (by kernel_rfl)
noncomputable def pb_rule_maker_right_i1 (k : Nat) : PB Tryz.prog Gl yT18 (List (Int)) := ⟨138, ziu k, fun st => getH st [.sl 1 yT74, .bx 6 0 .str, .bx 6 1 yT37, .bx 6 2 yT34, .bx 6 3 yT31, .bx 6 4 yT31, .bx 6 5 (.int .u8), .bx 6 6 .bool, .mp 7 yT66 yT65, .bx 8 0 (.sl .str), .bx 8 1 yT37], fun z => zgc k (z.1) (z.2.1) (z.2.2.1) (z.2.2.2.1) (z.2.2.2.2.1) (z.2.2.2.2.2.1) (z.2.2.2.2.2.2.1) (z.2.2.2.2.2.2.2.1) (z.2.2.2.2.2.2.2.2.1) (z.2.2.2.2.2.2.2.2.2.1) (z.2.2.2.2.2.2.2.2.2.2), (b_rule_maker_right_i1 k), fun _ _ h => h⟩
noncomputable def ziv (k : Nat) : FnB yT11 yT20 where
 n := 19
 S := fun z => ⟨[(0, SS (z.1)), (1, I64 (z.2.1)), (2, .ptr 19 0), (3, .ptr 23 0)], [(19, .cells [.ptr 20 0] 212), (20, .cells [SS (z.2.2.1), .val yT37 (z.2.2.2.1), .val yT34 (z.2.2.2.2.1), .val yT31 (z.2.2.2.2.2.1), .val yT31 (z.2.2.2.2.2.2.1), U8 (z.2.2.2.2.2.2.2.1), BB (z.2.2.2.2.2.2.2.2.1), .iter 21, .clos 163 [22]] 241), (21, .mp yT66 yT65 (z.2.2.2.2.2.2.2.2.2.1)), (22, .cells [.val (.sl .str) (z.2.2.2.2.2.2.2.2.2.2.1), .val yT37 (z.2.2.2.2.2.2.2.2.2.2.2.1)] 25), (23, .cells [.val yT74 (z.2.2.2.2.2.2.2.2.2.2.2.2)] 50)], []⟩
 S' := fun z y => ⟨[], [(19, .cells [.ptr 20 0] 212), (20, .cells [SS (y.2.1), .val yT37 (y.2.2.1), .val yT34 (y.2.2.2.1), .val yT31 (y.2.2.2.2.1), .val yT31 (y.2.2.2.2.2.1), U8 (y.2.2.2.2.2.2.1), BB (y.2.2.2.2.2.2.2.1), .iter 21, .clos 163 [22]] 241), (21, .mp yT66 yT65 (y.2.2.2.2.2.2.2.2.1)), (22, .cells [.val (.sl .str) (y.2.2.2.2.2.2.2.2.2.1), .val yT37 (y.2.2.2.2.2.2.2.2.2.2)] 25), (23, .cells [.val yT74 (z.2.2.2.2.2.2.2.2.2.2.2.2)] 50)], []⟩
 rs := fun z y => [BB (y.1)]
 rel := fun z y => zgd k (z.1) (z.2.1) (z.2.2.1) (z.2.2.2.1) (z.2.2.2.2.1) (z.2.2.2.2.2.1) (z.2.2.2.2.2.2.1) (z.2.2.2.2.2.2.2.1) (z.2.2.2.2.2.2.2.2.1) (z.2.2.2.2.2.2.2.2.2.1) (z.2.2.2.2.2.2.2.2.2.2.1) (z.2.2.2.2.2.2.2.2.2.2.2.1) (z.2.2.2.2.2.2.2.2.2.2.2.2) = some y
theorem ziw (k : Nat) : BC Tryz.prog Gl 170 (ziv k) := mkB Tryz.func170 (by kernel_rfl) rfl (ziv k) Tryz.ntmps170 [] (fun z => zgd k (z.1) (z.2.1) (z.2.2.1) (z.2.2.2.1) (z.2.2.2.2.1) (z.2.2.2.2.2.1) (z.2.2.2.2.2.2.1) (z.2.2.2.2.2.2.2.1) (z.2.2.2.2.2.2.2.2.1) (z.2.2.2.2.2.2.2.2.2.1) (z.2.2.2.2.2.2.2.2.2.2.1) (z.2.2.2.2.2.2.2.2.2.2.2.1) (z.2.2.2.2.2.2.2.2.2.2.2.2)) (fun _ _ h => h) (fun st => getH st [.sl 0 .bool, .bx 20 0 .str, .bx 20 1 yT37, .bx 20 2 yT34, .bx 20 3 yT31, .bx 20 4 yT31, .bx 20 5 (.int .u8), .bx 20 6 .bool, .mp 21 yT66 yT65, .bx 22 0 (.sl .str), .bx 22 1 yT37]) [19, 20, 21, 22, 23] [] (fun _ => .sk 3 (.la [[], [0], [1], [2], [3], [6], [1, 0], [2, 0], [3, 0], [6, 0], [2, 1], [3, 1], [6, 1], [3, 2], [6, 2], [6, 3], [7, 6], [2, 1, 0], [3, 1, 0], [6, 1, 0], [3, 2, 0], [6, 2, 0], [6, 3, 0], [7, 6, 0], [3, 2, 1], [6, 2, 1], [6, 3, 1], [7, 6, 1], [4, 3, 2], [6, 3, 2], [7, 6, 2], [7, 6, 3], [3, 2, 1, 0], [6, 2, 1, 0], [6, 3, 1, 0], [7, 6, 1, 0], [4, 3, 2, 0], [6, 3, 2, 0], [7, 6, 2, 0], [7, 6, 3, 0], [4, 3, 2, 1], [6, 3, 2, 1], [7, 6, 2, 1], [7, 6, 3, 1], [6, 4, 3, 2], [7, 6, 3, 2], [4, 3, 2, 1, 0], [6, 3, 2, 1, 0], [7, 6, 2, 1, 0], [7, 6, 3, 1, 0], [6, 4, 3, 2, 0], [7, 6, 3, 2, 0], [5, 4, 3, 2, 1], [6, 4, 3, 2, 1], [7, 6, 3, 2, 1], [7, 6, 4, 3, 2], [5, 4, 3, 2, 1, 0], [6, 4, 3, 2, 1, 0], [7, 6, 3, 2, 1, 0], [7, 6, 4, 3, 2, 0], [6, 5, 4, 3, 2, 1], [7, 6, 4, 3, 2, 1], [6, 5, 4, 3, 2, 1, 0], [7, 6, 4, 3, 2, 1, 0], [7, 6, 5, 4, 3, 2, 1], [7, 6, 5, 4, 3, 2, 1, 0], [8, 7, 6, 5, 4, 3, 2, 1, 0], [9, 8, 7, 6, 5, 4, 3, 2, 1, 0]] (.sk 1 (.un 15 (.fz 9 (.cb (zii k) [(20, 91), (21, 92), (22, 93)] [(91, 20), (92, 21), (93, 22)] (fun _ => .z))))))) (by kernel_rfl)
noncomputable def pb_rule_maker_right_c1_i1 (k : Nat) : PB Tryz.prog Gl yT11 yT20 := ⟨170, ziv k, fun st => getH st [.sl 0 .str, .sl 1 (.int .i64), .bx 20 0 .str, .bx 20 1 yT37, .bx 20 2 yT34, .bx 20 3 yT31, .bx 20 4 yT31, .bx 20 5 (.int .u8), .bx 20 6 .bool, .mp 21 yT66 yT65, .bx 22 0 (.sl .str), .bx 22 1 yT37, .bx 23 0 yT74], fun z => zgd k (z.1) (z.2.1) (z.2.2.1) (z.2.2.2.1) (z.2.2.2.2.1) (z.2.2.2.2.2.1) (z.2.2.2.2.2.2.1) (z.2.2.2.2.2.2.2.1) (z.2.2.2.2.2.2.2.2.1) (z.2.2.2.2.2.2.2.2.2.1) (z.2.2.2.2.2.2.2.2.2.2.1) (z.2.2.2.2.2.2.2.2.2.2.2.1) (z.2.2.2.2.2.2.2.2.2.2.2.2), (ziw k), fun _ _ h => h⟩
end Go.Ev
