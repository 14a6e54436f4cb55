/- Contracts, by program. -/
import Derived.Test.YtgkgdfmldioddaaGreatDoorProg
import Derived.Test.YtgkgdfmldioddaaGreatDoorMM6
import Derived.Test.YtgkgdfmldioddaaGreatDoorMM7
import Derived.Test.YtgkgdfmldioddaaGreatDoorMM8
import Derived.Test.YtgkgdfmldioddaaGreatDoorMM9
import Derived.Test.YtgkgdfmldioddaaGreatDoorCtCnP1
import Derived.Test.YtgkgdfmldioddaaGreatDoorCtCnP2
import Derived.Test.YtgkgdfmldioddaaGreatDoorCtCnP3
import Derived.Test.YtgkgdfmldioddaaGreatDoorCtCnP4
import Derived.Test.YtgkgdfmldioddaaGreatDoorCtCnP5
import Derived.Test.YtgkgdfmldioddaaGreatDoorCtCnP6
import Derived.Test.YtgkgdfmldioddaaGreatDoorCtCnP7
import Derived.Test.YtgkgdfmldioddaaGreatDoorCtCnP8
import Derived.KernelRfl
import Derived.Test.YtgkgdfmldioddaaGreatDoorTyA
set_option linter.unusedSectionVars false
set_option linter.unusedVariables false
set_option linter.unusedSimpArgs false
namespace Go.Ev
open Go Go.Proofs
set_option linter.unusedVariables false
set_option maxRecDepth 100000
noncomputable def F_l28_alive (k : Nat) : FnF := ⟨[], [.bool], [], fun _ => l28_alive k⟩
theorem c_l28_alive (k : Nat) : Contract Tryz.prog Gl 17 (F_l28_alive k).toC := mkC Gl_stable Tryz.func17 (by kernel_rfl) rfl Tryz.ntmps17 (F_l28_alive k) (by kernel_rfl) [q_l28_letters k, q_l28_three k, q_corr_Counts k, q_l28_count k] (fun _ => .sk 4 (.ac [yT37, (.int .i64)] fun v3 => .sk 2 (.pg 3 (.g 5 (l28_alive_j2 k v3) .z .z (fun _ => .g 5 (l28_alive_j3 k v3) .z .z (fun _ => .g 5 l28_alive_j4 .z .z (fun _ => .z))))))) (by kernel_rfl)
noncomputable def q_l28_alive (k : Nat) : PF Tryz.prog Gl := ⟨17, F_l28_alive k, c_l28_alive k⟩
noncomputable def F_l28_CorrNames (k : Nat) : FnF := ⟨[], [.bool], [], fun _ => l28_CorrNames k⟩
theorem c_l28_CorrNames (k : Nat) : Contract Tryz.prog Gl 6 (F_l28_CorrNames k).toC := mkC Gl_stable Tryz.func6 (by kernel_rfl) rfl Tryz.ntmps6 (F_l28_CorrNames k) (by kernel_rfl) [q_l28_letters k, q_l28_three k, q_corr_Regular k, q_corr_Odd k, q_corr_Sets k, q_corr_Table k, q_l28_alive k, q_l28_count k] (fun _ => .sk 11 (.nm [1, 2, 3, 4, 5, 6] [] [] (.sk 8 (.cb (pb_corr_Odd_i2 k) [(55, 10000000)] [(3500001, 56), (10000000, 55)] (fun v13 => .sk 1 (.nm [1, 2, 3, 4, 5, 6, 7, 8, 9, 10, 11, 12, 13] [] [56] (.pg 2 (.pg 2 (.pg 2 (.pg 2 (.pg 2 (.pg 1 (.pg 2 (.pg 2 (.pg 2 (.pg 3 (.g 4 (l28_CorrNames_j11 k v13) .z .z (fun _ => .pg 2 (.pg 3 (.g 4 (l28_CorrNames_j14 k) (.sk 4 (.u 0 .z)) .z (fun t14 => .sk 3 (.ac [(.sl yT95), (.int .i64)] fun v15 => .sk 1 (.cb (pb_corr_Table_i1 k) [(133, 10000000)] [(3500001, 134), (10000000, 133)] (fun v16 => .sk 1 (.nm [14, 15, 16, 17, 18, 19] [15] [134] (.ac [yT37, (.int .i64)] fun v17 => .sk 1 (.la [[], [0], [1], [1, 0], [2, 1, 0], [3, 2, 1, 0], [4, 3, 2, 1, 0], [5, 3, 2, 1, 0], [5, 4, 3, 2, 1, 0], [6, 4, 3, 2, 1, 0], [6, 5, 4, 3, 2, 1, 0], [7, 6, 5, 4, 3, 2, 1, 0]] (.sk 1 (.cb (pb_corr_Table_i1 k) [(144, 10000000)] [(3500001, 145), (10000000, 144)] (fun v18 => .sk 2 (.pg 3 (.g 5 (l28_CorrNames_j16 k v15 v16 t14 v18 v17) .z .z (fun _ => .g 5 (l28_CorrNames_j17 k v16 t14 v18 v17) .z .z (fun _ => .pg 2 (.pg 3 (.g 5 (l28_CorrNames_j20 k v16 t14 v18 v17) (.sk 4 (.u 0 .z)) .z (fun _ => .g 5 (l28_CorrNames_j21 k t14 v18 v17) (.sk 4 (.u 0 .z)) .z (fun _ => .pg 2 (.pg 2 (.sk 3 (.pg 1 (.pg 1 .z)))))))))))))))))))))))))))))))))))))))))) (by kernel_rfl)
noncomputable def q_l28_CorrNames (k : Nat) : PF Tryz.prog Gl := ⟨6, F_l28_CorrNames k, c_l28_CorrNames k⟩
end Go.Ev
