/- Contracts, by program. -/
import Derived.Test.YtgkgdfmldioddaaGreatDoorProg
import Derived.Test.YtgkgdfmldioddaaGreatDoorMM6
import Derived.Test.YtgkgdfmldioddaaGreatDoorMM8
import Derived.KernelRfl
import Derived.Test.YtgkgdfmldioddaaGreatDoorTyA
set_option linter.unusedSectionVars false
set_option linter.unusedVariables false
set_option linter.unusedSimpArgs false
namespace Go.Ev
open Go Go.Proofs
set_option linter.unusedVariables false
set_option maxRecDepth 100000
abbrev drYes : Dr := ⟨True⟩
variable [Dr]
noncomputable def F_cmp_Or_int_ (k : Nat) : FnF := ⟨[(.sl (.int .i64))], [(.int .i64)], [], fun x => cmp_Or_int_ k x⟩
theorem c_cmp_Or_int_ (k : Nat) : Contract Tryz.prog Gn 78 (F_cmp_Or_int_ k).toC := mkC Gn_stable Tryz.func78 (by kernel_rfl) rfl Tryz.ntmps78 (F_cmp_Or_int_ k) (by kernel_rfl) [] (fun x => .sk 4 (.lp [.sl 8 (.int .i64)] (sB [3, 6, 7, 8] [] []) (cmp_Or_int__l1 x) k fun _ _ => .z)) (by kernel_rfl)
noncomputable def q_cmp_Or_int_ (k : Nat) : PF Tryz.prog Gn := ⟨78, F_cmp_Or_int_ k, c_cmp_Or_int_ k⟩
noncomputable def F_corr_counted_c1 (k : Nat) : FnF := ⟨[yT58, yT58, (.ptr (.map yT58 (.int .i64))), (.ptr (.map (.int .i32) (.int .i64)))], [(.int .i64)], [(.map yT58 (.int .i64)), (.map (.int .i32) (.int .i64))], fun x => corr_counted_c1 k (x.1) (x.2.1) (x.2.2.1) (x.2.2.2)⟩
theorem c_corr_counted_c1 (k : Nat) : Contract Tryz.prog Gn 77 (F_corr_counted_c1 k).toC := mkC Gn_stable Tryz.func77 (by kernel_rfl) rfl Tryz.ntmps77 (F_corr_counted_c1 k) (by kernel_rfl) [q_cmp_Or_int_ k] (fun _ => .sk 2 (.tl 25 .z)) (by kernel_rfl)
noncomputable def q_corr_counted_c1 (k : Nat) : PF Tryz.prog Gn := ⟨77, F_corr_counted_c1 k, c_corr_counted_c1 k⟩
end Go.Ev
