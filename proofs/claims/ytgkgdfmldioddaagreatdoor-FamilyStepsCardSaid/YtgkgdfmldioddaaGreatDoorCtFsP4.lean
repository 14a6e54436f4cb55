/- Contracts, by program. -/
import Derived.Test.YtgkgdfmldioddaaGreatDoorProg
import Derived.Test.YtgkgdfmldioddaaGreatDoorMM6
import Derived.Test.YtgkgdfmldioddaaGreatDoorMM7
import Derived.Test.YtgkgdfmldioddaaGreatDoorMM8
import Derived.Test.YtgkgdfmldioddaaGreatDoorCtFsP1
import Derived.Test.YtgkgdfmldioddaaGreatDoorCtFsP3
import Derived.KernelRfl
import Derived.Test.YtgkgdfmldioddaaGreatDoorTyA
set_option linter.unusedSectionVars false
set_option linter.unusedVariables false
set_option linter.unusedSimpArgs false
namespace Go.Ev
open Go Go.Proofs
set_option linter.unusedVariables false
set_option maxRecDepth 100000
noncomputable def zij (k : Nat) : FnB yT18 yT17 where
 n := 35
 S := fun z => ⟨[(0, .ptr 35 0), (1, .val yT74 (z.1))], [(35, .cells [SS (z.2.1), .val yT37 (z.2.2.1), .val yT34 (z.2.2.2.1), .val yT31 (z.2.2.2.2.1), .val yT31 (z.2.2.2.2.2.1), U8 (z.2.2.2.2.2.2.1), BB (z.2.2.2.2.2.2.2.1), .iter 36, .clos 163 [37]] 241), (36, .mp yT66 yT65 (z.2.2.2.2.2.2.2.2.1)), (37, .cells [.val (.sl .str) (z.2.2.2.2.2.2.2.2.2.1), .val yT37 (z.2.2.2.2.2.2.2.2.2.2)] 25)], []⟩
 S' := fun z y => ⟨[], [(5, .cells [.row 10] 234), (35, .cells [SS (y.1), .val yT37 (y.2.1), .val yT34 (y.2.2.1), .val yT31 (y.2.2.2.1), .val yT31 (y.2.2.2.2.1), U8 (y.2.2.2.2.2.1), BB (y.2.2.2.2.2.2.1), .iter 36, .clos 163 [37]] 241), (36, .mp yT66 yT65 (y.2.2.2.2.2.2.2.1)), (37, .cells [.val (.sl .str) (y.2.2.2.2.2.2.2.2.1), .val yT37 (y.2.2.2.2.2.2.2.2.2.1)] 25)], [(10, ⟨4, .bool, (y.2.2.2.2.2.2.2.2.2.2)⟩)]⟩
 rs := fun z y => [.clos 169 [5]]
 rel := fun z y => zfn k (z.1) (z.2.1) (z.2.2.1) (z.2.2.2.1) (z.2.2.2.2.1) (z.2.2.2.2.2.1) (z.2.2.2.2.2.2.1) (z.2.2.2.2.2.2.2.1) (z.2.2.2.2.2.2.2.2.1) (z.2.2.2.2.2.2.2.2.2.1) (z.2.2.2.2.2.2.2.2.2.2) = some y
theorem b_rule_maker_all_i1 (k : Nat) : BC Tryz.prog Gl 137 (zij k) := mkB Tryz.func137 (by kernel_rfl) rfl (zij k) Tryz.ntmps137 [] (fun z => zfn k (z.1) (z.2.1) (z.2.2.1) (z.2.2.2.1) (z.2.2.2.2.1) (z.2.2.2.2.2.1) (z.2.2.2.2.2.2.1) (z.2.2.2.2.2.2.2.1) (z.2.2.2.2.2.2.2.2.1) (z.2.2.2.2.2.2.2.2.2.1) (z.2.2.2.2.2.2.2.2.2.2)) (fun _ _ h => h) (fun st => getH st [.bx 35 0 .str, .bx 35 1 yT37, .bx 35 2 yT34, .bx 35 3 yT31, .bx 35 4 yT31, .bx 35 5 (.int .u8), .bx 35 6 .bool, .mp 36 yT66 yT65, .bx 37 0 (.sl .str), .bx 37 1 yT37, .rw 10 4 .bool]) [5, 35, 36, 37] [10] (fun z => .sk 5 (.lp [.sl 6 (.int .i64), .bx 35 0 .str, .bx 35 1 yT37, .bx 35 2 yT34, .bx 35 3 yT31, .bx 35 4 yT31, .bx 35 5 (.int .u8), .bx 35 6 .bool, .mp 36 yT66 yT65, .bx 37 0 (.sl .str), .bx 37 1 yT37, .rw 10 4 .bool] (sB [0, 1, 5, 6] [5, 35, 36, 37] [10]) (fun n => Un12 (zfm k (z.1) n)) k fun g'1 _ => .sk 2 (.t (.j [.sl 6 (.int .i64), .bx 35 0 .str, .bx 35 1 yT37, .bx 35 2 yT34, .bx 35 3 yT31, .bx 35 4 yT31, .bx 35 5 (.int .u8), .bx 35 6 .bool, .mp 36 yT66 yT65, .bx 37 0 (.sl .str), .bx 37 1 yT37, .rw 10 4 .bool] (sB [0, 1, 5, 6] [5, 35, 36, 37] [10]) (Un12 (zfl (Cn12 g'1))) (.sk 1 (.cb (zii k) [(35, 91), (36, 92), (37, 93)] [(91, 35), (92, 36), (93, 37)] (fun _ => .t (.sk 2 (.u 0 .z))))) (fun _ => .z))))) (by kernel_rfl)
noncomputable def pb_rule_maker_all_i1 (k : Nat) : PB Tryz.prog Gl yT18 yT17 := ⟨137, zij k, fun st => getH st [.sl 1 yT74, .bx 35 0 .str, .bx 35 1 yT37, .bx 35 2 yT34, .bx 35 3 yT31, .bx 35 4 yT31, .bx 35 5 (.int .u8), .bx 35 6 .bool, .mp 36 yT66 yT65, .bx 37 0 (.sl .str), .bx 37 1 yT37], fun z => zfn k (z.1) (z.2.1) (z.2.2.1) (z.2.2.2.1) (z.2.2.2.2.1) (z.2.2.2.2.2.1) (z.2.2.2.2.2.2.1) (z.2.2.2.2.2.2.2.1) (z.2.2.2.2.2.2.2.2.1) (z.2.2.2.2.2.2.2.2.2.1) (z.2.2.2.2.2.2.2.2.2.2), (b_rule_maker_all_i1 k), fun _ _ h => h⟩
noncomputable def zik (k : Nat) : FnF := ⟨[.str], [(.int .i64)], [], fun x => zfq k x⟩
theorem c_unicode_utf8_RuneCountInString (k : Nat) : Contract Tryz.prog Gl 167 (zik k).toC := mkC zby Tryz.func167 (by kernel_rfl) rfl Tryz.ntmps167 (zik k) (by kernel_rfl) [] (fun x => .sk 3 (.lp [.sl 2 (.int .i64), .it 4] (sB [2, 4] [4] []) (fun n => Un2 (zfp x n)) k fun _ _ => .sk 1 (.c (.sk 1 (.T .z)) (.sk 1 (.F .z))))) (by kernel_rfl)
noncomputable def zil (k : Nat) : PF Tryz.prog Gl := ⟨167, zik k, c_unicode_utf8_RuneCountInString k⟩
noncomputable def zim (k : Nat) : FnF := ⟨[.str, (.int .i64), (.ptr (.sl .bool))], [.bool], [(.sl .bool)], fun x => rule_maker_all_c1 k (x.1) (x.2.1) (x.2.2)⟩
theorem c_rule_maker_all_c1 (k : Nat) : Contract Tryz.prog Gl 169 (zim k).toC := mkC zby Tryz.func169 (by kernel_rfl) rfl Tryz.ntmps169 (zim k) (by kernel_rfl) [] (fun _ => .z) (by kernel_rfl)
noncomputable def q_rule_maker_all_c1 (k : Nat) : PF Tryz.prog Gl := ⟨169, zim k, c_rule_maker_all_c1 k⟩
noncomputable def zin (k : Nat) : FnF := ⟨[(.int .u32)], [(.int .i64)], [], fun x => zee k x⟩
theorem c_math_bits_OnesCount32 (k : Nat) : Contract Tryz.prog Gl 200 (zin k).toC := mkC zby Tryz.func200 (by kernel_rfl) rfl Tryz.ntmps200 (zin k) (by kernel_rfl) [] (fun _ => .z) (by kernel_rfl)
noncomputable def q_math_bits_OnesCount32 (k : Nat) : PF Tryz.prog Gl := ⟨200, zin k, c_math_bits_OnesCount32 k⟩
noncomputable def F_feature_unlike (k : Nat) : FnF := ⟨[yT40, yT40], [(.int .i64)], [], fun x => zef k (x.1) (x.2)⟩
theorem c_feature_unlike (k : Nat) : Contract Tryz.prog Gl 176 (F_feature_unlike k).toC := mkC zby Tryz.func176 (by kernel_rfl) rfl Tryz.ntmps176 (F_feature_unlike k) (by kernel_rfl) [q_math_bits_OnesCount32 k] (fun _ => .z) (by kernel_rfl)
noncomputable def q_feature_unlike (k : Nat) : PF Tryz.prog Gl := ⟨176, F_feature_unlike k, c_feature_unlike k⟩
noncomputable def F_feature_Near_c1 (k : Nat) : FnF := ⟨[yT40, yT40, (.ptr yT40)], [(.int .i64)], [yT40], fun x => feature_Near_c1 k (x.1) (x.2.1) (x.2.2)⟩
theorem c_feature_Near_c1 (k : Nat) : Contract Tryz.prog Gl 197 (F_feature_Near_c1 k).toC := mkC zby Tryz.func197 (by kernel_rfl) rfl Tryz.ntmps197 (F_feature_Near_c1 k) (by kernel_rfl) [q_feature_unlike k] (fun _ => .z) (by kernel_rfl)
noncomputable def q_feature_Near_c1 (k : Nat) : PF Tryz.prog Gl := ⟨197, F_feature_Near_c1 k, c_feature_Near_c1 k⟩
noncomputable def zio (k : Nat) : FnF := ⟨[yT37, (.fn 197 (.pair (.ptr yT40) .unit))], [yT40], [], fun x => zfu k (x.1) (x.2)⟩
theorem ziq (k : Nat) : Contract Tryz.prog Gl 196 (zio k).toC := mkC zby Tryz.func196 (by kernel_rfl) rfl Tryz.ntmps196 (zio k) (by kernel_rfl) [q_feature_Near_c1 k] (fun x => .sk 3 (.f (.sk 4 (.lp [.sl 6 (.int .i64), .bx 5 0 (.int .i32), .bx 5 1 (.int .u32), .bx 5 2 (.int .u32)] (sB [0, 1, 4, 5, 6] [4, 5] []) (fun n => Un4 (zft k (x.1) (x.2) n)) k fun g'1 y'1 => .sk 2 (.t (.j [.bx 5 0 (.int .i32), .bx 5 1 (.int .u32), .bx 5 2 (.int .u32)] (sB [0, 1, 4, 5, 6] [4, 5] []) (Un3 (zfr (Cn4 g'1) (y'1.1))) (.sk 4 (.t (.u 0 .z))) (fun _ => .z))))))) (by kernel_rfl)
noncomputable def zir (k : Nat) : PF Tryz.prog Gl := ⟨196, zio k, ziq k⟩
noncomputable def F_feature_Near (k : Nat) : FnF := ⟨[yT33, (.int .i32), (.int .u32), (.int .u32)], [(.int .i32), (.int .i64)], [], fun x => feature_Near k (x.1) (x.2.1) (x.2.2.1) (x.2.2.2)⟩
theorem c_feature_Near (k : Nat) : Contract Tryz.prog Gl 164 (F_feature_Near k).toC := mkC zby Tryz.func164 (by kernel_rfl) rfl Tryz.ntmps164 (F_feature_Near k) (by kernel_rfl) [q_feature_Of k, zhv k, q_feature_Near_c1 k, zir k] (fun _ => .z) (by kernel_rfl)
noncomputable def q_feature_Near (k : Nat) : PF Tryz.prog Gl := ⟨164, F_feature_Near k, c_feature_Near k⟩
noncomputable def F_rule_ready_c2 (k : Nat) : FnF := ⟨[(.int .i32), yT35, (.ptr yT33)], [(.int .i32)], [yT33], fun x => rule_ready_c2 k (x.1) (x.2.1) (x.2.2)⟩
theorem c_rule_ready_c2 (k : Nat) : Contract Tryz.prog Gl 163 (F_rule_ready_c2 k).toC := mkC zby Tryz.func163 (by kernel_rfl) rfl Tryz.ntmps163 (F_rule_ready_c2 k) (by kernel_rfl) [q_feature_Near k] (fun _ => .z) (by kernel_rfl)
noncomputable def q_rule_ready_c2 (k : Nat) : PF Tryz.prog Gl := ⟨163, F_rule_ready_c2 k, c_rule_ready_c2 k⟩
noncomputable def zis (k : Nat) : FnB yT18 (List (Int)) where
 n := 42
 S := fun z => ⟨[(0, .ptr 42 0), (1, .val yT74 (z.1))], [(42, .cells [SS (z.2.1), .val yT37 (z.2.2.1), .val yT34 (z.2.2.2.1), .val yT31 (z.2.2.2.2.1), .val yT31 (z.2.2.2.2.2.1), U8 (z.2.2.2.2.2.2.1), BB (z.2.2.2.2.2.2.2.1), .iter 43, .clos 163 [44]] 241), (43, .mp yT66 yT65 (z.2.2.2.2.2.2.2.2.1)), (44, .cells [.val (.sl .str) (z.2.2.2.2.2.2.2.2.2.1), .val yT37 (z.2.2.2.2.2.2.2.2.2.2)] 25)], []⟩
 S' := fun z y => ⟨[], [(42, .cells [SS (z.2.1), .val yT37 (z.2.2.1), .val yT34 (z.2.2.2.1), .val yT31 (z.2.2.2.2.1), .val yT31 (z.2.2.2.2.2.1), U8 (z.2.2.2.2.2.2.1), BB (z.2.2.2.2.2.2.2.1), .iter 43, .clos 163 [44]] 241), (43, .mp yT66 yT65 (z.2.2.2.2.2.2.2.2.1)), (44, .cells [.val (.sl .str) (z.2.2.2.2.2.2.2.2.2.1), .val yT37 (z.2.2.2.2.2.2.2.2.2.2)] 25)], [(5, ⟨21, (.int .i32), (y)⟩)]⟩
 rs := fun z y => [.row 5]
 rel := fun z y => zfx k (z.1) (z.2.1) (z.2.2.1) (z.2.2.2.1) (z.2.2.2.2.1) (z.2.2.2.2.2.1) (z.2.2.2.2.2.2.1) (z.2.2.2.2.2.2.2.1) (z.2.2.2.2.2.2.2.2.1) (z.2.2.2.2.2.2.2.2.2.1) (z.2.2.2.2.2.2.2.2.2.2) = some y
theorem zit (k : Nat) : BC Tryz.prog Gl 168 (zis k) := mkB Tryz.func168 (by kernel_rfl) rfl (zis k) Tryz.ntmps168 [q_rule_ready_c2 k] (fun z => zfx k (z.1) (z.2.1) (z.2.2.1) (z.2.2.2.1) (z.2.2.2.2.1) (z.2.2.2.2.2.1) (z.2.2.2.2.2.2.1) (z.2.2.2.2.2.2.2.1) (z.2.2.2.2.2.2.2.2.1) (z.2.2.2.2.2.2.2.2.2.1) (z.2.2.2.2.2.2.2.2.2.2)) (fun _ _ h => h) (fun st => getH st [.rw 5 21 (.int .i32)]) [42, 43, 44] [5] (fun z => .sk 6 (.lp [.sl 14 (.int .i64), .rw 5 21 (.int .i32)] (sB [0, 1, 5, 12, 13, 14] [42, 43, 44] [5]) (fun n => Un2 (zfw k (z.2.2.2.1) (z.1) (z.2.2.2.2.2.2.2.2.2.1) (z.2.2.2.2.2.2.2.2.2.2) n)) k fun g'1 y'1 => .sk 2 (.t (.j [.rw 5 21 (.int .i32)] (sB [0, 1, 5, 12, 13, 14] [42, 43, 44] [5]) (zfv (Cn2 g'1) (y'1.1)) (.sk 3 (.f (.mx [0, 1, 2, 3, 5, 6] [4, 7, 8, 9, 10, 11] [12, 13, 14] .z))) (fun _ => .z))))) (by kernel_rfl)
noncomputable def pb_rule_maker_into_i1 (k : Nat) : PB Tryz.prog Gl yT18 (List (Int)) := ⟨168, zis k, fun st => getH st [.sl 1 yT74, .bx 42 0 .str, .bx 42 1 yT37, .bx 42 2 yT34, .bx 42 3 yT31, .bx 42 4 yT31, .bx 42 5 (.int .u8), .bx 42 6 .bool, .mp 43 yT66 yT65, .bx 44 0 (.sl .str), .bx 44 1 yT37], fun z => zfx k (z.1) (z.2.1) (z.2.2.1) (z.2.2.2.1) (z.2.2.2.2.1) (z.2.2.2.2.2.1) (z.2.2.2.2.2.2.1) (z.2.2.2.2.2.2.2.1) (z.2.2.2.2.2.2.2.2.1) (z.2.2.2.2.2.2.2.2.2.1) (z.2.2.2.2.2.2.2.2.2.2), (zit k), fun _ _ h => h⟩
end Go.Ev
