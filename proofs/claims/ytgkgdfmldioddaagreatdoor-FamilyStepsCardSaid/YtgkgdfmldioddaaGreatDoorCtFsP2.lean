/- Contracts, by program. -/
import Derived.Test.YtgkgdfmldioddaaGreatDoorProg
import Derived.Test.YtgkgdfmldioddaaGreatDoorMM6
import Derived.Test.YtgkgdfmldioddaaGreatDoorMM7
import Derived.Test.YtgkgdfmldioddaaGreatDoorMM8
import Derived.Test.YtgkgdfmldioddaaGreatDoorCtFsP1
import Derived.KernelRfl
import Derived.Test.YtgkgdfmldioddaaGreatDoorTyA
set_option linter.unusedSectionVars false
set_option linter.unusedVariables false
set_option linter.unusedSimpArgs false
namespace Go.Ev
open Go Go.Proofs
set_option linter.unusedVariables false
set_option maxRecDepth 100000
noncomputable def F_word_ranks (k : Nat) : FnF := ⟨[yT33], [(.map (.int .i32) (.int .i64)), (.int .i64)], [], fun x => word_ranks k x⟩
theorem c_word_ranks (k : Nat) : Contract Tryz.prog Gl 47 (F_word_ranks k).toC := mkC zby Tryz.func47 (by kernel_rfl) rfl Tryz.ntmps47 (F_word_ranks k) (by kernel_rfl) [zhw k] (fun x => .sk 5 (.f (.sk 3 (.lp [.sl 20 (.int .i64), .mp 16 (.int .i32) (.int .i64)] (sB [5, 18, 19, 20] [16] []) (fun n => Un2 (word_ranks_l1 x n)) k fun _ _ => .z)))) (by kernel_rfl)
noncomputable def q_word_ranks (k : Nat) : PF Tryz.prog Gl := ⟨47, F_word_ranks k, c_word_ranks k⟩
noncomputable def F_runes_long (k : Nat) : FnF := ⟨[.str], [(.int .i64)], [], fun x => runes_long k x⟩
theorem c_runes_long (k : Nat) : Contract Tryz.prog Gl 102 (F_runes_long k).toC := mkC zby Tryz.func102 (by kernel_rfl) rfl Tryz.ntmps102 (F_runes_long k) (by kernel_rfl) [] (fun _ => .z) (by kernel_rfl)
noncomputable def q_runes_long (k : Nat) : PF Tryz.prog Gl := ⟨102, F_runes_long k, c_runes_long k⟩
noncomputable def zia (k : Nat) : FnF := ⟨[(.int .i32)], [(.int .i64)], [], fun x => zea k x⟩
theorem c_unicode_utf8_RuneLen (k : Nat) : Contract Tryz.prog Gl 142 (zia k).toC := mkC zby Tryz.func142 (by kernel_rfl) rfl Tryz.ntmps142 (zia k) (by kernel_rfl) [] (fun _ => .sk 3 (.f (.sk 1 (.f (.sk 1 (.f (.sk 1 (.pg 2 .z)))))))) (by kernel_rfl)
noncomputable def q_unicode_utf8_RuneLen (k : Nat) : PF Tryz.prog Gl := ⟨142, zia k, c_unicode_utf8_RuneLen k⟩
noncomputable def zib (k : Nat) : FnB (yT58 × List yT55) (Bool × List yT55) where
 n := 8
 S := fun z => ⟨[(0, .val yT36 (z.1)), (1, .ptr 8 0)], [(8, .cells [.row 9] 139)], [(9, ⟨143, yT36, (z.2)⟩)]⟩
 S' := fun z y => ⟨[], [(8, .cells [.row 9] 139)], [(9, ⟨143, yT36, (y.2)⟩)]⟩
 rs := fun z y => [BB (y.1)]
 rel := fun z y => zeb k (z.1) (z.2) = some y
theorem b_runes_Pieces_c1_i1 (k : Nat) : BC Tryz.prog Gl 104 (zib k) := mkB Tryz.func104 (by kernel_rfl) rfl (zib k) Tryz.ntmps104 [] (fun z => zeb k (z.1) (z.2)) (fun _ _ h => h) (fun st => getH st [.sl 0 .bool, .rw 9 143 yT36]) [8] [9] (fun _ => .z) (by kernel_rfl)
noncomputable def pb_runes_Pieces_c1_i1 (k : Nat) : PB Tryz.prog Gl (yT58 × List yT55) (Bool × List yT55) := ⟨104, zib k, fun st => getH st [.sl 0 yT36, .rw 9 143 yT36], fun z => zeb k (z.1) (z.2), (b_runes_Pieces_c1_i1 k), fun _ _ h => h⟩
noncomputable def B_runes_each_i1 (k : Nat) : FnB (List UInt8 × List yT55) yT51 where
 n := 37
 S := fun z => ⟨[(0, SS (z.1)), (1, .clos 104 [37])], [(37, .cells [.row 38] 139)], [(38, ⟨143, yT36, (z.2)⟩)]⟩
 S' := fun z y => ⟨[], [(37, .cells [.row 38] 139)], [(38, ⟨143, yT36, (y)⟩)]⟩
 rs := fun z y => []
 rel := fun z y => runes_each_i1 k (z.1) (z.2) = some y
theorem b_runes_each_i1 (k : Nat) : BC Tryz.prog Gl 103 (B_runes_each_i1 k) := mkB Tryz.func103 (by kernel_rfl) rfl (B_runes_each_i1 k) Tryz.ntmps103 [q_unicode_utf8_RuneLen k, zhe k] (fun z => runes_each_i1 k (z.1) (z.2)) (fun _ _ h => h) (fun st => getH st [.rw 38 143 yT36]) [37] [38] (fun z => .sk 1 (.lp [.it 10, .rw 38 143 yT36] (sB [0, 1, 10] [10, 37] [38]) (fun n => Un2 (zed k (z.1) n)) k fun g'1 y'1 => .sk 1 (.c (.sk 1 (.T (.sk 3 (.j [.bx 6 2 (.int .i64), .bx 6 3 .bool] (sB [0, 1, 6, 10] [6, 10, 37] [38]) (Un2 (zec k (z.1) (y'1.1) (y'1.2) (Cn2 g'1))) .z (fun _ => .sk 1 (.cb (pb_runes_Pieces_c1_i1 k) [(37, 8), (38, 9)] [(8, 37), (9, 38)] (fun _ => .z))))))) (.sk 1 (.F .z))))) (by kernel_rfl)
noncomputable def pb_runes_each_i1 (k : Nat) : PB Tryz.prog Gl (List UInt8 × List yT55) yT51 := ⟨103, B_runes_each_i1 k, fun st => getH st [.sl 0 .str, .rw 38 143 yT36], fun z => runes_each_i1 k (z.1) (z.2), (b_runes_each_i1 k), fun _ _ h => h⟩
noncomputable def F_runes_Pieces (k : Nat) : FnF := ⟨[.str], [(.sl yT36), (.int .i64)], [], fun x => runes_Pieces k x⟩
theorem c_runes_Pieces (k : Nat) : Contract Tryz.prog Gl 74 (F_runes_Pieces k).toC := mkC zby Tryz.func74 (by kernel_rfl) rfl Tryz.ntmps74 (F_runes_Pieces k) (by kernel_rfl) [q_runes_long k] (fun _ => .sk 6 (.f (.sk 2 (.cb (pb_runes_each_i1 k) [(5, 37), (1000005, 38)] [(37, 5), (38, 1000005)] (fun _ => .z))))) (by kernel_rfl)
noncomputable def q_runes_Pieces (k : Nat) : PF Tryz.prog Gl := ⟨74, F_runes_Pieces k, c_runes_Pieces k⟩
noncomputable def F_word_read (k : Nat) : FnF := ⟨[(.map (.int .i32) (.int .i64)), .str], [yT74, (.int .i64)], [], fun x => word_read k (x.1) (x.2)⟩
theorem c_word_read (k : Nat) : Contract Tryz.prog Gl 48 (F_word_read k).toC := mkC zby Tryz.func48 (by kernel_rfl) rfl Tryz.ntmps48 (F_word_read k) (by kernel_rfl) [q_runes_Pieces k] (fun x => .sk 2 (.j [.sl 1 .str] (sB [0, 1] [] []) (word_read_j1 k (x.1)) .z (fun _ => .sk 1 (.ac [(.sl yT36), (.int .i64)] fun v1 => .sk 2 (.f (.sk 4 (.lp [.sl 28 (.int .i64), .rw 8 21 (.int .i32)] (sB [0, 8, 26, 27, 28] [] [8]) (fun n => Un2 (word_read_l1 v1 (x.1) n)) k fun _ _ => .z))))))) (by kernel_rfl)
noncomputable def q_word_read (k : Nat) : PF Tryz.prog Gl := ⟨48, F_word_read k, c_word_read k⟩
noncomputable def F_word_Letters (k : Nat) : FnF := ⟨[yT33, .str], [yT74, (.int .i64)], [], fun x => word_Letters k (x.1) (x.2)⟩
theorem c_word_Letters (k : Nat) : Contract Tryz.prog Gl 21 (F_word_Letters k).toC := mkC zby Tryz.func21 (by kernel_rfl) rfl Tryz.ntmps21 (F_word_Letters k) (by kernel_rfl) [q_word_ranks k, q_word_read k] (fun _ => .z) (by kernel_rfl)
noncomputable def q_word_Letters (k : Nat) : PF Tryz.prog Gl := ⟨21, F_word_Letters k, c_word_Letters k⟩
noncomputable def F_word_Check (k : Nat) : FnF := ⟨[yT33, .str], [(.int .i64)], [], fun x => zeg k (x.1) (x.2)⟩
theorem c_word_Check (k : Nat) : Contract Tryz.prog Gl 30 (F_word_Check k).toC := mkC zby Tryz.func30 (by kernel_rfl) rfl Tryz.ntmps30 (F_word_Check k) (by kernel_rfl) [q_word_Letters k] (fun _ => .z) (by kernel_rfl)
noncomputable def q_word_Check (k : Nat) : PF Tryz.prog Gl := ⟨30, F_word_Check k, c_word_Check k⟩
noncomputable def F_law_nothing (k : Nat) : FnF := ⟨[yT33], [yT5], [], fun x => law_nothing k x⟩
theorem c_law_nothing (k : Nat) : Contract Tryz.prog Gl 98 (F_law_nothing k).toC := mkC zby Tryz.func98 (by kernel_rfl) rfl Tryz.ntmps98 (F_law_nothing k) (by kernel_rfl) [] (fun _ => .z) (by kernel_rfl)
noncomputable def q_law_nothing (k : Nat) : PF Tryz.prog Gl := ⟨98, F_law_nothing k, c_law_nothing k⟩
noncomputable def F_rule_letters (k : Nat) : FnF := ⟨[yT33, .str], [yT74, (.int .i64)], [], fun x => rule_letters k (x.1) (x.2)⟩
theorem c_rule_letters (k : Nat) : Contract Tryz.prog Gl 133 (F_rule_letters k).toC := mkC zby Tryz.func133 (by kernel_rfl) rfl Tryz.ntmps133 (F_rule_letters k) (by kernel_rfl) [zhe k, q_rule_letter k] (fun x => .sk 5 (.lp [.sl 1 .str, .rw 6 21 (.int .i32)] (sB [1, 2, 6] [2] [6]) (fun n => Un2 (zeh k (x.1) n)) k fun _ _ => .sk 2 (.t (.sk 4 (.pg 2 .z))))) (by kernel_rfl)
noncomputable def q_rule_letters (k : Nat) : PF Tryz.prog Gl := ⟨133, F_rule_letters k, c_rule_letters k⟩
noncomputable def F_feature_like (k : Nat) : FnF := ⟨[yT40, (.int .u32), (.int .u32)], [.bool], [], fun x => feature_like k (x.1) (x.2.1) (x.2.2)⟩
theorem c_feature_like (k : Nat) : Contract Tryz.prog Gl 195 (F_feature_like k).toC := mkC zby Tryz.func195 (by kernel_rfl) rfl Tryz.ntmps195 (F_feature_like k) (by kernel_rfl) [] (fun _ => .sk 2 (.pg 5 .z)) (by kernel_rfl)
noncomputable def q_feature_like (k : Nat) : PF Tryz.prog Gl := ⟨195, F_feature_like k, c_feature_like k⟩
noncomputable def F_feature_Class (k : Nat) : FnF := ⟨[yT33, (.int .u32), (.int .u32)], [yT74, (.int .i64)], [], fun x => feature_Class k (x.1) (x.2.1) (x.2.2)⟩
theorem c_feature_Class (k : Nat) : Contract Tryz.prog Gl 162 (F_feature_Class k).toC := mkC zby Tryz.func162 (by kernel_rfl) rfl Tryz.ntmps162 (F_feature_Class k) (by kernel_rfl) [zhw k, zhv k, q_feature_like k] (fun x => .sk 6 (.f (.sk 3 (.f (.sk 4 (.lp [.sl 25 (.int .i64), .rw 9 21 (.int .i32)] (sB [1, 2, 9, 23, 24, 25] [] [9]) (fun n => Un2 (zej k (x.1) (x.2.1) (x.2.2) n)) k fun g'1 y'1 => .sk 2 (.t (.j [.rw 9 21 (.int .i32)] (sB [1, 2, 9, 23, 24, 25] [] [9]) (zei (Cn2 g'1) (y'1.1)) .z (fun _ => .z))))))))) (by kernel_rfl)
noncomputable def q_feature_Class (k : Nat) : PF Tryz.prog Gl := ⟨162, F_feature_Class k, c_feature_Class k⟩
noncomputable def B_rule_ready_c1_i1 (k : Nat) : FnB yT19 yT46 where
 n := 36
 S := fun z => ⟨[(0, U32 (z.1)), (1, U32 (z.2.1)), (2, .ptr 36 0), (3, .ptr 37 0)], [(36, .cells [.val (.sl .str) (z.2.2.1), .val yT37 (z.2.2.2.1)] 25), (37, .cells [.ptr 38 0] 212), (38, .cells [SS (z.2.2.2.2.1), .val yT37 (z.2.2.2.2.2.1), .val yT34 (z.2.2.2.2.2.2.1), .val yT31 (z.2.2.2.2.2.2.2.1), .val yT31 (z.2.2.2.2.2.2.2.2.1), U8 (z.2.2.2.2.2.2.2.2.2.1), BB (z.2.2.2.2.2.2.2.2.2.2.1), .iter 39, .any] 241), (39, .mp yT66 yT65 (z.2.2.2.2.2.2.2.2.2.2.2))], []⟩
 S' := fun z y => ⟨[], [(36, .cells [.val (.sl .str) (z.2.2.1), .val yT37 (z.2.2.2.1)] 25), (37, .cells [.ptr 38 0] 212), (38, .cells [SS (z.2.2.2.2.1), .val yT37 (z.2.2.2.2.2.1), .val yT34 (z.2.2.2.2.2.2.1), .val yT31 (z.2.2.2.2.2.2.2.1), .val yT31 (z.2.2.2.2.2.2.2.2.1), U8 (z.2.2.2.2.2.2.2.2.2.1), BB (z.2.2.2.2.2.2.2.2.2.2.1), .iter 39, .any] 241), (39, .mp yT66 yT65 (y))], []⟩
 rs := fun z y => []
 rel := fun z y => zel k (z.1) (z.2.1) (z.2.2.1) (z.2.2.2.1) (z.2.2.2.2.1) (z.2.2.2.2.2.1) (z.2.2.2.2.2.2.1) (z.2.2.2.2.2.2.2.1) (z.2.2.2.2.2.2.2.2.1) (z.2.2.2.2.2.2.2.2.2.1) (z.2.2.2.2.2.2.2.2.2.2.1) (z.2.2.2.2.2.2.2.2.2.2.2) = some y
theorem b_rule_ready_c1_i1 (k : Nat) : BC Tryz.prog Gl 161 (B_rule_ready_c1_i1 k) := mkB Tryz.func161 (by kernel_rfl) rfl (B_rule_ready_c1_i1 k) Tryz.ntmps161 [q_feature_Class k] (fun z => zel k (z.1) (z.2.1) (z.2.2.1) (z.2.2.2.1) (z.2.2.2.2.1) (z.2.2.2.2.2.1) (z.2.2.2.2.2.2.1) (z.2.2.2.2.2.2.2.1) (z.2.2.2.2.2.2.2.2.1) (z.2.2.2.2.2.2.2.2.2.1) (z.2.2.2.2.2.2.2.2.2.2.1) (z.2.2.2.2.2.2.2.2.2.2.2)) (fun _ _ h => h) (fun st => getH st [.mp 39 yT66 yT65]) [36, 37, 38, 39] [] (fun z => .sk 1 (.ac [yT74, (.int .i64)] fun v1 => .sk 3 (.lp [.sl 21 (.int .i64), .mp 18 (.int .i32) .bool] (sB [0, 1, 2, 3, 8, 19, 20, 21] [18, 36, 37, 38, 39] []) (fun n => Un2 (zek v1 (z.2.2.2.2.2.2.2.2.2.2.2) (z.1) (z.2.1) n)) k fun _ _ => .z))) (by kernel_rfl)
noncomputable def pb_rule_ready_c1_i1 (k : Nat) : PB Tryz.prog Gl yT19 yT46 := ⟨161, B_rule_ready_c1_i1 k, fun st => getH st [.sl 0 (.int .u32), .sl 1 (.int .u32), .bx 36 0 (.sl .str), .bx 36 1 yT37, .bx 38 0 .str, .bx 38 1 yT37, .bx 38 2 yT34, .bx 38 3 yT31, .bx 38 4 yT31, .bx 38 5 (.int .u8), .bx 38 6 .bool, .mp 39 yT66 yT65], fun z => zel k (z.1) (z.2.1) (z.2.2.1) (z.2.2.2.1) (z.2.2.2.2.1) (z.2.2.2.2.2.1) (z.2.2.2.2.2.2.1) (z.2.2.2.2.2.2.2.1) (z.2.2.2.2.2.2.2.2.1) (z.2.2.2.2.2.2.2.2.2.1) (z.2.2.2.2.2.2.2.2.2.2.1) (z.2.2.2.2.2.2.2.2.2.2.2), (b_rule_ready_c1_i1 k), fun _ _ h => h⟩
noncomputable def B_rule_ready_i1 (k : Nat) : FnB yT22 yT21 where
 n := 62
 S := fun z => ⟨[(0, .val yT33 (z.1)), (1, .val yT5 (z.2))], [], []⟩
 S' := fun z y => ⟨[], [(2, .cells [.val (.sl .str) (y.1), .val yT37 (y.2.1)] 25), (14, .mp yT66 yT65 (y.2.2.1)), (16, .cells [SS (y.2.2.2.1), .val yT37 (y.2.2.2.2.1), .val yT34 (y.2.2.2.2.2.1), .val yT31 (y.2.2.2.2.2.2.1), .val yT31 (y.2.2.2.2.2.2.2.1), U8 (y.2.2.2.2.2.2.2.2.1), BB (y.2.2.2.2.2.2.2.2.2), .iter 14, .clos 163 [2]] 241)], []⟩
 rs := fun z y => [.ptr 16 0]
 rel := fun z y => zep k (z.1) (z.2) = some y
theorem b_rule_ready_i1 (k : Nat) : BC Tryz.prog Gl 134 (B_rule_ready_i1 k) := mkB Tryz.func134 (by kernel_rfl) rfl (B_rule_ready_i1 k) Tryz.ntmps134 [] (fun z => zep k (z.1) (z.2)) (fun _ _ h => h) (fun st => getH st [.bx 2 0 (.sl .str), .bx 2 1 yT37, .mp 14 yT66 yT65, .bx 16 0 .str, .bx 16 1 yT37, .bx 16 2 yT34, .bx 16 3 yT31, .bx 16 4 yT31, .bx 16 5 (.int .u8), .bx 16 6 .bool]) [2, 14, 16] [] (fun z => .sk 5 (.lp [.sl 21 (.int .i64), .mp 14 yT66 yT65] (sB [2, 3, 5, 6, 19, 20, 21] [2, 3, 5, 14, 16] []) (fun n => Un2 (zeo k (z.2) (z.1) n)) k fun _ _ => .sk 2 (.c (.sk 3 (.cb (pb_rule_ready_c1_i1 k) [(2, 36), (5, 37), (16, 38), (14, 39)] [(36, 2), (37, 5), (38, 16), (39, 14)] (fun _ => .z))) (.sk 2 (.lp [.sl 38 (.int .i64), .bx 2 0 (.sl .str), .bx 2 1 yT37, .mp 14 yT66 yT65, .bx 16 0 .str, .bx 16 1 yT37, .bx 16 2 yT34, .bx 16 3 yT31, .bx 16 4 yT31, .bx 16 5 (.int .u8), .bx 16 6 .bool, .rw 36 85 yT28] (sB [2, 5, 6, 36, 37, 38] [2, 5, 14, 16] [36]) (fun n => Un12 (zen k (z.2) n)) k fun g'2 y'2 => .sk 2 (.t (.sk 2 (.a yT28 fun x2 => .u 0 (.sk 1 (.lp [.sl 45 (.int .i64), .mp 14 yT66 yT65] (sB [2, 5, 6, 36, 37, 38, 43, 44, 45] [2, 5, 14, 16] [36]) (fun n => Un2 (zem k x2 (y'2.2.1) (y'2.2.2.1) (y'2.2.2.2.2.1) (y'2.2.2.2.2.2.1) (y'2.2.2.2.2.2.2.1) (y'2.2.2.2.2.2.2.2.1) (y'2.2.2.2.2.2.2.2.2.1) (y'2.2.2.2.2.2.2.2.2.2.1) (y'2.2.2.2.2.2.2.2.2.2.2.1) (Cn12 g'2) (y'2.1) (y'2.2.2.2.2.2.2.2.2.2.2.2) n)) k fun _ _ => .sk 2 (.t (.sk 3 (.cb (pb_rule_ready_c1_i1 k) [(2, 36), (5, 37), (16, 38), (14, 39)] [(36, 2), (37, 5), (38, 16), (39, 14)] (fun _ => .z)))))))))))))) (by kernel_rfl)
noncomputable def zic (k : Nat) : PB Tryz.prog Gl yT22 yT21 := ⟨134, B_rule_ready_i1 k, fun st => getH st [.sl 0 yT33, .sl 1 yT5], fun z => zep k (z.1) (z.2), (b_rule_ready_i1 k), fun _ _ h => h⟩
noncomputable def B_rule_maker_is_i1 (k : Nat) : FnB yT14 Bool where
 n := 26
 S := fun z => ⟨[(0, .ptr 26 0), (1, I32 (z.1)), (2, I32 (z.2.1)), (3, U32 (z.2.2.1)), (4, U32 (z.2.2.2.1))], [(26, .cells [SS (z.2.2.2.2.1), .val yT37 (z.2.2.2.2.2.1), .val yT34 (z.2.2.2.2.2.2.1), .val yT31 (z.2.2.2.2.2.2.2.1), .val yT31 (z.2.2.2.2.2.2.2.2.1), U8 (z.2.2.2.2.2.2.2.2.2.1), BB (z.2.2.2.2.2.2.2.2.2.2.1), .iter 27, .clos 163 [28]] 241), (27, .mp yT66 yT65 (z.2.2.2.2.2.2.2.2.2.2.2.1)), (28, .cells [.val (.sl .str) (z.2.2.2.2.2.2.2.2.2.2.2.2.1), .val yT37 (z.2.2.2.2.2.2.2.2.2.2.2.2.2)] 25)], []⟩
 S' := fun z y => ⟨[], [(26, .cells [SS (z.2.2.2.2.1), .val yT37 (z.2.2.2.2.2.1), .val yT34 (z.2.2.2.2.2.2.1), .val yT31 (z.2.2.2.2.2.2.2.1), .val yT31 (z.2.2.2.2.2.2.2.2.1), U8 (z.2.2.2.2.2.2.2.2.2.1), BB (z.2.2.2.2.2.2.2.2.2.2.1), .iter 27, .clos 163 [28]] 241), (27, .mp yT66 yT65 (z.2.2.2.2.2.2.2.2.2.2.2.1)), (28, .cells [.val (.sl .str) (z.2.2.2.2.2.2.2.2.2.2.2.2.1), .val yT37 (z.2.2.2.2.2.2.2.2.2.2.2.2.2)] 25)], []⟩
 rs := fun z y => [BB (y)]
 rel := fun z y => zeq k (z.1) (z.2.1) (z.2.2.1) (z.2.2.2.1) (z.2.2.2.2.1) (z.2.2.2.2.2.1) (z.2.2.2.2.2.2.1) (z.2.2.2.2.2.2.2.1) (z.2.2.2.2.2.2.2.2.1) (z.2.2.2.2.2.2.2.2.2.1) (z.2.2.2.2.2.2.2.2.2.2.1) (z.2.2.2.2.2.2.2.2.2.2.2.1) (z.2.2.2.2.2.2.2.2.2.2.2.2.1) (z.2.2.2.2.2.2.2.2.2.2.2.2.2) = some y
theorem b_rule_maker_is_i1 (k : Nat) : BC Tryz.prog Gl 165 (B_rule_maker_is_i1 k) := mkB Tryz.func165 (by kernel_rfl) rfl (B_rule_maker_is_i1 k) Tryz.ntmps165 [] (fun z => zeq k (z.1) (z.2.1) (z.2.2.1) (z.2.2.2.1) (z.2.2.2.2.1) (z.2.2.2.2.2.1) (z.2.2.2.2.2.2.1) (z.2.2.2.2.2.2.2.1) (z.2.2.2.2.2.2.2.2.1) (z.2.2.2.2.2.2.2.2.2.1) (z.2.2.2.2.2.2.2.2.2.2.1) (z.2.2.2.2.2.2.2.2.2.2.2.1) (z.2.2.2.2.2.2.2.2.2.2.2.2.1) (z.2.2.2.2.2.2.2.2.2.2.2.2.2)) (fun _ _ h => h) (fun st => getH st [.sl 0 .bool]) [26, 27, 28] [] (fun _ => .z) (by kernel_rfl)
noncomputable def pb_rule_maker_is_i1 (k : Nat) : PB Tryz.prog Gl yT14 Bool := ⟨165, B_rule_maker_is_i1 k, fun st => getH st [.sl 1 (.int .i32), .sl 2 (.int .i32), .sl 3 (.int .u32), .sl 4 (.int .u32), .bx 26 0 .str, .bx 26 1 yT37, .bx 26 2 yT34, .bx 26 3 yT31, .bx 26 4 yT31, .bx 26 5 (.int .u8), .bx 26 6 .bool, .mp 27 yT66 yT65, .bx 28 0 (.sl .str), .bx 28 1 yT37], fun z => zeq k (z.1) (z.2.1) (z.2.2.1) (z.2.2.2.1) (z.2.2.2.2.1) (z.2.2.2.2.2.1) (z.2.2.2.2.2.2.1) (z.2.2.2.2.2.2.2.1) (z.2.2.2.2.2.2.2.2.1) (z.2.2.2.2.2.2.2.2.2.1) (z.2.2.2.2.2.2.2.2.2.2.1) (z.2.2.2.2.2.2.2.2.2.2.2.1) (z.2.2.2.2.2.2.2.2.2.2.2.2.1) (z.2.2.2.2.2.2.2.2.2.2.2.2.2), (b_rule_maker_is_i1 k), fun _ _ h => h⟩
end Go.Ev
