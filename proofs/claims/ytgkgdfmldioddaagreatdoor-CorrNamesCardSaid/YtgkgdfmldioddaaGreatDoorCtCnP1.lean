/- Contracts, by program. -/
import Derived.Test.YtgkgdfmldioddaaGreatDoorProg
import Derived.Test.YtgkgdfmldioddaaGreatDoorMM6
import Derived.Test.YtgkgdfmldioddaaGreatDoorMM7
import Derived.Test.YtgkgdfmldioddaaGreatDoorMM8
import Derived.Test.YtgkgdfmldioddaaGreatDoorMM9
import Derived.KernelRfl
import Derived.Test.YtgkgdfmldioddaaGreatDoorTyA
set_option linter.unusedSectionVars false
set_option linter.unusedVariables false
set_option linter.unusedSimpArgs false
namespace Go.Ev
open Go Go.Proofs
set_option linter.unusedVariables false
set_option maxRecDepth 100000
noncomputable def F_l28_letters (k : Nat) : FnF := ⟨[], [yT34], [], fun _ => l28_letters k⟩
theorem c_l28_letters (k : Nat) : Contract Tryz.prog Gl 23 (F_l28_letters k).toC := mkC Gl_stable Tryz.func23 (by kernel_rfl) rfl Tryz.ntmps23 (F_l28_letters k) (by kernel_rfl) [] (fun _ => .z) (by kernel_rfl)
noncomputable def q_l28_letters (k : Nat) : PF Tryz.prog Gl := ⟨23, F_l28_letters k, c_l28_letters k⟩
noncomputable def F_l28_three (k : Nat) : FnF := ⟨[], [(.sl (.arr 2 .str))], [], fun _ => l28_three k⟩
theorem c_l28_three (k : Nat) : Contract Tryz.prog Gl 24 (F_l28_three k).toC := mkC Gl_stable Tryz.func24 (by kernel_rfl) rfl Tryz.ntmps24 (F_l28_three k) (by kernel_rfl) [] (fun _ => .z) (by kernel_rfl)
noncomputable def q_l28_three (k : Nat) : PF Tryz.prog Gl := ⟨24, F_l28_three k, c_l28_three k⟩
noncomputable def F_strings_trimRightByte (k : Nat) : FnF := ⟨[.str, (.int .u8)], [.str], [], fun x => strings_trimRightByte k (x.1) (x.2)⟩
theorem c_strings_trimRightByte (k : Nat) : Contract Tryz.prog Gl 117 (F_strings_trimRightByte k).toC := mkC Gl_stable Tryz.func117 (by kernel_rfl) rfl Tryz.ntmps117 (F_strings_trimRightByte k) (by kernel_rfl) [] (fun x => .sk 2 (.lp [.sl 0 .str] (sB [0, 1] [] []) (strings_trimRightByte_l1 (x.2)) k fun g'1 y'1 => .sk 2 (.g 7 (strings_trimRightByte_j1 y'1 g'1) .z .z (fun _ => .z)))) (by kernel_rfl)
noncomputable def q_strings_trimRightByte (k : Nat) : PF Tryz.prog Gl := ⟨117, F_strings_trimRightByte k, c_strings_trimRightByte k⟩
noncomputable def F_strings_trimLeftByte (k : Nat) : FnF := ⟨[.str, (.int .u8)], [.str], [], fun x => strings_trimLeftByte k (x.1) (x.2)⟩
theorem c_strings_trimLeftByte (k : Nat) : Contract Tryz.prog Gl 116 (F_strings_trimLeftByte k).toC := mkC Gl_stable Tryz.func116 (by kernel_rfl) rfl Tryz.ntmps116 (F_strings_trimLeftByte k) (by kernel_rfl) [] (fun x => .sk 2 (.lp [.sl 0 .str] (sB [0, 1] [] []) (strings_trimLeftByte_l1 (x.2)) k fun g'1 y'1 => .sk 2 (.g 4 (strings_trimLeftByte_j1 y'1 g'1) .z .z (fun _ => .z)))) (by kernel_rfl)
noncomputable def q_strings_trimLeftByte (k : Nat) : PF Tryz.prog Gl := ⟨116, F_strings_trimLeftByte k, c_strings_trimLeftByte k⟩
noncomputable def F_strings_makeASCIISet (k : Nat) : FnF := ⟨[.str], [(.arr 256 .bool), .bool], [], fun x => strings_makeASCIISet k x⟩
theorem c_strings_makeASCIISet (k : Nat) : Contract Tryz.prog Gl 118 (F_strings_makeASCIISet k).toC := mkC Gl_stable Tryz.func118 (by kernel_rfl) rfl Tryz.ntmps118 (F_strings_makeASCIISet k) (by kernel_rfl) [] (fun x => .sk 3 (.lp [.sl 4 (.int .i64), .bk 2 (.arr 256 .bool)] (sB [0, 2, 4] [2] []) (fun n => Un2 (strings_makeASCIISet_l1 x n)) k fun _ _ => .z)) (by kernel_rfl)
noncomputable def q_strings_makeASCIISet (k : Nat) : PF Tryz.prog Gl := ⟨118, F_strings_makeASCIISet k, c_strings_makeASCIISet k⟩
noncomputable def F_strings_asciiSet_contains (k : Nat) : FnF := ⟨[(.ptr (.arr 256 .bool)), (.int .u8)], [.bool], [], fun x => strings_asciiSet_contains k (x.1) (x.2)⟩
theorem c_strings_asciiSet_contains (k : Nat) : Contract Tryz.prog Gl 151 (F_strings_asciiSet_contains k).toC := mkC Gl_stable Tryz.func151 (by kernel_rfl) rfl Tryz.ntmps151 (F_strings_asciiSet_contains k) (by kernel_rfl) [] (fun _ => .z) (by kernel_rfl)
noncomputable def q_strings_asciiSet_contains (k : Nat) : PF Tryz.prog Gl := ⟨151, F_strings_asciiSet_contains k, c_strings_asciiSet_contains k⟩
noncomputable def F_strings_trimRightASCII (k : Nat) : FnF := ⟨[.str, (.ptr (.arr 256 .bool))], [.str], [], fun x => strings_trimRightASCII k (x.1) (x.2)⟩
theorem c_strings_trimRightASCII (k : Nat) : Contract Tryz.prog Gl 120 (F_strings_trimRightASCII k).toC := mkC Gl_stable Tryz.func120 (by kernel_rfl) rfl Tryz.ntmps120 (F_strings_trimRightASCII k) (by kernel_rfl) [q_strings_asciiSet_contains k] (fun x => .sk 1 (.j [.sl 0 .str] (sB [0] [] []) strings_trimRightASCII_j1 (.lp [.sl 0 .str] (sB [0, 1] [] []) (strings_trimRightASCII_l1 k (x.2)) k fun _ _ => .z) (fun _ => .z))) (by kernel_rfl)
noncomputable def q_strings_trimRightASCII (k : Nat) : PF Tryz.prog Gl := ⟨120, F_strings_trimRightASCII k, c_strings_trimRightASCII k⟩
noncomputable def F_strings_trimLeftASCII (k : Nat) : FnF := ⟨[.str, (.ptr (.arr 256 .bool))], [.str], [], fun x => strings_trimLeftASCII k (x.1) (x.2)⟩
theorem c_strings_trimLeftASCII (k : Nat) : Contract Tryz.prog Gl 119 (F_strings_trimLeftASCII k).toC := mkC Gl_stable Tryz.func119 (by kernel_rfl) rfl Tryz.ntmps119 (F_strings_trimLeftASCII k) (by kernel_rfl) [q_strings_asciiSet_contains k] (fun x => .sk 1 (.j [.sl 0 .str] (sB [0] [] []) strings_trimLeftASCII_j1 (.lp [.sl 0 .str] (sB [0, 1] [] []) (strings_trimLeftASCII_l1 k (x.2)) k fun _ _ => .z) (fun _ => .z))) (by kernel_rfl)
noncomputable def q_strings_trimLeftASCII (k : Nat) : PF Tryz.prog Gl := ⟨119, F_strings_trimLeftASCII k, c_strings_trimLeftASCII k⟩
noncomputable def F_strings_trimRightUnicode (k : Nat) : FnF := ⟨[.str, .str], [.str], [], fun x => strings_trimRightUnicode k (x.1) (x.2)⟩
theorem c_strings_trimRightUnicode (k : Nat) : Contract Tryz.prog Gl 122 (F_strings_trimRightUnicode k).toC := mkC0 Tryz.func122 (by kernel_rfl) rfl _ fun _ => rfl
noncomputable def q_strings_trimRightUnicode (k : Nat) : PF Tryz.prog Gl := ⟨122, F_strings_trimRightUnicode k, c_strings_trimRightUnicode k⟩
noncomputable def F_strings_trimLeftUnicode (k : Nat) : FnF := ⟨[.str, .str], [.str], [], fun x => strings_trimLeftUnicode k (x.1) (x.2)⟩
theorem c_strings_trimLeftUnicode (k : Nat) : Contract Tryz.prog Gl 121 (F_strings_trimLeftUnicode k).toC := mkC0 Tryz.func121 (by kernel_rfl) rfl _ fun _ => rfl
noncomputable def q_strings_trimLeftUnicode (k : Nat) : PF Tryz.prog Gl := ⟨121, F_strings_trimLeftUnicode k, c_strings_trimLeftUnicode k⟩
noncomputable def F_strings_Trim (k : Nat) : FnF := ⟨[.str, .str], [.str], [], fun x => strings_Trim k (x.1) (x.2)⟩
theorem c_strings_Trim (k : Nat) : Contract Tryz.prog Gl 88 (F_strings_Trim k).toC := mkC Gl_stable Tryz.func88 (by kernel_rfl) rfl Tryz.ntmps88 (F_strings_Trim k) (by kernel_rfl) [q_strings_trimRightByte k, q_strings_trimLeftByte k, q_strings_makeASCIISet k, q_strings_trimRightASCII k, q_strings_trimLeftASCII k, q_strings_trimRightUnicode k, q_strings_trimLeftUnicode k] (fun x => .sk 3 (.pg 2 (.f (.sk 2 (.g 3 (strings_Trim_j2 k (x.2) (x.1)) .z .z (fun _ => .z)))))) (by kernel_rfl)
noncomputable def q_strings_Trim (k : Nat) : PF Tryz.prog Gl := ⟨88, F_strings_Trim k, c_strings_Trim k⟩
noncomputable def F_feature_named (k : Nat) : FnF := ⟨[.str], [.bool], [], fun x => feature_named k x⟩
theorem c_feature_named (k : Nat) : Contract Tryz.prog Gl 61 (F_feature_named k).toC := mkC Gl_stable Tryz.func61 (by kernel_rfl) rfl Tryz.ntmps61 (F_feature_named k) (by kernel_rfl) [q_strings_Trim k] (fun _ => .sk 2 (.pg 3 (.g 3 feature_named_j2 .z .z (fun _ => .z)))) (by kernel_rfl)
noncomputable def q_feature_named (k : Nat) : PF Tryz.prog Gl := ⟨61, F_feature_named k, c_feature_named k⟩
noncomputable def F_feature_lettered (k : Nat) : FnF := ⟨[(.int .i32)], [.bool], [], fun x => feature_lettered k x⟩
theorem c_feature_lettered (k : Nat) : Contract Tryz.prog Gl 62 (F_feature_lettered k).toC := mkC Gl_stable Tryz.func62 (by kernel_rfl) rfl Tryz.ntmps62 (F_feature_lettered k) (by kernel_rfl) [] (fun x => .sk 2 (.j [.sl 3 .bool] (sB [0, 3] [] []) (feature_lettered_j1 x) (.sk 1 (.pg 2 (.f (.pg 2 .z)))) (fun _ => .f (.j [.sl 16 .bool] (sB [16] [] []) feature_lettered_j2 .z (fun _ => .z))))) (by kernel_rfl)
noncomputable def q_feature_lettered (k : Nat) : PF Tryz.prog Gl := ⟨62, F_feature_lettered k, c_feature_lettered k⟩
noncomputable def F_feature_within (k : Nat) : FnF := ⟨[yT34, (.int .u32), (.int .u32)], [.bool], [], fun x => feature_within k (x.1) (x.2.1) (x.2.2)⟩
theorem c_feature_within (k : Nat) : Contract Tryz.prog Gl 63 (F_feature_within k).toC := mkC Gl_stable Tryz.func63 (by kernel_rfl) rfl Tryz.ntmps63 (F_feature_within k) (by kernel_rfl) [] (fun _ => .sk 2 (.pg 4 .z)) (by kernel_rfl)
noncomputable def q_feature_within (k : Nat) : PF Tryz.prog Gl := ⟨63, F_feature_within k, c_feature_within k⟩
noncomputable def F_feature_Check (k : Nat) : FnF := ⟨[yT34], [(.int .i64)], [], fun x => feature_Check k x⟩
theorem c_feature_Check (k : Nat) : Contract Tryz.prog Gl 35 (F_feature_Check k).toC := mkC Gl_stable Tryz.func35 (by kernel_rfl) rfl Tryz.ntmps35 (F_feature_Check k) (by kernel_rfl) [q_feature_named k, q_feature_lettered k, q_feature_within k] (fun x => .sk 3 (.pg 4 (.pg 4 (.f (.sk 3 (.lp [.sl 29 (.int .i64), .mp 25 .str .bool] (sB [1, 3, 27, 28, 29] [1, 25] []) (fun n => Un2 (feature_Check_l1 k x n)) k fun _ _ => .sk 2 (.c (.sk 6 (.pg 3 .z)) (.sk 3 (.lp [.sl 48 (.int .i64), .mp 44 (.int .i32) .bool] (sB [1, 6, 46, 47, 48] [1, 44] []) (fun n => Un2 (feature_Check_l2 k x n)) k fun g'2 y'2 => .sk 2 (.t (.sk 2 (.a yT47 fun x2 => .sk 3 (.pg 4 (.g 7 (feature_Check_j5 (Cn2 g'2) (y'2.1) (y'2.2) x2) .z .z (fun _ => .z))))))))))))))) (by kernel_rfl)
noncomputable def q_feature_Check (k : Nat) : PF Tryz.prog Gl := ⟨35, F_feature_Check k, c_feature_Check k⟩
noncomputable def F_word_ranks (k : Nat) : FnF := ⟨[yT34], [(.map (.int .i32) (.int .i64)), (.int .i64)], [], fun x => word_ranks k x⟩
theorem c_word_ranks (k : Nat) : Contract Tryz.prog Gl 47 (F_word_ranks k).toC := mkC Gl_stable Tryz.func47 (by kernel_rfl) rfl Tryz.ntmps47 (F_word_ranks k) (by kernel_rfl) [q_feature_Check k] (fun x => .sk 5 (.f (.sk 3 (.lp [.sl 20 (.int .i64), .mp 16 (.int .i32) (.int .i64)] (sB [5, 18, 19, 20] [16] []) (fun n => Un2 (word_ranks_l1 x n)) k fun _ _ => .z)))) (by kernel_rfl)
noncomputable def q_word_ranks (k : Nat) : PF Tryz.prog Gl := ⟨47, F_word_ranks k, c_word_ranks k⟩
noncomputable def F_runes_long (k : Nat) : FnF := ⟨[.str], [(.int .i64)], [], fun x => runes_long k x⟩
theorem c_runes_long (k : Nat) : Contract Tryz.prog Gl 102 (F_runes_long k).toC := mkC Gl_stable Tryz.func102 (by kernel_rfl) rfl Tryz.ntmps102 (F_runes_long k) (by kernel_rfl) [] (fun _ => .z) (by kernel_rfl)
noncomputable def q_runes_long (k : Nat) : PF Tryz.prog Gl := ⟨102, F_runes_long k, c_runes_long k⟩
noncomputable def F_unicode_utf8_RuneLen (k : Nat) : FnF := ⟨[(.int .i32)], [(.int .i64)], [], fun x => unicode_utf8_RuneLen k x⟩
theorem c_unicode_utf8_RuneLen (k : Nat) : Contract Tryz.prog Gl 142 (F_unicode_utf8_RuneLen k).toC := mkC Gl_stable Tryz.func142 (by kernel_rfl) rfl Tryz.ntmps142 (F_unicode_utf8_RuneLen k) (by kernel_rfl) [] (fun _ => .sk 3 (.f (.sk 1 (.f (.sk 1 (.f (.sk 1 (.pg 2 .z)))))))) (by kernel_rfl)
noncomputable def q_unicode_utf8_RuneLen (k : Nat) : PF Tryz.prog Gl := ⟨142, F_unicode_utf8_RuneLen k, c_unicode_utf8_RuneLen k⟩
noncomputable def B_runes_Pieces_c1_i1 (k : Nat) : FnB ((Int × Int × Int × Bool × Unit) × List yT72) (Bool × List yT72) where
 n := 8
 S := fun z => ⟨[(0, .val yT40 (z.1)), (1, .ptr 8 0)], [(8, .cells [.row 9] 139)], [(9, ⟨143, yT40, (z.2)⟩)]⟩
 S' := fun z y => ⟨[], [(8, .cells [.row 9] 139)], [(9, ⟨143, yT40, (y.2)⟩)]⟩
 rs := fun z y => [BB (y.1)]
 rel := fun z y => runes_Pieces_c1_i1 k (z.1) (z.2) = some y
theorem b_runes_Pieces_c1_i1 (k : Nat) : BC Tryz.prog Gl 104 (B_runes_Pieces_c1_i1 k) := mkB Tryz.func104 (by kernel_rfl) rfl (B_runes_Pieces_c1_i1 k) Tryz.ntmps104 [] (fun z => runes_Pieces_c1_i1 k (z.1) (z.2)) (fun _ _ h => h) (fun st => getH st [.sl 0 .bool, .rw 9 143 yT40]) [8] [9] (fun _ => .z) (by kernel_rfl)
noncomputable def pb_runes_Pieces_c1_i1 (k : Nat) : PB Tryz.prog Gl ((Int × Int × Int × Bool × Unit) × List yT72) (Bool × List yT72) := ⟨104, B_runes_Pieces_c1_i1 k, fun st => getH st [.sl 0 yT40, .rw 9 143 yT40], fun z => runes_Pieces_c1_i1 k (z.1) (z.2), (b_runes_Pieces_c1_i1 k), fun _ _ h => h⟩
noncomputable def B_runes_each_i1 (k : Nat) : FnB (List UInt8 × List yT72) yT64 where
 n := 37
 S := fun z => ⟨[(0, SS (z.1)), (1, .clos 104 [37])], [(37, .cells [.row 38] 139)], [(38, ⟨143, yT40, (z.2)⟩)]⟩
 S' := fun z y => ⟨[], [(37, .cells [.row 38] 139)], [(38, ⟨143, yT40, (y)⟩)]⟩
 rs := fun z y => []
 rel := fun z y => runes_each_i1 k (z.1) (z.2) = some y
theorem b_runes_each_i1 (k : Nat) : BC Tryz.prog Gl 103 (B_runes_each_i1 k) := mkB Tryz.func103 (by kernel_rfl) rfl (B_runes_each_i1 k) Tryz.ntmps103 [q_unicode_utf8_RuneLen k, q_unicode_utf8_DecodeRuneInString k] (fun z => runes_each_i1 k (z.1) (z.2)) (fun _ _ h => h) (fun st => getH st [.rw 38 143 yT40]) [37] [38] (fun z => .sk 1 (.lp [.it 10, .rw 38 143 yT40] (sB [0, 1, 10] [10, 37] [38]) (fun n => Un2 (runes_each_i1_l1 k (z.1) n)) k fun g'1 y'1 => .sk 1 (.c (.sk 1 (.T (.sk 3 (.j [.bx 6 2 (.int .i64), .bx 6 3 .bool] (sB [0, 1, 6, 10] [6, 10, 37] [38]) (Un2 (runes_each_i1_j1 k (z.1) (y'1.1) (y'1.2) (Cn2 g'1))) .z (fun _ => .sk 1 (.cb (pb_runes_Pieces_c1_i1 k) [(37, 8), (38, 9)] [(8, 37), (9, 38)] (fun _ => .z))))))) (.sk 1 (.F .z))))) (by kernel_rfl)
noncomputable def pb_runes_each_i1 (k : Nat) : PB Tryz.prog Gl (List UInt8 × List yT72) yT64 := ⟨103, B_runes_each_i1 k, fun st => getH st [.sl 0 .str, .rw 38 143 yT40], fun z => runes_each_i1 k (z.1) (z.2), (b_runes_each_i1 k), fun _ _ h => h⟩
noncomputable def F_runes_Pieces (k : Nat) : FnF := ⟨[.str], [(.sl yT40), (.int .i64)], [], fun x => runes_Pieces k x⟩
theorem c_runes_Pieces (k : Nat) : Contract Tryz.prog Gl 74 (F_runes_Pieces k).toC := mkC Gl_stable Tryz.func74 (by kernel_rfl) rfl Tryz.ntmps74 (F_runes_Pieces k) (by kernel_rfl) [q_runes_long k] (fun _ => .sk 6 (.f (.sk 2 (.cb (pb_runes_each_i1 k) [(5, 37), (1000005, 38)] [(37, 5), (38, 1000005)] (fun _ => .z))))) (by kernel_rfl)
noncomputable def q_runes_Pieces (k : Nat) : PF Tryz.prog Gl := ⟨74, F_runes_Pieces k, c_runes_Pieces k⟩
noncomputable def F_word_read (k : Nat) : FnF := ⟨[(.map (.int .i32) (.int .i64)), .str], [yT95, (.int .i64)], [], fun x => word_read k (x.1) (x.2)⟩
theorem c_word_read (k : Nat) : Contract Tryz.prog Gl 48 (F_word_read k).toC := mkC Gl_stable Tryz.func48 (by kernel_rfl) rfl Tryz.ntmps48 (F_word_read k) (by kernel_rfl) [q_runes_Pieces k] (fun x => .sk 2 (.j [.sl 1 .str] (sB [0, 1] [] []) (word_read_j1 k (x.1)) .z (fun _ => .sk 1 (.ac [(.sl yT40), (.int .i64)] fun v1 => .sk 2 (.f (.sk 4 (.lp [.sl 28 (.int .i64), .rw 8 21 (.int .i32)] (sB [0, 8, 26, 27, 28] [] [8]) (fun n => Un2 (word_read_l1 v1 (x.1) n)) k fun _ _ => .z))))))) (by kernel_rfl)
noncomputable def q_word_read (k : Nat) : PF Tryz.prog Gl := ⟨48, F_word_read k, c_word_read k⟩
noncomputable def F_word_Letters (k : Nat) : FnF := ⟨[yT34, .str], [yT95, (.int .i64)], [], fun x => word_Letters k (x.1) (x.2)⟩
theorem c_word_Letters (k : Nat) : Contract Tryz.prog Gl 21 (F_word_Letters k).toC := mkC Gl_stable Tryz.func21 (by kernel_rfl) rfl Tryz.ntmps21 (F_word_Letters k) (by kernel_rfl) [q_word_ranks k, q_word_read k] (fun _ => .z) (by kernel_rfl)
noncomputable def q_word_Letters (k : Nat) : PF Tryz.prog Gl := ⟨21, F_word_Letters k, c_word_Letters k⟩
noncomputable def F_feature_Of_c1 (k : Nat) : FnF := ⟨[yT47, (.ptr (.int .i32))], [.bool], [(.int .i32)], fun x => feature_Of_c1 k (x.1) (x.2)⟩
theorem c_feature_Of_c1 (k : Nat) : Contract Tryz.prog Gl 157 (F_feature_Of_c1 k).toC := mkC Gl_stable Tryz.func157 (by kernel_rfl) rfl Tryz.ntmps157 (F_feature_Of_c1 k) (by kernel_rfl) [] (fun _ => .z) (by kernel_rfl)
noncomputable def q_feature_Of_c1 (k : Nat) : PF Tryz.prog Gl := ⟨157, F_feature_Of_c1 k, c_feature_Of_c1 k⟩
noncomputable def F_slices_IndexFunc___api_Letter_api_Letter__Of_c1 (k : Nat) : FnF := ⟨[yT44, (.fn 157 (.pair (.ptr (.int .i32)) .unit))], [(.int .i64)], [], fun x => slices_IndexFunc___api_Letter_api_Letter__Of_c1 k (x.1) (x.2)⟩
theorem c_slices_IndexFunc___api_Letter_api_Letter__Of_c1 (k : Nat) : Contract Tryz.prog Gl 156 (F_slices_IndexFunc___api_Letter_api_Letter__Of_c1 k).toC := mkC Gl_stable Tryz.func156 (by kernel_rfl) rfl Tryz.ntmps156 (F_slices_IndexFunc___api_Letter_api_Letter__Of_c1 k) (by kernel_rfl) [q_feature_Of_c1 k] (fun x => .sk 3 (.lp [.sl 8 (.int .i64)] (sB [0, 1, 7, 8] [] []) (slices_IndexFunc___api_Letter_api_Letter__Of_c1_l1 k (x.1) (x.2)) k fun _ _ => .z)) (by kernel_rfl)
noncomputable def q_slices_IndexFunc___api_Letter_api_Letter__Of_c1 (k : Nat) : PF Tryz.prog Gl := ⟨156, F_slices_IndexFunc___api_Letter_api_Letter__Of_c1 k, c_slices_IndexFunc___api_Letter_api_Letter__Of_c1 k⟩
noncomputable def F_feature_Of (k : Nat) : FnF := ⟨[yT34, (.int .i32)], [yT47, (.int .i64)], [], fun x => feature_Of k (x.1) (x.2)⟩
theorem c_feature_Of (k : Nat) : Contract Tryz.prog Gl 127 (F_feature_Of k).toC := mkC Gl_stable Tryz.func127 (by kernel_rfl) rfl Tryz.ntmps127 (F_feature_Of k) (by kernel_rfl) [q_feature_Check k, q_feature_Of_c1 k, q_slices_IndexFunc___api_Letter_api_Letter__Of_c1 k] (fun _ => .z) (by kernel_rfl)
noncomputable def q_feature_Of (k : Nat) : PF Tryz.prog Gl := ⟨127, F_feature_Of k, c_feature_Of k⟩
noncomputable def F_math_bits_OnesCount32 (k : Nat) : FnF := ⟨[(.int .u32)], [(.int .i64)], [], fun x => math_bits_OnesCount32 k x⟩
theorem c_math_bits_OnesCount32 (k : Nat) : Contract Tryz.prog Gl 200 (F_math_bits_OnesCount32 k).toC := mkC Gl_stable Tryz.func200 (by kernel_rfl) rfl Tryz.ntmps200 (F_math_bits_OnesCount32 k) (by kernel_rfl) [] (fun _ => .z) (by kernel_rfl)
noncomputable def q_math_bits_OnesCount32 (k : Nat) : PF Tryz.prog Gl := ⟨200, F_math_bits_OnesCount32 k, c_math_bits_OnesCount32 k⟩
noncomputable def F_feature_unlike (k : Nat) : FnF := ⟨[yT47, yT47], [(.int .i64)], [], fun x => feature_unlike k (x.1) (x.2)⟩
theorem c_feature_unlike (k : Nat) : Contract Tryz.prog Gl 176 (F_feature_unlike k).toC := mkC Gl_stable Tryz.func176 (by kernel_rfl) rfl Tryz.ntmps176 (F_feature_unlike k) (by kernel_rfl) [q_math_bits_OnesCount32 k] (fun _ => .z) (by kernel_rfl)
noncomputable def q_feature_unlike (k : Nat) : PF Tryz.prog Gl := ⟨176, F_feature_unlike k, c_feature_unlike k⟩
noncomputable def F_feature_Far (k : Nat) : FnF := ⟨[yT34, (.int .i32), (.int .i32)], [(.int .i64), (.int .i64)], [], fun x => feature_Far k (x.1) (x.2.1) (x.2.2)⟩
theorem c_feature_Far (k : Nat) : Contract Tryz.prog Gl 141 (F_feature_Far k).toC := mkC Gl_stable Tryz.func141 (by kernel_rfl) rfl Tryz.ntmps141 (F_feature_Far k) (by kernel_rfl) [q_feature_Of k, q_feature_unlike k] (fun _ => .z) (by kernel_rfl)
noncomputable def q_feature_Far (k : Nat) : PF Tryz.prog Gl := ⟨141, F_feature_Far k, c_feature_Far k⟩
noncomputable def F_align_far (k : Nat) : FnF := ⟨[yT34, (.int .i32), (.int .i32)], [(.int .i64)], [], fun x => align_far k (x.1) (x.2.1) (x.2.2)⟩
theorem c_align_far (k : Nat) : Contract Tryz.prog Gl 101 (F_align_far k).toC := mkC Gl_stable Tryz.func101 (by kernel_rfl) rfl Tryz.ntmps101 (F_align_far k) (by kernel_rfl) [q_feature_Far k] (fun _ => .sk 3 (.f (.sk 2 (.pg 2 .z)))) (by kernel_rfl)
noncomputable def q_align_far (k : Nat) : PF Tryz.prog Gl := ⟨101, F_align_far k, c_align_far k⟩
noncomputable def B_align_filled_i1 (k : Nat) : FnB (yT49 × List (Int) × List (Int)) yT43 where
 n := 174
 S := fun z => ⟨[(0, .val yT34 (z.1)), (1, .val yT95 (z.2.1)), (2, .val yT95 (z.2.2))], [], []⟩
 S' := fun z y => ⟨[], [(18, .blk yT27 (y) 137)], []⟩
 rs := fun z y => [.bp 18 []]
 rel := fun z y => align_filled_i1 k (z.1) (z.2.1) (z.2.2) = some y
theorem b_align_filled_i1 (k : Nat) : BC Tryz.prog Gl 100 (B_align_filled_i1 k) := mkB Tryz.func100 (by kernel_rfl) rfl (B_align_filled_i1 k) Tryz.ntmps100 [q_align_far k] (fun z => align_filled_i1 k (z.1) (z.2.1) (z.2.2)) (fun _ _ h => h) (fun st => getH st [.bk 18 yT27]) [18] [] (fun z => .sk 2 (.un 18 (.sk 5 (.lp [.sl 8 (.int .i64), .bx 3 0 (.sl .str), .bx 3 1 yT44, .bk 18 yT27] (sB [1, 2, 3, 7, 8] [3, 18] []) (fun n => Un4 (align_filled_i1_l1 k (z.2.1) (z.2.2) n)) k fun g'1 y'1 => .sk 2 (.t (.sk 2 (.lp [.sl 9 (.int .i64), .bk 18 yT27] (sB [1, 2, 3, 7, 8, 9] [3, 18] []) (fun n => Un2 (align_filled_i1_l2 k (z.2.1) (y'1.1) (z.2.2) (y'1.2.1) (y'1.2.2.1) (Cn4 g'1) n)) k fun g'2 y'2 => .sk 2 (.t (.j [.bk 18 yT27] (sB [1, 2, 3, 7, 8, 9] [3, 18] []) (align_filled_i1_j1 (Cn2 g'2) (y'2.1)) (.sk 2 (.pg 4 (.f (.sk 1 (.j [.sl 10 (.int .i64)] (sB [1, 2, 3, 7, 8, 9, 10, 11, 12] [3, 18] []) (align_filled_i1_j3 (y'1.1) (z.2.1) (y'2.1) (y'2.2) (z.2.2) (Cn2 g'2)) (.sk 1 (.pg 4 .z)) (fun z'3 => .j [.sl 11 (.int .i64)] (sB [1, 2, 3, 7, 8, 9, 10, 11, 12] [3, 18] []) (align_filled_i1_j4 (y'2.1) (z.2.2) (y'1.1) (y'2.2) z'3 (Cn2 g'2)) .z (fun z'4 => .j [.sl 12 (.int .i64)] (sB [1, 2, 3, 7, 8, 9, 10, 11, 12] [3, 18] []) (align_filled_i1_j5 z'3 z'4 (y'1.1) (y'2.1) (y'2.2) (Cn2 g'2)) .z (fun z'5 => .sk 2 (.j [.sl 14 (.int .i64)] (sB [1, 2, 3, 7, 8, 9, 11, 12, 13, 14] [3, 18] []) (align_filled_i1_j6 z'4 z'3 z'5 (y'1.1) (y'2.1) (y'2.2) (Cn2 g'2)) .z (fun _ => .j [.sl 14 (.int .i64)] (sB [1, 2, 3, 7, 8, 9, 12, 13, 14] [3, 18] []) (align_filled_i1_j7 z'5 z'3 z'4 (y'1.1) (y'2.1) (y'2.2) (Cn2 g'2)) .z (fun _ => .j [.sl 14 (.int .i64)] (sB [1, 2, 3, 7, 8, 9, 13, 14] [3, 18] []) (align_filled_i1_j8 (y'1.1) (y'2.1) (y'2.2) (Cn2 g'2) z'3 z'4 z'5) .z (fun _ => .mx [0, 1, 2, 3, 4, 5, 6, 7, 8, 9, 10, 11, 12, 14, 15, 16] [] [13, 17, 18] .z)))))))))))) (fun _ => .z)))))))))) (by kernel_rfl)
noncomputable def pb_align_filled_i1 (k : Nat) : PB Tryz.prog Gl (yT49 × List (Int) × List (Int)) yT43 := ⟨100, B_align_filled_i1 k, fun st => getH st [.sl 0 yT34, .sl 1 yT95, .sl 2 yT95], fun z => align_filled_i1 k (z.1) (z.2.1) (z.2.2), (b_align_filled_i1 k), fun _ _ h => h⟩
noncomputable def B_align_tabled_i1 (k : Nat) : FnB (yT49 × List UInt8 × List UInt8) (Sum Int yT39) where
 n := 33
 S := fun z => ⟨[(0, .val yT34 (z.1)), (1, SS (z.2.1)), (2, SS (z.2.2))], [], []⟩
 S' := fun z y => match y with | .inl y => ⟨[], [], []⟩ | .inr y => ⟨[], [(32, .blk yT27 (y.2) 137)], []⟩
 rs := fun z y => match y with | .inl y => [.any, I64 (y)] | .inr y => [.bp 32 [], I64 (y.1)]
 rel := fun z y => align_tabled_i1 k (z.1) (z.2.1) (z.2.2) = some y
noncomputable def E_align_tabled_i1 (k : Nat) : Env := envOf Tryz.prog Gl 33 [q_word_Letters k]
theorem b_align_tabled_i1 (k : Nat) : BC Tryz.prog Gl 72 (B_align_tabled_i1 k) := by
 refine bc_of (fn := Tryz.f72) Tryz.func72 (by kernel_rfl) rfl Tryz.ntmps72 ?_
 rintro cx hP hn hG ⟨a1, x1, y1⟩ y0 h
 have hE : EnvOK (E_align_tabled_i1 k) cx := envOf_ok hP hn hG
 replace h : align_tabled_i1 k a1 x1 y1 = some y0 := h
 unfold align_tabled_i1 at h
 refine W_seq (W_region (WL_allC hE [1, 2, 3] [3] [] (orc := []) (by kernel_rfl) .n (N_then (W_seq (W_region ?_)))))
 obtain ⟨v1, e1, h⟩ := bind_some h
 refine WL_allC hE [2, 3, 8, 9] [3] [] (orc := [⟨yT95, v1.1⟩, tI64 v1.2]) (by kernel_rfl) (.c e1 .n) (N_then (W_seq (W_seq (W_region (WL_allC hE [2, 3, 8, 9, 18] [3] [] (orc := []) (by kernel_rfl) .n (N_then (W_cond (b := v1.2 != (0 : Int)) (by kernel_rfl) (fun e2 => ?_) (fun e2 => ?_))))))))
 ·replace h := ite_t e2 h
  refine W_seq (W_region (WL_allI hE (st' := ⟨[(7, I64 v1.2)], [], []⟩) (orc := []) (by kernel_rfl) .n (N_then (W_ret (N_then_ret ?_)))))
  replace h := Option.some.inj h
  subst h
  exact N_normC [7] [] [] (by kernel_rfl) (N_endB hE.P [] [] (.inl rfl) (by kernel_rfl) (by kernel_rfl))
 ·replace h := ite_f e2 h
  refine W_skip (N_then (W_seq (W_region ?_)))
  obtain ⟨v2, e3, h⟩ := bind_some h
  refine WL_allC hE [3, 8, 9, 10] [3] [] (orc := [⟨yT95, v2.1⟩, tI64 v2.2]) (by kernel_rfl) (.c e3 .n) (N_then (W_seq (W_seq (W_region (WL_allC hE [3, 8, 9, 10, 27] [3] [] (orc := []) (by kernel_rfl) .n (N_then (W_cond (b := v2.2 != (0 : Int)) (by kernel_rfl) (fun e4 => ?_) (fun e4 => ?_))))))))
  ·replace h := ite_t e4 h
   refine W_seq (W_region (WL_allI hE (st' := ⟨[(7, I64 v2.2)], [], []⟩) (orc := []) (by kernel_rfl) .n (N_then (W_ret (N_then_ret ?_)))))
   replace h := Option.some.inj h
   subst h
   exact N_normC [7] [] [] (by kernel_rfl) (N_endB hE.P [] [] (.inl rfl) (by kernel_rfl) (by kernel_rfl))
  ·replace h := ite_f e4 h
   refine W_skip (N_then (W_seq (W_region (WL_tkC hE 3 [29, 30, 31] [] [] (orc := []) (by kernel_rfl) .n ?_))))
   obtain ⟨v3, e5, h⟩ := bind_some h
   refine WL_callB hE (b_align_filled_i1 k) ((a1.1, a1.2.1, ()), v1.1, v2.1) v3 e5 (ρ := []) (ρ' := [(18, 32)]) (n := 174) (by kernel_rfl) [32] [32] [] (by kernel_rfl) (by kernel_rfl) (st' := ⟨[(32, .bp 32 [])], [(32, .blk yT27 v3 137)], []⟩) (by kernel_rfl) (WL_allC hE [6, 7] [32] [] (orc := []) (by kernel_rfl) .n (N_then (W_ret ?_)))
   replace h := Option.some.inj h
   subst h
   exact N_normC [6, 7] [32] [] (by kernel_rfl) (N_endB hE.P [32] [] (.inl rfl) (by kernel_rfl) (by kernel_rfl))
noncomputable def pb_align_tabled_i1 (k : Nat) : PB Tryz.prog Gl (yT49 × List UInt8 × List UInt8) (Sum Int yT39) := ⟨72, B_align_tabled_i1 k, fun st => getH st [.sl 0 yT34, .sl 1 .str, .sl 2 .str], fun z => align_tabled_i1 k (z.1) (z.2.1) (z.2.2), (b_align_tabled_i1 k), fun _ _ h => h⟩
noncomputable def F_align_table_first (k : Nat) : FnF := ⟨[(.ptr yT27), yT34], [yT54], [], fun x => align_table_first k (x.1) (x.2)⟩
theorem c_align_table_first (k : Nat) : Contract Tryz.prog Gl 73 (F_align_table_first k).toC := mkC Gl_stable Tryz.func73 (by kernel_rfl) rfl Tryz.ntmps73 (F_align_table_first k) (by kernel_rfl) [q_align_far k] (fun x => .sk 6 (.lp [.sl 6 (.int .i64), .sl 7 (.int .i64), .rw 5 54 yT58] (sB [0, 3, 5, 6, 7] [3] [5]) (fun n => Un3 (align_table_first_l1 k (x.1) (x.2) n)) k fun g'1 y'1 => .sk 2 (.pg 7 (.t (.sk 2 (.a (.int .i64) fun x2 => .sk 2 (.pg 7 (.g 29 (align_table_first_j3 (x.1) (y'1.1) (y'1.2.1) (y'1.2.2) (Cn3 g'1) x2) .z .z (fun _ => .c (.sk 1 (.mx [0, 1, 2, 3, 5, 8, 9, 10, 12] [4, 6, 7, 11, 13, 14, 15] [16, 17, 18] .z)) (.sk 1 (.g 12 (align_table_first_j4 (x.1) (y'1.1) (y'1.2.2) (Cn3 g'1) (y'1.2.1)) .z .z (fun _ => .z)))))))))))) (by kernel_rfl)
noncomputable def q_align_table_first (k : Nat) : PF Tryz.prog Gl := ⟨73, F_align_table_first k, c_align_table_first k⟩
noncomputable def B_align_table_first_i1 (k : Nat) : FnB yT28 yT78 where
 n := 152
 S := fun z => ⟨[(0, .bp 152 []), (1, .val yT34 (z.1))], [(152, .blk yT27 (z.2) 137)], []⟩
 S' := fun z y => ⟨[], [(152, .blk yT27 (z.2) 137)], [(5, ⟨54, yT58, (y)⟩)]⟩
 rs := fun z y => [.row 5]
 rel := fun z y => align_table_first_i1 k (z.1) (z.2) = some y
theorem b_align_table_first_i1 (k : Nat) : BC Tryz.prog Gl 73 (B_align_table_first_i1 k) := mkB Tryz.func73 (by kernel_rfl) rfl (B_align_table_first_i1 k) Tryz.ntmps73 [q_align_far k] (fun z => align_table_first_i1 k (z.1) (z.2)) (fun _ _ h => h) (fun st => getH st [.rw 5 54 yT58]) [152] [5] (fun z => .sk 6 (.lp [.sl 6 (.int .i64), .sl 7 (.int .i64), .rw 5 54 yT58] (sB [0, 3, 5, 6, 7] [3, 152] [5]) (fun n => Un3 (align_table_first_i1_l1 k (z.2) (z.1) n)) k fun g'1 y'1 => .sk 2 (.pg 7 (.t (.sk 2 (.a (.int .i64) fun x2 => .sk 2 (.pg 7 (.g 29 (align_table_first_i1_j3 (z.2) (y'1.1) (y'1.2.1) (y'1.2.2) (Cn3 g'1) x2) .z .z (fun _ => .c (.sk 1 (.mx [0, 1, 2, 3, 5, 8, 9, 10, 12] [4, 6, 7, 11, 13, 14, 15] [16, 17, 18] .z)) (.sk 1 (.g 12 (align_table_first_i1_j4 (z.2) (y'1.1) (y'1.2.2) (Cn3 g'1) (y'1.2.1)) .z .z (fun _ => .z)))))))))))) (by kernel_rfl)
noncomputable def pb_align_table_first_i1 (k : Nat) : PB Tryz.prog Gl yT28 yT78 := ⟨73, B_align_table_first_i1 k, fun st => getH st [.sl 1 yT34, .bk 152 yT27], fun z => align_table_first_i1 k (z.1) (z.2), (b_align_table_first_i1 k), fun _ _ h => h⟩
noncomputable def F_align_Words (k : Nat) : FnF := ⟨[yT34, .str, .str], [(.int .i64), yT54, (.int .i64)], [], fun x => align_Words k (x.1) (x.2.1) (x.2.2)⟩
noncomputable def E_align_Words (k : Nat) : Env := envOf Tryz.prog Gl 30 []
theorem c_align_Words (k : Nat) : Contract Tryz.prog Gl 46 (F_align_Words k).toC := by
 refine contract_of Gl_stable (fn := Tryz.f46) Tryz.func46 (by kernel_rfl) rfl (toC_shape Tryz.ntmps46 (by kernel_rfl)) ?_
 rintro w0 M _ _ hG h
 obtain ⟨⟨a1, x1, y1⟩, ⟨rz1, rz2, rz3⟩, rfl, rfl, h⟩ := rel_of h
 change yT49 at a1
 change List UInt8 at x1
 change List UInt8 at y1
 change Int at rz1
 change List yT86 at rz2
 change Int at rz3
 replace h : align_Words k a1 x1 y1 = some (rz1, rz2, rz3) := h
 have hE : EnvOK (E_align_Words k) ⟨Tryz.prog, Tryz.f46.ntmps, w0, M, fun _ => False, fun _ => undef⟩ := envOf_ok rfl Tryz.ntmps46 hG
 unfold align_Words at h
 refine W_seq (W_region (WL_allC hE [1, 2, 3] [3] [] (orc := []) (by kernel_rfl) .n (N_then (W_seq (W_region (WL_tkC hE 3 [3, 12, 13, 14] [3] [] (orc := []) (by kernel_rfl) .n ?_))))))
 obtain ⟨v1, e1, h⟩ := bind_some h
 rcases v1 with v2 | v3
 ·replace h := sumCase_l h
  refine WL_callBC hE (b_align_tabled_i1 k) ((a1.1, a1.2.1, ()), x1, y1) (.inl v2) e1 (ρ := []) (ρ' := []) (n := 33) (by kernel_rfl) [3, 15] [3] [] (by kernel_rfl) (by kernel_rfl) (by kernel_rfl) (WL_allC hE [3, 9, 10] [3] [] (orc := []) (by kernel_rfl) .n (N_then (W_seq (W_seq (W_region (WL_allC hE [3, 9, 10, 19] [3] [] (orc := []) (by kernel_rfl) .n (N_then (W_cond (b := v2 != (0 : Int)) (by kernel_rfl) (fun e2 => ?_) (fun e2 => ?_)))))))))
  ·replace h := ite_t e2 h
   refine W_seq (W_region (WL_allI hE (st' := ⟨[(6, I64 (0 : Int)), (7, .row 7), (8, I64 v2)], [], [(7, ⟨54, yT58, ([] : List yT86)⟩)]⟩) (orc := []) (by kernel_rfl) .n (N_then (W_ret (N_then_ret ?_)))))
   cases h
   exact N_end (.inl rfl) (by kernel_rfl)
  ·replace h := ite_f e2 h
   refine W_skip (N_then (W_seq ?_))
   cases h
 ·replace h := sumCase_r h
  refine WL_callBC hE (b_align_tabled_i1 k) ((a1.1, a1.2.1, ()), x1, y1) (.inr v3) e1 (ρ := []) (ρ' := [(32, 15)]) (n := 33) (by kernel_rfl) [3, 15] [3, 15] [] (by kernel_rfl) (by kernel_rfl) (by kernel_rfl) (WL_allC hE [3, 9, 10] [3, 15] [] (orc := []) (by kernel_rfl) .n (N_then (W_seq (W_seq (W_region (WL_allC hE [3, 9, 10, 19] [3, 15] [] (orc := []) (by kernel_rfl) .n (N_then (W_cond (b := v3.1 != (0 : Int)) (by kernel_rfl) (fun e3 => ?_) (fun e3 => ?_)))))))))
  ·replace h := ite_t e3 h
   refine W_seq (W_region (WL_allI hE (st' := ⟨[(6, I64 (0 : Int)), (7, .row 7), (8, I64 v3.1)], [], [(7, ⟨54, yT58, ([] : List yT86)⟩)]⟩) (orc := []) (by kernel_rfl) .n (N_then (W_ret (N_then_ret ?_)))))
   cases h
   exact N_end (.inl rfl) (by kernel_rfl)
  ·replace h := ite_f e3 h
   refine W_skip (N_then (W_seq ?_))
   obtain ⟨_, e6, h⟩ := bind_some h
   replace e6 := chk_some e6
   obtain ⟨_, e7, h⟩ := bind_some h
   replace e7 := chk_some e7
   obtain ⟨x2, e4, h⟩ := bind_some h
   obtain ⟨x3, e5, h⟩ := bind_some h
   refine W_floatC hE [0, 1, 2, 3, 4, 6] [] 5 7 [8] [9, 10, 11] [3, 25, 26, 27] [3, 15] [] (orc := []) (orci := [⟨(.arr 65 (.int .i64)), x2⟩, tI64 x3]) (by rfl) (by rfl) (by rfl) (by kernel_rfl) (by kernel_rfl) (by kernel_rfl) (by kernel_rfl) (by kernel_rfl) (by kernel_rfl) (by kernel_rfl) (by kernel_rfl) (.c e6 (.c e7 (.c e4 (.c e5 .n)))) (WL_allC hE [25, 26, 27, 28] [15] [] (orc := []) (by kernel_rfl) .n (N_redo1C hE (orc := [⟨(.arr 65 (.int .i64)), x2⟩, tI64 x3]) (by kernel_rfl) (by kernel_rfl) (by kernel_rfl) (by kernel_rfl) (.c e4 (.c e5 .n)) (by rfl) ?_))
   obtain ⟨v4, e8, h⟩ := bind_some h
   refine WL_callBC hE (b_align_table_first_i1 k) ((a1.1, a1.2.1, ()), v3.2) v4 e8 (ρ := [(15, 152)]) (ρ' := [(152, 15), (5, 29)]) (n := 152) (by kernel_rfl) [25, 26, 29] [15] [29] (by kernel_rfl) (by kernel_rfl) (by kernel_rfl) (WL_nil (N_redo0C hE (orc := [⟨(.arr 65 (.int .i64)), x2⟩, tI64 x3]) (by kernel_rfl) (by kernel_rfl) (by kernel_rfl) (by kernel_rfl) (.c e4 (.c e5 .n)) (WL_allC hE [6, 7, 8] [] [29] (orc := []) (by kernel_rfl) .n (N_only (N_then (W_ret ?_))))))
   cases h
   exact N_end (.inl rfl) (by kernel_rfl)
noncomputable def q_align_Words (k : Nat) : PF Tryz.prog Gl := ⟨46, F_align_Words k, c_align_Words k⟩
noncomputable def F_corr_aligned (k : Nat) : FnF := ⟨[yT34, (.sl (.arr 2 .str))], [yT51, (.int .i64)], [], fun x => corr_aligned k (x.1) (x.2)⟩
theorem c_corr_aligned (k : Nat) : Contract Tryz.prog Gl 49 (F_corr_aligned k).toC := mkC Gl_stable Tryz.func49 (by kernel_rfl) rfl Tryz.ntmps49 (F_corr_aligned k) (by kernel_rfl) [q_feature_Check k, q_align_Words k] (fun x => .sk 6 (.f (.sk 2 (.f (.sk 4 (.lp [.sl 23 (.int .i64), .rw 7 90 yT54] (sB [2, 7, 21, 22, 23] [2] [7]) (fun n => Un2 (corr_aligned_l1 k (x.2) (x.1) n)) k fun _ _ => .z)))))) (by kernel_rfl)
noncomputable def q_corr_aligned (k : Nat) : PF Tryz.prog Gl := ⟨49, F_corr_aligned k, c_corr_aligned k⟩
noncomputable def F_corr_Regular (k : Nat) : FnF := ⟨[yT34, (.sl (.arr 2 .str))], [.bool, (.int .i64), (.int .i64)], [], fun x => corr_Regular k (x.1) (x.2)⟩
theorem c_corr_Regular (k : Nat) : Contract Tryz.prog Gl 22 (F_corr_Regular k).toC := mkC Gl_stable Tryz.func22 (by kernel_rfl) rfl Tryz.ntmps22 (F_corr_Regular k) (by kernel_rfl) [q_corr_aligned k] (fun _ => .sk 2 (.ac [yT51, (.int .i64)] fun v1 => .sk 2 (.f (.sk 3 (.lp [.sl 28 (.int .i64), .mp 25 (.int .i32) (.int .i32)] (sB [9, 26, 27, 28] [25] []) (fun n => Un2 (corr_Regular_l1 k v1 n)) k fun g'1 y'1 => .sk 2 (.t (.sk 2 (.a yT54 fun x1 => .sk 1 (.lp [.sl 35 (.int .i64), .mp 25 (.int .i32) (.int .i32)] (sB [9, 10, 26, 27, 28, 33, 34, 35] [25] []) (fun n => Un2 (corr_Regular_l2 x1 (y'1.1) (Cn2 g'1) n)) k fun g'2 y'2 => .sk 2 (.t (.j [.mp 25 (.int .i32) (.int .i32)] (sB [9, 10, 26, 27, 28, 33, 34, 35] [25] []) (corr_Regular_j1 (Cn2 g'2) (y'2.1)) (.sk 4 (.f (.sk 3 (.pg 4 .z)))) (fun _ => .z)))))))))))) (by kernel_rfl)
noncomputable def q_corr_Regular (k : Nat) : PF Tryz.prog Gl := ⟨22, F_corr_Regular k, c_corr_Regular k⟩
noncomputable def B_maps_Keys_map_api_Pair_int_api_Pair_int__i1 (k : Nat) : FnB yT71 Unit where
 n := 4
 S := fun z => ⟨[(0, .iter 4)], [(4, .mp yT58 (.int .i64) (z))], []⟩
 S' := fun z y => ⟨[], [(1, .cells [.iter 4] 145), (4, .mp yT58 (.int .i64) (z))], []⟩
 rs := fun z y => [.clos 107 [1]]
 rel := fun z y => maps_Keys_map_api_Pair_int_api_Pair_int__i1 k (z) = some y
theorem b_maps_Keys_map_api_Pair_int_api_Pair_int__i1 (k : Nat) : BC Tryz.prog Gl 76 (B_maps_Keys_map_api_Pair_int_api_Pair_int__i1 k) := mkB Tryz.func76 (by kernel_rfl) rfl (B_maps_Keys_map_api_Pair_int_api_Pair_int__i1 k) Tryz.ntmps76 [] (fun z => maps_Keys_map_api_Pair_int_api_Pair_int__i1 k (z)) (fun _ _ h => h) (fun st => getH st []) [1, 4] [] (fun _ => .z) (by kernel_rfl)
noncomputable def pb_maps_Keys_map_api_Pair_int_api_Pair_int__i1 (k : Nat) : PB Tryz.prog Gl yT71 Unit := ⟨76, B_maps_Keys_map_api_Pair_int_api_Pair_int__i1 k, fun st => getH st [.mp 4 yT58 (.int .i64)], fun z => maps_Keys_map_api_Pair_int_api_Pair_int__i1 k (z), (b_maps_Keys_map_api_Pair_int_api_Pair_int__i1 k), fun _ _ h => h⟩
end Go.Ev
