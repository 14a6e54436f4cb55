/- Contracts, by program. -/
import Derived.Test.YtfmcmfjcaljflaaDoorProg
import Derived.Test.YtfmcmfjcaljflaaDoorMM6
import Derived.Test.YtfmcmfjcaljflaaDoorMM7
import Derived.KernelRfl
set_option linter.unusedSectionVars false
set_option linter.unusedVariables false
set_option linter.unusedSimpArgs false
namespace Go.Ev
open Go Go.Proofs
set_option linter.unusedVariables false
set_option maxRecDepth 100000

noncomputable def F_l28_letters (k : Nat) : FnF := ⟨[], [(.pair (.sl .str) (.pair (.sl (.pair (.int .i32) (.pair (.int .u32) (.pair (.int .u32) .unit)))) .unit))], [], fun _ => l28_letters k⟩
theorem c_l28_letters (k : Nat) : Contract Tryd.prog Gl 10 (F_l28_letters k).toC := mkC Gl_stable Tryd.func10 (by kernel_rfl) rfl Tryd.ntmps10 (F_l28_letters k) (by kernel_rfl) [] (fun _ => .z) (by kernel_rfl)
noncomputable def q_l28_letters (k : Nat) : PF Tryd.prog Gl := ⟨10, F_l28_letters k, c_l28_letters k⟩

noncomputable def F_l28_three (k : Nat) : FnF := ⟨[], [(.sl (.arr 2 .str))], [], fun _ => l28_three k⟩
theorem c_l28_three (k : Nat) : Contract Tryd.prog Gl 11 (F_l28_three k).toC := mkC Gl_stable Tryd.func11 (by kernel_rfl) rfl Tryd.ntmps11 (F_l28_three k) (by kernel_rfl) [] (fun _ => .z) (by kernel_rfl)
noncomputable def q_l28_three (k : Nat) : PF Tryd.prog Gl := ⟨11, F_l28_three k, c_l28_three k⟩

noncomputable def F_strings_trimRightByte (k : Nat) : FnF := ⟨[.str, (.int .u8)], [.str], [], fun x => strings_trimRightByte k (x.1) (x.2)⟩
theorem c_strings_trimRightByte (k : Nat) : Contract Tryd.prog Gl 45 (F_strings_trimRightByte k).toC := mkC Gl_stable Tryd.func45 (by kernel_rfl) rfl Tryd.ntmps45 (F_strings_trimRightByte k) (by kernel_rfl) [] (fun x => .sk 2 (.lp [.sl 0 .str] (sB [0, 1] [] []) (strings_trimRightByte_l1 (x.2)) k fun g'1 y'1 => .sk 2 (.g 7 (strings_trimRightByte_j1 y'1 g'1) .z .z (fun _ => .z)))) (by kernel_rfl)
noncomputable def q_strings_trimRightByte (k : Nat) : PF Tryd.prog Gl := ⟨45, F_strings_trimRightByte k, c_strings_trimRightByte k⟩

noncomputable def F_strings_trimLeftByte (k : Nat) : FnF := ⟨[.str, (.int .u8)], [.str], [], fun x => strings_trimLeftByte k (x.1) (x.2)⟩
theorem c_strings_trimLeftByte (k : Nat) : Contract Tryd.prog Gl 44 (F_strings_trimLeftByte k).toC := mkC Gl_stable Tryd.func44 (by kernel_rfl) rfl Tryd.ntmps44 (F_strings_trimLeftByte k) (by kernel_rfl) [] (fun x => .sk 2 (.lp [.sl 0 .str] (sB [0, 1] [] []) (strings_trimLeftByte_l1 (x.2)) k fun g'1 y'1 => .sk 2 (.g 4 (strings_trimLeftByte_j1 y'1 g'1) .z .z (fun _ => .z)))) (by kernel_rfl)
noncomputable def q_strings_trimLeftByte (k : Nat) : PF Tryd.prog Gl := ⟨44, F_strings_trimLeftByte k, c_strings_trimLeftByte k⟩

noncomputable def F_strings_makeASCIISet (k : Nat) : FnF := ⟨[.str], [(.arr 256 .bool), .bool], [], fun x => strings_makeASCIISet k x⟩
theorem c_strings_makeASCIISet (k : Nat) : Contract Tryd.prog Gl 46 (F_strings_makeASCIISet k).toC := mkC Gl_stable Tryd.func46 (by kernel_rfl) rfl Tryd.ntmps46 (F_strings_makeASCIISet k) (by kernel_rfl) [] (fun x => .sk 3 (.lp [.sl 4 (.int .i64), .bk 2 (.arr 256 .bool)] (sB [0, 2, 4] [2] []) (fun n => Un2 (strings_makeASCIISet_l1 x n)) k fun _ _ => .z)) (by kernel_rfl)
noncomputable def q_strings_makeASCIISet (k : Nat) : PF Tryd.prog Gl := ⟨46, F_strings_makeASCIISet k, c_strings_makeASCIISet k⟩

noncomputable def F_strings_asciiSet_contains (k : Nat) : FnF := ⟨[(.ptr (.arr 256 .bool)), (.int .u8)], [.bool], [], fun x => strings_asciiSet_contains k (x.1) (x.2)⟩
theorem c_strings_asciiSet_contains (k : Nat) : Contract Tryd.prog Gl 67 (F_strings_asciiSet_contains k).toC := mkC Gl_stable Tryd.func67 (by kernel_rfl) rfl Tryd.ntmps67 (F_strings_asciiSet_contains k) (by kernel_rfl) [] (fun _ => .z) (by kernel_rfl)
noncomputable def q_strings_asciiSet_contains (k : Nat) : PF Tryd.prog Gl := ⟨67, F_strings_asciiSet_contains k, c_strings_asciiSet_contains k⟩

noncomputable def F_strings_trimRightASCII (k : Nat) : FnF := ⟨[.str, (.ptr (.arr 256 .bool))], [.str], [], fun x => strings_trimRightASCII k (x.1) (x.2)⟩
theorem c_strings_trimRightASCII (k : Nat) : Contract Tryd.prog Gl 48 (F_strings_trimRightASCII k).toC := mkC Gl_stable Tryd.func48 (by kernel_rfl) rfl Tryd.ntmps48 (F_strings_trimRightASCII k) (by kernel_rfl) [q_strings_asciiSet_contains k] (fun x => .sk 1 (.j [.sl 0 .str] (sB [0] [] []) strings_trimRightASCII_j1 (.lp [.sl 0 .str] (sB [0, 1] [] []) (strings_trimRightASCII_l1 k (x.2)) k fun _ _ => .z) (fun _ => .z))) (by kernel_rfl)
noncomputable def q_strings_trimRightASCII (k : Nat) : PF Tryd.prog Gl := ⟨48, F_strings_trimRightASCII k, c_strings_trimRightASCII k⟩

noncomputable def F_strings_trimLeftASCII (k : Nat) : FnF := ⟨[.str, (.ptr (.arr 256 .bool))], [.str], [], fun x => strings_trimLeftASCII k (x.1) (x.2)⟩
theorem c_strings_trimLeftASCII (k : Nat) : Contract Tryd.prog Gl 47 (F_strings_trimLeftASCII k).toC := mkC Gl_stable Tryd.func47 (by kernel_rfl) rfl Tryd.ntmps47 (F_strings_trimLeftASCII k) (by kernel_rfl) [q_strings_asciiSet_contains k] (fun x => .sk 1 (.j [.sl 0 .str] (sB [0] [] []) strings_trimLeftASCII_j1 (.lp [.sl 0 .str] (sB [0, 1] [] []) (strings_trimLeftASCII_l1 k (x.2)) k fun _ _ => .z) (fun _ => .z))) (by kernel_rfl)
noncomputable def q_strings_trimLeftASCII (k : Nat) : PF Tryd.prog Gl := ⟨47, F_strings_trimLeftASCII k, c_strings_trimLeftASCII k⟩

noncomputable def F_strings_trimRightUnicode (k : Nat) : FnF := ⟨[.str, .str], [.str], [], fun x => strings_trimRightUnicode k (x.1) (x.2)⟩
theorem c_strings_trimRightUnicode (k : Nat) : Contract Tryd.prog Gl 50 (F_strings_trimRightUnicode k).toC := mkC0 Tryd.func50 (by kernel_rfl) rfl _ fun _ => rfl
noncomputable def q_strings_trimRightUnicode (k : Nat) : PF Tryd.prog Gl := ⟨50, F_strings_trimRightUnicode k, c_strings_trimRightUnicode k⟩

noncomputable def F_strings_trimLeftUnicode (k : Nat) : FnF := ⟨[.str, .str], [.str], [], fun x => strings_trimLeftUnicode k (x.1) (x.2)⟩
theorem c_strings_trimLeftUnicode (k : Nat) : Contract Tryd.prog Gl 49 (F_strings_trimLeftUnicode k).toC := mkC0 Tryd.func49 (by kernel_rfl) rfl _ fun _ => rfl
noncomputable def q_strings_trimLeftUnicode (k : Nat) : PF Tryd.prog Gl := ⟨49, F_strings_trimLeftUnicode k, c_strings_trimLeftUnicode k⟩

noncomputable def F_strings_Trim (k : Nat) : FnF := ⟨[.str, .str], [.str], [], fun x => strings_Trim k (x.1) (x.2)⟩
theorem c_strings_Trim (k : Nat) : Contract Tryd.prog Gl 37 (F_strings_Trim k).toC := mkC Gl_stable Tryd.func37 (by kernel_rfl) rfl Tryd.ntmps37 (F_strings_Trim k) (by kernel_rfl) [q_strings_trimRightByte k, q_strings_trimLeftByte k, q_strings_makeASCIISet k, q_strings_trimRightASCII k, q_strings_trimLeftASCII k, q_strings_trimRightUnicode k, q_strings_trimLeftUnicode k] (fun x => .sk 3 (.pg 2 (.f (.sk 2 (.g 3 (strings_Trim_j2 k (x.2) (x.1)) .z .z (fun _ => .z)))))) (by kernel_rfl)
noncomputable def q_strings_Trim (k : Nat) : PF Tryd.prog Gl := ⟨37, F_strings_Trim k, c_strings_Trim k⟩

noncomputable def F_feature_named (k : Nat) : FnF := ⟨[.str], [.bool], [], fun x => feature_named k x⟩
theorem c_feature_named (k : Nat) : Contract Tryd.prog Gl 28 (F_feature_named k).toC := mkC Gl_stable Tryd.func28 (by kernel_rfl) rfl Tryd.ntmps28 (F_feature_named k) (by kernel_rfl) [q_strings_Trim k] (fun _ => .sk 2 (.pg 3 (.g 3 feature_named_j2 .z .z (fun _ => .z)))) (by kernel_rfl)
noncomputable def q_feature_named (k : Nat) : PF Tryd.prog Gl := ⟨28, F_feature_named k, c_feature_named k⟩

noncomputable def F_feature_lettered (k : Nat) : FnF := ⟨[(.int .i32)], [.bool], [], fun x => feature_lettered k x⟩
theorem c_feature_lettered (k : Nat) : Contract Tryd.prog Gl 29 (F_feature_lettered k).toC := mkC Gl_stable Tryd.func29 (by kernel_rfl) rfl Tryd.ntmps29 (F_feature_lettered k) (by kernel_rfl) [] (fun x => .sk 2 (.j [.sl 3 .bool] (sB [0, 3] [] []) (feature_lettered_j1 x) (.sk 1 (.pg 2 (.f (.pg 2 .z)))) (fun _ => .f (.j [.sl 16 .bool] (sB [16] [] []) feature_lettered_j2 .z (fun _ => .z))))) (by kernel_rfl)
noncomputable def q_feature_lettered (k : Nat) : PF Tryd.prog Gl := ⟨29, F_feature_lettered k, c_feature_lettered k⟩

noncomputable def F_feature_within (k : Nat) : FnF := ⟨[(.pair (.sl .str) (.pair (.sl (.pair (.int .i32) (.pair (.int .u32) (.pair (.int .u32) .unit)))) .unit)), (.int .u32), (.int .u32)], [.bool], [], fun x => feature_within k (x.1) (x.2.1) (x.2.2)⟩
theorem c_feature_within (k : Nat) : Contract Tryd.prog Gl 30 (F_feature_within k).toC := mkC Gl_stable Tryd.func30 (by kernel_rfl) rfl Tryd.ntmps30 (F_feature_within k) (by kernel_rfl) [] (fun _ => .sk 2 (.pg 4 .z)) (by kernel_rfl)
noncomputable def q_feature_within (k : Nat) : PF Tryd.prog Gl := ⟨30, F_feature_within k, c_feature_within k⟩

noncomputable def F_feature_Check (k : Nat) : FnF := ⟨[(.pair (.sl .str) (.pair (.sl (.pair (.int .i32) (.pair (.int .u32) (.pair (.int .u32) .unit)))) .unit))], [(.int .i64)], [], fun x => feature_Check k x⟩
theorem c_feature_Check (k : Nat) : Contract Tryd.prog Gl 19 (F_feature_Check k).toC := mkC Gl_stable Tryd.func19 (by kernel_rfl) rfl Tryd.ntmps19 (F_feature_Check k) (by kernel_rfl) [q_feature_named k, q_feature_lettered k, q_feature_within k] (fun x => .sk 3 (.pg 4 (.pg 4 (.f (.sk 3 (.lp [.sl 29 (.int .i64), .mp 25 .str .bool] (sB [1, 3, 27, 28, 29] [1, 25] []) (fun n => Un2 (feature_Check_l1 k x n)) k fun _ _ => .sk 2 (.c (.sk 6 (.pg 3 .z)) (.sk 3 (.lp [.sl 48 (.int .i64), .mp 44 (.int .i32) .bool] (sB [1, 6, 46, 47, 48] [1, 44] []) (fun n => Un2 (feature_Check_l2 k x n)) k fun g'2 y'2 => .sk 2 (.t (.sk 2 (.a (.pair (.int .i32) (.pair (.int .u32) (.pair (.int .u32) .unit))) fun x2 => .sk 3 (.pg 4 (.g 7 (feature_Check_j5 (Cn2 g'2) (y'2.1) (y'2.2) x2) .z .z (fun _ => .z))))))))))))))) (by kernel_rfl)
noncomputable def q_feature_Check (k : Nat) : PF Tryd.prog Gl := ⟨19, F_feature_Check k, c_feature_Check k⟩

noncomputable def F_word_ranks (k : Nat) : FnF := ⟨[(.pair (.sl .str) (.pair (.sl (.pair (.int .i32) (.pair (.int .u32) (.pair (.int .u32) .unit)))) .unit))], [(.map (.int .i32) (.int .i64)), (.int .i64)], [], fun x => word_ranks k x⟩
theorem c_word_ranks (k : Nat) : Contract Tryd.prog Gl 34 (F_word_ranks k).toC := mkC Gl_stable Tryd.func34 (by kernel_rfl) rfl Tryd.ntmps34 (F_word_ranks k) (by kernel_rfl) [q_feature_Check k] (fun x => .sk 5 (.f (.sk 3 (.lp [.sl 20 (.int .i64), .mp 16 (.int .i32) (.int .i64)] (sB [5, 18, 19, 20] [16] []) (fun n => Un2 (word_ranks_l1 x n)) k fun _ _ => .z)))) (by kernel_rfl)
noncomputable def q_word_ranks (k : Nat) : PF Tryd.prog Gl := ⟨34, F_word_ranks k, c_word_ranks k⟩

noncomputable def F_runes_long (k : Nat) : FnF := ⟨[.str], [(.int .i64)], [], fun x => runes_long k x⟩
theorem c_runes_long (k : Nat) : Contract Tryd.prog Gl 61 (F_runes_long k).toC := mkC Gl_stable Tryd.func61 (by kernel_rfl) rfl Tryd.ntmps61 (F_runes_long k) (by kernel_rfl) [] (fun _ => .z) (by kernel_rfl)
noncomputable def q_runes_long (k : Nat) : PF Tryd.prog Gl := ⟨61, F_runes_long k, c_runes_long k⟩

noncomputable def F_unicode_utf8_RuneLen (k : Nat) : FnF := ⟨[(.int .i32)], [(.int .i64)], [], fun x => unicode_utf8_RuneLen k x⟩
theorem c_unicode_utf8_RuneLen (k : Nat) : Contract Tryd.prog Gl 76 (F_unicode_utf8_RuneLen k).toC := mkC Gl_stable Tryd.func76 (by kernel_rfl) rfl Tryd.ntmps76 (F_unicode_utf8_RuneLen k) (by kernel_rfl) [] (fun _ => .sk 3 (.f (.sk 1 (.f (.sk 1 (.f (.sk 1 (.pg 2 .z)))))))) (by kernel_rfl)
noncomputable def q_unicode_utf8_RuneLen (k : Nat) : PF Tryd.prog Gl := ⟨76, F_unicode_utf8_RuneLen k, c_unicode_utf8_RuneLen k⟩

noncomputable def B_runes_Pieces_c1_i1 (k : Nat) : FnB ((Int × Int × Int × Bool × Unit) × List ((Int × Int × Int × Bool × Unit))) (Bool × List ((Int × Int × Int × Bool × Unit))) where
  n := 8
  S := fun z => ⟨[(0, .val (.pair (.int .i32) (.pair (.int .i64) (.pair (.int .i64) (.pair .bool .unit)))) (z.1)), (1, .ptr 8 0)], [(8, .cells [.row 9] 100)], [(9, ⟨104, (.pair (.int .i32) (.pair (.int .i64) (.pair (.int .i64) (.pair .bool .unit)))), (z.2)⟩)]⟩
  S' := fun z y => ⟨[], [(8, .cells [.row 9] 100)], [(9, ⟨104, (.pair (.int .i32) (.pair (.int .i64) (.pair (.int .i64) (.pair .bool .unit)))), (y.2)⟩)]⟩
  rs := fun z y => [BB (y.1)]
  rel := fun z y => runes_Pieces_c1_i1 k (z.1) (z.2) = some y
theorem b_runes_Pieces_c1_i1 (k : Nat) : BC Tryd.prog Gl 63 (B_runes_Pieces_c1_i1 k) := mkB Tryd.func63 (by kernel_rfl) rfl (B_runes_Pieces_c1_i1 k) Tryd.ntmps63 [] (fun z => runes_Pieces_c1_i1 k (z.1) (z.2)) (fun _ _ h => h) (fun st => getH st [.sl 0 .bool, .rw 9 104 (.pair (.int .i32) (.pair (.int .i64) (.pair (.int .i64) (.pair .bool .unit))))]) [8] [9] (fun _ => .z) (by kernel_rfl)
noncomputable def pb_runes_Pieces_c1_i1 (k : Nat) : PB Tryd.prog Gl ((Int × Int × Int × Bool × Unit) × List ((Int × Int × Int × Bool × Unit))) (Bool × List ((Int × Int × Int × Bool × Unit))) := ⟨63, B_runes_Pieces_c1_i1 k, fun st => getH st [.sl 0 (.pair (.int .i32) (.pair (.int .i64) (.pair (.int .i64) (.pair .bool .unit)))), .rw 9 104 (.pair (.int .i32) (.pair (.int .i64) (.pair (.int .i64) (.pair .bool .unit))))], fun z => runes_Pieces_c1_i1 k (z.1) (z.2), (b_runes_Pieces_c1_i1 k), fun _ _ h => h⟩

noncomputable def B_runes_each_i1 (k : Nat) : FnB (List UInt8 × List ((Int × Int × Int × Bool × Unit))) (List ((Int × Int × Int × Bool × Unit))) where
  n := 37
  S := fun z => ⟨[(0, SS (z.1)), (1, .clos 63 [37])], [(37, .cells [.row 38] 100)], [(38, ⟨104, (.pair (.int .i32) (.pair (.int .i64) (.pair (.int .i64) (.pair .bool .unit)))), (z.2)⟩)]⟩
  S' := fun z y => ⟨[], [(37, .cells [.row 38] 100)], [(38, ⟨104, (.pair (.int .i32) (.pair (.int .i64) (.pair (.int .i64) (.pair .bool .unit)))), (y)⟩)]⟩
  rs := fun z y => []
  rel := fun z y => runes_each_i1 k (z.1) (z.2) = some y
theorem b_runes_each_i1 (k : Nat) : BC Tryd.prog Gl 62 (B_runes_each_i1 k) := mkB Tryd.func62 (by kernel_rfl) rfl (B_runes_each_i1 k) Tryd.ntmps62 [q_unicode_utf8_RuneLen k, q_unicode_utf8_DecodeRuneInString k] (fun z => runes_each_i1 k (z.1) (z.2)) (fun _ _ h => h) (fun st => getH st [.rw 38 104 (.pair (.int .i32) (.pair (.int .i64) (.pair (.int .i64) (.pair .bool .unit))))]) [37] [38] (fun z => .sk 1 (.lp [.it 10, .rw 38 104 (.pair (.int .i32) (.pair (.int .i64) (.pair (.int .i64) (.pair .bool .unit))))] (sB [0, 1, 10] [10, 37] [38]) (fun n => Un2 (runes_each_i1_l1 k (z.1) n)) k fun g'1 y'1 => .sk 1 (.c (.sk 1 (.T (.sk 3 (.j [.bx 6 2 (.int .i64), .bx 6 3 .bool] (sB [0, 1, 6, 10] [6, 10, 37] [38]) (Un2 (runes_each_i1_j1 k (z.1) (y'1.1) (y'1.2) (Cn2 g'1))) .z (fun _ => .sk 1 (.cb (pb_runes_Pieces_c1_i1 k) [(37, 8), (38, 9)] [(8, 37), (9, 38)] (fun _ => .z))))))) (.sk 1 (.F .z))))) (by kernel_rfl)
noncomputable def pb_runes_each_i1 (k : Nat) : PB Tryd.prog Gl (List UInt8 × List ((Int × Int × Int × Bool × Unit))) (List ((Int × Int × Int × Bool × Unit))) := ⟨62, B_runes_each_i1 k, fun st => getH st [.sl 0 .str, .rw 38 104 (.pair (.int .i32) (.pair (.int .i64) (.pair (.int .i64) (.pair .bool .unit))))], fun z => runes_each_i1 k (z.1) (z.2), (b_runes_each_i1 k), fun _ _ h => h⟩

noncomputable def F_runes_Pieces (k : Nat) : FnF := ⟨[.str], [(.sl (.pair (.int .i32) (.pair (.int .i64) (.pair (.int .i64) (.pair .bool .unit))))), (.int .i64)], [], fun x => runes_Pieces k x⟩
theorem c_runes_Pieces (k : Nat) : Contract Tryd.prog Gl 41 (F_runes_Pieces k).toC := mkC Gl_stable Tryd.func41 (by kernel_rfl) rfl Tryd.ntmps41 (F_runes_Pieces k) (by kernel_rfl) [q_runes_long k] (fun _ => .sk 6 (.f (.sk 2 (.cb (pb_runes_each_i1 k) [(5, 37), (1000005, 38)] [(37, 5), (38, 1000005)] (fun _ => .z))))) (by kernel_rfl)
noncomputable def q_runes_Pieces (k : Nat) : PF Tryd.prog Gl := ⟨41, F_runes_Pieces k, c_runes_Pieces k⟩

noncomputable def F_word_read (k : Nat) : FnF := ⟨[(.map (.int .i32) (.int .i64)), .str], [(.sl (.int .i32)), (.int .i64)], [], fun x => word_read k (x.1) (x.2)⟩
theorem c_word_read (k : Nat) : Contract Tryd.prog Gl 35 (F_word_read k).toC := mkC Gl_stable Tryd.func35 (by kernel_rfl) rfl Tryd.ntmps35 (F_word_read k) (by kernel_rfl) [q_runes_Pieces k] (fun x => .sk 2 (.j [.sl 1 .str] (sB [0, 1] [] []) (word_read_j1 k (x.1)) .z (fun _ => .sk 1 (.ac [(.sl (.pair (.int .i32) (.pair (.int .i64) (.pair (.int .i64) (.pair .bool .unit))))), (.int .i64)] fun v1 => .sk 2 (.f (.sk 4 (.lp [.sl 28 (.int .i64), .rw 8 21 (.int .i32)] (sB [0, 8, 26, 27, 28] [] [8]) (fun n => Un2 (word_read_l1 v1 (x.1) n)) k fun _ _ => .z))))))) (by kernel_rfl)
noncomputable def q_word_read (k : Nat) : PF Tryd.prog Gl := ⟨35, F_word_read k, c_word_read k⟩

noncomputable def F_word_Letters (k : Nat) : FnF := ⟨[(.pair (.sl .str) (.pair (.sl (.pair (.int .i32) (.pair (.int .u32) (.pair (.int .u32) .unit)))) .unit)), .str], [(.sl (.int .i32)), (.int .i64)], [], fun x => word_Letters k (x.1) (x.2)⟩
theorem c_word_Letters (k : Nat) : Contract Tryd.prog Gl 25 (F_word_Letters k).toC := mkC Gl_stable Tryd.func25 (by kernel_rfl) rfl Tryd.ntmps25 (F_word_Letters k) (by kernel_rfl) [q_word_ranks k, q_word_read k] (fun _ => .z) (by kernel_rfl)
noncomputable def q_word_Letters (k : Nat) : PF Tryd.prog Gl := ⟨25, F_word_Letters k, c_word_Letters k⟩

noncomputable def F_feature_Of_c1 (k : Nat) : FnF := ⟨[(.pair (.int .i32) (.pair (.int .u32) (.pair (.int .u32) .unit))), (.ptr (.int .i32))], [.bool], [(.int .i32)], fun x => feature_Of_c1 k (x.1) (x.2)⟩
theorem c_feature_Of_c1 (k : Nat) : Contract Tryd.prog Gl 65 (F_feature_Of_c1 k).toC := mkC Gl_stable Tryd.func65 (by kernel_rfl) rfl Tryd.ntmps65 (F_feature_Of_c1 k) (by kernel_rfl) [] (fun _ => .z) (by kernel_rfl)
noncomputable def q_feature_Of_c1 (k : Nat) : PF Tryd.prog Gl := ⟨65, F_feature_Of_c1 k, c_feature_Of_c1 k⟩

noncomputable def F_slices_IndexFunc___api_Letter_api_Letter__Of_c1 (k : Nat) : FnF := ⟨[(.sl (.pair (.int .i32) (.pair (.int .u32) (.pair (.int .u32) .unit)))), (.fn 65 (.pair (.ptr (.int .i32)) .unit))], [(.int .i64)], [], fun x => slices_IndexFunc___api_Letter_api_Letter__Of_c1 k (x.1) (x.2)⟩
theorem c_slices_IndexFunc___api_Letter_api_Letter__Of_c1 (k : Nat) : Contract Tryd.prog Gl 64 (F_slices_IndexFunc___api_Letter_api_Letter__Of_c1 k).toC := mkC Gl_stable Tryd.func64 (by kernel_rfl) rfl Tryd.ntmps64 (F_slices_IndexFunc___api_Letter_api_Letter__Of_c1 k) (by kernel_rfl) [q_feature_Of_c1 k] (fun x => .sk 3 (.lp [.sl 8 (.int .i64)] (sB [0, 1, 7, 8] [] []) (slices_IndexFunc___api_Letter_api_Letter__Of_c1_l1 k (x.1) (x.2)) k fun _ _ => .z)) (by kernel_rfl)
noncomputable def q_slices_IndexFunc___api_Letter_api_Letter__Of_c1 (k : Nat) : PF Tryd.prog Gl := ⟨64, F_slices_IndexFunc___api_Letter_api_Letter__Of_c1 k, c_slices_IndexFunc___api_Letter_api_Letter__Of_c1 k⟩

noncomputable def F_feature_Of (k : Nat) : FnF := ⟨[(.pair (.sl .str) (.pair (.sl (.pair (.int .i32) (.pair (.int .u32) (.pair (.int .u32) .unit)))) .unit)), (.int .i32)], [(.pair (.int .i32) (.pair (.int .u32) (.pair (.int .u32) .unit))), (.int .i64)], [], fun x => feature_Of k (x.1) (x.2)⟩
theorem c_feature_Of (k : Nat) : Contract Tryd.prog Gl 42 (F_feature_Of k).toC := mkC Gl_stable Tryd.func42 (by kernel_rfl) rfl Tryd.ntmps42 (F_feature_Of k) (by kernel_rfl) [q_feature_Check k, q_feature_Of_c1 k, q_slices_IndexFunc___api_Letter_api_Letter__Of_c1 k] (fun _ => .z) (by kernel_rfl)
noncomputable def q_feature_Of (k : Nat) : PF Tryd.prog Gl := ⟨42, F_feature_Of k, c_feature_Of k⟩

noncomputable def F_math_bits_OnesCount32 (k : Nat) : FnF := ⟨[(.int .u32)], [(.int .i64)], [], fun x => math_bits_OnesCount32 k x⟩
theorem c_math_bits_OnesCount32 (k : Nat) : Contract Tryd.prog Gl 66 (F_math_bits_OnesCount32 k).toC := mkC Gl_stable Tryd.func66 (by kernel_rfl) rfl Tryd.ntmps66 (F_math_bits_OnesCount32 k) (by kernel_rfl) [] (fun _ => .z) (by kernel_rfl)
noncomputable def q_math_bits_OnesCount32 (k : Nat) : PF Tryd.prog Gl := ⟨66, F_math_bits_OnesCount32 k, c_math_bits_OnesCount32 k⟩

noncomputable def F_feature_unlike (k : Nat) : FnF := ⟨[(.pair (.int .i32) (.pair (.int .u32) (.pair (.int .u32) .unit))), (.pair (.int .i32) (.pair (.int .u32) (.pair (.int .u32) .unit)))], [(.int .i64)], [], fun x => feature_unlike k (x.1) (x.2)⟩
theorem c_feature_unlike (k : Nat) : Contract Tryd.prog Gl 43 (F_feature_unlike k).toC := mkC Gl_stable Tryd.func43 (by kernel_rfl) rfl Tryd.ntmps43 (F_feature_unlike k) (by kernel_rfl) [q_math_bits_OnesCount32 k] (fun _ => .z) (by kernel_rfl)
noncomputable def q_feature_unlike (k : Nat) : PF Tryd.prog Gl := ⟨43, F_feature_unlike k, c_feature_unlike k⟩

noncomputable def F_feature_Far (k : Nat) : FnF := ⟨[(.pair (.sl .str) (.pair (.sl (.pair (.int .i32) (.pair (.int .u32) (.pair (.int .u32) .unit)))) .unit)), (.int .i32), (.int .i32)], [(.int .i64), (.int .i64)], [], fun x => feature_Far k (x.1) (x.2.1) (x.2.2)⟩
theorem c_feature_Far (k : Nat) : Contract Tryd.prog Gl 36 (F_feature_Far k).toC := mkC Gl_stable Tryd.func36 (by kernel_rfl) rfl Tryd.ntmps36 (F_feature_Far k) (by kernel_rfl) [q_feature_Of k, q_feature_unlike k] (fun _ => .z) (by kernel_rfl)
noncomputable def q_feature_Far (k : Nat) : PF Tryd.prog Gl := ⟨36, F_feature_Far k, c_feature_Far k⟩

noncomputable def F_align_far (k : Nat) : FnF := ⟨[(.pair (.sl .str) (.pair (.sl (.pair (.int .i32) (.pair (.int .u32) (.pair (.int .u32) .unit)))) .unit)), (.int .i32), (.int .i32)], [(.int .i64)], [], fun x => align_far k (x.1) (x.2.1) (x.2.2)⟩
theorem c_align_far (k : Nat) : Contract Tryd.prog Gl 27 (F_align_far k).toC := mkC Gl_stable Tryd.func27 (by kernel_rfl) rfl Tryd.ntmps27 (F_align_far k) (by kernel_rfl) [q_feature_Far k] (fun _ => .sk 3 (.f (.sk 2 (.pg 2 .z)))) (by kernel_rfl)
noncomputable def q_align_far (k : Nat) : PF Tryd.prog Gl := ⟨27, F_align_far k, c_align_far k⟩

noncomputable def B_align_filled_i1 (k : Nat) : FnB ((List (List UInt8) × List ((Int × Int × Int × Unit)) × Unit) × List (Int) × List (Int)) (List (Int) × List (Int) × List (List (Int)) × List (List (Int)) × Unit) where
  n := 174
  S := fun z => ⟨[(0, .val (.pair (.sl .str) (.pair (.sl (.pair (.int .i32) (.pair (.int .u32) (.pair (.int .u32) .unit)))) .unit)) (z.1)), (1, .val (.sl (.int .i32)) (z.2.1)), (2, .val (.sl (.int .i32)) (z.2.2))], [], []⟩
  S' := fun z y => ⟨[], [(18, .blk (.pair (.sl (.int .i32)) (.pair (.sl (.int .i32)) (.pair (.arr 65 (.arr 65 (.int .i64))) (.pair (.arr 65 (.arr 65 (.int .i64))) .unit)))) (y) 65)], []⟩
  rs := fun z y => [.bp 18 []]
  rel := fun z y => align_filled_i1 k (z.1) (z.2.1) (z.2.2) = some y
noncomputable def E_align_filled_i1 (k : Nat) : Env := envOf Tryd.prog Gl 174 [q_align_far k]
theorem b_align_filled_i1 (k : Nat) : BC Tryd.prog Gl 26 (B_align_filled_i1 k) := by
  refine bc_of (fn := Tryd.f26) Tryd.func26 (by kernel_rfl) rfl Tryd.ntmps26 ?_
  rintro cx hP hn hG ⟨a1, x1, y1⟩ y0 h
  have hE : EnvOK (E_align_filled_i1 k) cx := envOf_ok hP hn hG
  replace h : align_filled_i1 k a1 x1 y1 = some y0 := h
  unfold align_filled_i1 at h
  refine W_seq (W_region (WL_allC hE [1, 2, 3] [3] [] (orc := []) (by kernel_rfl) .n (N_then (W_seq (W_region (WL_allC hE [1, 2, 3, 7] [3, 18] [] (orc := [⟨.unit, ()⟩]) (by kernel_rfl) .n (N_then (W_seq (W_region ?_)))))))))
  obtain ⟨_, e3, h⟩ := bind_some h
  replace e3 := chk_some e3
  obtain ⟨_, e4, h⟩ := bind_some h
  replace e4 := chk_some e4
  obtain ⟨x2, e1, h⟩ := bind_some h
  obtain ⟨x3, e2, h⟩ := bind_some h
  refine WL_allC hE [1, 2, 3, 7] [3, 18] [] (orc := [⟨(.arr 65 (.int .i64)), x2⟩, tI64 x3]) (by kernel_rfl) (.c e3 (.c e4 (.c e1 (.c e2 .n)))) (N_then (W_seq (W_seq (W_region (WL_allI hE (orc := []) (by kernel_rfl) .n (N_then (W_block (W_loop (α := (Int × List (List UInt8) × List ((Int × Int × Int × Unit)) × (List (Int) × List (Int) × List (List (Int)) × List (List (Int)) × Unit))) (fun n z => align_filled_i1_l1 k x1 y1 n z.1 z.2.1 z.2.2.1 z.2.2.2 = some y0) (fun z => ⟨[(1, .val (.sl (.int .i32)) x1), (2, .val (.sl (.int .i32)) y1), (3, .ptr 3 0), (7, .bp 18 []), (8, I64 (z.1))], [(3, .cells [.val (.sl .str) (z.2.1), .val (.sl (.pair (.int .i32) (.pair (.int .u32) (.pair (.int .u32) .unit)))) (z.2.2.1)] 25), (18, .blk (.pair (.sl (.int .i32)) (.pair (.sl (.int .i32)) (.pair (.arr 65 (.arr 65 (.int .i64))) (.pair (.arr 65 (.arr 65 (.int .i64))) .unit)))) (z.2.2.2) 65)], []⟩) ?_ (k := k) (x := ((List.length x1 : Int), a1.1, a1.2.1, (x1, y1, (List.replicate 65 (List.replicate 65 (0 : Int))), List.set (List.replicate 65 (List.replicate 65 (0 : Int))) ((List.length x1 : Int)).toNat (List.set x2 ((List.length y1 : Int)).toNat (1 : Int)), ()))) h))))))))
  clear h
  rintro fuel1 ⟨i1, a2, a3, blk2⟩ h
  cases fuel1 with
  | zero => exact absurd (show none = some _ from h) (by simp)
  | succ fuel1 =>
    have h : align_filled_i1_b1 k x1 y1 (align_filled_i1_l1 k x1 y1 fuel1) i1 a2 a3 blk2 = some y0 := h
    unfold align_filled_i1_b1 at h
    refine W_seq (W_seq (W_region (WL_allC hE [1, 2, 3, 7, 8, 31] [3, 18] [] (orc := []) (by kernel_rfl) .n (N_then (W_cond (b := decide ((0 : Int) ≤ i1)) (by kernel_rfl) (fun e5 => ?_) (fun e5 => ?_))))))
    · replace h := ite_t e5 h
      refine W_skip (N_then (W_seq (W_block (W_seq (W_region (WL_allI hE (orc := []) (by kernel_rfl) .n (N_then (W_block (W_loop (α := (Int × (List (Int) × List (Int) × List (List (Int)) × List (List (Int)) × Unit))) (fun n z => align_filled_i1_l2 k x1 i1 y1 a2 a3 (align_filled_i1_l1 k x1 y1 fuel1) n z.1 z.2 = some y0) (fun z => ⟨[(1, .val (.sl (.int .i32)) x1), (2, .val (.sl (.int .i32)) y1), (3, .ptr 3 0), (7, .bp 18 []), (8, I64 i1), (9, I64 (z.1))], [(3, .cells [.val (.sl .str) a2, .val (.sl (.pair (.int .i32) (.pair (.int .u32) (.pair (.int .u32) .unit)))) a3] 25), (18, .blk (.pair (.sl (.int .i32)) (.pair (.sl (.int .i32)) (.pair (.arr 65 (.arr 65 (.int .i64))) (.pair (.arr 65 (.arr 65 (.int .i64))) .unit)))) (z.2) 65)], []⟩) ?_ (k := k) (x := ((List.length y1 : Int), blk2)) h)))))))))
      clear h
      rintro fuel2 ⟨k1, blk3⟩ h
      cases fuel2 with
      | zero => exact absurd (show none = some _ from h) (by simp)
      | succ fuel2 =>
        have h : align_filled_i1_b2 k x1 i1 y1 a2 a3 (align_filled_i1_l1 k x1 y1 fuel1) (align_filled_i1_l2 k x1 i1 y1 a2 a3 (align_filled_i1_l1 k x1 y1 fuel1) fuel2) k1 blk3 = some y0 := h
        unfold align_filled_i1_b2 at h
        refine W_seq (W_seq (W_region (WL_allC hE [1, 2, 3, 7, 8, 9, 37] [3, 18] [] (orc := []) (by kernel_rfl) .n (N_then (W_cond (b := decide ((0 : Int) ≤ k1)) (by kernel_rfl) (fun e6 => ?_) (fun e6 => ?_))))))
        · replace h := ite_t e6 h
          refine W_skip (N_then (W_join (α := (List (Int) × List (Int) × List (List (Int)) × List (List (Int)) × Unit)) (fun z => align_filled_i1_j1 (align_filled_i1_l2 k x1 i1 y1 a2 a3 (align_filled_i1_l1 k x1 y1 fuel1) fuel2) k1 z = some y0) (fun blk4 => ⟨[(1, .val (.sl (.int .i32)) x1), (2, .val (.sl (.int .i32)) y1), (3, .ptr 3 0), (7, .bp 18 []), (8, I64 i1), (9, I64 k1)], [(3, .cells [.val (.sl .str) a2, .val (.sl (.pair (.int .i32) (.pair (.int .u32) (.pair (.int .u32) .unit)))) a3] 25), (18, .blk (.pair (.sl (.int .i32)) (.pair (.sl (.int .i32)) (.pair (.arr 65 (.arr 65 (.int .i64))) (.pair (.arr 65 (.arr 65 (.int .i64))) .unit)))) blk4 65)], []⟩) ?_ (fun hJ1 => ?_)))
          · rintro blk4 h
            unfold align_filled_i1_j1 at h
            exact W_region (WL_allI hE (orc := []) (by kernel_rfl) .n (N_round (wi64 (k1 - (1 : Int)), blk4) (Nat.lt_succ_self _) h))
          refine W_block (W_seq (W_seq (W_region (WL_tkC hE 5 [1, 2, 3, 7, 8, 9, 44] [3, 18] [] (orc := []) (by kernel_rfl) .n (WL_join (α := Bool) (fun z => align_filled_i1_j2 k (align_filled_i1_l2 k x1 i1 y1 a2 a3 (align_filled_i1_l1 k x1 y1 fuel1) fuel2) k1 blk3 x1 i1 y1 a2 a3 z = some y0) (fun t1 => ⟨[(1, .val (.sl (.int .i32)) x1), (2, .val (.sl (.int .i32)) y1), (3, .ptr 3 0), (7, .bp 18 []), (8, I64 i1), (9, I64 k1), (49, BB t1)], [(3, .cells [.val (.sl .str) a2, .val (.sl (.pair (.int .i32) (.pair (.int .u32) (.pair (.int .u32) .unit)))) a3] 25), (18, .blk (.pair (.sl (.int .i32)) (.pair (.sl (.int .i32)) (.pair (.arr 65 (.arr 65 (.int .i64))) (.pair (.arr 65 (.arr 65 (.int .i64))) .unit)))) blk3 65)], []⟩) 5 ?_ (fun hJ2 => ?_))))))
          · rintro t1 h
            unfold align_filled_i1_j2 at h
            refine WL_nil (N_then (W_cond (b := t1) (by kernel_rfl) (fun e7 => ?_) (fun e7 => ?_)))
            · replace h := ite_t e7 h
              exact W_exit (N_then_exit (N_block_exit (N_normI (by kernel_rfl) (hJ1 blk3 h))))
            · replace h := ite_f e7 h
              refine W_skip (N_then (W_seq (W_region (WL_allC hE [1, 2, 3, 7, 8, 9, 10, 11, 12] [3, 18] [] (orc := []) (by kernel_rfl) .n (N_then (W_join (α := Int) (fun z => align_filled_i1_j3 i1 x1 k1 blk3 y1 (align_filled_i1_l2 k x1 i1 y1 a2 a3 (align_filled_i1_l1 k x1 y1 fuel1) fuel2) z = some y0) (fun both1 => ⟨[(1, .val (.sl (.int .i32)) x1), (2, .val (.sl (.int .i32)) y1), (3, .ptr 3 0), (7, .bp 18 []), (8, I64 i1), (9, I64 k1), (10, I64 both1), (11, I64 (1073741824 : Int)), (12, I64 (1073741824 : Int))], [(3, .cells [.val (.sl .str) a2, .val (.sl (.pair (.int .i32) (.pair (.int .u32) (.pair (.int .u32) .unit)))) a3] 25), (18, .blk (.pair (.sl (.int .i32)) (.pair (.sl (.int .i32)) (.pair (.arr 65 (.arr 65 (.int .i64))) (.pair (.arr 65 (.arr 65 (.int .i64))) .unit)))) blk3 65)], []⟩) ?_ (fun hJ8 => ?_)))))))
              · rintro both1 h
                unfold align_filled_i1_j3 at h
                refine W_join (α := Int) (fun z => align_filled_i1_j4 k1 y1 i1 blk3 both1 (align_filled_i1_l2 k x1 i1 y1 a2 a3 (align_filled_i1_l1 k x1 y1 fuel1) fuel2) z = some y0) (fun left1 => ⟨[(1, .val (.sl (.int .i32)) x1), (2, .val (.sl (.int .i32)) y1), (3, .ptr 3 0), (7, .bp 18 []), (8, I64 i1), (9, I64 k1), (10, I64 both1), (11, I64 left1), (12, I64 (1073741824 : Int))], [(3, .cells [.val (.sl .str) a2, .val (.sl (.pair (.int .i32) (.pair (.int .u32) (.pair (.int .u32) .unit)))) a3] 25), (18, .blk (.pair (.sl (.int .i32)) (.pair (.sl (.int .i32)) (.pair (.arr 65 (.arr 65 (.int .i64))) (.pair (.arr 65 (.arr 65 (.int .i64))) .unit)))) blk3 65)], []⟩) ?_ (fun hJ8 => ?_)
                · rintro left1 h
                  unfold align_filled_i1_j4 at h
                  refine W_join (α := Int) (fun z => align_filled_i1_j5 both1 left1 i1 k1 blk3 (align_filled_i1_l2 k x1 i1 y1 a2 a3 (align_filled_i1_l1 k x1 y1 fuel1) fuel2) z = some y0) (fun right1 => ⟨[(1, .val (.sl (.int .i32)) x1), (2, .val (.sl (.int .i32)) y1), (3, .ptr 3 0), (7, .bp 18 []), (8, I64 i1), (9, I64 k1), (10, I64 both1), (11, I64 left1), (12, I64 right1)], [(3, .cells [.val (.sl .str) a2, .val (.sl (.pair (.int .i32) (.pair (.int .u32) (.pair (.int .u32) .unit)))) a3] 25), (18, .blk (.pair (.sl (.int .i32)) (.pair (.sl (.int .i32)) (.pair (.arr 65 (.arr 65 (.int .i64))) (.pair (.arr 65 (.arr 65 (.int .i64))) .unit)))) blk3 65)], []⟩) ?_ (fun hJ8 => ?_)
                  · rintro right1 h
                    unfold align_filled_i1_j5 at h
                    refine W_seq (W_region (WL_allC hE [1, 2, 3, 7, 8, 9, 10, 11, 12, 13] [3, 18] [] (orc := []) (by kernel_rfl) .n (N_then (W_seq (W_region (WL_allC hE [1, 2, 3, 7, 8, 9, 10, 11, 12, 13, 14] [3, 18] [] (orc := []) (by kernel_rfl) .n (N_then (W_join (α := Int) (fun z => align_filled_i1_j6 left1 both1 right1 i1 k1 blk3 (align_filled_i1_l2 k x1 i1 y1 a2 a3 (align_filled_i1_l1 k x1 y1 fuel1) fuel2) z = some y0) (fun n1 => ⟨[(1, .val (.sl (.int .i32)) x1), (2, .val (.sl (.int .i32)) y1), (3, .ptr 3 0), (7, .bp 18 []), (8, I64 i1), (9, I64 k1), (11, I64 left1), (12, I64 right1), (13, I64 (mnI (mnI both1 left1) right1)), (14, I64 n1)], [(3, .cells [.val (.sl .str) a2, .val (.sl (.pair (.int .i32) (.pair (.int .u32) (.pair (.int .u32) .unit)))) a3] 25), (18, .blk (.pair (.sl (.int .i32)) (.pair (.sl (.int .i32)) (.pair (.arr 65 (.arr 65 (.int .i64))) (.pair (.arr 65 (.arr 65 (.int .i64))) .unit)))) blk3 65)], []⟩) ?_ (fun hJ8 => ?_)))))))))
                    · rintro n1 h
                      unfold align_filled_i1_j6 at h
                      refine W_join (α := Int) (fun z => align_filled_i1_j7 right1 both1 left1 i1 k1 blk3 (align_filled_i1_l2 k x1 i1 y1 a2 a3 (align_filled_i1_l1 k x1 y1 fuel1) fuel2) z = some y0) (fun n2 => ⟨[(1, .val (.sl (.int .i32)) x1), (2, .val (.sl (.int .i32)) y1), (3, .ptr 3 0), (7, .bp 18 []), (8, I64 i1), (9, I64 k1), (12, I64 right1), (13, I64 (mnI (mnI both1 left1) right1)), (14, I64 n2)], [(3, .cells [.val (.sl .str) a2, .val (.sl (.pair (.int .i32) (.pair (.int .u32) (.pair (.int .u32) .unit)))) a3] 25), (18, .blk (.pair (.sl (.int .i32)) (.pair (.sl (.int .i32)) (.pair (.arr 65 (.arr 65 (.int .i64))) (.pair (.arr 65 (.arr 65 (.int .i64))) .unit)))) blk3 65)], []⟩) ?_ (fun hJ8 => ?_)
                      · rintro n2 h
                        unfold align_filled_i1_j7 at h
                        refine W_join (α := Int) (fun z => align_filled_i1_j8 i1 k1 blk3 (align_filled_i1_l2 k x1 i1 y1 a2 a3 (align_filled_i1_l1 k x1 y1 fuel1) fuel2) both1 left1 right1 z = some y0) (fun n3 => ⟨[(1, .val (.sl (.int .i32)) x1), (2, .val (.sl (.int .i32)) y1), (3, .ptr 3 0), (7, .bp 18 []), (8, I64 i1), (9, I64 k1), (13, I64 (mnI (mnI both1 left1) right1)), (14, I64 n3)], [(3, .cells [.val (.sl .str) a2, .val (.sl (.pair (.int .i32) (.pair (.int .u32) (.pair (.int .u32) .unit)))) a3] 25), (18, .blk (.pair (.sl (.int .i32)) (.pair (.sl (.int .i32)) (.pair (.arr 65 (.arr 65 (.int .i64))) (.pair (.arr 65 (.arr 65 (.int .i64))) .unit)))) blk3 65)], []⟩) ?_ (fun hJ8 => ?_)
                        · rintro n3 h
                          unfold align_filled_i1_j8 at h
                          obtain ⟨_, e12, h⟩ := bind_some h
                          replace e12 := chk_some e12
                          obtain ⟨_, e13, h⟩ := bind_some h
                          replace e13 := chk_some e13
                          obtain ⟨_, e14, h⟩ := bind_some h
                          replace e14 := chk_some e14
                          obtain ⟨x4, e8, h⟩ := bind_some h
                          obtain ⟨x5, e9, h⟩ := bind_some h
                          obtain ⟨_, e15, h⟩ := bind_some h
                          replace e15 := chk_some e15
                          obtain ⟨x6, e10, h⟩ := bind_some h
                          obtain ⟨x7, e11, h⟩ := bind_some h
                          exact W_mixC hE [0, 1, 2, 3, 4, 5, 6, 7, 8, 9, 10, 11, 12, 14, 15, 16] [] [13, 17, 18] [1, 2, 3, 7, 8, 9] [3, 18] [] (orc := [⟨(.arr 65 (.int .i64)), x4⟩, tI64 x5, ⟨(.arr 65 (.int .i64)), x6⟩, tI64 x7]) (by kernel_rfl) (by kernel_rfl) (by kernel_rfl) (by kernel_rfl) (.c e12 (.c e13 (.c e14 (.c e8 (.c e9 (.c e15 (.c e10 (.c e11 .n)))))))) (N_block (N_normI (by kernel_rfl) (hJ1 (blk3.1, blk3.2.1, List.set blk3.2.2.1 (i1).toNat (List.set x4 (k1).toNat (mnI (mnI both1 left1) right1)), List.set blk3.2.2.2.1 (i1).toNat (List.set x6 (k1).toNat (mnI n3 (1048577 : Int))), ()) h)))
                        refine W_seq (W_region (WL_allC hE [1, 2, 3, 7, 8, 9, 13, 14, 144] [3, 18] [] (orc := []) (by kernel_rfl) .n (N_then (W_cond (b := right1 == (mnI (mnI both1 left1) right1)) (by kernel_rfl) (fun e16 => ?_) (fun e16 => ?_)))))
                        · replace h := ite_t e16 h
                          refine W_region ?_
                          obtain ⟨_, e19, h⟩ := bind_some h
                          replace e19 := chk_some e19
                          obtain ⟨_, e20, h⟩ := bind_some h
                          replace e20 := chk_some e20
                          obtain ⟨x8, e17, h⟩ := bind_some h
                          obtain ⟨x9, e18, h⟩ := bind_some h
                          exact WL_allI hE (orc := [⟨(.arr 65 (.int .i64)), x8⟩, tI64 x9]) (by kernel_rfl) (.c e19 (.c e20 (.c e17 (.c e18 .n)))) (hJ8 (wi64 (n2 + x9)) h)
                        · replace h := ite_f e16 h
                          exact W_skip (N_normI (by kernel_rfl) (hJ8 n2 h))
                      refine W_seq (W_region (WL_allC hE [1, 2, 3, 7, 8, 9, 12, 13, 14, 130] [3, 18] [] (orc := []) (by kernel_rfl) .n (N_then (W_cond (b := left1 == (mnI (mnI both1 left1) right1)) (by kernel_rfl) (fun e21 => ?_) (fun e21 => ?_)))))
                      · replace h := ite_t e21 h
                        refine W_region ?_
                        obtain ⟨_, e24, h⟩ := bind_some h
                        replace e24 := chk_some e24
                        obtain ⟨_, e25, h⟩ := bind_some h
                        replace e25 := chk_some e25
                        obtain ⟨x10, e22, h⟩ := bind_some h
                        obtain ⟨x11, e23, h⟩ := bind_some h
                        exact WL_allI hE (orc := [⟨(.arr 65 (.int .i64)), x10⟩, tI64 x11]) (by kernel_rfl) (.c e24 (.c e25 (.c e22 (.c e23 .n)))) (hJ8 (wi64 (n1 + x11)) h)
                      · replace h := ite_f e21 h
                        exact W_skip (N_normI (by kernel_rfl) (hJ8 n1 h))
                    refine W_seq (W_region (WL_allI hE (st' := ⟨[(1, .val (.sl (.int .i32)) x1), (2, .val (.sl (.int .i32)) y1), (3, .ptr 3 0), (7, .bp 18 []), (8, I64 i1), (9, I64 k1), (11, I64 left1), (12, I64 right1), (13, I64 (mnI (mnI both1 left1) right1)), (14, I64 (0 : Int)), (115, BB (both1 == (mnI (mnI both1 left1) right1)))], [(3, .cells [.val (.sl .str) a2, .val (.sl (.pair (.int .i32) (.pair (.int .u32) (.pair (.int .u32) .unit)))) a3] 25), (18, .blk (.pair (.sl (.int .i32)) (.pair (.sl (.int .i32)) (.pair (.arr 65 (.arr 65 (.int .i64))) (.pair (.arr 65 (.arr 65 (.int .i64))) .unit)))) blk3 65)], []⟩) (orc := []) (by kernel_rfl) .n (N_then (W_cond (b := both1 == (mnI (mnI both1 left1) right1)) (by kernel_rfl) (fun e26 => ?_) (fun e26 => ?_)))))
                    · replace h := ite_t e26 h
                      refine W_region ?_
                      obtain ⟨_, e29, h⟩ := bind_some h
                      replace e29 := chk_some e29
                      obtain ⟨_, e30, h⟩ := bind_some h
                      replace e30 := chk_some e30
                      obtain ⟨x12, e27, h⟩ := bind_some h
                      obtain ⟨x13, e28, h⟩ := bind_some h
                      exact WL_allI hE (orc := [⟨(.arr 65 (.int .i64)), x12⟩, tI64 x13]) (by kernel_rfl) (.c e29 (.c e30 (.c e27 (.c e28 .n)))) (hJ8 (wi64 ((0 : Int) + x13)) h)
                    · replace h := ite_f e26 h
                      exact W_skip (N_normI (by kernel_rfl) (hJ8 (0 : Int) h))
                  refine W_seq (W_region (WL_allC hE [1, 2, 3, 7, 8, 9, 10, 11, 12, 98] [3, 18] [] (orc := []) (by kernel_rfl) .n (N_then (W_cond (b := decide (k1 < (List.length y1 : Int))) (by kernel_rfl) (fun e31 => ?_) (fun e31 => ?_)))))
                  · replace h := ite_t e31 h
                    refine W_region ?_
                    obtain ⟨_, e34, h⟩ := bind_some h
                    replace e34 := chk_some e34
                    obtain ⟨_, e35, h⟩ := bind_some h
                    replace e35 := chk_some e35
                    obtain ⟨x14, e32, h⟩ := bind_some h
                    obtain ⟨x15, e33, h⟩ := bind_some h
                    exact WL_allI hE (orc := [⟨(.arr 65 (.int .i64)), x14⟩, tI64 x15]) (by kernel_rfl) (.c e34 (.c e35 (.c e32 (.c e33 .n)))) (hJ8 (wi64 ((5 : Int) + x15)) h)
                  · replace h := ite_f e31 h
                    exact W_skip (N_normI (by kernel_rfl) (hJ8 (1073741824 : Int) h))
                refine W_seq (W_region (WL_allC hE [1, 2, 3, 7, 8, 9, 10, 11, 12, 84] [3, 18] [] (orc := []) (by kernel_rfl) .n (N_then (W_cond (b := decide (i1 < (List.length x1 : Int))) (by kernel_rfl) (fun e36 => ?_) (fun e36 => ?_)))))
                · replace h := ite_t e36 h
                  refine W_region ?_
                  obtain ⟨_, e39, h⟩ := bind_some h
                  replace e39 := chk_some e39
                  obtain ⟨_, e40, h⟩ := bind_some h
                  replace e40 := chk_some e40
                  obtain ⟨x16, e37, h⟩ := bind_some h
                  obtain ⟨x17, e38, h⟩ := bind_some h
                  exact WL_allI hE (orc := [⟨(.arr 65 (.int .i64)), x16⟩, tI64 x17]) (by kernel_rfl) (.c e39 (.c e40 (.c e37 (.c e38 .n)))) (hJ8 (wi64 ((5 : Int) + x17)) h)
                · replace h := ite_f e36 h
                  exact W_skip (N_normI (by kernel_rfl) (hJ8 (1073741824 : Int) h))
              refine W_seq (W_region (WL_tkC hE 5 [1, 2, 3, 7, 8, 9, 10, 11, 12, 54] [3, 18] [] (orc := []) (by kernel_rfl) .n (WL_join (α := Bool) (fun z => align_filled_i1_j9 k x1 i1 y1 k1 a2 a3 blk3 (align_filled_i1_l2 k x1 i1 y1 a2 a3 (align_filled_i1_l1 k x1 y1 fuel1) fuel2) z = some y0) (fun t2 => ⟨[(1, .val (.sl (.int .i32)) x1), (2, .val (.sl (.int .i32)) y1), (3, .ptr 3 0), (7, .bp 18 []), (8, I64 i1), (9, I64 k1), (10, I64 (1073741824 : Int)), (11, I64 (1073741824 : Int)), (12, I64 (1073741824 : Int)), (59, BB t2)], [(3, .cells [.val (.sl .str) a2, .val (.sl (.pair (.int .i32) (.pair (.int .u32) (.pair (.int .u32) .unit)))) a3] 25), (18, .blk (.pair (.sl (.int .i32)) (.pair (.sl (.int .i32)) (.pair (.arr 65 (.arr 65 (.int .i64))) (.pair (.arr 65 (.arr 65 (.int .i64))) .unit)))) blk3 65)], []⟩) 5 ?_ (fun hJ9 => ?_))))
              · rintro t2 h
                unfold align_filled_i1_j9 at h
                refine WL_nil (N_then (W_cond (b := t2) (by kernel_rfl) (fun e41 => ?_) (fun e41 => ?_)))
                · replace h := ite_t e41 h
                  refine W_draw hE (by kernel_rfl) (by kernel_rfl) ?_
                  obtain ⟨x18, e42, h⟩ := bind_some h
                  obtain ⟨x19, e43, h⟩ := bind_some h
                  obtain ⟨v1, e46, h⟩ := bind_some h
                  obtain ⟨_, e47, h⟩ := bind_some h
                  replace e47 := chk_some e47
                  obtain ⟨_, e48, h⟩ := bind_some h
                  replace e48 := chk_some e48
                  obtain ⟨x20, e44, h⟩ := bind_some h
                  obtain ⟨x21, e45, h⟩ := bind_some h
                  exact WD_allI hE (orc := [tI32 x18, tI32 x19, tI64 v1, ⟨(.arr 65 (.int .i64)), x20⟩, tI64 x21]) (by kernel_rfl) (.c e42 (.c e43 (.c e46 (.c e47 (.c e48 (.c e44 (.c e45 .n))))))) (hJ8 (wi64 (v1 + x21)) h)
                · replace h := ite_f e41 h
                  exact W_skip (N_normI (by kernel_rfl) (hJ8 (1073741824 : Int) h))
              refine WL_splitC 54 (b := decide (i1 < (List.length x1 : Int))) (by kernel_rfl) (fun e49 => ?_) (fun e49 => ?_)
              · rw [and_t e49] at h
                exact WL_allI hE (orc := []) (by kernel_rfl) .n (hJ9 (decide (k1 < (List.length y1 : Int))) h)
              · rw [and_f e49] at h
                exact WL_allI hE (orc := []) (by kernel_rfl) .n (hJ9 false h)
          refine WL_splitC 44 (b := i1 == (List.length x1 : Int)) (by kernel_rfl) (fun e50 => ?_) (fun e50 => ?_)
          · rw [and_t e50] at h
            exact WL_allI hE (orc := []) (by kernel_rfl) .n (hJ2 (k1 == (List.length y1 : Int)) h)
          · rw [and_f e50] at h
            exact WL_allI hE (orc := []) (by kernel_rfl) .n (hJ2 false h)
        · replace h := ite_f e6 h
          exact W_exit (N_then_exit (N_then_exit (N_block_exit (N_block (N_then (W_region (WL_allI hE (orc := []) (by kernel_rfl) .n (N_round (wi64 (i1 - (1 : Int)), a2, a3, blk3) (Nat.lt_succ_self _) h))))))))
    · replace h := ite_f e5 h
      refine W_exit (N_then_exit (N_then_exit (N_block_exit (N_then (W_seq (W_region (WL_allC hE [6] [18] [] (orc := []) (by kernel_rfl) .n (N_then (W_ret ?_)))))))))
      replace h := Option.some.inj h
      subst h
      exact N_normC [6] [18] [] (by kernel_rfl) (N_endB hE.P [18] [] (.inl rfl) (by kernel_rfl) (by kernel_rfl))
noncomputable def pb_align_filled_i1 (k : Nat) : PB Tryd.prog Gl ((List (List UInt8) × List ((Int × Int × Int × Unit)) × Unit) × List (Int) × List (Int)) (List (Int) × List (Int) × List (List (Int)) × List (List (Int)) × Unit) := ⟨26, B_align_filled_i1 k, fun st => getH st [.sl 0 (.pair (.sl .str) (.pair (.sl (.pair (.int .i32) (.pair (.int .u32) (.pair (.int .u32) .unit)))) .unit)), .sl 1 (.sl (.int .i32)), .sl 2 (.sl (.int .i32))], fun z => align_filled_i1 k (z.1) (z.2.1) (z.2.2), (b_align_filled_i1 k), fun _ _ h => h⟩

noncomputable def B_align_tabled_i1 (k : Nat) : FnB ((List (List UInt8) × List ((Int × Int × Int × Unit)) × Unit) × List UInt8 × List UInt8) (Sum Int (Int × (List (Int) × List (Int) × List (List (Int)) × List (List (Int)) × Unit))) where
  n := 33
  S := fun z => ⟨[(0, .val (.pair (.sl .str) (.pair (.sl (.pair (.int .i32) (.pair (.int .u32) (.pair (.int .u32) .unit)))) .unit)) (z.1)), (1, SS (z.2.1)), (2, SS (z.2.2))], [], []⟩
  S' := fun z y => match y with | .inl y => ⟨[], [], []⟩ | .inr y => ⟨[], [(32, .blk (.pair (.sl (.int .i32)) (.pair (.sl (.int .i32)) (.pair (.arr 65 (.arr 65 (.int .i64))) (.pair (.arr 65 (.arr 65 (.int .i64))) .unit)))) (y.2) 65)], []⟩
  rs := fun z y => match y with | .inl y => [.any, I64 (y)] | .inr y => [.bp 32 [], I64 (y.1)]
  rel := fun z y => align_tabled_i1 k (z.1) (z.2.1) (z.2.2) = some y
noncomputable def E_align_tabled_i1 (k : Nat) : Env := envOf Tryd.prog Gl 33 [q_word_Letters k]
theorem b_align_tabled_i1 (k : Nat) : BC Tryd.prog Gl 17 (B_align_tabled_i1 k) := by
  refine bc_of (fn := Tryd.f17) Tryd.func17 (by kernel_rfl) rfl Tryd.ntmps17 ?_
  rintro cx hP hn hG ⟨a1, x1, y1⟩ y0 h
  have hE : EnvOK (E_align_tabled_i1 k) cx := envOf_ok hP hn hG
  replace h : align_tabled_i1 k a1 x1 y1 = some y0 := h
  unfold align_tabled_i1 at h
  refine W_seq (W_region (WL_allC hE [1, 2, 3] [3] [] (orc := []) (by kernel_rfl) .n (N_then (W_seq (W_region ?_)))))
  obtain ⟨v1, e1, h⟩ := bind_some h
  refine WL_allC hE [2, 3, 8, 9] [3] [] (orc := [⟨(.sl (.int .i32)), v1.1⟩, tI64 v1.2]) (by kernel_rfl) (.c e1 .n) (N_then (W_seq (W_seq (W_region (WL_allC hE [2, 3, 8, 9, 18] [3] [] (orc := []) (by kernel_rfl) .n (N_then (W_cond (b := v1.2 != (0 : Int)) (by kernel_rfl) (fun e2 => ?_) (fun e2 => ?_))))))))
  · replace h := ite_t e2 h
    refine W_seq (W_region (WL_allI hE (st' := ⟨[(7, I64 v1.2)], [], []⟩) (orc := []) (by kernel_rfl) .n (N_then (W_ret (N_then_ret ?_)))))
    replace h := Option.some.inj h
    subst h
    exact N_normC [7] [] [] (by kernel_rfl) (N_endB hE.P [] [] (.inl rfl) (by kernel_rfl) (by kernel_rfl))
  · replace h := ite_f e2 h
    refine W_skip (N_then (W_seq (W_region ?_)))
    obtain ⟨v2, e3, h⟩ := bind_some h
    refine WL_allC hE [3, 8, 9, 10] [3] [] (orc := [⟨(.sl (.int .i32)), v2.1⟩, tI64 v2.2]) (by kernel_rfl) (.c e3 .n) (N_then (W_seq (W_seq (W_region (WL_allC hE [3, 8, 9, 10, 27] [3] [] (orc := []) (by kernel_rfl) .n (N_then (W_cond (b := v2.2 != (0 : Int)) (by kernel_rfl) (fun e4 => ?_) (fun e4 => ?_))))))))
    · replace h := ite_t e4 h
      refine W_seq (W_region (WL_allI hE (st' := ⟨[(7, I64 v2.2)], [], []⟩) (orc := []) (by kernel_rfl) .n (N_then (W_ret (N_then_ret ?_)))))
      replace h := Option.some.inj h
      subst h
      exact N_normC [7] [] [] (by kernel_rfl) (N_endB hE.P [] [] (.inl rfl) (by kernel_rfl) (by kernel_rfl))
    · replace h := ite_f e4 h
      refine W_skip (N_then (W_seq (W_region (WL_tkC hE 3 [29, 30, 31] [] [] (orc := []) (by kernel_rfl) .n ?_))))
      obtain ⟨v3, e5, h⟩ := bind_some h
      refine WL_callB hE (b_align_filled_i1 k) ((a1.1, a1.2.1, ()), v1.1, v2.1) v3 e5 (ρ := []) (ρ' := [(18, 32)]) (n := 174) (by kernel_rfl) [32] [32] [] (by kernel_rfl) (by kernel_rfl) (st' := ⟨[(32, .bp 32 [])], [(32, .blk (.pair (.sl (.int .i32)) (.pair (.sl (.int .i32)) (.pair (.arr 65 (.arr 65 (.int .i64))) (.pair (.arr 65 (.arr 65 (.int .i64))) .unit)))) v3 65)], []⟩) (by kernel_rfl) (WL_allC hE [6, 7] [32] [] (orc := []) (by kernel_rfl) .n (N_then (W_ret ?_)))
      replace h := Option.some.inj h
      subst h
      exact N_normC [6, 7] [32] [] (by kernel_rfl) (N_endB hE.P [32] [] (.inl rfl) (by kernel_rfl) (by kernel_rfl))
noncomputable def pb_align_tabled_i1 (k : Nat) : PB Tryd.prog Gl ((List (List UInt8) × List ((Int × Int × Int × Unit)) × Unit) × List UInt8 × List UInt8) (Sum Int (Int × (List (Int) × List (Int) × List (List (Int)) × List (List (Int)) × Unit))) := ⟨17, B_align_tabled_i1 k, fun st => getH st [.sl 0 (.pair (.sl .str) (.pair (.sl (.pair (.int .i32) (.pair (.int .u32) (.pair (.int .u32) .unit)))) .unit)), .sl 1 .str, .sl 2 .str], fun z => align_tabled_i1 k (z.1) (z.2.1) (z.2.2), (b_align_tabled_i1 k), fun _ _ h => h⟩

noncomputable def F_align_table_first (k : Nat) : FnF := ⟨[(.ptr (.pair (.sl (.int .i32)) (.pair (.sl (.int .i32)) (.pair (.arr 65 (.arr 65 (.int .i64))) (.pair (.arr 65 (.arr 65 (.int .i64))) .unit))))), (.pair (.sl .str) (.pair (.sl (.pair (.int .i32) (.pair (.int .u32) (.pair (.int .u32) .unit)))) .unit))], [(.sl (.pair (.int .i32) (.pair (.int .i32) .unit)))], [], fun x => align_table_first k (x.1) (x.2)⟩
theorem c_align_table_first (k : Nat) : Contract Tryd.prog Gl 18 (F_align_table_first k).toC := mkC Gl_stable Tryd.func18 (by kernel_rfl) rfl Tryd.ntmps18 (F_align_table_first k) (by kernel_rfl) [q_align_far k] (fun x => .sk 6 (.lp [.sl 6 (.int .i64), .sl 7 (.int .i64), .rw 5 44 (.pair (.int .i32) (.pair (.int .i32) .unit))] (sB [0, 3, 5, 6, 7] [3] [5]) (fun n => Un3 (align_table_first_l1 k (x.1) (x.2) n)) k fun g'1 y'1 => .sk 2 (.pg 7 (.t (.sk 2 (.a (.int .i64) fun x2 => .sk 2 (.pg 7 (.g 29 (align_table_first_j3 (x.1) (y'1.1) (y'1.2.1) (y'1.2.2) (Cn3 g'1) x2) .z .z (fun _ => .c (.sk 1 (.mx [0, 1, 2, 3, 5, 8, 9, 10, 12] [4, 6, 7, 11, 13, 14, 15] [16, 17, 18] .z)) (.sk 1 (.g 12 (align_table_first_j4 (x.1) (y'1.1) (y'1.2.2) (Cn3 g'1) (y'1.2.1)) .z .z (fun _ => .z)))))))))))) (by kernel_rfl)
noncomputable def q_align_table_first (k : Nat) : PF Tryd.prog Gl := ⟨18, F_align_table_first k, c_align_table_first k⟩

noncomputable def B_align_table_first_i1 (k : Nat) : FnB ((List (List UInt8) × List ((Int × Int × Int × Unit)) × Unit) × (List (Int) × List (Int) × List (List (Int)) × List (List (Int)) × Unit)) (List ((Int × Int × Unit))) where
  n := 152
  S := fun z => ⟨[(0, .bp 152 []), (1, .val (.pair (.sl .str) (.pair (.sl (.pair (.int .i32) (.pair (.int .u32) (.pair (.int .u32) .unit)))) .unit)) (z.1))], [(152, .blk (.pair (.sl (.int .i32)) (.pair (.sl (.int .i32)) (.pair (.arr 65 (.arr 65 (.int .i64))) (.pair (.arr 65 (.arr 65 (.int .i64))) .unit)))) (z.2) 65)], []⟩
  S' := fun z y => ⟨[], [(152, .blk (.pair (.sl (.int .i32)) (.pair (.sl (.int .i32)) (.pair (.arr 65 (.arr 65 (.int .i64))) (.pair (.arr 65 (.arr 65 (.int .i64))) .unit)))) (z.2) 65)], [(5, ⟨44, (.pair (.int .i32) (.pair (.int .i32) .unit)), (y)⟩)]⟩
  rs := fun z y => [.row 5]
  rel := fun z y => align_table_first_i1 k (z.1) (z.2) = some y
theorem b_align_table_first_i1 (k : Nat) : BC Tryd.prog Gl 18 (B_align_table_first_i1 k) := mkB Tryd.func18 (by kernel_rfl) rfl (B_align_table_first_i1 k) Tryd.ntmps18 [q_align_far k] (fun z => align_table_first_i1 k (z.1) (z.2)) (fun _ _ h => h) (fun st => getH st [.rw 5 44 (.pair (.int .i32) (.pair (.int .i32) .unit))]) [152] [5] (fun z => .sk 6 (.lp [.sl 6 (.int .i64), .sl 7 (.int .i64), .rw 5 44 (.pair (.int .i32) (.pair (.int .i32) .unit))] (sB [0, 3, 5, 6, 7] [3, 152] [5]) (fun n => Un3 (align_table_first_i1_l1 k (z.2) (z.1) n)) k fun g'1 y'1 => .sk 2 (.pg 7 (.t (.sk 2 (.a (.int .i64) fun x2 => .sk 2 (.pg 7 (.g 29 (align_table_first_i1_j3 (z.2) (y'1.1) (y'1.2.1) (y'1.2.2) (Cn3 g'1) x2) .z .z (fun _ => .c (.sk 1 (.mx [0, 1, 2, 3, 5, 8, 9, 10, 12] [4, 6, 7, 11, 13, 14, 15] [16, 17, 18] .z)) (.sk 1 (.g 12 (align_table_first_i1_j4 (z.2) (y'1.1) (y'1.2.2) (Cn3 g'1) (y'1.2.1)) .z .z (fun _ => .z)))))))))))) (by kernel_rfl)
noncomputable def pb_align_table_first_i1 (k : Nat) : PB Tryd.prog Gl ((List (List UInt8) × List ((Int × Int × Int × Unit)) × Unit) × (List (Int) × List (Int) × List (List (Int)) × List (List (Int)) × Unit)) (List ((Int × Int × Unit))) := ⟨18, B_align_table_first_i1 k, fun st => getH st [.sl 1 (.pair (.sl .str) (.pair (.sl (.pair (.int .i32) (.pair (.int .u32) (.pair (.int .u32) .unit)))) .unit)), .bk 152 (.pair (.sl (.int .i32)) (.pair (.sl (.int .i32)) (.pair (.arr 65 (.arr 65 (.int .i64))) (.pair (.arr 65 (.arr 65 (.int .i64))) .unit))))], fun z => align_table_first_i1 k (z.1) (z.2), (b_align_table_first_i1 k), fun _ _ h => h⟩

noncomputable def F_align_Words (k : Nat) : FnF := ⟨[(.pair (.sl .str) (.pair (.sl (.pair (.int .i32) (.pair (.int .u32) (.pair (.int .u32) .unit)))) .unit)), .str, .str], [(.int .i64), (.sl (.pair (.int .i32) (.pair (.int .i32) .unit))), (.int .i64)], [], fun x => align_Words k (x.1) (x.2.1) (x.2.2)⟩
noncomputable def E_align_Words (k : Nat) : Env := envOf Tryd.prog Gl 30 []
theorem c_align_Words (k : Nat) : Contract Tryd.prog Gl 9 (F_align_Words k).toC := by
  refine contract_of Gl_stable (fn := Tryd.f9) Tryd.func9 (by kernel_rfl) rfl (toC_shape Tryd.ntmps9 (by kernel_rfl)) ?_
  rintro w0 M _ _ hG h
  obtain ⟨⟨a1, x1, y1⟩, ⟨rz1, rz2, rz3⟩, rfl, rfl, h⟩ := rel_of h
  change (List (List UInt8) × List ((Int × Int × Int × Unit)) × Unit) at a1
  change List UInt8 at x1
  change List UInt8 at y1
  change Int at rz1
  change List ((Int × Int × Unit)) at rz2
  change Int at rz3
  replace h : align_Words k a1 x1 y1 = some (rz1, rz2, rz3) := h
  have hE : EnvOK (E_align_Words k) ⟨Tryd.prog, Tryd.f9.ntmps, w0, M, fun _ => False, fun _ => undef⟩ := envOf_ok rfl Tryd.ntmps9 hG
  unfold align_Words at h
  refine W_seq (W_region (WL_allC hE [1, 2, 3] [3] [] (orc := []) (by kernel_rfl) .n (N_then (W_seq (W_region (WL_tkC hE 3 [3, 12, 13, 14] [3] [] (orc := []) (by kernel_rfl) .n ?_))))))
  obtain ⟨v1, e1, h⟩ := bind_some h
  rcases v1 with v2 | v3
  · replace h := sumCase_l h
    refine WL_callBC hE (b_align_tabled_i1 k) ((a1.1, a1.2.1, ()), x1, y1) (.inl v2) e1 (ρ := []) (ρ' := []) (n := 33) (by kernel_rfl) [3, 15] [3] [] (by kernel_rfl) (by kernel_rfl) (by kernel_rfl) (WL_allC hE [3, 9, 10] [3] [] (orc := []) (by kernel_rfl) .n (N_then (W_seq (W_seq (W_region (WL_allC hE [3, 9, 10, 19] [3] [] (orc := []) (by kernel_rfl) .n (N_then (W_cond (b := v2 != (0 : Int)) (by kernel_rfl) (fun e2 => ?_) (fun e2 => ?_)))))))))
    · replace h := ite_t e2 h
      refine W_seq (W_region (WL_allI hE (st' := ⟨[(6, I64 (0 : Int)), (7, .row 7), (8, I64 v2)], [], [(7, ⟨44, (.pair (.int .i32) (.pair (.int .i32) .unit)), ([] : List ((Int × Int × Unit)))⟩)]⟩) (orc := []) (by kernel_rfl) .n (N_then (W_ret (N_then_ret ?_)))))
      cases h
      exact N_end (.inl rfl) (by kernel_rfl)
    · replace h := ite_f e2 h
      refine W_skip (N_then (W_seq ?_))
      cases h
  · replace h := sumCase_r h
    refine WL_callBC hE (b_align_tabled_i1 k) ((a1.1, a1.2.1, ()), x1, y1) (.inr v3) e1 (ρ := []) (ρ' := [(32, 15)]) (n := 33) (by kernel_rfl) [3, 15] [3, 15] [] (by kernel_rfl) (by kernel_rfl) (by kernel_rfl) (WL_allC hE [3, 9, 10] [3, 15] [] (orc := []) (by kernel_rfl) .n (N_then (W_seq (W_seq (W_region (WL_allC hE [3, 9, 10, 19] [3, 15] [] (orc := []) (by kernel_rfl) .n (N_then (W_cond (b := v3.1 != (0 : Int)) (by kernel_rfl) (fun e3 => ?_) (fun e3 => ?_)))))))))
    · replace h := ite_t e3 h
      refine W_seq (W_region (WL_allI hE (st' := ⟨[(6, I64 (0 : Int)), (7, .row 7), (8, I64 v3.1)], [], [(7, ⟨44, (.pair (.int .i32) (.pair (.int .i32) .unit)), ([] : List ((Int × Int × Unit)))⟩)]⟩) (orc := []) (by kernel_rfl) .n (N_then (W_ret (N_then_ret ?_)))))
      cases h
      exact N_end (.inl rfl) (by kernel_rfl)
    · replace h := ite_f e3 h
      refine W_skip (N_then (W_seq ?_))
      obtain ⟨_, e6, h⟩ := bind_some h
      replace e6 := chk_some e6
      obtain ⟨_, e7, h⟩ := bind_some h
      replace e7 := chk_some e7
      obtain ⟨x2, e4, h⟩ := bind_some h
      obtain ⟨x3, e5, h⟩ := bind_some h
      refine W_floatC hE [0, 1, 2, 3, 4, 6] [] 5 7 [8] [9, 10, 11] [3, 25, 26, 27] [3, 15] [] (orc := []) (orci := [⟨(.arr 65 (.int .i64)), x2⟩, tI64 x3]) (by rfl) (by rfl) (by rfl) (by kernel_rfl) (by kernel_rfl) (by kernel_rfl) (by kernel_rfl) (by kernel_rfl) (by kernel_rfl) (by kernel_rfl) (by kernel_rfl) (.c e6 (.c e7 (.c e4 (.c e5 .n)))) (WL_allC hE [25, 26, 27, 28] [15] [] (orc := []) (by kernel_rfl) .n (N_redo1C hE (orc := [⟨(.arr 65 (.int .i64)), x2⟩, tI64 x3]) (by kernel_rfl) (by kernel_rfl) (by kernel_rfl) (by kernel_rfl) (.c e4 (.c e5 .n)) (by rfl) ?_))
      obtain ⟨v4, e8, h⟩ := bind_some h
      refine WL_callBC hE (b_align_table_first_i1 k) ((a1.1, a1.2.1, ()), v3.2) v4 e8 (ρ := [(15, 152)]) (ρ' := [(152, 15), (5, 29)]) (n := 152) (by kernel_rfl) [25, 26, 29] [15] [29] (by kernel_rfl) (by kernel_rfl) (by kernel_rfl) (WL_nil (N_redo0C hE (orc := [⟨(.arr 65 (.int .i64)), x2⟩, tI64 x3]) (by kernel_rfl) (by kernel_rfl) (by kernel_rfl) (by kernel_rfl) (.c e4 (.c e5 .n)) (WL_allC hE [6, 7, 8] [] [29] (orc := []) (by kernel_rfl) .n (N_only (N_then (W_ret ?_))))))
      cases h
      exact N_end (.inl rfl) (by kernel_rfl)
noncomputable def q_align_Words (k : Nat) : PF Tryd.prog Gl := ⟨9, F_align_Words k, c_align_Words k⟩

noncomputable def F_corr_aligned (k : Nat) : FnF := ⟨[(.pair (.sl .str) (.pair (.sl (.pair (.int .i32) (.pair (.int .u32) (.pair (.int .u32) .unit)))) .unit)), (.sl (.arr 2 .str))], [(.sl (.sl (.pair (.int .i32) (.pair (.int .i32) .unit)))), (.int .i64)], [], fun x => corr_aligned k (x.1) (x.2)⟩
theorem c_corr_aligned (k : Nat) : Contract Tryd.prog Gl 13 (F_corr_aligned k).toC := mkC Gl_stable Tryd.func13 (by kernel_rfl) rfl Tryd.ntmps13 (F_corr_aligned k) (by kernel_rfl) [q_feature_Check k, q_align_Words k] (fun x => .sk 6 (.f (.sk 2 (.f (.sk 4 (.lp [.sl 23 (.int .i64), .rw 7 39 (.sl (.pair (.int .i32) (.pair (.int .i32) .unit)))] (sB [2, 7, 21, 22, 23] [2] [7]) (fun n => Un2 (corr_aligned_l1 k (x.2) (x.1) n)) k fun _ _ => .z)))))) (by kernel_rfl)
noncomputable def q_corr_aligned (k : Nat) : PF Tryd.prog Gl := ⟨13, F_corr_aligned k, c_corr_aligned k⟩

noncomputable def B_maps_Keys_map_api_Pair_int_api_Pair_int__i1 (k : Nat) : FnB (List ((Int × Int × Unit) × Int)) Unit where
  n := 4
  S := fun z => ⟨[(0, .iter 4)], [(4, .mp (.pair (.int .i32) (.pair (.int .i32) .unit)) (.int .i64) (z))], []⟩
  S' := fun z y => ⟨[], [(1, .cells [.iter 4] 38), (4, .mp (.pair (.int .i32) (.pair (.int .i32) .unit)) (.int .i64) (z))], []⟩
  rs := fun z y => [.clos 33 [1]]
  rel := fun z y => maps_Keys_map_api_Pair_int_api_Pair_int__i1 k (z) = some y
theorem b_maps_Keys_map_api_Pair_int_api_Pair_int__i1 (k : Nat) : BC Tryd.prog Gl 21 (B_maps_Keys_map_api_Pair_int_api_Pair_int__i1 k) := mkB Tryd.func21 (by kernel_rfl) rfl (B_maps_Keys_map_api_Pair_int_api_Pair_int__i1 k) Tryd.ntmps21 [] (fun z => maps_Keys_map_api_Pair_int_api_Pair_int__i1 k (z)) (fun _ _ h => h) (fun st => getH st []) [1, 4] [] (fun _ => .z) (by kernel_rfl)
noncomputable def pb_maps_Keys_map_api_Pair_int_api_Pair_int__i1 (k : Nat) : PB Tryd.prog Gl (List ((Int × Int × Unit) × Int)) Unit := ⟨21, B_maps_Keys_map_api_Pair_int_api_Pair_int__i1 k, fun st => getH st [.mp 4 (.pair (.int .i32) (.pair (.int .i32) .unit)) (.int .i64)], fun z => maps_Keys_map_api_Pair_int_api_Pair_int__i1 k (z), (b_maps_Keys_map_api_Pair_int_api_Pair_int__i1 k), fun _ _ h => h⟩

noncomputable def F_corr_counted (k : Nat) : FnF := ⟨[(.pair (.sl .str) (.pair (.sl (.pair (.int .i32) (.pair (.int .u32) (.pair (.int .u32) .unit)))) .unit)), (.sl (.sl (.pair (.int .i32) (.pair (.int .i32) .unit))))], [(.sl (.pair (.pair (.int .i32) (.pair (.int .i32) .unit)) (.pair (.int .i64) .unit)))], [], fun x => corr_counted k (x.1) (x.2)⟩
theorem c_corr_counted (k : Nat) : Contract Tryd.prog Gl 14 (F_corr_counted k).toC := mkC Gl_stable Tryd.func14 (by kernel_rfl) rfl Tryd.ntmps14 (F_corr_counted k) (by kernel_rfl) [] (fun x => .sk 5 (.lp [.sl 19 (.int .i64), .bx 2 0 (.sl .str), .bx 2 1 (.sl (.pair (.int .i32) (.pair (.int .u32) (.pair (.int .u32) .unit)))), .mp 16 (.pair (.int .i32) (.pair (.int .i32) .unit)) (.int .i64)] (sB [2, 5, 17, 18, 19] [2, 5, 16] []) (fun n => Un4 (corr_counted_l1 k (x.2) n)) k fun g'1 y'1 => .sk 2 (.c (.sk 2 (.a (.sl (.pair (.int .i32) (.pair (.int .i32) .unit))) fun x1 => .sk 1 (.lp [.sl 25 (.int .i64), .mp 16 (.pair (.int .i32) (.pair (.int .i32) .unit)) (.int .i64)] (sB [2, 5, 17, 18, 19, 23, 24, 25] [2, 5, 16] []) (fun n => Un2 (corr_counted_l2 x1 (Cn4 g'1) (y'1.1) (y'1.2.1) (y'1.2.2.1) n)) k fun _ _ => .sk 2 (.t (.sk 3 (.ct [] [0, 1] 2 3 4 5 6 .z)))))) (.sk 3 (.lp [.sl 41 (.int .i64), .mp 37 (.int .i32) (.int .i64)] (sB [5, 10, 39, 40, 41] [5, 10, 16, 37] []) (fun n => Un2 (corr_counted_l3 k (y'1.2.2.1) (y'1.2.2.2) n)) k fun _ _ => .sk 2 (.f (.sk 4 (.cb (pb_maps_Keys_map_api_Pair_int_api_Pair_int__i1 k) [(16, 4)] [(1, 53), (4, 16)] (fun _ => .cb (pb_sortedPairs k) [(53, 12), (16, 13), (5, 14), (10, 15), (37, 16)] [(12, 53), (13, 16), (14, 5), (15, 10), (16, 37), (17, 55)] (fun v2 => .lp [.sl 57 (.int .i64), .rw 13 46 (.pair (.pair (.int .i32) (.pair (.int .i32) .unit)) (.pair (.int .i64) .unit))] (sB [5, 13, 55, 56, 57] [5, 16] [13, 55]) (fun n => Un2 (corr_counted_l4 v2 (y'1.2.2.2) n)) k fun _ _ => .sk 2 (.t (.sk 3 (.u 0 (.mx [0] [1, 2, 3, 4, 5] [6, 7, 8] .z)))))))))))))) (by kernel_rfl)
noncomputable def q_corr_counted (k : Nat) : PF Tryd.prog Gl := ⟨14, F_corr_counted k, c_corr_counted k⟩

noncomputable def F_corr_Counts (k : Nat) : FnF := ⟨[(.pair (.sl .str) (.pair (.sl (.pair (.int .i32) (.pair (.int .u32) (.pair (.int .u32) .unit)))) .unit)), (.sl (.arr 2 .str))], [(.sl (.pair (.pair (.int .i32) (.pair (.int .i32) .unit)) (.pair (.int .i64) .unit))), (.int .i64)], [], fun x => corr_Counts k (x.1) (x.2)⟩
theorem c_corr_Counts (k : Nat) : Contract Tryd.prog Gl 6 (F_corr_Counts k).toC := mkC Gl_stable Tryd.func6 (by kernel_rfl) rfl Tryd.ntmps6 (F_corr_Counts k) (by kernel_rfl) [q_corr_aligned k, q_corr_counted k] (fun _ => .z) (by kernel_rfl)
noncomputable def q_corr_Counts (k : Nat) : PF Tryd.prog Gl := ⟨6, F_corr_Counts k, c_corr_Counts k⟩

noncomputable def F_l28_count (k : Nat) : FnF := ⟨[(.int .i32), (.int .i32), (.int .i64)], [(.pair (.pair (.int .i32) (.pair (.int .i32) .unit)) (.pair (.int .i64) .unit))], [], fun x => l28_count k (x.1) (x.2.1) (x.2.2)⟩
theorem c_l28_count (k : Nat) : Contract Tryd.prog Gl 12 (F_l28_count k).toC := mkC Gl_stable Tryd.func12 (by kernel_rfl) rfl Tryd.ntmps12 (F_l28_count k) (by kernel_rfl) [] (fun _ => .z) (by kernel_rfl)
noncomputable def q_l28_count (k : Nat) : PF Tryd.prog Gl := ⟨12, F_l28_count k, c_l28_count k⟩

noncomputable def F_l28_alive (k : Nat) : FnF := ⟨[], [.bool], [], fun _ => l28_alive k⟩
theorem c_l28_alive (k : Nat) : Contract Tryd.prog Gl 4 (F_l28_alive k).toC := mkC Gl_stable Tryd.func4 (by kernel_rfl) rfl Tryd.ntmps4 (F_l28_alive k) (by kernel_rfl) [q_l28_letters k, q_l28_three k, q_corr_Counts k, q_l28_count k] (fun _ => .sk 4 (.ac [(.sl (.pair (.pair (.int .i32) (.pair (.int .i32) .unit)) (.pair (.int .i64) .unit))), (.int .i64)] fun v3 => .sk 2 (.pg 3 (.g 5 (l28_alive_j2 k v3) .z .z (fun _ => .g 5 (l28_alive_j3 k v3) .z .z (fun _ => .g 5 l28_alive_j4 .z .z (fun _ => .z))))))) (by kernel_rfl)
noncomputable def q_l28_alive (k : Nat) : PF Tryd.prog Gl := ⟨4, F_l28_alive k, c_l28_alive k⟩

noncomputable def F_l28_long (k : Nat) : FnF := ⟨[(.pair (.sl .str) (.pair (.sl (.pair (.int .i32) (.pair (.int .u32) (.pair (.int .u32) .unit)))) .unit)), (.sl (.arr 2 .str))], [.bool], [], fun x => l28_long k (x.1) (x.2)⟩
theorem c_l28_long (k : Nat) : Contract Tryd.prog Gl 5 (F_l28_long k).toC := mkC Gl_stable Tryd.func5 (by kernel_rfl) rfl Tryd.ntmps5 (F_l28_long k) (by kernel_rfl) [] (fun x => .sk 3 (.pg 4 (.gj 8 [.sl 25 .bool] (sB [1, 25] [] []) (l28_long_j2 k (x.2)) .z (.sk 4 (.pg 3 .z)) (fun _ => .pg 3 (.f (.sk 2 (.lp [.sl 5 (.int .i64)] (sB [1, 5] [] []) (l28_long_l1 (x.2)) k fun g'1 y'1 => .sk 2 (.t (.sk 4 (.g 7 (l28_long_j4 g'1 y'1) .z (.sk 3 (.u 1 .z)) (fun _ => .z))))))))))) (by kernel_rfl)
noncomputable def q_l28_long (k : Nat) : PF Tryd.prog Gl := ⟨5, F_l28_long k, c_l28_long k⟩

noncomputable def F_corr_Regular (k : Nat) : FnF := ⟨[(.pair (.sl .str) (.pair (.sl (.pair (.int .i32) (.pair (.int .u32) (.pair (.int .u32) .unit)))) .unit)), (.sl (.arr 2 .str))], [.bool, (.int .i64), (.int .i64)], [], fun x => corr_Regular k (x.1) (x.2)⟩
theorem c_corr_Regular (k : Nat) : Contract Tryd.prog Gl 7 (F_corr_Regular k).toC := mkC Gl_stable Tryd.func7 (by kernel_rfl) rfl Tryd.ntmps7 (F_corr_Regular k) (by kernel_rfl) [q_corr_aligned k] (fun _ => .sk 2 (.ac [(.sl (.sl (.pair (.int .i32) (.pair (.int .i32) .unit)))), (.int .i64)] fun v1 => .sk 2 (.f (.sk 3 (.lp [.sl 28 (.int .i64), .mp 25 (.int .i32) (.int .i32)] (sB [9, 26, 27, 28] [25] []) (fun n => Un2 (corr_Regular_l1 k v1 n)) k fun g'1 y'1 => .sk 2 (.t (.sk 2 (.a (.sl (.pair (.int .i32) (.pair (.int .i32) .unit))) fun x1 => .sk 1 (.lp [.sl 35 (.int .i64), .mp 25 (.int .i32) (.int .i32)] (sB [9, 10, 26, 27, 28, 33, 34, 35] [25] []) (fun n => Un2 (corr_Regular_l2 x1 (y'1.1) (Cn2 g'1) n)) k fun g'2 y'2 => .sk 2 (.t (.j [.mp 25 (.int .i32) (.int .i32)] (sB [9, 10, 26, 27, 28, 33, 34, 35] [25] []) (corr_Regular_j1 (Cn2 g'2) (y'2.1)) (.sk 4 (.f (.sk 3 (.pg 4 .z)))) (fun _ => .z)))))))))))) (by kernel_rfl)
noncomputable def q_corr_Regular (k : Nat) : PF Tryd.prog Gl := ⟨7, F_corr_Regular k, c_corr_Regular k⟩

noncomputable def F_corr_Odd_c1 (k : Nat) : FnF := ⟨[(.pair (.int .i32) (.pair (.int .i32) .unit)), (.ptr (.map (.int .i32) (.int .i32)))], [.bool], [(.map (.int .i32) (.int .i32))], fun x => corr_Odd_c1 k (x.1) (x.2)⟩
theorem c_corr_Odd_c1 (k : Nat) : Contract Tryd.prog Gl 16 (F_corr_Odd_c1 k).toC := mkC Gl_stable Tryd.func16 (by kernel_rfl) rfl Tryd.ntmps16 (F_corr_Odd_c1 k) (by kernel_rfl) [] (fun _ => .sk 2 (.pg 7 .z)) (by kernel_rfl)
noncomputable def q_corr_Odd_c1 (k : Nat) : PF Tryd.prog Gl := ⟨16, F_corr_Odd_c1 k, c_corr_Odd_c1 k⟩

noncomputable def F_slices_IndexFunc___api_Pair_api_Pair__Odd_c1 (k : Nat) : FnF := ⟨[(.sl (.pair (.int .i32) (.pair (.int .i32) .unit))), (.fn 16 (.pair (.ptr (.map (.int .i32) (.int .i32))) .unit))], [(.int .i64)], [], fun x => slices_IndexFunc___api_Pair_api_Pair__Odd_c1 k (x.1) (x.2)⟩
theorem c_slices_IndexFunc___api_Pair_api_Pair__Odd_c1 (k : Nat) : Contract Tryd.prog Gl 24 (F_slices_IndexFunc___api_Pair_api_Pair__Odd_c1 k).toC := mkC Gl_stable Tryd.func24 (by kernel_rfl) rfl Tryd.ntmps24 (F_slices_IndexFunc___api_Pair_api_Pair__Odd_c1 k) (by kernel_rfl) [q_corr_Odd_c1 k] (fun x => .sk 3 (.lp [.sl 8 (.int .i64)] (sB [0, 1, 7, 8] [] []) (slices_IndexFunc___api_Pair_api_Pair__Odd_c1_l1 k (x.1) (x.2)) k fun _ _ => .z)) (by kernel_rfl)
noncomputable def q_slices_IndexFunc___api_Pair_api_Pair__Odd_c1 (k : Nat) : PF Tryd.prog Gl := ⟨24, F_slices_IndexFunc___api_Pair_api_Pair__Odd_c1 k, c_slices_IndexFunc___api_Pair_api_Pair__Odd_c1 k⟩

noncomputable def F_slices_ContainsFunc___api_Pair_api_Pair__Odd_c1 (k : Nat) : FnF := ⟨[(.sl (.pair (.int .i32) (.pair (.int .i32) .unit))), (.fn 16 (.pair (.ptr (.map (.int .i32) (.int .i32))) .unit))], [.bool], [], fun x => slices_ContainsFunc___api_Pair_api_Pair__Odd_c1 k (x.1) (x.2)⟩
theorem c_slices_ContainsFunc___api_Pair_api_Pair__Odd_c1 (k : Nat) : Contract Tryd.prog Gl 15 (F_slices_ContainsFunc___api_Pair_api_Pair__Odd_c1 k).toC := mkC Gl_stable Tryd.func15 (by kernel_rfl) rfl Tryd.ntmps15 (F_slices_ContainsFunc___api_Pair_api_Pair__Odd_c1 k) (by kernel_rfl) [q_corr_Odd_c1 k, q_slices_IndexFunc___api_Pair_api_Pair__Odd_c1 k] (fun _ => .z) (by kernel_rfl)
noncomputable def q_slices_ContainsFunc___api_Pair_api_Pair__Odd_c1 (k : Nat) : PF Tryd.prog Gl := ⟨15, F_slices_ContainsFunc___api_Pair_api_Pair__Odd_c1 k, c_slices_ContainsFunc___api_Pair_api_Pair__Odd_c1 k⟩

noncomputable def F_corr_Odd (k : Nat) : FnF := ⟨[(.pair (.sl .str) (.pair (.sl (.pair (.int .i32) (.pair (.int .u32) (.pair (.int .u32) .unit)))) .unit)), (.sl (.arr 2 .str))], [(.sl (.int .i64)), (.int .i64)], [], fun x => corr_Odd k (x.1) (x.2)⟩
theorem c_corr_Odd (k : Nat) : Contract Tryd.prog Gl 8 (F_corr_Odd k).toC := mkC Gl_stable Tryd.func8 (by kernel_rfl) rfl Tryd.ntmps8 (F_corr_Odd k) (by kernel_rfl) [q_corr_aligned k, q_corr_counted k, q_corr_Odd_c1 k, q_slices_ContainsFunc___api_Pair_api_Pair__Odd_c1 k] (fun _ => .sk 3 (.ac [(.sl (.sl (.pair (.int .i32) (.pair (.int .i32) .unit)))), (.int .i64)] fun v1 => .sk 2 (.f (.sk 3 (.ac [(.sl (.pair (.pair (.int .i32) (.pair (.int .i32) .unit)) (.pair (.int .i64) .unit)))] fun v2 => .lp [.sl 30 (.int .i64), .mp 25 (.int .i32) (.int .i32)] (sB [6, 8, 28, 29, 30] [8, 25] []) (fun n => Un2 (corr_Odd_l1 k v2 v1 n)) k fun g'1 y'1 => .sk 2 (.c (.j [.mp 25 (.int .i32) (.int .i32)] (sB [6, 8, 28, 29, 30] [8, 25] []) (corr_Odd_j1 (Cn2 g'1) (y'1.1)) .z (fun _ => .z)) (.sk 4 (.lp [.sl 54 (.int .i64), .rw 13 3 (.int .i64)] (sB [8, 13, 52, 53, 54] [8, 25] [13]) (fun n => Un2 (corr_Odd_l2 k v1 (y'1.2) n)) k fun g'2 y'2 => .sk 2 (.t (.j [.rw 13 3 (.int .i64)] (sB [8, 13, 52, 53, 54] [8, 25] [13]) (corr_Odd_j2 (Cn2 g'2) (y'2.1)) .z (fun _ => .z))))))))))) (by kernel_rfl)
noncomputable def q_corr_Odd (k : Nat) : PF Tryd.prog Gl := ⟨8, F_corr_Odd k, c_corr_Odd k⟩

noncomputable def F_l28_CorrAll (k : Nat) : FnF := ⟨[(.pair (.sl .str) (.pair (.sl (.pair (.int .i32) (.pair (.int .u32) (.pair (.int .u32) .unit)))) .unit)), (.sl (.arr 2 .str))], [.bool], [], fun x => l28_CorrAll k (x.1) (x.2)⟩
noncomputable def E_l28_CorrAll (k : Nat) : Env := envOf Tryd.prog Gl 240 [q_l28_alive k, q_l28_long k, q_corr_Counts k, q_corr_Regular k, q_corr_Odd k, q_align_Words k]
theorem c_l28_CorrAll (k : Nat) : Contract Tryd.prog Gl 3 (F_l28_CorrAll k).toC := by
  refine contract_of Gl_stable (fn := Tryd.f3) Tryd.func3 (by kernel_rfl) rfl (toC_shape Tryd.ntmps3 (by kernel_rfl)) ?_
  rintro w0 M _ _ hG h
  obtain ⟨⟨a1, l1⟩, rz, rfl, rfl, h⟩ := rel_of h
  change (List (List UInt8) × List ((Int × Int × Int × Unit)) × Unit) at a1
  change List (List (List UInt8)) at l1
  change Bool at rz
  replace h : l28_CorrAll k a1 l1 = some rz := h
  have hE : EnvOK (E_l28_CorrAll k) ⟨Tryd.prog, Tryd.f3.ntmps, w0, M, fun _ => False, fun _ => undef⟩ := envOf_ok rfl Tryd.ntmps3 hG
  unfold l28_CorrAll at h
  refine W_seq (W_region (WL_allC hE [1, 2] [2] [] (orc := []) (by kernel_rfl) .n (N_then (W_seq (W_region ?_)))))
  obtain ⟨v1, e1, h⟩ := bind_some h
  refine WL_allC hE [1, 2, 5] [2] [] (orc := [tB v1]) (by kernel_rfl) (.c e1 .n) (N_then (W_seq (W_seq (W_region ?_))))
  obtain ⟨v2, e2, h⟩ := bind_some h
  refine WL_allC hE [1, 2, 5, 26] [2] [] (orc := [tB v2]) (by kernel_rfl) (.c e2 .n) (N_then (W_cond (b := v2) (by kernel_rfl) (fun e3 => ?_) (fun e3 => ?_)))
  · replace h := ite_t e3 h
    refine W_seq (W_region (WL_allI hE (st' := ⟨[(4, BB v1)], [], []⟩) (orc := []) (by kernel_rfl) .n (N_then (W_ret (N_then_ret ?_)))))
    cases h
    exact N_end (.inl rfl) (by kernel_rfl)
  · replace h := ite_f e3 h
    refine W_skip (N_then (W_seq (W_region ?_)))
    obtain ⟨v3, e4, h⟩ := bind_some h
    refine WL_allC hE [1, 2, 5, 6, 7] [2] [] (orc := [⟨(.sl (.pair (.pair (.int .i32) (.pair (.int .i32) .unit)) (.pair (.int .i64) .unit))), v3.1⟩, tI64 v3.2]) (by kernel_rfl) (.c e4 .n) (N_then (W_seq (W_region ?_)))
    obtain ⟨v4, e5, h⟩ := bind_some h
    refine WL_allC hE [1, 2, 5, 6, 7, 8, 9, 10] [2] [] (orc := [tB v4.1, tI64 v4.2.1, tI64 v4.2.2]) (by kernel_rfl) (.c e5 .n) (N_then (W_seq (W_region ?_)))
    obtain ⟨v5, e6, h⟩ := bind_some h
    refine WL_allI hE (st' := ⟨[(1, .val (.sl (.arr 2 .str)) l1), (2, .ptr 2 0), (5, BB v1), (6, .val (.sl (.pair (.pair (.int .i32) (.pair (.int .i32) .unit)) (.pair (.int .i64) .unit))) v3.1), (7, I64 v3.2), (8, BB v4.1), (9, I64 v4.2.1), (10, I64 v4.2.2), (11, .val (.sl (.int .i64)) v5.1), (12, I64 v5.2)], [(2, .cells [.val (.sl .str) a1.1, .val (.sl (.pair (.int .i32) (.pair (.int .u32) (.pair (.int .u32) .unit)))) a1.2.1] 25)], []⟩) (orc := [⟨(.sl (.int .i64)), v5.1⟩, tI64 v5.2]) (by kernel_rfl) (.c e6 .n) (N_then (W_seq (W_seq (W_region (WL_tkC hE 4 [1, 2, 5, 6, 7, 8, 9, 11, 12, 50] [2] [] (orc := []) (by kernel_rfl) .n (WL_join (α := Bool) (fun z => l28_CorrAll_j1 k v3 v5 v4 v1 l1 a1 z = some rz) (fun t1 => ⟨[(1, .val (.sl (.arr 2 .str)) l1), (2, .ptr 2 0), (5, BB v1), (6, .val (.sl (.pair (.pair (.int .i32) (.pair (.int .i32) .unit)) (.pair (.int .i64) .unit))) v3.1), (7, I64 v3.2), (8, BB v4.1), (9, I64 v4.2.1), (11, .val (.sl (.int .i64)) v5.1), (54, BB t1)], [(2, .cells [.val (.sl .str) a1.1, .val (.sl (.pair (.int .i32) (.pair (.int .u32) (.pair (.int .u32) .unit)))) a1.2.1] 25)], []⟩) 4 ?_ (fun hJ1 => ?_)))))))
    · rintro t1 h
      unfold l28_CorrAll_j1 at h
      refine WL_nil (N_then (W_cond (b := t1) (by kernel_rfl) (fun e7 => ?_) (fun e7 => ?_)))
      · replace h := ite_t e7 h
        refine W_seq (W_region (WL_allC hE [4] [] [] (orc := []) (by kernel_rfl) .n (N_then (W_ret (N_then_ret ?_)))))
        cases h
        exact N_end (.inl rfl) (by kernel_rfl)
      · replace h := ite_f e7 h
        refine W_skip (N_then (W_seq (W_seq (W_region (WL_allC hE [1, 2, 5, 6, 8, 9, 11, 56] [2] [] (orc := []) (by kernel_rfl) .n (N_then (W_cond (b := v3.2 != (0 : Int)) (by kernel_rfl) (fun e8 => ?_) (fun e8 => ?_))))))))
        · replace h := ite_t e8 h
          refine W_seq (W_region (WL_tkC hE 2 [6, 8, 9, 11, 58] [] [] (orc := []) (by kernel_rfl) .n (WL_join (α := Bool) (fun z => l28_CorrAll_j2 v5 v4 z = some rz) (fun t2 => ⟨[(8, BB v4.1), (9, I64 v4.2.1), (11, .val (.sl (.int .i64)) v5.1), (62, BB t2)], [], []⟩) 4 ?_ (fun hJ2 => ?_))))
          · rintro t2 h
            unfold l28_CorrAll_j2 at h
            refine WL_tkC hE 1 [8, 9, 11, 63] [] [] (orc := []) (by kernel_rfl) .n (WL_join (α := Bool) (fun z => l28_CorrAll_j3 v5 v4 z = some rz) (fun t3 => ⟨[(9, I64 v4.2.1), (11, .val (.sl (.int .i64)) v5.1), (66, BB t3)], [], []⟩) 3 ?_ (fun hJ3 => ?_))
            · rintro t3 h
              unfold l28_CorrAll_j3 at h
              refine WL_tkC hE 1 [9, 11, 67] [] [] (orc := []) (by kernel_rfl) .n (WL_join (α := Bool) (fun z => l28_CorrAll_j4 v5 z = some rz) (fun t4 => ⟨[(11, .val (.sl (.int .i64)) v5.1), (70, BB t4)], [], []⟩) 3 ?_ (fun hJ4 => ?_))
              · rintro t4 h
                unfold l28_CorrAll_j4 at h
                refine WL_tkC hE 1 [11, 71] [] [] (orc := []) (by kernel_rfl) .n (WL_join (α := Bool) (fun z => l28_CorrAll_j5 z = some rz) (fun t5 => ⟨[(75, BB t5)], [], []⟩) 4 ?_ (fun hJ5 => ?_))
                · rintro t5 h
                  unfold l28_CorrAll_j5 at h
                  refine WL_allC hE [4] [] [] (orc := []) (by kernel_rfl) .n (N_then (W_ret (N_then_ret ?_)))
                  cases h
                  exact N_end (.inl rfl) (by kernel_rfl)
                refine WL_splitC 71 (b := t4) (by kernel_rfl) (fun e9 => ?_) (fun e9 => ?_)
                · rw [and_t e9] at h
                  exact WL_allI hE (orc := []) (by kernel_rfl) .n (hJ5 ((List.length v5.1 : Int) == (0 : Int)) h)
                · rw [and_f e9] at h
                  exact WL_allI hE (orc := []) (by kernel_rfl) .n (hJ5 false h)
              refine WL_splitC 67 (b := t3) (by kernel_rfl) (fun e10 => ?_) (fun e10 => ?_)
              · rw [and_t e10] at h
                exact WL_allI hE (orc := []) (by kernel_rfl) .n (hJ4 (v4.2.1 == (0 : Int)) h)
              · rw [and_f e10] at h
                exact WL_allI hE (orc := []) (by kernel_rfl) .n (hJ4 false h)
            refine WL_splitC 63 (b := t2) (by kernel_rfl) (fun e11 => ?_) (fun e11 => ?_)
            · rw [and_t e11] at h
              exact WL_allI hE (orc := []) (by kernel_rfl) .n (hJ3 (!v4.1) h)
            · rw [and_f e11] at h
              exact WL_allI hE (orc := []) (by kernel_rfl) .n (hJ3 false h)
          refine WL_splitC 58 (b := v1) (by kernel_rfl) (fun e12 => ?_) (fun e12 => ?_)
          · rw [and_t e12] at h
            exact WL_allI hE (orc := []) (by kernel_rfl) .n (hJ2 ((List.length v3.1 : Int) == (0 : Int)) h)
          · rw [and_f e12] at h
            exact WL_allI hE (orc := []) (by kernel_rfl) .n (hJ2 false h)
        · replace h := ite_f e8 h
          refine W_skip (N_then (W_seq (W_region (WL_allC hE [1, 2, 5, 6, 8, 9, 11, 13] [2, 76] [] (orc := []) (by kernel_rfl) .n (N_then (W_seq (W_region (WL_allC hE [1, 2, 5, 6, 8, 9, 11, 13, 14] [2, 76] [] (orc := []) (by kernel_rfl) .n (N_then (W_seq (W_seq (W_region (WL_allI hE (orc := []) (by kernel_rfl) .n (N_then (W_block (W_loop (α := (Int × Int × List (List UInt8) × List ((Int × Int × Int × Unit)) × List ((Int × Int × Unit) × Int))) (fun n z => l28_CorrAll_l1 k l1 v3 v4 v5 v1 n z.1 z.2.1 z.2.2.1 z.2.2.2.1 z.2.2.2.2 = some rz) (fun z => ⟨[(1, .val (.sl (.arr 2 .str)) l1), (2, .ptr 2 0), (5, BB v1), (6, .val (.sl (.pair (.pair (.int .i32) (.pair (.int .i32) .unit)) (.pair (.int .i64) .unit))) v3.1), (8, BB v4.1), (9, I64 v4.2.1), (11, .val (.sl (.int .i64)) v5.1), (13, .iter 76), (14, I64 (z.1)), (15, I64 (z.2.1))], [(2, .cells [.val (.sl .str) (z.2.2.1), .val (.sl (.pair (.int .i32) (.pair (.int .u32) (.pair (.int .u32) .unit)))) (z.2.2.2.1)] 25), (76, .mp (.pair (.int .i32) (.pair (.int .i32) .unit)) (.int .i64) (z.2.2.2.2))], []⟩) ?_ (k := k) (x := ((0 : Int), (0 : Int), a1.1, a1.2.1, ([] : List ((Int × Int × Unit) × Int)))) h))))))))))))))))
          clear h
          rintro fuel1 ⟨total1, i1, a2, a3, m1⟩ h
          cases fuel1 with
          | zero => exact absurd (show none = some _ from h) (by simp)
          | succ fuel1 =>
            have h : l28_CorrAll_b1 k l1 v3 v4 v5 v1 (l28_CorrAll_l1 k l1 v3 v4 v5 v1 fuel1) total1 i1 a2 a3 m1 = some rz := h
            unfold l28_CorrAll_b1 at h
            refine W_seq (W_seq (W_region (WL_allC hE [1, 2, 5, 6, 8, 9, 11, 13, 14, 15, 80] [2, 76] [] (orc := []) (by kernel_rfl) .n (N_then (W_cond (b := decide (i1 < (List.length l1 : Int))) (by kernel_rfl) (fun e13 => ?_) (fun e13 => ?_))))))
            · replace h := ite_t e13 h
              refine W_skip (N_then (W_seq (W_block (W_seq ?_))))
              obtain ⟨x1, e14, h⟩ := bind_some h
              obtain ⟨x2, e15, h⟩ := bind_some h
              obtain ⟨x3, e16, h⟩ := bind_some h
              obtain ⟨v6, e17, h⟩ := bind_some h
              refine W_mdC hE [1, 2, 3, 4, 6, 7, 8, 9] [0, 5, 10] [11] [12, 13, 14, 15, 16, 17, 18] [1, 2, 5, 6, 8, 9, 11, 13, 14, 15, 17, 18] [2, 76] [] (orc := [⟨(.arr 2 .str), x1⟩, tS x2, ⟨(.arr 2 .str), x1⟩, tS x3, tI64 v6.1, ⟨(.sl (.pair (.int .i32) (.pair (.int .i32) .unit))), v6.2.1⟩, tI64 v6.2.2]) (by kernel_rfl) (by kernel_rfl) (by kernel_rfl) (by kernel_rfl) (.c e14 (.c e15 (.c e14 (.c e16 (.c e17 .n))))) (N_then (W_seq (W_seq (W_region (WL_allC hE [1, 2, 5, 6, 8, 9, 11, 13, 14, 15, 17, 100] [2, 76] [] (orc := []) (by kernel_rfl) .n (N_then (W_cond (b := v6.2.2 != (0 : Int)) (by kernel_rfl) (fun e18 => ?_) (fun e18 => ?_))))))))
              · replace h := ite_t e18 h
                refine W_seq (W_region (WL_allC hE [4] [] [] (orc := []) (by kernel_rfl) .n (N_then (W_ret (N_then_ret (N_block_ret (N_then_ret (N_then_ret (N_block_ret (N_then_ret ?_))))))))))
                cases h
                exact N_end (.inl rfl) (by kernel_rfl)
              · replace h := ite_f e18 h
                refine W_skip (N_then (W_seq (W_region (WL_allI hE (orc := []) (by kernel_rfl) .n (N_then (W_block (W_loop (α := (Int × Int × List ((Int × Int × Unit) × Int))) (fun n z => l28_CorrAll_l2 v6 (l28_CorrAll_l1 k l1 v3 v4 v5 v1 fuel1) i1 a2 a3 n z.1 z.2.1 z.2.2 = some rz) (fun z => ⟨[(1, .val (.sl (.arr 2 .str)) l1), (2, .ptr 2 0), (5, BB v1), (6, .val (.sl (.pair (.pair (.int .i32) (.pair (.int .i32) .unit)) (.pair (.int .i64) .unit))) v3.1), (8, BB v4.1), (9, I64 v4.2.1), (11, .val (.sl (.int .i64)) v5.1), (13, .iter 76), (14, I64 (z.1)), (15, I64 i1), (17, .val (.sl (.pair (.int .i32) (.pair (.int .i32) .unit))) v6.2.1), (19, I64 (z.2.1))], [(2, .cells [.val (.sl .str) a2, .val (.sl (.pair (.int .i32) (.pair (.int .u32) (.pair (.int .u32) .unit)))) a3] 25), (76, .mp (.pair (.int .i32) (.pair (.int .i32) .unit)) (.int .i64) (z.2.2))], []⟩) ?_ (k := k) (x := (total1, (0 : Int), m1)) h)))))))
                clear h
                rintro fuel2 ⟨total2, k1, m2⟩ h
                cases fuel2 with
                | zero => exact absurd (show none = some _ from h) (by simp)
                | succ fuel2 =>
                  have h : l28_CorrAll_b2 v6 (l28_CorrAll_l1 k l1 v3 v4 v5 v1 fuel1) i1 a2 a3 (l28_CorrAll_l2 v6 (l28_CorrAll_l1 k l1 v3 v4 v5 v1 fuel1) i1 a2 a3 fuel2) total2 k1 m2 = some rz := h
                  unfold l28_CorrAll_b2 at h
                  refine W_seq (W_seq (W_region (WL_allC hE [1, 2, 5, 6, 8, 9, 11, 13, 14, 15, 17, 19, 104] [2, 76] [] (orc := []) (by kernel_rfl) .n (N_then (W_cond (b := decide (k1 < (List.length v6.2.1 : Int))) (by kernel_rfl) (fun e19 => ?_) (fun e19 => ?_))))))
                  · replace h := ite_t e19 h
                    refine W_skip (N_then (W_seq (W_block (W_seq ?_))))
                    obtain ⟨x4, e20, h⟩ := bind_some h
                    exact W_cntC hE [] [0, 1, 2, 3, 4] 5 6 7 8 9 [1, 2, 5, 6, 8, 9, 11, 13, 14, 15, 17, 19] [2, 76] [] (orc := [⟨(.pair (.int .i32) (.pair (.int .i32) .unit)), x4⟩]) (by kernel_rfl) (by kernel_rfl) (by kernel_rfl) (by kernel_rfl) (.c e20 .n) (N_then (W_region (WL_allC hE [1, 2, 5, 6, 8, 9, 11, 13, 14, 15, 17, 19] [2, 76] [] (orc := []) (by kernel_rfl) .n (N_block (N_then (W_region (WL_allI hE (orc := []) (by kernel_rfl) .n (N_round (wi64 (total2 + (1 : Int)), wi64 (k1 + (1 : Int)), mset (eqEl (.pair (.int .i32) (.pair (.int .i32) .unit))) m2 x4 (wi64 (((mget (eqEl (.pair (.int .i32) (.pair (.int .i32) .unit))) m2 x4).getD (0 : Int)) + (1 : Int)))) (Nat.lt_succ_self _) h))))))))
                  · replace h := ite_f e19 h
                    exact W_exit (N_then_exit (N_then_exit (N_block_exit (N_block (N_then (W_region (WL_allI hE (orc := []) (by kernel_rfl) .n (N_round (total2, wi64 (i1 + (1 : Int)), a2, a3, m2) (Nat.lt_succ_self _) h))))))))
            · replace h := ite_f e13 h
              refine W_exit (N_then_exit (N_then_exit (N_block_exit (N_then (W_seq (W_region (WL_allC hE [1, 5, 6, 8, 9, 11, 13, 14, 20] [76] [] (orc := []) (by kernel_rfl) .n (N_then (W_seq (W_seq (W_region (WL_allI hE (orc := []) (by kernel_rfl) .n (N_then (W_block (W_loop (α := (Int × Bool × Int × List ((Int × Int × Unit) × Int))) (fun n z => l28_CorrAll_l3 k v3 v4 l1 v5 v1 n z.1 z.2.1 z.2.2.1 z.2.2.2 = some rz) (fun z => ⟨[(1, .val (.sl (.arr 2 .str)) l1), (5, BB v1), (6, .val (.sl (.pair (.pair (.int .i32) (.pair (.int .i32) .unit)) (.pair (.int .i64) .unit))) v3.1), (8, BB v4.1), (9, I64 v4.2.1), (11, .val (.sl (.int .i64)) v5.1), (13, .iter 76), (14, I64 (z.1)), (20, BB (z.2.1)), (21, I64 (z.2.2.1))], [(76, .mp (.pair (.int .i32) (.pair (.int .i32) .unit)) (.int .i64) (z.2.2.2))], []⟩) ?_ (k := k) (x := (total1, true, (0 : Int), m1)) h)))))))))))))))
              clear h
              rintro fuel3 ⟨total3, alone1, i2, m3⟩ h
              cases fuel3 with
              | zero => exact absurd (show none = some _ from h) (by simp)
              | succ fuel3 =>
                have h : l28_CorrAll_b3 k v3 v4 l1 v5 v1 (l28_CorrAll_l3 k v3 v4 l1 v5 v1 fuel3) total3 alone1 i2 m3 = some rz := h
                unfold l28_CorrAll_b3 at h
                refine W_seq (W_seq (W_region (WL_allC hE [1, 5, 6, 8, 9, 11, 13, 14, 20, 21, 121] [76] [] (orc := []) (by kernel_rfl) .n (N_then (W_cond (b := decide (i2 < (List.length v3.1 : Int))) (by kernel_rfl) (fun e21 => ?_) (fun e21 => ?_))))))
                · replace h := ite_t e21 h
                  refine W_skip (N_then (W_seq (W_block (W_seq (W_seq (W_draw hE (by kernel_rfl) (by kernel_rfl) ?_))))))
                  obtain ⟨x5, e22, h⟩ := bind_some h
                  refine WD_tkC hE 14 [1, 5, 6, 8, 9, 11, 13, 14, 20, 21, 137] [76] [] (orc := [⟨(.pair (.pair (.int .i32) (.pair (.int .i32) .unit)) (.pair (.int .i64) .unit)), x5⟩, ⟨(.pair (.pair (.int .i32) (.pair (.int .i32) .unit)) (.pair (.int .i64) .unit)), x5⟩]) (by kernel_rfl) (.c e22 (.c e22 .n)) (WD_join (α := Bool) (fun z => l28_CorrAll_j6 k v3 i2 (l28_CorrAll_l3 k v3 v4 l1 v5 v1 fuel3) total3 m3 alone1 z = some rz) (fun t6 => ⟨[(1, .val (.sl (.arr 2 .str)) l1), (5, BB v1), (6, .val (.sl (.pair (.pair (.int .i32) (.pair (.int .i32) .unit)) (.pair (.int .i64) .unit))) v3.1), (8, BB v4.1), (9, I64 v4.2.1), (11, .val (.sl (.int .i64)) v5.1), (13, .iter 76), (14, I64 total3), (20, BB alone1), (21, I64 i2), (144, BB t6)], [(76, .mp (.pair (.int .i32) (.pair (.int .i32) .unit)) (.int .i64) m3)], []⟩) 7 ?_ (fun KK hJ6 => ?_))
                  · rintro t6 h
                    unfold l28_CorrAll_j6 at h
                    refine WD_tkC hE 1 [1, 5, 6, 8, 9, 11, 13, 14, 20, 21, 145] [76] [] (orc := []) (by kernel_rfl) .n (WD_join (α := Bool) (fun z => l28_CorrAll_j7 k v3 i2 (l28_CorrAll_l3 k v3 v4 l1 v5 v1 fuel3) total3 m3 alone1 z = some rz) (fun t7 => ⟨[(1, .val (.sl (.arr 2 .str)) l1), (5, BB v1), (6, .val (.sl (.pair (.pair (.int .i32) (.pair (.int .i32) .unit)) (.pair (.int .i64) .unit))) v3.1), (8, BB v4.1), (9, I64 v4.2.1), (11, .val (.sl (.int .i64)) v5.1), (13, .iter 76), (14, I64 total3), (20, BB alone1), (21, I64 i2), (162, BB t7)], [(76, .mp (.pair (.int .i32) (.pair (.int .i32) .unit)) (.int .i64) m3)], []⟩) 17 ?_ (fun KK hJ7 => ?_))
                    · rintro t7 h
                      unfold l28_CorrAll_j7 at h
                      refine WD_nil (N_then (W_cond (b := t7) (by kernel_rfl) (fun e23 => ?_) (fun e23 => ?_)))
                      · replace h := ite_t e23 h
                        refine W_seq (W_region (WL_allC hE [4] [] [] (orc := []) (by kernel_rfl) .n (N_then (W_ret (N_then_ret (N_block_ret (N_then_ret (N_then_ret (N_block_ret (N_then_ret ?_))))))))))
                        cases h
                        exact N_end (.inl rfl) (by kernel_rfl)
                      · replace h := ite_f e23 h
                        refine W_skip (N_then (W_seq (W_region ?_)))
                        obtain ⟨x6, e24, h⟩ := bind_some h
                        refine WL_allC hE [1, 5, 6, 8, 9, 11, 13, 14, 20, 21] [76] [] (orc := [⟨(.pair (.pair (.int .i32) (.pair (.int .i32) .unit)) (.pair (.int .i64) .unit)), x6⟩]) (by kernel_rfl) (.c e24 .n) (N_then (W_seq (W_region (WL_allI hE (orc := []) (by kernel_rfl) .n (N_then (W_block (W_loop (α := (Bool × Int)) (fun n z => l28_CorrAll_l4 i2 v3 (l28_CorrAll_l3 k v3 v4 l1 v5 v1 fuel3) total3 x6 m3 n z.1 z.2 = some rz) (fun z => ⟨[(1, .val (.sl (.arr 2 .str)) l1), (5, BB v1), (6, .val (.sl (.pair (.pair (.int .i32) (.pair (.int .i32) .unit)) (.pair (.int .i64) .unit))) v3.1), (8, BB v4.1), (9, I64 v4.2.1), (11, .val (.sl (.int .i64)) v5.1), (13, .iter 76), (14, I64 (wi64 (total3 - x6.2.1))), (20, BB (z.1)), (21, I64 i2), (22, I64 (z.2))], [(76, .mp (.pair (.int .i32) (.pair (.int .i32) .unit)) (.int .i64) m3)], []⟩) ?_ (k := k) (x := (alone1, (0 : Int))) h)))))))
                        clear h
                        rintro fuel4 ⟨alone2, k2⟩ h
                        cases fuel4 with
                        | zero => exact absurd (show none = some _ from h) (by simp)
                        | succ fuel4 =>
                          have h : l28_CorrAll_b4 i2 v3 (l28_CorrAll_l3 k v3 v4 l1 v5 v1 fuel3) total3 x6 m3 (l28_CorrAll_l4 i2 v3 (l28_CorrAll_l3 k v3 v4 l1 v5 v1 fuel3) total3 x6 m3 fuel4) alone2 k2 = some rz := h
                          unfold l28_CorrAll_b4 at h
                          refine W_seq (W_seq (W_region (WL_allC hE [1, 5, 6, 8, 9, 11, 13, 14, 20, 21, 22, 172] [76] [] (orc := []) (by kernel_rfl) .n (N_then (W_cond (b := decide (k2 < i2)) (by kernel_rfl) (fun e25 => ?_) (fun e25 => ?_))))))
                          · replace h := ite_t e25 h
                            refine W_skip (N_then (W_seq (W_block (W_seq (W_seq (W_draw hE (by kernel_rfl) (by kernel_rfl) ?_))))))
                            obtain ⟨x7, e26, h⟩ := bind_some h
                            obtain ⟨x8, e27, h⟩ := bind_some h
                            refine WD_allC hE [1, 5, 6, 8, 9, 11, 13, 14, 20, 21, 22, 185] [76] [] (orc := [⟨(.pair (.pair (.int .i32) (.pair (.int .i32) .unit)) (.pair (.int .i64) .unit)), x7⟩, ⟨(.pair (.pair (.int .i32) (.pair (.int .i32) .unit)) (.pair (.int .i64) .unit)), x8⟩]) (by kernel_rfl) (.c e26 (.c e27 .n)) (N_then (W_cond (b := (eqInt x7.1.1 x8.1.1) && ((eqInt x7.1.2.1 x8.1.2.1) && (true))) (by kernel_rfl) (fun e28 => ?_) (fun e28 => ?_)))
                            · replace h := ite_t e28 h
                              refine W_seq (W_region (WL_allC hE [4] [] [] (orc := []) (by kernel_rfl) .n (N_then (W_ret (N_then_ret (N_block_ret (N_then_ret (N_then_ret (N_block_ret (N_block_ret (N_then_ret (N_then_ret (N_block_ret (N_then_ret ?_))))))))))))))
                              cases h
                              exact N_end (.inl rfl) (by kernel_rfl)
                            · replace h := ite_f e28 h
                              refine W_skip (N_then (W_draw hE (by kernel_rfl) (by kernel_rfl) (WD_tk hE 2 [1, 5, 6, 8, 9, 11, 13, 14, 21, 22, 187] [76] [] (st' := ⟨[(1, .val (.sl (.arr 2 .str)) l1), (5, BB v1), (6, .val (.sl (.pair (.pair (.int .i32) (.pair (.int .i32) .unit)) (.pair (.int .i64) .unit))) v3.1), (8, BB v4.1), (9, I64 v4.2.1), (11, .val (.sl (.int .i64)) v5.1), (13, .iter 76), (14, I64 (wi64 (total3 - x6.2.1))), (21, I64 i2), (22, I64 k2), (187, BB alone2)], [(76, .mp (.pair (.int .i32) (.pair (.int .i32) .unit)) (.int .i64) m3)], []⟩) (orc := []) (by kernel_rfl) (Obs.all .n) (WD_join (α := Bool) (fun z => l28_CorrAll_j8 (l28_CorrAll_l4 i2 v3 (l28_CorrAll_l3 k v3 v4 l1 v5 v1 fuel3) total3 x6 m3 fuel4) k2 z = some rz) (fun t8 => ⟨[(1, .val (.sl (.arr 2 .str)) l1), (5, BB v1), (6, .val (.sl (.pair (.pair (.int .i32) (.pair (.int .i32) .unit)) (.pair (.int .i64) .unit))) v3.1), (8, BB v4.1), (9, I64 v4.2.1), (11, .val (.sl (.int .i64)) v5.1), (13, .iter 76), (14, I64 (wi64 (total3 - x6.2.1))), (21, I64 i2), (22, I64 k2), (210, BB t8)], [(76, .mp (.pair (.int .i32) (.pair (.int .i32) .unit)) (.int .i64) m3)], []⟩) 23 ?_ (fun KK hJ8 => ?_)))))
                              · rintro t8 h
                                unfold l28_CorrAll_j8 at h
                                exact WD_allC hE [1, 5, 6, 8, 9, 11, 13, 14, 20, 21, 22] [76] [] (orc := []) (by kernel_rfl) .n (N_block (N_then (W_region (WL_allI hE (orc := []) (by kernel_rfl) .n (N_round (t8, wi64 (k2 + (1 : Int))) (Nat.lt_succ_self _) h)))))
                              refine WDK_splitC 187 (b := alone2) (by kernel_rfl) (fun e29 => ?_) (fun e29 => ?_)
                              · replace h := ite_t e29 h
                                refine WDK_tkC hE 8 [1, 5, 6, 8, 9, 11, 13, 14, 21, 22, 187, 195] [76] [] (orc := [⟨(.pair (.pair (.int .i32) (.pair (.int .i32) .unit)) (.pair (.int .i64) .unit)), x7⟩]) (by kernel_rfl) (.c e26 .n) (WDK_join (α := Bool) (fun z => l28_CorrAll_j9 (l28_CorrAll_l4 i2 v3 (l28_CorrAll_l3 k v3 v4 l1 v5 v1 fuel3) total3 x6 m3 fuel4) k2 z = some rz) (fun t9 => ⟨[(1, .val (.sl (.arr 2 .str)) l1), (5, BB v1), (6, .val (.sl (.pair (.pair (.int .i32) (.pair (.int .i32) .unit)) (.pair (.int .i64) .unit))) v3.1), (8, BB v4.1), (9, I64 v4.2.1), (11, .val (.sl (.int .i64)) v5.1), (13, .iter 76), (14, I64 (wi64 (total3 - x6.2.1))), (21, I64 i2), (22, I64 k2), (187, BB true), (209, BB t9)], [(76, .mp (.pair (.int .i32) (.pair (.int .i32) .unit)) (.int .i64) m3)], []⟩) 14 ?_ (fun KK hJ9 => ?_))
                                · rintro t9 h
                                  unfold l28_CorrAll_j9 at h
                                  exact WDK_allI hE (orc := []) (by kernel_rfl) .n (hJ8 t9 h)
                                refine WDK_splitC 195 (b := x7.1.1 == (0 : Int)) (by kernel_rfl) (fun e30 => ?_) (fun e30 => ?_)
                                · rw [or_t e30] at h
                                  exact WDK_allI hE (orc := []) (by kernel_rfl) .n (hJ9 true h)
                                · rw [or_f e30] at h
                                  exact WDK_allI hE (orc := [⟨(.pair (.pair (.int .i32) (.pair (.int .i32) .unit)) (.pair (.int .i64) .unit)), x7⟩, ⟨(.pair (.pair (.int .i32) (.pair (.int .i32) .unit)) (.pair (.int .i64) .unit)), x8⟩]) (by kernel_rfl) (.c e26 (.c e27 .n)) (hJ9 (x7.1.1 != x8.1.1) h)
                              · replace h := ite_f e29 h
                                exact WDK_allI hE (orc := []) (by kernel_rfl) .n (hJ8 false h)
                          · replace h := ite_f e25 h
                            exact W_exit (N_then_exit (N_then_exit (N_block_exit (N_block (N_then (W_region (WL_allI hE (orc := []) (by kernel_rfl) .n (N_round (wi64 (total3 - x6.2.1), alone2, wi64 (i2 + (1 : Int)), m3) (Nat.lt_succ_self _) h))))))))
                    refine WDK_splitC 145 (b := t6) (by kernel_rfl) (fun e31 => ?_) (fun e31 => ?_)
                    · replace h := ite_t e31 h
                      exact WDK_allI hE (orc := []) (by kernel_rfl) .n (hJ7 true h)
                    · replace h := ite_f e31 h
                      refine WDK_tkC hE 3 [1, 5, 6, 8, 9, 11, 13, 14, 20, 21, 145, 148] [76] [] (orc := []) (by kernel_rfl) .n (WDK_join (α := Bool) (fun z => l28_CorrAll_j10 k v3 i2 (l28_CorrAll_l3 k v3 v4 l1 v5 v1 fuel3) total3 m3 alone1 z = some rz) (fun t10 => ⟨[(1, .val (.sl (.arr 2 .str)) l1), (5, BB v1), (6, .val (.sl (.pair (.pair (.int .i32) (.pair (.int .i32) .unit)) (.pair (.int .i64) .unit))) v3.1), (8, BB v4.1), (9, I64 v4.2.1), (11, .val (.sl (.int .i64)) v5.1), (13, .iter 76), (14, I64 total3), (20, BB alone1), (21, I64 i2), (145, BB false), (161, BB t10)], [(76, .mp (.pair (.int .i32) (.pair (.int .i32) .unit)) (.int .i64) m3)], []⟩) 13 ?_ (fun KK hJ10 => ?_))
                      · rintro t10 h
                        unfold l28_CorrAll_j10 at h
                        exact WDK_allI hE (orc := []) (by kernel_rfl) .n (hJ7 t10 h)
                      refine WDK_splitC 148 (b := decide ((0 : Int) < i2)) (by kernel_rfl) (fun e32 => ?_) (fun e32 => ?_)
                      · replace h := ite_t e32 h
                        obtain ⟨x9, e33, h⟩ := bind_some h
                        obtain ⟨x10, e34, h⟩ := bind_some h
                        exact WDK_allI hE (orc := [⟨(.pair (.pair (.int .i32) (.pair (.int .i32) .unit)) (.pair (.int .i64) .unit)), x9⟩, ⟨(.pair (.pair (.int .i32) (.pair (.int .i32) .unit)) (.pair (.int .i64) .unit)), x10⟩]) (by kernel_rfl) (.c e33 (.c e34 .n)) (hJ10 (decide (x10.2.1 < x9.2.1)) h)
                      · replace h := ite_f e32 h
                        exact WDK_allI hE (orc := []) (by kernel_rfl) .n (hJ10 false h)
                  refine WDK_splitC 137 (b := ((mget (eqEl (.pair (.int .i32) (.pair (.int .i32) .unit))) m3 x5.1).getD (0 : Int)) != x5.2.1) (by kernel_rfl) (fun e35 => ?_) (fun e35 => ?_)
                  · rw [or_t e35] at h
                    exact WDK_allI hE (orc := []) (by kernel_rfl) .n (hJ6 true h)
                  · rw [or_f e35] at h
                    exact WDK_allI hE (orc := [⟨(.pair (.pair (.int .i32) (.pair (.int .i32) .unit)) (.pair (.int .i64) .unit)), x5⟩]) (by kernel_rfl) (.c e22 .n) (hJ6 (decide (x5.2.1 < (1 : Int))) h)
                · replace h := ite_f e21 h
                  refine W_exit (N_then_exit (N_then_exit (N_block_exit (N_then (W_seq (W_region (WL_tkC hE 2 [1, 8, 9, 11, 14, 20, 212] [] [] (orc := []) (by kernel_rfl) .n (WL_join (α := Bool) (fun z => l28_CorrAll_j11 v4 l1 v5 alone1 z = some rz) (fun t11 => ⟨[(1, .val (.sl (.arr 2 .str)) l1), (8, BB v4.1), (9, I64 v4.2.1), (11, .val (.sl (.int .i64)) v5.1), (20, BB alone1), (215, BB t11)], [], []⟩) 3 ?_ (fun hJ11 => ?_)))))))))
                  · rintro t11 h
                    unfold l28_CorrAll_j11 at h
                    refine WL_tkC hE 1 [1, 8, 9, 11, 20, 216] [] [] (orc := []) (by kernel_rfl) .n (WL_join (α := Bool) (fun z => l28_CorrAll_j12 v4 l1 v5 z = some rz) (fun t12 => ⟨[(1, .val (.sl (.arr 2 .str)) l1), (8, BB v4.1), (9, I64 v4.2.1), (11, .val (.sl (.int .i64)) v5.1), (220, BB t12)], [], []⟩) 4 ?_ (fun hJ12 => ?_))
                    · rintro t12 h
                      unfold l28_CorrAll_j12 at h
                      refine WL_tkC hE 1 [1, 8, 9, 11, 221] [] [] (orc := []) (by kernel_rfl) .n (WL_join (α := Bool) (fun z => l28_CorrAll_j13 v4 l1 v5 z = some rz) (fun t13 => ⟨[(1, .val (.sl (.arr 2 .str)) l1), (8, BB v4.1), (9, I64 v4.2.1), (11, .val (.sl (.int .i64)) v5.1), (226, BB t13)], [], []⟩) 5 ?_ (fun hJ13 => ?_))
                      · rintro t13 h
                        unfold l28_CorrAll_j13 at h
                        refine WL_tkC hE 1 [1, 8, 9, 11, 227] [] [] (orc := []) (by kernel_rfl) .n (WL_join (α := Bool) (fun z => l28_CorrAll_j14 v4 l1 z = some rz) (fun t14 => ⟨[(1, .val (.sl (.arr 2 .str)) l1), (9, I64 v4.2.1), (233, BB t14)], [], []⟩) 6 ?_ (fun hJ14 => ?_))
                        · rintro t14 h
                          unfold l28_CorrAll_j14 at h
                          refine WL_tkC hE 1 [1, 9, 234] [] [] (orc := []) (by kernel_rfl) .n (WL_join (α := Bool) (fun z => l28_CorrAll_j15 z = some rz) (fun t15 => ⟨[(239, BB t15)], [], []⟩) 5 ?_ (fun hJ15 => ?_))
                          · rintro t15 h
                            unfold l28_CorrAll_j15 at h
                            refine WL_allC hE [4] [] [] (orc := []) (by kernel_rfl) .n (N_then (W_ret ?_))
                            cases h
                            exact N_end (.inl rfl) (by kernel_rfl)
                          refine WL_splitC 234 (b := t14) (by kernel_rfl) (fun e36 => ?_) (fun e36 => ?_)
                          · rw [and_t e36] at h
                            exact WL_allI hE (orc := []) (by kernel_rfl) .n (hJ15 (decide (v4.2.1 < (List.length l1 : Int))) h)
                          · rw [and_f e36] at h
                            exact WL_allI hE (orc := []) (by kernel_rfl) .n (hJ15 false h)
                        refine WL_splitC 227 (b := t13) (by kernel_rfl) (fun e37 => ?_) (fun e37 => ?_)
                        · rw [and_t e37] at h
                          exact WL_allI hE (orc := []) (by kernel_rfl) .n (hJ14 (v4.1 == ((List.length v5.1 : Int) == (0 : Int))) h)
                        · rw [and_f e37] at h
                          exact WL_allI hE (orc := []) (by kernel_rfl) .n (hJ14 false h)
                      refine WL_splitC 221 (b := t12) (by kernel_rfl) (fun e38 => ?_) (fun e38 => ?_)
                      · rw [and_t e38] at h
                        exact WL_allI hE (orc := []) (by kernel_rfl) .n (hJ13 (v4.1 == (v4.2.1 == (-1 : Int))) h)
                      · rw [and_f e38] at h
                        exact WL_allI hE (orc := []) (by kernel_rfl) .n (hJ13 false h)
                    refine WL_splitC 216 (b := t11) (by kernel_rfl) (fun e39 => ?_) (fun e39 => ?_)
                    · rw [and_t e39] at h
                      exact WL_allI hE (orc := []) (by kernel_rfl) .n (hJ12 (v4.1 == alone1) h)
                    · rw [and_f e39] at h
                      exact WL_allI hE (orc := []) (by kernel_rfl) .n (hJ12 false h)
                  refine WL_splitC 212 (b := v1) (by kernel_rfl) (fun e40 => ?_) (fun e40 => ?_)
                  · rw [and_t e40] at h
                    exact WL_allI hE (orc := []) (by kernel_rfl) .n (hJ11 (total3 == (0 : Int)) h)
                  · rw [and_f e40] at h
                    exact WL_allI hE (orc := []) (by kernel_rfl) .n (hJ11 false h)
    refine WL_splitC 50 (b := v3.2 != v4.2.2) (by kernel_rfl) (fun e41 => ?_) (fun e41 => ?_)
    · rw [or_t e41] at h
      exact WL_allI hE (orc := []) (by kernel_rfl) .n (hJ1 true h)
    · rw [or_f e41] at h
      exact WL_allI hE (orc := []) (by kernel_rfl) .n (hJ1 (v3.2 != v5.2) h)
noncomputable def q_l28_CorrAll (k : Nat) : PF Tryd.prog Gl := ⟨3, F_l28_CorrAll k, c_l28_CorrAll k⟩

end Go.Ev
