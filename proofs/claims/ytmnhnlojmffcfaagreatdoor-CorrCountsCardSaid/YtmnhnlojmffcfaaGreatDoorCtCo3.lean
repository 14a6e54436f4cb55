/- Contracts, by program. -/
import Derived.Test.YtmnhnlojmffcfaaGreatDoorProg
import Derived.Test.YtmnhnlojmffcfaaGreatDoorMM5
import Derived.Test.YtmnhnlojmffcfaaGreatDoorMM6
import Derived.Test.YtmnhnlojmffcfaaGreatDoorMM7
import Derived.KernelRfl
set_option linter.unusedSectionVars false
set_option linter.unusedVariables false
set_option linter.unusedSimpArgs false
namespace Go.Ev
open Go Go.Proofs
set_option linter.unusedVariables false
set_option maxRecDepth 100000
noncomputable def F_l28_long (k : Nat) : FnF := ⟨[(.pair (.sl .str) (.pair (.sl (.pair (.int .i32) (.pair (.int .u32) (.pair (.int .u32) .unit)))) .unit)), (.sl (.arr 2 .str))], [.bool], [], fun x => l28_long k (x.1) (x.2)⟩
theorem c_l28_long (k : Nat) : Contract Tryz.prog Gl 4 (F_l28_long k).toC := mkC zbr Tryz.func4 (by kernel_rfl) rfl Tryz.ntmps4 (F_l28_long k) (by kernel_rfl) [] (fun x => .sk 3 (.pg 4 (.gj 8 [.sl 25 .bool] (sB [1, 25] [] []) (l28_long_j2 k (x.2)) .z (.sk 4 (.pg 3 .z)) (fun _ => .pg 3 (.f (.sk 2 (.lp [.sl 5 (.int .i64)] (sB [1, 5] [] []) (l28_long_l1 (x.2)) k fun g'1 y'1 => .sk 2 (.t (.sk 4 (.g 7 (l28_long_j4 g'1 y'1) .z (.sk 3 (.u 1 .z)) (fun _ => .z))))))))))) (by kernel_rfl)
noncomputable def q_l28_long (k : Nat) : PF Tryz.prog Gl := ⟨4, F_l28_long k, c_l28_long k⟩
noncomputable def zfx (k : Nat) : FnF := ⟨[.str, (.int .u8)], [.str], [], fun x => strings_trimRightByte k (x.1) (x.2)⟩
theorem c_strings_trimRightByte (k : Nat) : Contract Tryz.prog Gl 59 (zfx k).toC := mkC zbr Tryz.func59 (by kernel_rfl) rfl Tryz.ntmps59 (zfx k) (by kernel_rfl) [] (fun x => .sk 2 (.lp [.sl 0 .str] (sB [0, 1] [] []) (zbx (x.2)) k fun g'1 y'1 => .sk 2 (.g 7 (zbw y'1 g'1) .z .z (fun _ => .z)))) (by kernel_rfl)
noncomputable def q_strings_trimRightByte (k : Nat) : PF Tryz.prog Gl := ⟨59, zfx k, c_strings_trimRightByte k⟩
noncomputable def zfy (k : Nat) : FnF := ⟨[.str, (.int .u8)], [.str], [], fun x => strings_trimLeftByte k (x.1) (x.2)⟩
theorem c_strings_trimLeftByte (k : Nat) : Contract Tryz.prog Gl 58 (zfy k).toC := mkC zbr Tryz.func58 (by kernel_rfl) rfl Tryz.ntmps58 (zfy k) (by kernel_rfl) [] (fun x => .sk 2 (.lp [.sl 0 .str] (sB [0, 1] [] []) (zbz (x.2)) k fun g'1 y'1 => .sk 2 (.g 4 (zby y'1 g'1) .z .z (fun _ => .z)))) (by kernel_rfl)
noncomputable def q_strings_trimLeftByte (k : Nat) : PF Tryz.prog Gl := ⟨58, zfy k, c_strings_trimLeftByte k⟩
noncomputable def zfz (k : Nat) : FnF := ⟨[.str], [(.arr 256 .bool), .bool], [], fun x => zb1 k x⟩
theorem c_strings_makeASCIISet (k : Nat) : Contract Tryz.prog Gl 60 (zfz k).toC := mkC zbr Tryz.func60 (by kernel_rfl) rfl Tryz.ntmps60 (zfz k) (by kernel_rfl) [] (fun x => .sk 3 (.lp [.sl 4 (.int .i64), .bk 2 (.arr 256 .bool)] (sB [0, 2, 4] [2] []) (fun n => Un2 (zb0 x n)) k fun _ _ => .z)) (by kernel_rfl)
noncomputable def q_strings_makeASCIISet (k : Nat) : PF Tryz.prog Gl := ⟨60, zfz k, c_strings_makeASCIISet k⟩
noncomputable def zf0 (k : Nat) : FnF := ⟨[(.ptr (.arr 256 .bool)), (.int .u8)], [.bool], [], fun x => zb2 k (x.1) (x.2)⟩
theorem c_strings_asciiSet_contains (k : Nat) : Contract Tryz.prog Gl 81 (zf0 k).toC := mkC zbr Tryz.func81 (by kernel_rfl) rfl Tryz.ntmps81 (zf0 k) (by kernel_rfl) [] (fun _ => .z) (by kernel_rfl)
noncomputable def zf1 (k : Nat) : PF Tryz.prog Gl := ⟨81, zf0 k, c_strings_asciiSet_contains k⟩
noncomputable def zf2 (k : Nat) : FnF := ⟨[.str, (.ptr (.arr 256 .bool))], [.str], [], fun x => zb6 k (x.1) (x.2)⟩
theorem c_strings_trimRightASCII (k : Nat) : Contract Tryz.prog Gl 62 (zf2 k).toC := mkC zbr Tryz.func62 (by kernel_rfl) rfl Tryz.ntmps62 (zf2 k) (by kernel_rfl) [zf1 k] (fun x => .sk 1 (.j [.sl 0 .str] (sB [0] [] []) zb3 (.lp [.sl 0 .str] (sB [0, 1] [] []) (zb5 k (x.2)) k fun _ _ => .z) (fun _ => .z))) (by kernel_rfl)
noncomputable def q_strings_trimRightASCII (k : Nat) : PF Tryz.prog Gl := ⟨62, zf2 k, c_strings_trimRightASCII k⟩
noncomputable def zf3 (k : Nat) : FnF := ⟨[.str, (.ptr (.arr 256 .bool))], [.str], [], fun x => zca k (x.1) (x.2)⟩
theorem c_strings_trimLeftASCII (k : Nat) : Contract Tryz.prog Gl 61 (zf3 k).toC := mkC zbr Tryz.func61 (by kernel_rfl) rfl Tryz.ntmps61 (zf3 k) (by kernel_rfl) [zf1 k] (fun x => .sk 1 (.j [.sl 0 .str] (sB [0] [] []) zb7 (.lp [.sl 0 .str] (sB [0, 1] [] []) (zb9 k (x.2)) k fun _ _ => .z) (fun _ => .z))) (by kernel_rfl)
noncomputable def q_strings_trimLeftASCII (k : Nat) : PF Tryz.prog Gl := ⟨61, zf3 k, c_strings_trimLeftASCII k⟩
noncomputable def zf4 (k : Nat) : FnF := ⟨[.str, .str], [.str], [], fun x => zcb k (x.1) (x.2)⟩
theorem c_strings_trimRightUnicode (k : Nat) : Contract Tryz.prog Gl 64 (zf4 k).toC := mkC0 Tryz.func64 (by kernel_rfl) rfl _ fun _ => rfl
noncomputable def q_strings_trimRightUnicode (k : Nat) : PF Tryz.prog Gl := ⟨64, zf4 k, c_strings_trimRightUnicode k⟩
noncomputable def zf5 (k : Nat) : FnF := ⟨[.str, .str], [.str], [], fun x => strings_trimLeftUnicode k (x.1) (x.2)⟩
theorem c_strings_trimLeftUnicode (k : Nat) : Contract Tryz.prog Gl 63 (zf5 k).toC := mkC0 Tryz.func63 (by kernel_rfl) rfl _ fun _ => rfl
noncomputable def q_strings_trimLeftUnicode (k : Nat) : PF Tryz.prog Gl := ⟨63, zf5 k, c_strings_trimLeftUnicode k⟩
noncomputable def F_strings_Trim (k : Nat) : FnF := ⟨[.str, .str], [.str], [], fun x => strings_Trim k (x.1) (x.2)⟩
theorem c_strings_Trim (k : Nat) : Contract Tryz.prog Gl 48 (F_strings_Trim k).toC := mkC zbr Tryz.func48 (by kernel_rfl) rfl Tryz.ntmps48 (F_strings_Trim k) (by kernel_rfl) [q_strings_trimRightByte k, q_strings_trimLeftByte k, q_strings_makeASCIISet k, q_strings_trimRightASCII k, q_strings_trimLeftASCII k, q_strings_trimRightUnicode k, q_strings_trimLeftUnicode k] (fun x => .sk 3 (.pg 2 (.f (.sk 2 (.g 3 (zcc k (x.2) (x.1)) .z .z (fun _ => .z)))))) (by kernel_rfl)
noncomputable def q_strings_Trim (k : Nat) : PF Tryz.prog Gl := ⟨48, F_strings_Trim k, c_strings_Trim k⟩
noncomputable def F_feature_named (k : Nat) : FnF := ⟨[.str], [.bool], [], fun x => zce k x⟩
theorem c_feature_named (k : Nat) : Contract Tryz.prog Gl 33 (F_feature_named k).toC := mkC zbr Tryz.func33 (by kernel_rfl) rfl Tryz.ntmps33 (F_feature_named k) (by kernel_rfl) [q_strings_Trim k] (fun _ => .sk 2 (.pg 3 (.g 3 zcd .z .z (fun _ => .z)))) (by kernel_rfl)
noncomputable def q_feature_named (k : Nat) : PF Tryz.prog Gl := ⟨33, F_feature_named k, c_feature_named k⟩
noncomputable def F_feature_lettered (k : Nat) : FnF := ⟨[(.int .i32)], [.bool], [], fun x => zcj k x⟩
theorem c_feature_lettered (k : Nat) : Contract Tryz.prog Gl 34 (F_feature_lettered k).toC := mkC zbr Tryz.func34 (by kernel_rfl) rfl Tryz.ntmps34 (F_feature_lettered k) (by kernel_rfl) [] (fun x => .sk 2 (.j [.sl 3 .bool] (sB [0, 3] [] []) (zcg x) (.sk 1 (.pg 2 (.f (.pg 2 .z)))) (fun _ => .f (.j [.sl 16 .bool] (sB [16] [] []) zcf .z (fun _ => .z))))) (by kernel_rfl)
noncomputable def q_feature_lettered (k : Nat) : PF Tryz.prog Gl := ⟨34, F_feature_lettered k, c_feature_lettered k⟩
noncomputable def F_feature_within (k : Nat) : FnF := ⟨[(.pair (.sl .str) (.pair (.sl (.pair (.int .i32) (.pair (.int .u32) (.pair (.int .u32) .unit)))) .unit)), (.int .u32), (.int .u32)], [.bool], [], fun x => zck k (x.1) (x.2.1) (x.2.2)⟩
theorem c_feature_within (k : Nat) : Contract Tryz.prog Gl 35 (F_feature_within k).toC := mkC zbr Tryz.func35 (by kernel_rfl) rfl Tryz.ntmps35 (F_feature_within k) (by kernel_rfl) [] (fun _ => .sk 2 (.pg 4 .z)) (by kernel_rfl)
noncomputable def q_feature_within (k : Nat) : PF Tryz.prog Gl := ⟨35, F_feature_within k, c_feature_within k⟩
noncomputable def F_feature_Check (k : Nat) : FnF := ⟨[(.pair (.sl .str) (.pair (.sl (.pair (.int .i32) (.pair (.int .u32) (.pair (.int .u32) .unit)))) .unit))], [(.int .i64)], [], fun x => zco k x⟩
theorem c_feature_Check (k : Nat) : Contract Tryz.prog Gl 21 (F_feature_Check k).toC := mkC zbr Tryz.func21 (by kernel_rfl) rfl Tryz.ntmps21 (F_feature_Check k) (by kernel_rfl) [q_feature_named k, q_feature_lettered k, q_feature_within k] (fun x => .sk 3 (.pg 4 (.pg 4 (.f (.sk 3 (.lp [.sl 29 (.int .i64), .mp 25 .str .bool] (sB [1, 3, 27, 28, 29] [1, 25] []) (fun n => Un2 (zcn k x n)) k fun _ _ => .sk 2 (.c (.sk 6 (.pg 3 .z)) (.sk 3 (.lp [.sl 48 (.int .i64), .mp 44 (.int .i32) .bool] (sB [1, 6, 46, 47, 48] [1, 44] []) (fun n => Un2 (zcm k x n)) k fun g'2 y'2 => .sk 2 (.t (.sk 2 (.a (.pair (.int .i32) (.pair (.int .u32) (.pair (.int .u32) .unit))) fun x2 => .sk 3 (.pg 4 (.g 7 (zcl (Cn2 g'2) (y'2.1) (y'2.2) x2) .z .z (fun _ => .z))))))))))))))) (by kernel_rfl)
noncomputable def q_feature_Check (k : Nat) : PF Tryz.prog Gl := ⟨21, F_feature_Check k, c_feature_Check k⟩
noncomputable def F_word_ranks (k : Nat) : FnF := ⟨[(.pair (.sl .str) (.pair (.sl (.pair (.int .i32) (.pair (.int .u32) (.pair (.int .u32) .unit)))) .unit))], [(.map (.int .i32) (.int .i64)), (.int .i64)], [], fun x => word_ranks k x⟩
theorem c_word_ranks (k : Nat) : Contract Tryz.prog Gl 65 (F_word_ranks k).toC := mkC zbr Tryz.func65 (by kernel_rfl) rfl Tryz.ntmps65 (F_word_ranks k) (by kernel_rfl) [q_feature_Check k] (fun x => .sk 5 (.f (.sk 3 (.lp [.sl 20 (.int .i64), .mp 16 (.int .i32) (.int .i64)] (sB [5, 18, 19, 20] [16] []) (fun n => Un2 (zcw x n)) k fun _ _ => .z)))) (by kernel_rfl)
noncomputable def q_word_ranks (k : Nat) : PF Tryz.prog Gl := ⟨65, F_word_ranks k, c_word_ranks k⟩
noncomputable def F_runes_long (k : Nat) : FnF := ⟨[.str], [(.int .i64)], [], fun x => runes_long k x⟩
theorem c_runes_long (k : Nat) : Contract Tryz.prog Gl 97 (F_runes_long k).toC := mkC zbr Tryz.func97 (by kernel_rfl) rfl Tryz.ntmps97 (F_runes_long k) (by kernel_rfl) [] (fun _ => .z) (by kernel_rfl)
noncomputable def q_runes_long (k : Nat) : PF Tryz.prog Gl := ⟨97, F_runes_long k, c_runes_long k⟩
noncomputable def zf6 (k : Nat) : FnF := ⟨[(.int .i32)], [(.int .i64)], [], fun x => zcx k x⟩
theorem c_unicode_utf8_RuneLen (k : Nat) : Contract Tryz.prog Gl 108 (zf6 k).toC := mkC zbr Tryz.func108 (by kernel_rfl) rfl Tryz.ntmps108 (zf6 k) (by kernel_rfl) [] (fun _ => .sk 3 (.f (.sk 1 (.f (.sk 1 (.f (.sk 1 (.pg 2 .z)))))))) (by kernel_rfl)
noncomputable def q_unicode_utf8_RuneLen (k : Nat) : PF Tryz.prog Gl := ⟨108, zf6 k, c_unicode_utf8_RuneLen k⟩
noncomputable def zf7 (k : Nat) : FnB ((Int × Int × Int × Bool × Unit) × List ((Int × Int × Int × Bool × Unit))) (Bool × List ((Int × Int × Int × Bool × Unit))) where
 n := 8
 S := fun z => ⟨[(0, .val (.pair (.int .i32) (.pair (.int .i64) (.pair (.int .i64) (.pair .bool .unit)))) (z.1)), (1, .ptr 8 0)], [(8, .cells [.row 9] 133)], [(9, ⟨137, (.pair (.int .i32) (.pair (.int .i64) (.pair (.int .i64) (.pair .bool .unit)))), (z.2)⟩)]⟩
 S' := fun z y => ⟨[], [(8, .cells [.row 9] 133)], [(9, ⟨137, (.pair (.int .i32) (.pair (.int .i64) (.pair (.int .i64) (.pair .bool .unit)))), (y.2)⟩)]⟩
 rs := fun z y => [BB (y.1)]
 rel := fun z y => zcy k (z.1) (z.2) = some y
theorem b_runes_Pieces_c1_i1 (k : Nat) : BC Tryz.prog Gl 99 (zf7 k) := mkB Tryz.func99 (by kernel_rfl) rfl (zf7 k) Tryz.ntmps99 [] (fun z => zcy k (z.1) (z.2)) (fun _ _ h => h) (fun st => getH st [.sl 0 .bool, .rw 9 137 (.pair (.int .i32) (.pair (.int .i64) (.pair (.int .i64) (.pair .bool .unit))))]) [8] [9] (fun _ => .z) (by kernel_rfl)
noncomputable def pb_runes_Pieces_c1_i1 (k : Nat) : PB Tryz.prog Gl ((Int × Int × Int × Bool × Unit) × List ((Int × Int × Int × Bool × Unit))) (Bool × List ((Int × Int × Int × Bool × Unit))) := ⟨99, zf7 k, fun st => getH st [.sl 0 (.pair (.int .i32) (.pair (.int .i64) (.pair (.int .i64) (.pair .bool .unit)))), .rw 9 137 (.pair (.int .i32) (.pair (.int .i64) (.pair (.int .i64) (.pair .bool .unit))))], fun z => zcy k (z.1) (z.2), (b_runes_Pieces_c1_i1 k), fun _ _ h => h⟩
noncomputable def B_runes_each_i1 (k : Nat) : FnB (List UInt8 × List ((Int × Int × Int × Bool × Unit))) (List ((Int × Int × Int × Bool × Unit))) where
 n := 37
 S := fun z => ⟨[(0, SS (z.1)), (1, .clos 99 [37])], [(37, .cells [.row 38] 133)], [(38, ⟨137, (.pair (.int .i32) (.pair (.int .i64) (.pair (.int .i64) (.pair .bool .unit)))), (z.2)⟩)]⟩
 S' := fun z y => ⟨[], [(37, .cells [.row 38] 133)], [(38, ⟨137, (.pair (.int .i32) (.pair (.int .i64) (.pair (.int .i64) (.pair .bool .unit)))), (y)⟩)]⟩
 rs := fun z y => []
 rel := fun z y => zc1 k (z.1) (z.2) = some y
theorem b_runes_each_i1 (k : Nat) : BC Tryz.prog Gl 98 (B_runes_each_i1 k) := mkB Tryz.func98 (by kernel_rfl) rfl (B_runes_each_i1 k) Tryz.ntmps98 [q_unicode_utf8_RuneLen k, zfp k] (fun z => zc1 k (z.1) (z.2)) (fun _ _ h => h) (fun st => getH st [.rw 38 137 (.pair (.int .i32) (.pair (.int .i64) (.pair (.int .i64) (.pair .bool .unit))))]) [37] [38] (fun z => .sk 1 (.lp [.it 10, .rw 38 137 (.pair (.int .i32) (.pair (.int .i64) (.pair (.int .i64) (.pair .bool .unit))))] (sB [0, 1, 10] [10, 37] [38]) (fun n => Un2 (zc0 k (z.1) n)) k fun g'1 y'1 => .sk 1 (.c (.sk 1 (.T (.sk 3 (.j [.bx 6 2 (.int .i64), .bx 6 3 .bool] (sB [0, 1, 6, 10] [6, 10, 37] [38]) (Un2 (zcz k (z.1) (y'1.1) (y'1.2) (Cn2 g'1))) .z (fun _ => .sk 1 (.cb (pb_runes_Pieces_c1_i1 k) [(37, 8), (38, 9)] [(8, 37), (9, 38)] (fun _ => .z))))))) (.sk 1 (.F .z))))) (by kernel_rfl)
noncomputable def pb_runes_each_i1 (k : Nat) : PB Tryz.prog Gl (List UInt8 × List ((Int × Int × Int × Bool × Unit))) (List ((Int × Int × Int × Bool × Unit))) := ⟨98, B_runes_each_i1 k, fun st => getH st [.sl 0 .str, .rw 38 137 (.pair (.int .i32) (.pair (.int .i64) (.pair (.int .i64) (.pair .bool .unit))))], fun z => zc1 k (z.1) (z.2), (b_runes_each_i1 k), fun _ _ h => h⟩
noncomputable def F_runes_Pieces (k : Nat) : FnF := ⟨[.str], [(.sl (.pair (.int .i32) (.pair (.int .i64) (.pair (.int .i64) (.pair .bool .unit))))), (.int .i64)], [], fun x => runes_Pieces k x⟩
theorem c_runes_Pieces (k : Nat) : Contract Tryz.prog Gl 84 (F_runes_Pieces k).toC := mkC zbr Tryz.func84 (by kernel_rfl) rfl Tryz.ntmps84 (F_runes_Pieces k) (by kernel_rfl) [q_runes_long k] (fun _ => .sk 6 (.f (.sk 2 (.cb (pb_runes_each_i1 k) [(5, 37), (1000005, 38)] [(37, 5), (38, 1000005)] (fun _ => .z))))) (by kernel_rfl)
noncomputable def q_runes_Pieces (k : Nat) : PF Tryz.prog Gl := ⟨84, F_runes_Pieces k, c_runes_Pieces k⟩
noncomputable def F_word_read (k : Nat) : FnF := ⟨[(.map (.int .i32) (.int .i64)), .str], [(.sl (.int .i32)), (.int .i64)], [], fun x => word_read k (x.1) (x.2)⟩
theorem c_word_read (k : Nat) : Contract Tryz.prog Gl 66 (F_word_read k).toC := mkC zbr Tryz.func66 (by kernel_rfl) rfl Tryz.ntmps66 (F_word_read k) (by kernel_rfl) [q_runes_Pieces k] (fun x => .sk 2 (.j [.sl 1 .str] (sB [0, 1] [] []) (word_read_j1 k (x.1)) .z (fun _ => .sk 1 (.ac [(.sl (.pair (.int .i32) (.pair (.int .i64) (.pair (.int .i64) (.pair .bool .unit))))), (.int .i64)] fun v1 => .sk 2 (.f (.sk 4 (.lp [.sl 28 (.int .i64), .rw 8 21 (.int .i32)] (sB [0, 8, 26, 27, 28] [] [8]) (fun n => Un2 (zc2 v1 (x.1) n)) k fun _ _ => .z))))))) (by kernel_rfl)
noncomputable def q_word_read (k : Nat) : PF Tryz.prog Gl := ⟨66, F_word_read k, c_word_read k⟩
noncomputable def F_word_Letters (k : Nat) : FnF := ⟨[(.pair (.sl .str) (.pair (.sl (.pair (.int .i32) (.pair (.int .u32) (.pair (.int .u32) .unit)))) .unit)), .str], [(.sl (.int .i32)), (.int .i64)], [], fun x => zc3 k (x.1) (x.2)⟩
theorem c_word_Letters (k : Nat) : Contract Tryz.prog Gl 49 (F_word_Letters k).toC := mkC zbr Tryz.func49 (by kernel_rfl) rfl Tryz.ntmps49 (F_word_Letters k) (by kernel_rfl) [q_word_ranks k, q_word_read k] (fun _ => .z) (by kernel_rfl)
noncomputable def q_word_Letters (k : Nat) : PF Tryz.prog Gl := ⟨49, F_word_Letters k, c_word_Letters k⟩
noncomputable def F_feature_Of_c1 (k : Nat) : FnF := ⟨[(.pair (.int .i32) (.pair (.int .u32) (.pair (.int .u32) .unit))), (.ptr (.int .i32))], [.bool], [(.int .i32)], fun x => feature_Of_c1 k (x.1) (x.2)⟩
theorem c_feature_Of_c1 (k : Nat) : Contract Tryz.prog Gl 101 (F_feature_Of_c1 k).toC := mkC zbr Tryz.func101 (by kernel_rfl) rfl Tryz.ntmps101 (F_feature_Of_c1 k) (by kernel_rfl) [] (fun _ => .z) (by kernel_rfl)
noncomputable def q_feature_Of_c1 (k : Nat) : PF Tryz.prog Gl := ⟨101, F_feature_Of_c1 k, c_feature_Of_c1 k⟩
noncomputable def zf8 (k : Nat) : FnF := ⟨[(.sl (.pair (.int .i32) (.pair (.int .u32) (.pair (.int .u32) .unit)))), (.fn 101 (.pair (.ptr (.int .i32)) .unit))], [(.int .i64)], [], fun x => zcr k (x.1) (x.2)⟩
theorem zf9 (k : Nat) : Contract Tryz.prog Gl 100 (zf8 k).toC := mkC zbr Tryz.func100 (by kernel_rfl) rfl Tryz.ntmps100 (zf8 k) (by kernel_rfl) [q_feature_Of_c1 k] (fun x => .sk 3 (.lp [.sl 8 (.int .i64)] (sB [0, 1, 7, 8] [] []) (zcq k (x.1) (x.2)) k fun _ _ => .z)) (by kernel_rfl)
noncomputable def zga (k : Nat) : PF Tryz.prog Gl := ⟨100, zf8 k, zf9 k⟩
noncomputable def F_feature_Of (k : Nat) : FnF := ⟨[(.pair (.sl .str) (.pair (.sl (.pair (.int .i32) (.pair (.int .u32) (.pair (.int .u32) .unit)))) .unit)), (.int .i32)], [(.pair (.int .i32) (.pair (.int .u32) (.pair (.int .u32) .unit))), (.int .i64)], [], fun x => zcs k (x.1) (x.2)⟩
theorem c_feature_Of (k : Nat) : Contract Tryz.prog Gl 85 (F_feature_Of k).toC := mkC zbr Tryz.func85 (by kernel_rfl) rfl Tryz.ntmps85 (F_feature_Of k) (by kernel_rfl) [q_feature_Check k, q_feature_Of_c1 k, zga k] (fun _ => .z) (by kernel_rfl)
noncomputable def q_feature_Of (k : Nat) : PF Tryz.prog Gl := ⟨85, F_feature_Of k, c_feature_Of k⟩
noncomputable def zgb (k : Nat) : FnF := ⟨[(.int .u32)], [(.int .i64)], [], fun x => zc4 k x⟩
theorem c_math_bits_OnesCount32 (k : Nat) : Contract Tryz.prog Gl 102 (zgb k).toC := mkC zbr Tryz.func102 (by kernel_rfl) rfl Tryz.ntmps102 (zgb k) (by kernel_rfl) [] (fun _ => .z) (by kernel_rfl)
noncomputable def q_math_bits_OnesCount32 (k : Nat) : PF Tryz.prog Gl := ⟨102, zgb k, c_math_bits_OnesCount32 k⟩
noncomputable def F_feature_unlike (k : Nat) : FnF := ⟨[(.pair (.int .i32) (.pair (.int .u32) (.pair (.int .u32) .unit))), (.pair (.int .i32) (.pair (.int .u32) (.pair (.int .u32) .unit)))], [(.int .i64)], [], fun x => zc5 k (x.1) (x.2)⟩
theorem c_feature_unlike (k : Nat) : Contract Tryz.prog Gl 86 (F_feature_unlike k).toC := mkC zbr Tryz.func86 (by kernel_rfl) rfl Tryz.ntmps86 (F_feature_unlike k) (by kernel_rfl) [q_math_bits_OnesCount32 k] (fun _ => .z) (by kernel_rfl)
noncomputable def q_feature_unlike (k : Nat) : PF Tryz.prog Gl := ⟨86, F_feature_unlike k, c_feature_unlike k⟩
noncomputable def F_feature_Far (k : Nat) : FnF := ⟨[(.pair (.sl .str) (.pair (.sl (.pair (.int .i32) (.pair (.int .u32) (.pair (.int .u32) .unit)))) .unit)), (.int .i32), (.int .i32)], [(.int .i64), (.int .i64)], [], fun x => feature_Far k (x.1) (x.2.1) (x.2.2)⟩
theorem c_feature_Far (k : Nat) : Contract Tryz.prog Gl 67 (F_feature_Far k).toC := mkC zbr Tryz.func67 (by kernel_rfl) rfl Tryz.ntmps67 (F_feature_Far k) (by kernel_rfl) [q_feature_Of k, q_feature_unlike k] (fun _ => .z) (by kernel_rfl)
noncomputable def q_feature_Far (k : Nat) : PF Tryz.prog Gl := ⟨67, F_feature_Far k, c_feature_Far k⟩
noncomputable def F_align_far (k : Nat) : FnF := ⟨[(.pair (.sl .str) (.pair (.sl (.pair (.int .i32) (.pair (.int .u32) (.pair (.int .u32) .unit)))) .unit)), (.int .i32), (.int .i32)], [(.int .i64)], [], fun x => zc6 k (x.1) (x.2.1) (x.2.2)⟩
theorem c_align_far (k : Nat) : Contract Tryz.prog Gl 51 (F_align_far k).toC := mkC zbr Tryz.func51 (by kernel_rfl) rfl Tryz.ntmps51 (F_align_far k) (by kernel_rfl) [q_feature_Far k] (fun _ => .sk 3 (.f (.sk 2 (.pg 2 .z)))) (by kernel_rfl)
noncomputable def q_align_far (k : Nat) : PF Tryz.prog Gl := ⟨51, F_align_far k, c_align_far k⟩
noncomputable def B_align_filled_i1 (k : Nat) : FnB ((List (List UInt8) × List ((Int × Int × Int × Unit)) × Unit) × List (Int) × List (Int)) (List (Int) × List (Int) × List (List (Int)) × List (List (Int)) × Unit) where
 n := 174
 S := fun z => ⟨[(0, .val (.pair (.sl .str) (.pair (.sl (.pair (.int .i32) (.pair (.int .u32) (.pair (.int .u32) .unit)))) .unit)) (z.1)), (1, .val (.sl (.int .i32)) (z.2.1)), (2, .val (.sl (.int .i32)) (z.2.2))], [], []⟩
 S' := fun z y => ⟨[], [(18, .blk (.pair (.sl (.int .i32)) (.pair (.sl (.int .i32)) (.pair (.arr 65 (.arr 65 (.int .i64))) (.pair (.arr 65 (.arr 65 (.int .i64))) .unit)))) (y) 85)], []⟩
 rs := fun z y => [.bp 18 []]
 rel := fun z y => zdk k (z.1) (z.2.1) (z.2.2) = some y
noncomputable def E_align_filled_i1 (k : Nat) : Env := envOf Tryz.prog Gl 174 [q_align_far k]
theorem b_align_filled_i1 (k : Nat) : BC Tryz.prog Gl 50 (B_align_filled_i1 k) := by
 refine bc_of (fn := Tryz.f50) Tryz.func50 (by kernel_rfl) rfl Tryz.ntmps50 ?_
 rintro cx hP hn hG ⟨a1, x1, y1⟩ y0 h
 have hE : EnvOK (E_align_filled_i1 k) cx := envOf_ok hP hn hG
 replace h : zdk k a1 x1 y1 = some y0 := h
 unfold zdk at h
 refine W_seq (zbn (WL_allC hE [1, 2, 3] [3] [] (orc := []) (by kernel_rfl) .n (N_then (W_seq (zbn (WL_allC hE [1, 2, 3, 7] [3, 18] [] (orc := [⟨.unit, ()⟩]) (by kernel_rfl) .n (N_then (W_seq (zbn ?_)))))))))
 obtain ⟨_, e3, h⟩ := bind_some h
 replace e3 := zbp e3
 obtain ⟨_, e4, h⟩ := bind_some h
 replace e4 := zbp e4
 obtain ⟨x2, e1, h⟩ := bind_some h
 obtain ⟨x3, e2, h⟩ := bind_some h
 refine WL_allC hE [1, 2, 3, 7] [3, 18] [] (orc := [⟨(.arr 65 (.int .i64)), x2⟩, tI64 x3]) (by kernel_rfl) (.c e3 (.c e4 (.c e1 (.c e2 .n)))) (N_then (W_seq (W_seq (zbn (WL_allI hE (orc := []) (by kernel_rfl) .n (N_then (W_block (W_loop (α := (Int × List (List UInt8) × List ((Int × Int × Int × Unit)) × (List (Int) × List (Int) × List (List (Int)) × List (List (Int)) × Unit))) (fun n z => zdj k x1 y1 n z.1 z.2.1 z.2.2.1 z.2.2.2 = some y0) (fun z => ⟨[(1, .val (.sl (.int .i32)) x1), (2, .val (.sl (.int .i32)) y1), (3, .ptr 3 0), (7, .bp 18 []), (8, I64 (z.1))], [(3, .cells [.val (.sl .str) (z.2.1), .val (.sl (.pair (.int .i32) (.pair (.int .u32) (.pair (.int .u32) .unit)))) (z.2.2.1)] 25), (18, .blk (.pair (.sl (.int .i32)) (.pair (.sl (.int .i32)) (.pair (.arr 65 (.arr 65 (.int .i64))) (.pair (.arr 65 (.arr 65 (.int .i64))) .unit)))) (z.2.2.2) 85)], []⟩) ?_ (k := k) (x := ((List.length x1 : Int), a1.1, a1.2.1, (x1, y1, (List.replicate 65 (List.replicate 65 (0 : Int))), List.set (List.replicate 65 (List.replicate 65 (0 : Int))) ((List.length x1 : Int)).toNat (List.set x2 ((List.length y1 : Int)).toNat (1 : Int)), ()))) h))))))))
 clear h
 rintro fuel1 ⟨i1, a2, a3, blk2⟩ h
 cases fuel1 with
 | zero => exact absurd (show none = some _ from h) (by simp)
 | succ fuel1 =>
  have h : zdi k x1 y1 (zdj k x1 y1 fuel1) i1 a2 a3 blk2 = some y0 := h
  unfold zdi at h
  refine W_seq (W_seq (zbn (WL_allC hE [1, 2, 3, 7, 8, 31] [3, 18] [] (orc := []) (by kernel_rfl) .n (N_then (W_cond (b := decide ((0 : Int) <= i1)) (by kernel_rfl) (fun e5 => ?_) (fun e5 => ?_))))))
  ·replace h := ite_t e5 h
   refine W_skip (N_then (W_seq (W_block (W_seq (zbn (WL_allI hE (orc := []) (by kernel_rfl) .n (N_then (W_block (W_loop (α := (Int × (List (Int) × List (Int) × List (List (Int)) × List (List (Int)) × Unit))) (fun n z => zdh k x1 i1 y1 a2 a3 (zdj k x1 y1 fuel1) n z.1 z.2 = some y0) (fun z => ⟨[(1, .val (.sl (.int .i32)) x1), (2, .val (.sl (.int .i32)) y1), (3, .ptr 3 0), (7, .bp 18 []), (8, I64 i1), (9, I64 (z.1))], [(3, .cells [.val (.sl .str) a2, .val (.sl (.pair (.int .i32) (.pair (.int .u32) (.pair (.int .u32) .unit)))) a3] 25), (18, .blk (.pair (.sl (.int .i32)) (.pair (.sl (.int .i32)) (.pair (.arr 65 (.arr 65 (.int .i64))) (.pair (.arr 65 (.arr 65 (.int .i64))) .unit)))) (z.2) 85)], []⟩) ?_ (k := k) (x := ((List.length y1 : Int), blk2)) h)))))))))
   clear h
   rintro fuel2 ⟨k1, blk3⟩ h
   cases fuel2 with
   | zero => exact absurd (show none = some _ from h) (by simp)
   | succ fuel2 =>
    have h : zdg k x1 i1 y1 a2 a3 (zdj k x1 y1 fuel1) (zdh k x1 i1 y1 a2 a3 (zdj k x1 y1 fuel1) fuel2) k1 blk3 = some y0 := h
    unfold zdg at h
    refine W_seq (W_seq (zbn (WL_allC hE [1, 2, 3, 7, 8, 9, 37] [3, 18] [] (orc := []) (by kernel_rfl) .n (N_then (W_cond (b := decide ((0 : Int) <= k1)) (by kernel_rfl) (fun e6 => ?_) (fun e6 => ?_))))))
    ·replace h := ite_t e6 h
     refine W_skip (N_then (W_join (α := (List (Int) × List (Int) × List (List (Int)) × List (List (Int)) × Unit)) (fun z => zc7 (zdh k x1 i1 y1 a2 a3 (zdj k x1 y1 fuel1) fuel2) k1 z = some y0) (fun blk4 => ⟨[(1, .val (.sl (.int .i32)) x1), (2, .val (.sl (.int .i32)) y1), (3, .ptr 3 0), (7, .bp 18 []), (8, I64 i1), (9, I64 k1)], [(3, .cells [.val (.sl .str) a2, .val (.sl (.pair (.int .i32) (.pair (.int .u32) (.pair (.int .u32) .unit)))) a3] 25), (18, .blk (.pair (.sl (.int .i32)) (.pair (.sl (.int .i32)) (.pair (.arr 65 (.arr 65 (.int .i64))) (.pair (.arr 65 (.arr 65 (.int .i64))) .unit)))) blk4 85)], []⟩) ?_ (fun hJ1 => ?_)))
     ·rintro blk4 h
      unfold zc7 at h
      exact zbn (WL_allI hE (orc := []) (by kernel_rfl) .n (N_round (wi64 (k1 - (1 : Int)), blk4) (Nat.lt_succ_self _) h))
     refine W_block (W_seq (W_seq (zbn (WL_tkC hE 5 [1, 2, 3, 7, 8, 9, 44] [3, 18] [] (orc := []) (by kernel_rfl) .n (WL_join (α := Bool) (fun z => zdf k (zdh k x1 i1 y1 a2 a3 (zdj k x1 y1 fuel1) fuel2) k1 blk3 x1 i1 y1 a2 a3 z = some y0) (fun t1 => ⟨[(1, .val (.sl (.int .i32)) x1), (2, .val (.sl (.int .i32)) y1), (3, .ptr 3 0), (7, .bp 18 []), (8, I64 i1), (9, I64 k1), (49, BB t1)], [(3, .cells [.val (.sl .str) a2, .val (.sl (.pair (.int .i32) (.pair (.int .u32) (.pair (.int .u32) .unit)))) a3] 25), (18, .blk (.pair (.sl (.int .i32)) (.pair (.sl (.int .i32)) (.pair (.arr 65 (.arr 65 (.int .i64))) (.pair (.arr 65 (.arr 65 (.int .i64))) .unit)))) blk3 85)], []⟩) 5 ?_ (fun hJ2 => ?_))))))
     ·rintro t1 h
      unfold zdf at h
      refine WL_nil (N_then (W_cond (b := t1) (by kernel_rfl) (fun e7 => ?_) (fun e7 => ?_)))
      ·replace h := ite_t e7 h
       exact W_exit (zbm (N_block_exit (N_normI (by kernel_rfl) (hJ1 blk3 h))))
      ·replace h := ite_f e7 h
       refine W_skip (N_then (W_seq (zbn (WL_allC hE [1, 2, 3, 7, 8, 9, 10, 11, 12] [3, 18] [] (orc := []) (by kernel_rfl) .n (N_then (W_join (α := Int) (fun z => zdd i1 x1 k1 blk3 y1 (zdh k x1 i1 y1 a2 a3 (zdj k x1 y1 fuel1) fuel2) z = some y0) (fun both1 => ⟨[(1, .val (.sl (.int .i32)) x1), (2, .val (.sl (.int .i32)) y1), (3, .ptr 3 0), (7, .bp 18 []), (8, I64 i1), (9, I64 k1), (10, I64 both1), (11, I64 (1073741824 : Int)), (12, I64 (1073741824 : Int))], [(3, .cells [.val (.sl .str) a2, .val (.sl (.pair (.int .i32) (.pair (.int .u32) (.pair (.int .u32) .unit)))) a3] 25), (18, .blk (.pair (.sl (.int .i32)) (.pair (.sl (.int .i32)) (.pair (.arr 65 (.arr 65 (.int .i64))) (.pair (.arr 65 (.arr 65 (.int .i64))) .unit)))) blk3 85)], []⟩) ?_ (fun hJ8 => ?_)))))))
       ·rintro both1 h
        unfold zdd at h
        refine W_join (α := Int) (fun z => zdc k1 y1 i1 blk3 both1 (zdh k x1 i1 y1 a2 a3 (zdj k x1 y1 fuel1) fuel2) z = some y0) (fun left1 => ⟨[(1, .val (.sl (.int .i32)) x1), (2, .val (.sl (.int .i32)) y1), (3, .ptr 3 0), (7, .bp 18 []), (8, I64 i1), (9, I64 k1), (10, I64 both1), (11, I64 left1), (12, I64 (1073741824 : Int))], [(3, .cells [.val (.sl .str) a2, .val (.sl (.pair (.int .i32) (.pair (.int .u32) (.pair (.int .u32) .unit)))) a3] 25), (18, .blk (.pair (.sl (.int .i32)) (.pair (.sl (.int .i32)) (.pair (.arr 65 (.arr 65 (.int .i64))) (.pair (.arr 65 (.arr 65 (.int .i64))) .unit)))) blk3 85)], []⟩) ?_ (fun hJ8 => ?_)
        ·rintro left1 h
         unfold zdc at h
         refine W_join (α := Int) (fun z => zdb both1 left1 i1 k1 blk3 (zdh k x1 i1 y1 a2 a3 (zdj k x1 y1 fuel1) fuel2) z = some y0) (fun right1 => ⟨[(1, .val (.sl (.int .i32)) x1), (2, .val (.sl (.int .i32)) y1), (3, .ptr 3 0), (7, .bp 18 []), (8, I64 i1), (9, I64 k1), (10, I64 both1), (11, I64 left1), (12, I64 right1)], [(3, .cells [.val (.sl .str) a2, .val (.sl (.pair (.int .i32) (.pair (.int .u32) (.pair (.int .u32) .unit)))) a3] 25), (18, .blk (.pair (.sl (.int .i32)) (.pair (.sl (.int .i32)) (.pair (.arr 65 (.arr 65 (.int .i64))) (.pair (.arr 65 (.arr 65 (.int .i64))) .unit)))) blk3 85)], []⟩) ?_ (fun hJ8 => ?_)
         ·rintro right1 h
          unfold zdb at h
          refine W_seq (zbn (WL_allC hE [1, 2, 3, 7, 8, 9, 10, 11, 12, 13] [3, 18] [] (orc := []) (by kernel_rfl) .n (N_then (W_seq (zbn (WL_allC hE [1, 2, 3, 7, 8, 9, 10, 11, 12, 13, 14] [3, 18] [] (orc := []) (by kernel_rfl) .n (N_then (W_join (α := Int) (fun z => zda left1 both1 right1 i1 k1 blk3 (zdh k x1 i1 y1 a2 a3 (zdj k x1 y1 fuel1) fuel2) z = some y0) (fun n1 => ⟨[(1, .val (.sl (.int .i32)) x1), (2, .val (.sl (.int .i32)) y1), (3, .ptr 3 0), (7, .bp 18 []), (8, I64 i1), (9, I64 k1), (11, I64 left1), (12, I64 right1), (13, I64 (mnI (mnI both1 left1) right1)), (14, I64 n1)], [(3, .cells [.val (.sl .str) a2, .val (.sl (.pair (.int .i32) (.pair (.int .u32) (.pair (.int .u32) .unit)))) a3] 25), (18, .blk (.pair (.sl (.int .i32)) (.pair (.sl (.int .i32)) (.pair (.arr 65 (.arr 65 (.int .i64))) (.pair (.arr 65 (.arr 65 (.int .i64))) .unit)))) blk3 85)], []⟩) ?_ (fun hJ8 => ?_)))))))))
          ·rintro n1 h
           unfold zda at h
           refine W_join (α := Int) (fun z => zc9 right1 both1 left1 i1 k1 blk3 (zdh k x1 i1 y1 a2 a3 (zdj k x1 y1 fuel1) fuel2) z = some y0) (fun n2 => ⟨[(1, .val (.sl (.int .i32)) x1), (2, .val (.sl (.int .i32)) y1), (3, .ptr 3 0), (7, .bp 18 []), (8, I64 i1), (9, I64 k1), (12, I64 right1), (13, I64 (mnI (mnI both1 left1) right1)), (14, I64 n2)], [(3, .cells [.val (.sl .str) a2, .val (.sl (.pair (.int .i32) (.pair (.int .u32) (.pair (.int .u32) .unit)))) a3] 25), (18, .blk (.pair (.sl (.int .i32)) (.pair (.sl (.int .i32)) (.pair (.arr 65 (.arr 65 (.int .i64))) (.pair (.arr 65 (.arr 65 (.int .i64))) .unit)))) blk3 85)], []⟩) ?_ (fun hJ8 => ?_)
           ·rintro n2 h
            unfold zc9 at h
            refine W_join (α := Int) (fun z => zc8 i1 k1 blk3 (zdh k x1 i1 y1 a2 a3 (zdj k x1 y1 fuel1) fuel2) both1 left1 right1 z = some y0) (fun n3 => ⟨[(1, .val (.sl (.int .i32)) x1), (2, .val (.sl (.int .i32)) y1), (3, .ptr 3 0), (7, .bp 18 []), (8, I64 i1), (9, I64 k1), (13, I64 (mnI (mnI both1 left1) right1)), (14, I64 n3)], [(3, .cells [.val (.sl .str) a2, .val (.sl (.pair (.int .i32) (.pair (.int .u32) (.pair (.int .u32) .unit)))) a3] 25), (18, .blk (.pair (.sl (.int .i32)) (.pair (.sl (.int .i32)) (.pair (.arr 65 (.arr 65 (.int .i64))) (.pair (.arr 65 (.arr 65 (.int .i64))) .unit)))) blk3 85)], []⟩) ?_ (fun hJ8 => ?_)
            ·rintro n3 h
             unfold zc8 at h
             obtain ⟨_, e12, h⟩ := bind_some h
             replace e12 := zbp e12
             obtain ⟨_, e13, h⟩ := bind_some h
             replace e13 := zbp e13
             obtain ⟨_, e14, h⟩ := bind_some h
             replace e14 := zbp e14
             obtain ⟨x4, e8, h⟩ := bind_some h
             obtain ⟨x5, e9, h⟩ := bind_some h
             obtain ⟨_, e15, h⟩ := bind_some h
             replace e15 := zbp e15
             obtain ⟨x6, e10, h⟩ := bind_some h
             obtain ⟨x7, e11, h⟩ := bind_some h
             exact W_mixC hE [0, 1, 2, 3, 4, 5, 6, 7, 8, 9, 10, 11, 12, 14, 15, 16] [] [13, 17, 18] [1, 2, 3, 7, 8, 9] [3, 18] [] (orc := [⟨(.arr 65 (.int .i64)), x4⟩, tI64 x5, ⟨(.arr 65 (.int .i64)), x6⟩, tI64 x7]) (by kernel_rfl) (by kernel_rfl) (by kernel_rfl) (by kernel_rfl) (.c e12 (.c e13 (.c e14 (.c e8 (.c e9 (.c e15 (.c e10 (.c e11 .n)))))))) (N_block (N_normI (by kernel_rfl) (hJ1 (blk3.1, blk3.2.1, List.set blk3.2.2.1 (i1).toNat (List.set x4 (k1).toNat (mnI (mnI both1 left1) right1)), List.set blk3.2.2.2.1 (i1).toNat (List.set x6 (k1).toNat (mnI n3 (1048577 : Int))), ()) h)))
            refine W_seq (zbn (WL_allC hE [1, 2, 3, 7, 8, 9, 13, 14, 144] [3, 18] [] (orc := []) (by kernel_rfl) .n (N_then (W_cond (b := right1 == (mnI (mnI both1 left1) right1)) (by kernel_rfl) (fun e16 => ?_) (fun e16 => ?_)))))
            ·replace h := ite_t e16 h
             refine zbn ?_
             obtain ⟨_, e19, h⟩ := bind_some h
             replace e19 := zbp e19
             obtain ⟨_, e20, h⟩ := bind_some h
             replace e20 := zbp e20
             obtain ⟨x8, e17, h⟩ := bind_some h
             obtain ⟨x9, e18, h⟩ := bind_some h
             exact WL_allI hE (orc := [⟨(.arr 65 (.int .i64)), x8⟩, tI64 x9]) (by kernel_rfl) (.c e19 (.c e20 (.c e17 (.c e18 .n)))) (hJ8 (wi64 (n2 + x9)) h)
            ·replace h := ite_f e16 h
             exact W_skip (N_normI (by kernel_rfl) (hJ8 n2 h))
           refine W_seq (zbn (WL_allC hE [1, 2, 3, 7, 8, 9, 12, 13, 14, 130] [3, 18] [] (orc := []) (by kernel_rfl) .n (N_then (W_cond (b := left1 == (mnI (mnI both1 left1) right1)) (by kernel_rfl) (fun e21 => ?_) (fun e21 => ?_)))))
           ·replace h := ite_t e21 h
            refine zbn ?_
            obtain ⟨_, e24, h⟩ := bind_some h
            replace e24 := zbp e24
            obtain ⟨_, e25, h⟩ := bind_some h
            replace e25 := zbp e25
            obtain ⟨x10, e22, h⟩ := bind_some h
            obtain ⟨x11, e23, h⟩ := bind_some h
            exact WL_allI hE (orc := [⟨(.arr 65 (.int .i64)), x10⟩, tI64 x11]) (by kernel_rfl) (.c e24 (.c e25 (.c e22 (.c e23 .n)))) (hJ8 (wi64 (n1 + x11)) h)
           ·replace h := ite_f e21 h
            exact W_skip (N_normI (by kernel_rfl) (hJ8 n1 h))
          refine W_seq (zbn (WL_allI hE (st' := ⟨[(1, .val (.sl (.int .i32)) x1), (2, .val (.sl (.int .i32)) y1), (3, .ptr 3 0), (7, .bp 18 []), (8, I64 i1), (9, I64 k1), (11, I64 left1), (12, I64 right1), (13, I64 (mnI (mnI both1 left1) right1)), (14, I64 (0 : Int)), (115, BB (both1 == (mnI (mnI both1 left1) right1)))], [(3, .cells [.val (.sl .str) a2, .val (.sl (.pair (.int .i32) (.pair (.int .u32) (.pair (.int .u32) .unit)))) a3] 25), (18, .blk (.pair (.sl (.int .i32)) (.pair (.sl (.int .i32)) (.pair (.arr 65 (.arr 65 (.int .i64))) (.pair (.arr 65 (.arr 65 (.int .i64))) .unit)))) blk3 85)], []⟩) (orc := []) (by kernel_rfl) .n (N_then (W_cond (b := both1 == (mnI (mnI both1 left1) right1)) (by kernel_rfl) (fun e26 => ?_) (fun e26 => ?_)))))
          ·replace h := ite_t e26 h
           refine zbn ?_
           obtain ⟨_, e29, h⟩ := bind_some h
           replace e29 := zbp e29
           obtain ⟨_, e30, h⟩ := bind_some h
           replace e30 := zbp e30
           obtain ⟨x12, e27, h⟩ := bind_some h
           obtain ⟨x13, e28, h⟩ := bind_some h
           exact WL_allI hE (orc := [⟨(.arr 65 (.int .i64)), x12⟩, tI64 x13]) (by kernel_rfl) (.c e29 (.c e30 (.c e27 (.c e28 .n)))) (hJ8 (wi64 ((0 : Int) + x13)) h)
          ·replace h := ite_f e26 h
           exact W_skip (N_normI (by kernel_rfl) (hJ8 (0 : Int) h))
         refine W_seq (zbn (WL_allC hE [1, 2, 3, 7, 8, 9, 10, 11, 12, 98] [3, 18] [] (orc := []) (by kernel_rfl) .n (N_then (W_cond (b := decide (k1 < (List.length y1 : Int))) (by kernel_rfl) (fun e31 => ?_) (fun e31 => ?_)))))
         ·replace h := ite_t e31 h
          refine zbn ?_
          obtain ⟨_, e34, h⟩ := bind_some h
          replace e34 := zbp e34
          obtain ⟨_, e35, h⟩ := bind_some h
          replace e35 := zbp e35
          obtain ⟨x14, e32, h⟩ := bind_some h
          obtain ⟨x15, e33, h⟩ := bind_some h
          exact WL_allI hE (orc := [⟨(.arr 65 (.int .i64)), x14⟩, tI64 x15]) (by kernel_rfl) (.c e34 (.c e35 (.c e32 (.c e33 .n)))) (hJ8 (wi64 ((5 : Int) + x15)) h)
         ·replace h := ite_f e31 h
          exact W_skip (N_normI (by kernel_rfl) (hJ8 (1073741824 : Int) h))
        refine W_seq (zbn (WL_allC hE [1, 2, 3, 7, 8, 9, 10, 11, 12, 84] [3, 18] [] (orc := []) (by kernel_rfl) .n (N_then (W_cond (b := decide (i1 < (List.length x1 : Int))) (by kernel_rfl) (fun e36 => ?_) (fun e36 => ?_)))))
        ·replace h := ite_t e36 h
         refine zbn ?_
         obtain ⟨_, e39, h⟩ := bind_some h
         replace e39 := zbp e39
         obtain ⟨_, e40, h⟩ := bind_some h
         replace e40 := zbp e40
         obtain ⟨x16, e37, h⟩ := bind_some h
         obtain ⟨x17, e38, h⟩ := bind_some h
         exact WL_allI hE (orc := [⟨(.arr 65 (.int .i64)), x16⟩, tI64 x17]) (by kernel_rfl) (.c e39 (.c e40 (.c e37 (.c e38 .n)))) (hJ8 (wi64 ((5 : Int) + x17)) h)
        ·replace h := ite_f e36 h
         exact W_skip (N_normI (by kernel_rfl) (hJ8 (1073741824 : Int) h))
       refine W_seq (zbn (WL_tkC hE 5 [1, 2, 3, 7, 8, 9, 10, 11, 12, 54] [3, 18] [] (orc := []) (by kernel_rfl) .n (WL_join (α := Bool) (fun z => zde k x1 i1 y1 k1 a2 a3 blk3 (zdh k x1 i1 y1 a2 a3 (zdj k x1 y1 fuel1) fuel2) z = some y0) (fun t2 => ⟨[(1, .val (.sl (.int .i32)) x1), (2, .val (.sl (.int .i32)) y1), (3, .ptr 3 0), (7, .bp 18 []), (8, I64 i1), (9, I64 k1), (10, I64 (1073741824 : Int)), (11, I64 (1073741824 : Int)), (12, I64 (1073741824 : Int)), (59, BB t2)], [(3, .cells [.val (.sl .str) a2, .val (.sl (.pair (.int .i32) (.pair (.int .u32) (.pair (.int .u32) .unit)))) a3] 25), (18, .blk (.pair (.sl (.int .i32)) (.pair (.sl (.int .i32)) (.pair (.arr 65 (.arr 65 (.int .i64))) (.pair (.arr 65 (.arr 65 (.int .i64))) .unit)))) blk3 85)], []⟩) 5 ?_ (fun hJ9 => ?_))))
       ·rintro t2 h
        unfold zde at h
        refine WL_nil (N_then (W_cond (b := t2) (by kernel_rfl) (fun e41 => ?_) (fun e41 => ?_)))
        ·replace h := ite_t e41 h
         refine W_draw hE (by kernel_rfl) (by kernel_rfl) ?_
         obtain ⟨x18, e42, h⟩ := bind_some h
         obtain ⟨x19, e43, h⟩ := bind_some h
         obtain ⟨v1, e46, h⟩ := bind_some h
         obtain ⟨_, e47, h⟩ := bind_some h
         replace e47 := zbp e47
         obtain ⟨_, e48, h⟩ := bind_some h
         replace e48 := zbp e48
         obtain ⟨x20, e44, h⟩ := bind_some h
         obtain ⟨x21, e45, h⟩ := bind_some h
         exact WD_allI hE (orc := [tI32 x18, tI32 x19, tI64 v1, ⟨(.arr 65 (.int .i64)), x20⟩, tI64 x21]) (by kernel_rfl) (.c e42 (.c e43 (.c e46 (.c e47 (.c e48 (.c e44 (.c e45 .n))))))) (hJ8 (wi64 (v1 + x21)) h)
        ·replace h := ite_f e41 h
         exact W_skip (N_normI (by kernel_rfl) (hJ8 (1073741824 : Int) h))
       refine WL_splitC 54 (b := decide (i1 < (List.length x1 : Int))) (by kernel_rfl) (fun e49 => ?_) (fun e49 => ?_)
       ·rw [and_t e49] at h
        exact WL_allI hE (orc := []) (by kernel_rfl) .n (hJ9 (decide (k1 < (List.length y1 : Int))) h)
       ·rw [and_f e49] at h
        exact WL_allI hE (orc := []) (by kernel_rfl) .n (hJ9 false h)
     refine WL_splitC 44 (b := i1 == (List.length x1 : Int)) (by kernel_rfl) (fun e50 => ?_) (fun e50 => ?_)
     ·rw [and_t e50] at h
      exact WL_allI hE (orc := []) (by kernel_rfl) .n (hJ2 (k1 == (List.length y1 : Int)) h)
     ·rw [and_f e50] at h
      exact WL_allI hE (orc := []) (by kernel_rfl) .n (hJ2 false h)
    ·replace h := ite_f e6 h
     exact W_exit (zbm (zbm (N_block_exit (N_block (N_then (zbn (WL_allI hE (orc := []) (by kernel_rfl) .n (N_round (wi64 (i1 - (1 : Int)), a2, a3, blk3) (Nat.lt_succ_self _) h))))))))
  ·replace h := ite_f e5 h
   refine W_exit (zbm (zbm (N_block_exit (N_then (W_seq (zbn (WL_allC hE [6] [18] [] (orc := []) (by kernel_rfl) .n (N_then (W_ret ?_)))))))))
   replace h := Option.some.inj h
   subst h
   exact N_normC [6] [18] [] (by kernel_rfl) (N_endB hE.P [18] [] (.inl rfl) (by kernel_rfl) (by kernel_rfl))
noncomputable def pb_align_filled_i1 (k : Nat) : PB Tryz.prog Gl ((List (List UInt8) × List ((Int × Int × Int × Unit)) × Unit) × List (Int) × List (Int)) (List (Int) × List (Int) × List (List (Int)) × List (List (Int)) × Unit) := ⟨50, B_align_filled_i1 k, fun st => getH st [.sl 0 (.pair (.sl .str) (.pair (.sl (.pair (.int .i32) (.pair (.int .u32) (.pair (.int .u32) .unit)))) .unit)), .sl 1 (.sl (.int .i32)), .sl 2 (.sl (.int .i32))], fun z => zdk k (z.1) (z.2.1) (z.2.2), (b_align_filled_i1 k), fun _ _ h => h⟩
noncomputable def B_align_tabled_i1 (k : Nat) : FnB ((List (List UInt8) × List ((Int × Int × Int × Unit)) × Unit) × List UInt8 × List UInt8) (Sum Int (Int × (List (Int) × List (Int) × List (List (Int)) × List (List (Int)) × Unit))) where
 n := 33
 S := fun z => ⟨[(0, .val (.pair (.sl .str) (.pair (.sl (.pair (.int .i32) (.pair (.int .u32) (.pair (.int .u32) .unit)))) .unit)) (z.1)), (1, SS (z.2.1)), (2, SS (z.2.2))], [], []⟩
 S' := fun z y => match y with | .inl y => ⟨[], [], []⟩ | .inr y => ⟨[], [(32, .blk (.pair (.sl (.int .i32)) (.pair (.sl (.int .i32)) (.pair (.arr 65 (.arr 65 (.int .i64))) (.pair (.arr 65 (.arr 65 (.int .i64))) .unit)))) (y.2) 85)], []⟩
 rs := fun z y => match y with | .inl y => [.any, I64 (y)] | .inr y => [.bp 32 [], I64 (y.1)]
 rel := fun z y => zdl k (z.1) (z.2.1) (z.2.2) = some y
noncomputable def E_align_tabled_i1 (k : Nat) : Env := envOf Tryz.prog Gl 33 [q_word_Letters k]
theorem b_align_tabled_i1 (k : Nat) : BC Tryz.prog Gl 36 (B_align_tabled_i1 k) := by
 refine bc_of (fn := Tryz.f36) Tryz.func36 (by kernel_rfl) rfl Tryz.ntmps36 ?_
 rintro cx hP hn hG ⟨a1, x1, y1⟩ y0 h
 have hE : EnvOK (E_align_tabled_i1 k) cx := envOf_ok hP hn hG
 replace h : zdl k a1 x1 y1 = some y0 := h
 unfold zdl at h
 refine W_seq (zbn (WL_allC hE [1, 2, 3] [3] [] (orc := []) (by kernel_rfl) .n (N_then (W_seq (zbn ?_)))))
 obtain ⟨v1, e1, h⟩ := bind_some h
 refine WL_allC hE [2, 3, 8, 9] [3] [] (orc := [⟨(.sl (.int .i32)), v1.1⟩, tI64 v1.2]) (by kernel_rfl) (.c e1 .n) (N_then (W_seq (W_seq (zbn (WL_allC hE [2, 3, 8, 9, 18] [3] [] (orc := []) (by kernel_rfl) .n (N_then (W_cond (b := v1.2 != (0 : Int)) (by kernel_rfl) (fun e2 => ?_) (fun e2 => ?_))))))))
 ·replace h := ite_t e2 h
  refine W_seq (zbn (WL_allI hE (st' := ⟨[(7, I64 v1.2)], [], []⟩) (orc := []) (by kernel_rfl) .n (N_then (W_ret (N_then_ret ?_)))))
  replace h := Option.some.inj h
  subst h
  exact N_normC [7] [] [] (by kernel_rfl) (N_endB hE.P [] [] (.inl rfl) (by kernel_rfl) (by kernel_rfl))
 ·replace h := ite_f e2 h
  refine W_skip (N_then (W_seq (zbn ?_)))
  obtain ⟨v2, e3, h⟩ := bind_some h
  refine WL_allC hE [3, 8, 9, 10] [3] [] (orc := [⟨(.sl (.int .i32)), v2.1⟩, tI64 v2.2]) (by kernel_rfl) (.c e3 .n) (N_then (W_seq (W_seq (zbn (WL_allC hE [3, 8, 9, 10, 27] [3] [] (orc := []) (by kernel_rfl) .n (N_then (W_cond (b := v2.2 != (0 : Int)) (by kernel_rfl) (fun e4 => ?_) (fun e4 => ?_))))))))
  ·replace h := ite_t e4 h
   refine W_seq (zbn (WL_allI hE (st' := ⟨[(7, I64 v2.2)], [], []⟩) (orc := []) (by kernel_rfl) .n (N_then (W_ret (N_then_ret ?_)))))
   replace h := Option.some.inj h
   subst h
   exact N_normC [7] [] [] (by kernel_rfl) (N_endB hE.P [] [] (.inl rfl) (by kernel_rfl) (by kernel_rfl))
  ·replace h := ite_f e4 h
   refine W_skip (N_then (W_seq (zbn (WL_tkC hE 3 [29, 30, 31] [] [] (orc := []) (by kernel_rfl) .n ?_))))
   obtain ⟨v3, e5, h⟩ := bind_some h
   refine WL_callB hE (b_align_filled_i1 k) ((a1.1, a1.2.1, ()), v1.1, v2.1) v3 e5 (ρ := []) (ρ' := [(18, 32)]) (n := 174) (by kernel_rfl) [32] [32] [] (by kernel_rfl) (by kernel_rfl) (st' := ⟨[(32, .bp 32 [])], [(32, .blk (.pair (.sl (.int .i32)) (.pair (.sl (.int .i32)) (.pair (.arr 65 (.arr 65 (.int .i64))) (.pair (.arr 65 (.arr 65 (.int .i64))) .unit)))) v3 85)], []⟩) (by kernel_rfl) (WL_allC hE [6, 7] [32] [] (orc := []) (by kernel_rfl) .n (N_then (W_ret ?_)))
   replace h := Option.some.inj h
   subst h
   exact N_normC [6, 7] [32] [] (by kernel_rfl) (N_endB hE.P [32] [] (.inl rfl) (by kernel_rfl) (by kernel_rfl))
noncomputable def pb_align_tabled_i1 (k : Nat) : PB Tryz.prog Gl ((List (List UInt8) × List ((Int × Int × Int × Unit)) × Unit) × List UInt8 × List UInt8) (Sum Int (Int × (List (Int) × List (Int) × List (List (Int)) × List (List (Int)) × Unit))) := ⟨36, B_align_tabled_i1 k, fun st => getH st [.sl 0 (.pair (.sl .str) (.pair (.sl (.pair (.int .i32) (.pair (.int .u32) (.pair (.int .u32) .unit)))) .unit)), .sl 1 .str, .sl 2 .str], fun z => zdl k (z.1) (z.2.1) (z.2.2), (b_align_tabled_i1 k), fun _ _ h => h⟩
noncomputable def zgc (k : Nat) : FnF := ⟨[(.ptr (.pair (.sl (.int .i32)) (.pair (.sl (.int .i32)) (.pair (.arr 65 (.arr 65 (.int .i64))) (.pair (.arr 65 (.arr 65 (.int .i64))) .unit))))), (.pair (.sl .str) (.pair (.sl (.pair (.int .i32) (.pair (.int .u32) (.pair (.int .u32) .unit)))) .unit))], [(.sl (.pair (.int .i32) (.pair (.int .i32) .unit)))], [], fun x => align_table_first k (x.1) (x.2)⟩
theorem c_align_table_first (k : Nat) : Contract Tryz.prog Gl 37 (zgc k).toC := mkC zbr Tryz.func37 (by kernel_rfl) rfl Tryz.ntmps37 (zgc k) (by kernel_rfl) [q_align_far k] (fun x => .sk 6 (.lp [.sl 6 (.int .i64), .sl 7 (.int .i64), .rw 5 41 (.pair (.int .i32) (.pair (.int .i32) .unit))] (sB [0, 3, 5, 6, 7] [3] [5]) (fun n => Un3 (zdo k (x.1) (x.2) n)) k fun g'1 y'1 => .sk 2 (.pg 7 (.t (.sk 2 (.a (.int .i64) fun x2 => .sk 2 (.pg 7 (.g 29 (zdn (x.1) (y'1.1) (y'1.2.1) (y'1.2.2) (Cn3 g'1) x2) .z .z (fun _ => .c (.sk 1 (.mx [0, 1, 2, 3, 5, 8, 9, 10, 12] [4, 6, 7, 11, 13, 14, 15] [16, 17, 18] .z)) (.sk 1 (.g 12 (zdm (x.1) (y'1.1) (y'1.2.2) (Cn3 g'1) (y'1.2.1)) .z .z (fun _ => .z)))))))))))) (by kernel_rfl)
noncomputable def q_align_table_first (k : Nat) : PF Tryz.prog Gl := ⟨37, zgc k, c_align_table_first k⟩
noncomputable def zgd (k : Nat) : FnB ((List (List UInt8) × List ((Int × Int × Int × Unit)) × Unit) × (List (Int) × List (Int) × List (List (Int)) × List (List (Int)) × Unit)) (List ((Int × Int × Unit))) where
 n := 152
 S := fun z => ⟨[(0, .bp 152 []), (1, .val (.pair (.sl .str) (.pair (.sl (.pair (.int .i32) (.pair (.int .u32) (.pair (.int .u32) .unit)))) .unit)) (z.1))], [(152, .blk (.pair (.sl (.int .i32)) (.pair (.sl (.int .i32)) (.pair (.arr 65 (.arr 65 (.int .i64))) (.pair (.arr 65 (.arr 65 (.int .i64))) .unit)))) (z.2) 85)], []⟩
 S' := fun z y => ⟨[], [(152, .blk (.pair (.sl (.int .i32)) (.pair (.sl (.int .i32)) (.pair (.arr 65 (.arr 65 (.int .i64))) (.pair (.arr 65 (.arr 65 (.int .i64))) .unit)))) (z.2) 85)], [(5, ⟨41, (.pair (.int .i32) (.pair (.int .i32) .unit)), (y)⟩)]⟩
 rs := fun z y => [.row 5]
 rel := fun z y => zds k (z.1) (z.2) = some y
theorem b_align_table_first_i1 (k : Nat) : BC Tryz.prog Gl 37 (zgd k) := mkB Tryz.func37 (by kernel_rfl) rfl (zgd k) Tryz.ntmps37 [q_align_far k] (fun z => zds k (z.1) (z.2)) (fun _ _ h => h) (fun st => getH st [.rw 5 41 (.pair (.int .i32) (.pair (.int .i32) .unit))]) [152] [5] (fun z => .sk 6 (.lp [.sl 6 (.int .i64), .sl 7 (.int .i64), .rw 5 41 (.pair (.int .i32) (.pair (.int .i32) .unit))] (sB [0, 3, 5, 6, 7] [3, 152] [5]) (fun n => Un3 (zdr k (z.2) (z.1) n)) k fun g'1 y'1 => .sk 2 (.pg 7 (.t (.sk 2 (.a (.int .i64) fun x2 => .sk 2 (.pg 7 (.g 29 (zdq (z.2) (y'1.1) (y'1.2.1) (y'1.2.2) (Cn3 g'1) x2) .z .z (fun _ => .c (.sk 1 (.mx [0, 1, 2, 3, 5, 8, 9, 10, 12] [4, 6, 7, 11, 13, 14, 15] [16, 17, 18] .z)) (.sk 1 (.g 12 (zdp (z.2) (y'1.1) (y'1.2.2) (Cn3 g'1) (y'1.2.1)) .z .z (fun _ => .z)))))))))))) (by kernel_rfl)
noncomputable def pb_align_table_first_i1 (k : Nat) : PB Tryz.prog Gl ((List (List UInt8) × List ((Int × Int × Int × Unit)) × Unit) × (List (Int) × List (Int) × List (List (Int)) × List (List (Int)) × Unit)) (List ((Int × Int × Unit))) := ⟨37, zgd k, fun st => getH st [.sl 1 (.pair (.sl .str) (.pair (.sl (.pair (.int .i32) (.pair (.int .u32) (.pair (.int .u32) .unit)))) .unit)), .bk 152 (.pair (.sl (.int .i32)) (.pair (.sl (.int .i32)) (.pair (.arr 65 (.arr 65 (.int .i64))) (.pair (.arr 65 (.arr 65 (.int .i64))) .unit))))], fun z => zds k (z.1) (z.2), (b_align_table_first_i1 k), fun _ _ h => h⟩
noncomputable def F_align_Words (k : Nat) : FnF := ⟨[(.pair (.sl .str) (.pair (.sl (.pair (.int .i32) (.pair (.int .u32) (.pair (.int .u32) .unit)))) .unit)), .str, .str], [(.int .i64), (.sl (.pair (.int .i32) (.pair (.int .i32) .unit))), (.int .i64)], [], fun x => zdt k (x.1) (x.2.1) (x.2.2)⟩
noncomputable def E_align_Words (k : Nat) : Env := envOf Tryz.prog Gl 30 []
theorem c_align_Words (k : Nat) : Contract Tryz.prog Gl 22 (F_align_Words k).toC := by
 refine contract_of zbr (fn := Tryz.f22) Tryz.func22 (by kernel_rfl) rfl (toC_shape Tryz.ntmps22 (by kernel_rfl)) ?_
 rintro w0 M _ _ hG h
 obtain ⟨⟨a1, x1, y1⟩, ⟨rz1, rz2, rz3⟩, rfl, rfl, h⟩ := rel_of h
 change (List (List UInt8) × List ((Int × Int × Int × Unit)) × Unit) at a1
 change List UInt8 at x1
 change List UInt8 at y1
 change Int at rz1
 change List ((Int × Int × Unit)) at rz2
 change Int at rz3
 replace h : zdt k a1 x1 y1 = some (rz1, rz2, rz3) := h
 have hE : EnvOK (E_align_Words k) ⟨Tryz.prog, Tryz.f22.ntmps, w0, M, fun _ => False, fun _ => undef⟩ := envOf_ok rfl Tryz.ntmps22 hG
 unfold zdt at h
 refine W_seq (zbn (WL_allC hE [1, 2, 3] [3] [] (orc := []) (by kernel_rfl) .n (N_then (W_seq (zbn (WL_tkC hE 3 [3, 12, 13, 14] [3] [] (orc := []) (by kernel_rfl) .n ?_))))))
 obtain ⟨v1, e1, h⟩ := bind_some h
 rcases v1 with v2 | v3
 ·replace h := sumCase_l h
  refine WL_callBC hE (b_align_tabled_i1 k) ((a1.1, a1.2.1, ()), x1, y1) (.inl v2) e1 (ρ := []) (ρ' := []) (n := 33) (by kernel_rfl) [3, 15] [3] [] (by kernel_rfl) (by kernel_rfl) (by kernel_rfl) (WL_allC hE [3, 9, 10] [3] [] (orc := []) (by kernel_rfl) .n (N_then (W_seq (W_seq (zbn (WL_allC hE [3, 9, 10, 19] [3] [] (orc := []) (by kernel_rfl) .n (N_then (W_cond (b := v2 != (0 : Int)) (by kernel_rfl) (fun e2 => ?_) (fun e2 => ?_)))))))))
  ·replace h := ite_t e2 h
   refine W_seq (zbn (WL_allI hE (st' := ⟨[(6, I64 (0 : Int)), (7, .row 7), (8, I64 v2)], [], [(7, ⟨41, (.pair (.int .i32) (.pair (.int .i32) .unit)), ([] : List ((Int × Int × Unit)))⟩)]⟩) (orc := []) (by kernel_rfl) .n (N_then (W_ret (N_then_ret ?_)))))
   cases h
   exact N_end (.inl rfl) (by kernel_rfl)
  ·replace h := ite_f e2 h
   refine W_skip (N_then (W_seq ?_))
   cases h
 ·replace h := sumCase_r h
  refine WL_callBC hE (b_align_tabled_i1 k) ((a1.1, a1.2.1, ()), x1, y1) (.inr v3) e1 (ρ := []) (ρ' := [(32, 15)]) (n := 33) (by kernel_rfl) [3, 15] [3, 15] [] (by kernel_rfl) (by kernel_rfl) (by kernel_rfl) (WL_allC hE [3, 9, 10] [3, 15] [] (orc := []) (by kernel_rfl) .n (N_then (W_seq (W_seq (zbn (WL_allC hE [3, 9, 10, 19] [3, 15] [] (orc := []) (by kernel_rfl) .n (N_then (W_cond (b := v3.1 != (0 : Int)) (by kernel_rfl) (fun e3 => ?_) (fun e3 => ?_)))))))))
  ·replace h := ite_t e3 h
   refine W_seq (zbn (WL_allI hE (st' := ⟨[(6, I64 (0 : Int)), (7, .row 7), (8, I64 v3.1)], [], [(7, ⟨41, (.pair (.int .i32) (.pair (.int .i32) .unit)), ([] : List ((Int × Int × Unit)))⟩)]⟩) (orc := []) (by kernel_rfl) .n (N_then (W_ret (N_then_ret ?_)))))
   cases h
   exact N_end (.inl rfl) (by kernel_rfl)
  ·replace h := ite_f e3 h
   refine W_skip (N_then (W_seq ?_))
   obtain ⟨_, e6, h⟩ := bind_some h
   replace e6 := zbp e6
   obtain ⟨_, e7, h⟩ := bind_some h
   replace e7 := zbp e7
   obtain ⟨x2, e4, h⟩ := bind_some h
   obtain ⟨x3, e5, h⟩ := bind_some h
   refine W_floatC hE [0, 1, 2, 3, 4, 6] [] 5 7 [8] [9, 10, 11] [3, 25, 26, 27] [3, 15] [] (orc := []) (orci := [⟨(.arr 65 (.int .i64)), x2⟩, tI64 x3]) (by rfl) (by rfl) (by rfl) (by kernel_rfl) (by kernel_rfl) (by kernel_rfl) (by kernel_rfl) (by kernel_rfl) (by kernel_rfl) (by kernel_rfl) (by kernel_rfl) (.c e6 (.c e7 (.c e4 (.c e5 .n)))) (WL_allC hE [25, 26, 27, 28] [15] [] (orc := []) (by kernel_rfl) .n (N_redo1C hE (orc := [⟨(.arr 65 (.int .i64)), x2⟩, tI64 x3]) (by kernel_rfl) (by kernel_rfl) (by kernel_rfl) (by kernel_rfl) (.c e4 (.c e5 .n)) (by rfl) ?_))
   obtain ⟨v4, e8, h⟩ := bind_some h
   refine WL_callBC hE (b_align_table_first_i1 k) ((a1.1, a1.2.1, ()), v3.2) v4 e8 (ρ := [(15, 152)]) (ρ' := [(152, 15), (5, 29)]) (n := 152) (by kernel_rfl) [25, 26, 29] [15] [29] (by kernel_rfl) (by kernel_rfl) (by kernel_rfl) (WL_nil (N_redo0C hE (orc := [⟨(.arr 65 (.int .i64)), x2⟩, tI64 x3]) (by kernel_rfl) (by kernel_rfl) (by kernel_rfl) (by kernel_rfl) (.c e4 (.c e5 .n)) (WL_allC hE [6, 7, 8] [] [29] (orc := []) (by kernel_rfl) .n (N_only (N_then (W_ret ?_))))))
   cases h
   exact N_end (.inl rfl) (by kernel_rfl)
noncomputable def q_align_Words (k : Nat) : PF Tryz.prog Gl := ⟨22, F_align_Words k, c_align_Words k⟩
noncomputable def F_corr_aligned (k : Nat) : FnF := ⟨[(.pair (.sl .str) (.pair (.sl (.pair (.int .i32) (.pair (.int .u32) (.pair (.int .u32) .unit)))) .unit)), (.sl (.arr 2 .str))], [(.sl (.sl (.pair (.int .i32) (.pair (.int .i32) .unit)))), (.int .i64)], [], fun x => zdv k (x.1) (x.2)⟩
theorem c_corr_aligned (k : Nat) : Contract Tryz.prog Gl 13 (F_corr_aligned k).toC := mkC zbr Tryz.func13 (by kernel_rfl) rfl Tryz.ntmps13 (F_corr_aligned k) (by kernel_rfl) [q_feature_Check k, q_align_Words k] (fun x => .sk 6 (.f (.sk 2 (.f (.sk 4 (.lp [.sl 23 (.int .i64), .rw 7 49 (.sl (.pair (.int .i32) (.pair (.int .i32) .unit)))] (sB [2, 7, 21, 22, 23] [2] [7]) (fun n => Un2 (zdu k (x.2) (x.1) n)) k fun _ _ => .z)))))) (by kernel_rfl)
noncomputable def q_corr_aligned (k : Nat) : PF Tryz.prog Gl := ⟨13, F_corr_aligned k, c_corr_aligned k⟩
noncomputable def zge (k : Nat) : FnB (List ((Int × Int × Unit) × Int)) Unit where
 n := 4
 S := fun z => ⟨[(0, .iter 4)], [(4, .mp (.pair (.int .i32) (.pair (.int .i32) .unit)) (.int .i64) (z))], []⟩
 S' := fun z y => ⟨[], [(1, .cells [.iter 4] 60), (4, .mp (.pair (.int .i32) (.pair (.int .i32) .unit)) (.int .i64) (z))], []⟩
 rs := fun z y => [.clos 40 [1]]
 rel := fun z y => zdw k (z) = some y
theorem zgf (k : Nat) : BC Tryz.prog Gl 24 (zge k) := mkB Tryz.func24 (by kernel_rfl) rfl (zge k) Tryz.ntmps24 [] (fun z => zdw k (z)) (fun _ _ h => h) (fun st => getH st []) [1, 4] [] (fun _ => .z) (by kernel_rfl)
noncomputable def zgg (k : Nat) : PB Tryz.prog Gl (List ((Int × Int × Unit) × Int)) Unit := ⟨24, zge k, fun st => getH st [.mp 4 (.pair (.int .i32) (.pair (.int .i32) .unit)) (.int .i64)], fun z => zdw k (z), (zgf k), fun _ _ h => h⟩
noncomputable def B_corr_counted_i1 (k : Nat) : FnB ((List (List UInt8) × List ((Int × Int × Int × Unit)) × Unit) × List (List ((Int × Int × Unit)))) (List (((Int × Int × Unit) × Int × Unit))) where
 n := 71
 S := fun z => ⟨[(0, .val (.pair (.sl .str) (.pair (.sl (.pair (.int .i32) (.pair (.int .u32) (.pair (.int .u32) .unit)))) .unit)) (z.1)), (1, .val (.sl (.sl (.pair (.int .i32) (.pair (.int .i32) .unit)))) (z.2))], [], []⟩
 S' := fun z y => ⟨[], [], [(13, ⟨43, (.pair (.pair (.int .i32) (.pair (.int .i32) .unit)) (.pair (.int .i64) .unit)), (y)⟩)]⟩
 rs := fun z y => [.row 13]
 rel := fun z y => zed k (z.1) (z.2) = some y
theorem b_corr_counted_i1 (k : Nat) : BC Tryz.prog Gl 14 (B_corr_counted_i1 k) := mkB Tryz.func14 (by kernel_rfl) rfl (B_corr_counted_i1 k) Tryz.ntmps14 [] (fun z => zed k (z.1) (z.2)) (fun _ _ h => h) (fun st => getH st [.rw 13 43 (.pair (.pair (.int .i32) (.pair (.int .i32) .unit)) (.pair (.int .i64) .unit))]) [] [13] (fun z => .sk 5 (.lp [.sl 19 (.int .i64), .bx 2 0 (.sl .str), .bx 2 1 (.sl (.pair (.int .i32) (.pair (.int .u32) (.pair (.int .u32) .unit)))), .mp 16 (.pair (.int .i32) (.pair (.int .i32) .unit)) (.int .i64)] (sB [2, 5, 17, 18, 19] [2, 5, 16] []) (fun n => Un4 (zec k (z.2) n)) k fun g'1 y'1 => .sk 2 (.c (.sk 2 (.a (.sl (.pair (.int .i32) (.pair (.int .i32) .unit))) fun x1 => .sk 1 (.lp [.sl 25 (.int .i64), .mp 16 (.pair (.int .i32) (.pair (.int .i32) .unit)) (.int .i64)] (sB [2, 5, 17, 18, 19, 23, 24, 25] [2, 5, 16] []) (fun n => Un2 (zd9 x1 (Cn4 g'1) (y'1.1) (y'1.2.1) (y'1.2.2.1) n)) k fun _ _ => .sk 2 (.t (.sk 3 (.ct [] [0, 1] 2 3 4 5 6 .z)))))) (.sk 3 (.lp [.sl 41 (.int .i64), .mp 37 (.int .i32) (.int .i64)] (sB [5, 10, 39, 40, 41] [5, 10, 16, 37] []) (fun n => Un2 (zeb k (y'1.2.2.1) (y'1.2.2.2) n)) k fun _ _ => .sk 2 (.f (.sk 4 (.cb (zgg k) [(16, 4)] [(1, 53), (4, 16)] (fun _ => .cb (pb_sortedPairs k) [(53, 12), (16, 13), (5, 14), (10, 15), (37, 16)] [(12, 53), (13, 16), (14, 5), (15, 10), (16, 37), (17, 55)] (fun v2 => .lp [.sl 57 (.int .i64), .rw 13 43 (.pair (.pair (.int .i32) (.pair (.int .i32) .unit)) (.pair (.int .i64) .unit))] (sB [5, 13, 55, 56, 57] [5, 16] [13, 55]) (fun n => Un2 (zea v2 (y'1.2.2.2) n)) k fun _ _ => .sk 2 (.t (.sk 3 (.u 0 (.mx [0] [1, 2, 3, 4, 5] [6, 7, 8] .z)))))))))))))) (by kernel_rfl)
noncomputable def pb_corr_counted_i1 (k : Nat) : PB Tryz.prog Gl ((List (List UInt8) × List ((Int × Int × Int × Unit)) × Unit) × List (List ((Int × Int × Unit)))) (List (((Int × Int × Unit) × Int × Unit))) := ⟨14, B_corr_counted_i1 k, fun st => getH st [.sl 0 (.pair (.sl .str) (.pair (.sl (.pair (.int .i32) (.pair (.int .u32) (.pair (.int .u32) .unit)))) .unit)), .sl 1 (.sl (.sl (.pair (.int .i32) (.pair (.int .i32) .unit))))], fun z => zed k (z.1) (z.2), (b_corr_counted_i1 k), fun _ _ h => h⟩
noncomputable def B_corr_Counts_i2 (k : Nat) : FnB ((List (List UInt8) × List ((Int × Int × Int × Unit)) × Unit) × List (List (List UInt8))) (Int × List (((Int × Int × Unit) × Int × Unit))) where
 n := 20
 S := fun z => ⟨[(0, .val (.pair (.sl .str) (.pair (.sl (.pair (.int .i32) (.pair (.int .u32) (.pair (.int .u32) .unit)))) .unit)) (z.1)), (1, .val (.sl (.arr 2 .str)) (z.2))], [], []⟩
 S' := fun z y => ⟨[], [], [(3500001, ⟨43, (.pair (.pair (.int .i32) (.pair (.int .i32) .unit)) (.pair (.int .i64) .unit)), (y.2)⟩)]⟩
 rs := fun z y => [.row 3500001, I64 (y.1)]
 rel := fun z y => zee k (z.1) (z.2) = some y
noncomputable def E_corr_Counts_i2 (k : Nat) : Env := envOf Tryz.prog Gl 20 [q_corr_aligned k]
theorem b_corr_Counts_i2 (k : Nat) : BC Tryz.prog Gl 5 (B_corr_Counts_i2 k) := by
 refine bc_of (fn := Tryz.f5) Tryz.func5 (by kernel_rfl) rfl Tryz.ntmps5 ?_
 rintro cx hP hn hG ⟨a1, l1⟩ y0 h
 have hE : EnvOK (E_corr_Counts_i2 k) cx := envOf_ok hP hn hG
 replace h : zee k a1 l1 = some y0 := h
 unfold zee at h
 refine W_seq (zbn (WL_allC hE [1, 2] [2] [] (orc := []) (by kernel_rfl) .n (N_then (W_seq (zbn ?_)))))
 obtain ⟨v1, e1, h⟩ := bind_some h
 refine WL_allC hE [2, 6, 7] [2] [] (orc := [⟨(.sl (.sl (.pair (.int .i32) (.pair (.int .i32) .unit)))), v1.1⟩, tI64 v1.2]) (by kernel_rfl) (.c e1 .n) (N_then (W_seq (W_seq (zbn (WL_allC hE [2, 6, 7, 15] [2] [] (orc := []) (by kernel_rfl) .n (N_then (W_cond (b := v1.2 != (0 : Int)) (by kernel_rfl) (fun e2 => ?_) (fun e2 => ?_))))))))
 ·replace h := ite_t e2 h
  refine W_seq (zbn (WL_allI hE (st' := ⟨[(4, .row 4), (5, I64 v1.2)], [], [(4, ⟨43, (.pair (.pair (.int .i32) (.pair (.int .i32) .unit)) (.pair (.int .i64) .unit)), ([] : List (((Int × Int × Unit) × Int × Unit)))⟩)]⟩) (orc := []) (by kernel_rfl) .n (N_then (W_ret (N_then_ret ?_)))))
  replace h := Option.some.inj h
  subst h
  exact N_renC [4, 5] [] [4] [(4, 3500001)] (by kernel_rfl) (N_endB hE.P [] [3500001] (.inl rfl) (by kernel_rfl) (by kernel_rfl))
 ·replace h := ite_f e2 h
  refine W_skip (N_then (W_seq (zbn (WL_tkC hE 2 [17, 18] [] [] (orc := []) (by kernel_rfl) .n ?_))))
  obtain ⟨v2, e3, h⟩ := bind_some h
  refine WL_callB hE (b_corr_counted_i1 k) ((a1.1, a1.2.1, ()), v1.1) v2 e3 (ρ := []) (ρ' := [(13, 19)]) (n := 71) (by kernel_rfl) [19] [] [19] (by kernel_rfl) (by kernel_rfl) (st' := ⟨[(19, .row 19)], [], [(19, ⟨43, (.pair (.pair (.int .i32) (.pair (.int .i32) .unit)) (.pair (.int .i64) .unit)), v2⟩)]⟩) (by kernel_rfl) (WL_allC hE [4, 5] [] [19] (orc := []) (by kernel_rfl) .n (N_then (W_ret ?_)))
  replace h := Option.some.inj h
  subst h
  exact N_renC [4, 5] [] [19] [(19, 3500001)] (by kernel_rfl) (N_endB hE.P [] [3500001] (.inl rfl) (by kernel_rfl) (by kernel_rfl))
noncomputable def pb_corr_Counts_i2 (k : Nat) : PB Tryz.prog Gl ((List (List UInt8) × List ((Int × Int × Int × Unit)) × Unit) × List (List (List UInt8))) (Int × List (((Int × Int × Unit) × Int × Unit))) := ⟨5, B_corr_Counts_i2 k, fun st => getH st [.sl 0 (.pair (.sl .str) (.pair (.sl (.pair (.int .i32) (.pair (.int .u32) (.pair (.int .u32) .unit)))) .unit)), .sl 1 (.sl (.arr 2 .str))], fun z => zee k (z.1) (z.2), (b_corr_Counts_i2 k), fun _ _ h => h⟩
noncomputable def F_r02_name (k : Nat) : FnF := ⟨[.str], [.bool], [], fun x => r02_name k x⟩
theorem c_r02_name (k : Nat) : Contract Tryz.prog Gl 41 (F_r02_name k).toC := mkC zbr Tryz.func41 (by kernel_rfl) rfl Tryz.ntmps41 (F_r02_name k) (by kernel_rfl) [] (fun x => .sk 3 (.pg 3 (.f (.sk 2 (.lp [.sl 3 (.int .i64)] (sB [0, 3] [] []) (r02_name_l1 x) k fun g'1 y'1 => .sk 2 (.t (.sk 3 (.g 4 (r02_name_j2 g'1 y'1) .z .z (fun _ => .z))))))))) (by kernel_rfl)
noncomputable def q_r02_name (k : Nat) : PF Tryz.prog Gl := ⟨41, F_r02_name k, c_r02_name k⟩
noncomputable def F_r02_letter (k : Nat) : FnF := ⟨[(.int .i32)], [.bool], [], fun x => r02_letter k x⟩
theorem c_r02_letter (k : Nat) : Contract Tryz.prog Gl 42 (F_r02_letter k).toC := mkC zbr Tryz.func42 (by kernel_rfl) rfl Tryz.ntmps42 (F_r02_letter k) (by kernel_rfl) [] (fun x => .sk 3 (.pg 2 (.gj 6 [.sl 16 .bool] (sB [0, 16] [] []) (r02_letter_j2 x) .z (.sk 3 (.pg 2 .z)) (fun _ => .f (.sk 1 (.pg 2 (.pg 2 (.gj 6 [.sl 34 .bool] (sB [34] [] []) r02_letter_j5 (.sk 3 (.pg 2 .z)) .z (fun _ => .z))))))))) (by kernel_rfl)
noncomputable def q_r02_letter (k : Nat) : PF Tryz.prog Gl := ⟨42, F_r02_letter k, c_r02_letter k⟩
noncomputable def F_r02_all (k : Nat) : FnF := ⟨[(.pair (.sl .str) (.pair (.sl (.pair (.int .i32) (.pair (.int .u32) (.pair (.int .u32) .unit)))) .unit))], [(.int .u32)], [], fun x => r02_all k x⟩
theorem c_r02_all (k : Nat) : Contract Tryz.prog Gl 55 (F_r02_all k).toC := mkC zbr Tryz.func55 (by kernel_rfl) rfl Tryz.ntmps55 (F_r02_all k) (by kernel_rfl) [] (fun _ => .z) (by kernel_rfl)
noncomputable def q_r02_all (k : Nat) : PF Tryz.prog Gl := ⟨55, F_r02_all k, c_r02_all k⟩
noncomputable def F_r02_May (k : Nat) : FnF := ⟨[(.pair (.sl .str) (.pair (.sl (.pair (.int .i32) (.pair (.int .u32) (.pair (.int .u32) .unit)))) .unit)), (.int .u32), (.int .u32)], [.bool], [], fun x => r02_May k (x.1) (x.2.1) (x.2.2)⟩
theorem c_r02_May (k : Nat) : Contract Tryz.prog Gl 43 (F_r02_May k).toC := mkC zbr Tryz.func43 (by kernel_rfl) rfl Tryz.ntmps43 (F_r02_May k) (by kernel_rfl) [q_r02_all k] (fun _ => .sk 3 (.pg 4 .z)) (by kernel_rfl)
noncomputable def q_r02_May (k : Nat) : PF Tryz.prog Gl := ⟨43, F_r02_May k, c_r02_May k⟩
noncomputable def F_r02_Check (k : Nat) : FnF := ⟨[(.pair (.sl .str) (.pair (.sl (.pair (.int .i32) (.pair (.int .u32) (.pair (.int .u32) .unit)))) .unit))], [(.int .i64)], [], fun x => r02_Check k x⟩
theorem c_r02_Check (k : Nat) : Contract Tryz.prog Gl 27 (F_r02_Check k).toC := mkC zbr Tryz.func27 (by kernel_rfl) rfl Tryz.ntmps27 (F_r02_Check k) (by kernel_rfl) [q_r02_name k, q_r02_letter k, q_r02_May k] (fun _ => .sk 3 (.pg 4 (.pg 4 (.f (.sk 2 (.lp [.sl 3 (.int .i64), .bx 1 0 (.sl .str), .bx 1 1 (.sl (.pair (.int .i32) (.pair (.int .u32) (.pair (.int .u32) .unit))))] (sB [1, 3] [1] []) (fun n => Un3 (r02_Check_l1 k n)) k fun g'1 y'1 => .sk 2 (.c (.sk 6 (.lp [.sl 4 .bool, .sl 5 (.int .i64)] (sB [1, 3, 4, 5] [1] []) (fun n => Un2 (r02_Check_l2 (y'1.1) (y'1.2.1) (Cn3 g'1) (y'1.2.2) n)) k fun g'2 y'2 => .sk 2 (.t (.sk 2 (.g 11 (r02_Check_j3 (Cn2 g'2) (y'2.2)) .z .z (fun _ => .z)))))) (.sk 2 (.lp [.sl 6 (.int .i64), .bx 1 0 (.sl .str), .bx 1 1 (.sl (.pair (.int .i32) (.pair (.int .u32) (.pair (.int .u32) .unit))))] (sB [1, 6] [1] []) (fun n => Un3 (zcv k n)) k fun g'3 y'3 => .sk 2 (.t (.sk 2 (.a (.pair (.int .i32) (.pair (.int .u32) (.pair (.int .u32) .unit))) fun x4 => .sk 2 (.g 6 (r02_Check_j4 k (y'3.1) (y'3.2.2) x4 (Cn3 g'3) (y'3.2.1)) .z .z (fun _ => .sk 2 (.lp [.sl 8 .bool, .sl 9 (.int .i64)] (sB [1, 6, 7, 8, 9] [1, 7] []) (fun n => Un2 (r02_Check_l4 (y'3.1) (y'3.2.2) x4 (Cn3 g'3) (y'3.2.1) n)) k fun g'4 y'4 => .sk 2 (.t (.sk 2 (.g 9 (r02_Check_j5 (Cn2 g'4) (y'4.2)) .z .z (fun _ => .z))))))))))))))))))) (by kernel_rfl)
noncomputable def q_r02_Check (k : Nat) : PF Tryz.prog Gl := ⟨27, F_r02_Check k, c_r02_Check k⟩
noncomputable def F_r03_Number (k : Nat) : FnF := ⟨[(.pair (.sl .str) (.pair (.sl (.pair (.int .i32) (.pair (.int .u32) (.pair (.int .u32) .unit)))) .unit)), (.int .i32)], [(.int .i64)], [], fun x => r03_Number k (x.1) (x.2)⟩
theorem c_r03_Number (k : Nat) : Contract Tryz.prog Gl 79 (F_r03_Number k).toC := mkC zbr Tryz.func79 (by kernel_rfl) rfl Tryz.ntmps79 (F_r03_Number k) (by kernel_rfl) [] (fun x => .sk 3 (.lp [.sl 5 (.int .i64)] (sB [1, 2, 5] [2] []) (r03_Number_l1 (x.1) (x.2)) k fun _ _ => .z)) (by kernel_rfl)
noncomputable def q_r03_Number (k : Nat) : PF Tryz.prog Gl := ⟨79, F_r03_Number k, c_r03_Number k⟩
noncomputable def F_r03_Read (k : Nat) : FnF := ⟨[(.pair (.sl .str) (.pair (.sl (.pair (.int .i32) (.pair (.int .u32) (.pair (.int .u32) .unit)))) .unit)), .str, (.int .i64)], [(.sl (.int .i32)), (.int .i64)], [], fun x => r03_Read k (x.1) (x.2.1) (x.2.2)⟩
theorem c_r03_Read (k : Nat) : Contract Tryz.prog Gl 56 (F_r03_Read k).toC := mkC zbr Tryz.func56 (by kernel_rfl) rfl Tryz.ntmps56 (F_r03_Read k) (by kernel_rfl) [zfp k, q_r03_Number k] (fun x => .sk 6 (.lp [.sl 9 (.int .i64), .rw 8 21 (.int .i32)] (sB [1, 2, 3, 8, 9] [3] [8]) (fun n => Un2 (r03_Read_l1 k (x.2.1) (x.1) (x.2.2) n)) k fun _ _ => .sk 2 (.t (.sk 5 (.pg 2 .z))))) (by kernel_rfl)
noncomputable def q_r03_Read (k : Nat) : PF Tryz.prog Gl := ⟨56, F_r03_Read k, c_r03_Read k⟩
noncomputable def F_r03_Letters (k : Nat) : FnF := ⟨[(.pair (.sl .str) (.pair (.sl (.pair (.int .i32) (.pair (.int .u32) (.pair (.int .u32) .unit)))) .unit)), .str], [(.sl (.int .i32)), (.int .i64)], [], fun x => zef k (x.1) (x.2)⟩
theorem c_r03_Letters (k : Nat) : Contract Tryz.prog Gl 44 (F_r03_Letters k).toC := mkC zbr Tryz.func44 (by kernel_rfl) rfl Tryz.ntmps44 (F_r03_Letters k) (by kernel_rfl) [q_r02_Check k, q_r03_Read k] (fun _ => .z) (by kernel_rfl)
noncomputable def q_r03_Letters (k : Nat) : PF Tryz.prog Gl := ⟨44, F_r03_Letters k, c_r03_Letters k⟩
noncomputable def F_r03_Check (k : Nat) : FnF := ⟨[(.pair (.sl .str) (.pair (.sl (.pair (.int .i32) (.pair (.int .u32) (.pair (.int .u32) .unit)))) .unit)), .str], [(.int .i64)], [], fun x => r03_Check k (x.1) (x.2)⟩
theorem c_r03_Check (k : Nat) : Contract Tryz.prog Gl 28 (F_r03_Check k).toC := mkC zbr Tryz.func28 (by kernel_rfl) rfl Tryz.ntmps28 (F_r03_Check k) (by kernel_rfl) [q_r03_Letters k] (fun _ => .z) (by kernel_rfl)
noncomputable def q_r03_Check (k : Nat) : PF Tryz.prog Gl := ⟨28, F_r03_Check k, c_r03_Check k⟩
noncomputable def F_r21_two (k : Nat) : FnF := ⟨[(.pair (.sl .str) (.pair (.sl (.pair (.int .i32) (.pair (.int .u32) (.pair (.int .u32) .unit)))) .unit)), .str, .str], [(.sl (.int .i32)), (.sl (.int .i32)), (.int .i64)], [], fun x => r21_two k (x.1) (x.2.1) (x.2.2)⟩
theorem c_r21_two (k : Nat) : Contract Tryz.prog Gl 45 (F_r21_two k).toC := mkC zbr Tryz.func45 (by kernel_rfl) rfl Tryz.ntmps45 (F_r21_two k) (by kernel_rfl) [q_r03_Letters k] (fun _ => .z) (by kernel_rfl)
noncomputable def q_r21_two (k : Nat) : PF Tryz.prog Gl := ⟨45, F_r21_two k, c_r21_two k⟩
noncomputable def F_r02_Find (k : Nat) : FnF := ⟨[(.pair (.sl .str) (.pair (.sl (.pair (.int .i32) (.pair (.int .u32) (.pair (.int .u32) .unit)))) .unit)), (.int .i32)], [(.int .i64)], [], fun x => r02_Find k (x.1) (x.2)⟩
theorem c_r02_Find (k : Nat) : Contract Tryz.prog Gl 31 (F_r02_Find k).toC := mkC zbr Tryz.func31 (by kernel_rfl) rfl Tryz.ntmps31 (F_r02_Find k) (by kernel_rfl) [] (fun x => .sk 3 (.lp [.sl 5 (.int .i64)] (sB [1, 2, 5] [2] []) (r02_Find_l1 (x.1) (x.2)) k fun _ _ => .z)) (by kernel_rfl)
noncomputable def q_r02_Find (k : Nat) : PF Tryz.prog Gl := ⟨31, F_r02_Find k, c_r02_Find k⟩
noncomputable def F_r02_asked (k : Nat) : FnF := ⟨[(.pair (.sl .str) (.pair (.sl (.pair (.int .i32) (.pair (.int .u32) (.pair (.int .u32) .unit)))) .unit)), (.sl (.int .i32))], [(.int .i64)], [], fun x => r02_asked k (x.1) (x.2)⟩
theorem c_r02_asked (k : Nat) : Contract Tryz.prog Gl 93 (F_r02_asked k).toC := mkC zbr Tryz.func93 (by kernel_rfl) rfl Tryz.ntmps93 (F_r02_asked k) (by kernel_rfl) [q_r02_Check k, q_r02_Find k] (fun x => .sk 4 (.f (.sk 2 (.lp [.sl 5 (.int .i64)] (sB [1, 2, 5] [2] []) (zeg k (x.2) (x.1)) k fun _ _ => .z)))) (by kernel_rfl)
noncomputable def q_r02_asked (k : Nat) : PF Tryz.prog Gl := ⟨93, F_r02_asked k, c_r02_asked k⟩
noncomputable def F_r02_unlike (k : Nat) : FnF := ⟨[(.pair (.int .i32) (.pair (.int .u32) (.pair (.int .u32) .unit))), (.pair (.int .i32) (.pair (.int .u32) (.pair (.int .u32) .unit)))], [(.int .i64)], [], fun x => r02_unlike k (x.1) (x.2)⟩
theorem c_r02_unlike (k : Nat) : Contract Tryz.prog Gl 94 (F_r02_unlike k).toC := mkC zbr Tryz.func94 (by kernel_rfl) rfl Tryz.ntmps94 (F_r02_unlike k) (by kernel_rfl) [] (fun x => .sk 4 (.lp [.sl 5 (.int .i64), .sl 6 (.int .u32)] (sB [2, 3, 5, 6] [2, 3] []) (fun n => Un2 (r02_unlike_l1 (x.1) (x.2) n)) k fun g'1 y'1 => .sk 2 (.t (.j [.sl 5 (.int .i64)] (sB [2, 3, 5, 6] [2, 3] []) (r02_unlike_j1 (Cn2 g'1) (y'1.2)) (.sk 1 (.pg 9 .z)) (fun _ => .z))))) (by kernel_rfl)
noncomputable def q_r02_unlike (k : Nat) : PF Tryz.prog Gl := ⟨94, F_r02_unlike k, c_r02_unlike k⟩
noncomputable def F_r02_Far (k : Nat) : FnF := ⟨[(.pair (.sl .str) (.pair (.sl (.pair (.int .i32) (.pair (.int .u32) (.pair (.int .u32) .unit)))) .unit)), (.int .i32), (.int .i32)], [(.int .i64), (.int .i64)], [], fun x => r02_Far k (x.1) (x.2.1) (x.2.2)⟩
theorem c_r02_Far (k : Nat) : Contract Tryz.prog Gl 80 (F_r02_Far k).toC := mkC zbr Tryz.func80 (by kernel_rfl) rfl Tryz.ntmps80 (F_r02_Far k) (by kernel_rfl) [q_r02_asked k, q_r02_Find k, q_r02_unlike k] (fun _ => .z) (by kernel_rfl)
noncomputable def q_r02_Far (k : Nat) : PF Tryz.prog Gl := ⟨80, F_r02_Far k, c_r02_Far k⟩
noncomputable def F_r21_Of (k : Nat) : FnF := ⟨[(.pair (.sl .str) (.pair (.sl (.pair (.int .i32) (.pair (.int .u32) (.pair (.int .u32) .unit)))) .unit)), (.int .i32), (.int .i32)], [(.int .i64)], [], fun x => r21_Of k (x.1) (x.2.1) (x.2.2)⟩
theorem c_r21_Of (k : Nat) : Contract Tryz.prog Gl 57 (F_r21_Of k).toC := mkC zbr Tryz.func57 (by kernel_rfl) rfl Tryz.ntmps57 (F_r21_Of k) (by kernel_rfl) [q_r02_Far k] (fun _ => .sk 3 (.f (.sk 1 (.pg 2 .z)))) (by kernel_rfl)
noncomputable def q_r21_Of (k : Nat) : PF Tryz.prog Gl := ⟨57, F_r21_Of k, c_r21_Of k⟩
noncomputable def F_r21_Table (k : Nat) : FnF := ⟨[(.pair (.sl .str) (.pair (.sl (.pair (.int .i32) (.pair (.int .u32) (.pair (.int .u32) .unit)))) .unit)), (.sl (.int .i32)), (.sl (.int .i32))], [(.sl (.sl (.int .i64))), (.sl (.sl (.int .i64)))], [], fun x => r21_Table k (x.1) (x.2.1) (x.2.2)⟩
theorem c_r21_Table (k : Nat) : Contract Tryz.prog Gl 46 (F_r21_Table k).toC := mkC zbr Tryz.func46 (by kernel_rfl) rfl Tryz.ntmps46 (F_r21_Table k) (by kernel_rfl) [q_r21_Of k] (fun x => .sk 4 (.mk (.sk 1 (.mk (.sk 2 (.lp [.sl 10 (.int .i64), .bx 3 0 (.sl .str), .bx 3 1 (.sl (.pair (.int .i32) (.pair (.int .u32) (.pair (.int .u32) .unit)))), .rr 23 (.sl (.int .i64)), .rr 27 (.sl (.int .i64))] (sB [1, 2, 3, 8, 9, 10] [3, 23, 27] []) (fun n => Un5 (zeq k (x.2.2) (x.2.1) n)) k fun g'1 y'1 => .sk 2 (.t (.sk 8 (.lp [.sl 11 (.int .i64), .bx 3 0 (.sl .str), .bx 3 1 (.sl (.pair (.int .i32) (.pair (.int .u32) (.pair (.int .u32) .unit)))), .rr 23 (.sl (.int .i64)), .rr 27 (.sl (.int .i64))] (sB [1, 2, 3, 8, 9, 10, 11] [3, 23, 27] []) (fun n => Un5 (zep k (y'1.1) (x.2.1) (x.2.2) (Cn5 g'1) n)) k fun g'2 y'2 => .sk 2 (.t (.j [.bx 3 0 (.sl .str), .bx 3 1 (.sl (.pair (.int .i32) (.pair (.int .u32) (.pair (.int .u32) .unit)))), .rr 23 (.sl (.int .i64)), .rr 27 (.sl (.int .i64))] (sB [1, 2, 3, 8, 9, 10, 11] [3, 23, 27] []) (Un4 (r21_Table_j1 (Cn5 g'2) (y'2.1))) (.sk 2 (.pg 4 (.c (.sk 2 (.u 0 (.u 0 .z))) (.sk 4 (.lp [.sl 12 (.int .i64), .sl 13 (.int .i64), .sl 14 (.int .i64)] (sB [1, 2, 3, 8, 9, 10, 11, 12, 13, 14] [3, 23, 27] []) (fun n => Un3 (zeo k (x.2.1) (y'1.1) (x.2.2) (y'2.1) (y'2.2.1) (y'2.2.2.1) (y'2.2.2.2.1) (y'2.2.2.2.2) (Cn5 g'2) n)) k fun g'3 y'3 => .sk 2 (.c (.j [.sl 12 (.int .i64), .sl 13 (.int .i64)] (sB [1, 2, 3, 8, 9, 10, 11, 12, 13, 14] [3, 23, 27] []) (Un2 (zeh (Cn3 g'3) (y'3.2.2))) (.sk 2 (.j [.sl 15 (.int .i64), .sl 17 (.int .i32)] (sB [1, 2, 3, 8, 9, 10, 11, 12, 13, 14, 15, 16, 17, 18] [3, 23, 27] []) (Un2 (zen k (x.2.2) (y'2.1) (Cn3 g'3) (y'3.2.2) (y'3.1) (y'3.2.1) (y'2.2.1) (y'2.2.2.1) (y'2.2.2.2.1) (y'2.2.2.2.2))) (.sk 1 (.pg 4 .z)) (fun z'11 => .j [.sl 16 (.int .i64), .sl 18 (.int .i32)] (sB [1, 2, 3, 8, 9, 10, 11, 12, 13, 14, 15, 16, 17, 18] [3, 23, 27] []) (Un2 (zel k (Cn3 g'3) (y'3.2.2) (y'3.1) (y'3.2.1) (y'2.2.1) (y'2.2.2.1) (z'11.2) (z'11.1) (y'2.2.2.2.1) (y'2.2.2.2.2))) (.sk 1 (.pg 4 .z)) (fun z'10 => .sk 2 (.pg 2 (.gj 6 [.sl 117 .bool] (sB [1, 2, 3, 8, 9, 10, 11, 12, 13, 14, 15, 16, 17, 18, 117] [3, 23, 27] []) (zei k (Cn3 g'3) (y'3.2.2) (y'3.1) (y'3.2.1) (y'2.2.1) (y'2.2.2.1) (z'11.2) (z'10.2) (z'11.1) (y'2.2.2.2.1) (z'10.1) (y'2.2.2.2.2)) .z (.sk 3 (.pg 2 .z)) (fun _ => .f (.sk 2 (.ac [(.int .i64)] fun v1 => .sk 1 (.u 0 (.u 0 (.a (.int .i64) fun x7 => .j [.sl 12 (.int .i64), .sl 13 (.int .i64)] (sB [1, 2, 3, 8, 9, 10, 11, 12, 13, 14, 15, 16, 19] [3, 23, 27] []) (Un2 (r21_Table_j8 v1 x7 (z'11.1) (y'2.2.2.2.2) (z'10.1) (Cn3 g'3) (y'3.2.2))) (.sk 1 (.pg 3 .z)) (fun _ => .sk 1 (.t (.sk 1 (.u 0 (.u 0 .z))))))))))))))))) (fun _ => .z)) (.sk 2 (.u 0 (.u 0 (.sk 2 (.u 0 (.u 0 .z)))))))))))) (fun _ => .z)))))))))))) (by kernel_rfl)
noncomputable def q_r21_Table (k : Nat) : PF Tryz.prog Gl := ⟨46, F_r21_Table k, c_r21_Table k⟩
noncomputable def F_r21_First (k : Nat) : FnF := ⟨[(.pair (.sl .str) (.pair (.sl (.pair (.int .i32) (.pair (.int .u32) (.pair (.int .u32) .unit)))) .unit)), (.sl (.int .i32)), (.sl (.int .i32))], [(.sl (.pair (.int .i32) (.pair (.int .i32) .unit)))], [], fun x => r21_First k (x.1) (x.2.1) (x.2.2)⟩
theorem c_r21_First (k : Nat) : Contract Tryz.prog Gl 47 (F_r21_First k).toC := mkC zbr Tryz.func47 (by kernel_rfl) rfl Tryz.ntmps47 (F_r21_First k) (by kernel_rfl) [q_r21_Table k, q_r21_Of k] (fun x => .sk 3 (.ac [(.sl (.sl (.int .i64))), (.sl (.sl (.int .i64)))] fun v1 => .sk 5 (.lp [.sl 10 (.int .i64), .sl 11 (.int .i64), .rw 9 41 (.pair (.int .i32) (.pair (.int .i32) .unit))] (sB [1, 2, 3, 7, 9, 10, 11] [3] [9]) (fun n => Un3 (zer k v1 (x.2.1) (x.2.2) (x.1) n)) k fun g'1 y'1 => .sk 2 (.pg 4 (.t (.sk 2 (.pg 4 (.g 28 (r21_First_j3 (x.2.1) (y'1.1) (x.2.2) (y'1.2.1) (y'1.2.2) (Cn3 g'1) v1) .z .z (fun _ => .c (.sk 1 (.mx [0, 1, 2, 3, 5, 6, 7] [4, 8, 9] [10, 11, 12] .z)) (.sk 2 (.g 17 (r21_First_j4 (x.2.1) (y'1.1) (y'1.2.2) (Cn3 g'1) (y'1.2.1) (x.2.2)) .z .z (fun _ => .z)))))))))))) (by kernel_rfl)
noncomputable def q_r21_First (k : Nat) : PF Tryz.prog Gl := ⟨47, F_r21_First k, c_r21_First k⟩
noncomputable def F_r21_Words (k : Nat) : FnF := ⟨[(.pair (.sl .str) (.pair (.sl (.pair (.int .i32) (.pair (.int .u32) (.pair (.int .u32) .unit)))) .unit)), .str, .str], [(.int .i64), (.sl (.pair (.int .i32) (.pair (.int .i32) .unit))), (.int .i64)], [], fun x => r21_Words k (x.1) (x.2.1) (x.2.2)⟩
theorem c_r21_Words (k : Nat) : Contract Tryz.prog Gl 29 (F_r21_Words k).toC := mkC zbr Tryz.func29 (by kernel_rfl) rfl Tryz.ntmps29 (F_r21_Words k) (by kernel_rfl) [q_r21_two k, q_r21_Table k, q_r21_First k] (fun _ => .sk 6 (.f (.sk 3 (.hq [0, 1, 2, 3, 4, 5, 6, 7] [8, 9, 10, 11] .z)))) (by kernel_rfl)
noncomputable def q_r21_Words (k : Nat) : PF Tryz.prog Gl := ⟨29, F_r21_Words k, c_r21_Words k⟩
noncomputable def F_r28_aligned (k : Nat) : FnF := ⟨[(.pair (.sl .str) (.pair (.sl (.pair (.int .i32) (.pair (.int .u32) (.pair (.int .u32) .unit)))) .unit)), (.sl (.arr 2 .str))], [(.sl (.sl (.pair (.int .i32) (.pair (.int .i32) .unit)))), (.int .i64)], [], fun x => r28_aligned k (x.1) (x.2)⟩
theorem c_r28_aligned (k : Nat) : Contract Tryz.prog Gl 15 (F_r28_aligned k).toC := mkC zbr Tryz.func15 (by kernel_rfl) rfl Tryz.ntmps15 (F_r28_aligned k) (by kernel_rfl) [q_r02_Check k, q_r03_Check k, q_r21_Words k] (fun x => .sk 6 (.f (.sk 2 (.f (.sk 2 (.lp [.sl 7 (.int .i64), .bx 2 0 (.sl .str), .bx 2 1 (.sl (.pair (.int .i32) (.pair (.int .u32) (.pair (.int .u32) .unit))))] (sB [1, 2, 7] [2] []) (fun n => Un3 (zeu k (x.2) n)) k fun g'1 y'1 => .sk 2 (.c (.sk 2 (.lp [.sl 8 (.int .i64)] (sB [1, 2, 7, 8] [2] []) (zes k (x.2) (y'1.1) (y'1.2.1) (y'1.2.2) (Cn3 g'1)) k fun _ _ => .z)) (.sk 4 (.lp [.sl 10 (.int .i64), .rw 9 49 (.sl (.pair (.int .i32) (.pair (.int .i32) .unit)))] (sB [1, 2, 9, 10] [2] [9]) (fun n => Un2 (zet k (x.2) (y'1.2.1) (y'1.2.2) n)) k fun _ _ => .sk 2 (.t (.sk 2 (.md [1, 2, 3, 4, 6, 7, 8, 9] [0, 5, 10] [11] [12, 13, 14, 15, 16, 17, 18] (.sk 2 (.u 1 .z)))))))))))))) (by kernel_rfl)
noncomputable def q_r28_aligned (k : Nat) : PF Tryz.prog Gl := ⟨15, F_r28_aligned k, c_r28_aligned k⟩
noncomputable def F_r28_place (k : Nat) : FnF := ⟨[(.pair (.sl .str) (.pair (.sl (.pair (.int .i32) (.pair (.int .u32) (.pair (.int .u32) .unit)))) .unit)), (.int .i32)], [(.int .i64)], [], fun x => r28_place k (x.1) (x.2)⟩
theorem c_r28_place (k : Nat) : Contract Tryz.prog Gl 17 (F_r28_place k).toC := mkC zbr Tryz.func17 (by kernel_rfl) rfl Tryz.ntmps17 (F_r28_place k) (by kernel_rfl) [q_r02_Find k] (fun _ => .z) (by kernel_rfl)
noncomputable def q_r28_place (k : Nat) : PF Tryz.prog Gl := ⟨17, F_r28_place k, c_r28_place k⟩
noncomputable def F_r28_before (k : Nat) : FnF := ⟨[(.pair (.sl .str) (.pair (.sl (.pair (.int .i32) (.pair (.int .u32) (.pair (.int .u32) .unit)))) .unit)), (.pair (.pair (.int .i32) (.pair (.int .i32) .unit)) (.pair (.int .i64) .unit)), (.pair (.pair (.int .i32) (.pair (.int .i32) .unit)) (.pair (.int .i64) .unit))], [.bool], [], fun x => r28_before k (x.1) (x.2.1) (x.2.2)⟩
theorem c_r28_before (k : Nat) : Contract Tryz.prog Gl 30 (F_r28_before k).toC := mkC zbr Tryz.func30 (by kernel_rfl) rfl Tryz.ntmps30 (F_r28_before k) (by kernel_rfl) [q_r28_place k] (fun _ => .z) (by kernel_rfl)
noncomputable def q_r28_before (k : Nat) : PF Tryz.prog Gl := ⟨30, F_r28_before k, c_r28_before k⟩
noncomputable def F_r28_counted (k : Nat) : FnF := ⟨[(.pair (.sl .str) (.pair (.sl (.pair (.int .i32) (.pair (.int .u32) (.pair (.int .u32) .unit)))) .unit)), (.sl (.sl (.pair (.int .i32) (.pair (.int .i32) .unit))))], [(.sl (.pair (.pair (.int .i32) (.pair (.int .i32) .unit)) (.pair (.int .i64) .unit)))], [], fun x => r28_counted k (x.1) (x.2)⟩
theorem c_r28_counted (k : Nat) : Contract Tryz.prog Gl 16 (F_r28_counted k).toC := mkC zbr Tryz.func16 (by kernel_rfl) rfl Tryz.ntmps16 (F_r28_counted k) (by kernel_rfl) [q_r28_before k] (fun x => .sk 6 (.lp [.sl 6 (.int .i64), .bx 2 0 (.sl .str), .bx 2 1 (.sl (.pair (.int .i32) (.pair (.int .u32) (.pair (.int .u32) .unit)))), .rw 5 43 (.pair (.pair (.int .i32) (.pair (.int .i32) .unit)) (.pair (.int .i64) .unit))] (sB [1, 2, 5, 6] [2] [5]) (fun n => Un4 (ze2 k (x.2) n)) k fun g'1 y'1 => .sk 2 (.c (.sk 2 (.lp [.sl 7 (.int .i64), .bx 2 0 (.sl .str), .bx 2 1 (.sl (.pair (.int .i32) (.pair (.int .u32) (.pair (.int .u32) .unit)))), .rw 5 43 (.pair (.pair (.int .i32) (.pair (.int .i32) .unit)) (.pair (.int .i64) .unit))] (sB [1, 2, 5, 6, 7] [2] [5]) (fun n => Un4 (zey k (x.2) (y'1.1) (Cn4 g'1) n)) k fun g'2 y'2 => .sk 3 (.t (.sk 3 (.lp [.sl 8 (.int .i64)] (sB [1, 2, 5, 6, 7, 8] [2] [5]) (zex (y'2.2.2.2) (x.2) (y'1.1) (y'2.1) (Cn4 g'2) (y'2.2.1) (y'2.2.2.1)) k fun g'3 y'3 => .sk 3 (.g 13 (zew g'3 y'3 (y'2.2.2.2) (x.2) (y'1.1) (y'2.1) (Cn4 g'2) (y'2.2.1) (y'2.2.2.1)) (.sk 6 (.u 0 .z)) .z (fun _ => .f (.j [.rw 5 43 (.pair (.pair (.int .i32) (.pair (.int .i32) .unit)) (.pair (.int .i64) .unit))] (sB [1, 2, 5, 6, 7, 8] [2] [5]) (zev y'3 (Cn4 g'2) (y'2.1) (y'2.2.1) (y'2.2.2.1)) .z (fun _ => .sk 1 (.u 0 (.u 0 (.u 0 .z)))))))))))) (.sk 2 (.lp [.sl 9 (.int .i64), .bx 2 0 (.sl .str), .bx 2 1 (.sl (.pair (.int .i32) (.pair (.int .u32) (.pair (.int .u32) .unit)))), .rw 5 43 (.pair (.pair (.int .i32) (.pair (.int .i32) .unit)) (.pair (.int .i64) .unit))] (sB [2, 5, 9] [2] [5]) (fun n => Un4 (ze1 k n)) k fun g'4 y'4 => .sk 2 (.t (.sk 2 (.lp [.sl 10 (.int .i64), .rw 5 43 (.pair (.pair (.int .i32) (.pair (.int .i32) .unit)) (.pair (.int .i64) .unit))] (sB [2, 5, 9, 10] [2] [5]) (fun n => Un2 (ze0 k (y'4.2.1) (y'4.2.2.1) (Cn4 g'4) (y'4.1) n)) k fun g'5 y'5 => .sk 3 (.g 11 (zez (y'5.2) (y'5.1) (Cn2 g'5) (Cn4 g'4) (y'4.1) (y'4.2.1) (y'4.2.2.1)) (.sk 6 (.u 0 (.sk 6 (.u 0 .z)))) .z (fun _ => .t (.sk 1 (.mx [0, 1, 2, 3, 4, 5, 6, 7, 8, 10, 11, 12] [9, 13, 14] [15, 16, 17] (.sk 2 (.u 1 (.u 0 (.u 0 (.u 0 (.sk 1 (.u 0 .z))))))))))))))))))) (by kernel_rfl)
noncomputable def q_r28_counted (k : Nat) : PF Tryz.prog Gl := ⟨16, F_r28_counted k, c_r28_counted k⟩
noncomputable def F_r28_Counts (k : Nat) : FnF := ⟨[(.pair (.sl .str) (.pair (.sl (.pair (.int .i32) (.pair (.int .u32) (.pair (.int .u32) .unit)))) .unit)), (.sl (.arr 2 .str))], [(.sl (.pair (.pair (.int .i32) (.pair (.int .i32) .unit)) (.pair (.int .i64) .unit))), (.int .i64)], [], fun x => r28_Counts k (x.1) (x.2)⟩
theorem c_r28_Counts (k : Nat) : Contract Tryz.prog Gl 6 (F_r28_Counts k).toC := mkC zbr Tryz.func6 (by kernel_rfl) rfl Tryz.ntmps6 (F_r28_Counts k) (by kernel_rfl) [q_r28_aligned k, q_r28_counted k] (fun _ => .z) (by kernel_rfl)
noncomputable def q_r28_Counts (k : Nat) : PF Tryz.prog Gl := ⟨6, F_r28_Counts k, c_r28_Counts k⟩
noncomputable def F_corr_Regular (k : Nat) : FnF := ⟨[(.pair (.sl .str) (.pair (.sl (.pair (.int .i32) (.pair (.int .u32) (.pair (.int .u32) .unit)))) .unit)), (.sl (.arr 2 .str))], [.bool, (.int .i64), (.int .i64)], [], fun x => corr_Regular k (x.1) (x.2)⟩
theorem c_corr_Regular (k : Nat) : Contract Tryz.prog Gl 7 (F_corr_Regular k).toC := mkC zbr Tryz.func7 (by kernel_rfl) rfl Tryz.ntmps7 (F_corr_Regular k) (by kernel_rfl) [q_corr_aligned k] (fun _ => .sk 2 (.ac [(.sl (.sl (.pair (.int .i32) (.pair (.int .i32) .unit)))), (.int .i64)] fun v1 => .sk 2 (.f (.sk 3 (.lp [.sl 28 (.int .i64), .mp 25 (.int .i32) (.int .i32)] (sB [9, 26, 27, 28] [25] []) (fun n => Un2 (zd4 k v1 n)) k fun g'1 y'1 => .sk 2 (.t (.sk 2 (.a (.sl (.pair (.int .i32) (.pair (.int .i32) .unit))) fun x1 => .sk 1 (.lp [.sl 35 (.int .i64), .mp 25 (.int .i32) (.int .i32)] (sB [9, 10, 26, 27, 28, 33, 34, 35] [25] []) (fun n => Un2 (zd3 x1 (y'1.1) (Cn2 g'1) n)) k fun g'2 y'2 => .sk 2 (.t (.j [.mp 25 (.int .i32) (.int .i32)] (sB [9, 10, 26, 27, 28, 33, 34, 35] [25] []) (zd2 (Cn2 g'2) (y'2.1)) (.sk 4 (.f (.sk 3 (.pg 4 .z)))) (fun _ => .z)))))))))))) (by kernel_rfl)
noncomputable def q_corr_Regular (k : Nat) : PF Tryz.prog Gl := ⟨7, F_corr_Regular k, c_corr_Regular k⟩
noncomputable def F_r28_Regular (k : Nat) : FnF := ⟨[(.pair (.sl .str) (.pair (.sl (.pair (.int .i32) (.pair (.int .u32) (.pair (.int .u32) .unit)))) .unit)), (.sl (.arr 2 .str))], [.bool, (.int .i64), (.int .i64)], [], fun x => r28_Regular k (x.1) (x.2)⟩
theorem c_r28_Regular (k : Nat) : Contract Tryz.prog Gl 8 (F_r28_Regular k).toC := mkC zbr Tryz.func8 (by kernel_rfl) rfl Tryz.ntmps8 (F_r28_Regular k) (by kernel_rfl) [q_r28_aligned k, q_r28_place k] (fun _ => .sk 2 (.ac [(.sl (.sl (.pair (.int .i32) (.pair (.int .i32) .unit)))), (.int .i64)] fun v1 => .sk 2 (.f (.sk 6 (.lp [.sl 11 (.int .i64), .bx 2 0 (.sl .str), .bx 2 1 (.sl (.pair (.int .i32) (.pair (.int .u32) (.pair (.int .u32) .unit)))), .rw 26 21 (.int .i32), .rw 30 4 .bool] (sB [2, 7, 9, 10, 11] [2] [26, 30]) (fun n => Un5 (ze6 k v1 n)) k fun g'1 y'1 => .sk 2 (.t (.sk 2 (.lp [.sl 12 (.int .i64), .rw 26 21 (.int .i32), .rw 30 4 .bool] (sB [2, 7, 9, 10, 11, 12] [2] [26, 30]) (fun n => Un3 (ze5 k v1 (y'1.1) (y'1.2.1) (y'1.2.2.1) (Cn5 g'1) n)) k fun g'2 y'2 => .sk 3 (.t (.j [.rw 26 21 (.int .i32), .rw 30 4 .bool] (sB [2, 7, 9, 10, 11, 12] [2] [26, 30]) (Un2 (ze3 (Cn3 g'2) (y'2.1))) (.sk 2 (.u 0 (.sk 1 (.ac [(.int .i64)] fun v2 => .sk 2 (.f (.sk 4 (.u 0 (.g 13 (ze4 (y'1.1) (y'2.2.2) v2 v1 (y'2.1) (y'2.2.1) (Cn3 g'2)) (.sk 5 (.u 0 (.sk 3 (.u 3 (.sk 3 (.u 2 .z)))))) .z (fun _ => .f (.sk 2 (.u 0 (.sk 3 (.u 0 .z))))))))))))) (fun _ => .z))))))))))) (by kernel_rfl)
noncomputable def q_r28_Regular (k : Nat) : PF Tryz.prog Gl := ⟨8, F_r28_Regular k, c_r28_Regular k⟩
noncomputable def F_corr_counted (k : Nat) : FnF := ⟨[(.pair (.sl .str) (.pair (.sl (.pair (.int .i32) (.pair (.int .u32) (.pair (.int .u32) .unit)))) .unit)), (.sl (.sl (.pair (.int .i32) (.pair (.int .i32) .unit))))], [(.sl (.pair (.pair (.int .i32) (.pair (.int .i32) .unit)) (.pair (.int .i64) .unit)))], [], fun x => zd1 k (x.1) (x.2)⟩
theorem c_corr_counted (k : Nat) : Contract Tryz.prog Gl 14 (F_corr_counted k).toC := mkC zbr Tryz.func14 (by kernel_rfl) rfl Tryz.ntmps14 (F_corr_counted k) (by kernel_rfl) [] (fun x => .sk 5 (.lp [.sl 19 (.int .i64), .bx 2 0 (.sl .str), .bx 2 1 (.sl (.pair (.int .i32) (.pair (.int .u32) (.pair (.int .u32) .unit)))), .mp 16 (.pair (.int .i32) (.pair (.int .i32) .unit)) (.int .i64)] (sB [2, 5, 17, 18, 19] [2, 5, 16] []) (fun n => Un4 (zd0 k (x.2) n)) k fun g'1 y'1 => .sk 2 (.c (.sk 2 (.a (.sl (.pair (.int .i32) (.pair (.int .i32) .unit))) fun x1 => .sk 1 (.lp [.sl 25 (.int .i64), .mp 16 (.pair (.int .i32) (.pair (.int .i32) .unit)) (.int .i64)] (sB [2, 5, 17, 18, 19, 23, 24, 25] [2, 5, 16] []) (fun n => Un2 (zdx x1 (Cn4 g'1) (y'1.1) (y'1.2.1) (y'1.2.2.1) n)) k fun _ _ => .sk 2 (.t (.sk 3 (.ct [] [0, 1] 2 3 4 5 6 .z)))))) (.sk 3 (.lp [.sl 41 (.int .i64), .mp 37 (.int .i32) (.int .i64)] (sB [5, 10, 39, 40, 41] [5, 10, 16, 37] []) (fun n => Un2 (zdz k (y'1.2.2.1) (y'1.2.2.2) n)) k fun _ _ => .sk 2 (.f (.sk 4 (.cb (zgg k) [(16, 4)] [(1, 53), (4, 16)] (fun _ => .cb (pb_sortedPairs k) [(53, 12), (16, 13), (5, 14), (10, 15), (37, 16)] [(12, 53), (13, 16), (14, 5), (15, 10), (16, 37), (17, 55)] (fun v2 => .lp [.sl 57 (.int .i64), .rw 13 43 (.pair (.pair (.int .i32) (.pair (.int .i32) .unit)) (.pair (.int .i64) .unit))] (sB [5, 13, 55, 56, 57] [5, 16] [13, 55]) (fun n => Un2 (zdy v2 (y'1.2.2.2) n)) k fun _ _ => .sk 2 (.t (.sk 3 (.u 0 (.mx [0] [1, 2, 3, 4, 5] [6, 7, 8] .z)))))))))))))) (by kernel_rfl)
noncomputable def q_corr_counted (k : Nat) : PF Tryz.prog Gl := ⟨14, F_corr_counted k, c_corr_counted k⟩
noncomputable def F_corr_Odd_c1 (k : Nat) : FnF := ⟨[(.pair (.int .i32) (.pair (.int .i32) .unit)), (.ptr (.map (.int .i32) (.int .i32)))], [.bool], [(.map (.int .i32) (.int .i32))], fun x => corr_Odd_c1 k (x.1) (x.2)⟩
theorem c_corr_Odd_c1 (k : Nat) : Contract Tryz.prog Gl 19 (F_corr_Odd_c1 k).toC := mkC zbr Tryz.func19 (by kernel_rfl) rfl Tryz.ntmps19 (F_corr_Odd_c1 k) (by kernel_rfl) [] (fun _ => .sk 2 (.pg 7 .z)) (by kernel_rfl)
noncomputable def q_corr_Odd_c1 (k : Nat) : PF Tryz.prog Gl := ⟨19, F_corr_Odd_c1 k, c_corr_Odd_c1 k⟩
noncomputable def zgh (k : Nat) : FnF := ⟨[(.sl (.pair (.int .i32) (.pair (.int .i32) .unit))), (.fn 19 (.pair (.ptr (.map (.int .i32) (.int .i32))) .unit))], [(.int .i64)], [], fun x => zd7 k (x.1) (x.2)⟩
theorem zgi (k : Nat) : Contract Tryz.prog Gl 32 (zgh k).toC := mkC zbr Tryz.func32 (by kernel_rfl) rfl Tryz.ntmps32 (zgh k) (by kernel_rfl) [q_corr_Odd_c1 k] (fun x => .sk 3 (.lp [.sl 8 (.int .i64)] (sB [0, 1, 7, 8] [] []) (zd6 k (x.1) (x.2)) k fun _ _ => .z)) (by kernel_rfl)
noncomputable def zgj (k : Nat) : PF Tryz.prog Gl := ⟨32, zgh k, zgi k⟩
noncomputable def zgk (k : Nat) : FnF := ⟨[(.sl (.pair (.int .i32) (.pair (.int .i32) .unit))), (.fn 19 (.pair (.ptr (.map (.int .i32) (.int .i32))) .unit))], [.bool], [], fun x => zd8 k (x.1) (x.2)⟩
theorem zgl (k : Nat) : Contract Tryz.prog Gl 18 (zgk k).toC := mkC zbr Tryz.func18 (by kernel_rfl) rfl Tryz.ntmps18 (zgk k) (by kernel_rfl) [q_corr_Odd_c1 k, zgj k] (fun _ => .z) (by kernel_rfl)
noncomputable def zgm (k : Nat) : PF Tryz.prog Gl := ⟨18, zgk k, zgl k⟩
noncomputable def B_corr_Odd_i1 (k : Nat) : FnB ((List (List UInt8) × List ((Int × Int × Int × Unit)) × Unit) × List (List (List UInt8))) (Int × List (Int)) where
 n := 68
 S := fun z => ⟨[(0, .val (.pair (.sl .str) (.pair (.sl (.pair (.int .i32) (.pair (.int .u32) (.pair (.int .u32) .unit)))) .unit)) (z.1)), (1, .val (.sl (.arr 2 .str)) (z.2))], [], []⟩
 S' := fun z y => ⟨[], [], [(3500001, ⟨3, (.int .i64), (y.2)⟩)]⟩
 rs := fun z y => [.row 3500001, I64 (y.1)]
 rel := fun z y => zfb k (z.1) (z.2) = some y
noncomputable def E_corr_Odd_i1 (k : Nat) : Env := envOf Tryz.prog Gl 68 [q_corr_aligned k, q_corr_counted k, q_corr_Odd_c1 k, zgm k]
theorem b_corr_Odd_i1 (k : Nat) : BC Tryz.prog Gl 9 (B_corr_Odd_i1 k) := by
 refine bc_of (fn := Tryz.f9) Tryz.func9 (by kernel_rfl) rfl Tryz.ntmps9 ?_
 rintro cx hP hn hG ⟨a1, l1⟩ y0 h
 have hE : EnvOK (E_corr_Odd_i1 k) cx := envOf_ok hP hn hG
 replace h : zfb k a1 l1 = some y0 := h
 unfold zfb at h
 refine W_seq (zbn (WL_allC hE [1, 2] [2] [] (orc := []) (by kernel_rfl) .n (N_then (W_seq (zbn ?_)))))
 obtain ⟨v1, e1, h⟩ := bind_some h
 refine WL_allC hE [2, 6, 7] [2] [] (orc := [⟨(.sl (.sl (.pair (.int .i32) (.pair (.int .i32) .unit)))), v1.1⟩, tI64 v1.2]) (by kernel_rfl) (.c e1 .n) (N_then (W_seq (W_seq (zbn (WL_allC hE [2, 6, 7, 23] [2] [] (orc := []) (by kernel_rfl) .n (N_then (W_cond (b := v1.2 != (0 : Int)) (by kernel_rfl) (fun e2 => ?_) (fun e2 => ?_))))))))
 ·replace h := ite_t e2 h
  refine W_seq (zbn (WL_allI hE (st' := ⟨[(4, .row 4), (5, I64 v1.2)], [], [(4, ⟨3, (.int .i64), ([] : List (Int))⟩)]⟩) (orc := []) (by kernel_rfl) .n (N_then (W_ret (N_then_ret ?_)))))
  replace h := Option.some.inj h
  subst h
  exact N_renC [4, 5] [] [4] [(4, 3500001)] (by kernel_rfl) (N_endB hE.P [] [3500001] (.inl rfl) (by kernel_rfl) (by kernel_rfl))
 ·replace h := ite_f e2 h
  refine W_skip (N_then (W_seq (zbn (WL_allC hE [2, 6, 8] [2, 8, 25] [] (orc := []) (by kernel_rfl) .n (N_then (W_seq (W_seq (zbn ?_))))))))
  obtain ⟨v2, e3, h⟩ := bind_some h
  refine WL_allI hE (orc := [⟨(.sl (.pair (.pair (.int .i32) (.pair (.int .i32) .unit)) (.pair (.int .i64) .unit))), v2⟩]) (by kernel_rfl) (.c e3 .n) (N_then (W_block (W_loop (α := (Int × List (Int × Int))) (fun n z => zfa k v2 v1 n z.1 z.2 = some y0) (fun z => ⟨[(6, .val (.sl (.sl (.pair (.int .i32) (.pair (.int .i32) .unit)))) v1.1), (8, .ptr 8 0), (28, .val (.sl (.pair (.pair (.int .i32) (.pair (.int .i32) .unit)) (.pair (.int .i64) .unit))) v2), (29, I64 (List.length v2 : Int)), (30, I64 (z.1))], [(8, .cells [.iter 25] 48), (25, .mp (.int .i32) (.int .i32) (z.2))], []⟩) ?_ (k := k) (x := ((0 : Int), ([] : List (Int × Int)))) h)))
  clear h
  rintro fuel1 ⟨t2, m1⟩ h
  cases fuel1 with
  | zero => exact absurd (show none = some _ from h) (by simp)
  | succ fuel1 =>
   have h : corr_Odd_i1_b1 k v2 v1 (zfa k v2 v1 fuel1) t2 m1 = some y0 := h
   unfold corr_Odd_i1_b1 at h
   refine W_seq (zbn (WL_allC hE [6, 8, 28, 29, 30, 31] [8, 25] [] (orc := []) (by kernel_rfl) .n (N_then (W_seq (W_cond (b := decide (t2 < (List.length v2 : Int))) (by kernel_rfl) (fun e4 => ?_) (fun e4 => ?_))))))
   ·replace h := ite_t e4 h
    refine W_skip (N_then (W_join (α := List (Int × Int)) (fun z => ze7 (zfa k v2 v1 fuel1) t2 z = some y0) (fun m2 => ⟨[(6, .val (.sl (.sl (.pair (.int .i32) (.pair (.int .i32) .unit)))) v1.1), (8, .ptr 8 0), (28, .val (.sl (.pair (.pair (.int .i32) (.pair (.int .i32) .unit)) (.pair (.int .i64) .unit))) v2), (29, I64 (List.length v2 : Int)), (30, I64 t2)], [(8, .cells [.iter 25] 48), (25, .mp (.int .i32) (.int .i32) m2)], []⟩) ?_ (fun hJ1 => ?_)))
    ·rintro m2 h
     unfold ze7 at h
     exact zbn (WL_allI hE (orc := []) (by kernel_rfl) .n (N_round (wi64 (t2 + (1 : Int)), m2) (Nat.lt_succ_self _) h))
    refine W_block (W_seq (zbn ?_))
    obtain ⟨x1, e5, h⟩ := bind_some h
    refine WL_allC hE [6, 8, 10, 28, 29, 30] [8, 10, 25] [] (orc := [⟨(.pair (.pair (.int .i32) (.pair (.int .i32) .unit)) (.pair (.int .i64) .unit)), x1⟩]) (by kernel_rfl) (.c e5 .n) (N_then (W_seq (zbn (WL_allC hE [6, 8, 10, 12, 28, 29, 30] [8, 10, 25] [] (orc := []) (by kernel_rfl) .n (N_then (W_seq (zbn (WL_allC hE [6, 8, 10, 28, 29, 30, 43] [8, 10, 25] [] (orc := []) (by kernel_rfl) .n (N_then (W_cond (b := !((mget (eqEl (.int .i32)) m1 x1.1.1).isSome)) (by kernel_rfl) (fun e6 => ?_) (fun e6 => ?_)))))))))))
    ·replace h := ite_t e6 h
     exact zbn (WL_allI hE (orc := []) (by kernel_rfl) .n (N_block (hJ1 (mset (eqEl (.int .i32)) m1 x1.1.1 x1.1.2.1) h)))
    ·replace h := ite_f e6 h
     exact W_skip (N_block (N_normI (by kernel_rfl) (hJ1 m1 h)))
   ·replace h := ite_f e4 h
    refine W_exit (zbm (zbm (N_block_exit (N_then (W_seq (zbn (WL_allI hE (st' := ⟨[(6, .val (.sl (.sl (.pair (.int .i32) (.pair (.int .i32) .unit)))) v1.1), (8, .ptr 8 0), (13, .row 13)], [(8, .cells [.iter 25] 48), (25, .mp (.int .i32) (.int .i32) m1)], [(13, ⟨3, (.int .i64), ([] : List (Int))⟩)]⟩) (orc := []) (by kernel_rfl) .n (N_then (W_seq (W_seq (zbn (WL_allI hE (orc := []) (by kernel_rfl) .n (N_then (W_block (W_loop (α := (Int × List (Int))) (fun n z => ze9 k v1 m1 n z.1 z.2 = some y0) (fun z => ⟨[(8, .ptr 8 0), (13, .row 13), (52, .val (.sl (.sl (.pair (.int .i32) (.pair (.int .i32) .unit)))) v1.1), (53, I64 (List.length v1.1 : Int)), (54, I64 (z.1))], [(8, .cells [.iter 25] 48), (25, .mp (.int .i32) (.int .i32) m1)], [(13, ⟨3, (.int .i64), (z.2)⟩)]⟩) ?_ (k := k) (x := ((0 : Int), ([] : List (Int)))) h)))))))))))))))
    clear h
    rintro fuel2 ⟨t3, out1⟩ h
    cases fuel2 with
    | zero => exact absurd (show none = some _ from h) (by simp)
    | succ fuel2 =>
     have h : corr_Odd_i1_b2 k v1 m1 (ze9 k v1 m1 fuel2) t3 out1 = some y0 := h
     unfold corr_Odd_i1_b2 at h
     refine W_seq (zbn (WL_allC hE [8, 13, 52, 53, 54, 55] [8, 25] [13] (orc := []) (by kernel_rfl) .n (N_then (W_seq (W_cond (b := decide (t3 < (List.length v1.1 : Int))) (by kernel_rfl) (fun e7 => ?_) (fun e7 => ?_))))))
     ·replace h := ite_t e7 h
      refine W_skip (N_then (W_join (α := List (Int)) (fun z => ze8 (ze9 k v1 m1 fuel2) t3 z = some y0) (fun out2 => ⟨[(8, .ptr 8 0), (13, .row 13), (52, .val (.sl (.sl (.pair (.int .i32) (.pair (.int .i32) .unit)))) v1.1), (53, I64 (List.length v1.1 : Int)), (54, I64 t3)], [(8, .cells [.iter 25] 48), (25, .mp (.int .i32) (.int .i32) m1)], [(13, ⟨3, (.int .i64), out2⟩)]⟩) ?_ (fun hJ2 => ?_)))
      ·rintro out2 h
       unfold ze8 at h
       exact zbn (WL_allI hE (orc := []) (by kernel_rfl) .n (N_round (wi64 (t3 + (1 : Int)), out2) (Nat.lt_succ_self _) h))
      refine W_block (W_seq (zbn ?_))
      obtain ⟨x2, e8, h⟩ := bind_some h
      refine WL_allC hE [8, 13, 14, 15, 52, 53, 54] [8, 25] [13] (orc := [⟨(.sl (.pair (.int .i32) (.pair (.int .i32) .unit))), x2⟩]) (by kernel_rfl) (.c e8 .n) (N_then (W_seq (zbn ?_)))
      obtain ⟨v3, e9, h⟩ := bind_some h
      refine WL_allC hE [8, 13, 14, 52, 53, 54, 61] [8, 25] [13] (orc := [tB v3]) (by kernel_rfl) (.c e9 .n) (N_then (W_cond (b := v3) (by kernel_rfl) (fun e10 => ?_) (fun e10 => ?_)))
      ·replace h := ite_t e10 h
       refine zbn ?_
       obtain ⟨_, e11, h⟩ := bind_some h
       replace e11 := zbp e11
       exact WL_allI hE (orc := []) (by kernel_rfl) (.c e11 .n) (N_block (hJ2 (out1 ++ ([t3] : List (Int))) h))
      ·replace h := ite_f e10 h
       exact W_skip (N_block (N_normI (by kernel_rfl) (hJ2 out1 h)))
     ·replace h := ite_f e7 h
      refine W_exit (zbm (zbm (N_block_exit (N_then (W_seq (zbn (WL_allC hE [4, 5] [] [13] (orc := []) (by kernel_rfl) .n (N_then (W_ret ?_)))))))))
      replace h := Option.some.inj h
      subst h
      exact N_renC [4, 5] [] [13] [(13, 3500001)] (by kernel_rfl) (N_endB hE.P [] [3500001] (.inl rfl) (by kernel_rfl) (by kernel_rfl))
noncomputable def pb_corr_Odd_i1 (k : Nat) : PB Tryz.prog Gl ((List (List UInt8) × List ((Int × Int × Int × Unit)) × Unit) × List (List (List UInt8))) (Int × List (Int)) := ⟨9, B_corr_Odd_i1 k, fun st => getH st [.sl 0 (.pair (.sl .str) (.pair (.sl (.pair (.int .i32) (.pair (.int .u32) (.pair (.int .u32) .unit)))) .unit)), .sl 1 (.sl (.arr 2 .str))], fun z => zfb k (z.1) (z.2), (b_corr_Odd_i1 k), fun _ _ h => h⟩
noncomputable def F_r28_usual (k : Nat) : FnF := ⟨[(.pair (.sl .str) (.pair (.sl (.pair (.int .i32) (.pair (.int .u32) (.pair (.int .u32) .unit)))) .unit)), (.sl (.pair (.pair (.int .i32) (.pair (.int .i32) .unit)) (.pair (.int .i64) .unit))), (.int .i32)], [(.int .i32)], [], fun x => r28_usual k (x.1) (x.2.1) (x.2.2)⟩
theorem c_r28_usual (k : Nat) : Contract Tryz.prog Gl 20 (F_r28_usual k).toC := mkC zbr Tryz.func20 (by kernel_rfl) rfl Tryz.ntmps20 (F_r28_usual k) (by kernel_rfl) [q_r28_before k] (fun x => .sk 4 (.lp [.sl 8 (.int .i64), .bx 7 0 (.int .i32), .bx 7 1 (.int .i32), .bx 7 2 (.int .i64)] (sB [1, 2, 3, 7, 8] [3, 7] []) (fun n => Un4 (r28_usual_l1 k (x.2.1) (x.2.2) (x.1) n)) k fun g'1 y'1 => .sk 2 (.t (.j [.bx 7 0 (.int .i32), .bx 7 1 (.int .i32), .bx 7 2 (.int .i64)] (sB [1, 2, 3, 7, 8] [3, 7] []) (Un3 (r28_usual_j1 (Cn4 g'1) (y'1.1))) (.sk 3 (.gj 12 [.sl 37 .bool] (sB [1, 2, 3, 7, 8, 37] [3, 7] []) (r28_usual_j2 (x.2.1) (y'1.1) (Cn4 g'1) (y'1.2.1) (y'1.2.2.1) (y'1.2.2.2)) (.sk 4 (.g 7 (r28_usual_j3 (x.2.1) (y'1.1) (Cn4 g'1) (y'1.2.1) (y'1.2.2.1) (y'1.2.2.2)) .z (.sk 4 (.u 0 .z)) (fun _ => .z))) .z (fun _ => .z))) (fun _ => .z))))) (by kernel_rfl)
noncomputable def q_r28_usual (k : Nat) : PF Tryz.prog Gl := ⟨20, F_r28_usual k, c_r28_usual k⟩
noncomputable def F_r28_Odd (k : Nat) : FnF := ⟨[(.pair (.sl .str) (.pair (.sl (.pair (.int .i32) (.pair (.int .u32) (.pair (.int .u32) .unit)))) .unit)), (.sl (.arr 2 .str))], [(.sl (.int .i64)), (.int .i64)], [], fun x => r28_Odd k (x.1) (x.2)⟩
theorem c_r28_Odd (k : Nat) : Contract Tryz.prog Gl 10 (F_r28_Odd k).toC := mkC zbr Tryz.func10 (by kernel_rfl) rfl Tryz.ntmps10 (F_r28_Odd k) (by kernel_rfl) [q_r28_aligned k, q_r28_counted k, q_r28_usual k] (fun _ => .sk 3 (.ac [(.sl (.sl (.pair (.int .i32) (.pair (.int .i32) .unit)))), (.int .i64)] fun v1 => .sk 2 (.f (.sk 1 (.ac [(.sl (.pair (.pair (.int .i32) (.pair (.int .i32) .unit)) (.pair (.int .i64) .unit)))] fun v2 => .sk 4 (.lp [.sl 10 (.int .i64), .bx 2 0 (.sl .str), .bx 2 1 (.sl (.pair (.int .i32) (.pair (.int .u32) (.pair (.int .u32) .unit)))), .rw 9 3 (.int .i64)] (sB [2, 6, 8, 9, 10] [2] [9]) (fun n => Un4 (r28_Odd_l1 k v1 v2 n)) k fun g'1 y'1 => .sk 2 (.t (.j [.bx 2 0 (.sl .str), .bx 2 1 (.sl (.pair (.int .i32) (.pair (.int .u32) (.pair (.int .u32) .unit)))), .rw 9 3 (.int .i64)] (sB [2, 6, 8, 9, 10] [2] [9]) (Un3 (r28_Odd_j1 (Cn4 g'1) (y'1.1))) (.sk 3 (.lp [.sl 11 .bool, .sl 12 (.int .i64)] (sB [2, 6, 8, 9, 10, 11, 12] [2] [9]) (fun n => Un2 (r28_Odd_l2 k v1 (y'1.1) (y'1.2.1) (y'1.2.2.1) v2 (y'1.2.2.2) (Cn4 g'1) n)) k fun g'2 y'2 => .sk 3 (.t (.sk 2 (.u 0 (.sk 2 (.gj 13 [.sl 63 .bool] (sB [2, 6, 8, 9, 10, 12, 63] [2] [9]) (r28_Odd_j2 (Cn2 g'2) (y'2.2)) .z (.sk 4 (.g 8 (r28_Odd_j3 (Cn2 g'2) (y'2.2)) .z .z (fun _ => .z))) (fun _ => .z)))))))) (fun _ => .z))))))))) (by kernel_rfl)
noncomputable def q_r28_Odd (k : Nat) : PF Tryz.prog Gl := ⟨10, F_r28_Odd k, c_r28_Odd k⟩
noncomputable def B_r28_Same_i1 (k : Nat) : FnB (List (((Int × Int × Unit) × Int × Unit)) × List (((Int × Int × Unit) × Int × Unit))) Bool where
 n := 26
 S := fun z => ⟨[(0, .row 10000000), (1, .val (.sl (.pair (.pair (.int .i32) (.pair (.int .i32) .unit)) (.pair (.int .i64) .unit))) (z.1))], [], [(10000000, ⟨43, (.pair (.pair (.int .i32) (.pair (.int .i32) .unit)) (.pair (.int .i64) .unit)), (z.2)⟩)]⟩
 S' := fun z y => ⟨[], [], [(10000000, ⟨43, (.pair (.pair (.int .i32) (.pair (.int .i32) .unit)) (.pair (.int .i64) .unit)), (z.2)⟩)]⟩
 rs := fun z y => [BB (y)]
 rel := fun z y => zfd k (z.1) (z.2) = some y
theorem b_r28_Same_i1 (k : Nat) : BC Tryz.prog Gl 11 (B_r28_Same_i1 k) := mkB Tryz.func11 (by kernel_rfl) rfl (B_r28_Same_i1 k) Tryz.ntmps11 [] (fun z => zfd k (z.1) (z.2)) (fun _ _ h => h) (fun st => getH st [.sl 0 .bool]) [] [10000000] (fun z => .sk 3 (.f (.sk 2 (.lp [.sl 5 (.int .i64)] (sB [0, 1, 5] [] [10000000]) (zfc (z.2) (z.1)) k fun _ _ => .sk 2 (.t (.sk 4 (.u 0 .z))))))) (by kernel_rfl)
noncomputable def pb_r28_Same_i1 (k : Nat) : PB Tryz.prog Gl (List (((Int × Int × Unit) × Int × Unit)) × List (((Int × Int × Unit) × Int × Unit))) Bool := ⟨11, B_r28_Same_i1 k, fun st => getH st [.sl 1 (.sl (.pair (.pair (.int .i32) (.pair (.int .i32) .unit)) (.pair (.int .i64) .unit))), .rw 10000000 43 (.pair (.pair (.int .i32) (.pair (.int .i32) .unit)) (.pair (.int .i64) .unit))], fun z => zfd k (z.1) (z.2), (b_r28_Same_i1 k), fun _ _ h => h⟩
noncomputable def B_r03_SameInts_i1 (k : Nat) : FnB (List (Int) × List (Int)) Bool where
 n := 26
 S := fun z => ⟨[(0, .row 10000000), (1, .val (.sl (.int .i64)) (z.1))], [], [(10000000, ⟨3, (.int .i64), (z.2)⟩)]⟩
 S' := fun z y => ⟨[], [], [(10000000, ⟨3, (.int .i64), (z.2)⟩)]⟩
 rs := fun z y => [BB (y)]
 rel := fun z y => zff k (z.1) (z.2) = some y
theorem b_r03_SameInts_i1 (k : Nat) : BC Tryz.prog Gl 12 (B_r03_SameInts_i1 k) := mkB Tryz.func12 (by kernel_rfl) rfl (B_r03_SameInts_i1 k) Tryz.ntmps12 [] (fun z => zff k (z.1) (z.2)) (fun _ _ h => h) (fun st => getH st [.sl 0 .bool]) [] [10000000] (fun z => .sk 3 (.f (.sk 2 (.lp [.sl 5 (.int .i64)] (sB [0, 1, 5] [] [10000000]) (zfe (z.2) (z.1)) k fun _ _ => .sk 2 (.t (.sk 4 (.u 0 .z))))))) (by kernel_rfl)
noncomputable def pb_r03_SameInts_i1 (k : Nat) : PB Tryz.prog Gl (List (Int) × List (Int)) Bool := ⟨12, B_r03_SameInts_i1 k, fun st => getH st [.sl 1 (.sl (.int .i64)), .rw 10000000 3 (.int .i64)], fun z => zff k (z.1) (z.2), (b_r03_SameInts_i1 k), fun _ _ h => h⟩
noncomputable def F_l28_CorrCounts (k : Nat) : FnF := ⟨[(.pair (.sl .str) (.pair (.sl (.pair (.int .i32) (.pair (.int .u32) (.pair (.int .u32) .unit)))) .unit)), (.sl (.arr 2 .str))], [.bool], [], fun x => zfn k (x.1) (x.2)⟩
theorem c_l28_CorrCounts (k : Nat) : Contract Tryz.prog Gl 3 (F_l28_CorrCounts k).toC := mkC zbr Tryz.func3 (by kernel_rfl) rfl Tryz.ntmps3 (F_l28_CorrCounts k) (by kernel_rfl) [q_l28_long k, q_r28_Counts k, q_corr_Regular k, q_r28_Regular k, q_r28_Odd k] (fun x => .sk 4 (.f (.sk 5 (.fr 5 (.md [1, 2] [0, 3, 4] [5] [6, 7, 8, 9, 10] (.sk 1 (.cb (pb_corr_Counts_i2 k) [] [(3500001, 39)] (fun v2 => .sk 1 (.ac [(.sl (.pair (.pair (.int .i32) (.pair (.int .i32) .unit)) (.pair (.int .i64) .unit))), (.int .i64)] fun v3 => .sk 3 (.ac [.bool, (.int .i64), (.int .i64)] fun v4 => .sk 1 (.ac [.bool, (.int .i64), (.int .i64)] fun v5 => .sk 1 (.md [1, 2] [0, 3, 4] [5] [6, 7, 8, 9, 10] (.sk 1 (.cb (pb_corr_Odd_i1 k) [] [(3500001, 71)] (fun v6 => .sk 1 (.ac [(.sl (.int .i64)), (.int .i64)] fun v7 => .sk 2 (.gj 4 [.sl 88 .bool] (sB [1, 2, 5, 6, 8, 9, 10, 11, 12, 13, 14, 15, 16, 17, 18, 19, 88] [2] [39, 71]) (zfm k (x.2) (x.1) v3 v6 v2 v7 v4 v5) .z (.sk 3 (.cb (pb_r28_Same_i1 k) [(39, 10000000)] [(10000000, 39)] (fun _ => .z))) (fun _ => .pg 3 (.pg 3 (.pg 3 (.pg 3 (.g 4 (zfl k (x.2) (x.1) v3 v6 v2) .z (.sk 3 (.cb (pb_r03_SameInts_i1 k) [(71, 10000000)] [(10000000, 71)] (fun _ => .z))) (fun _ => .f (.sk 2 (.lp [.sl 20 (.int .i64), .rw 39 43 (.pair (.pair (.int .i32) (.pair (.int .i32) .unit)) (.pair (.int .i64) .unit))] (sB [1, 2, 5, 6, 8, 9, 16, 20] [2] [39, 71]) (fun n => Un2 (zfk k (x.2) (x.1) v3 v6 n)) k fun _ _ => .sk 2 (.c (.sk 2 (.u 0 .z)) (.sk 2 (.lp [.sl 21 (.int .i64), .rw 71 3 (.int .i64)] (sB [1, 2, 5, 8, 9, 16, 21] [2] [71]) (fun n => Un2 (zfj k (x.2) (x.1) v3 n)) k fun _ _ => .sk 2 (.c (.sk 2 (.u 0 .z)) (.sk 2 (.lp [.sl 22 (.int .i64)] (sB [1, 2, 5, 8, 9, 22] [2] []) (zfi k (x.2) (x.1) v3) k fun _ _ => .sk 2 (.f (.sk 1 (.md [1, 2] [0, 3, 4] [5] [6, 7, 8, 9, 10] (.sk 1 (.cb (pb_corr_Counts_i2 k) [] [(3500001, 155)] (fun _ => .sk 1 (.g 3 (zfh (x.2)) (.sk 3 (.cb (pb_r28_Same_i1 k) [(155, 10000000)] [(10000000, 155)] (fun _ => .z))) .z (fun _ => .g 7 zfg .z .z (fun _ => .z)))))))))))))))))))))))))))))))))))))))) (by kernel_rfl)
noncomputable def q_l28_CorrCounts (k : Nat) : PF Tryz.prog Gl := ⟨3, F_l28_CorrCounts k, c_l28_CorrCounts k⟩
noncomputable def F_r28_Same (k : Nat) : FnF := ⟨[(.sl (.pair (.pair (.int .i32) (.pair (.int .i32) .unit)) (.pair (.int .i64) .unit))), (.sl (.pair (.pair (.int .i32) (.pair (.int .i32) .unit)) (.pair (.int .i64) .unit)))], [.bool], [], fun x => r28_Same k (x.1) (x.2)⟩
theorem c_r28_Same (k : Nat) : Contract Tryz.prog Gl 11 (F_r28_Same k).toC := mkC zbr Tryz.func11 (by kernel_rfl) rfl Tryz.ntmps11 (F_r28_Same k) (by kernel_rfl) [] (fun x => .sk 3 (.f (.sk 2 (.lp [.sl 5 (.int .i64)] (sB [0, 1, 5] [] []) (r28_Same_l1 (x.1) (x.2)) k fun _ _ => .z)))) (by kernel_rfl)
noncomputable def q_r28_Same (k : Nat) : PF Tryz.prog Gl := ⟨11, F_r28_Same k, c_r28_Same k⟩
end Go.Ev
