/- Contracts, by program. -/
import Derived.Test.YtgkgdfmldioddaaGreatDoorProg
import Derived.Test.YtgkgdfmldioddaaGreatDoorMM6
import Derived.Test.YtgkgdfmldioddaaGreatDoorMM7
import Derived.Test.YtgkgdfmldioddaaGreatDoorMM8
import Derived.KernelRfl
import Derived.Test.YtgkgdfmldioddaaGreatDoorTyA
set_option linter.unusedSectionVars false
set_option linter.unusedVariables false
set_option linter.unusedSimpArgs false
namespace Go.Ev
open Go Go.Proofs
set_option linter.unusedVariables false
set_option maxRecDepth 100000
noncomputable def F_l27_sample (k : Nat) : FnF := ⟨[], [yT1], [], fun _ => l27_sample k⟩
theorem c_l27_sample (k : Nat) : Contract Tryz.prog Gl 28 (F_l27_sample k).toC := mkC zby Tryz.func28 (by kernel_rfl) rfl Tryz.ntmps28 (F_l27_sample k) (by kernel_rfl) [] (fun _ => .z) (by kernel_rfl)
noncomputable def q_l27_sample (k : Nat) : PF Tryz.prog Gl := ⟨28, F_l27_sample k, c_l27_sample k⟩
noncomputable def zhm (k : Nat) : FnF := ⟨[.str, (.int .u8)], [.str], [], fun x => strings_trimRightByte k (x.1) (x.2)⟩
theorem c_strings_trimRightByte (k : Nat) : Contract Tryz.prog Gl 117 (zhm k).toC := mkC zby Tryz.func117 (by kernel_rfl) rfl Tryz.ntmps117 (zhm k) (by kernel_rfl) [] (fun x => .sk 2 (.lp [.sl 0 .str] (sB [0, 1] [] []) (zb4 (x.2)) k fun g'1 y'1 => .sk 2 (.g 7 (zb3 y'1 g'1) .z .z (fun _ => .z)))) (by kernel_rfl)
noncomputable def q_strings_trimRightByte (k : Nat) : PF Tryz.prog Gl := ⟨117, zhm k, c_strings_trimRightByte k⟩
noncomputable def zhn (k : Nat) : FnF := ⟨[.str, (.int .u8)], [.str], [], fun x => strings_trimLeftByte k (x.1) (x.2)⟩
theorem c_strings_trimLeftByte (k : Nat) : Contract Tryz.prog Gl 116 (zhn k).toC := mkC zby Tryz.func116 (by kernel_rfl) rfl Tryz.ntmps116 (zhn k) (by kernel_rfl) [] (fun x => .sk 2 (.lp [.sl 0 .str] (sB [0, 1] [] []) (zb6 (x.2)) k fun g'1 y'1 => .sk 2 (.g 4 (zb5 y'1 g'1) .z .z (fun _ => .z)))) (by kernel_rfl)
noncomputable def q_strings_trimLeftByte (k : Nat) : PF Tryz.prog Gl := ⟨116, zhn k, c_strings_trimLeftByte k⟩
noncomputable def zho (k : Nat) : FnF := ⟨[.str], [(.arr 256 .bool), .bool], [], fun x => zb8 k x⟩
theorem c_strings_makeASCIISet (k : Nat) : Contract Tryz.prog Gl 118 (zho k).toC := mkC zby Tryz.func118 (by kernel_rfl) rfl Tryz.ntmps118 (zho k) (by kernel_rfl) [] (fun x => .sk 3 (.lp [.sl 4 (.int .i64), .bk 2 (.arr 256 .bool)] (sB [0, 2, 4] [2] []) (fun n => Un2 (zb7 x n)) k fun _ _ => .z)) (by kernel_rfl)
noncomputable def q_strings_makeASCIISet (k : Nat) : PF Tryz.prog Gl := ⟨118, zho k, c_strings_makeASCIISet k⟩
noncomputable def zhp (k : Nat) : FnF := ⟨[(.ptr (.arr 256 .bool)), (.int .u8)], [.bool], [], fun x => zb9 k (x.1) (x.2)⟩
theorem c_strings_asciiSet_contains (k : Nat) : Contract Tryz.prog Gl 151 (zhp k).toC := mkC zby Tryz.func151 (by kernel_rfl) rfl Tryz.ntmps151 (zhp k) (by kernel_rfl) [] (fun _ => .z) (by kernel_rfl)
noncomputable def zhq (k : Nat) : PF Tryz.prog Gl := ⟨151, zhp k, c_strings_asciiSet_contains k⟩
noncomputable def zhr (k : Nat) : FnF := ⟨[.str, (.ptr (.arr 256 .bool))], [.str], [], fun x => zcd k (x.1) (x.2)⟩
theorem c_strings_trimRightASCII (k : Nat) : Contract Tryz.prog Gl 120 (zhr k).toC := mkC zby Tryz.func120 (by kernel_rfl) rfl Tryz.ntmps120 (zhr k) (by kernel_rfl) [zhq k] (fun x => .sk 1 (.j [.sl 0 .str] (sB [0] [] []) zca (.lp [.sl 0 .str] (sB [0, 1] [] []) (zcc k (x.2)) k fun _ _ => .z) (fun _ => .z))) (by kernel_rfl)
noncomputable def q_strings_trimRightASCII (k : Nat) : PF Tryz.prog Gl := ⟨120, zhr k, c_strings_trimRightASCII k⟩
noncomputable def zhs (k : Nat) : FnF := ⟨[.str, (.ptr (.arr 256 .bool))], [.str], [], fun x => zch k (x.1) (x.2)⟩
theorem c_strings_trimLeftASCII (k : Nat) : Contract Tryz.prog Gl 119 (zhs k).toC := mkC zby Tryz.func119 (by kernel_rfl) rfl Tryz.ntmps119 (zhs k) (by kernel_rfl) [zhq k] (fun x => .sk 1 (.j [.sl 0 .str] (sB [0] [] []) zce (.lp [.sl 0 .str] (sB [0, 1] [] []) (zcg k (x.2)) k fun _ _ => .z) (fun _ => .z))) (by kernel_rfl)
noncomputable def q_strings_trimLeftASCII (k : Nat) : PF Tryz.prog Gl := ⟨119, zhs k, c_strings_trimLeftASCII k⟩
noncomputable def zht (k : Nat) : FnF := ⟨[.str, .str], [.str], [], fun x => zci k (x.1) (x.2)⟩
theorem c_strings_trimRightUnicode (k : Nat) : Contract Tryz.prog Gl 122 (zht k).toC := mkC0 Tryz.func122 (by kernel_rfl) rfl _ fun _ => rfl
noncomputable def q_strings_trimRightUnicode (k : Nat) : PF Tryz.prog Gl := ⟨122, zht k, c_strings_trimRightUnicode k⟩
noncomputable def zhu (k : Nat) : FnF := ⟨[.str, .str], [.str], [], fun x => strings_trimLeftUnicode k (x.1) (x.2)⟩
theorem c_strings_trimLeftUnicode (k : Nat) : Contract Tryz.prog Gl 121 (zhu k).toC := mkC0 Tryz.func121 (by kernel_rfl) rfl _ fun _ => rfl
noncomputable def q_strings_trimLeftUnicode (k : Nat) : PF Tryz.prog Gl := ⟨121, zhu k, c_strings_trimLeftUnicode k⟩
noncomputable def F_strings_Trim (k : Nat) : FnF := ⟨[.str, .str], [.str], [], fun x => zck k (x.1) (x.2)⟩
theorem c_strings_Trim (k : Nat) : Contract Tryz.prog Gl 88 (F_strings_Trim k).toC := mkC zby Tryz.func88 (by kernel_rfl) rfl Tryz.ntmps88 (F_strings_Trim k) (by kernel_rfl) [q_strings_trimRightByte k, q_strings_trimLeftByte k, q_strings_makeASCIISet k, q_strings_trimRightASCII k, q_strings_trimLeftASCII k, q_strings_trimRightUnicode k, q_strings_trimLeftUnicode k] (fun x => .sk 3 (.pg 2 (.f (.sk 2 (.g 3 (zcj k (x.2) (x.1)) .z .z (fun _ => .z)))))) (by kernel_rfl)
noncomputable def q_strings_Trim (k : Nat) : PF Tryz.prog Gl := ⟨88, F_strings_Trim k, c_strings_Trim k⟩
noncomputable def F_feature_named (k : Nat) : FnF := ⟨[.str], [.bool], [], fun x => zcm k x⟩
theorem c_feature_named (k : Nat) : Contract Tryz.prog Gl 61 (F_feature_named k).toC := mkC zby Tryz.func61 (by kernel_rfl) rfl Tryz.ntmps61 (F_feature_named k) (by kernel_rfl) [q_strings_Trim k] (fun _ => .sk 2 (.pg 3 (.g 3 zcl .z .z (fun _ => .z)))) (by kernel_rfl)
noncomputable def q_feature_named (k : Nat) : PF Tryz.prog Gl := ⟨61, F_feature_named k, c_feature_named k⟩
noncomputable def F_feature_lettered (k : Nat) : FnF := ⟨[(.int .i32)], [.bool], [], fun x => zcr k x⟩
theorem c_feature_lettered (k : Nat) : Contract Tryz.prog Gl 62 (F_feature_lettered k).toC := mkC zby Tryz.func62 (by kernel_rfl) rfl Tryz.ntmps62 (F_feature_lettered k) (by kernel_rfl) [] (fun x => .sk 2 (.j [.sl 3 .bool] (sB [0, 3] [] []) (zco x) (.sk 1 (.pg 2 (.f (.pg 2 .z)))) (fun _ => .f (.j [.sl 16 .bool] (sB [16] [] []) zcn .z (fun _ => .z))))) (by kernel_rfl)
noncomputable def q_feature_lettered (k : Nat) : PF Tryz.prog Gl := ⟨62, F_feature_lettered k, c_feature_lettered k⟩
noncomputable def F_feature_within (k : Nat) : FnF := ⟨[yT33, (.int .u32), (.int .u32)], [.bool], [], fun x => zcs k (x.1) (x.2.1) (x.2.2)⟩
theorem c_feature_within (k : Nat) : Contract Tryz.prog Gl 63 (F_feature_within k).toC := mkC zby Tryz.func63 (by kernel_rfl) rfl Tryz.ntmps63 (F_feature_within k) (by kernel_rfl) [] (fun _ => .sk 2 (.pg 4 .z)) (by kernel_rfl)
noncomputable def zhv (k : Nat) : PF Tryz.prog Gl := ⟨63, F_feature_within k, c_feature_within k⟩
noncomputable def F_feature_Check (k : Nat) : FnF := ⟨[yT33], [(.int .i64)], [], fun x => zcw k x⟩
theorem c_feature_Check (k : Nat) : Contract Tryz.prog Gl 35 (F_feature_Check k).toC := mkC zby Tryz.func35 (by kernel_rfl) rfl Tryz.ntmps35 (F_feature_Check k) (by kernel_rfl) [q_feature_named k, q_feature_lettered k, zhv k] (fun x => .sk 3 (.pg 4 (.pg 4 (.f (.sk 3 (.lp [.sl 29 (.int .i64), .mp 25 .str .bool] (sB [1, 3, 27, 28, 29] [1, 25] []) (fun n => Un2 (zcv k x n)) k fun _ _ => .sk 2 (.c (.sk 6 (.pg 3 .z)) (.sk 3 (.lp [.sl 48 (.int .i64), .mp 44 (.int .i32) .bool] (sB [1, 6, 46, 47, 48] [1, 44] []) (fun n => Un2 (zcu k x n)) k fun g'2 y'2 => .sk 2 (.t (.sk 2 (.a yT40 fun x2 => .sk 3 (.pg 4 (.g 7 (zct (Cn2 g'2) (y'2.1) (y'2.2) x2) .z .z (fun _ => .z))))))))))))))) (by kernel_rfl)
noncomputable def zhw (k : Nat) : PF Tryz.prog Gl := ⟨35, F_feature_Check k, c_feature_Check k⟩
noncomputable def F_family_named_c1 (k : Nat) : FnF := ⟨[(.int .i32)], [.bool], [], fun x => family_named_c1 k x⟩
theorem c_family_named_c1 (k : Nat) : Contract Tryz.prog Gl 90 (F_family_named_c1 k).toC := mkC zby Tryz.func90 (by kernel_rfl) rfl Tryz.ntmps90 (F_family_named_c1 k) (by kernel_rfl) [] (fun x => .sk 2 (.pg 2 (.gj 6 [.sl 16 .bool] (sB [0, 16] [] []) (zcx x) (.sk 3 (.pg 2 .z)) .z (fun _ => .pg 2 .z)))) (by kernel_rfl)
noncomputable def zhx (k : Nat) : PF Tryz.prog Gl := ⟨90, F_family_named_c1 k, c_family_named_c1 k⟩
noncomputable def zhy (k : Nat) : FnF := ⟨[.str, (.fn 90 .unit), .bool], [(.int .i64)], [], fun x => zc0 k (x.1) (x.2.1) (x.2.2)⟩
theorem c_strings_indexFunc_named_c1 (k : Nat) : Contract Tryz.prog Gl 154 (zhy k).toC := mkC zby Tryz.func154 (by kernel_rfl) rfl Tryz.ntmps154 (zhy k) (by kernel_rfl) [zhx k] (fun x => .sk 3 (.lp [.it 10] (sB [1, 2, 10] [10] []) (zcz k (x.1) (x.2.2)) k fun _ _ => .sk 1 (.c (.sk 1 (.T .z)) (.sk 1 (.F .z))))) (by kernel_rfl)
noncomputable def q_strings_indexFunc_named_c1 (k : Nat) : PF Tryz.prog Gl := ⟨154, zhy k, c_strings_indexFunc_named_c1 k⟩
noncomputable def zhz (k : Nat) : FnF := ⟨[.str, (.fn 90 .unit)], [(.int .i64)], [], fun x => zc1 k (x.1) (x.2)⟩
theorem c_strings_IndexFunc_named_c1 (k : Nat) : Contract Tryz.prog Gl 123 (zhz k).toC := mkC zby Tryz.func123 (by kernel_rfl) rfl Tryz.ntmps123 (zhz k) (by kernel_rfl) [zhx k, q_strings_indexFunc_named_c1 k] (fun _ => .z) (by kernel_rfl)
noncomputable def q_strings_IndexFunc_named_c1 (k : Nat) : PF Tryz.prog Gl := ⟨123, zhz k, c_strings_IndexFunc_named_c1 k⟩
noncomputable def zh0 (k : Nat) : FnF := ⟨[.str, (.fn 90 .unit)], [.bool], [], fun x => zc2 k (x.1) (x.2)⟩
theorem c_strings_ContainsFunc_named_c1 (k : Nat) : Contract Tryz.prog Gl 89 (zh0 k).toC := mkC zby Tryz.func89 (by kernel_rfl) rfl Tryz.ntmps89 (zh0 k) (by kernel_rfl) [zhx k, q_strings_IndexFunc_named_c1 k] (fun _ => .z) (by kernel_rfl)
noncomputable def q_strings_ContainsFunc_named_c1 (k : Nat) : PF Tryz.prog Gl := ⟨89, zh0 k, c_strings_ContainsFunc_named_c1 k⟩
noncomputable def F_family_named (k : Nat) : FnF := ⟨[.str], [.bool], [], fun x => family_named k x⟩
theorem c_family_named (k : Nat) : Contract Tryz.prog Gl 64 (F_family_named k).toC := mkC zby Tryz.func64 (by kernel_rfl) rfl Tryz.ntmps64 (F_family_named k) (by kernel_rfl) [zhx k, q_strings_ContainsFunc_named_c1 k] (fun _ => .sk 2 (.pg 3 (.g 3 family_named_j2 .z .z (fun _ => .z)))) (by kernel_rfl)
noncomputable def q_family_named (k : Nat) : PF Tryz.prog Gl := ⟨64, F_family_named k, c_family_named k⟩
noncomputable def F_family_shaped (k : Nat) : FnF := ⟨[yT2], [.bool], [], fun x => zda k x⟩
theorem c_family_shaped (k : Nat) : Contract Tryz.prog Gl 36 (F_family_shaped k).toC := mkC zby Tryz.func36 (by kernel_rfl) rfl Tryz.ntmps36 (F_family_shaped k) (by kernel_rfl) [q_family_named k] (fun x => .sk 3 (.pg 3 (.g 5 (zc8 k x) .z .z (fun _ => .g 6 (zc7 k x) .z .z (fun _ => .f (.sk 3 (.lp [.sl 34 (.int .i64), .mp 31 .str .unit] (sB [3, 32, 33, 34] [31] []) (fun n => Un2 (zc6 k x n)) k fun g'1 y'1 => .sk 2 (.t (.sk 2 (.a yT3 fun x1 => .sk 3 (.g 4 (zc5 (Cn2 g'1) (y'1.1) (y'1.2) x1) .z .z (fun _ => .gj 13 [.sl 67 .bool] (sB [3, 5, 32, 33, 34, 67] [5, 31] []) (zc3 (Cn2 g'1) (y'1.1) (y'1.2) x1) .z (.sk 3 (.gj 9 [.sl 66 .bool] (sB [3, 5, 32, 33, 34, 53, 66] [5, 31] []) (zc4 (Cn2 g'1) (y'1.1) (y'1.2) x1) (.sk 4 (.pg 4 .z)) .z (fun _ => .z))) (fun _ => .z))))))))))))) (by kernel_rfl)
noncomputable def q_family_shaped (k : Nat) : PF Tryz.prog Gl := ⟨36, F_family_shaped k, c_family_shaped k⟩
noncomputable def F_rule_named (k : Nat) : FnF := ⟨[.str], [.bool], [], fun x => rule_named k x⟩
theorem c_rule_named (k : Nat) : Contract Tryz.prog Gl 91 (F_rule_named k).toC := mkC zby Tryz.func91 (by kernel_rfl) rfl Tryz.ntmps91 (F_rule_named k) (by kernel_rfl) [q_strings_Trim k] (fun _ => .sk 2 (.g 3 rule_named_j1 .z .z (fun _ => .z))) (by kernel_rfl)
noncomputable def q_rule_named (k : Nat) : PF Tryz.prog Gl := ⟨91, F_rule_named k, c_rule_named k⟩
noncomputable def F_feature_Of_c1 (k : Nat) : FnF := ⟨[yT40, (.ptr (.int .i32))], [.bool], [(.int .i32)], fun x => feature_Of_c1 k (x.1) (x.2)⟩
theorem c_feature_Of_c1 (k : Nat) : Contract Tryz.prog Gl 157 (F_feature_Of_c1 k).toC := mkC zby Tryz.func157 (by kernel_rfl) rfl Tryz.ntmps157 (F_feature_Of_c1 k) (by kernel_rfl) [] (fun _ => .z) (by kernel_rfl)
noncomputable def q_feature_Of_c1 (k : Nat) : PF Tryz.prog Gl := ⟨157, F_feature_Of_c1 k, c_feature_Of_c1 k⟩
noncomputable def zh1 (k : Nat) : FnF := ⟨[yT37, (.fn 157 (.pair (.ptr (.int .i32)) .unit))], [(.int .i64)], [], fun x => zdd k (x.1) (x.2)⟩
theorem zh2 (k : Nat) : Contract Tryz.prog Gl 156 (zh1 k).toC := mkC zby Tryz.func156 (by kernel_rfl) rfl Tryz.ntmps156 (zh1 k) (by kernel_rfl) [q_feature_Of_c1 k] (fun x => .sk 3 (.lp [.sl 8 (.int .i64)] (sB [0, 1, 7, 8] [] []) (zdc k (x.1) (x.2)) k fun _ _ => .z)) (by kernel_rfl)
noncomputable def zh3 (k : Nat) : PF Tryz.prog Gl := ⟨156, zh1 k, zh2 k⟩
noncomputable def F_feature_Of (k : Nat) : FnF := ⟨[yT33, (.int .i32)], [yT40, (.int .i64)], [], fun x => feature_Of k (x.1) (x.2)⟩
theorem c_feature_Of (k : Nat) : Contract Tryz.prog Gl 127 (F_feature_Of k).toC := mkC zby Tryz.func127 (by kernel_rfl) rfl Tryz.ntmps127 (F_feature_Of k) (by kernel_rfl) [zhw k, q_feature_Of_c1 k, zh3 k] (fun _ => .z) (by kernel_rfl)
noncomputable def q_feature_Of (k : Nat) : PF Tryz.prog Gl := ⟨127, F_feature_Of k, c_feature_Of k⟩
noncomputable def F_rule_letter (k : Nat) : FnF := ⟨[yT33, (.int .i32)], [.bool], [], fun x => rule_letter k (x.1) (x.2)⟩
theorem c_rule_letter (k : Nat) : Contract Tryz.prog Gl 124 (F_rule_letter k).toC := mkC zby Tryz.func124 (by kernel_rfl) rfl Tryz.ntmps124 (F_rule_letter k) (by kernel_rfl) [q_feature_Of k] (fun _ => .z) (by kernel_rfl)
noncomputable def q_rule_letter (k : Nat) : PF Tryz.prog Gl := ⟨124, F_rule_letter k, c_rule_letter k⟩
noncomputable def zh4 (k : Nat) : FnB (List UInt8 × List (Int)) (Option (Option (Nat × Int)) × Int × List (Int)) where
 n := 19
 S := fun z => ⟨[(0, .ptr 19 0), (1, SS (z.1))], [(19, .cells [.selfp 19, .row 20] 111)], [(20, ⟨5, (.int .u8), (z.2)⟩)]⟩
 S' := fun z y => ⟨[], [(19, .cells [.selfp 19, .row 20] 111)], [(20, ⟨5, (.int .u8), (y.2.2)⟩)]⟩
 rs := fun z y => [I64 (y.2.1), .val .err (y.1)]
 rel := fun z y => zde k (z.1) (z.2) = some y
theorem b_strings_Builder_WriteString_i1 (k : Nat) : BC Tryz.prog Gl 54 (zh4 k) := mkB Tryz.func54 (by kernel_rfl) rfl (zh4 k) Tryz.ntmps54 [] (fun z => zde k (z.1) (z.2)) (fun _ _ h => h) (fun st => getH st [.sl 1 .err, .sl 0 (.int .i64), .rw 20 5 (.int .u8)]) [19] [20] (fun _ => .sk 2 (.cb (pb_bld_copyCheck k) [(19, 20), (20, 21)] [(20, 19), (21, 20)] (fun _ => .z))) (by kernel_rfl)
noncomputable def zh5 (k : Nat) : PB Tryz.prog Gl (List UInt8 × List (Int)) (Option (Option (Nat × Int)) × Int × List (Int)) := ⟨54, zh4 k, fun st => getH st [.sl 1 .str, .rw 20 5 (.int .u8)], fun z => zde k (z.1) (z.2), (b_strings_Builder_WriteString_i1 k), fun _ _ h => h⟩
noncomputable def F_feature_Text (k : Nat) : FnF := ⟨[yT33, (.int .u32), (.int .u32)], [.str, (.int .i64)], [], fun x => feature_Text k (x.1) (x.2.1) (x.2.2)⟩
theorem c_feature_Text (k : Nat) : Contract Tryz.prog Gl 128 (F_feature_Text k).toC := mkC zby Tryz.func128 (by kernel_rfl) rfl Tryz.ntmps128 (F_feature_Text k) (by kernel_rfl) [zhw k, zhv k] (fun x => .sk 5 (.f (.sk 3 (.f (.sk 3 (.lp [.sl 25 (.int .i64), .rw 1000009 5 (.int .u8)] (sB [1, 2, 9, 23, 24, 25] [9] [1000009]) (fun n => Un2 (zdg k (x.1) (x.2.1) (x.2.2) n)) k fun g'1 y'1 => .sk 2 (.c (.j [.rw 1000009 5 (.int .u8)] (sB [1, 2, 9, 23, 24, 25] [9] [1000009]) (zdf (Cn2 g'1) (y'1.1)) (.sk 3 (.c (.cb (zh5 k) [(9, 19), (1000009, 20)] [(19, 9), (20, 1000009)] (fun _ => .z)) (.sk 1 (.t (.cb (zh5 k) [(9, 19), (1000009, 20)] [(19, 9), (20, 1000009)] (fun _ => .z)))))) (fun _ => .z)) (.sk 1 (.cb (pb_bld_String k) [(9, 14), (1000009, 15)] [] (fun _ => .z)))))))))) (by kernel_rfl)
noncomputable def q_feature_Text (k : Nat) : PF Tryz.prog Gl := ⟨128, F_feature_Text k, c_feature_Text k⟩
noncomputable def F_rule_class (k : Nat) : FnF := ⟨[yT33, (.int .u32), (.int .u32)], [.bool], [], fun x => rule_class k (x.1) (x.2.1) (x.2.2)⟩
theorem c_rule_class (k : Nat) : Contract Tryz.prog Gl 125 (F_rule_class k).toC := mkC zby Tryz.func125 (by kernel_rfl) rfl Tryz.ntmps125 (F_rule_class k) (by kernel_rfl) [q_feature_Text k] (fun _ => .z) (by kernel_rfl)
noncomputable def q_rule_class (k : Nat) : PF Tryz.prog Gl := ⟨125, F_rule_class k, c_rule_class k⟩
noncomputable def F_rule_either (k : Nat) : FnF := ⟨[yT33, (.int .i32), (.int .u32), (.int .u32)], [.bool], [], fun x => rule_either k (x.1) (x.2.1) (x.2.2.1) (x.2.2.2)⟩
theorem c_rule_either (k : Nat) : Contract Tryz.prog Gl 92 (F_rule_either k).toC := mkC zby Tryz.func92 (by kernel_rfl) rfl Tryz.ntmps92 (F_rule_either k) (by kernel_rfl) [q_rule_letter k, q_rule_class k] (fun _ => .sk 3 (.t (.sk 2 (.pg 4 .z)))) (by kernel_rfl)
noncomputable def q_rule_either (k : Nat) : PF Tryz.prog Gl := ⟨92, F_rule_either k, c_rule_either k⟩
noncomputable def F_rule_swap (k : Nat) : FnF := ⟨[yT33, yT35, (.int .i64)], [.bool], [], fun x => rule_swap k (x.1) (x.2.1) (x.2.2)⟩
theorem c_rule_swap (k : Nat) : Contract Tryz.prog Gl 93 (F_rule_swap k).toC := mkC zby Tryz.func93 (by kernel_rfl) rfl Tryz.ntmps93 (F_rule_swap k) (by kernel_rfl) [q_rule_either k] (fun x => .sk 3 (.pg 3 (.gj 14 [.sl 30 .bool] (sB [3, 4, 30] [3, 4] []) (zdh k (x.1) (x.2.1)) .z (.sk 4 (.gj 9 [.sl 29 .bool] (sB [3, 4, 15, 29] [3, 4] []) (rule_swap_j3 k (x.1) (x.2.1)) (.sk 4 (.pg 4 .z)) .z (fun _ => .z))) (fun _ => .z)))) (by kernel_rfl)
noncomputable def q_rule_swap (k : Nat) : PF Tryz.prog Gl := ⟨93, F_rule_swap k, c_rule_swap k⟩
noncomputable def zh6 (k : Nat) : FnF := ⟨[(.sl .bool), .bool], [(.int .i64)], [], fun x => zdk k (x.1) (x.2)⟩
theorem c_slices_Index___bool_bool_ (k : Nat) : Contract Tryz.prog Gl 193 (zh6 k).toC := mkC zby Tryz.func193 (by kernel_rfl) rfl Tryz.ntmps193 (zh6 k) (by kernel_rfl) [] (fun x => .sk 3 (.lp [.sl 8 (.int .i64)] (sB [0, 1, 7, 8] [] []) (zdj (x.1) (x.2)) k fun _ _ => .z)) (by kernel_rfl)
noncomputable def q_slices_Index___bool_bool_ (k : Nat) : PF Tryz.prog Gl := ⟨193, zh6 k, c_slices_Index___bool_bool_ k⟩
noncomputable def zh7 (k : Nat) : FnF := ⟨[(.sl .bool), .bool], [.bool], [], fun x => zdl k (x.1) (x.2)⟩
theorem c_slices_Contains___bool_bool_ (k : Nat) : Contract Tryz.prog Gl 155 (zh7 k).toC := mkC zby Tryz.func155 (by kernel_rfl) rfl Tryz.ntmps155 (zh7 k) (by kernel_rfl) [q_slices_Index___bool_bool_ k] (fun _ => .z) (by kernel_rfl)
noncomputable def zh8 (k : Nat) : PF Tryz.prog Gl := ⟨155, zh7 k, c_slices_Contains___bool_bool_ k⟩
noncomputable def F_pattern_tree (k : Nat) : FnF := ⟨[yT28], [.bool], [], fun x => zdu k x⟩
theorem c_pattern_tree (k : Nat) : Contract Tryz.prog Gl 126 (F_pattern_tree k).toC := mkC zby Tryz.func126 (by kernel_rfl) rfl Tryz.ntmps126 (F_pattern_tree k) (by kernel_rfl) [zh8 k] (fun x => .sk 4 (.pg 2 (.f (.sk 4 (.lp [.sl 23 (.int .i64), .rw 19 4 .bool] (sB [3, 4, 21, 22, 23] [] [19]) (fun n => Un2 (zdt k x n)) k fun g'1 y'1 => .sk 2 (.t (.sk 2 (.a yT32 fun x1 => .j [] (sB [3, 4, 5, 6, 21, 22, 23] [6] [19]) (Un0 (zdp k x1 (y'1.1) x (Cn2 g'1) (y'1.2))) (.sk 1 (.j [.sl 30 .bool] (sB [3, 4, 5, 6, 21, 22, 23, 29, 30] [6] [19]) (zds k x1 (y'1.1) x (Cn2 g'1) (y'1.2)) .z (fun _ => .f (.j [.sl 33 .bool] (sB [3, 4, 5, 6, 21, 22, 23, 29, 33] [6] [19]) (zdr k x1 (y'1.1) x (Cn2 g'1) (y'1.2)) .z (fun _ => .f (.j [.sl 40 .bool] (sB [3, 4, 5, 6, 21, 22, 23, 40] [6] [19]) (zdq k x1 (y'1.1) x (Cn2 g'1) (y'1.2)) .z (fun _ => .z))))))) (fun _ => .sk 2 (.pg 3 (.gj 11 [.sl 70 .bool] (sB [3, 4, 5, 6, 21, 22, 23, 70] [6] [19]) (zdo k x1 (y'1.1) x (Cn2 g'1) (y'1.2)) .z (.sk 7 (.pg 3 .z)) (fun _ => .f (.sk 1 (.lp [.sl 74 (.int .i64), .rw 19 4 .bool] (sB [3, 4, 5, 21, 22, 23, 72, 73, 74] [] [19]) (fun n => Un2 (zdn x1 (y'1.1) x (Cn2 g'1) n)) k fun g'2 y'2 => .sk 2 (.t (.sk 2 (.a (.int .i64) fun x2 => .sk 2 (.pg 3 (.g 4 (zdm (y'2.2) x2 (Cn2 g'2) (y'2.1)) .z (.sk 5 (.u 0 .z)) (fun _ => .f (.sk 1 (.u 0 .z)))))))))))))))))))))) (by kernel_rfl)
noncomputable def q_pattern_tree (k : Nat) : PF Tryz.prog Gl := ⟨126, F_pattern_tree k, c_pattern_tree k⟩
noncomputable def F_pattern_Check (k : Nat) : FnF := ⟨[yT33, yT28], [(.int .i64)], [], fun x => zdx k (x.1) (x.2)⟩
theorem c_pattern_Check (k : Nat) : Contract Tryz.prog Gl 94 (F_pattern_Check k).toC := mkC zby Tryz.func94 (by kernel_rfl) rfl Tryz.ntmps94 (F_pattern_Check k) (by kernel_rfl) [zhw k, q_pattern_tree k, q_feature_Of k, q_feature_Text k] (fun x => .sk 5 (.f (.sk 3 (.f (.sk 2 (.lp [.sl 23 (.int .i64)] (sB [2, 21, 22, 23] [2] []) (zdw k (x.2) (x.1)) k fun g'1 y'1 => .sk 2 (.t (.j [] (sB [2, 21, 22, 23] [2] []) (Un0 (zdv g'1 y'1)) .z (fun _ => .z))))))))) (by kernel_rfl)
noncomputable def q_pattern_Check (k : Nat) : PF Tryz.prog Gl := ⟨94, F_pattern_Check k, c_pattern_Check k⟩
noncomputable def F_rule_Check (k : Nat) : FnF := ⟨[yT33, yT5], [(.int .i64)], [], fun x => rule_Check k (x.1) (x.2)⟩
theorem c_rule_Check (k : Nat) : Contract Tryz.prog Gl 65 (F_rule_Check k).toC := mkC zby Tryz.func65 (by kernel_rfl) rfl Tryz.ntmps65 (F_rule_Check k) (by kernel_rfl) [zhw k, q_rule_named k, q_rule_either k, q_rule_swap k, q_pattern_Check k] (fun x => .sk 5 (.f (.sk 3 (.pg 3 (.pg 3 (.pg 4 (.pg 4 (.pg 8 (.f (.sk 2 (.lp [.sl 54 (.int .i64)] (sB [2, 3, 52, 53, 54] [2, 3] []) (zd0 k (x.2) (x.1)) k fun _ _ => .sk 2 (.f (.sk 2 (.lp [.sl 71 (.int .i64)] (sB [2, 3, 69, 70, 71] [2, 3] []) (zdz k (x.2) (x.1)) k fun _ _ => .sk 2 (.f (.sk 3 (.g 5 zdy .z .z (fun _ => .z)))))))))))))))))) (by kernel_rfl)
noncomputable def q_rule_Check (k : Nat) : PF Tryz.prog Gl := ⟨65, F_rule_Check k, c_rule_Check k⟩
noncomputable def F_law_Check (k : Nat) : FnF := ⟨[yT33, yT4], [(.int .i64)], [], fun x => law_Check k (x.1) (x.2)⟩
theorem c_law_Check (k : Nat) : Contract Tryz.prog Gl 37 (F_law_Check k).toC := mkC zby Tryz.func37 (by kernel_rfl) rfl Tryz.ntmps37 (F_law_Check k) (by kernel_rfl) [zhw k, q_rule_Check k] (fun x => .sk 5 (.f (.sk 2 (.f (.sk 2 (.lp [.sl 19 (.int .i64)] (sB [2, 17, 18, 19] [2] []) (zd1 k (x.2) (x.1)) k fun _ _ => .z)))))) (by kernel_rfl)
noncomputable def q_law_Check (k : Nat) : PF Tryz.prog Gl := ⟨37, F_law_Check k, c_law_Check k⟩
noncomputable def F_family_Check (k : Nat) : FnF := ⟨[yT1], [(.int .i64)], [], fun x => zd3 k x⟩
theorem c_family_Check (k : Nat) : Contract Tryz.prog Gl 13 (F_family_Check k).toC := mkC zby Tryz.func13 (by kernel_rfl) rfl Tryz.ntmps13 (F_family_Check k) (by kernel_rfl) [zhw k, q_family_shaped k, q_law_Check k] (fun x => .sk 5 (.f (.sk 3 (.f (.sk 2 (.lp [.sl 20 (.int .i64)] (sB [1, 18, 19, 20] [1] []) (zd2 k x) k fun _ _ => .z)))))) (by kernel_rfl)
noncomputable def q_family_Check (k : Nat) : PF Tryz.prog Gl := ⟨13, F_family_Check k, c_family_Check k⟩
noncomputable def F_family_asked (k : Nat) : FnF := ⟨[yT1, (.sl (.int .i64))], [(.int .i64)], [], fun x => zd5 k (x.1) (x.2)⟩
theorem c_family_asked (k : Nat) : Contract Tryz.prog Gl 29 (F_family_asked k).toC := mkC zby Tryz.func29 (by kernel_rfl) rfl Tryz.ntmps29 (F_family_asked k) (by kernel_rfl) [q_family_Check k] (fun x => .sk 5 (.f (.sk 2 (.lp [.sl 15 (.int .i64)] (sB [2, 13, 14, 15] [2] []) (zd4 (x.2) (x.1)) k fun _ _ => .sk 2 (.t (.sk 4 (.pg 5 .z))))))) (by kernel_rfl)
noncomputable def q_family_asked (k : Nat) : PF Tryz.prog Gl := ⟨29, F_family_asked k, c_family_asked k⟩
noncomputable def zh9 (k : Nat) : FnB yT9 (List (Int)) where
 n := 38
 S := fun z => ⟨[(0, I64 (z.1)), (1, I64 (z.2.1)), (2, .ptr 38 0), (3, .ptr 40 0), (4, .ptr 41 0)], [(38, .cells [.selfp 38, .row 39] 111), (40, .cells [.val (.sl .str) (z.2.2.1), .val yT37 (z.2.2.2.1), .val yT2 (z.2.2.2.2.1)] 28), (41, .cells [.clos 53 [38, 40, 41]] 112)], [(39, ⟨5, (.int .u8), (z.2.2.2.2.2)⟩)]⟩
 S' := fun z y => ⟨[], [(38, .cells [.selfp 38, .row 39] 111), (40, .cells [.val (.sl .str) (z.2.2.1), .val yT37 (z.2.2.2.1), .val yT2 (z.2.2.2.2.1)] 28), (41, .cells [.clos 53 [38, 40, 41]] 112)], [(39, ⟨5, (.int .u8), (y)⟩)]⟩
 rs := fun z y => []
 rel := fun z y => zd8 k (z.1) (z.2.1) (z.2.2.1) (z.2.2.2.1) (z.2.2.2.2.1) (z.2.2.2.2.2) = some y
noncomputable def pbr_family_Text_c1_i1 (k : Nat) (h : BC Tryz.prog Gl 53 (zh9 k)) : PB Tryz.prog Gl yT9 (List (Int)) := ⟨53, zh9 k, fun st => getH st [.sl 0 (.int .i64), .sl 1 (.int .i64), .bx 40 0 (.sl .str), .bx 40 1 yT37, .bx 40 2 yT2, .rw 39 5 (.int .u8)], fun z => zd8 k (z.1) (z.2.1) (z.2.2.1) (z.2.2.2.1) (z.2.2.2.2.1) (z.2.2.2.2.2), h, fun _ _ h => h⟩
theorem b_family_Text_c1_i1 : ∀ k : Nat, BC Tryz.prog Gl 53 (zh9 k)
 | 0 => mkB0 Tryz.func53 (by kernel_rfl) rfl _ fun _ _ h => nomatch (show (none : Option _) = some _ from h)
 | k + 1 => mkB Tryz.func53 (by kernel_rfl) rfl (zh9 (k + 1)) Tryz.ntmps53 [q_strings_Repeat k] (fun z => zd8 (k + 1) (z.1) (z.2.1) (z.2.2.1) (z.2.2.2.1) (z.2.2.2.2.1) (z.2.2.2.2.2)) (fun _ _ h => h) (fun st => getH st [.rw 39 5 (.int .u8)]) [38, 40, 41] [39] (fun z => .sk 1 (.tl 10 (.sk 2 (.cb (zh5 k) [(38, 19), (39, 20)] [(19, 38), (20, 39)] (fun _ => .sk 1 (.lp [.sl 23 (.int .i64), .rw 39 5 (.int .u8)] (sB [0, 1, 2, 3, 4, 21, 22, 23] [38, 40, 41] [39]) (fun n => Un2 (zd7 (z.2.2.2.2.1) (z.1) (zd8 k) (z.2.1) (z.2.2.1) (z.2.2.2.1) n)) k fun g'1 y'1 => .sk 2 (.t (.j [.rw 39 5 (.int .u8)] (sB [0, 1, 2, 3, 4, 21, 22, 23] [38, 40, 41] [39]) (zd6 (Cn2 g'1) (y'1.1)) (.sk 3 (.t (.cb (pbr_family_Text_c1_i1 k (b_family_Text_c1_i1 k)) [(38, 38), (39, 39), (40, 40), (41, 41)] [(38, 38), (40, 40), (41, 41), (39, 39)] (fun _ => .z)))) (fun _ => .z))))))))) (by kernel_rfl)
noncomputable def pb_family_Text_c1_i1 (k : Nat) : PB Tryz.prog Gl yT9 (List (Int)) := pbr_family_Text_c1_i1 k (b_family_Text_c1_i1 k)
noncomputable def F_family_Text (k : Nat) : FnF := ⟨[yT1], [.str, (.int .i64)], [], fun x => family_Text k x⟩
theorem c_family_Text (k : Nat) : Contract Tryz.prog Gl 27 (F_family_Text k).toC := mkC zby Tryz.func27 (by kernel_rfl) rfl Tryz.ntmps27 (F_family_Text k) (by kernel_rfl) [q_family_asked k] (fun _ => .sk 5 (.f (.sk 4 (.cb (pb_family_Text_c1_i1 k) [(5, 38), (1000005, 39), (1, 40), (6, 41)] [(38, 5), (40, 1), (41, 6), (39, 1000005)] (fun _ => .sk 1 (.cb (pb_bld_String k) [(5, 14), (1000005, 15)] [] (fun _ => .z))))))) (by kernel_rfl)
noncomputable def q_family_Text (k : Nat) : PF Tryz.prog Gl := ⟨27, F_family_Text k, c_family_Text k⟩
noncomputable def F_l27_awake (k : Nat) : FnF := ⟨[], [.bool], [], fun _ => l27_awake k⟩
theorem c_l27_awake (k : Nat) : Contract Tryz.prog Gl 7 (F_l27_awake k).toC := mkC zby Tryz.func7 (by kernel_rfl) rfl Tryz.ntmps7 (F_l27_awake k) (by kernel_rfl) [q_l27_sample k, q_family_Text k] (fun _ => .sk 5 (.pg 2 .z)) (by kernel_rfl)
noncomputable def q_l27_awake (k : Nat) : PF Tryz.prog Gl := ⟨7, F_l27_awake k, c_l27_awake k⟩
noncomputable def F_l27_large (k : Nat) : FnF := ⟨[yT1], [.bool], [], fun x => l27_large k x⟩
theorem c_l27_large (k : Nat) : Contract Tryz.prog Gl 8 (F_l27_large k).toC := mkC zby Tryz.func8 (by kernel_rfl) rfl Tryz.ntmps8 (F_l27_large k) (by kernel_rfl) [] (fun x => .sk 4 (.lp [.sl 3 (.int .i64), .sl 4 (.int .i64)] (sB [1, 3, 4] [1] []) (fun n => Un2 (l27_large_l1 x n)) k fun g'1 y'1 => .sk 2 (.pg 2 (.t (.j [.sl 3 (.int .i64)] (sB [1, 3, 4] [1] []) (l27_large_j2 (Cn2 g'1) (y'1.2)) (.sk 2 (.t (.u 0 .z))) (fun _ => .z)))))) (by kernel_rfl)
noncomputable def q_l27_large (k : Nat) : PF Tryz.prog Gl := ⟨8, F_l27_large k, c_l27_large k⟩
end Go.Ev
