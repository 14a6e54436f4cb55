/- Contracts, by program. -/
import Derived.Test.YtgkgdfmldioddaaGreatDoorProg
import Derived.Test.YtgkgdfmldioddaaGreatDoorMM6
import Derived.Test.YtgkgdfmldioddaaGreatDoorMM7
import Derived.Test.YtgkgdfmldioddaaGreatDoorMM8
import Derived.Test.YtgkgdfmldioddaaGreatDoorCtFsP4
import Derived.Test.YtgkgdfmldioddaaGreatDoorCtFsP6
import Derived.KernelRfl
import Derived.Test.YtgkgdfmldioddaaGreatDoorTyA
set_option linter.unusedSectionVars false
set_option linter.unusedVariables false
set_option linter.unusedSimpArgs false
namespace Go.Ev
open Go Go.Proofs
set_option linter.unusedVariables false
set_option maxRecDepth 100000
noncomputable def B_rule_maker_run_i7 (k : Nat) : FnB yT15 yT13 where
 n := 161
 S := fun z => ⟨[(0, .ptr 161 0), (1, .val yT74 (z.1)), (2, .bclos 138 161), (3, BB (z.2.1))], [(161, .cells [SS (z.2.2.1), .val yT37 (z.2.2.2.1), .val yT34 (z.2.2.2.2.1), .val yT31 (z.2.2.2.2.2.1), .val yT31 (z.2.2.2.2.2.2.1), U8 (z.2.2.2.2.2.2.2.1), BB (z.2.2.2.2.2.2.2.2.1), .iter 162, .clos 163 [163]] 241), (162, .mp yT66 yT65 (z.2.2.2.2.2.2.2.2.2.1)), (163, .cells [.val (.sl .str) (z.2.2.2.2.2.2.2.2.2.2.1), .val yT37 (z.2.2.2.2.2.2.2.2.2.2.2)] 25)], []⟩
 S' := fun z y => ⟨[], [(161, .cells [SS (y.2.1), .val yT37 (y.2.2.1), .val yT34 (y.2.2.2.1), .val yT31 (y.2.2.2.2.1), .val yT31 (y.2.2.2.2.2.1), U8 (y.2.2.2.2.2.2.1), BB (y.2.2.2.2.2.2.2.1), .iter 162, .clos 163 [163]] 241), (162, .mp yT66 yT65 (y.2.2.2.2.2.2.2.2.1)), (163, .cells [.val (.sl .str) (y.2.2.2.2.2.2.2.2.2.1), .val yT37 (y.2.2.2.2.2.2.2.2.2.2.1)] 25)], [(3500001, ⟨9, .str, (y.2.2.2.2.2.2.2.2.2.2.2)⟩)]⟩
 rs := fun z y => [.row 3500001, I64 (y.1)]
 rel := fun z y => zgr k (z.1) (z.2.1) (z.2.2.1) (z.2.2.2.1) (z.2.2.2.2.1) (z.2.2.2.2.2.1) (z.2.2.2.2.2.2.1) (z.2.2.2.2.2.2.2.1) (z.2.2.2.2.2.2.2.2.1) (z.2.2.2.2.2.2.2.2.2.1) (z.2.2.2.2.2.2.2.2.2.2.1) (z.2.2.2.2.2.2.2.2.2.2.2) = some y
noncomputable def E_rule_maker_run_i7 (k : Nat) : Env := envOf Tryz.prog Gl 161 [zil k]
theorem b_rule_maker_run_i7 (k : Nat) : BC Tryz.prog Gl 136 (B_rule_maker_run_i7 k) := by
 refine bc_of (fn := Tryz.f136) Tryz.func136 (by kernel_rfl) rfl Tryz.ntmps136 ?_
 rintro cx hP hn hG ⟨l1, free1, c1, c2, c3, c4, c5, c6, c7, m1, c8, c9⟩ y0 h
 have hE : EnvOK (E_rule_maker_run_i7 k) cx := envOf_ok hP hn hG
 replace h : zgr k l1 free1 c1 c2 c3 c4 c5 c6 c7 m1 c8 c9 = some y0 := h
 unfold zgr at h
 refine W_seq (zbt (WL_allC hE [0, 1, 2, 3] [161, 162, 163] [] (orc := []) (by kernel_rfl) .n (N_then (W_seq (zbt (WL_tkC hE 2 [0, 1, 2, 3, 24, 25] [161, 162, 163] [] (orc := []) (by kernel_rfl) .n ?_))))))
 obtain ⟨v1, e1, h⟩ := bind_some h
 refine WL_callBC hE (b_rule_maker_right_i1 k) (l1, c1, c2, c3, c4, c5, c6, c7, m1, c8, c9) v1 e1 (ρ := [(161, 6), (162, 7), (163, 8)]) (ρ' := [(2, 26), (3, 160), (6, 161), (7, 162), (8, 163)]) (n := 6) (by kernel_rfl) [0, 1, 2, 3, 26] [26, 160, 161, 162, 163] [] (by kernel_rfl) (by kernel_rfl) (by kernel_rfl) (WL_allI hE (st' := ⟨[(0, .ptr 161 0), (1, .val yT74 l1), (2, .bclos 138 161), (3, BB free1), (10, .clos 170 [26, 160])], [(26, .cells [.ptr 161 0] 212), (160, .cells [.val yT74 v1] 50), (161, .cells [SS c1, .val yT37 c2, .val yT34 c3, .val yT31 c4, .val yT31 c5, U8 c6, BB c7, .iter 162, .clos 163 [163]] 241), (162, .mp yT66 yT65 m1), (163, .cells [.val (.sl .str) c8, .val yT37 c9] 25)], []⟩) (orc := []) (by kernel_rfl) .n (N_then (W_seq (W_draw hE (by kernel_rfl) (by kernel_rfl) (WD_allC hE [0, 1, 2, 3, 10, 11, 12] [26, 160, 161, 162, 163] [] (orc := []) (by kernel_rfl) .n (N_then (W_seq (zbt ?_))))))))
 obtain ⟨_, e2, h⟩ := bind_some h
 replace e2 := zbw e2
 obtain ⟨_, e3, h⟩ := bind_some h
 replace e3 := zbw e3
 refine WL_allC hE [0, 1, 2, 3, 10, 11, 12, 13] [26, 37, 160, 161, 162, 163] [] (orc := [⟨.unit, ()⟩]) (by kernel_rfl) (.c (show (List.replicate (wi64 ((List.length l1 : Int) + (2 : Int))).toNat (none : Option yT62)) = List.replicate (List.length (List.replicate (wi64 ((List.length l1 : Int) + (2 : Int))).toNat (none : Option yT62))) ((none : Option yT62)) /\ 0 < List.length (List.replicate (wi64 ((List.length l1 : Int) + (2 : Int))).toNat (none : Option yT62)) from o2_new (none : Option yT62) e2) (.c e3 .n)) (N_then (W_seq (W_seq (zbt (WL_allI hE (orc := []) (by kernel_rfl) .n (N_then (W_block (W_loop (α := (Int × List yT48)) (fun n z => zgq k l1 c2 free1 v1 c1 c3 c4 c5 c6 c7 m1 c8 c9 n z.1 z.2 = some y0) (fun z => ⟨[(0, .ptr 161 0), (1, .val yT74 l1), (2, .bclos 138 161), (3, BB free1), (10, .clos 170 [26, 160]), (11, I64 (List.length l1 : Int)), (12, I64 (List.length c2 : Int)), (13, .osl 37), (39, I64 (List.length (List.map some (List.replicate (wi64 ((List.length l1 : Int) + (2 : Int))).toNat (none : Option yT62))) : Int)), (40, I64 (z.1))], [(26, .cells [.ptr 161 0] 212), (37, .o2 120 (.mp .str .bool) (z.2)), (160, .cells [.val yT74 v1] 50), (161, .cells [SS c1, .val yT37 c2, .val yT34 c3, .val yT31 c4, .val yT31 c5, U8 c6, BB c7, .iter 162, .clos 163 [163]] 241), (162, .mp yT66 yT65 m1), (163, .cells [.val (.sl .str) c8, .val yT37 c9] 25)], []⟩) ?_ (k := k) (x := ((0 : Int), List.map some (List.replicate (wi64 ((List.length l1 : Int) + (2 : Int))).toNat (none : Option yT62)))) h))))))))
 clear h
 rintro fuel1 ⟨t11, sets1⟩ h
 cases fuel1 with
 | zero => exact absurd (show none = some _ from h) (by simp)
 | succ fuel1 =>
  have h : zgp k l1 c2 free1 v1 c1 c3 c4 c5 c6 c7 m1 c8 c9 (zgq k l1 c2 free1 v1 c1 c3 c4 c5 c6 c7 m1 c8 c9 fuel1) t11 sets1 = some y0 := h
  unfold zgp at h
  refine W_seq (zbt (WL_allC hE [0, 1, 2, 3, 10, 11, 12, 13, 39, 40, 41] [26, 37, 160, 161, 162, 163] [] (orc := []) (by kernel_rfl) .n (N_then (W_seq (W_cond (b := decide (t11 < (List.length (List.map some (List.replicate (wi64 ((List.length l1 : Int) + (2 : Int))).toNat (none : Option yT62))) : Int))) (by kernel_rfl) (fun e4 => ?_) (fun e4 => ?_))))))
  ·replace h := ite_t e4 h
   refine W_skip (N_then (W_seq (W_block (W_seq (zbt (WL_allC hE [0, 1, 2, 3, 10, 11, 12, 13, 14, 39, 40] [26, 37, 160, 161, 162, 163] [] (orc := []) (by kernel_rfl) .n (N_then (zbt ?_))))))))
   obtain ⟨_, e5, h⟩ := bind_some h
   replace e5 := zbw e5
   obtain ⟨_, e6, h⟩ := bind_some h
   replace e6 := zbw e6
   exact WL_allC hE [0, 1, 2, 3, 10, 11, 12, 13, 39, 40] [26, 37, 160, 161, 162, 163] [] (orc := []) (by kernel_rfl) (.c e5 (.c e6 .n)) (N_block (N_then (zbt (WL_allI hE (orc := []) (by kernel_rfl) .n (N_round (wi64 (t11 + (1 : Int)), List.set sets1 (t11).toNat (some (some ([] : List yT68)))) (Nat.lt_succ_self _) h)))))
  ·replace h := ite_f e4 h
   refine W_exit (zbp (zbp (zbs (N_then (W_seq (zbt ?_))))))
   obtain ⟨_, e9, h⟩ := bind_some h
   replace e9 := zbw e9
   obtain ⟨q1, e7, h⟩ := bind_some h
   replace e7 := o2at_some e7
   obtain ⟨q2, e8, h⟩ := bind_some h
   replace e8 := o2ps_some e8
   refine WL_allI hE (st' := ⟨[(0, .ptr 161 0), (1, .val yT74 l1), (2, .bclos 138 161), (3, BB free1), (10, .clos 170 [26, 160]), (11, I64 (List.length l1 : Int)), (12, I64 (List.length c2 : Int)), (13, .osl 37)], [(26, .cells [.ptr 161 0] 212), (37, .o2 120 (.mp .str .bool) (List.set sets1 ((0 : Int)).toNat (some (some (mset (eqEl .str) q2 ([] : List UInt8) true))))), (160, .cells [.val yT74 v1] 50), (161, .cells [SS c1, .val yT37 c2, .val yT34 c3, .val yT31 c4, .val yT31 c5, U8 c6, BB c7, .iter 162, .clos 163 [163]] 241), (162, .mp yT66 yT65 m1), (163, .cells [.val (.sl .str) c8, .val yT37 c9] 25)], []⟩) (orc := [⟨.map .str .bool, q1⟩, ⟨.map .str .bool, some q2⟩]) (by kernel_rfl) (.c e9 (.c e7 (.c e8 .n))) (N_then (W_seq (W_seq (zbt (WL_allI hE (orc := []) (by kernel_rfl) .n (N_then (W_block (W_loop (α := (Int × List yT48 × List (Int) × List UInt8 × List yT61 × List yT57 × List yT47 × List yT47 × Int × Bool × List yT50 × List (List UInt8) × List yT61)) (fun n z => zgo k l1 c2 free1 n z.1 z.2.1 z.2.2.1 z.2.2.2.1 z.2.2.2.2.1 z.2.2.2.2.2.1 z.2.2.2.2.2.2.1 z.2.2.2.2.2.2.2.1 z.2.2.2.2.2.2.2.2.1 z.2.2.2.2.2.2.2.2.2.1 z.2.2.2.2.2.2.2.2.2.2.1 z.2.2.2.2.2.2.2.2.2.2.2.1 z.2.2.2.2.2.2.2.2.2.2.2.2 = some y0) (fun z => ⟨[(0, .ptr 161 0), (1, .val yT74 l1), (2, .bclos 138 161), (3, BB free1), (10, .clos 170 [26, 160]), (11, I64 (List.length l1 : Int)), (12, I64 (List.length c2 : Int)), (13, .osl 37), (52, I64 (wi64 ((List.length l1 : Int) + (1 : Int)))), (53, I64 (z.1))], [(26, .cells [.ptr 161 0] 212), (37, .o2 120 (.mp .str .bool) (z.2.1)), (160, .cells [.val yT74 (z.2.2.1)] 50), (161, .cells [SS (z.2.2.2.1), .val yT37 (z.2.2.2.2.1), .val yT34 (z.2.2.2.2.2.1), .val yT31 (z.2.2.2.2.2.2.1), .val yT31 (z.2.2.2.2.2.2.2.1), U8 (z.2.2.2.2.2.2.2.2.1), BB (z.2.2.2.2.2.2.2.2.2.1), .iter 162, .clos 163 [163]] 241), (162, .mp yT66 yT65 (z.2.2.2.2.2.2.2.2.2.2.1)), (163, .cells [.val (.sl .str) (z.2.2.2.2.2.2.2.2.2.2.2.1), .val yT37 (z.2.2.2.2.2.2.2.2.2.2.2.2)] 25)], []⟩) ?_ (k := k) (x := ((0 : Int), List.set sets1 ((0 : Int)).toNat (some (some (mset (eqEl .str) q2 ([] : List UInt8) true))), v1, c1, c2, c3, c4, c5, c6, c7, m1, c8, c9)) h))))))))
   clear h
   rintro fuel2 ⟨t12, sets2, t13, t14, t15, t16, t17, t18, t19, t20, m3, t21, t22⟩ h
   cases fuel2 with
   | zero => exact absurd (show none = some _ from h) (by simp)
   | succ fuel2 =>
    have h : zgn k l1 c2 free1 (zgo k l1 c2 free1 fuel2) t12 sets2 t13 t14 t15 t16 t17 t18 t19 t20 m3 t21 t22 = some y0 := h
    unfold zgn at h
    refine W_seq (zbt (WL_allC hE [0, 1, 2, 3, 10, 11, 12, 13, 52, 53, 54] [26, 37, 160, 161, 162, 163] [] (orc := []) (by kernel_rfl) .n (N_then (W_seq (W_cond (b := decide (t12 < (wi64 ((List.length l1 : Int) + (1 : Int))))) (by kernel_rfl) (fun e10 => ?_) (fun e10 => ?_))))))
    ·replace h := ite_t e10 h
     refine W_skip (N_then (W_seq (W_block (W_seq (zbt (WL_allC hE [0, 1, 2, 3, 10, 11, 12, 13, 15, 52, 53] [26, 37, 160, 161, 162, 163] [] (orc := []) (by kernel_rfl) .n (N_then (W_seq (W_seq (zbt ?_))))))))))
     obtain ⟨_, e12, h⟩ := bind_some h
     replace e12 := zbw e12
     obtain ⟨q3, e11, h⟩ := bind_some h
     replace e11 := o2at_some e11
     refine WL_allC hE [0, 1, 2, 3, 10, 11, 12, 13, 15, 52, 53, 61] [26, 37, 160, 161, 162, 163] [] (orc := [⟨.map .str .bool, q3⟩, ⟨.map .str .bool, q3⟩]) (by kernel_rfl) (.c e12 (.c e11 (.c e11 .n))) (N_then (W_cond (b := decide ((1024 : Int) < (List.length (Option.getD q3 []) : Int))) (by kernel_rfl) (fun e13 => ?_) (fun e13 => ?_)))
     ·replace h := ite_t e13 h
      refine W_seq (zbt (WL_allI hE (st' := ⟨[(0, .ptr 161 0), (2, .bclos 138 161), (8, .row 8), (9, I64 (9 : Int))], [(161, .cells [SS t14, .val yT37 t15, .val yT34 t16, .val yT31 t17, .val yT31 t18, U8 t19, BB t20, .iter 162, .clos 163 [163]] 241), (162, .mp yT66 yT65 m3), (163, .cells [.val (.sl .str) t21, .val yT37 t22] 25)], [(8, ⟨9, .str, ([] : List (List UInt8))⟩)]⟩) (orc := []) (by kernel_rfl) .n (N_then (W_ret (zbq (zbr (zbq (zbq (zbr (zbq ?_))))))))))
      replace h := Option.some.inj h
      subst h
      exact N_renC [0, 2, 8, 9] [161, 162, 163] [8] [(161, 161), (162, 162), (163, 163), (8, 3500001)] (by kernel_rfl) (N_endB hE.P [161, 162, 163] [3500001] (.inl rfl) (by kernel_rfl) (by kernel_rfl))
     ·replace h := ite_f e13 h
      refine W_skip (N_then (W_seq (zbt ?_)))
      obtain ⟨_, e14, h⟩ := bind_some h
      replace e14 := zbw e14
      refine WL_allI hE (orc := [⟨.unit, ()⟩, ⟨.map .str .bool, q3⟩]) (by kernel_rfl) (.c e14 (.c e11 .n)) (N_then (W_block (W_loop (α := (List yT48 × List yT68 × List yT68 × List UInt8 × List yT61 × List yT57 × List yT47 × List yT47 × Int × Bool × List yT50 × List (List UInt8) × List yT61)) (fun n z => zgk k (zgo k l1 c2 free1 fuel2) t12 t13 l1 c2 free1 n z.1 z.2.1 z.2.2.1 z.2.2.2.1 z.2.2.2.2.1 z.2.2.2.2.2.1 z.2.2.2.2.2.2.1 z.2.2.2.2.2.2.2.1 z.2.2.2.2.2.2.2.2.1 z.2.2.2.2.2.2.2.2.2.1 z.2.2.2.2.2.2.2.2.2.2.1 z.2.2.2.2.2.2.2.2.2.2.2.1 z.2.2.2.2.2.2.2.2.2.2.2.2 = some y0) (fun z => ⟨[(0, .ptr 161 0), (1, .val yT74 l1), (2, .bclos 138 161), (3, BB free1), (10, .clos 170 [26, 160]), (11, I64 (List.length l1 : Int)), (12, I64 (List.length c2 : Int)), (13, .osl 37), (15, I64 t12), (52, I64 (wi64 ((List.length l1 : Int) + (1 : Int)))), (53, I64 t12), (66, .iter 66)], [(26, .cells [.ptr 161 0] 212), (37, .o2 120 (.mp .str .bool) (z.1)), (66, .mit .str .bool (z.2.1) (z.2.2.1)), (160, .cells [.val yT74 t13] 50), (161, .cells [SS (z.2.2.2.1), .val yT37 (z.2.2.2.2.1), .val yT34 (z.2.2.2.2.2.1), .val yT31 (z.2.2.2.2.2.2.1), .val yT31 (z.2.2.2.2.2.2.2.1), U8 (z.2.2.2.2.2.2.2.2.1), BB (z.2.2.2.2.2.2.2.2.2.1), .iter 162, .clos 163 [163]] 241), (162, .mp yT66 yT65 (z.2.2.2.2.2.2.2.2.2.2.1)), (163, .cells [.val (.sl .str) (z.2.2.2.2.2.2.2.2.2.2.2.1), .val yT37 (z.2.2.2.2.2.2.2.2.2.2.2.2)] 25)], []⟩) ?_ (k := k) (x := (List.set sets2 (t12).toNat none, q3.getD [], ([] : List yT68), t14, t15, t16, t17, t18, t19, t20, m3, t21, t22)) h)))
      clear h
      rintro fuel3 ⟨sets3, left1, at1, t23, t24, t25, t26, t27, t28, t29, m4, t30, t31⟩ h
      cases fuel3 with
      | zero => exact absurd (show none = some _ from h) (by simp)
      | succ fuel3 =>
       have h : zgj k (zgo k l1 c2 free1 fuel2) t12 t13 l1 c2 free1 (zgk k (zgo k l1 c2 free1 fuel2) t12 t13 l1 c2 free1 fuel3) sets3 left1 at1 t23 t24 t25 t26 t27 t28 t29 m4 t30 t31 = some y0 := h
       unfold zgj at h
       refine W_seq (zbt ?_)
       rcases mcase1_some h with ⟨e15, h⟩ | ⟨p1, e15, h⟩
       ·exact WL_next0 hE (d := 67) (b := 66) (k := .str) (v := .bool) (left := left1) (last := at1) (by kernel_rfl) (by kernel_rfl) e15 (st' := ⟨[(0, .ptr 161 0), (1, .val yT74 l1), (2, .bclos 138 161), (3, BB free1), (10, .clos 170 [26, 160]), (11, I64 (List.length l1 : Int)), (12, I64 (List.length c2 : Int)), (13, .osl 37), (15, I64 t12), (52, I64 (wi64 ((List.length l1 : Int) + (1 : Int)))), (53, I64 t12), (66, .iter 66), (67, .tup [tB false])], [(26, .cells [.ptr 161 0] 212), (37, .o2 120 (.mp .str .bool) sets3), (66, .mit .str .bool left1 at1), (160, .cells [.val yT74 t13] 50), (161, .cells [SS t23, .val yT37 t24, .val yT34 t25, .val yT31 t26, .val yT31 t27, U8 t28, BB t29, .iter 162, .clos 163 [163]] 241), (162, .mp yT66 yT65 m4), (163, .cells [.val (.sl .str) t30, .val yT37 t31] 25)], []⟩) (by kernel_rfl) (WL_allC hE [0, 1, 2, 3, 10, 11, 12, 13, 15, 52, 53, 66, 68] [26, 37, 66, 160, 161, 162, 163] [] (orc := []) (by kernel_rfl) .n (N_then (W_seq (W_cond_false (by kernel_rfl) (W_exit (zbp (zbp (zbs (N_block (N_then (zbt (WL_allI hE (orc := []) (by kernel_rfl) .n (N_round (wi64 (t12 + (1 : Int)), sets3, t13, t23, t24, t25, t26, t27, t28, t29, m4, t30, t31) (Nat.lt_succ_self _) h)))))))))))))
       ·refine WL_next1 hE (d := 67) (b := 66) (k := .str) (v := .bool) (left := left1) (last := at1) (p := p1) (by kernel_rfl) (by kernel_rfl) e15 (st' := ⟨[(0, .ptr 161 0), (1, .val yT74 l1), (2, .bclos 138 161), (3, BB free1), (10, .clos 170 [26, 160]), (11, I64 (List.length l1 : Int)), (12, I64 (List.length c2 : Int)), (13, .osl 37), (15, I64 t12), (52, I64 (wi64 ((List.length l1 : Int) + (1 : Int)))), (53, I64 t12), (66, .iter 66), (67, .tup [tB true, tS p1.1, tB p1.2])], [(26, .cells [.ptr 161 0] 212), (37, .o2 120 (.mp .str .bool) sets3), (66, .mit .str .bool ([] : List yT68) [p1]), (160, .cells [.val yT74 t13] 50), (161, .cells [SS t23, .val yT37 t24, .val yT34 t25, .val yT31 t26, .val yT31 t27, U8 t28, BB t29, .iter 162, .clos 163 [163]] 241), (162, .mp yT66 yT65 m4), (163, .cells [.val (.sl .str) t30, .val yT37 t31] 25)], []⟩) (by kernel_rfl) (WL_allC hE [0, 1, 2, 3, 10, 11, 12, 13, 15, 52, 53, 66, 68] [26, 37, 66, 160, 161, 162, 163] [] (orc := []) (by kernel_rfl) .n (N_then (W_seq (W_cond_true (by kernel_rfl) (W_skip (N_then (W_block (W_seq (zbt (WL_allC hE [0, 1, 2, 3, 10, 11, 12, 13, 15, 16, 52, 53, 66] [26, 37, 66, 160, 161, 162, 163] [] (orc := []) (by kernel_rfl) .n (N_then (W_seq (W_seq (zbt ?_))))))))))))))
        obtain ⟨v2, e16, h⟩ := bind_some h
        refine WL_allI hE (st' := ⟨[(0, .ptr 161 0), (1, .val yT74 l1), (2, .bclos 138 161), (3, BB free1), (10, .clos 170 [26, 160]), (11, I64 (List.length l1 : Int)), (12, I64 (List.length c2 : Int)), (13, .osl 37), (15, I64 t12), (16, SS p1.1), (52, I64 (wi64 ((List.length l1 : Int) + (1 : Int)))), (53, I64 t12), (66, .iter 66), (77, BB (decide ((256 : Int) < (wi64 ((wi64 (v2 + (List.length l1 : Int))) - t12)))))], [(26, .cells [.ptr 161 0] 212), (37, .o2 120 (.mp .str .bool) sets3), (66, .mit .str .bool ([] : List yT68) [p1]), (160, .cells [.val yT74 t13] 50), (161, .cells [SS t23, .val yT37 t24, .val yT34 t25, .val yT31 t26, .val yT31 t27, U8 t28, BB t29, .iter 162, .clos 163 [163]] 241), (162, .mp yT66 yT65 m4), (163, .cells [.val (.sl .str) t30, .val yT37 t31] 25)], []⟩) (orc := [tI64 v2]) (by kernel_rfl) (.c e16 .n) (N_then (W_cond (b := decide ((256 : Int) < (wi64 ((wi64 (v2 + (List.length l1 : Int))) - t12)))) (by kernel_rfl) (fun e17 => ?_) (fun e17 => ?_)))
        ·replace h := ite_t e17 h
         refine W_seq (zbt (WL_allC hE [0, 2, 8, 9] [161, 162, 163] [8] (orc := []) (by kernel_rfl) .n (N_then (W_ret (zbq (zbr (zbq (zbr (zbr (zbq (zbq (zbr (zbq ?_)))))))))))))
         replace h := Option.some.inj h
         subst h
         exact N_renC [0, 2, 8, 9] [161, 162, 163] [8] [(161, 161), (162, 162), (163, 163), (8, 3500001)] (by kernel_rfl) (N_endB hE.P [161, 162, 163] [3500001] (.inl rfl) (by kernel_rfl) (by kernel_rfl))
        ·replace h := ite_f e17 h
         refine W_skip (N_then (W_seq (zbt (WL_tkC hE 3 [0, 1, 2, 3, 10, 11, 12, 13, 15, 16, 52, 53, 66, 78, 79, 80] [26, 37, 66, 160, 161, 162, 163] [] (orc := []) (by kernel_rfl) .n ?_))))
         obtain ⟨v3, e18, h⟩ := bind_some h
         refine WL_callBC hE (ziw k) (p1.1, t12, t23, t24, t25, t26, t27, t28, t29, m4, t30, t31, t13) v3 e18 (ρ := [(26, 19), (161, 20), (162, 21), (163, 22), (160, 23)]) (ρ' := [(19, 26), (20, 161), (21, 162), (22, 163), (23, 160)]) (n := 19) (by kernel_rfl) [0, 1, 2, 3, 10, 11, 12, 13, 15, 16, 52, 53, 66, 81] [26, 37, 66, 160, 161, 162, 163] [] (by kernel_rfl) (by kernel_rfl) (by kernel_rfl) (WL_allI hE (st' := ⟨[(0, .ptr 161 0), (1, .val yT74 l1), (2, .bclos 138 161), (3, BB free1), (10, .clos 170 [26, 160]), (11, I64 (List.length l1 : Int)), (12, I64 (List.length c2 : Int)), (13, .osl 37), (15, I64 t12), (16, SS p1.1), (17, BB v3.1), (52, I64 (wi64 ((List.length l1 : Int) + (1 : Int)))), (53, I64 t12), (66, .iter 66)], [(26, .cells [.ptr 161 0] 212), (37, .o2 120 (.mp .str .bool) sets3), (66, .mit .str .bool ([] : List yT68) [p1]), (160, .cells [.val yT74 t13] 50), (161, .cells [SS v3.2.1, .val yT37 v3.2.2.1, .val yT34 v3.2.2.2.1, .val yT31 v3.2.2.2.2.1, .val yT31 v3.2.2.2.2.2.1, U8 v3.2.2.2.2.2.2.1, BB v3.2.2.2.2.2.2.2.1, .iter 162, .clos 163 [163]] 241), (162, .mp yT66 yT65 v3.2.2.2.2.2.2.2.2.1), (163, .cells [.val (.sl .str) v3.2.2.2.2.2.2.2.2.2.1, .val yT37 v3.2.2.2.2.2.2.2.2.2.2] 25)], []⟩) (orc := []) (by kernel_rfl) .n (N_then (W_join (α := List yT48) (fun z => zgg t12 l1 p1 (zgk k (zgo k l1 c2 free1 fuel2) t12 t13 l1 c2 free1 fuel3) v3 free1 z = some y0) (fun sets4 => ⟨[(0, .ptr 161 0), (1, .val yT74 l1), (2, .bclos 138 161), (3, BB free1), (10, .clos 170 [26, 160]), (11, I64 (List.length l1 : Int)), (12, I64 (List.length c2 : Int)), (13, .osl 37), (15, I64 t12), (16, SS p1.1), (17, BB v3.1), (52, I64 (wi64 ((List.length l1 : Int) + (1 : Int)))), (53, I64 t12), (66, .iter 66)], [(26, .cells [.ptr 161 0] 212), (37, .o2 120 (.mp .str .bool) sets4), (66, .mit .str .bool ([] : List yT68) [p1]), (160, .cells [.val yT74 t13] 50), (161, .cells [SS v3.2.1, .val yT37 v3.2.2.1, .val yT34 v3.2.2.2.1, .val yT31 v3.2.2.2.2.1, .val yT31 v3.2.2.2.2.2.1, U8 v3.2.2.2.2.2.2.1, BB v3.2.2.2.2.2.2.2.1, .iter 162, .clos 163 [163]] 241), (162, .mp yT66 yT65 v3.2.2.2.2.2.2.2.2.1), (163, .cells [.val (.sl .str) v3.2.2.2.2.2.2.2.2.2.1, .val yT37 v3.2.2.2.2.2.2.2.2.2.2] 25)], []⟩) ?_ (fun hJ3 => ?_))))
         ·rintro sets4 h
          unfold zgg at h
          refine W_seq (zbt (WL_tkC hE 3 [0, 1, 2, 3, 10, 11, 12, 13, 15, 16, 52, 53, 66, 118] [26, 37, 66, 160, 161, 162, 163] [] (orc := []) (by kernel_rfl) .n (WL_join (α := Bool) (fun z => zgf t12 l1 p1 sets4 (zgk k (zgo k l1 c2 free1 fuel2) t12 t13 l1 c2 free1 fuel3) v3 z = some y0) (fun t32 => ⟨[(0, .ptr 161 0), (1, .val yT74 l1), (2, .bclos 138 161), (3, BB free1), (10, .clos 170 [26, 160]), (11, I64 (List.length l1 : Int)), (12, I64 (List.length c2 : Int)), (13, .osl 37), (15, I64 t12), (16, SS p1.1), (52, I64 (wi64 ((List.length l1 : Int) + (1 : Int)))), (53, I64 t12), (66, .iter 66), (120, BB t32)], [(26, .cells [.ptr 161 0] 212), (37, .o2 120 (.mp .str .bool) sets4), (66, .mit .str .bool ([] : List yT68) [p1]), (160, .cells [.val yT74 t13] 50), (161, .cells [SS v3.2.1, .val yT37 v3.2.2.1, .val yT34 v3.2.2.2.1, .val yT31 v3.2.2.2.2.1, .val yT31 v3.2.2.2.2.2.1, U8 v3.2.2.2.2.2.2.1, BB v3.2.2.2.2.2.2.2.1, .iter 162, .clos 163 [163]] 241), (162, .mp yT66 yT65 v3.2.2.2.2.2.2.2.2.1), (163, .cells [.val (.sl .str) v3.2.2.2.2.2.2.2.2.2.1, .val yT37 v3.2.2.2.2.2.2.2.2.2.2] 25)], []⟩) 2 ?_ (fun hJ2 => ?_))))
          ·rintro t32 h
           unfold zgf at h
           refine WL_nil (N_then (W_cond (b := t32) (by kernel_rfl) (fun e19 => ?_) (fun e19 => ?_)))
           ·replace h := ite_t e19 h
            refine W_seq (zbt (WL_allC hE [0, 1, 2, 3, 10, 11, 12, 13, 15, 20, 52, 53, 66] [26, 37, 66, 160, 161, 162, 163] [] (orc := []) (by kernel_rfl) .n (N_then (W_join (α := List UInt8) (fun z => zge t12 sets4 (zgk k (zgo k l1 c2 free1 fuel2) t12 t13 l1 c2 free1 fuel3) p1 v3 z = some y0) (fun more1 => ⟨[(0, .ptr 161 0), (1, .val yT74 l1), (2, .bclos 138 161), (3, BB free1), (10, .clos 170 [26, 160]), (11, I64 (List.length l1 : Int)), (12, I64 (List.length c2 : Int)), (13, .osl 37), (15, I64 t12), (20, SS more1), (52, I64 (wi64 ((List.length l1 : Int) + (1 : Int)))), (53, I64 t12), (66, .iter 66)], [(26, .cells [.ptr 161 0] 212), (37, .o2 120 (.mp .str .bool) sets4), (66, .mit .str .bool ([] : List yT68) [p1]), (160, .cells [.val yT74 t13] 50), (161, .cells [SS v3.2.1, .val yT37 v3.2.2.1, .val yT34 v3.2.2.2.1, .val yT31 v3.2.2.2.2.1, .val yT31 v3.2.2.2.2.2.1, U8 v3.2.2.2.2.2.2.1, BB v3.2.2.2.2.2.2.2.1, .iter 162, .clos 163 [163]] 241), (162, .mp yT66 yT65 v3.2.2.2.2.2.2.2.2.1), (163, .cells [.val (.sl .str) v3.2.2.2.2.2.2.2.2.2.1, .val yT37 v3.2.2.2.2.2.2.2.2.2.2] 25)], []⟩) ?_ (fun hJ3 => ?_)))))
            ·rintro more1 h
             unfold zge at h
             refine zbt ?_
             obtain ⟨_, e22, h⟩ := bind_some h
             replace e22 := zbw e22
             obtain ⟨q4, e20, h⟩ := bind_some h
             replace e20 := o2at_some e20
             obtain ⟨q5, e21, h⟩ := bind_some h
             replace e21 := o2ps_some e21
             exact WL_allI hE (orc := [⟨.map .str .bool, q4⟩, ⟨.map .str .bool, some q5⟩]) (by kernel_rfl) (.c e22 (.c e20 (.c e21 .n))) (N_block (N_round (List.set sets4 (wi64 (t12 + (1 : Int))).toNat (some (some (mset (eqEl .str) q5 more1 true))), ([] : List yT68), [p1], v3.2.1, v3.2.2.1, v3.2.2.2.1, v3.2.2.2.2.1, v3.2.2.2.2.2.1, v3.2.2.2.2.2.2.1, v3.2.2.2.2.2.2.2.1, v3.2.2.2.2.2.2.2.2.1, v3.2.2.2.2.2.2.2.2.2.1, v3.2.2.2.2.2.2.2.2.2.2) (Nat.lt_succ_self _) h))
            refine W_seq (zbt (WL_allC hE [0, 1, 2, 3, 10, 11, 12, 13, 15, 20, 52, 53, 66, 124] [26, 37, 66, 160, 161, 162, 163] [] (orc := []) (by kernel_rfl) .n (N_then (W_cond (b := decide (t12 < (List.length l1 : Int))) (by kernel_rfl) (fun e23 => ?_) (fun e23 => ?_)))))
            ·replace h := ite_t e23 h
             refine zbt ?_
             obtain ⟨x1, e24, h⟩ := bind_some h
             obtain ⟨_, e25, h⟩ := bind_some h
             replace e25 := zbw e25
             exact WL_allI hE (orc := [tI32 x1]) (by kernel_rfl) (.c e24 (.c e25 .n)) (hJ3 (p1.1 ++ ((Utf8.encode x1).data.toList)) h)
            ·replace h := ite_f e23 h
             exact W_skip (N_normI (by kernel_rfl) (hJ3 p1.1 h))
           ·replace h := ite_f e19 h
            exact W_skip (N_block (N_normI (by kernel_rfl) (N_round (sets4, ([] : List yT68), [p1], v3.2.1, v3.2.2.1, v3.2.2.2.1, v3.2.2.2.2.1, v3.2.2.2.2.2.1, v3.2.2.2.2.2.2.1, v3.2.2.2.2.2.2.2.1, v3.2.2.2.2.2.2.2.2.1, v3.2.2.2.2.2.2.2.2.2.1, v3.2.2.2.2.2.2.2.2.2.2) (Nat.lt_succ_self _) h)))
          refine WL_splitC 118 (b := !v3.1) (by kernel_rfl) (fun e26 => ?_) (fun e26 => ?_)
          ·rw [or_t e26] at h
           exact WL_allI hE (orc := []) (by kernel_rfl) .n (hJ2 true h)
          ·rw [or_f e26] at h
           exact WL_allI hE (orc := []) (by kernel_rfl) .n (hJ2 free1 h)
         refine W_seq (zbt (WL_allC hE [0, 1, 2, 3, 10, 11, 12, 13, 15, 16, 17, 52, 53, 66, 82] [26, 37, 66, 160, 161, 162, 163] [] (orc := []) (by kernel_rfl) .n (N_then (W_cond (b := v3.1) (by kernel_rfl) (fun e27 => ?_) (fun e27 => ?_)))))
         ·replace h := ite_t e27 h
          refine W_seq (zbt ?_)
          obtain ⟨s1, e28, h⟩ := bind_some h
          refine WL_tkC hE 8 [0, 1, 2, 3, 10, 11, 12, 13, 15, 16, 17, 52, 53, 66, 83, 84, 90] [26, 37, 66, 160, 161, 162, 163] [] (orc := [⟨yT74, s1⟩]) (by kernel_rfl) (.c e28 .n) ?_
          obtain ⟨v4, e29, h⟩ := bind_some h
          refine WL_callB hE (zit k) (s1, v3.2.1, v3.2.2.1, v3.2.2.2.1, v3.2.2.2.2.1, v3.2.2.2.2.2.1, v3.2.2.2.2.2.2.1, v3.2.2.2.2.2.2.2.1, v3.2.2.2.2.2.2.2.2.1, v3.2.2.2.2.2.2.2.2.2.1, v3.2.2.2.2.2.2.2.2.2.2) v4 e29 (ρ := [(161, 42), (162, 43), (163, 44)]) (ρ' := [(42, 161), (43, 162), (44, 163), (5, 91)]) (n := 42) (by kernel_rfl) [0, 1, 2, 3, 10, 11, 12, 13, 15, 16, 17, 52, 53, 66, 83, 91] [26, 37, 66, 160, 161, 162, 163] [91] (by kernel_rfl) (by kernel_rfl) (st' := ⟨[(0, .ptr 161 0), (1, .val yT74 l1), (2, .bclos 138 161), (3, BB free1), (10, .clos 170 [26, 160]), (11, I64 (List.length l1 : Int)), (12, I64 (List.length c2 : Int)), (13, .osl 37), (15, I64 t12), (16, SS p1.1), (17, BB v3.1), (52, I64 (wi64 ((List.length l1 : Int) + (1 : Int)))), (53, I64 t12), (66, .iter 66), (83, SS p1.1), (91, .row 91)], [(26, .cells [.ptr 161 0] 212), (37, .o2 120 (.mp .str .bool) sets3), (66, .mit .str .bool ([] : List yT68) [p1]), (160, .cells [.val yT74 t13] 50), (161, .cells [SS v3.2.1, .val yT37 v3.2.2.1, .val yT34 v3.2.2.2.1, .val yT31 v3.2.2.2.2.1, .val yT31 v3.2.2.2.2.2.1, U8 v3.2.2.2.2.2.2.1, BB v3.2.2.2.2.2.2.2.1, .iter 162, .clos 163 [163]] 241), (162, .mp yT66 yT65 v3.2.2.2.2.2.2.2.2.1), (163, .cells [.val (.sl .str) v3.2.2.2.2.2.2.2.2.2.1, .val yT37 v3.2.2.2.2.2.2.2.2.2.2] 25)], [(91, ⟨21, (.int .i32), v4⟩)]⟩) (by kernel_rfl) ?_
          obtain ⟨_, e30, h⟩ := bind_some h
          replace e30 := zbw e30
          obtain ⟨_, e31, h⟩ := bind_some h
          replace e31 := zbw e31
          refine WL_allC hE [0, 1, 2, 3, 10, 11, 12, 13, 15, 16, 17, 18, 52, 53, 66] [26, 37, 66, 160, 161, 162, 163] [] (orc := []) (by kernel_rfl) (.c e30 (.c e31 .n)) (N_then (W_seq (zbt (WL_allC hE [0, 1, 2, 3, 10, 11, 12, 13, 15, 16, 17, 18, 19, 52, 53, 66] [26, 37, 66, 160, 161, 162, 163] [] (orc := []) (by kernel_rfl) .n (N_then (W_join (α := yT71) (fun z => zgh sets3 t12 l1 p1 (zgk k (zgo k l1 c2 free1 fuel2) t12 t13 l1 c2 free1 fuel3) v3 free1 z.1 z.2 = some y0) (fun z => ⟨[(0, .ptr 161 0), (1, .val yT74 l1), (2, .bclos 138 161), (3, BB free1), (10, .clos 170 [26, 160]), (11, I64 (List.length l1 : Int)), (12, I64 (List.length c2 : Int)), (13, .osl 37), (15, I64 t12), (16, SS p1.1), (17, BB v3.1), (18, SS (z.1)), (19, I64 (z.2)), (52, I64 (wi64 ((List.length l1 : Int) + (1 : Int)))), (53, I64 t12), (66, .iter 66)], [(26, .cells [.ptr 161 0] 212), (37, .o2 120 (.mp .str .bool) sets3), (66, .mit .str .bool ([] : List yT68) [p1]), (160, .cells [.val yT74 t13] 50), (161, .cells [SS v3.2.1, .val yT37 v3.2.2.1, .val yT34 v3.2.2.2.1, .val yT31 v3.2.2.2.2.1, .val yT31 v3.2.2.2.2.2.1, U8 v3.2.2.2.2.2.2.1, BB v3.2.2.2.2.2.2.2.1, .iter 162, .clos 163 [163]] 241), (162, .mp yT66 yT65 v3.2.2.2.2.2.2.2.2.1), (163, .cells [.val (.sl .str) v3.2.2.2.2.2.2.2.2.2.1, .val yT37 v3.2.2.2.2.2.2.2.2.2.2] 25)], []⟩) ?_ (fun hJ4 => ?_)))))))
          ·rintro ⟨more2, to1⟩ h
           unfold zgh at h
           refine zbt ?_
           obtain ⟨_, e34, h⟩ := bind_some h
           replace e34 := zbw e34
           obtain ⟨q6, e32, h⟩ := bind_some h
           replace e32 := o2at_some e32
           obtain ⟨q7, e33, h⟩ := bind_some h
           replace e33 := o2ps_some e33
           exact WL_allI hE (orc := [⟨.map .str .bool, q6⟩, ⟨.map .str .bool, some q7⟩]) (by kernel_rfl) (.c e34 (.c e32 (.c e33 .n))) (hJ3 (List.set sets3 (to1).toNat (some (some (mset (eqEl .str) q7 more2 true)))) h)
          refine W_seq (zbt (WL_allC hE [0, 1, 2, 3, 10, 11, 12, 13, 15, 16, 17, 18, 19, 52, 53, 66, 98] [26, 37, 66, 160, 161, 162, 163] [] (orc := []) (by kernel_rfl) .n (N_then (W_cond (b := (List.length c2 : Int) == (0 : Int)) (by kernel_rfl) (fun e35 => ?_) (fun e35 => ?_)))))
          ·replace h := ite_t e35 h
           refine W_join (α := List UInt8) (fun z => zgi sets3 t12 l1 p1 (zgk k (zgo k l1 c2 free1 fuel2) t12 t13 l1 c2 free1 fuel3) v3 free1 c2 z = some y0) (fun more3 => ⟨[(0, .ptr 161 0), (1, .val yT74 l1), (2, .bclos 138 161), (3, BB free1), (10, .clos 170 [26, 160]), (11, I64 (List.length l1 : Int)), (12, I64 (List.length c2 : Int)), (13, .osl 37), (15, I64 t12), (16, SS p1.1), (17, BB v3.1), (18, SS more3), (19, I64 (wi64 (t12 + (List.length c2 : Int)))), (52, I64 (wi64 ((List.length l1 : Int) + (1 : Int)))), (53, I64 t12), (66, .iter 66)], [(26, .cells [.ptr 161 0] 212), (37, .o2 120 (.mp .str .bool) sets3), (66, .mit .str .bool ([] : List yT68) [p1]), (160, .cells [.val yT74 t13] 50), (161, .cells [SS v3.2.1, .val yT37 v3.2.2.1, .val yT34 v3.2.2.2.1, .val yT31 v3.2.2.2.2.1, .val yT31 v3.2.2.2.2.2.1, U8 v3.2.2.2.2.2.2.1, BB v3.2.2.2.2.2.2.2.1, .iter 162, .clos 163 [163]] 241), (162, .mp yT66 yT65 v3.2.2.2.2.2.2.2.2.1), (163, .cells [.val (.sl .str) v3.2.2.2.2.2.2.2.2.2.1, .val yT37 v3.2.2.2.2.2.2.2.2.2.2] 25)], []⟩) ?_ (fun hJ5 => ?_)
           ·rintro more3 h
            unfold zgi at h
            exact zbt (WL_allI hE (orc := []) (by kernel_rfl) .n (hJ4 (more3, wi64 ((wi64 (t12 + (List.length c2 : Int))) + (1 : Int))) h))
           refine W_seq (zbt (WL_allC hE [0, 1, 2, 3, 10, 11, 12, 13, 15, 16, 17, 18, 19, 52, 53, 66, 101] [26, 37, 66, 160, 161, 162, 163] [] (orc := []) (by kernel_rfl) .n (N_then (W_cond (b := decide (t12 < (List.length l1 : Int))) (by kernel_rfl) (fun e36 => ?_) (fun e36 => ?_)))))
           ·replace h := ite_t e36 h
            refine zbt ?_
            obtain ⟨x2, e37, h⟩ := bind_some h
            obtain ⟨_, e38, h⟩ := bind_some h
            replace e38 := zbw e38
            exact WL_allI hE (orc := [tI32 x2]) (by kernel_rfl) (.c e37 (.c e38 .n)) (hJ5 ((p1.1 ++ (za9 v4)) ++ ((Utf8.encode x2).data.toList)) h)
           ·replace h := ite_f e36 h
            exact W_skip (N_normI (by kernel_rfl) (hJ5 (p1.1 ++ (za9 v4)) h))
          ·replace h := ite_f e35 h
           exact W_skip (N_normI (by kernel_rfl) (hJ4 (p1.1 ++ (za9 v4), wi64 (t12 + (List.length c2 : Int))) h))
         ·replace h := ite_f e27 h
          exact W_skip (N_normI (by kernel_rfl) (hJ3 sets3 h))
    ·replace h := ite_f e10 h
     refine W_exit (zbp (zbp (zbs (N_then (W_seq (zbt ?_))))))
     obtain ⟨_, e40, h⟩ := bind_some h
     replace e40 := zbw e40
     obtain ⟨q8, e39, h⟩ := bind_some h
     replace e39 := o2at_some e39
     refine WL_allC hE [0, 2, 21] [161, 162, 163] [] (orc := [⟨.unit, ()⟩, ⟨.map .str .bool, q8⟩]) (by kernel_rfl) (.c e40 (.c e39 .n)) (N_then (W_seq (W_seq (zbt (WL_allC hE [0, 2, 21, 146] [161, 162, 163] [] (orc := []) (by kernel_rfl) .n (N_then (W_cond (b := decide ((1024 : Int) < (List.length (q8.getD []) : Int))) (by kernel_rfl) (fun e41 => ?_) (fun e41 => ?_))))))))
     ·replace h := ite_t e41 h
      refine W_seq (zbt (WL_allI hE (st' := ⟨[(0, .ptr 161 0), (2, .bclos 138 161), (8, .row 8), (9, I64 (9 : Int))], [(161, .cells [SS t14, .val yT37 t15, .val yT34 t16, .val yT31 t17, .val yT31 t18, U8 t19, BB t20, .iter 162, .clos 163 [163]] 241), (162, .mp yT66 yT65 m3), (163, .cells [.val (.sl .str) t21, .val yT37 t22] 25)], [(8, ⟨9, .str, ([] : List (List UInt8))⟩)]⟩) (orc := []) (by kernel_rfl) .n (N_then (W_ret (zbq ?_)))))
      replace h := Option.some.inj h
      subst h
      exact N_renC [0, 2, 8, 9] [161, 162, 163] [8] [(161, 161), (162, 162), (163, 163), (8, 3500001)] (by kernel_rfl) (N_endB hE.P [161, 162, 163] [3500001] (.inl rfl) (by kernel_rfl) (by kernel_rfl))
     ·replace h := ite_f e41 h
      refine W_skip (N_then (W_seq (zbt (WL_allC hE [0, 2, 21, 22] [161, 162, 163] [22] (orc := []) (by kernel_rfl) .n (N_then (W_seq (W_seq (zbt (WL_allI hE (orc := []) (by kernel_rfl) .n (N_then (W_block (W_loop (α := (List yT68 × List yT68 × List (List UInt8))) (fun n z => zgm k t14 t15 t16 t17 t18 t19 t20 m3 t21 t22 n z.1 z.2.1 z.2.2 = some y0) (fun z => ⟨[(0, .ptr 161 0), (2, .bclos 138 161), (22, .row 22), (148, .iter 148)], [(148, .mit .str .bool (z.1) (z.2.1)), (161, .cells [SS t14, .val yT37 t15, .val yT34 t16, .val yT31 t17, .val yT31 t18, U8 t19, BB t20, .iter 162, .clos 163 [163]] 241), (162, .mp yT66 yT65 m3), (163, .cells [.val (.sl .str) t21, .val yT37 t22] 25)], [(22, ⟨9, .str, (z.2.2)⟩)]⟩) ?_ (k := k) (x := (q8.getD [], ([] : List yT68), ([] : List (List UInt8)))) h))))))))))))
      clear h
      rintro fuel4 ⟨left2, at2, out1⟩ h
      cases fuel4 with
      | zero => exact absurd (show none = some _ from h) (by simp)
      | succ fuel4 =>
       have h : zgl k t14 t15 t16 t17 t18 t19 t20 m3 t21 t22 (zgm k t14 t15 t16 t17 t18 t19 t20 m3 t21 t22 fuel4) left2 at2 out1 = some y0 := h
       unfold zgl at h
       refine W_seq (zbt ?_)
       rcases mcase1_some h with ⟨e42, h⟩ | ⟨p2, e42, h⟩
       ·refine WL_next0 hE (d := 149) (b := 148) (k := .str) (v := .bool) (left := left2) (last := at2) (by kernel_rfl) (by kernel_rfl) e42 (st' := ⟨[(0, .ptr 161 0), (2, .bclos 138 161), (22, .row 22), (148, .iter 148), (149, .tup [tB false])], [(148, .mit .str .bool left2 at2), (161, .cells [SS t14, .val yT37 t15, .val yT34 t16, .val yT31 t17, .val yT31 t18, U8 t19, BB t20, .iter 162, .clos 163 [163]] 241), (162, .mp yT66 yT65 m3), (163, .cells [.val (.sl .str) t21, .val yT37 t22] 25)], [(22, ⟨9, .str, out1⟩)]⟩) (by kernel_rfl) (WL_allC hE [0, 2, 22, 148, 150] [148, 161, 162, 163] [22] (orc := []) (by kernel_rfl) .n (N_then (W_seq (W_cond_false (by kernel_rfl) (W_exit (zbp (zbp (zbs (N_then (W_seq (zbt (WL_allC hE [0, 2, 8, 9] [161, 162, 163] [22] (orc := []) (by kernel_rfl) .n (N_then (W_ret ?_))))))))))))))
        replace h := Option.some.inj h
        subst h
        exact N_renC [0, 2, 8, 9] [161, 162, 163] [22] [(161, 161), (162, 162), (163, 163), (22, 3500001)] (by kernel_rfl) (N_endB hE.P [161, 162, 163] [3500001] (.inl rfl) (by kernel_rfl) (by kernel_rfl))
       ·refine WL_next1 hE (d := 149) (b := 148) (k := .str) (v := .bool) (left := left2) (last := at2) (p := p2) (by kernel_rfl) (by kernel_rfl) e42 (st' := ⟨[(0, .ptr 161 0), (2, .bclos 138 161), (22, .row 22), (148, .iter 148), (149, .tup [tB true, tS p2.1, tB p2.2])], [(148, .mit .str .bool ([] : List yT68) [p2]), (161, .cells [SS t14, .val yT37 t15, .val yT34 t16, .val yT31 t17, .val yT31 t18, U8 t19, BB t20, .iter 162, .clos 163 [163]] 241), (162, .mp yT66 yT65 m3), (163, .cells [.val (.sl .str) t21, .val yT37 t22] 25)], [(22, ⟨9, .str, out1⟩)]⟩) (by kernel_rfl) (WL_allC hE [0, 2, 22, 148, 150] [148, 161, 162, 163] [22] (orc := []) (by kernel_rfl) .n (N_then (W_seq (W_cond_true (by kernel_rfl) (W_skip (N_then (W_block (W_seq (zbt (WL_allI hE (st' := ⟨[(0, .ptr 161 0), (2, .bclos 138 161), (22, .row 22), (23, SS p2.1), (148, .iter 148)], [(148, .mit .str .bool ([] : List yT68) [p2]), (161, .cells [SS t14, .val yT37 t15, .val yT34 t16, .val yT31 t17, .val yT31 t18, U8 t19, BB t20, .iter 162, .clos 163 [163]] 241), (162, .mp yT66 yT65 m3), (163, .cells [.val (.sl .str) t21, .val yT37 t22] 25)], [(22, ⟨9, .str, out1⟩)]⟩) (orc := []) (by kernel_rfl) .n (N_then (W_seq (W_seq (zbt ?_))))))))))))))
        obtain ⟨v5, e43, h⟩ := bind_some h
        refine WL_allC hE [0, 2, 22, 23, 148, 155] [148, 161, 162, 163] [22] (orc := [tI64 v5]) (by kernel_rfl) (.c e43 .n) (N_then (W_cond (b := decide ((256 : Int) < v5)) (by kernel_rfl) (fun e44 => ?_) (fun e44 => ?_)))
        ·replace h := ite_t e44 h
         refine W_seq (zbt (WL_allC hE [0, 2, 8, 9] [161, 162, 163] [8] (orc := []) (by kernel_rfl) .n (N_then (W_ret (zbq (zbr (zbq (zbr (zbq ?_)))))))))
         replace h := Option.some.inj h
         subst h
         exact N_renC [0, 2, 8, 9] [161, 162, 163] [8] [(161, 161), (162, 162), (163, 163), (8, 3500001)] (by kernel_rfl) (N_endB hE.P [161, 162, 163] [3500001] (.inl rfl) (by kernel_rfl) (by kernel_rfl))
        ·replace h := ite_f e44 h
         refine W_skip (N_then (zbt ?_))
         obtain ⟨_, e45, h⟩ := bind_some h
         replace e45 := zbw e45
         exact WL_allI hE (orc := []) (by kernel_rfl) (.c e45 .n) (N_block (N_round (([] : List yT68), [p2], out1 ++ ([p2.1] : List (List UInt8))) (Nat.lt_succ_self _) h))
noncomputable def pb_rule_maker_run_i7 (k : Nat) : PB Tryz.prog Gl yT15 yT13 := ⟨136, B_rule_maker_run_i7 k, fun st => getH st [.sl 1 yT74, .sl 3 .bool, .bx 161 0 .str, .bx 161 1 yT37, .bx 161 2 yT34, .bx 161 3 yT31, .bx 161 4 yT31, .bx 161 5 (.int .u8), .bx 161 6 .bool, .mp 162 yT66 yT65, .bx 163 0 (.sl .str), .bx 163 1 yT37], fun z => zgr k (z.1) (z.2.1) (z.2.2.1) (z.2.2.2.1) (z.2.2.2.2.1) (z.2.2.2.2.2.1) (z.2.2.2.2.2.2.1) (z.2.2.2.2.2.2.2.1) (z.2.2.2.2.2.2.2.2.1) (z.2.2.2.2.2.2.2.2.2.1) (z.2.2.2.2.2.2.2.2.2.2.1) (z.2.2.2.2.2.2.2.2.2.2.2), (b_rule_maker_run_i7 k), fun _ _ h => h⟩
end Go.Ev
