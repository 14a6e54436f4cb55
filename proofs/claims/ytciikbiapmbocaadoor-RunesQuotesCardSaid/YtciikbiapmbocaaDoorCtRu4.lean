/- Contracts, by program. -/
import Derived.Test.YtciikbiapmbocaaDoorProg
import Derived.Test.YtciikbiapmbocaaDoorME3
import Derived.Test.YtciikbiapmbocaaDoorMS1
import Derived.Test.YtciikbiapmbocaaDoorML1
import Derived.Test.YtciikbiapmbocaaDoorCtRu4P1
import Derived.KernelRfl
namespace Go.Ev
open Go Go.Proofs
set_option linter.unusedVariables false
set_option maxRecDepth 100000

def C_r01_Text (k : Nat) : FnC := ⟨true, 1, [], fun | [⟨(.sl (.int .i32)), l1⟩], [⟨.str, rz⟩] => r01_Text k l1 = some rz | _, _ => False⟩
noncomputable def E_r01_Text (k : Nat) : Env := ⟨Tryd.prog, Gu, 22, [(41, C_r01_one k)]⟩
theorem c_r01_Text (k : Nat) : Contract Tryd.prog Gu 31 (C_r01_Text k) := by
  refine contract_of Gu_stable (fn := Tryd.f31) Tryd.func31 (by kernel_rfl) rfl ?_ ?_
  · intro xs rs h
    unfold C_r01_Text at h
    simp only at h
    split at h
    · exact ⟨by show 1 ≤ _; rw [Tryd.ntmps31]; decide, rfl, fun _ u hu => by simp at hu; (rcases hu with rfl) <;> rfl⟩
    · exact h.elim
  · intro w0 M xs rs hG h
    unfold C_r01_Text at h
    simp only at h
    split at h
    case h_2 => exact h.elim
    rename_i l1 rz
    change List (Int) at l1
    change List UInt8 at rz
    have hE : EnvOK (E_r01_Text k) ⟨Tryd.prog, Tryd.f31.ntmps, w0, M, fun _ => False, fun _ => undef⟩ := (EnvOK.cons (c_r01_one k) (EnvOK.nil rfl Tryd.ntmps31 hG))
    unfold r01_Text at h
    refine W_seq (W_region (WL_allC hE [0] [] [] (orc := []) (by kernel_rfl) .n (N_then (W_seq (W_region (WL_allC hE [0, 3] [] [3] (orc := []) (by kernel_rfl) .n (N_then (W_seq (W_seq (W_region (WL_allI hE (orc := []) (by kernel_rfl) .n (N_then (W_block (W_loop (α := (Int × List (Int))) (fun n z => r01_Text_l1 k l1 n z.1 z.2 = some rz) (fun z => ⟨[(0, .val (.sl (.int .i32)) l1), (3, .row 3), (4, I64 (z.1))], [], [(3, ⟨5, (.int .u8), (z.2)⟩)]⟩) ?_ (k := k) (x := ((0 : Int), ([] : List (Int)))) h))))))))))))))
    clear h
    rintro fuel1 ⟨i1, out1⟩ h
    cases fuel1 with
    | zero => exact absurd (show none = some _ from h) (by simp)
    | succ fuel1 =>
      have h : r01_Text_b1 k l1 (r01_Text_l1 k l1 fuel1) i1 out1 = some rz := h
      unfold r01_Text_b1 at h
      refine W_seq (W_seq (W_region (WL_allC hE [0, 3, 4, 9] [] [3] (orc := []) (by kernel_rfl) .n (N_then (W_cond (b := decide (i1 < (List.length l1 : Int))) (by kernel_rfl) (fun e1 => ?_) (fun e1 => ?_))))))
      · replace h := ite_t e1 h
        refine W_skip (N_then (W_seq (W_block (W_seq (W_region ?_)))))
        obtain ⟨x1, e2, h⟩ := bind_some h
        obtain ⟨v1, e3, h⟩ := bind_some h
        refine WL_allC hE [0, 3, 4, 5] [] [3] (orc := [tI32 x1, ⟨(.sl (.int .u8)), v1⟩]) (by kernel_rfl) (.c e2 (.c e3 .n)) (N_then (W_region ?_))
        obtain ⟨_, e4, h⟩ := bind_some h
        replace e4 := chk_some e4
        exact WL_allC hE [0, 3, 4] [] [3] (orc := []) (by kernel_rfl) (.c e4 .n) (N_block (N_then (W_region (WL_allI hE (orc := []) (by kernel_rfl) .n (N_round (wi64 (i1 + (1 : Int)), out1 ++ v1) (Nat.lt_succ_self _) h)))))
      · replace h := ite_f e1 h
        refine W_exit (N_then_exit (N_then_exit (N_block_exit (N_then (W_seq (W_region (WL_allI hE (st' := ⟨[(2, SS (bytesStr out1))], [], []⟩) (orc := []) (by kernel_rfl) .n (N_then (W_ret ?_)))))))))
        cases h
        exact N_end (.inl rfl) (by kernel_rfl)

def C_l01_RunesQuotes (k : Nat) : FnC := ⟨true, 1, [], fun | [⟨.str, s1⟩, ⟨.str, q1⟩, ⟨(.sl (.int .i32)), l1⟩], [⟨.bool, rz⟩] => l01_RunesQuotes k s1 q1 l1 = some rz | _, _ => False⟩
noncomputable def E_l01_RunesQuotes (k : Nat) : Env := ⟨Tryd.prog, Gu, 130, [(12, C_l01_long k), (27, C_runes_Quote k), (28, C_r01_Quote k), (29, C_runes_Plain k), (30, C_r01_Plain k), (26, C_runes_Text k), (31, C_r01_Text k)]⟩
theorem c_l01_RunesQuotes (k : Nat) : Contract Tryd.prog Gu 7 (C_l01_RunesQuotes k) := by
  refine contract_of Gu_stable (fn := Tryd.f7) Tryd.func7 (by kernel_rfl) rfl ?_ ?_
  · intro xs rs h
    unfold C_l01_RunesQuotes at h
    simp only at h
    split at h
    · exact ⟨by show 3 ≤ _; rw [Tryd.ntmps7]; decide, rfl, fun _ u hu => by simp at hu; (rcases hu with rfl) <;> rfl⟩
    · exact h.elim
  · intro w0 M xs rs hG h
    unfold C_l01_RunesQuotes at h
    simp only at h
    split at h
    case h_2 => exact h.elim
    rename_i s1 q1 l1 rz
    change List UInt8 at s1
    change List UInt8 at q1
    change List (Int) at l1
    change Bool at rz
    have hE : EnvOK (E_l01_RunesQuotes k) ⟨Tryd.prog, Tryd.f7.ntmps, w0, M, fun _ => False, fun _ => undef⟩ := (EnvOK.cons (c_l01_long k) (EnvOK.cons (c_runes_Quote k) (EnvOK.cons (c_r01_Quote k) (EnvOK.cons (c_runes_Plain k) (EnvOK.cons (c_r01_Plain k) (EnvOK.cons (c_runes_Text k) (EnvOK.cons (c_r01_Text k) (EnvOK.nil rfl Tryd.ntmps7 hG))))))))
    unfold l01_RunesQuotes at h
    refine W_seq (W_region (WL_allC hE [0, 1, 2] [] [] (orc := []) (by kernel_rfl) .n (N_then (W_seq (W_seq (W_region ?_))))))
    obtain ⟨v1, e1, h⟩ := bind_some h
    refine WL_tkC hE 3 [0, 1, 2, 22] [] [] (orc := [tB v1]) (by kernel_rfl) (.c e1 .n) (WL_join (α := Bool) (fun z => l01_RunesQuotes_j1 k s1 q1 l1 z = some rz) (fun t1 => ⟨[(0, SS s1), (1, SS q1), (2, .val (.sl (.int .i32)) l1), (31, BB t1)], [], []⟩) 9 ?_ (fun hJ1 => ?_))
    · rintro t1 h
      unfold l01_RunesQuotes_j1 at h
      refine WL_tkC hE 1 [0, 1, 2, 32] [] [] (orc := []) (by kernel_rfl) .n (WL_join (α := Bool) (fun z => l01_RunesQuotes_j2 k s1 q1 l1 z = some rz) (fun t2 => ⟨[(0, SS s1), (1, SS q1), (2, .val (.sl (.int .i32)) l1), (36, BB t2)], [], []⟩) 4 ?_ (fun hJ2 => ?_))
      · rintro t2 h
        unfold l01_RunesQuotes_j2 at h
        refine WL_tkC hE 1 [0, 1, 2, 37] [] [] (orc := []) (by kernel_rfl) .n (WL_join (α := Bool) (fun z => l01_RunesQuotes_j3 k s1 q1 l1 z = some rz) (fun t3 => ⟨[(0, SS s1), (1, SS q1), (2, .val (.sl (.int .i32)) l1), (41, BB t3)], [], []⟩) 4 ?_ (fun hJ3 => ?_))
        · rintro t3 h
          unfold l01_RunesQuotes_j3 at h
          refine WL_nil (N_then (W_cond (b := t3) (by kernel_rfl) (fun e2 => ?_) (fun e2 => ?_)))
          · replace h := ite_t e2 h
            refine W_seq (W_region (WL_allC hE [6] [] [] (orc := []) (by kernel_rfl) .n (N_then (W_ret (N_then_ret ?_)))))
            cases h
            exact N_end (.inl rfl) (by kernel_rfl)
          · replace h := ite_f e2 h
            refine W_skip (N_then (W_seq (W_region ?_)))
            obtain ⟨v2, e3, h⟩ := bind_some h
            refine WL_allC hE [0, 1, 2, 7, 8] [] [] (orc := [tS v2.1, tI64 v2.2]) (by kernel_rfl) (.c e3 .n) (N_then (W_seq (W_region ?_)))
            obtain ⟨v3, e4, h⟩ := bind_some h
            refine WL_allC hE [1, 2, 7, 8, 9, 10] [] [] (orc := [tS v3.1, tI64 v3.2]) (by kernel_rfl) (.c e4 .n) (N_then (W_seq (W_region ?_)))
            obtain ⟨v4, e5, h⟩ := bind_some h
            refine WL_allI hE (st' := ⟨[(1, SS q1), (2, .val (.sl (.int .i32)) l1), (7, SS v2.1), (8, I64 v2.2), (9, SS v3.1), (10, I64 v3.2), (11, SS v4.1), (12, I64 v4.2.1), (13, I64 v4.2.2)], [], []⟩) (orc := [tS v4.1, tI64 v4.2.1, tI64 v4.2.2]) (by kernel_rfl) (.c e5 .n) (N_then (W_seq (W_region ?_)))
            obtain ⟨v5, e6, h⟩ := bind_some h
            refine WL_allC hE [2, 7, 8, 9, 10, 11, 12, 13, 14, 15, 16] [] [] (orc := [tS v5.1, tI64 v5.2.1, tI64 v5.2.2]) (by kernel_rfl) (.c e6 .n) (N_then (W_seq (W_region (WL_allC hE [2, 7, 8, 9, 10, 11, 12, 13, 14, 15, 16, 17] [] [17] (orc := []) (by kernel_rfl) .n (N_then (W_seq (W_region ?_)))))))
            obtain ⟨_, e7, h⟩ := bind_some h
            replace e7 := chk_some e7
            refine WL_allC hE [2, 7, 8, 9, 10, 11, 12, 13, 14, 15, 16, 17] [] [17] (orc := []) (by kernel_rfl) (.c e7 .n) (N_then (W_seq (W_region ?_)))
            obtain ⟨_, e8, h⟩ := bind_some h
            replace e8 := chk_some e8
            refine WL_allI hE (st' := ⟨[(2, .val (.sl (.int .i32)) l1), (7, SS v2.1), (8, I64 v2.2), (9, SS v3.1), (10, I64 v3.2), (11, SS v4.1), (12, I64 v4.2.1), (13, I64 v4.2.2), (14, SS v5.1), (15, I64 v5.2.1), (16, I64 v5.2.2), (17, .row 17)], [], [(17, ⟨21, (.int .i32), (([] : List (Int)) ++ l1) ++ ([(77 : Int)] : List (Int))⟩)]⟩) (orc := []) (by kernel_rfl) (.c e8 .n) (N_then (W_seq (W_region ?_)))
            obtain ⟨s2, e9, h⟩ := bind_some h
            obtain ⟨v6, e10, h⟩ := bind_some h
            obtain ⟨v7, e11, h⟩ := bind_some h
            refine WL_allC hE [2, 7, 8, 9, 10, 11, 12, 13, 14, 15, 16, 17, 18] [] [] (orc := [⟨.unit, ()⟩, ⟨(.sl (.int .i32)), s2⟩, tS v6, tS v7]) (by kernel_rfl) (.c e9 (.c e10 (.c e11 .n))) (N_then (W_seq (W_seq (W_region (WL_allI hE (orc := []) (by kernel_rfl) .n (N_then (W_block (W_loop (α := (Bool × Int)) (fun n z => l01_RunesQuotes_l1 l1 v4 v5 v2 v3 n z.1 z.2 = some rz) (fun z => ⟨[(2, .val (.sl (.int .i32)) l1), (7, SS v2.1), (8, I64 v2.2), (9, SS v3.1), (10, I64 v3.2), (11, SS v4.1), (12, I64 v4.2.1), (13, I64 v4.2.2), (14, SS v5.1), (15, I64 v5.2.1), (16, I64 v5.2.2), (17, .val (.sl (.int .i32)) ((([] : List (Int)) ++ l1) ++ ([(77 : Int)] : List (Int)))), (18, BB (z.1)), (19, I64 (z.2))], [], []⟩) ?_ (k := k) (x := (v6 == v7, (0 : Int))) h))))))))
            clear h
            rintro fuel1 ⟨same1, i1⟩ h
            cases fuel1 with
            | zero => exact absurd (show none = some _ from h) (by simp)
            | succ fuel1 =>
              have h : l01_RunesQuotes_b1 l1 v4 v5 v2 v3 (l01_RunesQuotes_l1 l1 v4 v5 v2 v3 fuel1) same1 i1 = some rz := h
              unfold l01_RunesQuotes_b1 at h
              refine W_seq (W_seq (W_region (WL_allC hE [2, 7, 8, 9, 10, 11, 12, 13, 14, 15, 16, 17, 18, 19, 81] [] [] (orc := []) (by kernel_rfl) .n (N_then (W_cond (b := decide (i1 < (List.length l1 : Int))) (by kernel_rfl) (fun e12 => ?_) (fun e12 => ?_))))))
              · replace h := ite_t e12 h
                refine W_skip (N_then (W_seq (W_block (W_draw (by kernel_rfl) (by kernel_rfl) (WD_tkC hE 2 [2, 7, 8, 9, 10, 11, 12, 13, 14, 15, 16, 17, 19, 85] [] [] (orc := []) (by kernel_rfl) .n (WD_join (α := Bool) (fun z => l01_RunesQuotes_j4 (l01_RunesQuotes_l1 l1 v4 v5 v2 v3 fuel1) i1 z = some rz) (fun t4 => ⟨[(2, .val (.sl (.int .i32)) l1), (7, SS v2.1), (8, I64 v2.2), (9, SS v3.1), (10, I64 v3.2), (11, SS v4.1), (12, I64 v4.2.1), (13, I64 v4.2.2), (14, SS v5.1), (15, I64 v5.2.1), (16, I64 v5.2.2), (17, .val (.sl (.int .i32)) ((([] : List (Int)) ++ l1) ++ ([(77 : Int)] : List (Int)))), (19, I64 i1), (95, BB t4)], [], []⟩) 10 ?_ (fun KK hJ4 => ?_)))))))
                · rintro t4 h
                  unfold l01_RunesQuotes_j4 at h
                  exact WD_allC hE [2, 7, 8, 9, 10, 11, 12, 13, 14, 15, 16, 17, 18, 19] [] [] (orc := []) (by kernel_rfl) .n (N_block (N_then (W_region (WL_allI hE (orc := []) (by kernel_rfl) .n (N_round (t4, wi64 (i1 + (1 : Int))) (Nat.lt_succ_self _) h)))))
                refine WDK_splitC 85 (b := same1) (by kernel_rfl) (fun e13 => ?_) (fun e13 => ?_)
                · replace h := ite_t e13 h
                  obtain ⟨x1, e14, h⟩ := bind_some h
                  obtain ⟨x2, e15, h⟩ := bind_some h
                  exact WDK_allI hE (orc := [tI32 x1, tI32 x2]) (by kernel_rfl) (.c e14 (.c e15 .n)) (hJ4 (x1 == x2) h)
                · replace h := ite_f e13 h
                  exact WDK_allI hE (orc := []) (by kernel_rfl) .n (hJ4 false h)
              · replace h := ite_f e12 h
                refine W_exit (N_then_exit (N_then_exit (N_block_exit (N_then (W_seq (W_region (WL_tkC hE 2 [2, 7, 8, 9, 10, 11, 12, 13, 14, 15, 16, 17, 97] [] [] (orc := []) (by kernel_rfl) .n (WL_join (α := Bool) (fun z => l01_RunesQuotes_j5 v4 v5 v2 v3 z = some rz) (fun t5 => ⟨[(7, SS v2.1), (8, I64 v2.2), (9, SS v3.1), (10, I64 v3.2), (11, SS v4.1), (12, I64 v4.2.1), (13, I64 v4.2.2), (14, SS v5.1), (15, I64 v5.2.1), (16, I64 v5.2.2), (104, BB t5)], [], []⟩) 7 ?_ (fun hJ5 => ?_)))))))))
                · rintro t5 h
                  unfold l01_RunesQuotes_j5 at h
                  refine WL_tkC hE 1 [7, 8, 9, 10, 11, 12, 13, 14, 15, 16, 105] [] [] (orc := []) (by kernel_rfl) .n (WL_join (α := Bool) (fun z => l01_RunesQuotes_j6 v4 v5 v2 v3 z = some rz) (fun t6 => ⟨[(8, I64 v2.2), (10, I64 v3.2), (11, SS v4.1), (12, I64 v4.2.1), (13, I64 v4.2.2), (14, SS v5.1), (15, I64 v5.2.1), (16, I64 v5.2.2), (109, BB t6)], [], []⟩) 4 ?_ (fun hJ6 => ?_))
                  · rintro t6 h
                    unfold l01_RunesQuotes_j6 at h
                    refine WL_tkC hE 1 [8, 10, 11, 12, 13, 14, 15, 16, 110] [] [] (orc := []) (by kernel_rfl) .n (WL_join (α := Bool) (fun z => l01_RunesQuotes_j7 v4 v5 z = some rz) (fun t7 => ⟨[(11, SS v4.1), (12, I64 v4.2.1), (13, I64 v4.2.2), (14, SS v5.1), (15, I64 v5.2.1), (16, I64 v5.2.2), (114, BB t7)], [], []⟩) 4 ?_ (fun hJ7 => ?_))
                    · rintro t7 h
                      unfold l01_RunesQuotes_j7 at h
                      refine WL_tkC hE 1 [11, 12, 13, 14, 15, 16, 115] [] [] (orc := []) (by kernel_rfl) .n (WL_join (α := Bool) (fun z => l01_RunesQuotes_j8 v4 v5 z = some rz) (fun t8 => ⟨[(12, I64 v4.2.1), (13, I64 v4.2.2), (15, I64 v5.2.1), (16, I64 v5.2.2), (119, BB t8)], [], []⟩) 4 ?_ (fun hJ8 => ?_))
                      · rintro t8 h
                        unfold l01_RunesQuotes_j8 at h
                        refine WL_tkC hE 1 [12, 13, 15, 16, 120] [] [] (orc := []) (by kernel_rfl) .n (WL_join (α := Bool) (fun z => l01_RunesQuotes_j9 v4 v5 z = some rz) (fun t9 => ⟨[(13, I64 v4.2.2), (16, I64 v5.2.2), (124, BB t9)], [], []⟩) 4 ?_ (fun hJ9 => ?_))
                        · rintro t9 h
                          unfold l01_RunesQuotes_j9 at h
                          refine WL_tkC hE 1 [13, 16, 125] [] [] (orc := []) (by kernel_rfl) .n (WL_join (α := Bool) (fun z => l01_RunesQuotes_j10 z = some rz) (fun t10 => ⟨[(129, BB t10)], [], []⟩) 4 ?_ (fun hJ10 => ?_))
                          · rintro t10 h
                            unfold l01_RunesQuotes_j10 at h
                            refine WL_allC hE [6] [] [] (orc := []) (by kernel_rfl) .n (N_then (W_ret ?_))
                            cases h
                            exact N_end (.inl rfl) (by kernel_rfl)
                          refine WL_splitC 125 (b := t9) (by kernel_rfl) (fun e16 => ?_) (fun e16 => ?_)
                          · rw [and_t e16] at h
                            exact WL_allI hE (orc := []) (by kernel_rfl) .n (hJ10 (v4.2.2 == v5.2.2) h)
                          · rw [and_f e16] at h
                            exact WL_allI hE (orc := []) (by kernel_rfl) .n (hJ10 false h)
                        refine WL_splitC 120 (b := t8) (by kernel_rfl) (fun e17 => ?_) (fun e17 => ?_)
                        · rw [and_t e17] at h
                          exact WL_allI hE (orc := []) (by kernel_rfl) .n (hJ9 (v4.2.1 == v5.2.1) h)
                        · rw [and_f e17] at h
                          exact WL_allI hE (orc := []) (by kernel_rfl) .n (hJ9 false h)
                      refine WL_splitC 115 (b := t7) (by kernel_rfl) (fun e18 => ?_) (fun e18 => ?_)
                      · rw [and_t e18] at h
                        exact WL_allI hE (orc := []) (by kernel_rfl) .n (hJ8 (v4.1 == v5.1) h)
                      · rw [and_f e18] at h
                        exact WL_allI hE (orc := []) (by kernel_rfl) .n (hJ8 false h)
                    refine WL_splitC 110 (b := t6) (by kernel_rfl) (fun e19 => ?_) (fun e19 => ?_)
                    · rw [and_t e19] at h
                      exact WL_allI hE (orc := []) (by kernel_rfl) .n (hJ7 (v2.2 == v3.2) h)
                    · rw [and_f e19] at h
                      exact WL_allI hE (orc := []) (by kernel_rfl) .n (hJ7 false h)
                  refine WL_splitC 105 (b := t5) (by kernel_rfl) (fun e20 => ?_) (fun e20 => ?_)
                  · rw [and_t e20] at h
                    exact WL_allI hE (orc := []) (by kernel_rfl) .n (hJ6 (v2.1 == v3.1) h)
                  · rw [and_f e20] at h
                    exact WL_allI hE (orc := []) (by kernel_rfl) .n (hJ6 false h)
                refine WL_splitC 97 (b := same1) (by kernel_rfl) (fun e21 => ?_) (fun e21 => ?_)
                · replace h := ite_t e21 h
                  obtain ⟨x3, e22, h⟩ := bind_some h
                  exact WL_allI hE (orc := [tI32 x3]) (by kernel_rfl) (.c e22 .n) (hJ5 (x3 == (77 : Int)) h)
                · replace h := ite_f e21 h
                  exact WL_allI hE (orc := []) (by kernel_rfl) .n (hJ5 false h)
        refine WL_splitC 37 (b := t2) (by kernel_rfl) (fun e23 => ?_) (fun e23 => ?_)
        · rw [or_t e23] at h
          exact WL_allI hE (orc := []) (by kernel_rfl) .n (hJ3 true h)
        · rw [or_f e23] at h
          exact WL_allI hE (orc := []) (by kernel_rfl) .n (hJ3 (decide ((3000 : Int) < (List.length l1 : Int))) h)
      refine WL_splitC 32 (b := t1) (by kernel_rfl) (fun e24 => ?_) (fun e24 => ?_)
      · rw [or_t e24] at h
        exact WL_allI hE (orc := []) (by kernel_rfl) .n (hJ2 true h)
      · rw [or_f e24] at h
        exact WL_allI hE (orc := []) (by kernel_rfl) .n (hJ2 (decide ((1100000 : Int) < (List.length q1 : Int))) h)
    refine WL_splitC 22 (b := v1) (by kernel_rfl) (fun e25 => ?_) (fun e25 => ?_)
    · replace h := ite_t e25 h
      exact WL_allI hE (orc := []) (by kernel_rfl) .n (hJ1 true h)
    · replace h := ite_f e25 h
      refine WL_tkC hE 4 [0, 1, 2, 22, 26] [] [] (orc := []) (by kernel_rfl) .n (WL_join (α := Bool) (fun z => l01_RunesQuotes_j11 k s1 q1 l1 z = some rz) (fun t11 => ⟨[(0, SS s1), (1, SS q1), (2, .val (.sl (.int .i32)) l1), (22, BB false), (30, BB t11)], [], []⟩) 4 ?_ (fun hJ11 => ?_))
      · rintro t11 h
        unfold l01_RunesQuotes_j11 at h
        exact WL_allI hE (orc := []) (by kernel_rfl) .n (hJ1 t11 h)
      refine WL_splitC 26 (b := decide ((5000 : Int) < (List.length q1 : Int))) (by kernel_rfl) (fun e26 => ?_) (fun e26 => ?_)
      · rw [and_t e26] at h
        exact WL_allI hE (orc := []) (by kernel_rfl) .n (hJ11 (decide ((List.length q1 : Int) ≤ (1048576 : Int))) h)
      · rw [and_f e26] at h
        exact WL_allI hE (orc := []) (by kernel_rfl) .n (hJ11 false h)

def B_runes_Pieces_c1_i1 (k : Nat) : FnB ((Int × Int × Int × Bool × Unit) × List ((Int × Int × Int × Bool × Unit))) (Bool × List ((Int × Int × Int × Bool × Unit))) where
  n := 8
  S := fun z => ⟨[(0, .val (.pair (.int .i32) (.pair (.int .i64) (.pair (.int .i64) (.pair .bool .unit)))) (z.1)), (1, .ptr 8 0)], [(8, .cells [.row 9] 24)], [(9, ⟨35, (.pair (.int .i32) (.pair (.int .i64) (.pair (.int .i64) (.pair .bool .unit)))), (z.2)⟩)]⟩
  S' := fun z y => ⟨[], [(8, .cells [.row 9] 24)], [(9, ⟨35, (.pair (.int .i32) (.pair (.int .i64) (.pair (.int .i64) (.pair .bool .unit)))), (y.2)⟩)]⟩
  rs := fun z y => [BB (y.1)]
  rel := fun z y => runes_Pieces_c1_i1 k (z.1) (z.2) = some y
noncomputable def E_runes_Pieces_c1_i1 (k : Nat) : Env := ⟨Tryd.prog, Gu, 8, []⟩
theorem b_runes_Pieces_c1_i1 (k : Nat) : BC Tryd.prog Gu 37 (B_runes_Pieces_c1_i1 k) := by
  refine bc_of (fn := Tryd.f37) Tryd.func37 (by kernel_rfl) rfl Tryd.ntmps37 ?_
  rintro cx hP hn hG ⟨p1, l1⟩ y0 h
  have hE : EnvOK (E_runes_Pieces_c1_i1 k) cx := (EnvOK.nil hP hn hG)
  replace h : runes_Pieces_c1_i1 k p1 l1 = some y0 := h
  unfold runes_Pieces_c1_i1 at h
  refine W_seq (W_region (WL_allC hE [1, 2] [2, 8] [9] (orc := []) (by kernel_rfl) .n (N_then (W_seq (W_region ?_)))))
  obtain ⟨_, e1, h⟩ := bind_some h
  replace e1 := chk_some e1
  refine WL_allC hE [1] [8] [9] (orc := []) (by kernel_rfl) (.c e1 .n) (N_then (W_seq (W_region (WL_allC hE [1, 3] [8] [9] (orc := []) (by kernel_rfl) .n (N_then (W_ret ?_))))))
  replace h := Option.some.inj h
  subst h
  exact N_normC [1, 3] [8] [9] (by kernel_rfl) (N_endB hE.P [8] [9] (.inl rfl) (by kernel_rfl) (by kernel_rfl))

def B_runes_each_i1 (k : Nat) : FnB (List UInt8 × List ((Int × Int × Int × Bool × Unit))) (List ((Int × Int × Int × Bool × Unit))) where
  n := 37
  S := fun z => ⟨[(0, SS (z.1)), (1, .clos 37 [37])], [(37, .cells [.row 38] 24)], [(38, ⟨35, (.pair (.int .i32) (.pair (.int .i64) (.pair (.int .i64) (.pair .bool .unit)))), (z.2)⟩)]⟩
  S' := fun z y => ⟨[], [(37, .cells [.row 38] 24)], [(38, ⟨35, (.pair (.int .i32) (.pair (.int .i64) (.pair (.int .i64) (.pair .bool .unit)))), (y)⟩)]⟩
  rs := fun z y => []
  rel := fun z y => runes_each_i1 k (z.1) (z.2) = some y
noncomputable def E_runes_each_i1 (k : Nat) : Env := ⟨Tryd.prog, Gu, 37, [(52, C_unicode_utf8_RuneLen k), (25, C_unicode_utf8_DecodeRuneInString k)]⟩
theorem b_runes_each_i1 (k : Nat) : BC Tryd.prog Gu 36 (B_runes_each_i1 k) := by
  refine bc_of (fn := Tryd.f36) Tryd.func36 (by kernel_rfl) rfl Tryd.ntmps36 ?_
  rintro cx hP hn hG ⟨s1, l1⟩ y0 h
  have hE : EnvOK (E_runes_each_i1 k) cx := (EnvOK.cons (c_unicode_utf8_RuneLen k) (EnvOK.cons (e_unicode_utf8_DecodeRuneInString k) (EnvOK.nil hP hn hG)))
  replace h : runes_each_i1 k s1 l1 = some y0 := h
  unfold runes_each_i1 at h
  refine W_seq (W_region (WL_allI hE (orc := []) (by kernel_rfl) .n (N_then (W_block (W_loop (α := (Nat × List ((Int × Int × Int × Bool × Unit)))) (fun n z => runes_each_i1_l1 k s1 n z.1 z.2 = some y0) (fun z => ⟨[(0, SS s1), (1, .clos 37 [37]), (10, .iter 10)], [(10, .iter s1 (z.1)), (37, .cells [.row 38] 24)], [(38, ⟨35, (.pair (.int .i32) (.pair (.int .i64) (.pair (.int .i64) (.pair .bool .unit)))), (z.2)⟩)]⟩) ?_ (k := k) (x := (0, l1)) h)))))
  clear h
  rintro fuel1 ⟨pos1, t2⟩ h
  cases fuel1 with
  | zero => exact absurd (show none = some _ from h) (by simp)
  | succ fuel1 =>
    have h : runes_each_i1_b1 k s1 (runes_each_i1_l1 k s1 fuel1) pos1 t2 = some y0 := h
    unfold runes_each_i1_b1 at h
    refine W_seq (W_region ?_)
    rcases Bool.eq_false_or_eq_true (decide (pos1 < List.length s1)) with e1 | e1
    · replace h := ite_t e1 h
      refine WL_tkC hE 1 [0, 1, 10, 11] [10, 37] [38] (orc := [tB true]) (by kernel_rfl) (.c (of_decide_eq_true e1) .n) (WL_allC hE [0, 1, 10, 11, 12] [10, 37] [38] (orc := []) (by kernel_rfl) .n (N_then (W_seq (W_cond_true (by kernel_rfl) (W_skip (N_then (W_block (W_seq (W_region (WL_allC hE [0, 1, 4, 5, 10] [10, 37] [38] (orc := []) (by kernel_rfl) .n (N_then (W_seq (W_region ?_)))))))))))))
      obtain ⟨v1, e2, h⟩ := bind_some h
      refine WL_allI hE (st' := ⟨[(0, SS s1), (1, .clos 37 [37]), (4, I64 (pos1 : Int)), (5, I32 (runeAt s1 pos1)), (6, .ptr 6 0), (10, .iter 10)], [(6, .cells [I32 (runeAt s1 pos1), I64 (pos1 : Int), I64 v1, BB false] 35), (10, .iter s1 (pos1 + widthAt s1 pos1)), (37, .cells [.row 38] 24)], [(38, ⟨35, (.pair (.int .i32) (.pair (.int .i64) (.pair (.int .i64) (.pair .bool .unit)))), t2⟩)]⟩) (orc := [tI64 v1]) (by kernel_rfl) (.c e2 .n) (N_then (W_join (α := (Int × Bool)) (fun z => runes_each_i1_j1 k s1 pos1 t2 (runes_each_i1_l1 k s1 fuel1) z.1 z.2 = some y0) (fun z => ⟨[(0, SS s1), (1, .clos 37 [37]), (6, .ptr 6 0), (10, .iter 10)], [(6, .cells [I32 (runeAt s1 pos1), I64 (pos1 : Int), I64 (z.1), BB (z.2)] 35), (10, .iter s1 (pos1 + widthAt s1 pos1)), (37, .cells [.row 38] 24)], [(38, ⟨35, (.pair (.int .i32) (.pair (.int .i64) (.pair (.int .i64) (.pair .bool .unit)))), t2⟩)]⟩) ?_ (fun hJ1 => ?_)))
      · rintro ⟨p1, p2⟩ h
        unfold runes_each_i1_j1 at h
        refine W_seq (W_region (WL_tkC hE 2 [0, 1, 10, 33, 34] [10, 37] [38] (orc := []) (by kernel_rfl) .n ?_))
        obtain ⟨v2, e3, h⟩ := bind_some h
        refine WL_callBC hE (b_runes_Pieces_c1_i1 k) ((runeAt s1 pos1, (pos1 : Int), p1, p2, ()), t2) v2 e3 (ρ := [(37, 8), (38, 9)]) (ρ' := [(8, 37), (9, 38)]) (n := 8) (by kernel_rfl) [0, 1, 10, 35] [10, 37] [38] (by kernel_rfl) (by kernel_rfl) (by kernel_rfl) (WL_allC hE [0, 1, 10, 36] [10, 37] [38] (orc := []) (by kernel_rfl) .n (N_then (W_cond (b := !v2.1) (by kernel_rfl) (fun e4 => ?_) (fun e4 => ?_))))
        · replace h := ite_t e4 h
          refine W_ret (N_block_ret (N_then_ret (N_block_ret ?_)))
          replace h := Option.some.inj h
          subst h
          exact N_normC [1] [37] [38] (by kernel_rfl) (N_endB hE.P [37] [38] (.inl rfl) (by kernel_rfl) (by kernel_rfl))
        · replace h := ite_f e4 h
          exact W_skip (N_block (N_normI (by kernel_rfl) (N_round ((pos1 + widthAt s1 pos1), v2.2) (Nat.lt_succ_self _) h)))
      refine W_seq (W_region (WL_allI hE (st' := ⟨[(0, SS s1), (1, .clos 37 [37]), (4, I64 (pos1 : Int)), (6, .ptr 6 0), (10, .iter 10), (21, BB ((runeAt s1 pos1) == (65533 : Int)))], [(6, .cells [I32 (runeAt s1 pos1), I64 (pos1 : Int), I64 v1, BB false] 35), (10, .iter s1 (pos1 + widthAt s1 pos1)), (37, .cells [.row 38] 24)], [(38, ⟨35, (.pair (.int .i32) (.pair (.int .i64) (.pair (.int .i64) (.pair .bool .unit)))), t2⟩)]⟩) (orc := []) (by kernel_rfl) .n (N_then (W_cond (b := (runeAt s1 pos1) == (65533 : Int)) (by kernel_rfl) (fun e5 => ?_) (fun e5 => ?_)))))
      · replace h := ite_t e5 h
        refine W_seq (W_region ?_)
        obtain ⟨s2, e6, h⟩ := bind_some h
        obtain ⟨v3, e7, h⟩ := bind_some h
        refine WL_allC hE [0, 1, 6, 8, 10] [6, 10, 37] [38] (orc := [tS s2, tI32 v3.1, tI64 v3.2]) (by kernel_rfl) (.c e6 (.c e7 .n)) (N_then (W_seq (W_region (WL_allC hE [0, 1, 6, 10, 30] [6, 10, 37] [38] (orc := []) (by kernel_rfl) .n (N_then (W_cond (b := v3.2 == (1 : Int)) (by kernel_rfl) (fun e8 => ?_) (fun e8 => ?_)))))))
        · replace h := ite_t e8 h
          exact W_region (WL_allI hE (orc := []) (by kernel_rfl) .n (hJ1 ((1 : Int), true) h))
        · replace h := ite_f e8 h
          exact W_skip (N_normI (by kernel_rfl) (hJ1 (v1, false) h))
      · replace h := ite_f e5 h
        exact W_skip (N_normI (by kernel_rfl) (hJ1 (v1, false) h))
    · replace h := ite_f e1 h
      refine WL_tk hE 1 [0, 1, 10, 11] [10, 37] [38] (st' := ⟨[(0, SS s1), (1, .clos 37 [37]), (10, .iter 10), (11, .tup [tB false])], [(10, .iter s1 pos1), (37, .cells [.row 38] 24)], [(38, ⟨35, (.pair (.int .i32) (.pair (.int .i64) (.pair (.int .i64) (.pair .bool .unit)))), t2⟩)]⟩) (orc := [tB false]) (by kernel_rfl) (Obs.all (.c (show List.length s1 ≤ pos1 from Nat.le_of_not_lt (of_decide_eq_false e1)) .n)) (WL_allC hE [0, 1, 10, 11, 12] [10, 37] [38] (orc := []) (by kernel_rfl) .n (N_then (W_seq (W_cond_false (by kernel_rfl) (W_exit (N_then_exit (N_then_exit (N_block_exit ?_))))))))
      replace h := Option.some.inj h
      subst h
      exact N_normC [1] [37] [38] (by kernel_rfl) (N_endB hE.P [37] [38] (.inr rfl) (by kernel_rfl) (by kernel_rfl))

def C_runes_Pieces (k : Nat) : FnC := ⟨false, 2, [], fun | [⟨.str, s1⟩], [⟨(.sl (.pair (.int .i32) (.pair (.int .i64) (.pair (.int .i64) (.pair .bool .unit))))), rz1⟩, ⟨(.int .i64), rz2⟩] => runes_Pieces k s1 = some (rz1, rz2) | _, _ => False⟩
noncomputable def E_runes_Pieces (k : Nat) : Env := ⟨Tryd.prog, Gu, 15, [(35, C_runes_long k)]⟩
theorem c_runes_Pieces (k : Nat) : Contract Tryd.prog Gu 13 (C_runes_Pieces k) := by
  refine contract_of Gu_stable (fn := Tryd.f13) Tryd.func13 (by kernel_rfl) rfl ?_ ?_
  · intro xs rs h
    unfold C_runes_Pieces at h
    simp only at h
    split at h
    · exact ⟨by show 1 ≤ _; rw [Tryd.ntmps13]; decide, rfl, fun hf => by cases hf⟩
    · exact h.elim
  · intro w0 M xs rs hG h
    unfold C_runes_Pieces at h
    simp only at h
    split at h
    case h_2 => exact h.elim
    rename_i s1 rz1 rz2
    change List UInt8 at s1
    change List ((Int × Int × Int × Bool × Unit)) at rz1
    change Int at rz2
    have hE : EnvOK (E_runes_Pieces k) ⟨Tryd.prog, Tryd.f13.ntmps, w0, M, fun _ => False, fun _ => undef⟩ := (EnvOK.cons (c_runes_long k) (EnvOK.nil rfl Tryd.ntmps13 hG))
    unfold runes_Pieces at h
    refine W_seq (W_region (WL_allC hE [0] [] [] (orc := []) (by kernel_rfl) .n (N_then (W_seq (W_seq (W_region ?_))))))
    obtain ⟨v1, e1, h⟩ := bind_some h
    refine WL_allC hE [0, 4] [] [] (orc := [tI64 v1]) (by kernel_rfl) (.c e1 .n) (N_then (W_seq (W_region (WL_allC hE [0, 4, 9] [] [] (orc := []) (by kernel_rfl) .n (N_then (W_cond (b := v1 != (0 : Int)) (by kernel_rfl) (fun e2 => ?_) (fun e2 => ?_)))))))
    · replace h := ite_t e2 h
      refine W_seq (W_region (WL_allI hE (st' := ⟨[(2, .row 2), (3, I64 v1)], [], [(2, ⟨35, (.pair (.int .i32) (.pair (.int .i64) (.pair (.int .i64) (.pair .bool .unit)))), ([] : List ((Int × Int × Int × Bool × Unit)))⟩)]⟩) (orc := []) (by kernel_rfl) .n (N_then (W_ret (N_then_ret ?_)))))
      cases h
      exact N_end (.inl rfl) (by kernel_rfl)
    · replace h := ite_f e2 h
      refine W_skip (N_then (W_seq (W_region (WL_allC hE [0, 5] [5] [1000005] (orc := []) (by kernel_rfl) .n (N_then (W_seq (W_region (WL_tkC hE 2 [5, 11, 12] [5] [1000005] (orc := []) (by kernel_rfl) .n ?_))))))))
      obtain ⟨v2, e3, h⟩ := bind_some h
      refine WL_callB hE (b_runes_each_i1 k) (s1, ([] : List ((Int × Int × Int × Bool × Unit)))) v2 e3 (ρ := [(5, 37), (1000005, 38)]) (ρ' := [(37, 5), (38, 1000005)]) (n := 37) (by kernel_rfl) [5] [5] [1000005] (by kernel_rfl) (by kernel_rfl) (st' := ⟨[(5, .ptr 5 0)], [(5, .cells [.row 1000005] 24)], [(1000005, ⟨35, (.pair (.int .i32) (.pair (.int .i64) (.pair (.int .i64) (.pair .bool .unit)))), v2⟩)]⟩) (by kernel_rfl) (WL_nil (N_then (W_seq (W_region (WL_allC hE [2, 3] [] [1000005] (orc := []) (by kernel_rfl) .n (N_then (W_ret ?_)))))))
      cases h
      exact N_end (.inl rfl) (by kernel_rfl)

def C_runes_Less (k : Nat) : FnC := ⟨true, 1, [], fun | [⟨.str, a1⟩, ⟨.str, b1⟩], [⟨.bool, rz⟩] => runes_Less k a1 b1 = some rz | _, _ => False⟩
noncomputable def E_runes_Less (k : Nat) : Env := ⟨Tryd.prog, Gu, 69, [(25, C_unicode_utf8_DecodeRuneInString k)]⟩
theorem c_runes_Less (k : Nat) : Contract Tryd.prog Gu 10 (C_runes_Less k) := by
  refine contract_of Gu_stable (fn := Tryd.f10) Tryd.func10 (by kernel_rfl) rfl ?_ ?_
  · intro xs rs h
    unfold C_runes_Less at h
    simp only at h
    split at h
    · exact ⟨by show 2 ≤ _; rw [Tryd.ntmps10]; decide, rfl, fun _ u hu => by simp at hu; (rcases hu with rfl) <;> rfl⟩
    · exact h.elim
  · intro w0 M xs rs hG h
    unfold C_runes_Less at h
    simp only at h
    split at h
    case h_2 => exact h.elim
    rename_i a1 b1 rz
    change List UInt8 at a1
    change List UInt8 at b1
    change Bool at rz
    have hE : EnvOK (E_runes_Less k) ⟨Tryd.prog, Tryd.f10.ntmps, w0, M, fun _ => False, fun _ => undef⟩ := (EnvOK.cons (e_unicode_utf8_DecodeRuneInString k) (EnvOK.nil rfl Tryd.ntmps10 hG))
    unfold runes_Less at h
    refine W_seq (W_region (WL_allI hE (orc := []) (by kernel_rfl) .n (N_then (W_seq (W_block (W_loop (α := (List UInt8 × List UInt8)) (fun n z => runes_Less_l1 k n z.1 z.2 = some rz) (fun z => ⟨[(0, SS (z.1)), (1, SS (z.2))], [], []⟩) ?_ (k := k) (x := (a1, b1)) h))))))
    clear h
    rintro fuel1 ⟨a2, b2⟩ h
    cases fuel1 with
    | zero => exact absurd (show none = some _ from h) (by simp)
    | succ fuel1 =>
      have h : runes_Less_b1 k (runes_Less_l1 k fuel1) a2 b2 = some rz := h
      unfold runes_Less_b1 at h
      refine W_seq (W_seq (W_region (WL_tkC hE 3 [0, 1, 13] [] [] (orc := []) (by kernel_rfl) .n (WL_join (α := Bool) (fun z => runes_Less_j1 k a2 b2 (runes_Less_l1 k fuel1) z = some rz) (fun t1 => ⟨[(0, SS a2), (1, SS b2), (16, BB t1)], [], []⟩) 3 ?_ (fun hJ1 => ?_)))))
      · rintro t1 h
        unfold runes_Less_j1 at h
        refine WL_nil (N_then (W_cond (b := t1) (by kernel_rfl) (fun e1 => ?_) (fun e1 => ?_)))
        · replace h := ite_t e1 h
          refine W_skip (N_then (W_block (W_seq (W_region ?_))))
          obtain ⟨v1, e2, h⟩ := bind_some h
          refine WL_allC hE [0, 1, 5, 6] [] [] (orc := [tI32 v1.1, tI64 v1.2]) (by kernel_rfl) (.c e2 .n) (N_then (W_seq (W_region ?_)))
          obtain ⟨v2, e3, h⟩ := bind_some h
          refine WL_allC hE [0, 1, 5, 6, 7, 8] [] [] (orc := [tI32 v2.1, tI64 v2.2]) (by kernel_rfl) (.c e3 .n) (N_then (W_seq (W_region (WL_allC hE [0, 1, 5, 6, 7, 8, 9, 10] [] [] (orc := []) (by kernel_rfl) .n (N_then (W_join (α := Int) (fun z => runes_Less_j2 b2 a2 v1 v2 (runes_Less_l1 k fuel1) z = some rz) (fun x1 => ⟨[(0, SS a2), (1, SS b2), (6, I64 v1.2), (7, I32 v2.1), (8, I64 v2.2), (9, I64 x1), (10, I64 (wi64 v2.1))], [], []⟩) ?_ (fun hJ4 => ?_)))))))
          · rintro x1 h
            unfold runes_Less_j2 at h
            refine W_join (α := Int) (fun z => runes_Less_j3 x1 a2 v1 b2 v2 (runes_Less_l1 k fuel1) z = some rz) (fun y1 => ⟨[(0, SS a2), (1, SS b2), (6, I64 v1.2), (8, I64 v2.2), (9, I64 x1), (10, I64 y1)], [], []⟩) ?_ (fun hJ3 => ?_)
            · rintro y1 h
              unfold runes_Less_j3 at h
              refine W_seq (W_seq (W_region (WL_allC hE [0, 1, 6, 8, 9, 10, 53] [] [] (orc := []) (by kernel_rfl) .n (N_then (W_cond (b := x1 != y1) (by kernel_rfl) (fun e4 => ?_) (fun e4 => ?_))))))
              · replace h := ite_t e4 h
                refine W_seq (W_region (WL_allC hE [4] [] [] (orc := []) (by kernel_rfl) .n (N_then (W_ret (N_then_ret (N_block_ret (N_then_ret (N_block_ret (N_then_ret ?_)))))))))
                cases h
                exact N_end (.inl rfl) (by kernel_rfl)
              · replace h := ite_f e4 h
                refine W_skip (N_then (W_draw (by kernel_rfl) (by kernel_rfl) ?_))
                obtain ⟨s1, e5, h⟩ := bind_some h
                obtain ⟨s2, e6, h⟩ := bind_some h
                exact WD_allI hE (orc := [tS s1, tS s2]) (by kernel_rfl) (.c e5 (.c e6 .n)) (N_block (N_round (s1, s2) (Nat.lt_succ_self _) h))
            refine W_seq (W_region (WL_tkC hE 3 [0, 1, 6, 8, 9, 10, 43] [] [] (orc := []) (by kernel_rfl) .n (WL_join (α := Bool) (fun z => runes_Less_j4 b2 x1 a2 v1 v2 (runes_Less_l1 k fuel1) z = some rz) (fun t2 => ⟨[(0, SS a2), (1, SS b2), (6, I64 v1.2), (8, I64 v2.2), (9, I64 x1), (10, I64 (wi64 v2.1)), (46, BB t2)], [], []⟩) 3 ?_ (fun hJ4 => ?_))))
            · rintro t2 h
              unfold runes_Less_j4 at h
              refine WL_nil (N_then (W_cond (b := t2) (by kernel_rfl) (fun e7 => ?_) (fun e7 => ?_)))
              · replace h := ite_t e7 h
                refine W_region ?_
                obtain ⟨b3, e8, h⟩ := bind_some h
                exact WL_allI hE (orc := [tU8 b3]) (by kernel_rfl) (.c e8 .n) (hJ3 (wi64 ((1114112 : Int) + (wi64 b3))) h)
              · replace h := ite_f e7 h
                exact W_skip (N_normI (by kernel_rfl) (hJ3 (wi64 v2.1) h))
            refine WL_splitC 43 (b := v2.1 == (65533 : Int)) (by kernel_rfl) (fun e9 => ?_) (fun e9 => ?_)
            · rw [and_t e9] at h
              exact WL_allI hE (orc := []) (by kernel_rfl) .n (hJ4 (v2.2 == (1 : Int)) h)
            · rw [and_f e9] at h
              exact WL_allI hE (orc := []) (by kernel_rfl) .n (hJ4 false h)
          refine W_seq (W_region (WL_tkC hE 3 [0, 1, 6, 7, 8, 9, 10, 33] [] [] (orc := []) (by kernel_rfl) .n (WL_join (α := Bool) (fun z => runes_Less_j5 a2 b2 v1 v2 (runes_Less_l1 k fuel1) z = some rz) (fun t3 => ⟨[(0, SS a2), (1, SS b2), (6, I64 v1.2), (7, I32 v2.1), (8, I64 v2.2), (9, I64 (wi64 v1.1)), (10, I64 (wi64 v2.1)), (36, BB t3)], [], []⟩) 3 ?_ (fun hJ5 => ?_))))
          · rintro t3 h
            unfold runes_Less_j5 at h
            refine WL_nil (N_then (W_cond (b := t3) (by kernel_rfl) (fun e10 => ?_) (fun e10 => ?_)))
            · replace h := ite_t e10 h
              refine W_region ?_
              obtain ⟨b4, e11, h⟩ := bind_some h
              exact WL_allI hE (orc := [tU8 b4]) (by kernel_rfl) (.c e11 .n) (hJ4 (wi64 ((1114112 : Int) + (wi64 b4))) h)
            · replace h := ite_f e10 h
              exact W_skip (N_normI (by kernel_rfl) (hJ4 (wi64 v1.1) h))
          refine WL_splitC 33 (b := v1.1 == (65533 : Int)) (by kernel_rfl) (fun e12 => ?_) (fun e12 => ?_)
          · rw [and_t e12] at h
            exact WL_allI hE (orc := []) (by kernel_rfl) .n (hJ5 (v1.2 == (1 : Int)) h)
          · rw [and_f e12] at h
            exact WL_allI hE (orc := []) (by kernel_rfl) .n (hJ5 false h)
        · replace h := ite_f e1 h
          refine W_exit (N_then_exit (N_then_exit (N_block_exit (N_then (W_seq (W_region (WL_tkC hE 3 [1, 65] [] [] (orc := []) (by kernel_rfl) .n (WL_join (α := Bool) (fun z => runes_Less_j6 z = some rz) (fun t4 => ⟨[(68, BB t4)], [], []⟩) 3 ?_ (fun hJ6 => ?_)))))))))
          · rintro t4 h
            unfold runes_Less_j6 at h
            refine WL_allC hE [4] [] [] (orc := []) (by kernel_rfl) .n (N_then (W_ret ?_))
            cases h
            exact N_end (.inl rfl) (by kernel_rfl)
          refine WL_splitC 65 (b := a2 == ([] : List UInt8)) (by kernel_rfl) (fun e13 => ?_) (fun e13 => ?_)
          · rw [and_t e13] at h
            exact WL_allI hE (orc := []) (by kernel_rfl) .n (hJ6 (!(b2 == ([] : List UInt8))) h)
          · rw [and_f e13] at h
            exact WL_allI hE (orc := []) (by kernel_rfl) .n (hJ6 false h)
      refine WL_splitC 13 (b := !(a2 == ([] : List UInt8))) (by kernel_rfl) (fun e14 => ?_) (fun e14 => ?_)
      · rw [and_t e14] at h
        exact WL_allI hE (orc := []) (by kernel_rfl) .n (hJ1 (!(b2 == ([] : List UInt8))) h)
      · rw [and_f e14] at h
        exact WL_allI hE (orc := []) (by kernel_rfl) .n (hJ1 false h)

def C_l01_alive (k : Nat) : FnC := ⟨true, 1, [], fun | [], [⟨.bool, rz⟩] => l01_alive k = some rz | _, _ => False⟩
noncomputable def E_l01_alive (k : Nat) : Env := ⟨Tryd.prog, Gu, 50, [(13, C_runes_Pieces k), (27, C_runes_Quote k), (10, C_runes_Less k), (26, C_runes_Text k)]⟩
theorem c_l01_alive (k : Nat) : Contract Tryd.prog Gu 24 (C_l01_alive k) := by
  refine contract_of Gu_stable (fn := Tryd.f24) Tryd.func24 (by kernel_rfl) rfl ?_ ?_
  · intro xs rs h
    unfold C_l01_alive at h
    simp only at h
    split at h
    · exact ⟨by show 0 ≤ _; rw [Tryd.ntmps24]; decide, rfl, fun _ u hu => by simp at hu; (rcases hu with rfl) <;> rfl⟩
    · exact h.elim
  · intro w0 M xs rs hG h
    unfold C_l01_alive at h
    simp only at h
    split at h
    case h_2 => exact h.elim
    rename_i rz
    change Bool at rz
    have hE : EnvOK (E_l01_alive k) ⟨Tryd.prog, Tryd.f24.ntmps, w0, M, fun _ => False, fun _ => undef⟩ := (EnvOK.cons (c_runes_Pieces k) (EnvOK.cons (c_runes_Quote k) (EnvOK.cons (c_runes_Less k) (EnvOK.cons (c_runes_Text k) (EnvOK.nil rfl Tryd.ntmps24 hG)))))
    unfold l01_alive at h
    refine W_seq (W_region (WL_allC hE [] [] [] (orc := []) (by kernel_rfl) .n (N_then (W_seq (W_region ?_)))))
    obtain ⟨v1, e1, h⟩ := bind_some h
    refine WL_allC hE [1, 2] [] [] (orc := [⟨(.sl (.pair (.int .i32) (.pair (.int .i64) (.pair (.int .i64) (.pair .bool .unit))))), v1.1⟩, tI64 v1.2]) (by kernel_rfl) (.c e1 .n) (N_then (W_seq (W_region ?_)))
    obtain ⟨v2, e2, h⟩ := bind_some h
    refine WL_allI hE (st' := ⟨[(1, .val (.sl (.pair (.int .i32) (.pair (.int .i64) (.pair (.int .i64) (.pair .bool .unit))))) v1.1), (2, I64 v1.2), (3, SS v2.1), (4, I64 v2.2)], [], []⟩) (orc := [tS v2.1, tI64 v2.2]) (by kernel_rfl) (.c e2 .n) (N_then (W_seq (W_region (WL_tkC hE 3 [1, 3, 4, 15] [] [] (orc := []) (by kernel_rfl) .n (WL_join (α := Bool) (fun z => l01_alive_j1 k v1 v2 z = some rz) (fun t1 => ⟨[(1, .val (.sl (.pair (.int .i32) (.pair (.int .i64) (.pair (.int .i64) (.pair .bool .unit))))) v1.1), (3, SS v2.1), (4, I64 v2.2), (19, BB t1)], [], []⟩) 4 ?_ (fun hJ1 => ?_))))))
    · rintro t1 h
      unfold l01_alive_j1 at h
      refine WL_tkC hE 1 [1, 3, 4, 20] [] [] (orc := []) (by kernel_rfl) .n (WL_join (α := Bool) (fun z => l01_alive_j2 k v1 v2 z = some rz) (fun t2 => ⟨[(1, .val (.sl (.pair (.int .i32) (.pair (.int .i64) (.pair (.int .i64) (.pair .bool .unit))))) v1.1), (3, SS v2.1), (4, I64 v2.2), (26, BB t2)], [], []⟩) 6 ?_ (fun hJ2 => ?_))
      · rintro t2 h
        unfold l01_alive_j2 at h
        refine WL_tkC hE 1 [1, 3, 4, 27] [] [] (orc := []) (by kernel_rfl) .n (WL_join (α := Bool) (fun z => l01_alive_j3 k v2 z = some rz) (fun t3 => ⟨[(3, SS v2.1), (4, I64 v2.2), (33, BB t3)], [], []⟩) 6 ?_ (fun hJ3 => ?_))
        · rintro t3 h
          unfold l01_alive_j3 at h
          refine WL_tkC hE 1 [3, 4, 34] [] [] (orc := []) (by kernel_rfl) .n (WL_join (α := Bool) (fun z => l01_alive_j4 k v2 z = some rz) (fun t4 => ⟨[(3, SS v2.1), (37, BB t4)], [], []⟩) 3 ?_ (fun hJ4 => ?_))
          · rintro t4 h
            unfold l01_alive_j4 at h
            refine WL_tkC hE 1 [3, 38] [] [] (orc := []) (by kernel_rfl) .n (WL_join (α := Bool) (fun z => l01_alive_j5 k z = some rz) (fun t5 => ⟨[(41, BB t5)], [], []⟩) 3 ?_ (fun hJ5 => ?_))
            · rintro t5 h
              unfold l01_alive_j5 at h
              refine WL_tkC hE 1 [42] [] [] (orc := []) (by kernel_rfl) .n (WL_join (α := Bool) (fun z => l01_alive_j6 k z = some rz) (fun t6 => ⟨[(46, BB t6)], [], []⟩) 4 ?_ (fun hJ6 => ?_))
              · rintro t6 h
                unfold l01_alive_j6 at h
                refine WL_tkC hE 1 [47] [] [] (orc := []) (by kernel_rfl) .n (WL_join (α := Bool) (fun z => l01_alive_j7 z = some rz) (fun t7 => ⟨[(49, BB t7)], [], []⟩) 2 ?_ (fun hJ7 => ?_))
                · rintro t7 h
                  unfold l01_alive_j7 at h
                  refine WL_allC hE [0] [] [] (orc := []) (by kernel_rfl) .n (N_then (W_ret ?_))
                  cases h
                  exact N_end (.inl rfl) (by kernel_rfl)
                refine WL_splitC 47 (b := t6) (by kernel_rfl) (fun e3 => ?_) (fun e3 => ?_)
                · replace h := ite_t e3 h
                  obtain ⟨v3, e4, h⟩ := bind_some h
                  exact WL_allI hE (orc := [tB v3]) (by kernel_rfl) (.c e4 .n) (hJ7 v3 h)
                · replace h := ite_f e3 h
                  exact WL_allI hE (orc := []) (by kernel_rfl) .n (hJ7 false h)
              refine WL_splitC 42 (b := t5) (by kernel_rfl) (fun e5 => ?_) (fun e5 => ?_)
              · replace h := ite_t e5 h
                obtain ⟨v4, e6, h⟩ := bind_some h
                exact WL_allI hE (orc := [tS v4]) (by kernel_rfl) (.c e6 .n) (hJ6 (v4 == ([97] : List UInt8)) h)
              · replace h := ite_f e5 h
                exact WL_allI hE (orc := []) (by kernel_rfl) .n (hJ6 false h)
            refine WL_splitC 38 (b := t4) (by kernel_rfl) (fun e7 => ?_) (fun e7 => ?_)
            · rw [and_t e7] at h
              exact WL_allI hE (orc := []) (by kernel_rfl) .n (hJ5 (v2.1 == ([34, 97, 92, 120, 102, 102, 34] : List UInt8)) h)
            · rw [and_f e7] at h
              exact WL_allI hE (orc := []) (by kernel_rfl) .n (hJ5 false h)
          refine WL_splitC 34 (b := t3) (by kernel_rfl) (fun e8 => ?_) (fun e8 => ?_)
          · rw [and_t e8] at h
            exact WL_allI hE (orc := []) (by kernel_rfl) .n (hJ4 (v2.2 == (0 : Int)) h)
          · rw [and_f e8] at h
            exact WL_allI hE (orc := []) (by kernel_rfl) .n (hJ4 false h)
        refine WL_splitC 27 (b := t2) (by kernel_rfl) (fun e9 => ?_) (fun e9 => ?_)
        · replace h := ite_t e9 h
          obtain ⟨x1, e10, h⟩ := bind_some h
          exact WL_allI hE (orc := [⟨(.pair (.int .i32) (.pair (.int .i64) (.pair (.int .i64) (.pair .bool .unit)))), x1⟩]) (by kernel_rfl) (.c e10 .n) (hJ3 ((eqInt x1.1 (65533 : Int)) && ((eqInt x1.2.1 (1 : Int)) && ((eqInt x1.2.2.1 (1 : Int)) && ((eqBool x1.2.2.2.1 true) && (true))))) h)
        · replace h := ite_f e9 h
          exact WL_allI hE (orc := []) (by kernel_rfl) .n (hJ3 false h)
      refine WL_splitC 20 (b := t1) (by kernel_rfl) (fun e11 => ?_) (fun e11 => ?_)
      · replace h := ite_t e11 h
        obtain ⟨x2, e12, h⟩ := bind_some h
        exact WL_allI hE (orc := [⟨(.pair (.int .i32) (.pair (.int .i64) (.pair (.int .i64) (.pair .bool .unit)))), x2⟩]) (by kernel_rfl) (.c e12 .n) (hJ2 ((eqInt x2.1 (97 : Int)) && ((eqInt x2.2.1 (0 : Int)) && ((eqInt x2.2.2.1 (1 : Int)) && ((eqBool x2.2.2.2.1 false) && (true))))) h)
      · replace h := ite_f e11 h
        exact WL_allI hE (orc := []) (by kernel_rfl) .n (hJ2 false h)
    refine WL_splitC 15 (b := v1.2 == (0 : Int)) (by kernel_rfl) (fun e13 => ?_) (fun e13 => ?_)
    · rw [and_t e13] at h
      exact WL_allI hE (orc := []) (by kernel_rfl) .n (hJ1 ((List.length v1.1 : Int) == (2 : Int)) h)
    · rw [and_f e13] at h
      exact WL_allI hE (orc := []) (by kernel_rfl) .n (hJ1 false h)

def C_l01_RunesPlain (k : Nat) : FnC := ⟨true, 1, [], fun | [⟨.str, s1⟩, ⟨.str, q1⟩], [⟨.bool, rz⟩] => l01_RunesPlain k s1 q1 = some rz | _, _ => False⟩
noncomputable def E_l01_RunesPlain (k : Nat) : Env := ⟨Tryd.prog, Gu, 119, [(24, C_l01_alive k), (27, C_runes_Quote k), (29, C_runes_Plain k)]⟩
theorem c_l01_RunesPlain (k : Nat) : Contract Tryd.prog Gu 8 (C_l01_RunesPlain k) := by
  refine contract_of Gu_stable (fn := Tryd.f8) Tryd.func8 (by kernel_rfl) rfl ?_ ?_
  · intro xs rs h
    unfold C_l01_RunesPlain at h
    simp only at h
    split at h
    · exact ⟨by show 2 ≤ _; rw [Tryd.ntmps8]; decide, rfl, fun _ u hu => by simp at hu; (rcases hu with rfl) <;> rfl⟩
    · exact h.elim
  · intro w0 M xs rs hG h
    unfold C_l01_RunesPlain at h
    simp only at h
    split at h
    case h_2 => exact h.elim
    rename_i s1 q1 rz
    change List UInt8 at s1
    change List UInt8 at q1
    change Bool at rz
    have hE : EnvOK (E_l01_RunesPlain k) ⟨Tryd.prog, Tryd.f8.ntmps, w0, M, fun _ => False, fun _ => undef⟩ := (EnvOK.cons (c_l01_alive k) (EnvOK.cons (c_runes_Quote k) (EnvOK.cons (c_runes_Plain k) (EnvOK.nil rfl Tryd.ntmps8 hG))))
    unfold l01_RunesPlain at h
    refine W_seq (W_region (WL_allC hE [0, 1] [] [] (orc := []) (by kernel_rfl) .n (N_then (W_seq (W_region ?_)))))
    obtain ⟨v1, e1, h⟩ := bind_some h
    refine WL_allC hE [0, 1, 5] [] [] (orc := [tB v1]) (by kernel_rfl) (.c e1 .n) (N_then (W_seq (W_seq (W_region (WL_tkC hE 4 [0, 1, 5, 21] [] [] (orc := []) (by kernel_rfl) .n (WL_join (α := Bool) (fun z => l01_RunesPlain_j1 k v1 s1 q1 z = some rz) (fun t1 => ⟨[(0, SS s1), (1, SS q1), (5, BB v1), (25, BB t1)], [], []⟩) 4 ?_ (fun hJ1 => ?_)))))))
    · rintro t1 h
      unfold l01_RunesPlain_j1 at h
      refine WL_nil (N_then (W_cond (b := t1) (by kernel_rfl) (fun e2 => ?_) (fun e2 => ?_)))
      · replace h := ite_t e2 h
        refine W_seq (W_region (WL_allC hE [4] [] [] (orc := []) (by kernel_rfl) .n (N_then (W_ret (N_then_ret ?_)))))
        cases h
        exact N_end (.inl rfl) (by kernel_rfl)
      · replace h := ite_f e2 h
        refine W_skip (N_then (W_seq (W_region ?_)))
        obtain ⟨v2, e3, h⟩ := bind_some h
        refine WL_allC hE [0, 1, 5, 6, 7] [] [] (orc := [tS v2.1, tI64 v2.2]) (by kernel_rfl) (.c e3 .n) (N_then (W_seq (W_region ?_)))
        obtain ⟨v3, e4, h⟩ := bind_some h
        refine WL_allI hE (st' := ⟨[(0, SS s1), (1, SS q1), (5, BB v1), (6, SS v2.1), (7, I64 v2.2), (8, SS v3.1), (9, I64 v3.2.1), (10, I64 v3.2.2)], [], []⟩) (orc := [tS v3.1, tI64 v3.2.1, tI64 v3.2.2]) (by kernel_rfl) (.c e4 .n) (N_then (W_seq (W_seq (W_region (WL_tkC hE 3 [0, 1, 5, 6, 8, 9, 10, 40] [] [] (orc := []) (by kernel_rfl) .n (WL_join (α := Bool) (fun z => l01_RunesPlain_j2 k v2 q1 v1 s1 v3 z = some rz) (fun t2 => ⟨[(0, SS s1), (1, SS q1), (5, BB v1), (6, SS v2.1), (8, SS v3.1), (9, I64 v3.2.1), (43, BB t2)], [], []⟩) 3 ?_ (fun hJ2 => ?_)))))))
        · rintro t2 h
          unfold l01_RunesPlain_j2 at h
          refine WL_tkC hE 1 [0, 1, 5, 6, 8, 9, 44] [] [] (orc := []) (by kernel_rfl) .n (WL_join (α := Bool) (fun z => l01_RunesPlain_j3 k v2 q1 v1 s1 v3 z = some rz) (fun t3 => ⟨[(0, SS s1), (1, SS q1), (5, BB v1), (6, SS v2.1), (8, SS v3.1), (47, BB t3)], [], []⟩) 3 ?_ (fun hJ3 => ?_))
          · rintro t3 h
            unfold l01_RunesPlain_j3 at h
            refine WL_tkC hE 1 [0, 1, 5, 6, 8, 48] [] [] (orc := []) (by kernel_rfl) .n (WL_join (α := Bool) (fun z => l01_RunesPlain_j4 k v2 q1 v1 s1 z = some rz) (fun t4 => ⟨[(0, SS s1), (1, SS q1), (5, BB v1), (6, SS v2.1), (52, BB t4)], [], []⟩) 4 ?_ (fun hJ4 => ?_))
            · rintro t4 h
              unfold l01_RunesPlain_j4 at h
              refine WL_tkC hE 1 [0, 1, 5, 6, 53] [] [] (orc := []) (by kernel_rfl) .n (WL_join (α := Bool) (fun z => l01_RunesPlain_j5 k v2 q1 v1 z = some rz) (fun t5 => ⟨[(1, SS q1), (5, BB v1), (6, SS v2.1), (60, BB t5)], [], []⟩) 7 ?_ (fun hJ5 => ?_))
              · rintro t5 h
                unfold l01_RunesPlain_j5 at h
                refine WL_nil (N_then (W_cond (b := t5) (by kernel_rfl) (fun e5 => ?_) (fun e5 => ?_)))
                · replace h := ite_t e5 h
                  refine W_seq (W_region (WL_allC hE [4] [] [] (orc := []) (by kernel_rfl) .n (N_then (W_ret (N_then_ret ?_)))))
                  cases h
                  exact N_end (.inl rfl) (by kernel_rfl)
                · replace h := ite_f e5 h
                  refine W_skip (N_then (W_seq (W_seq (W_region (WL_allI hE (orc := []) (by kernel_rfl) .n (N_then (W_block (W_loop (α := Int) (fun n z => l01_RunesPlain_l1 k v2 q1 v1 n z = some rz) (fun i1 => ⟨[(1, SS q1), (5, BB v1), (6, SS v2.1), (11, I64 i1)], [], []⟩) ?_ (k := k) (x := (0 : Int)) h))))))))
                  clear h
                  rintro fuel1 i1 h
                  cases fuel1 with
                  | zero => exact absurd (show none = some _ from h) (by simp)
                  | succ fuel1 =>
                    have h : l01_RunesPlain_b1 k v2 q1 v1 (l01_RunesPlain_l1 k v2 q1 v1 fuel1) i1 = some rz := h
                    unfold l01_RunesPlain_b1 at h
                    refine W_seq (W_seq (W_region (WL_allC hE [1, 5, 6, 11, 64] [] [] (orc := []) (by kernel_rfl) .n (N_then (W_cond (b := decide (i1 < (List.length v2.1 : Int))) (by kernel_rfl) (fun e6 => ?_) (fun e6 => ?_))))))
                    · replace h := ite_t e6 h
                      refine W_skip (N_then (W_seq (W_block (W_seq (W_region ?_)))))
                      obtain ⟨b1, e7, h⟩ := bind_some h
                      refine WL_tkC hE 5 [1, 5, 6, 11, 71] [] [] (orc := [tU8 b1]) (by kernel_rfl) (.c e7 .n) (WL_join (α := Bool) (fun z => l01_RunesPlain_j6 (l01_RunesPlain_l1 k v2 q1 v1 fuel1) i1 z = some rz) (fun t6 => ⟨[(1, SS q1), (5, BB v1), (6, SS v2.1), (11, I64 i1), (76, BB t6)], [], []⟩) 5 ?_ (fun hJ6 => ?_))
                      · rintro t6 h
                        unfold l01_RunesPlain_j6 at h
                        refine WL_nil (N_then (W_cond (b := t6) (by kernel_rfl) (fun e8 => ?_) (fun e8 => ?_)))
                        · replace h := ite_t e8 h
                          refine W_seq (W_region (WL_allC hE [4] [] [] (orc := []) (by kernel_rfl) .n (N_then (W_ret (N_block_ret (N_then_ret (N_then_ret (N_block_ret (N_then_ret ?_)))))))))
                          cases h
                          exact N_end (.inl rfl) (by kernel_rfl)
                        · replace h := ite_f e8 h
                          exact W_skip (N_block (N_then (W_region (WL_allI hE (orc := []) (by kernel_rfl) .n (N_round (wi64 (i1 + (1 : Int))) (Nat.lt_succ_self _) h)))))
                      refine WL_splitC 71 (b := decide (b1 < (32 : Int))) (by kernel_rfl) (fun e9 => ?_) (fun e9 => ?_)
                      · replace h := ite_t e9 h
                        exact WL_allI hE (orc := []) (by kernel_rfl) .n (hJ6 true h)
                      · replace h := ite_f e9 h
                        obtain ⟨b2, e10, h⟩ := bind_some h
                        exact WL_allI hE (orc := [tU8 b2]) (by kernel_rfl) (.c e10 .n) (hJ6 (decide ((126 : Int) < b2)) h)
                    · replace h := ite_f e6 h
                      refine W_exit (N_then_exit (N_then_exit (N_block_exit (N_then (W_seq (W_region ?_))))))
                      obtain ⟨v4, e11, h⟩ := bind_some h
                      refine WL_allC hE [1, 5, 12, 13, 14] [] [] (orc := [tS v4.1, tI64 v4.2.1, tI64 v4.2.2]) (by kernel_rfl) (.c e11 .n) (N_then (W_seq (W_seq (W_region (WL_allC hE [1, 5, 12, 13, 84] [] [] (orc := []) (by kernel_rfl) .n (N_then (W_cond (b := v4.2.2 != (0 : Int)) (by kernel_rfl) (fun e12 => ?_) (fun e12 => ?_))))))))
                      · replace h := ite_t e12 h
                        refine W_seq (W_region (WL_tk hE 2 [1, 12, 13, 86] [] [] (st' := ⟨[(1, SS q1), (12, SS v4.1), (13, I64 v4.2.1), (86, BB v1)], [], []⟩) (orc := []) (by kernel_rfl) (Obs.all .n) (WL_join (α := Bool) (fun z => l01_RunesPlain_j7 v4 q1 z = some rz) (fun t7 => ⟨[(1, SS q1), (13, I64 v4.2.1), (89, BB t7)], [], []⟩) 3 ?_ (fun hJ7 => ?_))))
                        · rintro t7 h
                          unfold l01_RunesPlain_j7 at h
                          refine WL_tkC hE 1 [1, 13, 90] [] [] (orc := []) (by kernel_rfl) .n (WL_join (α := Bool) (fun z => l01_RunesPlain_j8 v4 q1 z = some rz) (fun t8 => ⟨[(1, SS q1), (13, I64 v4.2.1), (93, BB t8)], [], []⟩) 3 ?_ (fun hJ8 => ?_))
                          · rintro t8 h
                            unfold l01_RunesPlain_j8 at h
                            refine WL_tkC hE 1 [1, 13, 94] [] [] (orc := []) (by kernel_rfl) .n (WL_join (α := Bool) (fun z => l01_RunesPlain_j9 z = some rz) (fun t9 => ⟨[(99, BB t9)], [], []⟩) 5 ?_ (fun hJ9 => ?_))
                            · rintro t9 h
                              unfold l01_RunesPlain_j9 at h
                              refine WL_allC hE [4] [] [] (orc := []) (by kernel_rfl) .n (N_then (W_ret (N_then_ret ?_)))
                              cases h
                              exact N_end (.inl rfl) (by kernel_rfl)
                            refine WL_splitC 94 (b := t8) (by kernel_rfl) (fun e13 => ?_) (fun e13 => ?_)
                            · rw [and_t e13] at h
                              exact WL_allI hE (orc := []) (by kernel_rfl) .n (hJ9 (decide (v4.2.1 ≤ (List.length q1 : Int))) h)
                            · rw [and_f e13] at h
                              exact WL_allI hE (orc := []) (by kernel_rfl) .n (hJ9 false h)
                          refine WL_splitC 90 (b := t7) (by kernel_rfl) (fun e14 => ?_) (fun e14 => ?_)
                          · rw [and_t e14] at h
                            exact WL_allI hE (orc := []) (by kernel_rfl) .n (hJ8 (decide ((0 : Int) ≤ v4.2.1)) h)
                          · rw [and_f e14] at h
                            exact WL_allI hE (orc := []) (by kernel_rfl) .n (hJ8 false h)
                        refine WL_splitC 86 (b := v1) (by kernel_rfl) (fun e15 => ?_) (fun e15 => ?_)
                        · rw [and_t e15] at h
                          exact WL_allI hE (orc := []) (by kernel_rfl) .n (hJ7 (v4.1 == ([] : List UInt8)) h)
                        · rw [and_f e15] at h
                          exact WL_allI hE (orc := []) (by kernel_rfl) .n (hJ7 false h)
                      · replace h := ite_f e12 h
                        refine W_skip (N_then (W_seq (W_region ?_)))
                        obtain ⟨v5, e16, h⟩ := bind_some h
                        refine WL_allC hE [1, 5, 13, 15, 16] [] [] (orc := [tS v5.1, tI64 v5.2]) (by kernel_rfl) (.c e16 .n) (N_then (W_seq (W_region (WL_tkC hE 2 [1, 13, 15, 16, 106] [] [] (orc := []) (by kernel_rfl) .n (WL_join (α := Bool) (fun z => l01_RunesPlain_j10 v4 v5 q1 z = some rz) (fun t10 => ⟨[(1, SS q1), (13, I64 v4.2.1), (15, SS v5.1), (109, BB t10)], [], []⟩) 3 ?_ (fun hJ10 => ?_))))))
                        · rintro t10 h
                          unfold l01_RunesPlain_j10 at h
                          refine WL_tkC hE 1 [1, 13, 15, 110] [] [] (orc := []) (by kernel_rfl) .n (WL_join (α := Bool) (fun z => l01_RunesPlain_j11 v4 z = some rz) (fun t11 => ⟨[(13, I64 v4.2.1), (114, BB t11)], [], []⟩) 4 ?_ (fun hJ11 => ?_))
                          · rintro t11 h
                            unfold l01_RunesPlain_j11 at h
                            refine WL_tkC hE 1 [13, 115] [] [] (orc := []) (by kernel_rfl) .n (WL_join (α := Bool) (fun z => l01_RunesPlain_j12 z = some rz) (fun t12 => ⟨[(118, BB t12)], [], []⟩) 3 ?_ (fun hJ12 => ?_))
                            · rintro t12 h
                              unfold l01_RunesPlain_j12 at h
                              refine WL_allC hE [4] [] [] (orc := []) (by kernel_rfl) .n (N_then (W_ret ?_))
                              cases h
                              exact N_end (.inl rfl) (by kernel_rfl)
                            refine WL_splitC 115 (b := t11) (by kernel_rfl) (fun e17 => ?_) (fun e17 => ?_)
                            · rw [and_t e17] at h
                              exact WL_allI hE (orc := []) (by kernel_rfl) .n (hJ12 (v4.2.1 == (0 : Int)) h)
                            · rw [and_f e17] at h
                              exact WL_allI hE (orc := []) (by kernel_rfl) .n (hJ12 false h)
                          refine WL_splitC 110 (b := t10) (by kernel_rfl) (fun e18 => ?_) (fun e18 => ?_)
                          · rw [and_t e18] at h
                            exact WL_allI hE (orc := []) (by kernel_rfl) .n (hJ11 (v5.1 == q1) h)
                          · rw [and_f e18] at h
                            exact WL_allI hE (orc := []) (by kernel_rfl) .n (hJ11 false h)
                        refine WL_splitC 106 (b := v1) (by kernel_rfl) (fun e19 => ?_) (fun e19 => ?_)
                        · rw [and_t e19] at h
                          exact WL_allI hE (orc := []) (by kernel_rfl) .n (hJ10 (v5.2 == (0 : Int)) h)
                        · rw [and_f e19] at h
                          exact WL_allI hE (orc := []) (by kernel_rfl) .n (hJ10 false h)
              refine WL_splitC 53 (b := t4) (by kernel_rfl) (fun e20 => ?_) (fun e20 => ?_)
              · rw [or_t e20] at h
                exact WL_allI hE (orc := []) (by kernel_rfl) .n (hJ5 true h)
              · rw [or_f e20] at h
                exact WL_allI hE (orc := []) (by kernel_rfl) .n (hJ5 (decide ((List.length v2.1 : Int) < (wi64 ((List.length s1 : Int) + (2 : Int))))) h)
            refine WL_splitC 48 (b := t3) (by kernel_rfl) (fun e21 => ?_) (fun e21 => ?_)
            · rw [or_t e21] at h
              exact WL_allI hE (orc := []) (by kernel_rfl) .n (hJ4 true h)
            · rw [or_f e21] at h
              exact WL_allI hE (orc := []) (by kernel_rfl) .n (hJ4 (!(v3.1 == s1)) h)
          refine WL_splitC 44 (b := t2) (by kernel_rfl) (fun e22 => ?_) (fun e22 => ?_)
          · rw [or_t e22] at h
            exact WL_allI hE (orc := []) (by kernel_rfl) .n (hJ3 true h)
          · rw [or_f e22] at h
            exact WL_allI hE (orc := []) (by kernel_rfl) .n (hJ3 (v3.2.1 != (0 : Int)) h)
        refine WL_splitC 40 (b := v2.2 != (0 : Int)) (by kernel_rfl) (fun e23 => ?_) (fun e23 => ?_)
        · rw [or_t e23] at h
          exact WL_allI hE (orc := []) (by kernel_rfl) .n (hJ2 true h)
        · rw [or_f e23] at h
          exact WL_allI hE (orc := []) (by kernel_rfl) .n (hJ2 (v3.2.2 != (0 : Int)) h)
    refine WL_splitC 21 (b := decide ((5000 : Int) < (List.length s1 : Int))) (by kernel_rfl) (fun e24 => ?_) (fun e24 => ?_)
    · rw [or_t e24] at h
      exact WL_allI hE (orc := []) (by kernel_rfl) .n (hJ1 true h)
    · rw [or_f e24] at h
      exact WL_allI hE (orc := []) (by kernel_rfl) .n (hJ1 (decide ((5000 : Int) < (List.length q1 : Int))) h)

def C_unicode_utf8_RuneCountInString (k : Nat) : FnC := ⟨true, 1, [], fun | [⟨.str, s1⟩], [⟨(.int .i64), rz⟩] => unicode_utf8_RuneCountInString k s1 = some rz | _, _ => False⟩
noncomputable def E_unicode_utf8_RuneCountInString (k : Nat) : Env := ⟨Tryd.prog, Gu, 10, []⟩
theorem c_unicode_utf8_RuneCountInString (k : Nat) : Contract Tryd.prog Gu 38 (C_unicode_utf8_RuneCountInString k) := by
  refine contract_of Gu_stable (fn := Tryd.f38) Tryd.func38 (by kernel_rfl) rfl ?_ ?_
  · intro xs rs h
    unfold C_unicode_utf8_RuneCountInString at h
    simp only at h
    split at h
    · exact ⟨by show 1 ≤ _; rw [Tryd.ntmps38]; decide, rfl, fun _ u hu => by simp at hu; (rcases hu with rfl) <;> rfl⟩
    · exact h.elim
  · intro w0 M xs rs hG h
    unfold C_unicode_utf8_RuneCountInString at h
    simp only at h
    split at h
    case h_2 => exact h.elim
    rename_i s1 rz
    change List UInt8 at s1
    change Int at rz
    have hE : EnvOK (E_unicode_utf8_RuneCountInString k) ⟨Tryd.prog, Tryd.f38.ntmps, w0, M, fun _ => False, fun _ => undef⟩ := (EnvOK.nil rfl Tryd.ntmps38 hG)
    unfold unicode_utf8_RuneCountInString at h
    refine W_seq (W_region (WL_allC hE [0, 2] [] [] (orc := []) (by kernel_rfl) .n (N_then (W_seq (W_seq (W_region (WL_allI hE (orc := []) (by kernel_rfl) .n (N_then (W_block (W_loop (α := (Int × Nat)) (fun n z => unicode_utf8_RuneCountInString_l1 s1 n z.1 z.2 = some rz) (fun z => ⟨[(2, I64 (z.1)), (4, .iter 4)], [(4, .iter s1 (z.2))], []⟩) ?_ (k := k) (x := ((0 : Int), 0)) h))))))))))
    clear h
    rintro fuel1 ⟨n1, pos1⟩ h
    cases fuel1 with
    | zero => exact absurd (show none = some _ from h) (by simp)
    | succ fuel1 =>
      have h : unicode_utf8_RuneCountInString_b1 s1 (unicode_utf8_RuneCountInString_l1 s1 fuel1) n1 pos1 = some rz := h
      unfold unicode_utf8_RuneCountInString_b1 at h
      refine W_seq (W_region ?_)
      rcases Bool.eq_false_or_eq_true (decide (pos1 < List.length s1)) with e1 | e1
      · replace h := ite_t e1 h
        exact WL_tkC hE 1 [2, 4, 5] [4] [] (orc := [tB true]) (by kernel_rfl) (.c (of_decide_eq_true e1) .n) (WL_allC hE [2, 4, 6] [4] [] (orc := []) (by kernel_rfl) .n (N_then (W_seq (W_cond_true (by kernel_rfl) (W_skip (N_then (W_block (W_region (WL_allI hE (orc := []) (by kernel_rfl) .n (N_block (N_round (wi64 (n1 + (1 : Int)), (pos1 + widthAt s1 pos1)) (Nat.lt_succ_self _) h)))))))))))
      · replace h := ite_f e1 h
        refine WL_tkC hE 1 [2, 4, 5] [4] [] (orc := [tB false]) (by kernel_rfl) (.c (show List.length s1 ≤ pos1 from Nat.le_of_not_lt (of_decide_eq_false e1)) .n) (WL_allI hE (st' := ⟨[(2, I64 n1), (4, .iter 4), (6, BB false)], [(4, .iter s1 pos1)], []⟩) (orc := []) (by kernel_rfl) .n (N_then (W_seq (W_cond_false (by kernel_rfl) (W_exit (N_then_exit (N_then_exit (N_block_exit (N_then (W_seq (W_region (WL_allC hE [2] [] [] (orc := []) (by kernel_rfl) .n (N_then (W_ret ?_))))))))))))))
        cases h
        exact N_end (.inl rfl) (by kernel_rfl)

def C_runes_Len (k : Nat) : FnC := ⟨true, 2, [], fun | [⟨.str, s1⟩], [⟨(.int .i64), rz1⟩, ⟨(.int .i64), rz2⟩] => runes_Len k s1 = some (rz1, rz2) | _, _ => False⟩
noncomputable def E_runes_Len (k : Nat) : Env := ⟨Tryd.prog, Gu, 12, [(35, C_runes_long k), (38, C_unicode_utf8_RuneCountInString k)]⟩
theorem c_runes_Len (k : Nat) : Contract Tryd.prog Gu 15 (C_runes_Len k) := by
  refine contract_of Gu_stable (fn := Tryd.f15) Tryd.func15 (by kernel_rfl) rfl ?_ ?_
  · intro xs rs h
    unfold C_runes_Len at h
    simp only at h
    split at h
    · exact ⟨by show 1 ≤ _; rw [Tryd.ntmps15]; decide, rfl, fun _ u hu => by simp at hu; (rcases hu with rfl | rfl) <;> rfl⟩
    · exact h.elim
  · intro w0 M xs rs hG h
    unfold C_runes_Len at h
    simp only at h
    split at h
    case h_2 => exact h.elim
    rename_i s1 rz1 rz2
    change List UInt8 at s1
    change Int at rz1
    change Int at rz2
    have hE : EnvOK (E_runes_Len k) ⟨Tryd.prog, Tryd.f15.ntmps, w0, M, fun _ => False, fun _ => undef⟩ := (EnvOK.cons (c_runes_long k) (EnvOK.cons (c_unicode_utf8_RuneCountInString k) (EnvOK.nil rfl Tryd.ntmps15 hG)))
    unfold runes_Len at h
    refine W_seq (W_region (WL_allC hE [0] [] [] (orc := []) (by kernel_rfl) .n (N_then (W_seq (W_seq (W_region ?_))))))
    obtain ⟨v1, e1, h⟩ := bind_some h
    refine WL_allC hE [0, 4] [] [] (orc := [tI64 v1]) (by kernel_rfl) (.c e1 .n) (N_then (W_seq (W_region (WL_allC hE [0, 4, 8] [] [] (orc := []) (by kernel_rfl) .n (N_then (W_cond (b := v1 != (0 : Int)) (by kernel_rfl) (fun e2 => ?_) (fun e2 => ?_)))))))
    · replace h := ite_t e2 h
      refine W_seq (W_region (WL_allI hE (st' := ⟨[(2, I64 (0 : Int)), (3, I64 v1)], [], []⟩) (orc := []) (by kernel_rfl) .n (N_then (W_ret (N_then_ret ?_)))))
      cases h
      exact N_end (.inl rfl) (by kernel_rfl)
    · replace h := ite_f e2 h
      refine W_skip (N_then (W_seq (W_region ?_)))
      obtain ⟨v2, e3, h⟩ := bind_some h
      refine WL_allC hE [2, 3] [] [] (orc := [tI64 v2]) (by kernel_rfl) (.c e3 .n) (N_then (W_ret ?_))
      cases h
      exact N_end (.inl rfl) (by kernel_rfl)

def B_runes_Broken_c1_i1 (k : Nat) : FnB ((Int × Int × Int × Bool × Unit) × Int) (Bool × Int) where
  n := 10
  S := fun z => ⟨[(0, .val (.pair (.int .i32) (.pair (.int .i64) (.pair (.int .i64) (.pair .bool .unit)))) (z.1)), (1, .ptr 10 0)], [(10, .cells [I64 (z.2)] 3)], []⟩
  S' := fun z y => ⟨[], [(10, .cells [I64 (y.2)] 3)], []⟩
  rs := fun z y => [BB (y.1)]
  rel := fun z y => runes_Broken_c1_i1 k (z.1) (z.2) = some y
noncomputable def E_runes_Broken_c1_i1 (k : Nat) : Env := ⟨Tryd.prog, Gu, 10, []⟩
theorem b_runes_Broken_c1_i1 (k : Nat) : BC Tryd.prog Gu 39 (B_runes_Broken_c1_i1 k) := by
  refine bc_of (fn := Tryd.f39) Tryd.func39 (by kernel_rfl) rfl Tryd.ntmps39 ?_
  rintro cx hP hn hG ⟨p1, c1⟩ y0 h
  have hE : EnvOK (E_runes_Broken_c1_i1 k) cx := (EnvOK.nil hP hn hG)
  replace h : runes_Broken_c1_i1 k p1 c1 = some y0 := h
  unfold runes_Broken_c1_i1 at h
  refine W_seq (W_region (WL_allC hE [1, 2] [2, 10] [] (orc := []) (by kernel_rfl) .n (N_then (W_join (α := Int) (fun z => runes_Broken_c1_i1_j1 z = some y0) (fun t2 => ⟨[(1, .ptr 10 0)], [(10, .cells [I64 t2] 3)], []⟩) ?_ (fun hJ1 => ?_)))))
  · rintro t2 h
    unfold runes_Broken_c1_i1_j1 at h
    refine W_seq (W_region (WL_allC hE [1, 3] [10] [] (orc := []) (by kernel_rfl) .n (N_then (W_ret ?_))))
    replace h := Option.some.inj h
    subst h
    exact N_normC [1, 3] [10] [] (by kernel_rfl) (N_endB hE.P [10] [] (.inl rfl) (by kernel_rfl) (by kernel_rfl))
  refine W_seq (W_region (WL_allC hE [1, 2, 5] [2, 10] [] (orc := []) (by kernel_rfl) .n (N_then (W_cond (b := p1.2.2.2.1) (by kernel_rfl) (fun e1 => ?_) (fun e1 => ?_)))))
  · replace h := ite_t e1 h
    exact W_region (WL_allI hE (orc := []) (by kernel_rfl) .n (hJ1 p1.2.1 h))
  · replace h := ite_f e1 h
    exact W_skip (N_normI (by kernel_rfl) (hJ1 c1 h))

def B_runes_each_i2 (k : Nat) : FnB (List UInt8 × Int) Int where
  n := 37
  S := fun z => ⟨[(0, SS (z.1)), (1, .clos 39 [37])], [(37, .cells [I64 (z.2)] 3)], []⟩
  S' := fun z y => ⟨[], [(37, .cells [I64 (y)] 3)], []⟩
  rs := fun z y => []
  rel := fun z y => runes_each_i2 k (z.1) (z.2) = some y
noncomputable def E_runes_each_i2 (k : Nat) : Env := ⟨Tryd.prog, Gu, 37, [(52, C_unicode_utf8_RuneLen k), (25, C_unicode_utf8_DecodeRuneInString k)]⟩
theorem b_runes_each_i2 (k : Nat) : BC Tryd.prog Gu 36 (B_runes_each_i2 k) := by
  refine bc_of (fn := Tryd.f36) Tryd.func36 (by kernel_rfl) rfl Tryd.ntmps36 ?_
  rintro cx hP hn hG ⟨s1, c1⟩ y0 h
  have hE : EnvOK (E_runes_each_i2 k) cx := (EnvOK.cons (c_unicode_utf8_RuneLen k) (EnvOK.cons (e_unicode_utf8_DecodeRuneInString k) (EnvOK.nil hP hn hG)))
  replace h : runes_each_i2 k s1 c1 = some y0 := h
  unfold runes_each_i2 at h
  refine W_seq (W_region (WL_allI hE (orc := []) (by kernel_rfl) .n (N_then (W_block (W_loop (α := (Nat × Int)) (fun n z => runes_each_i2_l1 k s1 n z.1 z.2 = some y0) (fun z => ⟨[(0, SS s1), (1, .clos 39 [37]), (10, .iter 10)], [(10, .iter s1 (z.1)), (37, .cells [I64 (z.2)] 3)], []⟩) ?_ (k := k) (x := (0, c1)) h)))))
  clear h
  rintro fuel1 ⟨pos1, t2⟩ h
  cases fuel1 with
  | zero => exact absurd (show none = some _ from h) (by simp)
  | succ fuel1 =>
    have h : runes_each_i2_b1 k s1 (runes_each_i2_l1 k s1 fuel1) pos1 t2 = some y0 := h
    unfold runes_each_i2_b1 at h
    refine W_seq (W_region ?_)
    rcases Bool.eq_false_or_eq_true (decide (pos1 < List.length s1)) with e1 | e1
    · replace h := ite_t e1 h
      refine WL_tkC hE 1 [0, 1, 10, 11] [10, 37] [] (orc := [tB true]) (by kernel_rfl) (.c (of_decide_eq_true e1) .n) (WL_allC hE [0, 1, 10, 11, 12] [10, 37] [] (orc := []) (by kernel_rfl) .n (N_then (W_seq (W_cond_true (by kernel_rfl) (W_skip (N_then (W_block (W_seq (W_region (WL_allC hE [0, 1, 4, 5, 10] [10, 37] [] (orc := []) (by kernel_rfl) .n (N_then (W_seq (W_region ?_)))))))))))))
      obtain ⟨v1, e2, h⟩ := bind_some h
      refine WL_allI hE (st' := ⟨[(0, SS s1), (1, .clos 39 [37]), (4, I64 (pos1 : Int)), (5, I32 (runeAt s1 pos1)), (6, .ptr 6 0), (10, .iter 10)], [(6, .cells [I32 (runeAt s1 pos1), I64 (pos1 : Int), I64 v1, BB false] 35), (10, .iter s1 (pos1 + widthAt s1 pos1)), (37, .cells [I64 t2] 3)], []⟩) (orc := [tI64 v1]) (by kernel_rfl) (.c e2 .n) (N_then (W_join (α := (Int × Bool)) (fun z => runes_each_i2_j1 k s1 pos1 t2 (runes_each_i2_l1 k s1 fuel1) z.1 z.2 = some y0) (fun z => ⟨[(0, SS s1), (1, .clos 39 [37]), (6, .ptr 6 0), (10, .iter 10)], [(6, .cells [I32 (runeAt s1 pos1), I64 (pos1 : Int), I64 (z.1), BB (z.2)] 35), (10, .iter s1 (pos1 + widthAt s1 pos1)), (37, .cells [I64 t2] 3)], []⟩) ?_ (fun hJ1 => ?_)))
      · rintro ⟨p1, p2⟩ h
        unfold runes_each_i2_j1 at h
        refine W_seq (W_region (WL_tkC hE 2 [0, 1, 10, 33, 34] [10, 37] [] (orc := []) (by kernel_rfl) .n ?_))
        obtain ⟨v2, e3, h⟩ := bind_some h
        refine WL_callBC hE (b_runes_Broken_c1_i1 k) ((runeAt s1 pos1, (pos1 : Int), p1, p2, ()), t2) v2 e3 (ρ := [(37, 10)]) (ρ' := [(10, 37)]) (n := 10) (by kernel_rfl) [0, 1, 10, 35] [10, 37] [] (by kernel_rfl) (by kernel_rfl) (by kernel_rfl) (WL_allC hE [0, 1, 10, 36] [10, 37] [] (orc := []) (by kernel_rfl) .n (N_then (W_cond (b := !v2.1) (by kernel_rfl) (fun e4 => ?_) (fun e4 => ?_))))
        · replace h := ite_t e4 h
          refine W_ret (N_block_ret (N_then_ret (N_block_ret ?_)))
          replace h := Option.some.inj h
          subst h
          exact N_normC [1] [37] [] (by kernel_rfl) (N_endB hE.P [37] [] (.inl rfl) (by kernel_rfl) (by kernel_rfl))
        · replace h := ite_f e4 h
          exact W_skip (N_block (N_normI (by kernel_rfl) (N_round ((pos1 + widthAt s1 pos1), v2.2) (Nat.lt_succ_self _) h)))
      refine W_seq (W_region (WL_allI hE (st' := ⟨[(0, SS s1), (1, .clos 39 [37]), (4, I64 (pos1 : Int)), (6, .ptr 6 0), (10, .iter 10), (21, BB ((runeAt s1 pos1) == (65533 : Int)))], [(6, .cells [I32 (runeAt s1 pos1), I64 (pos1 : Int), I64 v1, BB false] 35), (10, .iter s1 (pos1 + widthAt s1 pos1)), (37, .cells [I64 t2] 3)], []⟩) (orc := []) (by kernel_rfl) .n (N_then (W_cond (b := (runeAt s1 pos1) == (65533 : Int)) (by kernel_rfl) (fun e5 => ?_) (fun e5 => ?_)))))
      · replace h := ite_t e5 h
        refine W_seq (W_region ?_)
        obtain ⟨s2, e6, h⟩ := bind_some h
        obtain ⟨v3, e7, h⟩ := bind_some h
        refine WL_allC hE [0, 1, 6, 8, 10] [6, 10, 37] [] (orc := [tS s2, tI32 v3.1, tI64 v3.2]) (by kernel_rfl) (.c e6 (.c e7 .n)) (N_then (W_seq (W_region (WL_allC hE [0, 1, 6, 10, 30] [6, 10, 37] [] (orc := []) (by kernel_rfl) .n (N_then (W_cond (b := v3.2 == (1 : Int)) (by kernel_rfl) (fun e8 => ?_) (fun e8 => ?_)))))))
        · replace h := ite_t e8 h
          exact W_region (WL_allI hE (orc := []) (by kernel_rfl) .n (hJ1 ((1 : Int), true) h))
        · replace h := ite_f e8 h
          exact W_skip (N_normI (by kernel_rfl) (hJ1 (v1, false) h))
      · replace h := ite_f e5 h
        exact W_skip (N_normI (by kernel_rfl) (hJ1 (v1, false) h))
    · replace h := ite_f e1 h
      refine WL_tk hE 1 [0, 1, 10, 11] [10, 37] [] (st' := ⟨[(0, SS s1), (1, .clos 39 [37]), (10, .iter 10), (11, .tup [tB false])], [(10, .iter s1 pos1), (37, .cells [I64 t2] 3)], []⟩) (orc := [tB false]) (by kernel_rfl) (Obs.all (.c (show List.length s1 ≤ pos1 from Nat.le_of_not_lt (of_decide_eq_false e1)) .n)) (WL_allC hE [0, 1, 10, 11, 12] [10, 37] [] (orc := []) (by kernel_rfl) .n (N_then (W_seq (W_cond_false (by kernel_rfl) (W_exit (N_then_exit (N_then_exit (N_block_exit ?_))))))))
      replace h := Option.some.inj h
      subst h
      exact N_normC [1] [37] [] (by kernel_rfl) (N_endB hE.P [37] [] (.inr rfl) (by kernel_rfl) (by kernel_rfl))

def C_runes_Broken (k : Nat) : FnC := ⟨true, 2, [], fun | [⟨.str, s1⟩], [⟨(.int .i64), rz1⟩, ⟨(.int .i64), rz2⟩] => runes_Broken k s1 = some (rz1, rz2) | _, _ => False⟩
noncomputable def E_runes_Broken (k : Nat) : Env := ⟨Tryd.prog, Gu, 15, [(35, C_runes_long k)]⟩
theorem c_runes_Broken (k : Nat) : Contract Tryd.prog Gu 17 (C_runes_Broken k) := by
  refine contract_of Gu_stable (fn := Tryd.f17) Tryd.func17 (by kernel_rfl) rfl ?_ ?_
  · intro xs rs h
    unfold C_runes_Broken at h
    simp only at h
    split at h
    · exact ⟨by show 1 ≤ _; rw [Tryd.ntmps17]; decide, rfl, fun _ u hu => by simp at hu; (rcases hu with rfl | rfl) <;> rfl⟩
    · exact h.elim
  · intro w0 M xs rs hG h
    unfold C_runes_Broken at h
    simp only at h
    split at h
    case h_2 => exact h.elim
    rename_i s1 rz1 rz2
    change List UInt8 at s1
    change Int at rz1
    change Int at rz2
    have hE : EnvOK (E_runes_Broken k) ⟨Tryd.prog, Tryd.f17.ntmps, w0, M, fun _ => False, fun _ => undef⟩ := (EnvOK.cons (c_runes_long k) (EnvOK.nil rfl Tryd.ntmps17 hG))
    unfold runes_Broken at h
    refine W_seq (W_region (WL_allC hE [0] [] [] (orc := []) (by kernel_rfl) .n (N_then (W_seq (W_seq (W_region ?_))))))
    obtain ⟨v1, e1, h⟩ := bind_some h
    refine WL_allC hE [0, 4] [] [] (orc := [tI64 v1]) (by kernel_rfl) (.c e1 .n) (N_then (W_seq (W_region (WL_allC hE [0, 4, 9] [] [] (orc := []) (by kernel_rfl) .n (N_then (W_cond (b := v1 != (0 : Int)) (by kernel_rfl) (fun e2 => ?_) (fun e2 => ?_)))))))
    · replace h := ite_t e2 h
      refine W_seq (W_region (WL_allI hE (st' := ⟨[(2, I64 (0 : Int)), (3, I64 v1)], [], []⟩) (orc := []) (by kernel_rfl) .n (N_then (W_ret (N_then_ret ?_)))))
      cases h
      exact N_end (.inl rfl) (by kernel_rfl)
    · replace h := ite_f e2 h
      refine W_skip (N_then (W_seq (W_region (WL_allC hE [0, 5] [5] [] (orc := []) (by kernel_rfl) .n (N_then (W_seq (W_region (WL_tkC hE 2 [5, 11, 12] [5] [] (orc := []) (by kernel_rfl) .n ?_))))))))
      obtain ⟨v2, e3, h⟩ := bind_some h
      refine WL_callB hE (b_runes_each_i2 k) (s1, (-1 : Int)) v2 e3 (ρ := [(5, 37)]) (ρ' := [(37, 5)]) (n := 37) (by kernel_rfl) [5] [5] [] (by kernel_rfl) (by kernel_rfl) (st' := ⟨[(5, .ptr 5 0)], [(5, .cells [I64 v2] 3)], []⟩) (by kernel_rfl) (WL_nil (N_then (W_seq (W_region (WL_allC hE [2, 3] [] [] (orc := []) (by kernel_rfl) .n (N_then (W_ret ?_)))))))
      cases h
      exact N_end (.inl rfl) (by kernel_rfl)

def C_runes_Part_c1 (k : Nat) : FnC := ⟨true, 1, [(.sl (.pair (.int .i32) (.pair (.int .i64) (.pair (.int .i64) (.pair .bool .unit))))), .str], fun | [⟨(.int .i64), i1⟩, ⟨(.ptr (.sl (.pair (.int .i32) (.pair (.int .i64) (.pair (.int .i64) (.pair .bool .unit)))))), t1⟩, ⟨(.ptr .str), t2⟩], [⟨(.int .i64), rz⟩] => runes_Part_c1 k i1 t1 t2 = some rz | _, _ => False⟩
noncomputable def E_runes_Part_c1 (k : Nat) : Env := ⟨Tryd.prog, Gu, 16, []⟩
theorem c_runes_Part_c1 (k : Nat) : Contract Tryd.prog Gu 40 (C_runes_Part_c1 k) := by
  refine contract_of Gu_stable (fn := Tryd.f40) Tryd.func40 (by kernel_rfl) rfl ?_ ?_
  · intro xs rs h
    unfold C_runes_Part_c1 at h
    simp only at h
    split at h
    · exact ⟨by show 3 ≤ _; rw [Tryd.ntmps40]; decide, rfl, fun _ u hu => by simp at hu; (rcases hu with rfl) <;> rfl⟩
    · exact h.elim
  · intro w0 M xs rs hG h
    unfold C_runes_Part_c1 at h
    simp only at h
    split at h
    case h_2 => exact h.elim
    rename_i i1 t1 t2 rz
    change Int at i1
    change List ((Int × Int × Int × Bool × Unit)) at t1
    change List UInt8 at t2
    change Int at rz
    have hE : EnvOK (E_runes_Part_c1 k) ⟨Tryd.prog, Tryd.f40.ntmps, w0, M, fun _ => False, fun _ => undef⟩ := (EnvOK.nil rfl Tryd.ntmps40 hG)
    unfold runes_Part_c1 at h
    refine W_seq (W_region (WL_allC hE [0, 1, 2] [] [] (orc := []) (by kernel_rfl) .n (N_then (W_seq (W_seq (W_region (WL_allC hE [0, 1, 2, 8] [] [] (orc := []) (by kernel_rfl) .n (N_then (W_cond (b := i1 == (List.length t1 : Int)) (by kernel_rfl) (fun e1 => ?_) (fun e1 => ?_))))))))))
    · replace h := ite_t e1 h
      refine W_seq (W_region (WL_allC hE [4] [] [] (orc := []) (by kernel_rfl) .n (N_then (W_ret (N_then_ret ?_)))))
      cases h
      exact N_end (.inl rfl) (by kernel_rfl)
    · replace h := ite_f e1 h
      refine W_skip (N_then (W_seq (W_region ?_)))
      obtain ⟨x1, e2, h⟩ := bind_some h
      refine WL_allI hE (st' := ⟨[(4, I64 x1.2.1)], [], []⟩) (orc := [⟨(.pair (.int .i32) (.pair (.int .i64) (.pair (.int .i64) (.pair .bool .unit)))), x1⟩]) (by kernel_rfl) (.c e2 .n) (N_then (W_ret ?_))
      cases h
      exact N_end (.inl rfl) (by kernel_rfl)

def C_runes_Part (k : Nat) : FnC := ⟨true, 2, [], fun | [⟨.str, s1⟩, ⟨(.int .i64), from1⟩, ⟨(.int .i64), to1⟩], [⟨.str, rz1⟩, ⟨(.int .i64), rz2⟩] => runes_Part k s1 from1 to1 = some (rz1, rz2) | _, _ => False⟩
noncomputable def E_runes_Part (k : Nat) : Env := ⟨Tryd.prog, Gu, 41, [(13, C_runes_Pieces k), (40, C_runes_Part_c1 k)]⟩
theorem c_runes_Part (k : Nat) : Contract Tryd.prog Gu 19 (C_runes_Part k) := by
  refine contract_of Gu_stable (fn := Tryd.f19) Tryd.func19 (by kernel_rfl) rfl ?_ ?_
  · intro xs rs h
    unfold C_runes_Part at h
    simp only at h
    split at h
    · exact ⟨by show 3 ≤ _; rw [Tryd.ntmps19]; decide, rfl, fun _ u hu => by simp at hu; (rcases hu with rfl | rfl) <;> rfl⟩
    · exact h.elim
  · intro w0 M xs rs hG h
    unfold C_runes_Part at h
    simp only at h
    split at h
    case h_2 => exact h.elim
    rename_i s1 from1 to1 rz1 rz2
    change List UInt8 at s1
    change Int at from1
    change Int at to1
    change List UInt8 at rz1
    change Int at rz2
    have hE : EnvOK (E_runes_Part k) ⟨Tryd.prog, Tryd.f19.ntmps, w0, M, fun _ => False, fun _ => undef⟩ := (EnvOK.cons (c_runes_Pieces k) (EnvOK.cons (c_runes_Part_c1 k) (EnvOK.nil rfl Tryd.ntmps19 hG)))
    unfold runes_Part at h
    refine W_seq (W_region (WL_allC hE [1, 2, 3] [3] [] (orc := []) (by kernel_rfl) .n (N_then (W_seq (W_region ?_)))))
    obtain ⟨v1, e1, h⟩ := bind_some h
    refine WL_allC hE [1, 2, 3, 8, 9] [3, 8] [] (orc := [⟨(.sl (.pair (.int .i32) (.pair (.int .i64) (.pair (.int .i64) (.pair .bool .unit))))), v1.1⟩, tI64 v1.2]) (by kernel_rfl) (.c e1 .n) (N_then (W_seq (W_seq (W_region (WL_allC hE [1, 2, 3, 8, 9, 17] [3, 8] [] (orc := []) (by kernel_rfl) .n (N_then (W_cond (b := v1.2 != (0 : Int)) (by kernel_rfl) (fun e2 => ?_) (fun e2 => ?_))))))))
    · replace h := ite_t e2 h
      refine W_seq (W_region (WL_allI hE (st' := ⟨[(6, SS ([] : List UInt8)), (7, I64 v1.2)], [], []⟩) (orc := []) (by kernel_rfl) .n (N_then (W_ret (N_then_ret ?_)))))
      cases h
      exact N_end (.inl rfl) (by kernel_rfl)
    · replace h := ite_f e2 h
      refine W_skip (N_then (W_seq (W_seq (W_region (WL_tkC hE 3 [1, 2, 3, 8, 21] [3, 8] [] (orc := []) (by kernel_rfl) .n (WL_join (α := Bool) (fun z => runes_Part_j1 k from1 v1 s1 to1 z = some (rz1, rz2)) (fun t1 => ⟨[(1, I64 from1), (2, I64 to1), (3, .ptr 3 0), (8, .ptr 8 0), (25, BB t1)], [(3, .cells [SS s1] 9), (8, .cells [.val (.sl (.pair (.int .i32) (.pair (.int .i64) (.pair (.int .i64) (.pair .bool .unit))))) v1.1] 24)], []⟩) 4 ?_ (fun hJ1 => ?_)))))))
      · rintro t1 h
        unfold runes_Part_j1 at h
        refine WL_tkC hE 1 [1, 2, 3, 8, 26] [3, 8] [] (orc := []) (by kernel_rfl) .n (WL_join (α := Bool) (fun z => runes_Part_j2 k from1 v1 s1 to1 z = some (rz1, rz2)) (fun t2 => ⟨[(1, I64 from1), (2, I64 to1), (3, .ptr 3 0), (8, .ptr 8 0), (31, BB t2)], [(3, .cells [SS s1] 9), (8, .cells [.val (.sl (.pair (.int .i32) (.pair (.int .i64) (.pair (.int .i64) (.pair .bool .unit))))) v1.1] 24)], []⟩) 5 ?_ (fun hJ2 => ?_))
        · rintro t2 h
          unfold runes_Part_j2 at h
          refine WL_nil (N_then (W_cond (b := t2) (by kernel_rfl) (fun e3 => ?_) (fun e3 => ?_)))
          · replace h := ite_t e3 h
            refine W_seq (W_region (WL_allC hE [6, 7] [] [] (orc := []) (by kernel_rfl) .n (N_then (W_ret (N_then_ret ?_)))))
            cases h
            exact N_end (.inl rfl) (by kernel_rfl)
          · replace h := ite_f e3 h
            refine W_skip (N_then (W_seq (W_region (WL_allC hE [1, 2, 3, 10] [3, 8] [] (orc := []) (by kernel_rfl) .n (N_then (W_seq (W_draw (by kernel_rfl) (by kernel_rfl) ?_)))))))
            obtain ⟨v2, e4, h⟩ := bind_some h
            obtain ⟨v3, e5, h⟩ := bind_some h
            obtain ⟨s2, e6, h⟩ := bind_some h
            refine WD_allC hE [6, 7] [] [] (orc := [tI64 v2, tI64 v3, tS s2]) (by kernel_rfl) (.c e4 (.c e5 (.c e6 .n))) (N_then (W_ret ?_))
            cases h
            exact N_end (.inl rfl) (by kernel_rfl)
        refine WL_splitC 26 (b := t1) (by kernel_rfl) (fun e7 => ?_) (fun e7 => ?_)
        · rw [or_t e7] at h
          exact WL_allI hE (orc := []) (by kernel_rfl) .n (hJ2 true h)
        · rw [or_f e7] at h
          exact WL_allI hE (orc := []) (by kernel_rfl) .n (hJ2 (decide ((List.length v1.1 : Int) < to1)) h)
      refine WL_splitC 21 (b := decide (from1 < (0 : Int))) (by kernel_rfl) (fun e8 => ?_) (fun e8 => ?_)
      · rw [or_t e8] at h
        exact WL_allI hE (orc := []) (by kernel_rfl) .n (hJ1 true h)
      · rw [or_f e8] at h
        exact WL_allI hE (orc := []) (by kernel_rfl) .n (hJ1 (decide (to1 < from1)) h)

def C_l01_wrong (k : Nat) : FnC := ⟨true, 1, [], fun | [⟨.str, s1⟩, ⟨(.int .i64), at1⟩], [⟨.bool, rz⟩] => l01_wrong k s1 at1 = some rz | _, _ => False⟩
noncomputable def E_l01_wrong (k : Nat) : Env := ⟨Tryd.prog, Gu, 25, [(29, C_runes_Plain k)]⟩
theorem c_l01_wrong (k : Nat) : Contract Tryd.prog Gu 32 (C_l01_wrong k) := by
  refine contract_of Gu_stable (fn := Tryd.f32) Tryd.func32 (by kernel_rfl) rfl ?_ ?_
  · intro xs rs h
    unfold C_l01_wrong at h
    simp only at h
    split at h
    · exact ⟨by show 2 ≤ _; rw [Tryd.ntmps32]; decide, rfl, fun _ u hu => by simp at hu; (rcases hu with rfl) <;> rfl⟩
    · exact h.elim
  · intro w0 M xs rs hG h
    unfold C_l01_wrong at h
    simp only at h
    split at h
    case h_2 => exact h.elim
    rename_i s1 at1 rz
    change List UInt8 at s1
    change Int at at1
    change Bool at rz
    have hE : EnvOK (E_l01_wrong k) ⟨Tryd.prog, Tryd.f32.ntmps, w0, M, fun _ => False, fun _ => undef⟩ := (EnvOK.cons (c_runes_Plain k) (EnvOK.nil rfl Tryd.ntmps32 hG))
    unfold l01_wrong at h
    refine W_seq (W_region (WL_allC hE [0, 1] [] [] (orc := []) (by kernel_rfl) .n (N_then (W_seq (W_region ?_)))))
    obtain ⟨v1, e1, h⟩ := bind_some h
    refine WL_allC hE [1, 5, 6, 7] [] [] (orc := [tS v1.1, tI64 v1.2.1, tI64 v1.2.2]) (by kernel_rfl) (.c e1 .n) (N_then (W_seq (W_region (WL_tkC hE 3 [1, 6, 7, 16] [] [] (orc := []) (by kernel_rfl) .n (WL_join (α := Bool) (fun z => l01_wrong_j1 v1 z = some rz) (fun t1 => ⟨[(7, I64 v1.2.2), (20, BB t1)], [], []⟩) 4 ?_ (fun hJ1 => ?_))))))
    · rintro t1 h
      unfold l01_wrong_j1 at h
      refine WL_tkC hE 1 [7, 21] [] [] (orc := []) (by kernel_rfl) .n (WL_join (α := Bool) (fun z => l01_wrong_j2 z = some rz) (fun t2 => ⟨[(24, BB t2)], [], []⟩) 3 ?_ (fun hJ2 => ?_))
      · rintro t2 h
        unfold l01_wrong_j2 at h
        refine WL_allC hE [4] [] [] (orc := []) (by kernel_rfl) .n (N_then (W_ret ?_))
        cases h
        exact N_end (.inl rfl) (by kernel_rfl)
      refine WL_splitC 21 (b := t1) (by kernel_rfl) (fun e2 => ?_) (fun e2 => ?_)
      · rw [and_t e2] at h
        exact WL_allI hE (orc := []) (by kernel_rfl) .n (hJ2 (v1.2.2 == (10 : Int)) h)
      · rw [and_f e2] at h
        exact WL_allI hE (orc := []) (by kernel_rfl) .n (hJ2 false h)
    refine WL_splitC 16 (b := v1.1 == ([] : List UInt8)) (by kernel_rfl) (fun e3 => ?_) (fun e3 => ?_)
    · rw [and_t e3] at h
      exact WL_allI hE (orc := []) (by kernel_rfl) .n (hJ1 (v1.2.1 == at1) h)
    · rw [and_f e3] at h
      exact WL_allI hE (orc := []) (by kernel_rfl) .n (hJ1 false h)

def C_l01_RunesNames (k : Nat) : FnC := ⟨true, 1, [], fun | [], [⟨.bool, rz⟩] => l01_RunesNames k = some rz | _, _ => False⟩
noncomputable def E_l01_RunesNames (k : Nat) : Env := ⟨Tryd.prog, Gu, 188, [(13, C_runes_Pieces k), (15, C_runes_Len k), (17, C_runes_Broken k), (19, C_runes_Part k), (27, C_runes_Quote k), (32, C_l01_wrong k), (24, C_l01_alive k), (10, C_runes_Less k), (26, C_runes_Text k)]⟩
theorem c_l01_RunesNames (k : Nat) : Contract Tryd.prog Gu 9 (C_l01_RunesNames k) := by
  refine contract_of Gu_stable (fn := Tryd.f9) Tryd.func9 (by kernel_rfl) rfl ?_ ?_
  · intro xs rs h
    unfold C_l01_RunesNames at h
    simp only at h
    split at h
    · exact ⟨by show 0 ≤ _; rw [Tryd.ntmps9]; decide, rfl, fun _ u hu => by simp at hu; (rcases hu with rfl) <;> rfl⟩
    · exact h.elim
  · intro w0 M xs rs hG h
    unfold C_l01_RunesNames at h
    simp only at h
    split at h
    case h_2 => exact h.elim
    rename_i rz
    change Bool at rz
    have hE : EnvOK (E_l01_RunesNames k) ⟨Tryd.prog, Tryd.f9.ntmps, w0, M, fun _ => False, fun _ => undef⟩ := (EnvOK.cons (c_runes_Pieces k) (EnvOK.cons (c_runes_Len k) (EnvOK.cons (c_runes_Broken k) (EnvOK.cons (c_runes_Part k) (EnvOK.cons (c_runes_Quote k) (EnvOK.cons (c_l01_wrong k) (EnvOK.cons (c_l01_alive k) (EnvOK.cons (c_runes_Less k) (EnvOK.cons (c_runes_Text k) (EnvOK.nil rfl Tryd.ntmps9 hG))))))))))
    unfold l01_RunesNames at h
    refine W_seq (W_region (WL_allC hE [] [] [] (orc := []) (by kernel_rfl) .n (N_then (W_seq (W_region ?_)))))
    obtain ⟨v1, e1, h⟩ := bind_some h
    refine WL_allC hE [1, 2] [] [] (orc := [⟨(.sl (.pair (.int .i32) (.pair (.int .i64) (.pair (.int .i64) (.pair .bool .unit))))), v1.1⟩, tI64 v1.2]) (by kernel_rfl) (.c e1 .n) (N_then (W_seq (W_region ?_)))
    obtain ⟨v2, e2, h⟩ := bind_some h
    refine WL_allC hE [1, 2, 3, 4] [] [] (orc := [tI64 v2.1, tI64 v2.2]) (by kernel_rfl) (.c e2 .n) (N_then (W_seq (W_region ?_)))
    obtain ⟨v3, e3, h⟩ := bind_some h
    refine WL_allI hE (st' := ⟨[(1, .val (.sl (.pair (.int .i32) (.pair (.int .i64) (.pair (.int .i64) (.pair .bool .unit))))) v1.1), (2, I64 v1.2), (3, I64 v2.1), (4, I64 v2.2), (5, I64 v3.1), (6, I64 v3.2)], [], []⟩) (orc := [tI64 v3.1, tI64 v3.2]) (by kernel_rfl) (.c e3 .n) (N_then (W_seq (W_region ?_)))
    obtain ⟨v4, e4, h⟩ := bind_some h
    refine WL_allC hE [1, 2, 3, 4, 5, 6, 7, 8] [] [] (orc := [tI64 v4.1, tI64 v4.2]) (by kernel_rfl) (.c e4 .n) (N_then (W_seq (W_region (WL_tkC hE 3 [1, 3, 4, 5, 6, 7, 8, 40] [] [] (orc := []) (by kernel_rfl) .n (WL_join (α := Bool) (fun z => l01_RunesNames_j1 k v1 v4 v3 v2 z = some rz) (fun t1 => ⟨[(1, .val (.sl (.pair (.int .i32) (.pair (.int .i64) (.pair (.int .i64) (.pair .bool .unit))))) v1.1), (3, I64 v2.1), (4, I64 v2.2), (5, I64 v3.1), (6, I64 v3.2), (7, I64 v4.1), (8, I64 v4.2), (44, BB t1)], [], []⟩) 4 ?_ (fun hJ1 => ?_))))))
    · rintro t1 h
      unfold l01_RunesNames_j1 at h
      refine WL_tkC hE 1 [1, 3, 4, 5, 6, 7, 8, 45] [] [] (orc := []) (by kernel_rfl) .n (WL_join (α := Bool) (fun z => l01_RunesNames_j2 k v1 v4 v3 v2 z = some rz) (fun t2 => ⟨[(1, .val (.sl (.pair (.int .i32) (.pair (.int .i64) (.pair (.int .i64) (.pair .bool .unit))))) v1.1), (3, I64 v2.1), (4, I64 v2.2), (5, I64 v3.1), (6, I64 v3.2), (7, I64 v4.1), (8, I64 v4.2), (51, BB t2)], [], []⟩) 6 ?_ (fun hJ2 => ?_))
      · rintro t2 h
        unfold l01_RunesNames_j2 at h
        refine WL_tkC hE 1 [1, 3, 4, 5, 6, 7, 8, 52] [] [] (orc := []) (by kernel_rfl) .n (WL_join (α := Bool) (fun z => l01_RunesNames_j3 k v1 v4 v3 v2 z = some rz) (fun t3 => ⟨[(1, .val (.sl (.pair (.int .i32) (.pair (.int .i64) (.pair (.int .i64) (.pair .bool .unit))))) v1.1), (3, I64 v2.1), (4, I64 v2.2), (5, I64 v3.1), (6, I64 v3.2), (7, I64 v4.1), (8, I64 v4.2), (58, BB t3)], [], []⟩) 6 ?_ (fun hJ3 => ?_))
        · rintro t3 h
          unfold l01_RunesNames_j3 at h
          refine WL_tkC hE 1 [1, 3, 4, 5, 6, 7, 8, 59] [] [] (orc := []) (by kernel_rfl) .n (WL_join (α := Bool) (fun z => l01_RunesNames_j4 k v4 v3 v2 z = some rz) (fun t4 => ⟨[(3, I64 v2.1), (4, I64 v2.2), (5, I64 v3.1), (6, I64 v3.2), (7, I64 v4.1), (8, I64 v4.2), (65, BB t4)], [], []⟩) 6 ?_ (fun hJ4 => ?_))
          · rintro t4 h
            unfold l01_RunesNames_j4 at h
            refine WL_tkC hE 1 [3, 4, 5, 6, 7, 8, 66] [] [] (orc := []) (by kernel_rfl) .n (WL_join (α := Bool) (fun z => l01_RunesNames_j5 k v4 v3 v2 z = some rz) (fun t5 => ⟨[(3, I64 v2.1), (5, I64 v3.1), (6, I64 v3.2), (7, I64 v4.1), (8, I64 v4.2), (69, BB t5)], [], []⟩) 3 ?_ (fun hJ5 => ?_))
            · rintro t5 h
              unfold l01_RunesNames_j5 at h
              refine WL_tkC hE 1 [3, 5, 6, 7, 8, 70] [] [] (orc := []) (by kernel_rfl) .n (WL_join (α := Bool) (fun z => l01_RunesNames_j6 k v4 v3 z = some rz) (fun t6 => ⟨[(5, I64 v3.1), (6, I64 v3.2), (7, I64 v4.1), (8, I64 v4.2), (73, BB t6)], [], []⟩) 3 ?_ (fun hJ6 => ?_))
              · rintro t6 h
                unfold l01_RunesNames_j6 at h
                refine WL_tkC hE 1 [5, 6, 7, 8, 74] [] [] (orc := []) (by kernel_rfl) .n (WL_join (α := Bool) (fun z => l01_RunesNames_j7 k v4 v3 z = some rz) (fun t7 => ⟨[(5, I64 v3.1), (7, I64 v4.1), (8, I64 v4.2), (77, BB t7)], [], []⟩) 3 ?_ (fun hJ7 => ?_))
                · rintro t7 h
                  unfold l01_RunesNames_j7 at h
                  refine WL_tkC hE 1 [5, 7, 8, 78] [] [] (orc := []) (by kernel_rfl) .n (WL_join (α := Bool) (fun z => l01_RunesNames_j8 k v4 z = some rz) (fun t8 => ⟨[(7, I64 v4.1), (8, I64 v4.2), (81, BB t8)], [], []⟩) 3 ?_ (fun hJ8 => ?_))
                  · rintro t8 h
                    unfold l01_RunesNames_j8 at h
                    refine WL_tkC hE 1 [7, 8, 82] [] [] (orc := []) (by kernel_rfl) .n (WL_join (α := Bool) (fun z => l01_RunesNames_j9 k v4 z = some rz) (fun t9 => ⟨[(7, I64 v4.1), (85, BB t9)], [], []⟩) 3 ?_ (fun hJ9 => ?_))
                    · rintro t9 h
                      unfold l01_RunesNames_j9 at h
                      refine WL_tkC hE 1 [7, 86] [] [] (orc := []) (by kernel_rfl) .n (WL_join (α := Bool) (fun z => l01_RunesNames_j10 k z = some rz) (fun t10 => ⟨[(89, BB t10)], [], []⟩) 3 ?_ (fun hJ10 => ?_))
                      · rintro t10 h
                        unfold l01_RunesNames_j10 at h
                        refine WL_allC hE [9] [] [] (orc := []) (by kernel_rfl) .n (N_then (W_seq (W_region ?_)))
                        obtain ⟨v5, e5, h⟩ := bind_some h
                        refine WL_allC hE [9, 10, 11] [] [] (orc := [tS v5.1, tI64 v5.2]) (by kernel_rfl) (.c e5 .n) (N_then (W_seq (W_region ?_)))
                        obtain ⟨v6, e6, h⟩ := bind_some h
                        refine WL_allC hE [9, 10, 11, 13] [] [] (orc := [tS v6.1, tI64 v6.2]) (by kernel_rfl) (.c e6 .n) (N_then (W_seq (W_region ?_)))
                        obtain ⟨v7, e7, h⟩ := bind_some h
                        refine WL_allI hE (st' := ⟨[(9, BB t10), (10, SS v5.1), (11, I64 v5.2), (13, I64 v6.2), (15, I64 v7.2)], [], []⟩) (orc := [tS v7.1, tI64 v7.2]) (by kernel_rfl) (.c e7 .n) (N_then (W_seq (W_region ?_)))
                        obtain ⟨v8, e8, h⟩ := bind_some h
                        refine WL_allC hE [9, 10, 11, 13, 15, 16, 17] [] [] (orc := [tS v8.1, tI64 v8.2]) (by kernel_rfl) (.c e8 .n) (N_then (W_seq (W_region ?_)))
                        obtain ⟨v9, e9, h⟩ := bind_some h
                        refine WL_allC hE [9, 10, 11, 13, 15, 16, 17, 18, 19] [] [] (orc := [tS v9.1, tI64 v9.2]) (by kernel_rfl) (.c e9 .n) (N_then (W_seq (W_region (WL_tkC hE 3 [9, 10, 13, 15, 16, 17, 18, 19, 112] [] [] (orc := []) (by kernel_rfl) .n (WL_join (α := Bool) (fun z => l01_RunesNames_j11 k t10 v9 v8 v7 v6 z = some rz) (fun t11 => ⟨[(9, BB t10), (13, I64 v6.2), (15, I64 v7.2), (16, SS v8.1), (17, I64 v8.2), (18, SS v9.1), (19, I64 v9.2), (115, BB t11)], [], []⟩) 3 ?_ (fun hJ11 => ?_))))))
                        · rintro t11 h
                          unfold l01_RunesNames_j11 at h
                          refine WL_tkC hE 1 [9, 13, 15, 16, 17, 18, 19, 116] [] [] (orc := []) (by kernel_rfl) .n (WL_join (α := Bool) (fun z => l01_RunesNames_j12 k t10 v9 v8 v7 z = some rz) (fun t12 => ⟨[(9, BB t10), (15, I64 v7.2), (16, SS v8.1), (17, I64 v8.2), (18, SS v9.1), (19, I64 v9.2), (119, BB t12)], [], []⟩) 3 ?_ (fun hJ12 => ?_))
                          · rintro t12 h
                            unfold l01_RunesNames_j12 at h
                            refine WL_tkC hE 1 [9, 15, 16, 17, 18, 19, 120] [] [] (orc := []) (by kernel_rfl) .n (WL_join (α := Bool) (fun z => l01_RunesNames_j13 k t10 v9 v8 z = some rz) (fun t13 => ⟨[(9, BB t10), (16, SS v8.1), (17, I64 v8.2), (18, SS v9.1), (19, I64 v9.2), (123, BB t13)], [], []⟩) 3 ?_ (fun hJ13 => ?_))
                            · rintro t13 h
                              unfold l01_RunesNames_j13 at h
                              refine WL_tkC hE 1 [9, 16, 17, 18, 19, 124] [] [] (orc := []) (by kernel_rfl) .n (WL_join (α := Bool) (fun z => l01_RunesNames_j14 k t10 v9 v8 z = some rz) (fun t14 => ⟨[(9, BB t10), (16, SS v8.1), (18, SS v9.1), (19, I64 v9.2), (127, BB t14)], [], []⟩) 3 ?_ (fun hJ14 => ?_))
                              · rintro t14 h
                                unfold l01_RunesNames_j14 at h
                                refine WL_tkC hE 1 [9, 16, 18, 19, 128] [] [] (orc := []) (by kernel_rfl) .n (WL_join (α := Bool) (fun z => l01_RunesNames_j15 k t10 v9 z = some rz) (fun t15 => ⟨[(9, BB t10), (18, SS v9.1), (19, I64 v9.2), (131, BB t15)], [], []⟩) 3 ?_ (fun hJ15 => ?_))
                                · rintro t15 h
                                  unfold l01_RunesNames_j15 at h
                                  refine WL_tkC hE 1 [9, 18, 19, 132] [] [] (orc := []) (by kernel_rfl) .n (WL_join (α := Bool) (fun z => l01_RunesNames_j16 k t10 v9 z = some rz) (fun t16 => ⟨[(9, BB t10), (18, SS v9.1), (135, BB t16)], [], []⟩) 3 ?_ (fun hJ16 => ?_))
                                  · rintro t16 h
                                    unfold l01_RunesNames_j16 at h
                                    refine WL_tkC hE 1 [9, 18, 136] [] [] (orc := []) (by kernel_rfl) .n (WL_join (α := Bool) (fun z => l01_RunesNames_j17 k t10 z = some rz) (fun t17 => ⟨[(9, BB t10), (139, BB t17)], [], []⟩) 3 ?_ (fun hJ17 => ?_))
                                    · rintro t17 h
                                      unfold l01_RunesNames_j17 at h
                                      refine WL_tkC hE 1 [9, 140] [] [] (orc := []) (by kernel_rfl) .n (WL_join (α := Bool) (fun z => l01_RunesNames_j18 k t10 z = some rz) (fun t18 => ⟨[(9, BB t10), (144, BB t18)], [], []⟩) 4 ?_ (fun hJ18 => ?_))
                                      · rintro t18 h
                                        unfold l01_RunesNames_j18 at h
                                        refine WL_tkC hE 1 [9, 145] [] [] (orc := []) (by kernel_rfl) .n (WL_join (α := Bool) (fun z => l01_RunesNames_j19 k t10 z = some rz) (fun t19 => ⟨[(9, BB t10), (149, BB t19)], [], []⟩) 4 ?_ (fun hJ19 => ?_))
                                        · rintro t19 h
                                          unfold l01_RunesNames_j19 at h
                                          refine WL_allC hE [9, 20] [] [] (orc := []) (by kernel_rfl) .n (N_then (W_seq (W_region ?_)))
                                          obtain ⟨v10, e10, h⟩ := bind_some h
                                          refine WL_tkC hE 2 [9, 20, 151] [] [] (orc := [tB v10]) (by kernel_rfl) (.c e10 .n) (WL_join (α := Bool) (fun z => l01_RunesNames_j20 k t19 t10 z = some rz) (fun t20 => ⟨[(9, BB t10), (20, BB t19), (153, BB t20)], [], []⟩) 2 ?_ (fun hJ20 => ?_))
                                          · rintro t20 h
                                            unfold l01_RunesNames_j20 at h
                                            refine WL_tkC hE 1 [9, 20, 154] [] [] (orc := []) (by kernel_rfl) .n (WL_join (α := Bool) (fun z => l01_RunesNames_j21 k t19 t10 z = some rz) (fun t21 => ⟨[(9, BB t10), (20, BB t19), (156, BB t21)], [], []⟩) 2 ?_ (fun hJ21 => ?_))
                                            · rintro t21 h
                                              unfold l01_RunesNames_j21 at h
                                              refine WL_tkC hE 1 [9, 20, 157] [] [] (orc := []) (by kernel_rfl) .n (WL_join (α := Bool) (fun z => l01_RunesNames_j22 k t19 t10 z = some rz) (fun t22 => ⟨[(9, BB t10), (20, BB t19), (159, BB t22)], [], []⟩) 2 ?_ (fun hJ22 => ?_))
                                              · rintro t22 h
                                                unfold l01_RunesNames_j22 at h
                                                refine WL_tkC hE 1 [9, 20, 160] [] [] (orc := []) (by kernel_rfl) .n (WL_join (α := Bool) (fun z => l01_RunesNames_j23 k t19 t10 z = some rz) (fun t23 => ⟨[(9, BB t10), (20, BB t19), (162, BB t23)], [], []⟩) 2 ?_ (fun hJ23 => ?_))
                                                · rintro t23 h
                                                  unfold l01_RunesNames_j23 at h
                                                  refine WL_tkC hE 1 [9, 20, 163] [] [] (orc := []) (by kernel_rfl) .n (WL_join (α := Bool) (fun z => l01_RunesNames_j24 k t19 t10 z = some rz) (fun t24 => ⟨[(9, BB t10), (20, BB t19), (165, BB t24)], [], []⟩) 2 ?_ (fun hJ24 => ?_))
                                                  · rintro t24 h
                                                    unfold l01_RunesNames_j24 at h
                                                    refine WL_tkC hE 1 [9, 20, 166] [] [] (orc := []) (by kernel_rfl) .n (WL_join (α := Bool) (fun z => l01_RunesNames_j25 k t19 t10 z = some rz) (fun t25 => ⟨[(9, BB t10), (20, BB t19), (168, BB t25)], [], []⟩) 2 ?_ (fun hJ25 => ?_))
                                                    · rintro t25 h
                                                      unfold l01_RunesNames_j25 at h
                                                      refine WL_tkC hE 1 [9, 20, 169] [] [] (orc := []) (by kernel_rfl) .n (WL_join (α := Bool) (fun z => l01_RunesNames_j26 k t19 t10 z = some rz) (fun t26 => ⟨[(9, BB t10), (20, BB t19), (171, BB t26)], [], []⟩) 2 ?_ (fun hJ26 => ?_))
                                                      · rintro t26 h
                                                        unfold l01_RunesNames_j26 at h
                                                        refine WL_tkC hE 1 [9, 20, 172] [] [] (orc := []) (by kernel_rfl) .n (WL_join (α := Bool) (fun z => l01_RunesNames_j27 k t19 t10 z = some rz) (fun t27 => ⟨[(9, BB t10), (20, BB t19), (175, BB t27)], [], []⟩) 3 ?_ (fun hJ27 => ?_))
                                                        · rintro t27 h
                                                          unfold l01_RunesNames_j27 at h
                                                          refine WL_allC hE [9, 20, 21] [] [] (orc := []) (by kernel_rfl) .n (N_then (W_seq (W_region ?_)))
                                                          obtain ⟨v11, e11, h⟩ := bind_some h
                                                          refine WL_tkC hE 4 [9, 20, 21, 179] [] [] (orc := [tB v11]) (by kernel_rfl) (.c e11 .n) (WL_join (α := Bool) (fun z => l01_RunesNames_j28 t27 t19 z = some rz) (fun t28 => ⟨[(20, BB t19), (21, BB t27), (181, BB t28)], [], []⟩) 2 ?_ (fun hJ28 => ?_))
                                                          · rintro t28 h
                                                            unfold l01_RunesNames_j28 at h
                                                            refine WL_tkC hE 1 [20, 21, 182] [] [] (orc := []) (by kernel_rfl) .n (WL_join (α := Bool) (fun z => l01_RunesNames_j29 t27 z = some rz) (fun t29 => ⟨[(21, BB t27), (184, BB t29)], [], []⟩) 2 ?_ (fun hJ29 => ?_))
                                                            · rintro t29 h
                                                              unfold l01_RunesNames_j29 at h
                                                              refine WL_tkC hE 1 [21, 185] [] [] (orc := []) (by kernel_rfl) .n (WL_join (α := Bool) (fun z => l01_RunesNames_j30 z = some rz) (fun t30 => ⟨[(187, BB t30)], [], []⟩) 2 ?_ (fun hJ30 => ?_))
                                                              · rintro t30 h
                                                                unfold l01_RunesNames_j30 at h
                                                                refine WL_allC hE [0] [] [] (orc := []) (by kernel_rfl) .n (N_then (W_ret ?_))
                                                                cases h
                                                                exact N_end (.inl rfl) (by kernel_rfl)
                                                              refine WL_splitC 185 (b := t29) (by kernel_rfl) (fun e12 => ?_) (fun e12 => ?_)
                                                              · rw [and_t e12] at h
                                                                exact WL_allI hE (orc := []) (by kernel_rfl) .n (hJ30 t27 h)
                                                              · rw [and_f e12] at h
                                                                exact WL_allI hE (orc := []) (by kernel_rfl) .n (hJ30 false h)
                                                            refine WL_splitC 182 (b := t28) (by kernel_rfl) (fun e13 => ?_) (fun e13 => ?_)
                                                            · rw [and_t e13] at h
                                                              exact WL_allI hE (orc := []) (by kernel_rfl) .n (hJ29 t19 h)
                                                            · rw [and_f e13] at h
                                                              exact WL_allI hE (orc := []) (by kernel_rfl) .n (hJ29 false h)
                                                          refine WL_splitC 179 (b := v11) (by kernel_rfl) (fun e14 => ?_) (fun e14 => ?_)
                                                          · rw [and_t e14] at h
                                                            exact WL_allI hE (orc := []) (by kernel_rfl) .n (hJ28 t10 h)
                                                          · rw [and_f e14] at h
                                                            exact WL_allI hE (orc := []) (by kernel_rfl) .n (hJ28 false h)
                                                        refine WL_splitC 172 (b := t26) (by kernel_rfl) (fun e15 => ?_) (fun e15 => ?_)
                                                        · replace h := ite_t e15 h
                                                          obtain ⟨v12, e16, h⟩ := bind_some h
                                                          exact WL_allI hE (orc := [tB v12]) (by kernel_rfl) (.c e16 .n) (hJ27 (!v12) h)
                                                        · replace h := ite_f e15 h
                                                          exact WL_allI hE (orc := []) (by kernel_rfl) .n (hJ27 false h)
                                                      refine WL_splitC 169 (b := t25) (by kernel_rfl) (fun e17 => ?_) (fun e17 => ?_)
                                                      · replace h := ite_t e17 h
                                                        obtain ⟨v13, e18, h⟩ := bind_some h
                                                        exact WL_allI hE (orc := [tB v13]) (by kernel_rfl) (.c e18 .n) (hJ26 v13 h)
                                                      · replace h := ite_f e17 h
                                                        exact WL_allI hE (orc := []) (by kernel_rfl) .n (hJ26 false h)
                                                    refine WL_splitC 166 (b := t24) (by kernel_rfl) (fun e19 => ?_) (fun e19 => ?_)
                                                    · replace h := ite_t e19 h
                                                      obtain ⟨v14, e20, h⟩ := bind_some h
                                                      exact WL_allI hE (orc := [tB v14]) (by kernel_rfl) (.c e20 .n) (hJ25 v14 h)
                                                    · replace h := ite_f e19 h
                                                      exact WL_allI hE (orc := []) (by kernel_rfl) .n (hJ25 false h)
                                                  refine WL_splitC 163 (b := t23) (by kernel_rfl) (fun e21 => ?_) (fun e21 => ?_)
                                                  · replace h := ite_t e21 h
                                                    obtain ⟨v15, e22, h⟩ := bind_some h
                                                    exact WL_allI hE (orc := [tB v15]) (by kernel_rfl) (.c e22 .n) (hJ24 v15 h)
                                                  · replace h := ite_f e21 h
                                                    exact WL_allI hE (orc := []) (by kernel_rfl) .n (hJ24 false h)
                                                refine WL_splitC 160 (b := t22) (by kernel_rfl) (fun e23 => ?_) (fun e23 => ?_)
                                                · replace h := ite_t e23 h
                                                  obtain ⟨v16, e24, h⟩ := bind_some h
                                                  exact WL_allI hE (orc := [tB v16]) (by kernel_rfl) (.c e24 .n) (hJ23 v16 h)
                                                · replace h := ite_f e23 h
                                                  exact WL_allI hE (orc := []) (by kernel_rfl) .n (hJ23 false h)
                                              refine WL_splitC 157 (b := t21) (by kernel_rfl) (fun e25 => ?_) (fun e25 => ?_)
                                              · replace h := ite_t e25 h
                                                obtain ⟨v17, e26, h⟩ := bind_some h
                                                exact WL_allI hE (orc := [tB v17]) (by kernel_rfl) (.c e26 .n) (hJ22 v17 h)
                                              · replace h := ite_f e25 h
                                                exact WL_allI hE (orc := []) (by kernel_rfl) .n (hJ22 false h)
                                            refine WL_splitC 154 (b := t20) (by kernel_rfl) (fun e27 => ?_) (fun e27 => ?_)
                                            · replace h := ite_t e27 h
                                              obtain ⟨v18, e28, h⟩ := bind_some h
                                              exact WL_allI hE (orc := [tB v18]) (by kernel_rfl) (.c e28 .n) (hJ21 v18 h)
                                            · replace h := ite_f e27 h
                                              exact WL_allI hE (orc := []) (by kernel_rfl) .n (hJ21 false h)
                                          refine WL_splitC 151 (b := v10) (by kernel_rfl) (fun e29 => ?_) (fun e29 => ?_)
                                          · replace h := ite_t e29 h
                                            obtain ⟨v19, e30, h⟩ := bind_some h
                                            exact WL_allI hE (orc := [tB v19]) (by kernel_rfl) (.c e30 .n) (hJ20 v19 h)
                                          · replace h := ite_f e29 h
                                            exact WL_allI hE (orc := []) (by kernel_rfl) .n (hJ20 false h)
                                        refine WL_splitC 145 (b := t18) (by kernel_rfl) (fun e31 => ?_) (fun e31 => ?_)
                                        · replace h := ite_t e31 h
                                          obtain ⟨v20, e32, h⟩ := bind_some h
                                          exact WL_allI hE (orc := [tS v20]) (by kernel_rfl) (.c e32 .n) (hJ19 (v20 == ([239, 191, 189] : List UInt8)) h)
                                        · replace h := ite_f e31 h
                                          exact WL_allI hE (orc := []) (by kernel_rfl) .n (hJ19 false h)
                                      refine WL_splitC 140 (b := t17) (by kernel_rfl) (fun e33 => ?_) (fun e33 => ?_)
                                      · replace h := ite_t e33 h
                                        obtain ⟨v21, e34, h⟩ := bind_some h
                                        exact WL_allI hE (orc := [tS v21]) (by kernel_rfl) (.c e34 .n) (hJ18 (v21 == ([239, 191, 189, 98] : List UInt8)) h)
                                      · replace h := ite_f e33 h
                                        exact WL_allI hE (orc := []) (by kernel_rfl) .n (hJ18 false h)
                                    refine WL_splitC 136 (b := t16) (by kernel_rfl) (fun e35 => ?_) (fun e35 => ?_)
                                    · rw [and_t e35] at h
                                      exact WL_allI hE (orc := []) (by kernel_rfl) .n (hJ17 (v9.1 == ([34, 97, 92, 34, 98, 92, 117, 97, 59, 34] : List UInt8)) h)
                                    · rw [and_f e35] at h
                                      exact WL_allI hE (orc := []) (by kernel_rfl) .n (hJ17 false h)
                                  refine WL_splitC 132 (b := t15) (by kernel_rfl) (fun e36 => ?_) (fun e36 => ?_)
                                  · rw [and_t e36] at h
                                    exact WL_allI hE (orc := []) (by kernel_rfl) .n (hJ16 (v9.2 == (0 : Int)) h)
                                  · rw [and_f e36] at h
                                    exact WL_allI hE (orc := []) (by kernel_rfl) .n (hJ16 false h)
                                refine WL_splitC 128 (b := t14) (by kernel_rfl) (fun e37 => ?_) (fun e37 => ?_)
                                · rw [and_t e37] at h
                                  exact WL_allI hE (orc := []) (by kernel_rfl) .n (hJ15 (v8.1 == ([34, 97, 92, 117, 101, 57, 59, 92, 120, 102, 102, 98, 34] : List UInt8)) h)
                                · rw [and_f e37] at h
                                  exact WL_allI hE (orc := []) (by kernel_rfl) .n (hJ15 false h)
                              refine WL_splitC 124 (b := t13) (by kernel_rfl) (fun e38 => ?_) (fun e38 => ?_)
                              · rw [and_t e38] at h
                                exact WL_allI hE (orc := []) (by kernel_rfl) .n (hJ14 (v8.2 == (0 : Int)) h)
                              · rw [and_f e38] at h
                                exact WL_allI hE (orc := []) (by kernel_rfl) .n (hJ14 false h)
                            refine WL_splitC 120 (b := t12) (by kernel_rfl) (fun e39 => ?_) (fun e39 => ?_)
                            · rw [and_t e39] at h
                              exact WL_allI hE (orc := []) (by kernel_rfl) .n (hJ13 (v7.2 == (10 : Int)) h)
                            · rw [and_f e39] at h
                              exact WL_allI hE (orc := []) (by kernel_rfl) .n (hJ13 false h)
                          refine WL_splitC 116 (b := t11) (by kernel_rfl) (fun e40 => ?_) (fun e40 => ?_)
                          · rw [and_t e40] at h
                            exact WL_allI hE (orc := []) (by kernel_rfl) .n (hJ12 (v6.2 == (10 : Int)) h)
                          · rw [and_f e40] at h
                            exact WL_allI hE (orc := []) (by kernel_rfl) .n (hJ12 false h)
                        refine WL_splitC 112 (b := v5.2 == (0 : Int)) (by kernel_rfl) (fun e41 => ?_) (fun e41 => ?_)
                        · rw [and_t e41] at h
                          exact WL_allI hE (orc := []) (by kernel_rfl) .n (hJ11 (v5.1 == ([195, 169, 255] : List UInt8)) h)
                        · rw [and_f e41] at h
                          exact WL_allI hE (orc := []) (by kernel_rfl) .n (hJ11 false h)
                      refine WL_splitC 86 (b := t9) (by kernel_rfl) (fun e42 => ?_) (fun e42 => ?_)
                      · rw [and_t e42] at h
                        exact WL_allI hE (orc := []) (by kernel_rfl) .n (hJ10 (v4.1 == (-1 : Int)) h)
                      · rw [and_f e42] at h
                        exact WL_allI hE (orc := []) (by kernel_rfl) .n (hJ10 false h)
                    refine WL_splitC 82 (b := t8) (by kernel_rfl) (fun e43 => ?_) (fun e43 => ?_)
                    · rw [and_t e43] at h
                      exact WL_allI hE (orc := []) (by kernel_rfl) .n (hJ9 (v4.2 == (0 : Int)) h)
                    · rw [and_f e43] at h
                      exact WL_allI hE (orc := []) (by kernel_rfl) .n (hJ9 false h)
                  refine WL_splitC 78 (b := t7) (by kernel_rfl) (fun e44 => ?_) (fun e44 => ?_)
                  · rw [and_t e44] at h
                    exact WL_allI hE (orc := []) (by kernel_rfl) .n (hJ8 (v3.1 == (3 : Int)) h)
                  · rw [and_f e44] at h
                    exact WL_allI hE (orc := []) (by kernel_rfl) .n (hJ8 false h)
                refine WL_splitC 74 (b := t6) (by kernel_rfl) (fun e45 => ?_) (fun e45 => ?_)
                · rw [and_t e45] at h
                  exact WL_allI hE (orc := []) (by kernel_rfl) .n (hJ7 (v3.2 == (0 : Int)) h)
                · rw [and_f e45] at h
                  exact WL_allI hE (orc := []) (by kernel_rfl) .n (hJ7 false h)
              refine WL_splitC 70 (b := t5) (by kernel_rfl) (fun e46 => ?_) (fun e46 => ?_)
              · rw [and_t e46] at h
                exact WL_allI hE (orc := []) (by kernel_rfl) .n (hJ6 (v2.1 == (4 : Int)) h)
              · rw [and_f e46] at h
                exact WL_allI hE (orc := []) (by kernel_rfl) .n (hJ6 false h)
            refine WL_splitC 66 (b := t4) (by kernel_rfl) (fun e47 => ?_) (fun e47 => ?_)
            · rw [and_t e47] at h
              exact WL_allI hE (orc := []) (by kernel_rfl) .n (hJ5 (v2.2 == (0 : Int)) h)
            · rw [and_f e47] at h
              exact WL_allI hE (orc := []) (by kernel_rfl) .n (hJ5 false h)
          refine WL_splitC 59 (b := t3) (by kernel_rfl) (fun e48 => ?_) (fun e48 => ?_)
          · replace h := ite_t e48 h
            obtain ⟨x1, e49, h⟩ := bind_some h
            exact WL_allI hE (orc := [⟨(.pair (.int .i32) (.pair (.int .i64) (.pair (.int .i64) (.pair .bool .unit)))), x1⟩]) (by kernel_rfl) (.c e49 .n) (hJ4 ((eqInt x1.1 (98 : Int)) && ((eqInt x1.2.1 (4 : Int)) && ((eqInt x1.2.2.1 (1 : Int)) && ((eqBool x1.2.2.2.1 false) && (true))))) h)
          · replace h := ite_f e48 h
            exact WL_allI hE (orc := []) (by kernel_rfl) .n (hJ4 false h)
        refine WL_splitC 52 (b := t2) (by kernel_rfl) (fun e50 => ?_) (fun e50 => ?_)
        · replace h := ite_t e50 h
          obtain ⟨x2, e51, h⟩ := bind_some h
          exact WL_allI hE (orc := [⟨(.pair (.int .i32) (.pair (.int .i64) (.pair (.int .i64) (.pair .bool .unit)))), x2⟩]) (by kernel_rfl) (.c e51 .n) (hJ3 ((eqInt x2.1 (65533 : Int)) && ((eqInt x2.2.1 (3 : Int)) && ((eqInt x2.2.2.1 (1 : Int)) && ((eqBool x2.2.2.2.1 true) && (true))))) h)
        · replace h := ite_f e50 h
          exact WL_allI hE (orc := []) (by kernel_rfl) .n (hJ3 false h)
      refine WL_splitC 45 (b := t1) (by kernel_rfl) (fun e52 => ?_) (fun e52 => ?_)
      · replace h := ite_t e52 h
        obtain ⟨x3, e53, h⟩ := bind_some h
        exact WL_allI hE (orc := [⟨(.pair (.int .i32) (.pair (.int .i64) (.pair (.int .i64) (.pair .bool .unit)))), x3⟩]) (by kernel_rfl) (.c e53 .n) (hJ2 ((eqInt x3.1 (233 : Int)) && ((eqInt x3.2.1 (1 : Int)) && ((eqInt x3.2.2.1 (2 : Int)) && ((eqBool x3.2.2.2.1 false) && (true))))) h)
      · replace h := ite_f e52 h
        exact WL_allI hE (orc := []) (by kernel_rfl) .n (hJ2 false h)
    refine WL_splitC 40 (b := v1.2 == (0 : Int)) (by kernel_rfl) (fun e54 => ?_) (fun e54 => ?_)
    · rw [and_t e54] at h
      exact WL_allI hE (orc := []) (by kernel_rfl) .n (hJ1 ((List.length v1.1 : Int) == (4 : Int)) h)
    · rw [and_f e54] at h
      exact WL_allI hE (orc := []) (by kernel_rfl) .n (hJ1 false h)

end Go.Ev
