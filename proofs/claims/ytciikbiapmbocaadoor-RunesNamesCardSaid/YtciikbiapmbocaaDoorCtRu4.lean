/- Contracts, by program. -/
import Derived.Test.YtciikbiapmbocaaDoorProg
import Derived.Test.YtciikbiapmbocaaDoorEvY
import Derived.Test.YtciikbiapmbocaaDoorShRu4
import Derived.Test.YtciikbiapmbocaaDoorLibX
import Derived.Test.YtciikbiapmbocaaDoorCtRu4P2
import Derived.KernelRfl
namespace Go.Ev
open Go Go.Proofs
set_option linter.unusedVariables false
set_option maxRecDepth 100000

def C_l01_RunesPlain (k : Nat) : FnC := ⟨true, 1, [], fun | [⟨.str, s1⟩, ⟨.str, q1⟩], [⟨.bool, rz⟩] => l01_RunesPlain k s1 q1 = some rz | _, _ => False⟩
noncomputable def E_l01_RunesPlain (k : Nat) : Env := ⟨Tryd.prog, Gu, 119, [(24, C_l01_alive k), (27, C_runes_Quote k), (29, C_runes_Plain k)]⟩
theorem c_l01_RunesPlain (k : Nat) : Contract Tryd.prog Gu 8 (C_l01_RunesPlain k) := by
  refine contract_of Gu_stable (fn := Tryd.f8) Tryd.func8 (by kernel_rfl) rfl ?_ ?_
  · intro xs rs h
    unfold C_l01_RunesPlain at h
    simp only at h
    split at h
    · exact ⟨by show 2 ≤ _; rw [Tryd.ntmps8]; decide, rfl, fun _ u hu => by simp at hu; (rcases hu with rfl) <;> rfl⟩
    · exact h.elim
  · intro w0 M xs rs hG h
    unfold C_l01_RunesPlain at h
    simp only at h
    split at h
    case h_2 => exact h.elim
    rename_i s1 q1 rz
    change List UInt8 at s1
    change List UInt8 at q1
    change Bool at rz
    have hE : EnvOK (E_l01_RunesPlain k) ⟨Tryd.prog, Tryd.f8.ntmps, w0, M, fun _ => False, fun _ => undef⟩ := (EnvOK.cons (c_l01_alive k) (EnvOK.cons (c_runes_Quote k) (EnvOK.cons (c_runes_Plain k) (EnvOK.nil rfl Tryd.ntmps8 hG))))
    unfold l01_RunesPlain at h
    refine W_seq ?_
    refine W_region ?_
    refine WL_all hE [0, 1] [] [] (st' := ⟨[(0, SS s1), (1, SS q1)], [], []⟩) (orc := []) (ob := []) (by kernel_rfl) trivial ?_
    refine N_then ?_
    refine W_seq ?_
    refine W_region ?_
    obtain ⟨v1, e1, h⟩ := bind_some h
    refine WL_all hE [0, 1, 5] [] [] (st' := ⟨[(0, SS s1), (1, SS q1), (5, BB v1)], [], []⟩) (orc := [tB v1]) (ob := [l01_alive k = some v1]) (by kernel_rfl) ⟨e1, trivial⟩ ?_
    refine N_then ?_
    refine W_seq ?_
    refine W_seq ?_
    refine W_region ?_
    refine WL_tk hE 4 [0, 1, 5, 21] [] [] (st' := ⟨[(0, SS s1), (1, SS q1), (5, BB v1), (21, BB (decide ((5000 : Int) < (List.length s1 : Int))))], [], []⟩) (orc := []) (ob := []) (by kernel_rfl) trivial ?_
    refine WL_join (α := Bool) (fun z => l01_RunesPlain_j1 k v1 s1 q1 z = some rz) (fun t1 => ⟨[(0, SS s1), (1, SS q1), (5, BB v1), (25, BB t1)], [], []⟩) 4 ?_ (fun hJ1 => ?_)
    · rintro t1 h
      unfold l01_RunesPlain_j1 at h
      refine WL_nil ?_
      refine N_then ?_
      refine W_cond (b := t1) (by kernel_rfl) (fun e2 => ?_) (fun e2 => ?_)
      · replace h := ite_t e2 h
        refine W_seq ?_
        refine W_region ?_
        refine WL_all hE [4] [] [] (st' := ⟨[(4, BB v1)], [], []⟩) (orc := []) (ob := []) (by kernel_rfl) trivial ?_
        refine N_then ?_
        refine W_ret ?_
        refine N_then_ret ?_
        cases h
        exact N_end (.inl rfl) (by kernel_rfl)
      · replace h := ite_f e2 h
        refine W_skip ?_
        refine N_then ?_
        refine W_seq ?_
        refine W_region ?_
        obtain ⟨v2, e3, h⟩ := bind_some h
        refine WL_all hE [0, 1, 5, 6, 7] [] [] (st' := ⟨[(0, SS s1), (1, SS q1), (5, BB v1), (6, SS v2.1), (7, I64 v2.2)], [], []⟩) (orc := [tS v2.1, tI64 v2.2]) (ob := [runes_Quote k s1 = some ((v2).1, (v2).2)]) (by kernel_rfl) ⟨e3, trivial⟩ ?_
        refine N_then ?_
        refine W_seq ?_
        refine W_region ?_
        obtain ⟨v3, e4, h⟩ := bind_some h
        refine WL_all hE [0, 1, 5, 6, 7, 8, 9, 10] [] [] (st' := ⟨[(0, SS s1), (1, SS q1), (5, BB v1), (6, SS v2.1), (7, I64 v2.2), (8, SS v3.1), (9, I64 v3.2.1), (10, I64 v3.2.2)], [], []⟩) (orc := [tS v3.1, tI64 v3.2.1, tI64 v3.2.2]) (ob := [runes_Plain k v2.1 = some ((v3).1, (v3).2.1, (v3).2.2)]) (by kernel_rfl) ⟨e4, trivial⟩ ?_
        refine N_then ?_
        refine W_seq ?_
        refine W_seq ?_
        refine W_region ?_
        refine WL_tk hE 3 [0, 1, 5, 6, 8, 9, 10, 40] [] [] (st' := ⟨[(0, SS s1), (1, SS q1), (5, BB v1), (6, SS v2.1), (8, SS v3.1), (9, I64 v3.2.1), (10, I64 v3.2.2), (40, BB (v2.2 != (0 : Int)))], [], []⟩) (orc := []) (ob := []) (by kernel_rfl) trivial ?_
        refine WL_join (α := Bool) (fun z => l01_RunesPlain_j2 k v2 q1 v1 s1 v3 z = some rz) (fun t2 => ⟨[(0, SS s1), (1, SS q1), (5, BB v1), (6, SS v2.1), (8, SS v3.1), (9, I64 v3.2.1), (43, BB t2)], [], []⟩) 3 ?_ (fun hJ2 => ?_)
        · rintro t2 h
          unfold l01_RunesPlain_j2 at h
          refine WL_tk hE 1 [0, 1, 5, 6, 8, 9, 44] [] [] (st' := ⟨[(0, SS s1), (1, SS q1), (5, BB v1), (6, SS v2.1), (8, SS v3.1), (9, I64 v3.2.1), (44, BB t2)], [], []⟩) (orc := []) (ob := []) (by kernel_rfl) trivial ?_
          refine WL_join (α := Bool) (fun z => l01_RunesPlain_j3 k v2 q1 v1 s1 v3 z = some rz) (fun t3 => ⟨[(0, SS s1), (1, SS q1), (5, BB v1), (6, SS v2.1), (8, SS v3.1), (47, BB t3)], [], []⟩) 3 ?_ (fun hJ3 => ?_)
          · rintro t3 h
            unfold l01_RunesPlain_j3 at h
            refine WL_tk hE 1 [0, 1, 5, 6, 8, 48] [] [] (st' := ⟨[(0, SS s1), (1, SS q1), (5, BB v1), (6, SS v2.1), (8, SS v3.1), (48, BB t3)], [], []⟩) (orc := []) (ob := []) (by kernel_rfl) trivial ?_
            refine WL_join (α := Bool) (fun z => l01_RunesPlain_j4 k v2 q1 v1 s1 z = some rz) (fun t4 => ⟨[(0, SS s1), (1, SS q1), (5, BB v1), (6, SS v2.1), (52, BB t4)], [], []⟩) 4 ?_ (fun hJ4 => ?_)
            · rintro t4 h
              unfold l01_RunesPlain_j4 at h
              refine WL_tk hE 1 [0, 1, 5, 6, 53] [] [] (st' := ⟨[(0, SS s1), (1, SS q1), (5, BB v1), (6, SS v2.1), (53, BB t4)], [], []⟩) (orc := []) (ob := []) (by kernel_rfl) trivial ?_
              refine WL_join (α := Bool) (fun z => l01_RunesPlain_j5 k v2 q1 v1 z = some rz) (fun t5 => ⟨[(1, SS q1), (5, BB v1), (6, SS v2.1), (60, BB t5)], [], []⟩) 7 ?_ (fun hJ5 => ?_)
              · rintro t5 h
                unfold l01_RunesPlain_j5 at h
                refine WL_nil ?_
                refine N_then ?_
                refine W_cond (b := t5) (by kernel_rfl) (fun e5 => ?_) (fun e5 => ?_)
                · replace h := ite_t e5 h
                  refine W_seq ?_
                  refine W_region ?_
                  refine WL_all hE [4] [] [] (st' := ⟨[(4, BB false)], [], []⟩) (orc := []) (ob := []) (by kernel_rfl) trivial ?_
                  refine N_then ?_
                  refine W_ret ?_
                  refine N_then_ret ?_
                  cases h
                  exact N_end (.inl rfl) (by kernel_rfl)
                · replace h := ite_f e5 h
                  refine W_skip ?_
                  refine N_then ?_
                  refine W_seq ?_
                  refine W_seq ?_
                  refine W_region ?_
                  refine WL_all hE [1, 5, 6, 11] [] [] (st' := ⟨[(1, SS q1), (5, BB v1), (6, SS v2.1), (11, I64 (0 : Int))], [], []⟩) (orc := []) (ob := []) (by kernel_rfl) trivial ?_
                  refine N_then ?_
                  refine W_block ?_
                  refine W_loop (α := Int) (fun n z => l01_RunesPlain_l1 k v2 q1 v1 n z = some rz) (fun i1 => ⟨[(1, SS q1), (5, BB v1), (6, SS v2.1), (11, I64 i1)], [], []⟩) ?_ (k := k) (x := (0 : Int)) h
                  clear h
                  rintro fuel1 i1 h
                  cases fuel1 with
                  | zero => exact absurd (show none = some _ from h) (by simp)
                  | succ fuel1 =>
                    have h : l01_RunesPlain_b1 k v2 q1 v1 (l01_RunesPlain_l1 k v2 q1 v1 fuel1) i1 = some rz := h
                    unfold l01_RunesPlain_b1 at h
                    refine W_seq ?_
                    refine W_seq ?_
                    refine W_region ?_
                    refine WL_all hE [1, 5, 6, 11, 64] [] [] (st' := ⟨[(1, SS q1), (5, BB v1), (6, SS v2.1), (11, I64 i1), (64, BB (decide (i1 < (List.length v2.1 : Int))))], [], []⟩) (orc := []) (ob := []) (by kernel_rfl) trivial ?_
                    refine N_then ?_
                    refine W_cond (b := decide (i1 < (List.length v2.1 : Int))) (by kernel_rfl) (fun e6 => ?_) (fun e6 => ?_)
                    · replace h := ite_t e6 h
                      refine W_skip ?_
                      refine N_then ?_
                      refine W_seq ?_
                      refine W_block ?_
                      refine W_seq ?_
                      refine W_region ?_
                      obtain ⟨b1, e7, h⟩ := bind_some h
                      refine WL_tk hE 5 [1, 5, 6, 11, 71] [] [] (st' := ⟨[(1, SS q1), (5, BB v1), (6, SS v2.1), (11, I64 i1), (71, BB (decide (b1 < (32 : Int))))], [], []⟩) (orc := [tU8 b1]) (ob := [byteAt v2.1 i1 = some b1]) (by kernel_rfl) ⟨e7, trivial⟩ ?_
                      refine WL_join (α := Bool) (fun z => l01_RunesPlain_j6 (l01_RunesPlain_l1 k v2 q1 v1 fuel1) i1 z = some rz) (fun t6 => ⟨[(1, SS q1), (5, BB v1), (6, SS v2.1), (11, I64 i1), (76, BB t6)], [], []⟩) 5 ?_ (fun hJ6 => ?_)
                      · rintro t6 h
                        unfold l01_RunesPlain_j6 at h
                        refine WL_nil ?_
                        refine N_then ?_
                        refine W_cond (b := t6) (by kernel_rfl) (fun e8 => ?_) (fun e8 => ?_)
                        · replace h := ite_t e8 h
                          refine W_seq ?_
                          refine W_region ?_
                          refine WL_all hE [4] [] [] (st' := ⟨[(4, BB false)], [], []⟩) (orc := []) (ob := []) (by kernel_rfl) trivial ?_
                          refine N_then ?_
                          refine W_ret ?_
                          refine N_block_ret ?_
                          refine N_then_ret ?_
                          refine N_then_ret ?_
                          refine N_block_ret ?_
                          refine N_then_ret ?_
                          cases h
                          exact N_end (.inl rfl) (by kernel_rfl)
                        · replace h := ite_f e8 h
                          refine W_skip ?_
                          refine N_block ?_
                          refine N_then ?_
                          refine W_region ?_
                          refine WL_all hE [1, 5, 6, 11] [] [] (st' := ⟨[(1, SS q1), (5, BB v1), (6, SS v2.1), (11, I64 (wi64 (i1 + (1 : Int))))], [], []⟩) (orc := []) (ob := []) (by kernel_rfl) trivial ?_
                          exact N_round (wi64 (i1 + (1 : Int))) (Nat.lt_succ_self _) h
                      refine WL_split (fun g => ⟨[(1, SS q1), (5, BB v1), (6, SS v2.1), (11, I64 i1), (71, BB g)], [], []⟩) (b := decide (b1 < (32 : Int))) (fun e9 => ?_) (fun e9 => ?_)
                      · replace h := ite_t e9 h
                        refine WL_all hE [1, 5, 6, 11, 76] [] [] (st' := ⟨[(1, SS q1), (5, BB v1), (6, SS v2.1), (11, I64 i1), (76, BB true)], [], []⟩) (orc := []) (ob := []) (by kernel_rfl) trivial ?_
                        exact hJ6 true h
                      · replace h := ite_f e9 h
                        obtain ⟨b2, e10, h⟩ := bind_some h
                        refine WL_all hE [1, 5, 6, 11, 76] [] [] (st' := ⟨[(1, SS q1), (5, BB v1), (6, SS v2.1), (11, I64 i1), (76, BB (decide ((126 : Int) < b2)))], [], []⟩) (orc := [tU8 b2]) (ob := [byteAt v2.1 i1 = some b2]) (by kernel_rfl) ⟨e10, trivial⟩ ?_
                        exact hJ6 (decide ((126 : Int) < b2)) h
                    · replace h := ite_f e6 h
                      refine W_exit ?_
                      refine N_then_exit ?_
                      refine N_then_exit ?_
                      refine N_block_exit ?_
                      refine N_then ?_
                      refine W_seq ?_
                      refine W_region ?_
                      obtain ⟨v4, e11, h⟩ := bind_some h
                      refine WL_all hE [1, 5, 12, 13, 14] [] [] (st' := ⟨[(1, SS q1), (5, BB v1), (12, SS v4.1), (13, I64 v4.2.1), (14, I64 v4.2.2)], [], []⟩) (orc := [tS v4.1, tI64 v4.2.1, tI64 v4.2.2]) (ob := [runes_Plain k q1 = some ((v4).1, (v4).2.1, (v4).2.2)]) (by kernel_rfl) ⟨e11, trivial⟩ ?_
                      refine N_then ?_
                      refine W_seq ?_
                      refine W_seq ?_
                      refine W_region ?_
                      refine WL_all hE [1, 5, 12, 13, 84] [] [] (st' := ⟨[(1, SS q1), (5, BB v1), (12, SS v4.1), (13, I64 v4.2.1), (84, BB (v4.2.2 != (0 : Int)))], [], []⟩) (orc := []) (ob := []) (by kernel_rfl) trivial ?_
                      refine N_then ?_
                      refine W_cond (b := v4.2.2 != (0 : Int)) (by kernel_rfl) (fun e12 => ?_) (fun e12 => ?_)
                      · replace h := ite_t e12 h
                        refine W_seq ?_
                        refine W_region ?_
                        refine WL_tk hE 2 [1, 12, 13, 86] [] [] (st' := ⟨[(1, SS q1), (12, SS v4.1), (13, I64 v4.2.1), (86, BB v1)], [], []⟩) (orc := []) (ob := []) (by kernel_rfl) trivial ?_
                        refine WL_join (α := Bool) (fun z => l01_RunesPlain_j7 v4 q1 z = some rz) (fun t7 => ⟨[(1, SS q1), (13, I64 v4.2.1), (89, BB t7)], [], []⟩) 3 ?_ (fun hJ7 => ?_)
                        · rintro t7 h
                          unfold l01_RunesPlain_j7 at h
                          refine WL_tk hE 1 [1, 13, 90] [] [] (st' := ⟨[(1, SS q1), (13, I64 v4.2.1), (90, BB t7)], [], []⟩) (orc := []) (ob := []) (by kernel_rfl) trivial ?_
                          refine WL_join (α := Bool) (fun z => l01_RunesPlain_j8 v4 q1 z = some rz) (fun t8 => ⟨[(1, SS q1), (13, I64 v4.2.1), (93, BB t8)], [], []⟩) 3 ?_ (fun hJ8 => ?_)
                          · rintro t8 h
                            unfold l01_RunesPlain_j8 at h
                            refine WL_tk hE 1 [1, 13, 94] [] [] (st' := ⟨[(1, SS q1), (13, I64 v4.2.1), (94, BB t8)], [], []⟩) (orc := []) (ob := []) (by kernel_rfl) trivial ?_
                            refine WL_join (α := Bool) (fun z => l01_RunesPlain_j9 z = some rz) (fun t9 => ⟨[(99, BB t9)], [], []⟩) 5 ?_ (fun hJ9 => ?_)
                            · rintro t9 h
                              unfold l01_RunesPlain_j9 at h
                              refine WL_all hE [4] [] [] (st' := ⟨[(4, BB t9)], [], []⟩) (orc := []) (ob := []) (by kernel_rfl) trivial ?_
                              refine N_then ?_
                              refine W_ret ?_
                              refine N_then_ret ?_
                              cases h
                              exact N_end (.inl rfl) (by kernel_rfl)
                            refine WL_split (fun g => ⟨[(1, SS q1), (13, I64 v4.2.1), (94, BB g)], [], []⟩) (b := t8) (fun e13 => ?_) (fun e13 => ?_)
                            · rw [and_t e13] at h
                              refine WL_all hE [99] [] [] (st' := ⟨[(99, BB (decide (v4.2.1 ≤ (List.length q1 : Int))))], [], []⟩) (orc := []) (ob := []) (by kernel_rfl) trivial ?_
                              exact hJ9 (decide (v4.2.1 ≤ (List.length q1 : Int))) h
                            · rw [and_f e13] at h
                              refine WL_all hE [99] [] [] (st' := ⟨[(99, BB false)], [], []⟩) (orc := []) (ob := []) (by kernel_rfl) trivial ?_
                              exact hJ9 false h
                          refine WL_split (fun g => ⟨[(1, SS q1), (13, I64 v4.2.1), (90, BB g)], [], []⟩) (b := t7) (fun e14 => ?_) (fun e14 => ?_)
                          · rw [and_t e14] at h
                            refine WL_all hE [1, 13, 93] [] [] (st' := ⟨[(1, SS q1), (13, I64 v4.2.1), (93, BB (decide ((0 : Int) ≤ v4.2.1)))], [], []⟩) (orc := []) (ob := []) (by kernel_rfl) trivial ?_
                            exact hJ8 (decide ((0 : Int) ≤ v4.2.1)) h
                          · rw [and_f e14] at h
                            refine WL_all hE [1, 13, 93] [] [] (st' := ⟨[(1, SS q1), (13, I64 v4.2.1), (93, BB false)], [], []⟩) (orc := []) (ob := []) (by kernel_rfl) trivial ?_
                            exact hJ8 false h
                        refine WL_split (fun g => ⟨[(1, SS q1), (12, SS v4.1), (13, I64 v4.2.1), (86, BB g)], [], []⟩) (b := v1) (fun e15 => ?_) (fun e15 => ?_)
                        · rw [and_t e15] at h
                          refine WL_all hE [1, 13, 89] [] [] (st' := ⟨[(1, SS q1), (13, I64 v4.2.1), (89, BB (v4.1 == ([] : List UInt8)))], [], []⟩) (orc := []) (ob := []) (by kernel_rfl) trivial ?_
                          exact hJ7 (v4.1 == ([] : List UInt8)) h
                        · rw [and_f e15] at h
                          refine WL_all hE [1, 13, 89] [] [] (st' := ⟨[(1, SS q1), (13, I64 v4.2.1), (89, BB false)], [], []⟩) (orc := []) (ob := []) (by kernel_rfl) trivial ?_
                          exact hJ7 false h
                      · replace h := ite_f e12 h
                        refine W_skip ?_
                        refine N_then ?_
                        refine W_seq ?_
                        refine W_region ?_
                        obtain ⟨v5, e16, h⟩ := bind_some h
                        refine WL_all hE [1, 5, 13, 15, 16] [] [] (st' := ⟨[(1, SS q1), (5, BB v1), (13, I64 v4.2.1), (15, SS v5.1), (16, I64 v5.2)], [], []⟩) (orc := [tS v5.1, tI64 v5.2]) (ob := [runes_Quote k v4.1 = some ((v5).1, (v5).2)]) (by kernel_rfl) ⟨e16, trivial⟩ ?_
                        refine N_then ?_
                        refine W_seq ?_
                        refine W_region ?_
                        refine WL_tk hE 2 [1, 13, 15, 16, 106] [] [] (st' := ⟨[(1, SS q1), (13, I64 v4.2.1), (15, SS v5.1), (16, I64 v5.2), (106, BB v1)], [], []⟩) (orc := []) (ob := []) (by kernel_rfl) trivial ?_
                        refine WL_join (α := Bool) (fun z => l01_RunesPlain_j10 v4 v5 q1 z = some rz) (fun t10 => ⟨[(1, SS q1), (13, I64 v4.2.1), (15, SS v5.1), (109, BB t10)], [], []⟩) 3 ?_ (fun hJ10 => ?_)
                        · rintro t10 h
                          unfold l01_RunesPlain_j10 at h
                          refine WL_tk hE 1 [1, 13, 15, 110] [] [] (st' := ⟨[(1, SS q1), (13, I64 v4.2.1), (15, SS v5.1), (110, BB t10)], [], []⟩) (orc := []) (ob := []) (by kernel_rfl) trivial ?_
                          refine WL_join (α := Bool) (fun z => l01_RunesPlain_j11 v4 z = some rz) (fun t11 => ⟨[(13, I64 v4.2.1), (114, BB t11)], [], []⟩) 4 ?_ (fun hJ11 => ?_)
                          · rintro t11 h
                            unfold l01_RunesPlain_j11 at h
                            refine WL_tk hE 1 [13, 115] [] [] (st' := ⟨[(13, I64 v4.2.1), (115, BB t11)], [], []⟩) (orc := []) (ob := []) (by kernel_rfl) trivial ?_
                            refine WL_join (α := Bool) (fun z => l01_RunesPlain_j12 z = some rz) (fun t12 => ⟨[(118, BB t12)], [], []⟩) 3 ?_ (fun hJ12 => ?_)
                            · rintro t12 h
                              unfold l01_RunesPlain_j12 at h
                              refine WL_all hE [4] [] [] (st' := ⟨[(4, BB t12)], [], []⟩) (orc := []) (ob := []) (by kernel_rfl) trivial ?_
                              refine N_then ?_
                              refine W_ret ?_
                              cases h
                              exact N_end (.inl rfl) (by kernel_rfl)
                            refine WL_split (fun g => ⟨[(13, I64 v4.2.1), (115, BB g)], [], []⟩) (b := t11) (fun e17 => ?_) (fun e17 => ?_)
                            · rw [and_t e17] at h
                              refine WL_all hE [118] [] [] (st' := ⟨[(118, BB (v4.2.1 == (0 : Int)))], [], []⟩) (orc := []) (ob := []) (by kernel_rfl) trivial ?_
                              exact hJ12 (v4.2.1 == (0 : Int)) h
                            · rw [and_f e17] at h
                              refine WL_all hE [118] [] [] (st' := ⟨[(118, BB false)], [], []⟩) (orc := []) (ob := []) (by kernel_rfl) trivial ?_
                              exact hJ12 false h
                          refine WL_split (fun g => ⟨[(1, SS q1), (13, I64 v4.2.1), (15, SS v5.1), (110, BB g)], [], []⟩) (b := t10) (fun e18 => ?_) (fun e18 => ?_)
                          · rw [and_t e18] at h
                            refine WL_all hE [13, 114] [] [] (st' := ⟨[(13, I64 v4.2.1), (114, BB (v5.1 == q1))], [], []⟩) (orc := []) (ob := []) (by kernel_rfl) trivial ?_
                            exact hJ11 (v5.1 == q1) h
                          · rw [and_f e18] at h
                            refine WL_all hE [13, 114] [] [] (st' := ⟨[(13, I64 v4.2.1), (114, BB false)], [], []⟩) (orc := []) (ob := []) (by kernel_rfl) trivial ?_
                            exact hJ11 false h
                        refine WL_split (fun g => ⟨[(1, SS q1), (13, I64 v4.2.1), (15, SS v5.1), (16, I64 v5.2), (106, BB g)], [], []⟩) (b := v1) (fun e19 => ?_) (fun e19 => ?_)
                        · rw [and_t e19] at h
                          refine WL_all hE [1, 13, 15, 109] [] [] (st' := ⟨[(1, SS q1), (13, I64 v4.2.1), (15, SS v5.1), (109, BB (v5.2 == (0 : Int)))], [], []⟩) (orc := []) (ob := []) (by kernel_rfl) trivial ?_
                          exact hJ10 (v5.2 == (0 : Int)) h
                        · rw [and_f e19] at h
                          refine WL_all hE [1, 13, 15, 109] [] [] (st' := ⟨[(1, SS q1), (13, I64 v4.2.1), (15, SS v5.1), (109, BB false)], [], []⟩) (orc := []) (ob := []) (by kernel_rfl) trivial ?_
                          exact hJ10 false h
              refine WL_split (fun g => ⟨[(0, SS s1), (1, SS q1), (5, BB v1), (6, SS v2.1), (53, BB g)], [], []⟩) (b := t4) (fun e20 => ?_) (fun e20 => ?_)
              · rw [or_t e20] at h
                refine WL_all hE [1, 5, 6, 60] [] [] (st' := ⟨[(1, SS q1), (5, BB v1), (6, SS v2.1), (60, BB true)], [], []⟩) (orc := []) (ob := []) (by kernel_rfl) trivial ?_
                exact hJ5 true h
              · rw [or_f e20] at h
                refine WL_all hE [1, 5, 6, 60] [] [] (st' := ⟨[(1, SS q1), (5, BB v1), (6, SS v2.1), (60, BB (decide ((List.length v2.1 : Int) < (wi64 ((List.length s1 : Int) + (2 : Int))))))], [], []⟩) (orc := []) (ob := []) (by kernel_rfl) trivial ?_
                exact hJ5 (decide ((List.length v2.1 : Int) < (wi64 ((List.length s1 : Int) + (2 : Int))))) h
            refine WL_split (fun g => ⟨[(0, SS s1), (1, SS q1), (5, BB v1), (6, SS v2.1), (8, SS v3.1), (48, BB g)], [], []⟩) (b := t3) (fun e21 => ?_) (fun e21 => ?_)
            · rw [or_t e21] at h
              refine WL_all hE [0, 1, 5, 6, 52] [] [] (st' := ⟨[(0, SS s1), (1, SS q1), (5, BB v1), (6, SS v2.1), (52, BB true)], [], []⟩) (orc := []) (ob := []) (by kernel_rfl) trivial ?_
              exact hJ4 true h
            · rw [or_f e21] at h
              refine WL_all hE [0, 1, 5, 6, 52] [] [] (st' := ⟨[(0, SS s1), (1, SS q1), (5, BB v1), (6, SS v2.1), (52, BB (!(v3.1 == s1)))], [], []⟩) (orc := []) (ob := []) (by kernel_rfl) trivial ?_
              exact hJ4 (!(v3.1 == s1)) h
          refine WL_split (fun g => ⟨[(0, SS s1), (1, SS q1), (5, BB v1), (6, SS v2.1), (8, SS v3.1), (9, I64 v3.2.1), (44, BB g)], [], []⟩) (b := t2) (fun e22 => ?_) (fun e22 => ?_)
          · rw [or_t e22] at h
            refine WL_all hE [0, 1, 5, 6, 8, 47] [] [] (st' := ⟨[(0, SS s1), (1, SS q1), (5, BB v1), (6, SS v2.1), (8, SS v3.1), (47, BB true)], [], []⟩) (orc := []) (ob := []) (by kernel_rfl) trivial ?_
            exact hJ3 true h
          · rw [or_f e22] at h
            refine WL_all hE [0, 1, 5, 6, 8, 47] [] [] (st' := ⟨[(0, SS s1), (1, SS q1), (5, BB v1), (6, SS v2.1), (8, SS v3.1), (47, BB (v3.2.1 != (0 : Int)))], [], []⟩) (orc := []) (ob := []) (by kernel_rfl) trivial ?_
            exact hJ3 (v3.2.1 != (0 : Int)) h
        refine WL_split (fun g => ⟨[(0, SS s1), (1, SS q1), (5, BB v1), (6, SS v2.1), (8, SS v3.1), (9, I64 v3.2.1), (10, I64 v3.2.2), (40, BB g)], [], []⟩) (b := v2.2 != (0 : Int)) (fun e23 => ?_) (fun e23 => ?_)
        · rw [or_t e23] at h
          refine WL_all hE [0, 1, 5, 6, 8, 9, 43] [] [] (st' := ⟨[(0, SS s1), (1, SS q1), (5, BB v1), (6, SS v2.1), (8, SS v3.1), (9, I64 v3.2.1), (43, BB true)], [], []⟩) (orc := []) (ob := []) (by kernel_rfl) trivial ?_
          exact hJ2 true h
        · rw [or_f e23] at h
          refine WL_all hE [0, 1, 5, 6, 8, 9, 43] [] [] (st' := ⟨[(0, SS s1), (1, SS q1), (5, BB v1), (6, SS v2.1), (8, SS v3.1), (9, I64 v3.2.1), (43, BB (v3.2.2 != (0 : Int)))], [], []⟩) (orc := []) (ob := []) (by kernel_rfl) trivial ?_
          exact hJ2 (v3.2.2 != (0 : Int)) h
    refine WL_split (fun g => ⟨[(0, SS s1), (1, SS q1), (5, BB v1), (21, BB g)], [], []⟩) (b := decide ((5000 : Int) < (List.length s1 : Int))) (fun e24 => ?_) (fun e24 => ?_)
    · rw [or_t e24] at h
      refine WL_all hE [0, 1, 5, 25] [] [] (st' := ⟨[(0, SS s1), (1, SS q1), (5, BB v1), (25, BB true)], [], []⟩) (orc := []) (ob := []) (by kernel_rfl) trivial ?_
      exact hJ1 true h
    · rw [or_f e24] at h
      refine WL_all hE [0, 1, 5, 25] [] [] (st' := ⟨[(0, SS s1), (1, SS q1), (5, BB v1), (25, BB (decide ((5000 : Int) < (List.length q1 : Int))))], [], []⟩) (orc := []) (ob := []) (by kernel_rfl) trivial ?_
      exact hJ1 (decide ((5000 : Int) < (List.length q1 : Int))) h

def C_unicode_utf8_RuneCountInString (k : Nat) : FnC := ⟨true, 1, [], fun | [⟨.str, s1⟩], [⟨(.int .i64), rz⟩] => unicode_utf8_RuneCountInString k s1 = some rz | _, _ => False⟩
noncomputable def E_unicode_utf8_RuneCountInString (k : Nat) : Env := ⟨Tryd.prog, Gu, 10, []⟩
theorem c_unicode_utf8_RuneCountInString (k : Nat) : Contract Tryd.prog Gu 38 (C_unicode_utf8_RuneCountInString k) := by
  refine contract_of Gu_stable (fn := Tryd.f38) Tryd.func38 (by kernel_rfl) rfl ?_ ?_
  · intro xs rs h
    unfold C_unicode_utf8_RuneCountInString at h
    simp only at h
    split at h
    · exact ⟨by show 1 ≤ _; rw [Tryd.ntmps38]; decide, rfl, fun _ u hu => by simp at hu; (rcases hu with rfl) <;> rfl⟩
    · exact h.elim
  · intro w0 M xs rs hG h
    unfold C_unicode_utf8_RuneCountInString at h
    simp only at h
    split at h
    case h_2 => exact h.elim
    rename_i s1 rz
    change List UInt8 at s1
    change Int at rz
    have hE : EnvOK (E_unicode_utf8_RuneCountInString k) ⟨Tryd.prog, Tryd.f38.ntmps, w0, M, fun _ => False, fun _ => undef⟩ := (EnvOK.nil rfl Tryd.ntmps38 hG)
    unfold unicode_utf8_RuneCountInString at h
    refine W_seq ?_
    refine W_region ?_
    refine WL_all hE [0, 2] [] [] (st' := ⟨[(0, SS s1), (2, I64 (0 : Int))], [], []⟩) (orc := []) (ob := []) (by kernel_rfl) trivial ?_
    refine N_then ?_
    refine W_seq ?_
    refine W_seq ?_
    refine W_region ?_
    refine WL_all hE [2, 4] [4] [] (st' := ⟨[(2, I64 (0 : Int)), (4, .iter 4)], [(4, .iter s1 0)], []⟩) (orc := []) (ob := []) (by kernel_rfl) trivial ?_
    refine N_then ?_
    refine W_block ?_
    refine W_loop (α := (Int × Nat)) (fun n z => unicode_utf8_RuneCountInString_l1 s1 n z.1 z.2 = some rz) (fun z => ⟨[(2, I64 (z.1)), (4, .iter 4)], [(4, .iter s1 (z.2))], []⟩) ?_ (k := k) (x := ((0 : Int), 0)) h
    clear h
    rintro fuel1 ⟨n1, pos1⟩ h
    cases fuel1 with
    | zero => exact absurd (show none = some _ from h) (by simp)
    | succ fuel1 =>
      have h : unicode_utf8_RuneCountInString_b1 s1 (unicode_utf8_RuneCountInString_l1 s1 fuel1) n1 pos1 = some rz := h
      unfold unicode_utf8_RuneCountInString_b1 at h
      refine W_seq ?_
      refine W_region ?_
      rcases Bool.eq_false_or_eq_true (decide (pos1 < List.length s1)) with e1 | e1
      · replace h := ite_t e1 h
        refine WL_tk hE 1 [2, 4, 5] [4] [] (st' := ⟨[(2, I64 n1), (4, .iter 4), (5, .tup [tB true, tI64 (pos1 : Int), tI32 (runeAt s1 pos1)])], [(4, .iter s1 (pos1 + widthAt s1 pos1))], []⟩) (orc := [tB true]) (ob := [pos1 < List.length s1]) (by kernel_rfl) ⟨of_decide_eq_true e1, trivial⟩ ?_
        refine WL_all hE [2, 4, 6] [4] [] (st' := ⟨[(2, I64 n1), (4, .iter 4), (6, BB true)], [(4, .iter s1 (pos1 + widthAt s1 pos1))], []⟩) (orc := []) (ob := []) (by kernel_rfl) trivial ?_
        refine N_then ?_
        refine W_seq ?_
        refine W_cond_true (by kernel_rfl) ?_
        refine W_skip ?_
        refine N_then ?_
        refine W_block ?_
        refine W_region ?_
        refine WL_all hE [2, 4] [4] [] (st' := ⟨[(2, I64 (wi64 (n1 + (1 : Int)))), (4, .iter 4)], [(4, .iter s1 (pos1 + widthAt s1 pos1))], []⟩) (orc := []) (ob := []) (by kernel_rfl) trivial ?_
        refine N_block ?_
        exact N_round (wi64 (n1 + (1 : Int)), (pos1 + widthAt s1 pos1)) (Nat.lt_succ_self _) h
      · replace h := ite_f e1 h
        refine WL_tk hE 1 [2, 4, 5] [4] [] (st' := ⟨[(2, I64 n1), (4, .iter 4), (5, .tup [tB false])], [(4, .iter s1 pos1)], []⟩) (orc := [tB false]) (ob := [List.length s1 ≤ pos1]) (by kernel_rfl) ⟨Nat.le_of_not_lt (of_decide_eq_false e1), trivial⟩ ?_
        refine WL_all hE [2, 4, 6] [4] [] (st' := ⟨[(2, I64 n1), (4, .iter 4), (6, BB false)], [(4, .iter s1 pos1)], []⟩) (orc := []) (ob := []) (by kernel_rfl) trivial ?_
        refine N_then ?_
        refine W_seq ?_
        refine W_cond_false (by kernel_rfl) ?_
        refine W_exit ?_
        refine N_then_exit ?_
        refine N_then_exit ?_
        refine N_block_exit ?_
        refine N_then ?_
        refine W_seq ?_
        refine W_region ?_
        refine WL_all hE [2] [] [] (st' := ⟨[(2, I64 n1)], [], []⟩) (orc := []) (ob := []) (by kernel_rfl) trivial ?_
        refine N_then ?_
        refine W_ret ?_
        cases h
        exact N_end (.inl rfl) (by kernel_rfl)

def C_runes_Len (k : Nat) : FnC := ⟨true, 2, [], fun | [⟨.str, s1⟩], [⟨(.int .i64), rz1⟩, ⟨(.int .i64), rz2⟩] => runes_Len k s1 = some (rz1, rz2) | _, _ => False⟩
noncomputable def E_runes_Len (k : Nat) : Env := ⟨Tryd.prog, Gu, 12, [(35, C_runes_long k), (38, C_unicode_utf8_RuneCountInString k)]⟩
theorem c_runes_Len (k : Nat) : Contract Tryd.prog Gu 15 (C_runes_Len k) := by
  refine contract_of Gu_stable (fn := Tryd.f15) Tryd.func15 (by kernel_rfl) rfl ?_ ?_
  · intro xs rs h
    unfold C_runes_Len at h
    simp only at h
    split at h
    · exact ⟨by show 1 ≤ _; rw [Tryd.ntmps15]; decide, rfl, fun _ u hu => by simp at hu; (rcases hu with rfl | rfl) <;> rfl⟩
    · exact h.elim
  · intro w0 M xs rs hG h
    unfold C_runes_Len at h
    simp only at h
    split at h
    case h_2 => exact h.elim
    rename_i s1 rz1 rz2
    change List UInt8 at s1
    change Int at rz1
    change Int at rz2
    have hE : EnvOK (E_runes_Len k) ⟨Tryd.prog, Tryd.f15.ntmps, w0, M, fun _ => False, fun _ => undef⟩ := (EnvOK.cons (c_runes_long k) (EnvOK.cons (c_unicode_utf8_RuneCountInString k) (EnvOK.nil rfl Tryd.ntmps15 hG)))
    unfold runes_Len at h
    refine W_seq ?_
    refine W_region ?_
    refine WL_all hE [0] [] [] (st' := ⟨[(0, SS s1)], [], []⟩) (orc := []) (ob := []) (by kernel_rfl) trivial ?_
    refine N_then ?_
    refine W_seq ?_
    refine W_seq ?_
    refine W_region ?_
    obtain ⟨v1, e1, h⟩ := bind_some h
    refine WL_all hE [0, 4] [] [] (st' := ⟨[(0, SS s1), (4, I64 v1)], [], []⟩) (orc := [tI64 v1]) (ob := [runes_long k s1 = some v1]) (by kernel_rfl) ⟨e1, trivial⟩ ?_
    refine N_then ?_
    refine W_seq ?_
    refine W_region ?_
    refine WL_all hE [0, 4, 8] [] [] (st' := ⟨[(0, SS s1), (4, I64 v1), (8, BB (v1 != (0 : Int)))], [], []⟩) (orc := []) (ob := []) (by kernel_rfl) trivial ?_
    refine N_then ?_
    refine W_cond (b := v1 != (0 : Int)) (by kernel_rfl) (fun e2 => ?_) (fun e2 => ?_)
    · replace h := ite_t e2 h
      refine W_seq ?_
      refine W_region ?_
      refine WL_all hE [2, 3] [] [] (st' := ⟨[(2, I64 (0 : Int)), (3, I64 v1)], [], []⟩) (orc := []) (ob := []) (by kernel_rfl) trivial ?_
      refine N_then ?_
      refine W_ret ?_
      refine N_then_ret ?_
      cases h
      exact N_end (.inl rfl) (by kernel_rfl)
    · replace h := ite_f e2 h
      refine W_skip ?_
      refine N_then ?_
      refine W_seq ?_
      refine W_region ?_
      obtain ⟨v2, e3, h⟩ := bind_some h
      refine WL_all hE [2, 3] [] [] (st' := ⟨[(2, I64 v2), (3, I64 (0 : Int))], [], []⟩) (orc := [tI64 v2]) (ob := [unicode_utf8_RuneCountInString k s1 = some v2]) (by kernel_rfl) ⟨e3, trivial⟩ ?_
      refine N_then ?_
      refine W_ret ?_
      cases h
      exact N_end (.inl rfl) (by kernel_rfl)

def B_runes_Broken_c1_i1 (k : Nat) : FnB ((Int × Int × Int × Bool × Unit) × Int) (Bool × Int) where
  n := 10
  S := fun z => ⟨[(0, .val (.pair (.int .i32) (.pair (.int .i64) (.pair (.int .i64) (.pair .bool .unit)))) (z.1)), (1, .ptr 10 0)], [(10, .cells [I64 (z.2)] 3)], []⟩
  S' := fun z y => ⟨[], [(10, .cells [I64 (y.2)] 3)], []⟩
  rs := fun z y => [BB (y.1)]
  rel := fun z y => runes_Broken_c1_i1 k (z.1) (z.2) = some y
noncomputable def E_runes_Broken_c1_i1 (k : Nat) : Env := ⟨Tryd.prog, Gu, 10, []⟩
theorem b_runes_Broken_c1_i1 (k : Nat) : BC Tryd.prog Gu 39 (B_runes_Broken_c1_i1 k) := by
  refine bc_of (fn := Tryd.f39) Tryd.func39 (by kernel_rfl) rfl Tryd.ntmps39 ?_
  rintro cx hP hn hG ⟨p1, c1⟩ y0 h
  have hE : EnvOK (E_runes_Broken_c1_i1 k) cx := (EnvOK.nil hP hn hG)
  replace h : runes_Broken_c1_i1 k p1 c1 = some y0 := h
  unfold runes_Broken_c1_i1 at h
  refine W_seq ?_
  refine W_region ?_
  refine WL_all hE [1, 2] [2, 10] [] (st' := ⟨[(1, .ptr 10 0), (2, .ptr 2 0)], [(2, .cells [I32 p1.1, I64 p1.2.1, I64 p1.2.2.1, BB p1.2.2.2.1] 35), (10, .cells [I64 c1] 3)], []⟩) (orc := []) (ob := []) (by kernel_rfl) trivial ?_
  refine N_then ?_
  refine W_join (α := Int) (fun z => runes_Broken_c1_i1_j1 z = some y0) (fun t2 => ⟨[(1, .ptr 10 0)], [(10, .cells [I64 t2] 3)], []⟩) ?_ (fun hJ1 => ?_)
  · rintro t2 h
    unfold runes_Broken_c1_i1_j1 at h
    refine W_seq ?_
    refine W_region ?_
    refine WL_all hE [1, 3] [10] [] (st' := ⟨[(1, .ptr 10 0), (3, BB (decide (t2 < (0 : Int))))], [(10, .cells [I64 t2] 3)], []⟩) (orc := []) (ob := []) (by kernel_rfl) trivial ?_
    refine N_then ?_
    refine W_ret ?_
    replace h := Option.some.inj h
    subst h
    exact N_endB hE.P [10] [] (.inl rfl) (by kernel_rfl) (by kernel_rfl)
  refine W_seq ?_
  refine W_region ?_
  refine WL_all hE [1, 2, 5] [2, 10] [] (st' := ⟨[(1, .ptr 10 0), (2, .ptr 2 0), (5, BB p1.2.2.2.1)], [(2, .cells [I32 p1.1, I64 p1.2.1, I64 p1.2.2.1, BB p1.2.2.2.1] 35), (10, .cells [I64 c1] 3)], []⟩) (orc := []) (ob := []) (by kernel_rfl) trivial ?_
  refine N_then ?_
  refine W_cond (b := p1.2.2.2.1) (by kernel_rfl) (fun e1 => ?_) (fun e1 => ?_)
  · replace h := ite_t e1 h
    refine W_region ?_
    refine WL_all hE [1] [10] [] (st' := ⟨[(1, .ptr 10 0)], [(10, .cells [I64 p1.2.1] 3)], []⟩) (orc := []) (ob := []) (by kernel_rfl) trivial ?_
    exact hJ1 p1.2.1 h
  · replace h := ite_f e1 h
    refine W_skip ?_
    refine N.norm (st' := ⟨[(1, .ptr 10 0)], [(10, .cells [I64 c1] 3)], []⟩) (ks := [1]) (bs := [10]) (rs := []) ?_ (by kernel_rfl)
    exact hJ1 c1 h

def B_runes_each_i2 (k : Nat) : FnB (List UInt8 × Int) Int where
  n := 37
  S := fun z => ⟨[(0, SS (z.1)), (1, .clos 39 [37])], [(37, .cells [I64 (z.2)] 3)], []⟩
  S' := fun z y => ⟨[], [(37, .cells [I64 (y)] 3)], []⟩
  rs := fun z y => []
  rel := fun z y => runes_each_i2 k (z.1) (z.2) = some y
noncomputable def E_runes_each_i2 (k : Nat) : Env := ⟨Tryd.prog, Gu, 37, [(52, C_unicode_utf8_RuneLen k), (25, C_unicode_utf8_DecodeRuneInString k)]⟩
theorem b_runes_each_i2 (k : Nat) : BC Tryd.prog Gu 36 (B_runes_each_i2 k) := by
  refine bc_of (fn := Tryd.f36) Tryd.func36 (by kernel_rfl) rfl Tryd.ntmps36 ?_
  rintro cx hP hn hG ⟨s1, c1⟩ y0 h
  have hE : EnvOK (E_runes_each_i2 k) cx := (EnvOK.cons (c_unicode_utf8_RuneLen k) (EnvOK.cons (e_unicode_utf8_DecodeRuneInString k) (EnvOK.nil hP hn hG)))
  replace h : runes_each_i2 k s1 c1 = some y0 := h
  unfold runes_each_i2 at h
  refine W_seq ?_
  refine W_region ?_
  refine WL_all hE [0, 1, 10] [10, 37] [] (st' := ⟨[(0, SS s1), (1, .clos 39 [37]), (10, .iter 10)], [(10, .iter s1 0), (37, .cells [I64 c1] 3)], []⟩) (orc := []) (ob := []) (by kernel_rfl) trivial ?_
  refine N_then ?_
  refine W_block ?_
  refine W_loop (α := (Nat × Int)) (fun n z => runes_each_i2_l1 k s1 n z.1 z.2 = some y0) (fun z => ⟨[(0, SS s1), (1, .clos 39 [37]), (10, .iter 10)], [(10, .iter s1 (z.1)), (37, .cells [I64 (z.2)] 3)], []⟩) ?_ (k := k) (x := (0, c1)) h
  clear h
  rintro fuel1 ⟨pos1, t2⟩ h
  cases fuel1 with
  | zero => exact absurd (show none = some _ from h) (by simp)
  | succ fuel1 =>
    have h : runes_each_i2_b1 k s1 (runes_each_i2_l1 k s1 fuel1) pos1 t2 = some y0 := h
    unfold runes_each_i2_b1 at h
    refine W_seq ?_
    refine W_region ?_
    rcases Bool.eq_false_or_eq_true (decide (pos1 < List.length s1)) with e1 | e1
    · replace h := ite_t e1 h
      refine WL_tk hE 1 [0, 1, 10, 11] [10, 37] [] (st' := ⟨[(0, SS s1), (1, .clos 39 [37]), (10, .iter 10), (11, .tup [tB true, tI64 (pos1 : Int), tI32 (runeAt s1 pos1)])], [(10, .iter s1 (pos1 + widthAt s1 pos1)), (37, .cells [I64 t2] 3)], []⟩) (orc := [tB true]) (ob := [pos1 < List.length s1]) (by kernel_rfl) ⟨of_decide_eq_true e1, trivial⟩ ?_
      refine WL_all hE [0, 1, 10, 11, 12] [10, 37] [] (st' := ⟨[(0, SS s1), (1, .clos 39 [37]), (10, .iter 10), (11, .tup [tB true, tI64 (pos1 : Int), tI32 (runeAt s1 pos1)]), (12, BB true)], [(10, .iter s1 (pos1 + widthAt s1 pos1)), (37, .cells [I64 t2] 3)], []⟩) (orc := []) (ob := []) (by kernel_rfl) trivial ?_
      refine N_then ?_
      refine W_seq ?_
      refine W_cond_true (by kernel_rfl) ?_
      refine W_skip ?_
      refine N_then ?_
      refine W_block ?_
      refine W_seq ?_
      refine W_region ?_
      refine WL_all hE [0, 1, 4, 5, 10] [10, 37] [] (st' := ⟨[(0, SS s1), (1, .clos 39 [37]), (4, I64 (pos1 : Int)), (5, I32 (runeAt s1 pos1)), (10, .iter 10)], [(10, .iter s1 (pos1 + widthAt s1 pos1)), (37, .cells [I64 t2] 3)], []⟩) (orc := []) (ob := []) (by kernel_rfl) trivial ?_
      refine N_then ?_
      refine W_seq ?_
      refine W_region ?_
      obtain ⟨v1, e2, h⟩ := bind_some h
      refine WL_all hE [0, 1, 4, 5, 6, 10] [6, 10, 37] [] (st' := ⟨[(0, SS s1), (1, .clos 39 [37]), (4, I64 (pos1 : Int)), (5, I32 (runeAt s1 pos1)), (6, .ptr 6 0), (10, .iter 10)], [(6, .cells [I32 (runeAt s1 pos1), I64 (pos1 : Int), I64 v1, BB false] 35), (10, .iter s1 (pos1 + widthAt s1 pos1)), (37, .cells [I64 t2] 3)], []⟩) (orc := [tI64 v1]) (ob := [unicode_utf8_RuneLen k (runeAt s1 pos1) = some v1]) (by kernel_rfl) ⟨e2, trivial⟩ ?_
      refine N_then ?_
      refine W_join (α := (Int × Bool)) (fun z => runes_each_i2_j1 k s1 pos1 t2 (runes_each_i2_l1 k s1 fuel1) z.1 z.2 = some y0) (fun z => ⟨[(0, SS s1), (1, .clos 39 [37]), (6, .ptr 6 0), (10, .iter 10)], [(6, .cells [I32 (runeAt s1 pos1), I64 (pos1 : Int), I64 (z.1), BB (z.2)] 35), (10, .iter s1 (pos1 + widthAt s1 pos1)), (37, .cells [I64 t2] 3)], []⟩) ?_ (fun hJ1 => ?_)
      · rintro ⟨p1, p2⟩ h
        unfold runes_each_i2_j1 at h
        refine W_seq ?_
        refine W_region ?_
        refine WL_tk hE 2 [0, 1, 10, 33, 34] [10, 37] [] (st' := ⟨[(0, SS s1), (1, .clos 39 [37]), (10, .iter 10), (33, .clos 39 [37]), (34, .val (.pair (.int .i32) (.pair (.int .i64) (.pair (.int .i64) (.pair .bool .unit)))) (runeAt s1 pos1, (pos1 : Int), p1, p2, ()))], [(10, .iter s1 (pos1 + widthAt s1 pos1)), (37, .cells [I64 t2] 3)], []⟩) (orc := []) (ob := []) (by kernel_rfl) trivial ?_
        obtain ⟨v2, e3, h⟩ := bind_some h
        refine WL_callB hE (b_runes_Broken_c1_i1 k) ((runeAt s1 pos1, (pos1 : Int), p1, p2, ()), t2) v2 e3 (ρ := [(37, 10)]) (ρ' := [(10, 37)]) (n := 10) (by kernel_rfl) [0, 1, 10, 35] [10, 37] [] (by kernel_rfl) (by kernel_rfl) (st' := ⟨[(0, SS s1), (1, .clos 39 [37]), (10, .iter 10), (35, BB v2.1)], [(10, .iter s1 (pos1 + widthAt s1 pos1)), (37, .cells [I64 v2.2] 3)], []⟩) (by kernel_rfl) ?_
        refine WL_all hE [0, 1, 10, 36] [10, 37] [] (st' := ⟨[(0, SS s1), (1, .clos 39 [37]), (10, .iter 10), (36, BB (!v2.1))], [(10, .iter s1 (pos1 + widthAt s1 pos1)), (37, .cells [I64 v2.2] 3)], []⟩) (orc := []) (ob := []) (by kernel_rfl) trivial ?_
        refine N_then ?_
        refine W_cond (b := !v2.1) (by kernel_rfl) (fun e4 => ?_) (fun e4 => ?_)
        · replace h := ite_t e4 h
          refine W_ret ?_
          refine N_block_ret ?_
          refine N_then_ret ?_
          refine N_block_ret ?_
          replace h := Option.some.inj h
          subst h
          refine N.norm (st' := ⟨[(1, .clos 39 [37])], [(37, .cells [I64 v2.2] 3)], []⟩) (ks := [1]) (bs := [37]) (rs := []) ?_ (by kernel_rfl)
          exact N_endB hE.P [37] [] (.inl rfl) (by kernel_rfl) (by kernel_rfl)
        · replace h := ite_f e4 h
          refine W_skip ?_
          refine N_block ?_
          refine N.norm (st' := ⟨[(0, SS s1), (1, .clos 39 [37]), (10, .iter 10)], [(10, .iter s1 (pos1 + widthAt s1 pos1)), (37, .cells [I64 v2.2] 3)], []⟩) (ks := [0, 1, 10]) (bs := [10, 37]) (rs := []) ?_ (by kernel_rfl)
          exact N_round ((pos1 + widthAt s1 pos1), v2.2) (Nat.lt_succ_self _) h
      refine W_seq ?_
      refine W_region ?_
      refine WL_all hE [0, 1, 4, 6, 10, 21] [6, 10, 37] [] (st' := ⟨[(0, SS s1), (1, .clos 39 [37]), (4, I64 (pos1 : Int)), (6, .ptr 6 0), (10, .iter 10), (21, BB ((runeAt s1 pos1) == (65533 : Int)))], [(6, .cells [I32 (runeAt s1 pos1), I64 (pos1 : Int), I64 v1, BB false] 35), (10, .iter s1 (pos1 + widthAt s1 pos1)), (37, .cells [I64 t2] 3)], []⟩) (orc := []) (ob := []) (by kernel_rfl) trivial ?_
      refine N_then ?_
      refine W_cond (b := (runeAt s1 pos1) == (65533 : Int)) (by kernel_rfl) (fun e5 => ?_) (fun e5 => ?_)
      · replace h := ite_t e5 h
        refine W_seq ?_
        refine W_region ?_
        obtain ⟨s2, e6, h⟩ := bind_some h
        obtain ⟨v3, e7, h⟩ := bind_some h
        refine WL_all hE [0, 1, 6, 8, 10] [6, 10, 37] [] (st' := ⟨[(0, SS s1), (1, .clos 39 [37]), (6, .ptr 6 0), (8, I64 v3.2), (10, .iter 10)], [(6, .cells [I32 (runeAt s1 pos1), I64 (pos1 : Int), I64 v1, BB false] 35), (10, .iter s1 (pos1 + widthAt s1 pos1)), (37, .cells [I64 t2] 3)], []⟩) (orc := [tS s2, tI32 v3.1, tI64 v3.2]) (ob := [sub? s1 (pos1 : Int) (s1.length : Int) = some s2, utf8_DecodeRuneInString k s2 = some ((v3).1, (v3).2)]) (by kernel_rfl) ⟨e6, e7, trivial⟩ ?_
        refine N_then ?_
        refine W_seq ?_
        refine W_region ?_
        refine WL_all hE [0, 1, 6, 10, 30] [6, 10, 37] [] (st' := ⟨[(0, SS s1), (1, .clos 39 [37]), (6, .ptr 6 0), (10, .iter 10), (30, BB (v3.2 == (1 : Int)))], [(6, .cells [I32 (runeAt s1 pos1), I64 (pos1 : Int), I64 v1, BB false] 35), (10, .iter s1 (pos1 + widthAt s1 pos1)), (37, .cells [I64 t2] 3)], []⟩) (orc := []) (ob := []) (by kernel_rfl) trivial ?_
        refine N_then ?_
        refine W_cond (b := v3.2 == (1 : Int)) (by kernel_rfl) (fun e8 => ?_) (fun e8 => ?_)
        · replace h := ite_t e8 h
          refine W_region ?_
          refine WL_all hE [0, 1, 6, 10] [6, 10, 37] [] (st' := ⟨[(0, SS s1), (1, .clos 39 [37]), (6, .ptr 6 0), (10, .iter 10)], [(6, .cells [I32 (runeAt s1 pos1), I64 (pos1 : Int), I64 (1 : Int), BB true] 35), (10, .iter s1 (pos1 + widthAt s1 pos1)), (37, .cells [I64 t2] 3)], []⟩) (orc := []) (ob := []) (by kernel_rfl) trivial ?_
          exact hJ1 ((1 : Int), true) h
        · replace h := ite_f e8 h
          refine W_skip ?_
          refine N.norm (st' := ⟨[(0, SS s1), (1, .clos 39 [37]), (6, .ptr 6 0), (10, .iter 10)], [(6, .cells [I32 (runeAt s1 pos1), I64 (pos1 : Int), I64 v1, BB false] 35), (10, .iter s1 (pos1 + widthAt s1 pos1)), (37, .cells [I64 t2] 3)], []⟩) (ks := [0, 1, 6, 10]) (bs := [6, 10, 37]) (rs := []) ?_ (by kernel_rfl)
          exact hJ1 (v1, false) h
      · replace h := ite_f e5 h
        refine W_skip ?_
        refine N.norm (st' := ⟨[(0, SS s1), (1, .clos 39 [37]), (6, .ptr 6 0), (10, .iter 10)], [(6, .cells [I32 (runeAt s1 pos1), I64 (pos1 : Int), I64 v1, BB false] 35), (10, .iter s1 (pos1 + widthAt s1 pos1)), (37, .cells [I64 t2] 3)], []⟩) (ks := [0, 1, 6, 10]) (bs := [6, 10, 37]) (rs := []) ?_ (by kernel_rfl)
        exact hJ1 (v1, false) h
    · replace h := ite_f e1 h
      refine WL_tk hE 1 [0, 1, 10, 11] [10, 37] [] (st' := ⟨[(0, SS s1), (1, .clos 39 [37]), (10, .iter 10), (11, .tup [tB false])], [(10, .iter s1 pos1), (37, .cells [I64 t2] 3)], []⟩) (orc := [tB false]) (ob := [List.length s1 ≤ pos1]) (by kernel_rfl) ⟨Nat.le_of_not_lt (of_decide_eq_false e1), trivial⟩ ?_
      refine WL_all hE [0, 1, 10, 11, 12] [10, 37] [] (st' := ⟨[(0, SS s1), (1, .clos 39 [37]), (10, .iter 10), (11, .tup [tB false]), (12, BB false)], [(10, .iter s1 pos1), (37, .cells [I64 t2] 3)], []⟩) (orc := []) (ob := []) (by kernel_rfl) trivial ?_
      refine N_then ?_
      refine W_seq ?_
      refine W_cond_false (by kernel_rfl) ?_
      refine W_exit ?_
      refine N_then_exit ?_
      refine N_then_exit ?_
      refine N_block_exit ?_
      replace h := Option.some.inj h
      subst h
      refine N.norm (st' := ⟨[(1, .clos 39 [37])], [(37, .cells [I64 t2] 3)], []⟩) (ks := [1]) (bs := [37]) (rs := []) ?_ (by kernel_rfl)
      exact N_endB hE.P [37] [] (.inr rfl) (by kernel_rfl) (by kernel_rfl)

def C_runes_Broken (k : Nat) : FnC := ⟨true, 2, [], fun | [⟨.str, s1⟩], [⟨(.int .i64), rz1⟩, ⟨(.int .i64), rz2⟩] => runes_Broken k s1 = some (rz1, rz2) | _, _ => False⟩
noncomputable def E_runes_Broken (k : Nat) : Env := ⟨Tryd.prog, Gu, 15, [(35, C_runes_long k)]⟩
theorem c_runes_Broken (k : Nat) : Contract Tryd.prog Gu 17 (C_runes_Broken k) := by
  refine contract_of Gu_stable (fn := Tryd.f17) Tryd.func17 (by kernel_rfl) rfl ?_ ?_
  · intro xs rs h
    unfold C_runes_Broken at h
    simp only at h
    split at h
    · exact ⟨by show 1 ≤ _; rw [Tryd.ntmps17]; decide, rfl, fun _ u hu => by simp at hu; (rcases hu with rfl | rfl) <;> rfl⟩
    · exact h.elim
  · intro w0 M xs rs hG h
    unfold C_runes_Broken at h
    simp only at h
    split at h
    case h_2 => exact h.elim
    rename_i s1 rz1 rz2
    change List UInt8 at s1
    change Int at rz1
    change Int at rz2
    have hE : EnvOK (E_runes_Broken k) ⟨Tryd.prog, Tryd.f17.ntmps, w0, M, fun _ => False, fun _ => undef⟩ := (EnvOK.cons (c_runes_long k) (EnvOK.nil rfl Tryd.ntmps17 hG))
    unfold runes_Broken at h
    refine W_seq ?_
    refine W_region ?_
    refine WL_all hE [0] [] [] (st' := ⟨[(0, SS s1)], [], []⟩) (orc := []) (ob := []) (by kernel_rfl) trivial ?_
    refine N_then ?_
    refine W_seq ?_
    refine W_seq ?_
    refine W_region ?_
    obtain ⟨v1, e1, h⟩ := bind_some h
    refine WL_all hE [0, 4] [] [] (st' := ⟨[(0, SS s1), (4, I64 v1)], [], []⟩) (orc := [tI64 v1]) (ob := [runes_long k s1 = some v1]) (by kernel_rfl) ⟨e1, trivial⟩ ?_
    refine N_then ?_
    refine W_seq ?_
    refine W_region ?_
    refine WL_all hE [0, 4, 9] [] [] (st' := ⟨[(0, SS s1), (4, I64 v1), (9, BB (v1 != (0 : Int)))], [], []⟩) (orc := []) (ob := []) (by kernel_rfl) trivial ?_
    refine N_then ?_
    refine W_cond (b := v1 != (0 : Int)) (by kernel_rfl) (fun e2 => ?_) (fun e2 => ?_)
    · replace h := ite_t e2 h
      refine W_seq ?_
      refine W_region ?_
      refine WL_all hE [2, 3] [] [] (st' := ⟨[(2, I64 (0 : Int)), (3, I64 v1)], [], []⟩) (orc := []) (ob := []) (by kernel_rfl) trivial ?_
      refine N_then ?_
      refine W_ret ?_
      refine N_then_ret ?_
      cases h
      exact N_end (.inl rfl) (by kernel_rfl)
    · replace h := ite_f e2 h
      refine W_skip ?_
      refine N_then ?_
      refine W_seq ?_
      refine W_region ?_
      refine WL_all hE [0, 5] [5] [] (st' := ⟨[(0, SS s1), (5, .ptr 5 0)], [(5, .cells [I64 (-1 : Int)] 3)], []⟩) (orc := []) (ob := []) (by kernel_rfl) trivial ?_
      refine N_then ?_
      refine W_seq ?_
      refine W_region ?_
      refine WL_tk hE 2 [5, 11, 12] [5] [] (st' := ⟨[(5, .ptr 5 0), (11, SS s1), (12, .clos 39 [5])], [(5, .cells [I64 (-1 : Int)] 3)], []⟩) (orc := []) (ob := []) (by kernel_rfl) trivial ?_
      obtain ⟨v2, e3, h⟩ := bind_some h
      refine WL_callB hE (b_runes_each_i2 k) (s1, (-1 : Int)) v2 e3 (ρ := [(5, 37)]) (ρ' := [(37, 5)]) (n := 37) (by kernel_rfl) [5] [5] [] (by kernel_rfl) (by kernel_rfl) (st' := ⟨[(5, .ptr 5 0)], [(5, .cells [I64 v2] 3)], []⟩) (by kernel_rfl) ?_
      refine WL_nil ?_
      refine N_then ?_
      refine W_seq ?_
      refine W_region ?_
      refine WL_all hE [2, 3] [] [] (st' := ⟨[(2, I64 v2), (3, I64 (0 : Int))], [], []⟩) (orc := []) (ob := []) (by kernel_rfl) trivial ?_
      refine N_then ?_
      refine W_ret ?_
      cases h
      exact N_end (.inl rfl) (by kernel_rfl)

def C_runes_Part_c1 (k : Nat) : FnC := ⟨true, 1, [(.sl (.pair (.int .i32) (.pair (.int .i64) (.pair (.int .i64) (.pair .bool .unit))))), .str], fun | [⟨(.int .i64), i1⟩, ⟨(.ptr (.sl (.pair (.int .i32) (.pair (.int .i64) (.pair (.int .i64) (.pair .bool .unit)))))), t1⟩, ⟨(.ptr .str), t2⟩], [⟨(.int .i64), rz⟩] => runes_Part_c1 k i1 t1 t2 = some rz | _, _ => False⟩
noncomputable def E_runes_Part_c1 (k : Nat) : Env := ⟨Tryd.prog, Gu, 16, []⟩
theorem c_runes_Part_c1 (k : Nat) : Contract Tryd.prog Gu 40 (C_runes_Part_c1 k) := by
  refine contract_of Gu_stable (fn := Tryd.f40) Tryd.func40 (by kernel_rfl) rfl ?_ ?_
  · intro xs rs h
    unfold C_runes_Part_c1 at h
    simp only at h
    split at h
    · exact ⟨by show 3 ≤ _; rw [Tryd.ntmps40]; decide, rfl, fun _ u hu => by simp at hu; (rcases hu with rfl) <;> rfl⟩
    · exact h.elim
  · intro w0 M xs rs hG h
    unfold C_runes_Part_c1 at h
    simp only at h
    split at h
    case h_2 => exact h.elim
    rename_i i1 t1 t2 rz
    change Int at i1
    change List ((Int × Int × Int × Bool × Unit)) at t1
    change List UInt8 at t2
    change Int at rz
    have hE : EnvOK (E_runes_Part_c1 k) ⟨Tryd.prog, Tryd.f40.ntmps, w0, M, fun _ => False, fun _ => undef⟩ := (EnvOK.nil rfl Tryd.ntmps40 hG)
    unfold runes_Part_c1 at h
    refine W_seq ?_
    refine W_region ?_
    refine WL_all hE [0, 1, 2] [] [] (st' := ⟨[(0, I64 i1), (1, .vptr (.sl (.pair (.int .i32) (.pair (.int .i64) (.pair (.int .i64) (.pair .bool .unit))))) t1), (2, .vptr .str t2)], [], []⟩) (orc := []) (ob := []) (by kernel_rfl) trivial ?_
    refine N_then ?_
    refine W_seq ?_
    refine W_seq ?_
    refine W_region ?_
    refine WL_all hE [0, 1, 2, 8] [] [] (st' := ⟨[(0, I64 i1), (1, .vptr (.sl (.pair (.int .i32) (.pair (.int .i64) (.pair (.int .i64) (.pair .bool .unit))))) t1), (2, .vptr .str t2), (8, BB (i1 == (List.length t1 : Int)))], [], []⟩) (orc := []) (ob := []) (by kernel_rfl) trivial ?_
    refine N_then ?_
    refine W_cond (b := i1 == (List.length t1 : Int)) (by kernel_rfl) (fun e1 => ?_) (fun e1 => ?_)
    · replace h := ite_t e1 h
      refine W_seq ?_
      refine W_region ?_
      refine WL_all hE [4] [] [] (st' := ⟨[(4, I64 (List.length t2 : Int))], [], []⟩) (orc := []) (ob := []) (by kernel_rfl) trivial ?_
      refine N_then ?_
      refine W_ret ?_
      refine N_then_ret ?_
      cases h
      exact N_end (.inl rfl) (by kernel_rfl)
    · replace h := ite_f e1 h
      refine W_skip ?_
      refine N_then ?_
      refine W_seq ?_
      refine W_region ?_
      obtain ⟨x1, e2, h⟩ := bind_some h
      refine WL_all hE [4] [] [] (st' := ⟨[(4, I64 x1.2.1)], [], []⟩) (orc := [⟨(.pair (.int .i32) (.pair (.int .i64) (.pair (.int .i64) (.pair .bool .unit)))), x1⟩]) (ob := [at? t1 i1 = some x1]) (by kernel_rfl) ⟨e2, trivial⟩ ?_
      refine N_then ?_
      refine W_ret ?_
      cases h
      exact N_end (.inl rfl) (by kernel_rfl)

def C_runes_Part (k : Nat) : FnC := ⟨true, 2, [], fun | [⟨.str, s1⟩, ⟨(.int .i64), from1⟩, ⟨(.int .i64), to1⟩], [⟨.str, rz1⟩, ⟨(.int .i64), rz2⟩] => runes_Part k s1 from1 to1 = some (rz1, rz2) | _, _ => False⟩
noncomputable def E_runes_Part (k : Nat) : Env := ⟨Tryd.prog, Gu, 41, [(13, C_runes_Pieces k), (40, C_runes_Part_c1 k)]⟩
theorem c_runes_Part (k : Nat) : Contract Tryd.prog Gu 19 (C_runes_Part k) := by
  refine contract_of Gu_stable (fn := Tryd.f19) Tryd.func19 (by kernel_rfl) rfl ?_ ?_
  · intro xs rs h
    unfold C_runes_Part at h
    simp only at h
    split at h
    · exact ⟨by show 3 ≤ _; rw [Tryd.ntmps19]; decide, rfl, fun _ u hu => by simp at hu; (rcases hu with rfl | rfl) <;> rfl⟩
    · exact h.elim
  · intro w0 M xs rs hG h
    unfold C_runes_Part at h
    simp only at h
    split at h
    case h_2 => exact h.elim
    rename_i s1 from1 to1 rz1 rz2
    change List UInt8 at s1
    change Int at from1
    change Int at to1
    change List UInt8 at rz1
    change Int at rz2
    have hE : EnvOK (E_runes_Part k) ⟨Tryd.prog, Tryd.f19.ntmps, w0, M, fun _ => False, fun _ => undef⟩ := (EnvOK.cons (c_runes_Pieces k) (EnvOK.cons (c_runes_Part_c1 k) (EnvOK.nil rfl Tryd.ntmps19 hG)))
    unfold runes_Part at h
    refine W_seq ?_
    refine W_region ?_
    refine WL_all hE [1, 2, 3] [3] [] (st' := ⟨[(1, I64 from1), (2, I64 to1), (3, .ptr 3 0)], [(3, .cells [SS s1] 9)], []⟩) (orc := []) (ob := []) (by kernel_rfl) trivial ?_
    refine N_then ?_
    refine W_seq ?_
    refine W_region ?_
    obtain ⟨v1, e1, h⟩ := bind_some h
    refine WL_all hE [1, 2, 3, 8, 9] [3, 8] [] (st' := ⟨[(1, I64 from1), (2, I64 to1), (3, .ptr 3 0), (8, .ptr 8 0), (9, I64 v1.2)], [(3, .cells [SS s1] 9), (8, .cells [.val (.sl (.pair (.int .i32) (.pair (.int .i64) (.pair (.int .i64) (.pair .bool .unit))))) v1.1] 24)], []⟩) (orc := [⟨(.sl (.pair (.int .i32) (.pair (.int .i64) (.pair (.int .i64) (.pair .bool .unit))))), v1.1⟩, tI64 v1.2]) (ob := [runes_Pieces k s1 = some ((v1).1, (v1).2)]) (by kernel_rfl) ⟨e1, trivial⟩ ?_
    refine N_then ?_
    refine W_seq ?_
    refine W_seq ?_
    refine W_region ?_
    refine WL_all hE [1, 2, 3, 8, 9, 17] [3, 8] [] (st' := ⟨[(1, I64 from1), (2, I64 to1), (3, .ptr 3 0), (8, .ptr 8 0), (9, I64 v1.2), (17, BB (v1.2 != (0 : Int)))], [(3, .cells [SS s1] 9), (8, .cells [.val (.sl (.pair (.int .i32) (.pair (.int .i64) (.pair (.int .i64) (.pair .bool .unit))))) v1.1] 24)], []⟩) (orc := []) (ob := []) (by kernel_rfl) trivial ?_
    refine N_then ?_
    refine W_cond (b := v1.2 != (0 : Int)) (by kernel_rfl) (fun e2 => ?_) (fun e2 => ?_)
    · replace h := ite_t e2 h
      refine W_seq ?_
      refine W_region ?_
      refine WL_all hE [6, 7] [] [] (st' := ⟨[(6, SS ([] : List UInt8)), (7, I64 v1.2)], [], []⟩) (orc := []) (ob := []) (by kernel_rfl) trivial ?_
      refine N_then ?_
      refine W_ret ?_
      refine N_then_ret ?_
      cases h
      exact N_end (.inl rfl) (by kernel_rfl)
    · replace h := ite_f e2 h
      refine W_skip ?_
      refine N_then ?_
      refine W_seq ?_
      refine W_seq ?_
      refine W_region ?_
      refine WL_tk hE 3 [1, 2, 3, 8, 21] [3, 8] [] (st' := ⟨[(1, I64 from1), (2, I64 to1), (3, .ptr 3 0), (8, .ptr 8 0), (21, BB (decide (from1 < (0 : Int))))], [(3, .cells [SS s1] 9), (8, .cells [.val (.sl (.pair (.int .i32) (.pair (.int .i64) (.pair (.int .i64) (.pair .bool .unit))))) v1.1] 24)], []⟩) (orc := []) (ob := []) (by kernel_rfl) trivial ?_
      refine WL_join (α := Bool) (fun z => runes_Part_j1 k from1 v1 s1 to1 z = some (rz1, rz2)) (fun t1 => ⟨[(1, I64 from1), (2, I64 to1), (3, .ptr 3 0), (8, .ptr 8 0), (25, BB t1)], [(3, .cells [SS s1] 9), (8, .cells [.val (.sl (.pair (.int .i32) (.pair (.int .i64) (.pair (.int .i64) (.pair .bool .unit))))) v1.1] 24)], []⟩) 4 ?_ (fun hJ1 => ?_)
      · rintro t1 h
        unfold runes_Part_j1 at h
        refine WL_tk hE 1 [1, 2, 3, 8, 26] [3, 8] [] (st' := ⟨[(1, I64 from1), (2, I64 to1), (3, .ptr 3 0), (8, .ptr 8 0), (26, BB t1)], [(3, .cells [SS s1] 9), (8, .cells [.val (.sl (.pair (.int .i32) (.pair (.int .i64) (.pair (.int .i64) (.pair .bool .unit))))) v1.1] 24)], []⟩) (orc := []) (ob := []) (by kernel_rfl) trivial ?_
        refine WL_join (α := Bool) (fun z => runes_Part_j2 k from1 v1 s1 to1 z = some (rz1, rz2)) (fun t2 => ⟨[(1, I64 from1), (2, I64 to1), (3, .ptr 3 0), (8, .ptr 8 0), (31, BB t2)], [(3, .cells [SS s1] 9), (8, .cells [.val (.sl (.pair (.int .i32) (.pair (.int .i64) (.pair (.int .i64) (.pair .bool .unit))))) v1.1] 24)], []⟩) 5 ?_ (fun hJ2 => ?_)
        · rintro t2 h
          unfold runes_Part_j2 at h
          refine WL_nil ?_
          refine N_then ?_
          refine W_cond (b := t2) (by kernel_rfl) (fun e3 => ?_) (fun e3 => ?_)
          · replace h := ite_t e3 h
            refine W_seq ?_
            refine W_region ?_
            refine WL_all hE [6, 7] [] [] (st' := ⟨[(6, SS ([] : List UInt8)), (7, I64 (10 : Int))], [], []⟩) (orc := []) (ob := []) (by kernel_rfl) trivial ?_
            refine N_then ?_
            refine W_ret ?_
            refine N_then_ret ?_
            cases h
            exact N_end (.inl rfl) (by kernel_rfl)
          · replace h := ite_f e3 h
            refine W_skip ?_
            refine N_then ?_
            refine W_seq ?_
            refine W_region ?_
            refine WL_all hE [1, 2, 3, 10] [3, 8] [] (st' := ⟨[(1, I64 from1), (2, I64 to1), (3, .ptr 3 0), (10, .clos 40 [8, 3])], [(3, .cells [SS s1] 9), (8, .cells [.val (.sl (.pair (.int .i32) (.pair (.int .i64) (.pair (.int .i64) (.pair .bool .unit))))) v1.1] 24)], []⟩) (orc := []) (ob := []) (by kernel_rfl) trivial ?_
            refine N_then ?_
            refine W_seq ?_
            refine W_draw (by kernel_rfl) (by kernel_rfl) ?_
            obtain ⟨v2, e4, h⟩ := bind_some h
            obtain ⟨v3, e5, h⟩ := bind_some h
            obtain ⟨s2, e6, h⟩ := bind_some h
            refine WD_all hE [6, 7] [] [] (st' := ⟨[(6, SS s2), (7, I64 (0 : Int))], [], []⟩) (orc := [tI64 v2, tI64 v3, tS s2]) (ob := [runes_Part_c1 k from1 v1.1 s1 = some v2, runes_Part_c1 k to1 v1.1 s1 = some v3, sub? s1 v2 v3 = some s2]) (by kernel_rfl) ⟨e4, e5, e6, trivial⟩ ?_
            refine N_then ?_
            refine W_ret ?_
            cases h
            exact N_end (.inl rfl) (by kernel_rfl)
        refine WL_split (fun g => ⟨[(1, I64 from1), (2, I64 to1), (3, .ptr 3 0), (8, .ptr 8 0), (26, BB g)], [(3, .cells [SS s1] 9), (8, .cells [.val (.sl (.pair (.int .i32) (.pair (.int .i64) (.pair (.int .i64) (.pair .bool .unit))))) v1.1] 24)], []⟩) (b := t1) (fun e7 => ?_) (fun e7 => ?_)
        · rw [or_t e7] at h
          refine WL_all hE [1, 2, 3, 8, 31] [3, 8] [] (st' := ⟨[(1, I64 from1), (2, I64 to1), (3, .ptr 3 0), (8, .ptr 8 0), (31, BB true)], [(3, .cells [SS s1] 9), (8, .cells [.val (.sl (.pair (.int .i32) (.pair (.int .i64) (.pair (.int .i64) (.pair .bool .unit))))) v1.1] 24)], []⟩) (orc := []) (ob := []) (by kernel_rfl) trivial ?_
          exact hJ2 true h
        · rw [or_f e7] at h
          refine WL_all hE [1, 2, 3, 8, 31] [3, 8] [] (st' := ⟨[(1, I64 from1), (2, I64 to1), (3, .ptr 3 0), (8, .ptr 8 0), (31, BB (decide ((List.length v1.1 : Int) < to1)))], [(3, .cells [SS s1] 9), (8, .cells [.val (.sl (.pair (.int .i32) (.pair (.int .i64) (.pair (.int .i64) (.pair .bool .unit))))) v1.1] 24)], []⟩) (orc := []) (ob := []) (by kernel_rfl) trivial ?_
          exact hJ2 (decide ((List.length v1.1 : Int) < to1)) h
      refine WL_split (fun g => ⟨[(1, I64 from1), (2, I64 to1), (3, .ptr 3 0), (8, .ptr 8 0), (21, BB g)], [(3, .cells [SS s1] 9), (8, .cells [.val (.sl (.pair (.int .i32) (.pair (.int .i64) (.pair (.int .i64) (.pair .bool .unit))))) v1.1] 24)], []⟩) (b := decide (from1 < (0 : Int))) (fun e8 => ?_) (fun e8 => ?_)
      · rw [or_t e8] at h
        refine WL_all hE [1, 2, 3, 8, 25] [3, 8] [] (st' := ⟨[(1, I64 from1), (2, I64 to1), (3, .ptr 3 0), (8, .ptr 8 0), (25, BB true)], [(3, .cells [SS s1] 9), (8, .cells [.val (.sl (.pair (.int .i32) (.pair (.int .i64) (.pair (.int .i64) (.pair .bool .unit))))) v1.1] 24)], []⟩) (orc := []) (ob := []) (by kernel_rfl) trivial ?_
        exact hJ1 true h
      · rw [or_f e8] at h
        refine WL_all hE [1, 2, 3, 8, 25] [3, 8] [] (st' := ⟨[(1, I64 from1), (2, I64 to1), (3, .ptr 3 0), (8, .ptr 8 0), (25, BB (decide (to1 < from1)))], [(3, .cells [SS s1] 9), (8, .cells [.val (.sl (.pair (.int .i32) (.pair (.int .i64) (.pair (.int .i64) (.pair .bool .unit))))) v1.1] 24)], []⟩) (orc := []) (ob := []) (by kernel_rfl) trivial ?_
        exact hJ1 (decide (to1 < from1)) h

def C_l01_wrong (k : Nat) : FnC := ⟨true, 1, [], fun | [⟨.str, s1⟩, ⟨(.int .i64), at1⟩], [⟨.bool, rz⟩] => l01_wrong k s1 at1 = some rz | _, _ => False⟩
noncomputable def E_l01_wrong (k : Nat) : Env := ⟨Tryd.prog, Gu, 25, [(29, C_runes_Plain k)]⟩
theorem c_l01_wrong (k : Nat) : Contract Tryd.prog Gu 32 (C_l01_wrong k) := by
  refine contract_of Gu_stable (fn := Tryd.f32) Tryd.func32 (by kernel_rfl) rfl ?_ ?_
  · intro xs rs h
    unfold C_l01_wrong at h
    simp only at h
    split at h
    · exact ⟨by show 2 ≤ _; rw [Tryd.ntmps32]; decide, rfl, fun _ u hu => by simp at hu; (rcases hu with rfl) <;> rfl⟩
    · exact h.elim
  · intro w0 M xs rs hG h
    unfold C_l01_wrong at h
    simp only at h
    split at h
    case h_2 => exact h.elim
    rename_i s1 at1 rz
    change List UInt8 at s1
    change Int at at1
    change Bool at rz
    have hE : EnvOK (E_l01_wrong k) ⟨Tryd.prog, Tryd.f32.ntmps, w0, M, fun _ => False, fun _ => undef⟩ := (EnvOK.cons (c_runes_Plain k) (EnvOK.nil rfl Tryd.ntmps32 hG))
    unfold l01_wrong at h
    refine W_seq ?_
    refine W_region ?_
    refine WL_all hE [0, 1] [] [] (st' := ⟨[(0, SS s1), (1, I64 at1)], [], []⟩) (orc := []) (ob := []) (by kernel_rfl) trivial ?_
    refine N_then ?_
    refine W_seq ?_
    refine W_region ?_
    obtain ⟨v1, e1, h⟩ := bind_some h
    refine WL_all hE [1, 5, 6, 7] [] [] (st' := ⟨[(1, I64 at1), (5, SS v1.1), (6, I64 v1.2.1), (7, I64 v1.2.2)], [], []⟩) (orc := [tS v1.1, tI64 v1.2.1, tI64 v1.2.2]) (ob := [runes_Plain k s1 = some ((v1).1, (v1).2.1, (v1).2.2)]) (by kernel_rfl) ⟨e1, trivial⟩ ?_
    refine N_then ?_
    refine W_seq ?_
    refine W_region ?_
    refine WL_tk hE 3 [1, 6, 7, 16] [] [] (st' := ⟨[(1, I64 at1), (6, I64 v1.2.1), (7, I64 v1.2.2), (16, BB (v1.1 == ([] : List UInt8)))], [], []⟩) (orc := []) (ob := []) (by kernel_rfl) trivial ?_
    refine WL_join (α := Bool) (fun z => l01_wrong_j1 v1 z = some rz) (fun t1 => ⟨[(7, I64 v1.2.2), (20, BB t1)], [], []⟩) 4 ?_ (fun hJ1 => ?_)
    · rintro t1 h
      unfold l01_wrong_j1 at h
      refine WL_tk hE 1 [7, 21] [] [] (st' := ⟨[(7, I64 v1.2.2), (21, BB t1)], [], []⟩) (orc := []) (ob := []) (by kernel_rfl) trivial ?_
      refine WL_join (α := Bool) (fun z => l01_wrong_j2 z = some rz) (fun t2 => ⟨[(24, BB t2)], [], []⟩) 3 ?_ (fun hJ2 => ?_)
      · rintro t2 h
        unfold l01_wrong_j2 at h
        refine WL_all hE [4] [] [] (st' := ⟨[(4, BB t2)], [], []⟩) (orc := []) (ob := []) (by kernel_rfl) trivial ?_
        refine N_then ?_
        refine W_ret ?_
        cases h
        exact N_end (.inl rfl) (by kernel_rfl)
      refine WL_split (fun g => ⟨[(7, I64 v1.2.2), (21, BB g)], [], []⟩) (b := t1) (fun e2 => ?_) (fun e2 => ?_)
      · rw [and_t e2] at h
        refine WL_all hE [24] [] [] (st' := ⟨[(24, BB (v1.2.2 == (10 : Int)))], [], []⟩) (orc := []) (ob := []) (by kernel_rfl) trivial ?_
        exact hJ2 (v1.2.2 == (10 : Int)) h
      · rw [and_f e2] at h
        refine WL_all hE [24] [] [] (st' := ⟨[(24, BB false)], [], []⟩) (orc := []) (ob := []) (by kernel_rfl) trivial ?_
        exact hJ2 false h
    refine WL_split (fun g => ⟨[(1, I64 at1), (6, I64 v1.2.1), (7, I64 v1.2.2), (16, BB g)], [], []⟩) (b := v1.1 == ([] : List UInt8)) (fun e3 => ?_) (fun e3 => ?_)
    · rw [and_t e3] at h
      refine WL_all hE [7, 20] [] [] (st' := ⟨[(7, I64 v1.2.2), (20, BB (v1.2.1 == at1))], [], []⟩) (orc := []) (ob := []) (by kernel_rfl) trivial ?_
      exact hJ1 (v1.2.1 == at1) h
    · rw [and_f e3] at h
      refine WL_all hE [7, 20] [] [] (st' := ⟨[(7, I64 v1.2.2), (20, BB false)], [], []⟩) (orc := []) (ob := []) (by kernel_rfl) trivial ?_
      exact hJ1 false h

def C_l01_RunesNames (k : Nat) : FnC := ⟨true, 1, [], fun | [], [⟨.bool, rz⟩] => l01_RunesNames k = some rz | _, _ => False⟩
noncomputable def E_l01_RunesNames (k : Nat) : Env := ⟨Tryd.prog, Gu, 188, [(13, C_runes_Pieces k), (15, C_runes_Len k), (17, C_runes_Broken k), (19, C_runes_Part k), (27, C_runes_Quote k), (32, C_l01_wrong k), (24, C_l01_alive k), (10, C_runes_Less k), (26, C_runes_Text k)]⟩
theorem c_l01_RunesNames (k : Nat) : Contract Tryd.prog Gu 9 (C_l01_RunesNames k) := by
  refine contract_of Gu_stable (fn := Tryd.f9) Tryd.func9 (by kernel_rfl) rfl ?_ ?_
  · intro xs rs h
    unfold C_l01_RunesNames at h
    simp only at h
    split at h
    · exact ⟨by show 0 ≤ _; rw [Tryd.ntmps9]; decide, rfl, fun _ u hu => by simp at hu; (rcases hu with rfl) <;> rfl⟩
    · exact h.elim
  · intro w0 M xs rs hG h
    unfold C_l01_RunesNames at h
    simp only at h
    split at h
    case h_2 => exact h.elim
    rename_i rz
    change Bool at rz
    have hE : EnvOK (E_l01_RunesNames k) ⟨Tryd.prog, Tryd.f9.ntmps, w0, M, fun _ => False, fun _ => undef⟩ := (EnvOK.cons (c_runes_Pieces k) (EnvOK.cons (c_runes_Len k) (EnvOK.cons (c_runes_Broken k) (EnvOK.cons (c_runes_Part k) (EnvOK.cons (c_runes_Quote k) (EnvOK.cons (c_l01_wrong k) (EnvOK.cons (c_l01_alive k) (EnvOK.cons (c_runes_Less k) (EnvOK.cons (c_runes_Text k) (EnvOK.nil rfl Tryd.ntmps9 hG))))))))))
    unfold l01_RunesNames at h
    refine W_seq ?_
    refine W_region ?_
    refine WL_all hE [] [] [] (st' := ⟨[], [], []⟩) (orc := []) (ob := []) (by kernel_rfl) trivial ?_
    refine N_then ?_
    refine W_seq ?_
    refine W_region ?_
    obtain ⟨v1, e1, h⟩ := bind_some h
    refine WL_all hE [1, 2] [] [] (st' := ⟨[(1, .val (.sl (.pair (.int .i32) (.pair (.int .i64) (.pair (.int .i64) (.pair .bool .unit))))) v1.1), (2, I64 v1.2)], [], []⟩) (orc := [⟨(.sl (.pair (.int .i32) (.pair (.int .i64) (.pair (.int .i64) (.pair .bool .unit))))), v1.1⟩, tI64 v1.2]) (ob := [runes_Pieces k ([97, 195, 169, 255, 98] : List UInt8) = some ((v1).1, (v1).2)]) (by kernel_rfl) ⟨e1, trivial⟩ ?_
    refine N_then ?_
    refine W_seq ?_
    refine W_region ?_
    obtain ⟨v2, e2, h⟩ := bind_some h
    refine WL_all hE [1, 2, 3, 4] [] [] (st' := ⟨[(1, .val (.sl (.pair (.int .i32) (.pair (.int .i64) (.pair (.int .i64) (.pair .bool .unit))))) v1.1), (2, I64 v1.2), (3, I64 v2.1), (4, I64 v2.2)], [], []⟩) (orc := [tI64 v2.1, tI64 v2.2]) (ob := [runes_Len k ([97, 195, 169, 255, 98] : List UInt8) = some ((v2).1, (v2).2)]) (by kernel_rfl) ⟨e2, trivial⟩ ?_
    refine N_then ?_
    refine W_seq ?_
    refine W_region ?_
    obtain ⟨v3, e3, h⟩ := bind_some h
    refine WL_all hE [1, 2, 3, 4, 5, 6] [] [] (st' := ⟨[(1, .val (.sl (.pair (.int .i32) (.pair (.int .i64) (.pair (.int .i64) (.pair .bool .unit))))) v1.1), (2, I64 v1.2), (3, I64 v2.1), (4, I64 v2.2), (5, I64 v3.1), (6, I64 v3.2)], [], []⟩) (orc := [tI64 v3.1, tI64 v3.2]) (ob := [runes_Broken k ([97, 195, 169, 255, 98] : List UInt8) = some ((v3).1, (v3).2)]) (by kernel_rfl) ⟨e3, trivial⟩ ?_
    refine N_then ?_
    refine W_seq ?_
    refine W_region ?_
    obtain ⟨v4, e4, h⟩ := bind_some h
    refine WL_all hE [1, 2, 3, 4, 5, 6, 7, 8] [] [] (st' := ⟨[(1, .val (.sl (.pair (.int .i32) (.pair (.int .i64) (.pair (.int .i64) (.pair .bool .unit))))) v1.1), (2, I64 v1.2), (3, I64 v2.1), (4, I64 v2.2), (5, I64 v3.1), (6, I64 v3.2), (7, I64 v4.1), (8, I64 v4.2)], [], []⟩) (orc := [tI64 v4.1, tI64 v4.2]) (ob := [runes_Broken k ([97] : List UInt8) = some ((v4).1, (v4).2)]) (by kernel_rfl) ⟨e4, trivial⟩ ?_
    refine N_then ?_
    refine W_seq ?_
    refine W_region ?_
    refine WL_tk hE 3 [1, 3, 4, 5, 6, 7, 8, 40] [] [] (st' := ⟨[(1, .val (.sl (.pair (.int .i32) (.pair (.int .i64) (.pair (.int .i64) (.pair .bool .unit))))) v1.1), (3, I64 v2.1), (4, I64 v2.2), (5, I64 v3.1), (6, I64 v3.2), (7, I64 v4.1), (8, I64 v4.2), (40, BB (v1.2 == (0 : Int)))], [], []⟩) (orc := []) (ob := []) (by kernel_rfl) trivial ?_
    refine WL_join (α := Bool) (fun z => l01_RunesNames_j1 k v1 v4 v3 v2 z = some rz) (fun t1 => ⟨[(1, .val (.sl (.pair (.int .i32) (.pair (.int .i64) (.pair (.int .i64) (.pair .bool .unit))))) v1.1), (3, I64 v2.1), (4, I64 v2.2), (5, I64 v3.1), (6, I64 v3.2), (7, I64 v4.1), (8, I64 v4.2), (44, BB t1)], [], []⟩) 4 ?_ (fun hJ1 => ?_)
    · rintro t1 h
      unfold l01_RunesNames_j1 at h
      refine WL_tk hE 1 [1, 3, 4, 5, 6, 7, 8, 45] [] [] (st' := ⟨[(1, .val (.sl (.pair (.int .i32) (.pair (.int .i64) (.pair (.int .i64) (.pair .bool .unit))))) v1.1), (3, I64 v2.1), (4, I64 v2.2), (5, I64 v3.1), (6, I64 v3.2), (7, I64 v4.1), (8, I64 v4.2), (45, BB t1)], [], []⟩) (orc := []) (ob := []) (by kernel_rfl) trivial ?_
      refine WL_join (α := Bool) (fun z => l01_RunesNames_j2 k v1 v4 v3 v2 z = some rz) (fun t2 => ⟨[(1, .val (.sl (.pair (.int .i32) (.pair (.int .i64) (.pair (.int .i64) (.pair .bool .unit))))) v1.1), (3, I64 v2.1), (4, I64 v2.2), (5, I64 v3.1), (6, I64 v3.2), (7, I64 v4.1), (8, I64 v4.2), (51, BB t2)], [], []⟩) 6 ?_ (fun hJ2 => ?_)
      · rintro t2 h
        unfold l01_RunesNames_j2 at h
        refine WL_tk hE 1 [1, 3, 4, 5, 6, 7, 8, 52] [] [] (st' := ⟨[(1, .val (.sl (.pair (.int .i32) (.pair (.int .i64) (.pair (.int .i64) (.pair .bool .unit))))) v1.1), (3, I64 v2.1), (4, I64 v2.2), (5, I64 v3.1), (6, I64 v3.2), (7, I64 v4.1), (8, I64 v4.2), (52, BB t2)], [], []⟩) (orc := []) (ob := []) (by kernel_rfl) trivial ?_
        refine WL_join (α := Bool) (fun z => l01_RunesNames_j3 k v1 v4 v3 v2 z = some rz) (fun t3 => ⟨[(1, .val (.sl (.pair (.int .i32) (.pair (.int .i64) (.pair (.int .i64) (.pair .bool .unit))))) v1.1), (3, I64 v2.1), (4, I64 v2.2), (5, I64 v3.1), (6, I64 v3.2), (7, I64 v4.1), (8, I64 v4.2), (58, BB t3)], [], []⟩) 6 ?_ (fun hJ3 => ?_)
        · rintro t3 h
          unfold l01_RunesNames_j3 at h
          refine WL_tk hE 1 [1, 3, 4, 5, 6, 7, 8, 59] [] [] (st' := ⟨[(1, .val (.sl (.pair (.int .i32) (.pair (.int .i64) (.pair (.int .i64) (.pair .bool .unit))))) v1.1), (3, I64 v2.1), (4, I64 v2.2), (5, I64 v3.1), (6, I64 v3.2), (7, I64 v4.1), (8, I64 v4.2), (59, BB t3)], [], []⟩) (orc := []) (ob := []) (by kernel_rfl) trivial ?_
          refine WL_join (α := Bool) (fun z => l01_RunesNames_j4 k v4 v3 v2 z = some rz) (fun t4 => ⟨[(3, I64 v2.1), (4, I64 v2.2), (5, I64 v3.1), (6, I64 v3.2), (7, I64 v4.1), (8, I64 v4.2), (65, BB t4)], [], []⟩) 6 ?_ (fun hJ4 => ?_)
          · rintro t4 h
            unfold l01_RunesNames_j4 at h
            refine WL_tk hE 1 [3, 4, 5, 6, 7, 8, 66] [] [] (st' := ⟨[(3, I64 v2.1), (4, I64 v2.2), (5, I64 v3.1), (6, I64 v3.2), (7, I64 v4.1), (8, I64 v4.2), (66, BB t4)], [], []⟩) (orc := []) (ob := []) (by kernel_rfl) trivial ?_
            refine WL_join (α := Bool) (fun z => l01_RunesNames_j5 k v4 v3 v2 z = some rz) (fun t5 => ⟨[(3, I64 v2.1), (5, I64 v3.1), (6, I64 v3.2), (7, I64 v4.1), (8, I64 v4.2), (69, BB t5)], [], []⟩) 3 ?_ (fun hJ5 => ?_)
            · rintro t5 h
              unfold l01_RunesNames_j5 at h
              refine WL_tk hE 1 [3, 5, 6, 7, 8, 70] [] [] (st' := ⟨[(3, I64 v2.1), (5, I64 v3.1), (6, I64 v3.2), (7, I64 v4.1), (8, I64 v4.2), (70, BB t5)], [], []⟩) (orc := []) (ob := []) (by kernel_rfl) trivial ?_
              refine WL_join (α := Bool) (fun z => l01_RunesNames_j6 k v4 v3 z = some rz) (fun t6 => ⟨[(5, I64 v3.1), (6, I64 v3.2), (7, I64 v4.1), (8, I64 v4.2), (73, BB t6)], [], []⟩) 3 ?_ (fun hJ6 => ?_)
              · rintro t6 h
                unfold l01_RunesNames_j6 at h
                refine WL_tk hE 1 [5, 6, 7, 8, 74] [] [] (st' := ⟨[(5, I64 v3.1), (6, I64 v3.2), (7, I64 v4.1), (8, I64 v4.2), (74, BB t6)], [], []⟩) (orc := []) (ob := []) (by kernel_rfl) trivial ?_
                refine WL_join (α := Bool) (fun z => l01_RunesNames_j7 k v4 v3 z = some rz) (fun t7 => ⟨[(5, I64 v3.1), (7, I64 v4.1), (8, I64 v4.2), (77, BB t7)], [], []⟩) 3 ?_ (fun hJ7 => ?_)
                · rintro t7 h
                  unfold l01_RunesNames_j7 at h
                  refine WL_tk hE 1 [5, 7, 8, 78] [] [] (st' := ⟨[(5, I64 v3.1), (7, I64 v4.1), (8, I64 v4.2), (78, BB t7)], [], []⟩) (orc := []) (ob := []) (by kernel_rfl) trivial ?_
                  refine WL_join (α := Bool) (fun z => l01_RunesNames_j8 k v4 z = some rz) (fun t8 => ⟨[(7, I64 v4.1), (8, I64 v4.2), (81, BB t8)], [], []⟩) 3 ?_ (fun hJ8 => ?_)
                  · rintro t8 h
                    unfold l01_RunesNames_j8 at h
                    refine WL_tk hE 1 [7, 8, 82] [] [] (st' := ⟨[(7, I64 v4.1), (8, I64 v4.2), (82, BB t8)], [], []⟩) (orc := []) (ob := []) (by kernel_rfl) trivial ?_
                    refine WL_join (α := Bool) (fun z => l01_RunesNames_j9 k v4 z = some rz) (fun t9 => ⟨[(7, I64 v4.1), (85, BB t9)], [], []⟩) 3 ?_ (fun hJ9 => ?_)
                    · rintro t9 h
                      unfold l01_RunesNames_j9 at h
                      refine WL_tk hE 1 [7, 86] [] [] (st' := ⟨[(7, I64 v4.1), (86, BB t9)], [], []⟩) (orc := []) (ob := []) (by kernel_rfl) trivial ?_
                      refine WL_join (α := Bool) (fun z => l01_RunesNames_j10 k z = some rz) (fun t10 => ⟨[(89, BB t10)], [], []⟩) 3 ?_ (fun hJ10 => ?_)
                      · rintro t10 h
                        unfold l01_RunesNames_j10 at h
                        refine WL_all hE [9] [] [] (st' := ⟨[(9, BB t10)], [], []⟩) (orc := []) (ob := []) (by kernel_rfl) trivial ?_
                        refine N_then ?_
                        refine W_seq ?_
                        refine W_region ?_
                        obtain ⟨v5, e5, h⟩ := bind_some h
                        refine WL_all hE [9, 10, 11] [] [] (st' := ⟨[(9, BB t10), (10, SS v5.1), (11, I64 v5.2)], [], []⟩) (orc := [tS v5.1, tI64 v5.2]) (ob := [runes_Part k ([97, 195, 169, 255, 98] : List UInt8) (1 : Int) (3 : Int) = some ((v5).1, (v5).2)]) (by kernel_rfl) ⟨e5, trivial⟩ ?_
                        refine N_then ?_
                        refine W_seq ?_
                        refine W_region ?_
                        obtain ⟨v6, e6, h⟩ := bind_some h
                        refine WL_all hE [9, 10, 11, 13] [] [] (st' := ⟨[(9, BB t10), (10, SS v5.1), (11, I64 v5.2), (13, I64 v6.2)], [], []⟩) (orc := [tS v6.1, tI64 v6.2]) (ob := [runes_Part k ([97, 195, 169, 255, 98] : List UInt8) (3 : Int) (2 : Int) = some ((v6).1, (v6).2)]) (by kernel_rfl) ⟨e6, trivial⟩ ?_
                        refine N_then ?_
                        refine W_seq ?_
                        refine W_region ?_
                        obtain ⟨v7, e7, h⟩ := bind_some h
                        refine WL_all hE [9, 10, 11, 13, 15] [] [] (st' := ⟨[(9, BB t10), (10, SS v5.1), (11, I64 v5.2), (13, I64 v6.2), (15, I64 v7.2)], [], []⟩) (orc := [tS v7.1, tI64 v7.2]) (ob := [runes_Part k ([97, 195, 169, 255, 98] : List UInt8) (0 : Int) (5 : Int) = some ((v7).1, (v7).2)]) (by kernel_rfl) ⟨e7, trivial⟩ ?_
                        refine N_then ?_
                        refine W_seq ?_
                        refine W_region ?_
                        obtain ⟨v8, e8, h⟩ := bind_some h
                        refine WL_all hE [9, 10, 11, 13, 15, 16, 17] [] [] (st' := ⟨[(9, BB t10), (10, SS v5.1), (11, I64 v5.2), (13, I64 v6.2), (15, I64 v7.2), (16, SS v8.1), (17, I64 v8.2)], [], []⟩) (orc := [tS v8.1, tI64 v8.2]) (ob := [runes_Quote k ([97, 195, 169, 255, 98] : List UInt8) = some ((v8).1, (v8).2)]) (by kernel_rfl) ⟨e8, trivial⟩ ?_
                        refine N_then ?_
                        refine W_seq ?_
                        refine W_region ?_
                        obtain ⟨v9, e9, h⟩ := bind_some h
                        refine WL_all hE [9, 10, 11, 13, 15, 16, 17, 18, 19] [] [] (st' := ⟨[(9, BB t10), (10, SS v5.1), (11, I64 v5.2), (13, I64 v6.2), (15, I64 v7.2), (16, SS v8.1), (17, I64 v8.2), (18, SS v9.1), (19, I64 v9.2)], [], []⟩) (orc := [tS v9.1, tI64 v9.2]) (ob := [runes_Quote k ([97, 34, 98, 10] : List UInt8) = some ((v9).1, (v9).2)]) (by kernel_rfl) ⟨e9, trivial⟩ ?_
                        refine N_then ?_
                        refine W_seq ?_
                        refine W_region ?_
                        refine WL_tk hE 3 [9, 10, 13, 15, 16, 17, 18, 19, 112] [] [] (st' := ⟨[(9, BB t10), (10, SS v5.1), (13, I64 v6.2), (15, I64 v7.2), (16, SS v8.1), (17, I64 v8.2), (18, SS v9.1), (19, I64 v9.2), (112, BB (v5.2 == (0 : Int)))], [], []⟩) (orc := []) (ob := []) (by kernel_rfl) trivial ?_
                        refine WL_join (α := Bool) (fun z => l01_RunesNames_j11 k t10 v9 v8 v7 v6 z = some rz) (fun t11 => ⟨[(9, BB t10), (13, I64 v6.2), (15, I64 v7.2), (16, SS v8.1), (17, I64 v8.2), (18, SS v9.1), (19, I64 v9.2), (115, BB t11)], [], []⟩) 3 ?_ (fun hJ11 => ?_)
                        · rintro t11 h
                          unfold l01_RunesNames_j11 at h
                          refine WL_tk hE 1 [9, 13, 15, 16, 17, 18, 19, 116] [] [] (st' := ⟨[(9, BB t10), (13, I64 v6.2), (15, I64 v7.2), (16, SS v8.1), (17, I64 v8.2), (18, SS v9.1), (19, I64 v9.2), (116, BB t11)], [], []⟩) (orc := []) (ob := []) (by kernel_rfl) trivial ?_
                          refine WL_join (α := Bool) (fun z => l01_RunesNames_j12 k t10 v9 v8 v7 z = some rz) (fun t12 => ⟨[(9, BB t10), (15, I64 v7.2), (16, SS v8.1), (17, I64 v8.2), (18, SS v9.1), (19, I64 v9.2), (119, BB t12)], [], []⟩) 3 ?_ (fun hJ12 => ?_)
                          · rintro t12 h
                            unfold l01_RunesNames_j12 at h
                            refine WL_tk hE 1 [9, 15, 16, 17, 18, 19, 120] [] [] (st' := ⟨[(9, BB t10), (15, I64 v7.2), (16, SS v8.1), (17, I64 v8.2), (18, SS v9.1), (19, I64 v9.2), (120, BB t12)], [], []⟩) (orc := []) (ob := []) (by kernel_rfl) trivial ?_
                            refine WL_join (α := Bool) (fun z => l01_RunesNames_j13 k t10 v9 v8 z = some rz) (fun t13 => ⟨[(9, BB t10), (16, SS v8.1), (17, I64 v8.2), (18, SS v9.1), (19, I64 v9.2), (123, BB t13)], [], []⟩) 3 ?_ (fun hJ13 => ?_)
                            · rintro t13 h
                              unfold l01_RunesNames_j13 at h
                              refine WL_tk hE 1 [9, 16, 17, 18, 19, 124] [] [] (st' := ⟨[(9, BB t10), (16, SS v8.1), (17, I64 v8.2), (18, SS v9.1), (19, I64 v9.2), (124, BB t13)], [], []⟩) (orc := []) (ob := []) (by kernel_rfl) trivial ?_
                              refine WL_join (α := Bool) (fun z => l01_RunesNames_j14 k t10 v9 v8 z = some rz) (fun t14 => ⟨[(9, BB t10), (16, SS v8.1), (18, SS v9.1), (19, I64 v9.2), (127, BB t14)], [], []⟩) 3 ?_ (fun hJ14 => ?_)
                              · rintro t14 h
                                unfold l01_RunesNames_j14 at h
                                refine WL_tk hE 1 [9, 16, 18, 19, 128] [] [] (st' := ⟨[(9, BB t10), (16, SS v8.1), (18, SS v9.1), (19, I64 v9.2), (128, BB t14)], [], []⟩) (orc := []) (ob := []) (by kernel_rfl) trivial ?_
                                refine WL_join (α := Bool) (fun z => l01_RunesNames_j15 k t10 v9 z = some rz) (fun t15 => ⟨[(9, BB t10), (18, SS v9.1), (19, I64 v9.2), (131, BB t15)], [], []⟩) 3 ?_ (fun hJ15 => ?_)
                                · rintro t15 h
                                  unfold l01_RunesNames_j15 at h
                                  refine WL_tk hE 1 [9, 18, 19, 132] [] [] (st' := ⟨[(9, BB t10), (18, SS v9.1), (19, I64 v9.2), (132, BB t15)], [], []⟩) (orc := []) (ob := []) (by kernel_rfl) trivial ?_
                                  refine WL_join (α := Bool) (fun z => l01_RunesNames_j16 k t10 v9 z = some rz) (fun t16 => ⟨[(9, BB t10), (18, SS v9.1), (135, BB t16)], [], []⟩) 3 ?_ (fun hJ16 => ?_)
                                  · rintro t16 h
                                    unfold l01_RunesNames_j16 at h
                                    refine WL_tk hE 1 [9, 18, 136] [] [] (st' := ⟨[(9, BB t10), (18, SS v9.1), (136, BB t16)], [], []⟩) (orc := []) (ob := []) (by kernel_rfl) trivial ?_
                                    refine WL_join (α := Bool) (fun z => l01_RunesNames_j17 k t10 z = some rz) (fun t17 => ⟨[(9, BB t10), (139, BB t17)], [], []⟩) 3 ?_ (fun hJ17 => ?_)
                                    · rintro t17 h
                                      unfold l01_RunesNames_j17 at h
                                      refine WL_tk hE 1 [9, 140] [] [] (st' := ⟨[(9, BB t10), (140, BB t17)], [], []⟩) (orc := []) (ob := []) (by kernel_rfl) trivial ?_
                                      refine WL_join (α := Bool) (fun z => l01_RunesNames_j18 k t10 z = some rz) (fun t18 => ⟨[(9, BB t10), (144, BB t18)], [], []⟩) 4 ?_ (fun hJ18 => ?_)
                                      · rintro t18 h
                                        unfold l01_RunesNames_j18 at h
                                        refine WL_tk hE 1 [9, 145] [] [] (st' := ⟨[(9, BB t10), (145, BB t18)], [], []⟩) (orc := []) (ob := []) (by kernel_rfl) trivial ?_
                                        refine WL_join (α := Bool) (fun z => l01_RunesNames_j19 k t10 z = some rz) (fun t19 => ⟨[(9, BB t10), (149, BB t19)], [], []⟩) 4 ?_ (fun hJ19 => ?_)
                                        · rintro t19 h
                                          unfold l01_RunesNames_j19 at h
                                          refine WL_all hE [9, 20] [] [] (st' := ⟨[(9, BB t10), (20, BB t19)], [], []⟩) (orc := []) (ob := []) (by kernel_rfl) trivial ?_
                                          refine N_then ?_
                                          refine W_seq ?_
                                          refine W_region ?_
                                          obtain ⟨v10, e10, h⟩ := bind_some h
                                          refine WL_tk hE 2 [9, 20, 151] [] [] (st' := ⟨[(9, BB t10), (20, BB t19), (151, BB v10)], [], []⟩) (orc := [tB v10]) (ob := [l01_wrong k ([34, 97, 92, 120, 52, 49, 34] : List UInt8) (2 : Int) = some v10]) (by kernel_rfl) ⟨e10, trivial⟩ ?_
                                          refine WL_join (α := Bool) (fun z => l01_RunesNames_j20 k t19 t10 z = some rz) (fun t20 => ⟨[(9, BB t10), (20, BB t19), (153, BB t20)], [], []⟩) 2 ?_ (fun hJ20 => ?_)
                                          · rintro t20 h
                                            unfold l01_RunesNames_j20 at h
                                            refine WL_tk hE 1 [9, 20, 154] [] [] (st' := ⟨[(9, BB t10), (20, BB t19), (154, BB t20)], [], []⟩) (orc := []) (ob := []) (by kernel_rfl) trivial ?_
                                            refine WL_join (α := Bool) (fun z => l01_RunesNames_j21 k t19 t10 z = some rz) (fun t21 => ⟨[(9, BB t10), (20, BB t19), (156, BB t21)], [], []⟩) 2 ?_ (fun hJ21 => ?_)
                                            · rintro t21 h
                                              unfold l01_RunesNames_j21 at h
                                              refine WL_tk hE 1 [9, 20, 157] [] [] (st' := ⟨[(9, BB t10), (20, BB t19), (157, BB t21)], [], []⟩) (orc := []) (ob := []) (by kernel_rfl) trivial ?_
                                              refine WL_join (α := Bool) (fun z => l01_RunesNames_j22 k t19 t10 z = some rz) (fun t22 => ⟨[(9, BB t10), (20, BB t19), (159, BB t22)], [], []⟩) 2 ?_ (fun hJ22 => ?_)
                                              · rintro t22 h
                                                unfold l01_RunesNames_j22 at h
                                                refine WL_tk hE 1 [9, 20, 160] [] [] (st' := ⟨[(9, BB t10), (20, BB t19), (160, BB t22)], [], []⟩) (orc := []) (ob := []) (by kernel_rfl) trivial ?_
                                                refine WL_join (α := Bool) (fun z => l01_RunesNames_j23 k t19 t10 z = some rz) (fun t23 => ⟨[(9, BB t10), (20, BB t19), (162, BB t23)], [], []⟩) 2 ?_ (fun hJ23 => ?_)
                                                · rintro t23 h
                                                  unfold l01_RunesNames_j23 at h
                                                  refine WL_tk hE 1 [9, 20, 163] [] [] (st' := ⟨[(9, BB t10), (20, BB t19), (163, BB t23)], [], []⟩) (orc := []) (ob := []) (by kernel_rfl) trivial ?_
                                                  refine WL_join (α := Bool) (fun z => l01_RunesNames_j24 k t19 t10 z = some rz) (fun t24 => ⟨[(9, BB t10), (20, BB t19), (165, BB t24)], [], []⟩) 2 ?_ (fun hJ24 => ?_)
                                                  · rintro t24 h
                                                    unfold l01_RunesNames_j24 at h
                                                    refine WL_tk hE 1 [9, 20, 166] [] [] (st' := ⟨[(9, BB t10), (20, BB t19), (166, BB t24)], [], []⟩) (orc := []) (ob := []) (by kernel_rfl) trivial ?_
                                                    refine WL_join (α := Bool) (fun z => l01_RunesNames_j25 k t19 t10 z = some rz) (fun t25 => ⟨[(9, BB t10), (20, BB t19), (168, BB t25)], [], []⟩) 2 ?_ (fun hJ25 => ?_)
                                                    · rintro t25 h
                                                      unfold l01_RunesNames_j25 at h
                                                      refine WL_tk hE 1 [9, 20, 169] [] [] (st' := ⟨[(9, BB t10), (20, BB t19), (169, BB t25)], [], []⟩) (orc := []) (ob := []) (by kernel_rfl) trivial ?_
                                                      refine WL_join (α := Bool) (fun z => l01_RunesNames_j26 k t19 t10 z = some rz) (fun t26 => ⟨[(9, BB t10), (20, BB t19), (171, BB t26)], [], []⟩) 2 ?_ (fun hJ26 => ?_)
                                                      · rintro t26 h
                                                        unfold l01_RunesNames_j26 at h
                                                        refine WL_tk hE 1 [9, 20, 172] [] [] (st' := ⟨[(9, BB t10), (20, BB t19), (172, BB t26)], [], []⟩) (orc := []) (ob := []) (by kernel_rfl) trivial ?_
                                                        refine WL_join (α := Bool) (fun z => l01_RunesNames_j27 k t19 t10 z = some rz) (fun t27 => ⟨[(9, BB t10), (20, BB t19), (175, BB t27)], [], []⟩) 3 ?_ (fun hJ27 => ?_)
                                                        · rintro t27 h
                                                          unfold l01_RunesNames_j27 at h
                                                          refine WL_all hE [9, 20, 21] [] [] (st' := ⟨[(9, BB t10), (20, BB t19), (21, BB t27)], [], []⟩) (orc := []) (ob := []) (by kernel_rfl) trivial ?_
                                                          refine N_then ?_
                                                          refine W_seq ?_
                                                          refine W_region ?_
                                                          obtain ⟨v11, e11, h⟩ := bind_some h
                                                          refine WL_tk hE 4 [9, 20, 21, 179] [] [] (st' := ⟨[(9, BB t10), (20, BB t19), (21, BB t27), (179, BB v11)], [], []⟩) (orc := [tB v11]) (ob := [l01_alive k = some v11]) (by kernel_rfl) ⟨e11, trivial⟩ ?_
                                                          refine WL_join (α := Bool) (fun z => l01_RunesNames_j28 t27 t19 z = some rz) (fun t28 => ⟨[(20, BB t19), (21, BB t27), (181, BB t28)], [], []⟩) 2 ?_ (fun hJ28 => ?_)
                                                          · rintro t28 h
                                                            unfold l01_RunesNames_j28 at h
                                                            refine WL_tk hE 1 [20, 21, 182] [] [] (st' := ⟨[(20, BB t19), (21, BB t27), (182, BB t28)], [], []⟩) (orc := []) (ob := []) (by kernel_rfl) trivial ?_
                                                            refine WL_join (α := Bool) (fun z => l01_RunesNames_j29 t27 z = some rz) (fun t29 => ⟨[(21, BB t27), (184, BB t29)], [], []⟩) 2 ?_ (fun hJ29 => ?_)
                                                            · rintro t29 h
                                                              unfold l01_RunesNames_j29 at h
                                                              refine WL_tk hE 1 [21, 185] [] [] (st' := ⟨[(21, BB t27), (185, BB t29)], [], []⟩) (orc := []) (ob := []) (by kernel_rfl) trivial ?_
                                                              refine WL_join (α := Bool) (fun z => l01_RunesNames_j30 z = some rz) (fun t30 => ⟨[(187, BB t30)], [], []⟩) 2 ?_ (fun hJ30 => ?_)
                                                              · rintro t30 h
                                                                unfold l01_RunesNames_j30 at h
                                                                refine WL_all hE [0] [] [] (st' := ⟨[(0, BB t30)], [], []⟩) (orc := []) (ob := []) (by kernel_rfl) trivial ?_
                                                                refine N_then ?_
                                                                refine W_ret ?_
                                                                cases h
                                                                exact N_end (.inl rfl) (by kernel_rfl)
                                                              refine WL_split (fun g => ⟨[(21, BB t27), (185, BB g)], [], []⟩) (b := t29) (fun e12 => ?_) (fun e12 => ?_)
                                                              · rw [and_t e12] at h
                                                                refine WL_all hE [187] [] [] (st' := ⟨[(187, BB t27)], [], []⟩) (orc := []) (ob := []) (by kernel_rfl) trivial ?_
                                                                exact hJ30 t27 h
                                                              · rw [and_f e12] at h
                                                                refine WL_all hE [187] [] [] (st' := ⟨[(187, BB false)], [], []⟩) (orc := []) (ob := []) (by kernel_rfl) trivial ?_
                                                                exact hJ30 false h
                                                            refine WL_split (fun g => ⟨[(20, BB t19), (21, BB t27), (182, BB g)], [], []⟩) (b := t28) (fun e13 => ?_) (fun e13 => ?_)
                                                            · rw [and_t e13] at h
                                                              refine WL_all hE [21, 184] [] [] (st' := ⟨[(21, BB t27), (184, BB t19)], [], []⟩) (orc := []) (ob := []) (by kernel_rfl) trivial ?_
                                                              exact hJ29 t19 h
                                                            · rw [and_f e13] at h
                                                              refine WL_all hE [21, 184] [] [] (st' := ⟨[(21, BB t27), (184, BB false)], [], []⟩) (orc := []) (ob := []) (by kernel_rfl) trivial ?_
                                                              exact hJ29 false h
                                                          refine WL_split (fun g => ⟨[(9, BB t10), (20, BB t19), (21, BB t27), (179, BB g)], [], []⟩) (b := v11) (fun e14 => ?_) (fun e14 => ?_)
                                                          · rw [and_t e14] at h
                                                            refine WL_all hE [20, 21, 181] [] [] (st' := ⟨[(20, BB t19), (21, BB t27), (181, BB t10)], [], []⟩) (orc := []) (ob := []) (by kernel_rfl) trivial ?_
                                                            exact hJ28 t10 h
                                                          · rw [and_f e14] at h
                                                            refine WL_all hE [20, 21, 181] [] [] (st' := ⟨[(20, BB t19), (21, BB t27), (181, BB false)], [], []⟩) (orc := []) (ob := []) (by kernel_rfl) trivial ?_
                                                            exact hJ28 false h
                                                        refine WL_split (fun g => ⟨[(9, BB t10), (20, BB t19), (172, BB g)], [], []⟩) (b := t26) (fun e15 => ?_) (fun e15 => ?_)
                                                        · replace h := ite_t e15 h
                                                          obtain ⟨v12, e16, h⟩ := bind_some h
                                                          refine WL_all hE [9, 20, 175] [] [] (st' := ⟨[(9, BB t10), (20, BB t19), (175, BB (!v12))], [], []⟩) (orc := [tB v12]) (ob := [runes_Less k ([98] : List UInt8) ([97] : List UInt8) = some v12]) (by kernel_rfl) ⟨e16, trivial⟩ ?_
                                                          exact hJ27 (!v12) h
                                                        · replace h := ite_f e15 h
                                                          refine WL_all hE [9, 20, 175] [] [] (st' := ⟨[(9, BB t10), (20, BB t19), (175, BB false)], [], []⟩) (orc := []) (ob := []) (by kernel_rfl) trivial ?_
                                                          exact hJ27 false h
                                                      refine WL_split (fun g => ⟨[(9, BB t10), (20, BB t19), (169, BB g)], [], []⟩) (b := t25) (fun e17 => ?_) (fun e17 => ?_)
                                                      · replace h := ite_t e17 h
                                                        obtain ⟨v13, e18, h⟩ := bind_some h
                                                        refine WL_all hE [9, 20, 171] [] [] (st' := ⟨[(9, BB t10), (20, BB t19), (171, BB v13)], [], []⟩) (orc := [tB v13]) (ob := [runes_Less k ([244, 143, 191, 191] : List UInt8) ([128] : List UInt8) = some v13]) (by kernel_rfl) ⟨e18, trivial⟩ ?_
                                                        exact hJ26 v13 h
                                                      · replace h := ite_f e17 h
                                                        refine WL_all hE [9, 20, 171] [] [] (st' := ⟨[(9, BB t10), (20, BB t19), (171, BB false)], [], []⟩) (orc := []) (ob := []) (by kernel_rfl) trivial ?_
                                                        exact hJ26 false h
                                                    refine WL_split (fun g => ⟨[(9, BB t10), (20, BB t19), (166, BB g)], [], []⟩) (b := t24) (fun e19 => ?_) (fun e19 => ?_)
                                                    · replace h := ite_t e19 h
                                                      obtain ⟨v14, e20, h⟩ := bind_some h
                                                      refine WL_all hE [9, 20, 168] [] [] (st' := ⟨[(9, BB t10), (20, BB t19), (168, BB v14)], [], []⟩) (orc := [tB v14]) (ob := [runes_Less k ([97] : List UInt8) ([97, 98] : List UInt8) = some v14]) (by kernel_rfl) ⟨e20, trivial⟩ ?_
                                                      exact hJ25 v14 h
                                                    · replace h := ite_f e19 h
                                                      refine WL_all hE [9, 20, 168] [] [] (st' := ⟨[(9, BB t10), (20, BB t19), (168, BB false)], [], []⟩) (orc := []) (ob := []) (by kernel_rfl) trivial ?_
                                                      exact hJ25 false h
                                                  refine WL_split (fun g => ⟨[(9, BB t10), (20, BB t19), (163, BB g)], [], []⟩) (b := t23) (fun e21 => ?_) (fun e21 => ?_)
                                                  · replace h := ite_t e21 h
                                                    obtain ⟨v15, e22, h⟩ := bind_some h
                                                    refine WL_all hE [9, 20, 165] [] [] (st' := ⟨[(9, BB t10), (20, BB t19), (165, BB v15)], [], []⟩) (orc := [tB v15]) (ob := [runes_Less k ([97] : List UInt8) ([98] : List UInt8) = some v15]) (by kernel_rfl) ⟨e22, trivial⟩ ?_
                                                    exact hJ24 v15 h
                                                  · replace h := ite_f e21 h
                                                    refine WL_all hE [9, 20, 165] [] [] (st' := ⟨[(9, BB t10), (20, BB t19), (165, BB false)], [], []⟩) (orc := []) (ob := []) (by kernel_rfl) trivial ?_
                                                    exact hJ24 false h
                                                refine WL_split (fun g => ⟨[(9, BB t10), (20, BB t19), (160, BB g)], [], []⟩) (b := t22) (fun e23 => ?_) (fun e23 => ?_)
                                                · replace h := ite_t e23 h
                                                  obtain ⟨v16, e24, h⟩ := bind_some h
                                                  refine WL_all hE [9, 20, 162] [] [] (st' := ⟨[(9, BB t10), (20, BB t19), (162, BB v16)], [], []⟩) (orc := [tB v16]) (ob := [l01_wrong k ([34, 92, 117, 48, 101, 57, 59, 34] : List UInt8) (1 : Int) = some v16]) (by kernel_rfl) ⟨e24, trivial⟩ ?_
                                                  exact hJ23 v16 h
                                                · replace h := ite_f e23 h
                                                  refine WL_all hE [9, 20, 162] [] [] (st' := ⟨[(9, BB t10), (20, BB t19), (162, BB false)], [], []⟩) (orc := []) (ob := []) (by kernel_rfl) trivial ?_
                                                  exact hJ23 false h
                                              refine WL_split (fun g => ⟨[(9, BB t10), (20, BB t19), (157, BB g)], [], []⟩) (b := t21) (fun e25 => ?_) (fun e25 => ?_)
                                              · replace h := ite_t e25 h
                                                obtain ⟨v17, e26, h⟩ := bind_some h
                                                refine WL_all hE [9, 20, 159] [] [] (st' := ⟨[(9, BB t10), (20, BB t19), (159, BB v17)], [], []⟩) (orc := [tB v17]) (ob := [l01_wrong k ([34, 92, 120, 99, 51, 92, 120, 97, 57, 34] : List UInt8) (0 : Int) = some v17]) (by kernel_rfl) ⟨e26, trivial⟩ ?_
                                                exact hJ22 v17 h
                                              · replace h := ite_f e25 h
                                                refine WL_all hE [9, 20, 159] [] [] (st' := ⟨[(9, BB t10), (20, BB t19), (159, BB false)], [], []⟩) (orc := []) (ob := []) (by kernel_rfl) trivial ?_
                                                exact hJ22 false h
                                            refine WL_split (fun g => ⟨[(9, BB t10), (20, BB t19), (154, BB g)], [], []⟩) (b := t20) (fun e27 => ?_) (fun e27 => ?_)
                                            · replace h := ite_t e27 h
                                              obtain ⟨v18, e28, h⟩ := bind_some h
                                              refine WL_all hE [9, 20, 156] [] [] (st' := ⟨[(9, BB t10), (20, BB t19), (156, BB v18)], [], []⟩) (orc := [tB v18]) (ob := [l01_wrong k ([97] : List UInt8) (0 : Int) = some v18]) (by kernel_rfl) ⟨e28, trivial⟩ ?_
                                              exact hJ21 v18 h
                                            · replace h := ite_f e27 h
                                              refine WL_all hE [9, 20, 156] [] [] (st' := ⟨[(9, BB t10), (20, BB t19), (156, BB false)], [], []⟩) (orc := []) (ob := []) (by kernel_rfl) trivial ?_
                                              exact hJ21 false h
                                          refine WL_split (fun g => ⟨[(9, BB t10), (20, BB t19), (151, BB g)], [], []⟩) (b := v10) (fun e29 => ?_) (fun e29 => ?_)
                                          · replace h := ite_t e29 h
                                            obtain ⟨v19, e30, h⟩ := bind_some h
                                            refine WL_all hE [9, 20, 153] [] [] (st' := ⟨[(9, BB t10), (20, BB t19), (153, BB v19)], [], []⟩) (orc := [tB v19]) (ob := [l01_wrong k ([34, 97] : List UInt8) (2 : Int) = some v19]) (by kernel_rfl) ⟨e30, trivial⟩ ?_
                                            exact hJ20 v19 h
                                          · replace h := ite_f e29 h
                                            refine WL_all hE [9, 20, 153] [] [] (st' := ⟨[(9, BB t10), (20, BB t19), (153, BB false)], [], []⟩) (orc := []) (ob := []) (by kernel_rfl) trivial ?_
                                            exact hJ20 false h
                                        refine WL_split (fun g => ⟨[(9, BB t10), (145, BB g)], [], []⟩) (b := t18) (fun e31 => ?_) (fun e31 => ?_)
                                        · replace h := ite_t e31 h
                                          obtain ⟨v20, e32, h⟩ := bind_some h
                                          refine WL_all hE [9, 149] [] [] (st' := ⟨[(9, BB t10), (149, BB (v20 == ([239, 191, 189] : List UInt8)))], [], []⟩) (orc := [tS v20]) (ob := [runes_Text k ([(-1 : Int)] : List (Int)) = some v20]) (by kernel_rfl) ⟨e32, trivial⟩ ?_
                                          exact hJ19 (v20 == ([239, 191, 189] : List UInt8)) h
                                        · replace h := ite_f e31 h
                                          refine WL_all hE [9, 149] [] [] (st' := ⟨[(9, BB t10), (149, BB false)], [], []⟩) (orc := []) (ob := []) (by kernel_rfl) trivial ?_
                                          exact hJ19 false h
                                      refine WL_split (fun g => ⟨[(9, BB t10), (140, BB g)], [], []⟩) (b := t17) (fun e33 => ?_) (fun e33 => ?_)
                                      · replace h := ite_t e33 h
                                        obtain ⟨v21, e34, h⟩ := bind_some h
                                        refine WL_all hE [9, 144] [] [] (st' := ⟨[(9, BB t10), (144, BB (v21 == ([239, 191, 189, 98] : List UInt8)))], [], []⟩) (orc := [tS v21]) (ob := [runes_Text k ([(55296 : Int), (98 : Int)] : List (Int)) = some v21]) (by kernel_rfl) ⟨e34, trivial⟩ ?_
                                        exact hJ18 (v21 == ([239, 191, 189, 98] : List UInt8)) h
                                      · replace h := ite_f e33 h
                                        refine WL_all hE [9, 144] [] [] (st' := ⟨[(9, BB t10), (144, BB false)], [], []⟩) (orc := []) (ob := []) (by kernel_rfl) trivial ?_
                                        exact hJ18 false h
                                    refine WL_split (fun g => ⟨[(9, BB t10), (18, SS v9.1), (136, BB g)], [], []⟩) (b := t16) (fun e35 => ?_) (fun e35 => ?_)
                                    · rw [and_t e35] at h
                                      refine WL_all hE [9, 139] [] [] (st' := ⟨[(9, BB t10), (139, BB (v9.1 == ([34, 97, 92, 34, 98, 92, 117, 97, 59, 34] : List UInt8)))], [], []⟩) (orc := []) (ob := []) (by kernel_rfl) trivial ?_
                                      exact hJ17 (v9.1 == ([34, 97, 92, 34, 98, 92, 117, 97, 59, 34] : List UInt8)) h
                                    · rw [and_f e35] at h
                                      refine WL_all hE [9, 139] [] [] (st' := ⟨[(9, BB t10), (139, BB false)], [], []⟩) (orc := []) (ob := []) (by kernel_rfl) trivial ?_
                                      exact hJ17 false h
                                  refine WL_split (fun g => ⟨[(9, BB t10), (18, SS v9.1), (19, I64 v9.2), (132, BB g)], [], []⟩) (b := t15) (fun e36 => ?_) (fun e36 => ?_)
                                  · rw [and_t e36] at h
                                    refine WL_all hE [9, 18, 135] [] [] (st' := ⟨[(9, BB t10), (18, SS v9.1), (135, BB (v9.2 == (0 : Int)))], [], []⟩) (orc := []) (ob := []) (by kernel_rfl) trivial ?_
                                    exact hJ16 (v9.2 == (0 : Int)) h
                                  · rw [and_f e36] at h
                                    refine WL_all hE [9, 18, 135] [] [] (st' := ⟨[(9, BB t10), (18, SS v9.1), (135, BB false)], [], []⟩) (orc := []) (ob := []) (by kernel_rfl) trivial ?_
                                    exact hJ16 false h
                                refine WL_split (fun g => ⟨[(9, BB t10), (16, SS v8.1), (18, SS v9.1), (19, I64 v9.2), (128, BB g)], [], []⟩) (b := t14) (fun e37 => ?_) (fun e37 => ?_)
                                · rw [and_t e37] at h
                                  refine WL_all hE [9, 18, 19, 131] [] [] (st' := ⟨[(9, BB t10), (18, SS v9.1), (19, I64 v9.2), (131, BB (v8.1 == ([34, 97, 92, 117, 101, 57, 59, 92, 120, 102, 102, 98, 34] : List UInt8)))], [], []⟩) (orc := []) (ob := []) (by kernel_rfl) trivial ?_
                                  exact hJ15 (v8.1 == ([34, 97, 92, 117, 101, 57, 59, 92, 120, 102, 102, 98, 34] : List UInt8)) h
                                · rw [and_f e37] at h
                                  refine WL_all hE [9, 18, 19, 131] [] [] (st' := ⟨[(9, BB t10), (18, SS v9.1), (19, I64 v9.2), (131, BB false)], [], []⟩) (orc := []) (ob := []) (by kernel_rfl) trivial ?_
                                  exact hJ15 false h
                              refine WL_split (fun g => ⟨[(9, BB t10), (16, SS v8.1), (17, I64 v8.2), (18, SS v9.1), (19, I64 v9.2), (124, BB g)], [], []⟩) (b := t13) (fun e38 => ?_) (fun e38 => ?_)
                              · rw [and_t e38] at h
                                refine WL_all hE [9, 16, 18, 19, 127] [] [] (st' := ⟨[(9, BB t10), (16, SS v8.1), (18, SS v9.1), (19, I64 v9.2), (127, BB (v8.2 == (0 : Int)))], [], []⟩) (orc := []) (ob := []) (by kernel_rfl) trivial ?_
                                exact hJ14 (v8.2 == (0 : Int)) h
                              · rw [and_f e38] at h
                                refine WL_all hE [9, 16, 18, 19, 127] [] [] (st' := ⟨[(9, BB t10), (16, SS v8.1), (18, SS v9.1), (19, I64 v9.2), (127, BB false)], [], []⟩) (orc := []) (ob := []) (by kernel_rfl) trivial ?_
                                exact hJ14 false h
                            refine WL_split (fun g => ⟨[(9, BB t10), (15, I64 v7.2), (16, SS v8.1), (17, I64 v8.2), (18, SS v9.1), (19, I64 v9.2), (120, BB g)], [], []⟩) (b := t12) (fun e39 => ?_) (fun e39 => ?_)
                            · rw [and_t e39] at h
                              refine WL_all hE [9, 16, 17, 18, 19, 123] [] [] (st' := ⟨[(9, BB t10), (16, SS v8.1), (17, I64 v8.2), (18, SS v9.1), (19, I64 v9.2), (123, BB (v7.2 == (10 : Int)))], [], []⟩) (orc := []) (ob := []) (by kernel_rfl) trivial ?_
                              exact hJ13 (v7.2 == (10 : Int)) h
                            · rw [and_f e39] at h
                              refine WL_all hE [9, 16, 17, 18, 19, 123] [] [] (st' := ⟨[(9, BB t10), (16, SS v8.1), (17, I64 v8.2), (18, SS v9.1), (19, I64 v9.2), (123, BB false)], [], []⟩) (orc := []) (ob := []) (by kernel_rfl) trivial ?_
                              exact hJ13 false h
                          refine WL_split (fun g => ⟨[(9, BB t10), (13, I64 v6.2), (15, I64 v7.2), (16, SS v8.1), (17, I64 v8.2), (18, SS v9.1), (19, I64 v9.2), (116, BB g)], [], []⟩) (b := t11) (fun e40 => ?_) (fun e40 => ?_)
                          · rw [and_t e40] at h
                            refine WL_all hE [9, 15, 16, 17, 18, 19, 119] [] [] (st' := ⟨[(9, BB t10), (15, I64 v7.2), (16, SS v8.1), (17, I64 v8.2), (18, SS v9.1), (19, I64 v9.2), (119, BB (v6.2 == (10 : Int)))], [], []⟩) (orc := []) (ob := []) (by kernel_rfl) trivial ?_
                            exact hJ12 (v6.2 == (10 : Int)) h
                          · rw [and_f e40] at h
                            refine WL_all hE [9, 15, 16, 17, 18, 19, 119] [] [] (st' := ⟨[(9, BB t10), (15, I64 v7.2), (16, SS v8.1), (17, I64 v8.2), (18, SS v9.1), (19, I64 v9.2), (119, BB false)], [], []⟩) (orc := []) (ob := []) (by kernel_rfl) trivial ?_
                            exact hJ12 false h
                        refine WL_split (fun g => ⟨[(9, BB t10), (10, SS v5.1), (13, I64 v6.2), (15, I64 v7.2), (16, SS v8.1), (17, I64 v8.2), (18, SS v9.1), (19, I64 v9.2), (112, BB g)], [], []⟩) (b := v5.2 == (0 : Int)) (fun e41 => ?_) (fun e41 => ?_)
                        · rw [and_t e41] at h
                          refine WL_all hE [9, 13, 15, 16, 17, 18, 19, 115] [] [] (st' := ⟨[(9, BB t10), (13, I64 v6.2), (15, I64 v7.2), (16, SS v8.1), (17, I64 v8.2), (18, SS v9.1), (19, I64 v9.2), (115, BB (v5.1 == ([195, 169, 255] : List UInt8)))], [], []⟩) (orc := []) (ob := []) (by kernel_rfl) trivial ?_
                          exact hJ11 (v5.1 == ([195, 169, 255] : List UInt8)) h
                        · rw [and_f e41] at h
                          refine WL_all hE [9, 13, 15, 16, 17, 18, 19, 115] [] [] (st' := ⟨[(9, BB t10), (13, I64 v6.2), (15, I64 v7.2), (16, SS v8.1), (17, I64 v8.2), (18, SS v9.1), (19, I64 v9.2), (115, BB false)], [], []⟩) (orc := []) (ob := []) (by kernel_rfl) trivial ?_
                          exact hJ11 false h
                      refine WL_split (fun g => ⟨[(7, I64 v4.1), (86, BB g)], [], []⟩) (b := t9) (fun e42 => ?_) (fun e42 => ?_)
                      · rw [and_t e42] at h
                        refine WL_all hE [89] [] [] (st' := ⟨[(89, BB (v4.1 == (-1 : Int)))], [], []⟩) (orc := []) (ob := []) (by kernel_rfl) trivial ?_
                        exact hJ10 (v4.1 == (-1 : Int)) h
                      · rw [and_f e42] at h
                        refine WL_all hE [89] [] [] (st' := ⟨[(89, BB false)], [], []⟩) (orc := []) (ob := []) (by kernel_rfl) trivial ?_
                        exact hJ10 false h
                    refine WL_split (fun g => ⟨[(7, I64 v4.1), (8, I64 v4.2), (82, BB g)], [], []⟩) (b := t8) (fun e43 => ?_) (fun e43 => ?_)
                    · rw [and_t e43] at h
                      refine WL_all hE [7, 85] [] [] (st' := ⟨[(7, I64 v4.1), (85, BB (v4.2 == (0 : Int)))], [], []⟩) (orc := []) (ob := []) (by kernel_rfl) trivial ?_
                      exact hJ9 (v4.2 == (0 : Int)) h
                    · rw [and_f e43] at h
                      refine WL_all hE [7, 85] [] [] (st' := ⟨[(7, I64 v4.1), (85, BB false)], [], []⟩) (orc := []) (ob := []) (by kernel_rfl) trivial ?_
                      exact hJ9 false h
                  refine WL_split (fun g => ⟨[(5, I64 v3.1), (7, I64 v4.1), (8, I64 v4.2), (78, BB g)], [], []⟩) (b := t7) (fun e44 => ?_) (fun e44 => ?_)
                  · rw [and_t e44] at h
                    refine WL_all hE [7, 8, 81] [] [] (st' := ⟨[(7, I64 v4.1), (8, I64 v4.2), (81, BB (v3.1 == (3 : Int)))], [], []⟩) (orc := []) (ob := []) (by kernel_rfl) trivial ?_
                    exact hJ8 (v3.1 == (3 : Int)) h
                  · rw [and_f e44] at h
                    refine WL_all hE [7, 8, 81] [] [] (st' := ⟨[(7, I64 v4.1), (8, I64 v4.2), (81, BB false)], [], []⟩) (orc := []) (ob := []) (by kernel_rfl) trivial ?_
                    exact hJ8 false h
                refine WL_split (fun g => ⟨[(5, I64 v3.1), (6, I64 v3.2), (7, I64 v4.1), (8, I64 v4.2), (74, BB g)], [], []⟩) (b := t6) (fun e45 => ?_) (fun e45 => ?_)
                · rw [and_t e45] at h
                  refine WL_all hE [5, 7, 8, 77] [] [] (st' := ⟨[(5, I64 v3.1), (7, I64 v4.1), (8, I64 v4.2), (77, BB (v3.2 == (0 : Int)))], [], []⟩) (orc := []) (ob := []) (by kernel_rfl) trivial ?_
                  exact hJ7 (v3.2 == (0 : Int)) h
                · rw [and_f e45] at h
                  refine WL_all hE [5, 7, 8, 77] [] [] (st' := ⟨[(5, I64 v3.1), (7, I64 v4.1), (8, I64 v4.2), (77, BB false)], [], []⟩) (orc := []) (ob := []) (by kernel_rfl) trivial ?_
                  exact hJ7 false h
              refine WL_split (fun g => ⟨[(3, I64 v2.1), (5, I64 v3.1), (6, I64 v3.2), (7, I64 v4.1), (8, I64 v4.2), (70, BB g)], [], []⟩) (b := t5) (fun e46 => ?_) (fun e46 => ?_)
              · rw [and_t e46] at h
                refine WL_all hE [5, 6, 7, 8, 73] [] [] (st' := ⟨[(5, I64 v3.1), (6, I64 v3.2), (7, I64 v4.1), (8, I64 v4.2), (73, BB (v2.1 == (4 : Int)))], [], []⟩) (orc := []) (ob := []) (by kernel_rfl) trivial ?_
                exact hJ6 (v2.1 == (4 : Int)) h
              · rw [and_f e46] at h
                refine WL_all hE [5, 6, 7, 8, 73] [] [] (st' := ⟨[(5, I64 v3.1), (6, I64 v3.2), (7, I64 v4.1), (8, I64 v4.2), (73, BB false)], [], []⟩) (orc := []) (ob := []) (by kernel_rfl) trivial ?_
                exact hJ6 false h
            refine WL_split (fun g => ⟨[(3, I64 v2.1), (4, I64 v2.2), (5, I64 v3.1), (6, I64 v3.2), (7, I64 v4.1), (8, I64 v4.2), (66, BB g)], [], []⟩) (b := t4) (fun e47 => ?_) (fun e47 => ?_)
            · rw [and_t e47] at h
              refine WL_all hE [3, 5, 6, 7, 8, 69] [] [] (st' := ⟨[(3, I64 v2.1), (5, I64 v3.1), (6, I64 v3.2), (7, I64 v4.1), (8, I64 v4.2), (69, BB (v2.2 == (0 : Int)))], [], []⟩) (orc := []) (ob := []) (by kernel_rfl) trivial ?_
              exact hJ5 (v2.2 == (0 : Int)) h
            · rw [and_f e47] at h
              refine WL_all hE [3, 5, 6, 7, 8, 69] [] [] (st' := ⟨[(3, I64 v2.1), (5, I64 v3.1), (6, I64 v3.2), (7, I64 v4.1), (8, I64 v4.2), (69, BB false)], [], []⟩) (orc := []) (ob := []) (by kernel_rfl) trivial ?_
              exact hJ5 false h
          refine WL_split (fun g => ⟨[(1, .val (.sl (.pair (.int .i32) (.pair (.int .i64) (.pair (.int .i64) (.pair .bool .unit))))) v1.1), (3, I64 v2.1), (4, I64 v2.2), (5, I64 v3.1), (6, I64 v3.2), (7, I64 v4.1), (8, I64 v4.2), (59, BB g)], [], []⟩) (b := t3) (fun e48 => ?_) (fun e48 => ?_)
          · replace h := ite_t e48 h
            obtain ⟨x1, e49, h⟩ := bind_some h
            refine WL_all hE [3, 4, 5, 6, 7, 8, 65] [] [] (st' := ⟨[(3, I64 v2.1), (4, I64 v2.2), (5, I64 v3.1), (6, I64 v3.2), (7, I64 v4.1), (8, I64 v4.2), (65, BB ((eqInt x1.1 (98 : Int)) && ((eqInt x1.2.1 (4 : Int)) && ((eqInt x1.2.2.1 (1 : Int)) && ((eqBool x1.2.2.2.1 false) && (true))))))], [], []⟩) (orc := [⟨(.pair (.int .i32) (.pair (.int .i64) (.pair (.int .i64) (.pair .bool .unit)))), x1⟩]) (ob := [at? v1.1 (3 : Int) = some x1]) (by kernel_rfl) ⟨e49, trivial⟩ ?_
            exact hJ4 ((eqInt x1.1 (98 : Int)) && ((eqInt x1.2.1 (4 : Int)) && ((eqInt x1.2.2.1 (1 : Int)) && ((eqBool x1.2.2.2.1 false) && (true))))) h
          · replace h := ite_f e48 h
            refine WL_all hE [3, 4, 5, 6, 7, 8, 65] [] [] (st' := ⟨[(3, I64 v2.1), (4, I64 v2.2), (5, I64 v3.1), (6, I64 v3.2), (7, I64 v4.1), (8, I64 v4.2), (65, BB false)], [], []⟩) (orc := []) (ob := []) (by kernel_rfl) trivial ?_
            exact hJ4 false h
        refine WL_split (fun g => ⟨[(1, .val (.sl (.pair (.int .i32) (.pair (.int .i64) (.pair (.int .i64) (.pair .bool .unit))))) v1.1), (3, I64 v2.1), (4, I64 v2.2), (5, I64 v3.1), (6, I64 v3.2), (7, I64 v4.1), (8, I64 v4.2), (52, BB g)], [], []⟩) (b := t2) (fun e50 => ?_) (fun e50 => ?_)
        · replace h := ite_t e50 h
          obtain ⟨x2, e51, h⟩ := bind_some h
          refine WL_all hE [1, 3, 4, 5, 6, 7, 8, 58] [] [] (st' := ⟨[(1, .val (.sl (.pair (.int .i32) (.pair (.int .i64) (.pair (.int .i64) (.pair .bool .unit))))) v1.1), (3, I64 v2.1), (4, I64 v2.2), (5, I64 v3.1), (6, I64 v3.2), (7, I64 v4.1), (8, I64 v4.2), (58, BB ((eqInt x2.1 (65533 : Int)) && ((eqInt x2.2.1 (3 : Int)) && ((eqInt x2.2.2.1 (1 : Int)) && ((eqBool x2.2.2.2.1 true) && (true))))))], [], []⟩) (orc := [⟨(.pair (.int .i32) (.pair (.int .i64) (.pair (.int .i64) (.pair .bool .unit)))), x2⟩]) (ob := [at? v1.1 (2 : Int) = some x2]) (by kernel_rfl) ⟨e51, trivial⟩ ?_
          exact hJ3 ((eqInt x2.1 (65533 : Int)) && ((eqInt x2.2.1 (3 : Int)) && ((eqInt x2.2.2.1 (1 : Int)) && ((eqBool x2.2.2.2.1 true) && (true))))) h
        · replace h := ite_f e50 h
          refine WL_all hE [1, 3, 4, 5, 6, 7, 8, 58] [] [] (st' := ⟨[(1, .val (.sl (.pair (.int .i32) (.pair (.int .i64) (.pair (.int .i64) (.pair .bool .unit))))) v1.1), (3, I64 v2.1), (4, I64 v2.2), (5, I64 v3.1), (6, I64 v3.2), (7, I64 v4.1), (8, I64 v4.2), (58, BB false)], [], []⟩) (orc := []) (ob := []) (by kernel_rfl) trivial ?_
          exact hJ3 false h
      refine WL_split (fun g => ⟨[(1, .val (.sl (.pair (.int .i32) (.pair (.int .i64) (.pair (.int .i64) (.pair .bool .unit))))) v1.1), (3, I64 v2.1), (4, I64 v2.2), (5, I64 v3.1), (6, I64 v3.2), (7, I64 v4.1), (8, I64 v4.2), (45, BB g)], [], []⟩) (b := t1) (fun e52 => ?_) (fun e52 => ?_)
      · replace h := ite_t e52 h
        obtain ⟨x3, e53, h⟩ := bind_some h
        refine WL_all hE [1, 3, 4, 5, 6, 7, 8, 51] [] [] (st' := ⟨[(1, .val (.sl (.pair (.int .i32) (.pair (.int .i64) (.pair (.int .i64) (.pair .bool .unit))))) v1.1), (3, I64 v2.1), (4, I64 v2.2), (5, I64 v3.1), (6, I64 v3.2), (7, I64 v4.1), (8, I64 v4.2), (51, BB ((eqInt x3.1 (233 : Int)) && ((eqInt x3.2.1 (1 : Int)) && ((eqInt x3.2.2.1 (2 : Int)) && ((eqBool x3.2.2.2.1 false) && (true))))))], [], []⟩) (orc := [⟨(.pair (.int .i32) (.pair (.int .i64) (.pair (.int .i64) (.pair .bool .unit)))), x3⟩]) (ob := [at? v1.1 (1 : Int) = some x3]) (by kernel_rfl) ⟨e53, trivial⟩ ?_
        exact hJ2 ((eqInt x3.1 (233 : Int)) && ((eqInt x3.2.1 (1 : Int)) && ((eqInt x3.2.2.1 (2 : Int)) && ((eqBool x3.2.2.2.1 false) && (true))))) h
      · replace h := ite_f e52 h
        refine WL_all hE [1, 3, 4, 5, 6, 7, 8, 51] [] [] (st' := ⟨[(1, .val (.sl (.pair (.int .i32) (.pair (.int .i64) (.pair (.int .i64) (.pair .bool .unit))))) v1.1), (3, I64 v2.1), (4, I64 v2.2), (5, I64 v3.1), (6, I64 v3.2), (7, I64 v4.1), (8, I64 v4.2), (51, BB false)], [], []⟩) (orc := []) (ob := []) (by kernel_rfl) trivial ?_
        exact hJ2 false h
    refine WL_split (fun g => ⟨[(1, .val (.sl (.pair (.int .i32) (.pair (.int .i64) (.pair (.int .i64) (.pair .bool .unit))))) v1.1), (3, I64 v2.1), (4, I64 v2.2), (5, I64 v3.1), (6, I64 v3.2), (7, I64 v4.1), (8, I64 v4.2), (40, BB g)], [], []⟩) (b := v1.2 == (0 : Int)) (fun e54 => ?_) (fun e54 => ?_)
    · rw [and_t e54] at h
      refine WL_all hE [1, 3, 4, 5, 6, 7, 8, 44] [] [] (st' := ⟨[(1, .val (.sl (.pair (.int .i32) (.pair (.int .i64) (.pair (.int .i64) (.pair .bool .unit))))) v1.1), (3, I64 v2.1), (4, I64 v2.2), (5, I64 v3.1), (6, I64 v3.2), (7, I64 v4.1), (8, I64 v4.2), (44, BB ((List.length v1.1 : Int) == (4 : Int)))], [], []⟩) (orc := []) (ob := []) (by kernel_rfl) trivial ?_
      exact hJ1 ((List.length v1.1 : Int) == (4 : Int)) h
    · rw [and_f e54] at h
      refine WL_all hE [1, 3, 4, 5, 6, 7, 8, 44] [] [] (st' := ⟨[(1, .val (.sl (.pair (.int .i32) (.pair (.int .i64) (.pair (.int .i64) (.pair .bool .unit))))) v1.1), (3, I64 v2.1), (4, I64 v2.2), (5, I64 v3.1), (6, I64 v3.2), (7, I64 v4.1), (8, I64 v4.2), (44, BB false)], [], []⟩) (orc := []) (ob := []) (by kernel_rfl) trivial ?_
      exact hJ1 false h

end Go.Ev
