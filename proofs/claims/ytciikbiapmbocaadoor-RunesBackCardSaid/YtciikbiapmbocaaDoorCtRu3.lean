/- Contracts, by program. -/
import Derived.Test.YtciikbiapmbocaaDoorProg
import Derived.Test.YtciikbiapmbocaaDoorEvW
import Derived.Test.YtciikbiapmbocaaDoorShRu3
import Derived.Test.YtciikbiapmbocaaDoorLibV
import Derived.KernelRfl
namespace Go.Ev
open Go Go.Proofs
set_option linter.unusedVariables false
set_option maxRecDepth 100000

def C_runes_long (k : Nat) : FnC := ⟨true, 1, [], fun | [⟨.str, s1⟩], [⟨(.int .i64), r⟩] => runes_long k s1 = some r | _, _ => False⟩
noncomputable def E_runes_long (k : Nat) : Env := ⟨Tryd.prog, Gt, 6, []⟩
theorem c_runes_long (k : Nat) : Contract Tryd.prog Gt 35 (C_runes_long k) := by
  refine contract_of Gt_stable (fn := Tryd.f35) Tryd.func35 (by kernel_rfl) rfl ?_ ?_
  · intro xs rs h
    unfold C_runes_long at h
    simp only at h
    split at h
    · exact ⟨by show 1 ≤ _; rw [Tryd.ntmps35]; decide, rfl, fun _ u hu => by simp at hu; (rcases hu with rfl) <;> rfl⟩
    · exact h.elim
  · intro w0 M xs rs hG h
    unfold C_runes_long at h
    simp only at h
    split at h
    case h_2 => exact h.elim
    rename_i s1 r
    change List UInt8 at s1
    change Int at r
    have hE : EnvOK (E_runes_long k) ⟨Tryd.prog, Tryd.f35.ntmps, w0, M, fun _ => False, fun _ => undef⟩ := (EnvOK.nil rfl Tryd.ntmps35 hG)
    unfold runes_long at h
    refine W_seq ?_
    refine W_region ?_
    refine WL_all hE [0] [] [] (st' := ⟨[(0, SS s1)], [], []⟩) (orc := []) (ob := []) (by kernel_rfl) trivial ?_
    refine N_then ?_
    refine W_seq ?_
    refine W_seq ?_
    refine W_region ?_
    refine WL_all hE [5] [] [] (st' := ⟨[(5, BB (decide ((65536 : Int) < (List.length s1 : Int))))], [], []⟩) (orc := []) (ob := []) (by kernel_rfl) trivial ?_
    refine N_then ?_
    refine W_cond (b := decide ((65536 : Int) < (List.length s1 : Int))) (by kernel_rfl) (fun e1 => ?_) (fun e1 => ?_)
    · replace h := ite_t e1 h
      refine W_seq ?_
      refine W_region ?_
      refine WL_all hE [2] [] [] (st' := ⟨[(2, I64 (3 : Int))], [], []⟩) (orc := []) (ob := []) (by kernel_rfl) trivial ?_
      refine N_then ?_
      refine W_ret ?_
      refine N_then_ret ?_
      cases h
      exact N_end (.inl rfl) (by kernel_rfl)
    · replace h := ite_f e1 h
      refine W_skip ?_
      refine N_then ?_
      refine W_seq ?_
      refine W_region ?_
      refine WL_all hE [2] [] [] (st' := ⟨[(2, I64 (0 : Int))], [], []⟩) (orc := []) (ob := []) (by kernel_rfl) trivial ?_
      refine N_then ?_
      refine W_ret ?_
      cases h
      exact N_end (.inl rfl) (by kernel_rfl)

def C_unicode_utf8_RuneLen (k : Nat) : FnC := ⟨true, 1, [], fun | [⟨(.int .i32), r1⟩], [⟨(.int .i64), r⟩] => unicode_utf8_RuneLen k r1 = some r | _, _ => False⟩
noncomputable def E_unicode_utf8_RuneLen (k : Nat) : Env := ⟨Tryd.prog, Gt, 25, []⟩
theorem c_unicode_utf8_RuneLen (k : Nat) : Contract Tryd.prog Gt 52 (C_unicode_utf8_RuneLen k) := by
  refine contract_of Gt_stable (fn := Tryd.f52) Tryd.func52 (by kernel_rfl) rfl ?_ ?_
  · intro xs rs h
    unfold C_unicode_utf8_RuneLen at h
    simp only at h
    split at h
    · exact ⟨by show 1 ≤ _; rw [Tryd.ntmps52]; decide, rfl, fun _ u hu => by simp at hu; (rcases hu with rfl) <;> rfl⟩
    · exact h.elim
  · intro w0 M xs rs hG h
    unfold C_unicode_utf8_RuneLen at h
    simp only at h
    split at h
    case h_2 => exact h.elim
    rename_i r1 r
    change Int at r1
    change Int at r
    have hE : EnvOK (E_unicode_utf8_RuneLen k) ⟨Tryd.prog, Tryd.f52.ntmps, w0, M, fun _ => False, fun _ => undef⟩ := (EnvOK.nil rfl Tryd.ntmps52 hG)
    unfold unicode_utf8_RuneLen at h
    refine W_seq ?_
    refine W_region ?_
    refine WL_all hE [0] [] [] (st' := ⟨[(0, I32 r1)], [], []⟩) (orc := []) (ob := []) (by kernel_rfl) trivial ?_
    refine N_then ?_
    refine W_seq ?_
    refine W_block ?_
    refine W_seq ?_
    refine W_region ?_
    refine WL_all hE [0, 3] [] [] (st' := ⟨[(0, I32 r1), (3, BB (decide (r1 < (0 : Int))))], [], []⟩) (orc := []) (ob := []) (by kernel_rfl) trivial ?_
    refine N_then ?_
    refine W_cond (b := decide (r1 < (0 : Int))) (by kernel_rfl) (fun e1 => ?_) (fun e1 => ?_)
    · replace h := ite_t e1 h
      refine W_seq ?_
      refine W_region ?_
      refine WL_all hE [2] [] [] (st' := ⟨[(2, I64 (-1 : Int))], [], []⟩) (orc := []) (ob := []) (by kernel_rfl) trivial ?_
      refine N_then ?_
      refine W_ret ?_
      refine N_block_ret ?_
      refine N_then_ret ?_
      cases h
      exact N_end (.inl rfl) (by kernel_rfl)
    · replace h := ite_f e1 h
      refine W_seq ?_
      refine W_region ?_
      refine WL_all hE [0, 6] [] [] (st' := ⟨[(0, I32 r1), (6, BB (decide (r1 ≤ (127 : Int))))], [], []⟩) (orc := []) (ob := []) (by kernel_rfl) trivial ?_
      refine N_then ?_
      refine W_cond (b := decide (r1 ≤ (127 : Int))) (by kernel_rfl) (fun e2 => ?_) (fun e2 => ?_)
      · replace h := ite_t e2 h
        refine W_seq ?_
        refine W_region ?_
        refine WL_all hE [2] [] [] (st' := ⟨[(2, I64 (1 : Int))], [], []⟩) (orc := []) (ob := []) (by kernel_rfl) trivial ?_
        refine N_then ?_
        refine W_ret ?_
        refine N_block_ret ?_
        refine N_then_ret ?_
        cases h
        exact N_end (.inl rfl) (by kernel_rfl)
      · replace h := ite_f e2 h
        refine W_seq ?_
        refine W_region ?_
        refine WL_all hE [0, 9] [] [] (st' := ⟨[(0, I32 r1), (9, BB (decide (r1 ≤ (2047 : Int))))], [], []⟩) (orc := []) (ob := []) (by kernel_rfl) trivial ?_
        refine N_then ?_
        refine W_cond (b := decide (r1 ≤ (2047 : Int))) (by kernel_rfl) (fun e3 => ?_) (fun e3 => ?_)
        · replace h := ite_t e3 h
          refine W_seq ?_
          refine W_region ?_
          refine WL_all hE [2] [] [] (st' := ⟨[(2, I64 (2 : Int))], [], []⟩) (orc := []) (ob := []) (by kernel_rfl) trivial ?_
          refine N_then ?_
          refine W_ret ?_
          refine N_block_ret ?_
          refine N_then_ret ?_
          cases h
          exact N_end (.inl rfl) (by kernel_rfl)
        · replace h := ite_f e3 h
          refine W_seq ?_
          refine W_region ?_
          refine WL_tk hE 3 [0, 15] [] [] (st' := ⟨[(0, I32 r1), (15, BB (decide ((55296 : Int) ≤ r1)))], [], []⟩) (orc := []) (ob := []) (by kernel_rfl) trivial ?_
          refine WL_join (α := Bool) (fun z => unicode_utf8_RuneLen_j1 r1 z = some r) (fun t1 => ⟨[(0, I32 r1), (18, BB t1)], [], []⟩) 3 ?_ (fun hJ1 => ?_)
          · rintro t1 h
            unfold unicode_utf8_RuneLen_j1 at h
            refine WL_all hE [0, 12] [] [] (st' := ⟨[(0, I32 r1), (12, BB t1)], [], []⟩) (orc := []) (ob := []) (by kernel_rfl) trivial ?_
            refine N_then ?_
            refine W_cond (b := t1) (by kernel_rfl) (fun e4 => ?_) (fun e4 => ?_)
            · replace h := ite_t e4 h
              refine W_seq ?_
              refine W_region ?_
              refine WL_all hE [2] [] [] (st' := ⟨[(2, I64 (-1 : Int))], [], []⟩) (orc := []) (ob := []) (by kernel_rfl) trivial ?_
              refine N_then ?_
              refine W_ret ?_
              refine N_block_ret ?_
              refine N_then_ret ?_
              cases h
              exact N_end (.inl rfl) (by kernel_rfl)
            · replace h := ite_f e4 h
              refine W_seq ?_
              refine W_region ?_
              refine WL_all hE [0, 19] [] [] (st' := ⟨[(0, I32 r1), (19, BB (decide (r1 ≤ (65535 : Int))))], [], []⟩) (orc := []) (ob := []) (by kernel_rfl) trivial ?_
              refine N_then ?_
              refine W_cond (b := decide (r1 ≤ (65535 : Int))) (by kernel_rfl) (fun e5 => ?_) (fun e5 => ?_)
              · replace h := ite_t e5 h
                refine W_seq ?_
                refine W_region ?_
                refine WL_all hE [2] [] [] (st' := ⟨[(2, I64 (3 : Int))], [], []⟩) (orc := []) (ob := []) (by kernel_rfl) trivial ?_
                refine N_then ?_
                refine W_ret ?_
                refine N_block_ret ?_
                refine N_then_ret ?_
                cases h
                exact N_end (.inl rfl) (by kernel_rfl)
              · replace h := ite_f e5 h
                refine W_seq ?_
                refine W_region ?_
                refine WL_all hE [22] [] [] (st' := ⟨[(22, BB (decide (r1 ≤ (1114111 : Int))))], [], []⟩) (orc := []) (ob := []) (by kernel_rfl) trivial ?_
                refine N_then ?_
                refine W_cond (b := decide (r1 ≤ (1114111 : Int))) (by kernel_rfl) (fun e6 => ?_) (fun e6 => ?_)
                · replace h := ite_t e6 h
                  refine W_seq ?_
                  refine W_region ?_
                  refine WL_all hE [2] [] [] (st' := ⟨[(2, I64 (4 : Int))], [], []⟩) (orc := []) (ob := []) (by kernel_rfl) trivial ?_
                  refine N_then ?_
                  refine W_ret ?_
                  refine N_block_ret ?_
                  refine N_then_ret ?_
                  cases h
                  exact N_end (.inl rfl) (by kernel_rfl)
                · replace h := ite_f e6 h
                  refine W_skip ?_
                  refine N_block ?_
                  refine N_then ?_
                  refine W_seq ?_
                  refine W_region ?_
                  refine WL_all hE [2] [] [] (st' := ⟨[(2, I64 (-1 : Int))], [], []⟩) (orc := []) (ob := []) (by kernel_rfl) trivial ?_
                  refine N_then ?_
                  refine W_ret ?_
                  cases h
                  exact N_end (.inl rfl) (by kernel_rfl)
          refine WL_split (fun g => ⟨[(0, I32 r1), (15, BB g)], [], []⟩) (b := decide ((55296 : Int) ≤ r1)) (fun e7 => ?_) (fun e7 => ?_)
          · rw [and_t e7] at h
            refine WL_all hE [0, 18] [] [] (st' := ⟨[(0, I32 r1), (18, BB (decide (r1 ≤ (57343 : Int))))], [], []⟩) (orc := []) (ob := []) (by kernel_rfl) trivial ?_
            exact hJ1 (decide (r1 ≤ (57343 : Int))) h
          · rw [and_f e7] at h
            refine WL_all hE [0, 18] [] [] (st' := ⟨[(0, I32 r1), (18, BB false)], [], []⟩) (orc := []) (ob := []) (by kernel_rfl) trivial ?_
            exact hJ1 false h

def B_runes_Pieces_c1_i1 (k : Nat) : FnB ((Int × Int × Int × Bool × Unit) × List ((Int × Int × Int × Bool × Unit))) (Bool × List ((Int × Int × Int × Bool × Unit))) where
  n := 8
  S := fun z => ⟨[(0, .val (.pair (.int .i32) (.pair (.int .i64) (.pair (.int .i64) (.pair .bool .unit)))) (z.1)), (1, .ptr 8 0)], [(8, .cells [.row 9] 24)], [(9, ⟨35, (.pair (.int .i32) (.pair (.int .i64) (.pair (.int .i64) (.pair .bool .unit)))), (z.2)⟩)]⟩
  S' := fun z y => ⟨[], [(8, .cells [.row 9] 24)], [(9, ⟨35, (.pair (.int .i32) (.pair (.int .i64) (.pair (.int .i64) (.pair .bool .unit)))), (y.2)⟩)]⟩
  rs := fun z y => [BB (y.1)]
  rel := fun z y => runes_Pieces_c1_i1 k (z.1) (z.2) = some y
noncomputable def E_runes_Pieces_c1_i1 (k : Nat) : Env := ⟨Tryd.prog, Gt, 8, []⟩
theorem b_runes_Pieces_c1_i1 (k : Nat) : BC Tryd.prog Gt 37 (B_runes_Pieces_c1_i1 k) := by
  refine bc_of (fn := Tryd.f37) Tryd.func37 (by kernel_rfl) rfl Tryd.ntmps37 ?_
  rintro cx hP hn hG ⟨p1, l1⟩ y0 h
  have hE : EnvOK (E_runes_Pieces_c1_i1 k) cx := (EnvOK.nil hP hn hG)
  replace h : runes_Pieces_c1_i1 k p1 l1 = some y0 := h
  unfold runes_Pieces_c1_i1 at h
  refine W_seq ?_
  refine W_region ?_
  refine WL_all hE [1, 2] [2, 8] [9] (st' := ⟨[(1, .ptr 8 0), (2, .ptr 2 0)], [(2, .cells [I32 p1.1, I64 p1.2.1, I64 p1.2.2.1, BB p1.2.2.2.1] 35), (8, .cells [.row 9] 24)], [(9, ⟨35, (.pair (.int .i32) (.pair (.int .i64) (.pair (.int .i64) (.pair .bool .unit)))), l1⟩)]⟩) (orc := []) (ob := []) (by kernel_rfl) trivial ?_
  refine N_then ?_
  refine W_seq ?_
  refine W_region ?_
  obtain ⟨_, e1, h⟩ := bind_some h
  replace e1 := chk_some e1
  refine WL_all hE [1] [8] [9] (st' := ⟨[(1, .ptr 8 0)], [(8, .cells [.row 9] 24)], [(9, ⟨35, (.pair (.int .i32) (.pair (.int .i64) (.pair (.int .i64) (.pair .bool .unit)))), l1 ++ ([(p1.1, p1.2.1, p1.2.2.1, p1.2.2.2.1, ())] : List ((Int × Int × Int × Bool × Unit)))⟩)]⟩) (orc := []) (ob := [List.length l1 + List.length ([(p1.1, p1.2.1, p1.2.2.1, p1.2.2.2.1, ())] : List ((Int × Int × Int × Bool × Unit))) ≤ lim]) (by kernel_rfl) ⟨e1, trivial⟩ ?_
  refine N_then ?_
  refine W_seq ?_
  refine W_region ?_
  refine WL_all hE [1, 3] [8] [9] (st' := ⟨[(1, .ptr 8 0), (3, BB true)], [(8, .cells [.row 9] 24)], [(9, ⟨35, (.pair (.int .i32) (.pair (.int .i64) (.pair (.int .i64) (.pair .bool .unit)))), l1 ++ ([(p1.1, p1.2.1, p1.2.2.1, p1.2.2.2.1, ())] : List ((Int × Int × Int × Bool × Unit)))⟩)]⟩) (orc := []) (ob := []) (by kernel_rfl) trivial ?_
  refine N_then ?_
  refine W_ret ?_
  replace h := Option.some.inj h
  subst h
  exact N_endB hE.P [8] [9] (.inl rfl) (by kernel_rfl) (by kernel_rfl)

def B_runes_each_i1 (k : Nat) : FnB (List UInt8 × List ((Int × Int × Int × Bool × Unit))) (List ((Int × Int × Int × Bool × Unit))) where
  n := 37
  S := fun z => ⟨[(0, SS (z.1)), (1, .clos 37 [37])], [(37, .cells [.row 38] 24)], [(38, ⟨35, (.pair (.int .i32) (.pair (.int .i64) (.pair (.int .i64) (.pair .bool .unit)))), (z.2)⟩)]⟩
  S' := fun z y => ⟨[], [(37, .cells [.row 38] 24)], [(38, ⟨35, (.pair (.int .i32) (.pair (.int .i64) (.pair (.int .i64) (.pair .bool .unit)))), (y)⟩)]⟩
  rs := fun z y => []
  rel := fun z y => runes_each_i1 k (z.1) (z.2) = some y
noncomputable def E_runes_each_i1 (k : Nat) : Env := ⟨Tryd.prog, Gt, 37, [(52, C_unicode_utf8_RuneLen k), (25, C_unicode_utf8_DecodeRuneInString k)]⟩
theorem b_runes_each_i1 (k : Nat) : BC Tryd.prog Gt 36 (B_runes_each_i1 k) := by
  refine bc_of (fn := Tryd.f36) Tryd.func36 (by kernel_rfl) rfl Tryd.ntmps36 ?_
  rintro cx hP hn hG ⟨s1, l1⟩ y0 h
  have hE : EnvOK (E_runes_each_i1 k) cx := (EnvOK.cons (c_unicode_utf8_RuneLen k) (EnvOK.cons (d_unicode_utf8_DecodeRuneInString k) (EnvOK.nil hP hn hG)))
  replace h : runes_each_i1 k s1 l1 = some y0 := h
  unfold runes_each_i1 at h
  refine W_seq ?_
  refine W_region ?_
  refine WL_all hE [0, 1, 10] [10, 37] [38] (st' := ⟨[(0, SS s1), (1, .clos 37 [37]), (10, .iter 10)], [(10, .iter s1 0), (37, .cells [.row 38] 24)], [(38, ⟨35, (.pair (.int .i32) (.pair (.int .i64) (.pair (.int .i64) (.pair .bool .unit)))), l1⟩)]⟩) (orc := []) (ob := []) (by kernel_rfl) trivial ?_
  refine N_then ?_
  refine W_block ?_
  refine W_loop (α := (Nat × List ((Int × Int × Int × Bool × Unit)))) (fun n z => runes_each_i1_l1 k s1 n z.1 z.2 = some y0) (fun z => ⟨[(0, SS s1), (1, .clos 37 [37]), (10, .iter 10)], [(10, .iter s1 (z.1)), (37, .cells [.row 38] 24)], [(38, ⟨35, (.pair (.int .i32) (.pair (.int .i64) (.pair (.int .i64) (.pair .bool .unit)))), (z.2)⟩)]⟩) ?_ (k := k) (x := (0, l1)) h
  clear h
  rintro fuel1 ⟨pos1, t2⟩ h
  cases fuel1 with
  | zero => exact absurd (show none = some _ from h) (by simp)
  | succ fuel1 =>
    have h : runes_each_i1_b1 k s1 (runes_each_i1_l1 k s1 fuel1) pos1 t2 = some y0 := h
    unfold runes_each_i1_b1 at h
    refine W_seq ?_
    refine W_region ?_
    rcases Bool.eq_false_or_eq_true (decide (pos1 < List.length s1)) with e1 | e1
    · replace h := ite_t e1 h
      refine WL_tk hE 1 [0, 1, 10, 11] [10, 37] [38] (st' := ⟨[(0, SS s1), (1, .clos 37 [37]), (10, .iter 10), (11, .tup [tB true, tI64 (pos1 : Int), tI32 (runeAt s1 pos1)])], [(10, .iter s1 (pos1 + widthAt s1 pos1)), (37, .cells [.row 38] 24)], [(38, ⟨35, (.pair (.int .i32) (.pair (.int .i64) (.pair (.int .i64) (.pair .bool .unit)))), t2⟩)]⟩) (orc := [tB true]) (ob := [pos1 < List.length s1]) (by kernel_rfl) ⟨of_decide_eq_true e1, trivial⟩ ?_
      refine WL_all hE [0, 1, 10, 11, 12] [10, 37] [38] (st' := ⟨[(0, SS s1), (1, .clos 37 [37]), (10, .iter 10), (11, .tup [tB true, tI64 (pos1 : Int), tI32 (runeAt s1 pos1)]), (12, BB true)], [(10, .iter s1 (pos1 + widthAt s1 pos1)), (37, .cells [.row 38] 24)], [(38, ⟨35, (.pair (.int .i32) (.pair (.int .i64) (.pair (.int .i64) (.pair .bool .unit)))), t2⟩)]⟩) (orc := []) (ob := []) (by kernel_rfl) trivial ?_
      refine N_then ?_
      refine W_seq ?_
      refine W_cond_true (by kernel_rfl) ?_
      refine W_skip ?_
      refine N_then ?_
      refine W_block ?_
      refine W_seq ?_
      refine W_region ?_
      refine WL_all hE [0, 1, 4, 5, 10] [10, 37] [38] (st' := ⟨[(0, SS s1), (1, .clos 37 [37]), (4, I64 (pos1 : Int)), (5, I32 (runeAt s1 pos1)), (10, .iter 10)], [(10, .iter s1 (pos1 + widthAt s1 pos1)), (37, .cells [.row 38] 24)], [(38, ⟨35, (.pair (.int .i32) (.pair (.int .i64) (.pair (.int .i64) (.pair .bool .unit)))), t2⟩)]⟩) (orc := []) (ob := []) (by kernel_rfl) trivial ?_
      refine N_then ?_
      refine W_seq ?_
      refine W_region ?_
      obtain ⟨v1, e2, h⟩ := bind_some h
      refine WL_all hE [0, 1, 4, 5, 6, 10] [6, 10, 37] [38] (st' := ⟨[(0, SS s1), (1, .clos 37 [37]), (4, I64 (pos1 : Int)), (5, I32 (runeAt s1 pos1)), (6, .ptr 6 0), (10, .iter 10)], [(6, .cells [I32 (runeAt s1 pos1), I64 (pos1 : Int), I64 v1, BB false] 35), (10, .iter s1 (pos1 + widthAt s1 pos1)), (37, .cells [.row 38] 24)], [(38, ⟨35, (.pair (.int .i32) (.pair (.int .i64) (.pair (.int .i64) (.pair .bool .unit)))), t2⟩)]⟩) (orc := [tI64 v1]) (ob := [unicode_utf8_RuneLen k (runeAt s1 pos1) = some v1]) (by kernel_rfl) ⟨e2, trivial⟩ ?_
      refine N_then ?_
      refine W_join (α := (Int × Bool)) (fun z => runes_each_i1_j1 k s1 pos1 t2 (runes_each_i1_l1 k s1 fuel1) z.1 z.2 = some y0) (fun z => ⟨[(0, SS s1), (1, .clos 37 [37]), (6, .ptr 6 0), (10, .iter 10)], [(6, .cells [I32 (runeAt s1 pos1), I64 (pos1 : Int), I64 (z.1), BB (z.2)] 35), (10, .iter s1 (pos1 + widthAt s1 pos1)), (37, .cells [.row 38] 24)], [(38, ⟨35, (.pair (.int .i32) (.pair (.int .i64) (.pair (.int .i64) (.pair .bool .unit)))), t2⟩)]⟩) ?_ (fun hJ1 => ?_)
      · rintro ⟨p1, p2⟩ h
        unfold runes_each_i1_j1 at h
        refine W_seq ?_
        refine W_region ?_
        refine WL_tk hE 2 [0, 1, 10, 33, 34] [10, 37] [38] (st' := ⟨[(0, SS s1), (1, .clos 37 [37]), (10, .iter 10), (33, .clos 37 [37]), (34, .val (.pair (.int .i32) (.pair (.int .i64) (.pair (.int .i64) (.pair .bool .unit)))) (runeAt s1 pos1, (pos1 : Int), p1, p2, ()))], [(10, .iter s1 (pos1 + widthAt s1 pos1)), (37, .cells [.row 38] 24)], [(38, ⟨35, (.pair (.int .i32) (.pair (.int .i64) (.pair (.int .i64) (.pair .bool .unit)))), t2⟩)]⟩) (orc := []) (ob := []) (by kernel_rfl) trivial ?_
        obtain ⟨v2, e3, h⟩ := bind_some h
        refine WL_callB hE (b_runes_Pieces_c1_i1 k) ((runeAt s1 pos1, (pos1 : Int), p1, p2, ()), t2) v2 e3 (ρ := [(37, 8), (38, 9)]) (ρ' := [(8, 37), (9, 38)]) (n := 8) (by kernel_rfl) [0, 1, 10, 35] [10, 37] [38] (by kernel_rfl) (by kernel_rfl) (st' := ⟨[(0, SS s1), (1, .clos 37 [37]), (10, .iter 10), (35, BB v2.1)], [(10, .iter s1 (pos1 + widthAt s1 pos1)), (37, .cells [.row 38] 24)], [(38, ⟨35, (.pair (.int .i32) (.pair (.int .i64) (.pair (.int .i64) (.pair .bool .unit)))), v2.2⟩)]⟩) (by kernel_rfl) ?_
        refine WL_all hE [0, 1, 10, 36] [10, 37] [38] (st' := ⟨[(0, SS s1), (1, .clos 37 [37]), (10, .iter 10), (36, BB (!v2.1))], [(10, .iter s1 (pos1 + widthAt s1 pos1)), (37, .cells [.row 38] 24)], [(38, ⟨35, (.pair (.int .i32) (.pair (.int .i64) (.pair (.int .i64) (.pair .bool .unit)))), v2.2⟩)]⟩) (orc := []) (ob := []) (by kernel_rfl) trivial ?_
        refine N_then ?_
        refine W_cond (b := !v2.1) (by kernel_rfl) (fun e4 => ?_) (fun e4 => ?_)
        · replace h := ite_t e4 h
          refine W_ret ?_
          refine N_block_ret ?_
          refine N_then_ret ?_
          refine N_block_ret ?_
          replace h := Option.some.inj h
          subst h
          refine N.norm (st' := ⟨[(1, .clos 37 [37])], [(37, .cells [.row 38] 24)], [(38, ⟨35, (.pair (.int .i32) (.pair (.int .i64) (.pair (.int .i64) (.pair .bool .unit)))), v2.2⟩)]⟩) (ks := [1]) (bs := [37]) (rs := [38]) ?_ (by kernel_rfl)
          exact N_endB hE.P [37] [38] (.inl rfl) (by kernel_rfl) (by kernel_rfl)
        · replace h := ite_f e4 h
          refine W_skip ?_
          refine N_block ?_
          refine N.norm (st' := ⟨[(0, SS s1), (1, .clos 37 [37]), (10, .iter 10)], [(10, .iter s1 (pos1 + widthAt s1 pos1)), (37, .cells [.row 38] 24)], [(38, ⟨35, (.pair (.int .i32) (.pair (.int .i64) (.pair (.int .i64) (.pair .bool .unit)))), v2.2⟩)]⟩) (ks := [0, 1, 10]) (bs := [10, 37]) (rs := [38]) ?_ (by kernel_rfl)
          exact N_round ((pos1 + widthAt s1 pos1), v2.2) (Nat.lt_succ_self _) h
      refine W_seq ?_
      refine W_region ?_
      refine WL_all hE [0, 1, 4, 6, 10, 21] [6, 10, 37] [38] (st' := ⟨[(0, SS s1), (1, .clos 37 [37]), (4, I64 (pos1 : Int)), (6, .ptr 6 0), (10, .iter 10), (21, BB ((runeAt s1 pos1) == (65533 : Int)))], [(6, .cells [I32 (runeAt s1 pos1), I64 (pos1 : Int), I64 v1, BB false] 35), (10, .iter s1 (pos1 + widthAt s1 pos1)), (37, .cells [.row 38] 24)], [(38, ⟨35, (.pair (.int .i32) (.pair (.int .i64) (.pair (.int .i64) (.pair .bool .unit)))), t2⟩)]⟩) (orc := []) (ob := []) (by kernel_rfl) trivial ?_
      refine N_then ?_
      refine W_cond (b := (runeAt s1 pos1) == (65533 : Int)) (by kernel_rfl) (fun e5 => ?_) (fun e5 => ?_)
      · replace h := ite_t e5 h
        refine W_seq ?_
        refine W_region ?_
        obtain ⟨s2, e6, h⟩ := bind_some h
        obtain ⟨v3, e7, h⟩ := bind_some h
        refine WL_all hE [0, 1, 6, 8, 10] [6, 10, 37] [38] (st' := ⟨[(0, SS s1), (1, .clos 37 [37]), (6, .ptr 6 0), (8, I64 v3.2), (10, .iter 10)], [(6, .cells [I32 (runeAt s1 pos1), I64 (pos1 : Int), I64 v1, BB false] 35), (10, .iter s1 (pos1 + widthAt s1 pos1)), (37, .cells [.row 38] 24)], [(38, ⟨35, (.pair (.int .i32) (.pair (.int .i64) (.pair (.int .i64) (.pair .bool .unit)))), t2⟩)]⟩) (orc := [tS s2, tI32 v3.1, tI64 v3.2]) (ob := [sub? s1 (pos1 : Int) (s1.length : Int) = some s2, utf8_DecodeRuneInString k s2 = some ((v3).1, (v3).2)]) (by kernel_rfl) ⟨e6, e7, trivial⟩ ?_
        refine N_then ?_
        refine W_seq ?_
        refine W_region ?_
        refine WL_all hE [0, 1, 6, 10, 30] [6, 10, 37] [38] (st' := ⟨[(0, SS s1), (1, .clos 37 [37]), (6, .ptr 6 0), (10, .iter 10), (30, BB (v3.2 == (1 : Int)))], [(6, .cells [I32 (runeAt s1 pos1), I64 (pos1 : Int), I64 v1, BB false] 35), (10, .iter s1 (pos1 + widthAt s1 pos1)), (37, .cells [.row 38] 24)], [(38, ⟨35, (.pair (.int .i32) (.pair (.int .i64) (.pair (.int .i64) (.pair .bool .unit)))), t2⟩)]⟩) (orc := []) (ob := []) (by kernel_rfl) trivial ?_
        refine N_then ?_
        refine W_cond (b := v3.2 == (1 : Int)) (by kernel_rfl) (fun e8 => ?_) (fun e8 => ?_)
        · replace h := ite_t e8 h
          refine W_region ?_
          refine WL_all hE [0, 1, 6, 10] [6, 10, 37] [38] (st' := ⟨[(0, SS s1), (1, .clos 37 [37]), (6, .ptr 6 0), (10, .iter 10)], [(6, .cells [I32 (runeAt s1 pos1), I64 (pos1 : Int), I64 (1 : Int), BB true] 35), (10, .iter s1 (pos1 + widthAt s1 pos1)), (37, .cells [.row 38] 24)], [(38, ⟨35, (.pair (.int .i32) (.pair (.int .i64) (.pair (.int .i64) (.pair .bool .unit)))), t2⟩)]⟩) (orc := []) (ob := []) (by kernel_rfl) trivial ?_
          exact hJ1 ((1 : Int), true) h
        · replace h := ite_f e8 h
          refine W_skip ?_
          refine N.norm (st' := ⟨[(0, SS s1), (1, .clos 37 [37]), (6, .ptr 6 0), (10, .iter 10)], [(6, .cells [I32 (runeAt s1 pos1), I64 (pos1 : Int), I64 v1, BB false] 35), (10, .iter s1 (pos1 + widthAt s1 pos1)), (37, .cells [.row 38] 24)], [(38, ⟨35, (.pair (.int .i32) (.pair (.int .i64) (.pair (.int .i64) (.pair .bool .unit)))), t2⟩)]⟩) (ks := [0, 1, 6, 10]) (bs := [6, 10, 37]) (rs := [38]) ?_ (by kernel_rfl)
          exact hJ1 (v1, false) h
      · replace h := ite_f e5 h
        refine W_skip ?_
        refine N.norm (st' := ⟨[(0, SS s1), (1, .clos 37 [37]), (6, .ptr 6 0), (10, .iter 10)], [(6, .cells [I32 (runeAt s1 pos1), I64 (pos1 : Int), I64 v1, BB false] 35), (10, .iter s1 (pos1 + widthAt s1 pos1)), (37, .cells [.row 38] 24)], [(38, ⟨35, (.pair (.int .i32) (.pair (.int .i64) (.pair (.int .i64) (.pair .bool .unit)))), t2⟩)]⟩) (ks := [0, 1, 6, 10]) (bs := [6, 10, 37]) (rs := [38]) ?_ (by kernel_rfl)
        exact hJ1 (v1, false) h
    · replace h := ite_f e1 h
      refine WL_tk hE 1 [0, 1, 10, 11] [10, 37] [38] (st' := ⟨[(0, SS s1), (1, .clos 37 [37]), (10, .iter 10), (11, .tup [tB false])], [(10, .iter s1 pos1), (37, .cells [.row 38] 24)], [(38, ⟨35, (.pair (.int .i32) (.pair (.int .i64) (.pair (.int .i64) (.pair .bool .unit)))), t2⟩)]⟩) (orc := [tB false]) (ob := [List.length s1 ≤ pos1]) (by kernel_rfl) ⟨Nat.le_of_not_lt (of_decide_eq_false e1), trivial⟩ ?_
      refine WL_all hE [0, 1, 10, 11, 12] [10, 37] [38] (st' := ⟨[(0, SS s1), (1, .clos 37 [37]), (10, .iter 10), (11, .tup [tB false]), (12, BB false)], [(10, .iter s1 pos1), (37, .cells [.row 38] 24)], [(38, ⟨35, (.pair (.int .i32) (.pair (.int .i64) (.pair (.int .i64) (.pair .bool .unit)))), t2⟩)]⟩) (orc := []) (ob := []) (by kernel_rfl) trivial ?_
      refine N_then ?_
      refine W_seq ?_
      refine W_cond_false (by kernel_rfl) ?_
      refine W_exit ?_
      refine N_then_exit ?_
      refine N_then_exit ?_
      refine N_block_exit ?_
      replace h := Option.some.inj h
      subst h
      refine N.norm (st' := ⟨[(1, .clos 37 [37])], [(37, .cells [.row 38] 24)], [(38, ⟨35, (.pair (.int .i32) (.pair (.int .i64) (.pair (.int .i64) (.pair .bool .unit)))), t2⟩)]⟩) (ks := [1]) (bs := [37]) (rs := [38]) ?_ (by kernel_rfl)
      exact N_endB hE.P [37] [38] (.inr rfl) (by kernel_rfl) (by kernel_rfl)

def C_runes_Pieces (k : Nat) : FnC := ⟨false, 2, [], fun | [⟨.str, s1⟩], [⟨(.sl (.pair (.int .i32) (.pair (.int .i64) (.pair (.int .i64) (.pair .bool .unit))))), r1⟩, ⟨(.int .i64), r2⟩] => runes_Pieces k s1 = some (r1, r2) | _, _ => False⟩
noncomputable def E_runes_Pieces (k : Nat) : Env := ⟨Tryd.prog, Gt, 15, [(35, C_runes_long k)]⟩
theorem c_runes_Pieces (k : Nat) : Contract Tryd.prog Gt 13 (C_runes_Pieces k) := by
  refine contract_of Gt_stable (fn := Tryd.f13) Tryd.func13 (by kernel_rfl) rfl ?_ ?_
  · intro xs rs h
    unfold C_runes_Pieces at h
    simp only at h
    split at h
    · exact ⟨by show 1 ≤ _; rw [Tryd.ntmps13]; decide, rfl, fun hf => by cases hf⟩
    · exact h.elim
  · intro w0 M xs rs hG h
    unfold C_runes_Pieces at h
    simp only at h
    split at h
    case h_2 => exact h.elim
    rename_i s1 r1 r2
    change List UInt8 at s1
    change List ((Int × Int × Int × Bool × Unit)) at r1
    change Int at r2
    have hE : EnvOK (E_runes_Pieces k) ⟨Tryd.prog, Tryd.f13.ntmps, w0, M, fun _ => False, fun _ => undef⟩ := (EnvOK.cons (c_runes_long k) (EnvOK.nil rfl Tryd.ntmps13 hG))
    unfold runes_Pieces at h
    refine W_seq ?_
    refine W_region ?_
    refine WL_all hE [0] [] [] (st' := ⟨[(0, SS s1)], [], []⟩) (orc := []) (ob := []) (by kernel_rfl) trivial ?_
    refine N_then ?_
    refine W_seq ?_
    refine W_seq ?_
    refine W_region ?_
    obtain ⟨v1, e1, h⟩ := bind_some h
    refine WL_all hE [0, 4] [] [] (st' := ⟨[(0, SS s1), (4, I64 v1)], [], []⟩) (orc := [tI64 v1]) (ob := [runes_long k s1 = some v1]) (by kernel_rfl) ⟨e1, trivial⟩ ?_
    refine N_then ?_
    refine W_seq ?_
    refine W_region ?_
    refine WL_all hE [0, 4, 9] [] [] (st' := ⟨[(0, SS s1), (4, I64 v1), (9, BB (v1 != (0 : Int)))], [], []⟩) (orc := []) (ob := []) (by kernel_rfl) trivial ?_
    refine N_then ?_
    refine W_cond (b := v1 != (0 : Int)) (by kernel_rfl) (fun e2 => ?_) (fun e2 => ?_)
    · replace h := ite_t e2 h
      refine W_seq ?_
      refine W_region ?_
      refine WL_all hE [2, 3] [] [2] (st' := ⟨[(2, .row 2), (3, I64 v1)], [], [(2, ⟨35, (.pair (.int .i32) (.pair (.int .i64) (.pair (.int .i64) (.pair .bool .unit)))), ([] : List ((Int × Int × Int × Bool × Unit)))⟩)]⟩) (orc := []) (ob := []) (by kernel_rfl) trivial ?_
      refine N_then ?_
      refine W_ret ?_
      refine N_then_ret ?_
      cases h
      exact N_end (.inl rfl) (by kernel_rfl)
    · replace h := ite_f e2 h
      refine W_skip ?_
      refine N_then ?_
      refine W_seq ?_
      refine W_region ?_
      refine WL_all hE [0, 5] [5] [1000005] (st' := ⟨[(0, SS s1), (5, .ptr 5 0)], [(5, .cells [.row 1000005] 24)], [(1000005, ⟨35, (.pair (.int .i32) (.pair (.int .i64) (.pair (.int .i64) (.pair .bool .unit)))), ([] : List ((Int × Int × Int × Bool × Unit)))⟩)]⟩) (orc := []) (ob := []) (by kernel_rfl) trivial ?_
      refine N_then ?_
      refine W_seq ?_
      refine W_region ?_
      refine WL_tk hE 2 [5, 11, 12] [5] [1000005] (st' := ⟨[(5, .ptr 5 0), (11, SS s1), (12, .clos 37 [5])], [(5, .cells [.row 1000005] 24)], [(1000005, ⟨35, (.pair (.int .i32) (.pair (.int .i64) (.pair (.int .i64) (.pair .bool .unit)))), ([] : List ((Int × Int × Int × Bool × Unit)))⟩)]⟩) (orc := []) (ob := []) (by kernel_rfl) trivial ?_
      obtain ⟨v2, e3, h⟩ := bind_some h
      refine WL_callB hE (b_runes_each_i1 k) (s1, ([] : List ((Int × Int × Int × Bool × Unit)))) v2 e3 (ρ := [(5, 37), (1000005, 38)]) (ρ' := [(37, 5), (38, 1000005)]) (n := 37) (by kernel_rfl) [5] [5] [1000005] (by kernel_rfl) (by kernel_rfl) (st' := ⟨[(5, .ptr 5 0)], [(5, .cells [.row 1000005] 24)], [(1000005, ⟨35, (.pair (.int .i32) (.pair (.int .i64) (.pair (.int .i64) (.pair .bool .unit)))), v2⟩)]⟩) (by kernel_rfl) ?_
      refine WL_nil ?_
      refine N_then ?_
      refine W_seq ?_
      refine W_region ?_
      refine WL_all hE [2, 3] [] [1000005] (st' := ⟨[(2, .row 1000005), (3, I64 (0 : Int))], [], [(1000005, ⟨35, (.pair (.int .i32) (.pair (.int .i64) (.pair (.int .i64) (.pair .bool .unit)))), v2⟩)]⟩) (orc := []) (ob := []) (by kernel_rfl) trivial ?_
      refine N_then ?_
      refine W_ret ?_
      cases h
      exact N_end (.inl rfl) (by kernel_rfl)

def B_strings_Builder_WriteByte_i1 (k : Nat) : FnB (Int × List (Int)) (Bool × List (Int)) where
  n := 17
  S := fun z => ⟨[(0, .ptr 17 0), (1, U8 (z.1))], [(17, .cells [.selfp 17, .row 18] 59)], [(18, ⟨5, (.int .u8), (z.2)⟩)]⟩
  S' := fun z y => ⟨[], [(17, .cells [.selfp 17, .row 18] 59)], [(18, ⟨5, (.int .u8), (y.2)⟩)]⟩
  rs := fun z y => [.val .err (y.1)]
  rel := fun z y => strings_Builder_WriteByte_i1 k (z.1) (z.2) = some y
noncomputable def E_strings_Builder_WriteByte_i1 (k : Nat) : Env := ⟨Tryd.prog, Gt, 17, []⟩
theorem b_strings_Builder_WriteByte_i1 (k : Nat) : BC Tryd.prog Gt 54 (B_strings_Builder_WriteByte_i1 k) := by
  refine bc_of (fn := Tryd.f54) Tryd.func54 (by kernel_rfl) rfl Tryd.ntmps54 ?_
  rintro cx hP hn hG ⟨c1, l1⟩ y0 h
  have hE : EnvOK (E_strings_Builder_WriteByte_i1 k) cx := (EnvOK.nil hP hn hG)
  replace h : strings_Builder_WriteByte_i1 k c1 l1 = some y0 := h
  unfold strings_Builder_WriteByte_i1 at h
  refine W_seq ?_
  refine W_region ?_
  refine WL_all hE [0, 1] [17] [18] (st' := ⟨[(0, .ptr 17 0), (1, U8 c1)], [(17, .cells [.selfp 17, .row 18] 59)], [(18, ⟨5, (.int .u8), l1⟩)]⟩) (orc := []) (ob := []) (by kernel_rfl) trivial ?_
  refine N_then ?_
  refine W_seq ?_
  refine W_region ?_
  refine WL_tk hE 1 [0, 1, 5] [17] [18] (st' := ⟨[(0, .ptr 17 0), (1, U8 c1), (5, .ptr 17 0)], [(17, .cells [.selfp 17, .row 18] 59)], [(18, ⟨5, (.int .u8), l1⟩)]⟩) (orc := []) (ob := []) (by kernel_rfl) trivial ?_
  obtain ⟨v1, e1, h⟩ := bind_some h
  refine WL_callB hE (b_bld_copyCheck k) l1 v1 e1 (ρ := [(17, 20), (18, 21)]) (ρ' := [(20, 17), (21, 18)]) (n := 20) (by kernel_rfl) [0, 1] [17] [18] (by kernel_rfl) (by kernel_rfl) (st' := ⟨[(0, .ptr 17 0), (1, U8 c1)], [(17, .cells [.selfp 17, .row 18] 59)], [(18, ⟨5, (.int .u8), l1⟩)]⟩) (by kernel_rfl) ?_
  refine WL_nil ?_
  refine N_then ?_
  refine W_seq ?_
  refine W_region ?_
  obtain ⟨_, e2, h⟩ := bind_some h
  replace e2 := chk_some e2
  refine WL_all hE [0] [17] [18] (st' := ⟨[(0, .ptr 17 0)], [(17, .cells [.selfp 17, .row 18] 59)], [(18, ⟨5, (.int .u8), l1 ++ ([c1] : List (Int))⟩)]⟩) (orc := []) (ob := [List.length l1 + List.length ([c1] : List (Int)) ≤ lim]) (by kernel_rfl) ⟨e2, trivial⟩ ?_
  refine N_then ?_
  refine W_seq ?_
  refine W_region ?_
  refine WL_all hE [0, 4] [17] [18] (st' := ⟨[(0, .ptr 17 0), (4, .val .err true)], [(17, .cells [.selfp 17, .row 18] 59)], [(18, ⟨5, (.int .u8), l1 ++ ([c1] : List (Int))⟩)]⟩) (orc := []) (ob := []) (by kernel_rfl) trivial ?_
  refine N_then ?_
  refine W_ret ?_
  replace h := Option.some.inj h
  subst h
  exact N_endB hE.P [17] [18] (.inl rfl) (by kernel_rfl) (by kernel_rfl)

def C_internal_strconv_isPowerOfTwo_16 (k : Nat) : FnC := ⟨true, 1, [], fun | [⟨(.int .i64), const0⟩], [⟨.bool, r⟩] => const0 = (16 : Int) ∧ internal_strconv_isPowerOfTwo_16 k = some r | _, _ => False⟩
noncomputable def E_internal_strconv_isPowerOfTwo_16 (k : Nat) : Env := ⟨Tryd.prog, Gt, 8, []⟩
theorem c_internal_strconv_isPowerOfTwo_16 (k : Nat) : Contract Tryd.prog Gt 97 (C_internal_strconv_isPowerOfTwo_16 k) := by
  refine contract_of Gt_stable (fn := Tryd.f97) Tryd.func97 (by kernel_rfl) rfl ?_ ?_
  · intro xs rs h
    unfold C_internal_strconv_isPowerOfTwo_16 at h
    simp only at h
    split at h
    · exact ⟨by show 1 ≤ _; rw [Tryd.ntmps97]; decide, rfl, fun _ u hu => by simp at hu; (rcases hu with rfl) <;> rfl⟩
    · exact h.elim
  · intro w0 M xs rs hG h
    unfold C_internal_strconv_isPowerOfTwo_16 at h
    simp only at h
    split at h
    case h_2 => exact h.elim
    rename_i const0 r
    change Int at const0
    change Bool at r
    obtain ⟨rfl, h⟩ := h
    have hE : EnvOK (E_internal_strconv_isPowerOfTwo_16 k) ⟨Tryd.prog, Tryd.f97.ntmps, w0, M, fun _ => False, fun _ => undef⟩ := (EnvOK.nil rfl Tryd.ntmps97 hG)
    unfold internal_strconv_isPowerOfTwo_16 at h
    refine W_seq ?_
    refine W_region ?_
    refine WL_all hE [0] [] [] (st' := ⟨[(0, I64 (16 : Int))], [], []⟩) (orc := []) (ob := []) (by kernel_rfl) trivial ?_
    refine N_then ?_
    refine W_seq ?_
    refine W_region ?_
    refine WL_all hE [2] [] [] (st' := ⟨[(2, BB true)], [], []⟩) (orc := []) (ob := []) (by kernel_rfl) trivial ?_
    refine N_then ?_
    refine W_ret ?_
    cases h
    exact N_end (.inl rfl) (by kernel_rfl)

def C_internal_strconv_formatBits_16_false_false (k : Nat) : FnC := ⟨false, 2, [], fun | [⟨(.sl (.int .u8)), dst1⟩, ⟨(.int .u64), u1⟩, ⟨(.int .i64), const2⟩, ⟨.bool, const3⟩, ⟨.bool, const4⟩], [⟨(.sl (.int .u8)), r1⟩, ⟨.str, r2⟩] => const2 = (16 : Int) ∧ const3 = false ∧ const4 = false ∧ internal_strconv_formatBits_16_false_false k dst1 u1 = some (r1, r2) | _, _ => False⟩
noncomputable def E_internal_strconv_formatBits_16_false_false (k : Nat) : Env := ⟨Tryd.prog, Gt, 102, [(97, C_internal_strconv_isPowerOfTwo_16 k), (98, C_math_bits_TrailingZeros k)]⟩
theorem c_internal_strconv_formatBits_16_false_false (k : Nat) : Contract Tryd.prog Gt 89 (C_internal_strconv_formatBits_16_false_false k) := by
  refine contract_of Gt_stable (fn := Tryd.f89) Tryd.func89 (by kernel_rfl) rfl ?_ ?_
  · intro xs rs h
    unfold C_internal_strconv_formatBits_16_false_false at h
    simp only at h
    split at h
    · exact ⟨by show 5 ≤ _; rw [Tryd.ntmps89]; decide, rfl, fun hf => by cases hf⟩
    · exact h.elim
  · intro w0 M xs rs hG h
    unfold C_internal_strconv_formatBits_16_false_false at h
    simp only at h
    split at h
    case h_2 => exact h.elim
    rename_i dst1 u1 const2 const3 const4 r1 r2
    change List (Int) at dst1
    change Int at u1
    change Int at const2
    change Bool at const3
    change Bool at const4
    change List (Int) at r1
    change List UInt8 at r2
    obtain ⟨rfl, rfl, rfl, h⟩ := h
    have hE : EnvOK (E_internal_strconv_formatBits_16_false_false k) ⟨Tryd.prog, Tryd.f89.ntmps, w0, M, fun _ => False, fun _ => undef⟩ := (EnvOK.cons (c_internal_strconv_isPowerOfTwo_16 k) (EnvOK.cons (d_math_bits_TrailingZeros k) (EnvOK.nil rfl Tryd.ntmps89 hG)))
    unfold internal_strconv_formatBits_16_false_false at h
    refine W_seq ?_
    refine W_region ?_
    refine WL_all hE [0, 1, 2, 3, 4, 10, 11] [] [10] (st' := ⟨[(0, .val (.sl (.int .u8)) dst1), (1, U64 u1), (2, I64 (16 : Int)), (3, BB false), (4, BB false), (10, .row 10), (11, SS ([] : List UInt8))], [], [(10, ⟨5, (.int .u8), ([] : List (Int))⟩)]⟩) (orc := []) (ob := []) (by kernel_rfl) trivial ?_
    refine N_then ?_
    refine W_seq ?_
    refine W_seq ?_
    refine W_region ?_
    refine WL_all hE [0, 1, 2, 3, 4, 10, 11, 28] [] [10] (st' := ⟨[(0, .val (.sl (.int .u8)) dst1), (1, U64 u1), (2, I64 (16 : Int)), (3, BB false), (4, BB false), (10, .row 10), (11, SS ([] : List UInt8)), (28, BB false)], [], [(10, ⟨5, (.int .u8), ([] : List (Int))⟩)]⟩) (orc := []) (ob := []) (by kernel_rfl) trivial ?_
    refine N_then ?_
    refine W_cond_false (by kernel_rfl) ?_
    refine W_skip ?_
    refine N_then ?_
    refine W_seq ?_
    refine W_region ?_
    refine WL_all hE [0, 1, 2, 3, 4, 10, 11, 12] [] [10, 12] (st' := ⟨[(0, .val (.sl (.int .u8)) dst1), (1, U64 u1), (2, I64 (16 : Int)), (3, BB false), (4, BB false), (10, .row 10), (11, SS ([] : List UInt8)), (12, .rptr 12 0 0 1)], [], [(10, ⟨5, (.int .u8), ([] : List (Int))⟩), (12, ⟨118, (.int .u8), List.replicate 65 (0 : Int)⟩)]⟩) (orc := []) (ob := []) (by kernel_rfl) trivial ?_
    refine N_then ?_
    refine W_seq ?_
    refine W_region ?_
    refine WL_all hE [0, 1, 2, 3, 4, 10, 11, 12, 13] [] [10, 12] (st' := ⟨[(0, .val (.sl (.int .u8)) dst1), (1, U64 u1), (2, I64 (16 : Int)), (3, BB false), (4, BB false), (10, .row 10), (11, SS ([] : List UInt8)), (12, .rptr 12 0 0 1), (13, I64 (65 : Int))], [], [(10, ⟨5, (.int .u8), ([] : List (Int))⟩), (12, ⟨118, (.int .u8), List.replicate 65 (0 : Int)⟩)]⟩) (orc := []) (ob := []) (by kernel_rfl) trivial ?_
    refine N_then ?_
    refine W_seq ?_
    refine W_seq ?_
    refine W_region ?_
    refine WL_all hE [0, 1, 2, 3, 4, 10, 11, 12, 13, 30] [] [10, 12] (st' := ⟨[(0, .val (.sl (.int .u8)) dst1), (1, U64 u1), (2, I64 (16 : Int)), (3, BB false), (4, BB false), (10, .row 10), (11, SS ([] : List UInt8)), (12, .rptr 12 0 0 1), (13, I64 (65 : Int)), (30, BB false)], [], [(10, ⟨5, (.int .u8), ([] : List (Int))⟩), (12, ⟨118, (.int .u8), List.replicate 65 (0 : Int)⟩)]⟩) (orc := []) (ob := []) (by kernel_rfl) trivial ?_
    refine N_then ?_
    refine W_cond_false (by kernel_rfl) ?_
    refine W_skip ?_
    refine N_then ?_
    refine W_join (α := (Int × List (Int) × List (Int))) (fun z => internal_strconv_formatBits_16_false_false_j1 z.1 z.2.1 z.2.2 = some (r1, r2)) (fun z => ⟨[(0, .val (.sl (.int .u8)) dst1), (3, BB false), (4, BB false), (10, .row 10), (11, SS ([] : List UInt8)), (12, .rptr 12 0 0 1), (13, I64 (z.1))], [], [(10, ⟨5, (.int .u8), (z.2.1)⟩), (12, ⟨118, (.int .u8), (z.2.2)⟩)]⟩) ?_ (fun hJ1 => ?_)
    · rintro ⟨i1, d1, a1⟩ h
      unfold internal_strconv_formatBits_16_false_false_j1 at h
      refine W_seq ?_
      refine W_seq ?_
      refine W_region ?_
      refine WL_all hE [0, 4, 10, 11, 12, 13, 89] [] [10, 12] (st' := ⟨[(0, .val (.sl (.int .u8)) dst1), (4, BB false), (10, .row 10), (11, SS ([] : List UInt8)), (12, .rptr 12 0 0 1), (13, I64 i1), (89, BB false)], [], [(10, ⟨5, (.int .u8), d1⟩), (12, ⟨118, (.int .u8), a1⟩)]⟩) (orc := []) (ob := []) (by kernel_rfl) trivial ?_
      refine N_then ?_
      refine W_cond_false (by kernel_rfl) ?_
      refine W_skip ?_
      refine N_then ?_
      refine W_seq ?_
      refine W_seq ?_
      refine W_region ?_
      refine WL_all hE [0, 10, 11, 12, 13, 94] [] [10, 12] (st' := ⟨[(0, .val (.sl (.int .u8)) dst1), (10, .row 10), (11, SS ([] : List UInt8)), (12, .rptr 12 0 0 1), (13, I64 i1), (94, BB false)], [], [(10, ⟨5, (.int .u8), d1⟩), (12, ⟨118, (.int .u8), a1⟩)]⟩) (orc := []) (ob := []) (by kernel_rfl) trivial ?_
      refine N_then ?_
      refine W_cond_false (by kernel_rfl) ?_
      refine W_skip ?_
      refine N_then ?_
      refine W_seq ?_
      refine W_region ?_
      obtain ⟨s1, e1, h⟩ := bind_some h
      obtain ⟨_, e2, h⟩ := bind_some h
      replace e2 := chk_some e2
      refine WL_all hE [10, 11] [] [10] (st' := ⟨[(10, .row 10), (11, SS (bytesStr s1))], [], [(10, ⟨5, (.int .u8), d1⟩)]⟩) (orc := [⟨(.sl (.int .u8)), s1⟩]) (ob := [sub? a1 i1 (a1.length : Int) = some s1, List.length a1 = 65]) (by kernel_rfl) ⟨e1, e2, trivial⟩ ?_
      refine N_then ?_
      refine W_ret ?_
      cases h
      exact N_end (.inl rfl) (by kernel_rfl)
    refine W_seq ?_
    refine W_region ?_
    refine WL_all hE [0, 1, 2, 3, 4, 10, 11, 12, 13, 34] [] [10, 12] (st' := ⟨[(0, .val (.sl (.int .u8)) dst1), (1, U64 u1), (2, I64 (16 : Int)), (3, BB false), (4, BB false), (10, .row 10), (11, SS ([] : List UInt8)), (12, .rptr 12 0 0 1), (13, I64 (65 : Int)), (34, BB true)], [], [(10, ⟨5, (.int .u8), ([] : List (Int))⟩), (12, ⟨118, (.int .u8), List.replicate 65 (0 : Int)⟩)]⟩) (orc := [tB true]) (ob := [(16 : Int) = (16 : Int) ∧ internal_strconv_isPowerOfTwo_16 k = some true]) (by kernel_rfl) ⟨⟨rfl, rfl⟩, trivial⟩ ?_
    refine N_then ?_
    refine W_cond_true (by kernel_rfl) ?_
    refine W_seq ?_
    refine W_region ?_
    refine WL_all hE [0, 1, 2, 3, 4, 10, 11, 12, 13, 14] [] [10, 12] (st' := ⟨[(0, .val (.sl (.int .u8)) dst1), (1, U64 u1), (2, I64 (16 : Int)), (3, BB false), (4, BB false), (10, .row 10), (11, SS ([] : List UInt8)), (12, .rptr 12 0 0 1), (13, I64 (65 : Int)), (14, U64 (4 : Int))], [], [(10, ⟨5, (.int .u8), ([] : List (Int))⟩), (12, ⟨118, (.int .u8), List.replicate 65 (0 : Int)⟩)]⟩) (orc := [tI64 (4 : Int)]) (ob := [math_bits_TrailingZeros k (16 : Int) = some (4 : Int)]) (by kernel_rfl) ⟨rfl, trivial⟩ ?_
    refine N_then ?_
    refine W_seq ?_
    refine W_region ?_
    refine WL_all hE [0, 1, 2, 3, 4, 10, 11, 12, 13, 14, 15] [] [10, 12] (st' := ⟨[(0, .val (.sl (.int .u8)) dst1), (1, U64 u1), (2, I64 (16 : Int)), (3, BB false), (4, BB false), (10, .row 10), (11, SS ([] : List UInt8)), (12, .rptr 12 0 0 1), (13, I64 (65 : Int)), (14, U64 (4 : Int)), (15, U64 (16 : Int))], [], [(10, ⟨5, (.int .u8), ([] : List (Int))⟩), (12, ⟨118, (.int .u8), List.replicate 65 (0 : Int)⟩)]⟩) (orc := []) (ob := []) (by kernel_rfl) trivial ?_
    refine N_then ?_
    refine W_seq ?_
    refine W_region ?_
    refine WL_all hE [0, 1, 3, 4, 10, 11, 12, 13, 14, 15, 16] [] [10, 12] (st' := ⟨[(0, .val (.sl (.int .u8)) dst1), (1, U64 u1), (3, BB false), (4, BB false), (10, .row 10), (11, SS ([] : List UInt8)), (12, .rptr 12 0 0 1), (13, I64 (65 : Int)), (14, U64 (4 : Int)), (15, U64 (16 : Int)), (16, U64 (15 : Int))], [], [(10, ⟨5, (.int .u8), ([] : List (Int))⟩), (12, ⟨118, (.int .u8), List.replicate 65 (0 : Int)⟩)]⟩) (orc := []) (ob := []) (by kernel_rfl) trivial ?_
    refine N_then ?_
    refine W_seq ?_
    refine W_block ?_
    refine W_loop (α := (Int × Int × List (Int))) (fun n z => internal_strconv_formatBits_16_false_false_l1 n z.1 z.2.1 z.2.2 = some (r1, r2)) (fun z => ⟨[(0, .val (.sl (.int .u8)) dst1), (1, U64 (z.1)), (3, BB false), (4, BB false), (10, .row 10), (11, SS ([] : List UInt8)), (12, .rptr 12 0 0 1), (13, I64 (z.2.1)), (14, U64 (4 : Int)), (15, U64 (16 : Int)), (16, U64 (15 : Int))], [], [(10, ⟨5, (.int .u8), ([] : List (Int))⟩), (12, ⟨118, (.int .u8), (z.2.2)⟩)]⟩) ?_ (k := k) (x := (u1, (65 : Int), List.replicate 65 (0 : Int))) h
    clear h
    rintro fuel1 ⟨u2, i2, a2⟩ h
    cases fuel1 with
    | zero => exact absurd (show none = some _ from h) (by simp)
    | succ fuel1 =>
      have h : internal_strconv_formatBits_16_false_false_b1 (internal_strconv_formatBits_16_false_false_l1 fuel1) u2 i2 a2 = some (r1, r2) := h
      unfold internal_strconv_formatBits_16_false_false_b1 at h
      refine W_seq ?_
      refine W_seq ?_
      refine W_region ?_
      refine WL_all hE [0, 1, 3, 4, 10, 11, 12, 13, 14, 15, 16, 46] [] [10, 12] (st' := ⟨[(0, .val (.sl (.int .u8)) dst1), (1, U64 u2), (3, BB false), (4, BB false), (10, .row 10), (11, SS ([] : List UInt8)), (12, .rptr 12 0 0 1), (13, I64 i2), (14, U64 (4 : Int)), (15, U64 (16 : Int)), (16, U64 (15 : Int)), (46, BB (decide ((16 : Int) ≤ u2)))], [], [(10, ⟨5, (.int .u8), ([] : List (Int))⟩), (12, ⟨118, (.int .u8), a2⟩)]⟩) (orc := []) (ob := []) (by kernel_rfl) trivial ?_
      refine N_then ?_
      refine W_cond (b := decide ((16 : Int) ≤ u2)) (by kernel_rfl) (fun e3 => ?_) (fun e3 => ?_)
      · replace h := ite_t e3 h
        refine W_skip ?_
        refine N_then ?_
        refine W_block ?_
        refine W_seq ?_
        refine W_region ?_
        refine WL_all hE [0, 1, 3, 4, 10, 11, 12, 13, 14, 15, 16] [] [10, 12] (st' := ⟨[(0, .val (.sl (.int .u8)) dst1), (1, U64 u2), (3, BB false), (4, BB false), (10, .row 10), (11, SS ([] : List UInt8)), (12, .rptr 12 0 0 1), (13, I64 (wi64 (i2 - (1 : Int)))), (14, U64 (4 : Int)), (15, U64 (16 : Int)), (16, U64 (15 : Int))], [], [(10, ⟨5, (.int .u8), ([] : List (Int))⟩), (12, ⟨118, (.int .u8), a2⟩)]⟩) (orc := []) (ob := []) (by kernel_rfl) trivial ?_
        refine N_then ?_
        refine W_seq ?_
        refine W_region ?_
        obtain ⟨b1, e5, h⟩ := bind_some h
        obtain ⟨x1, e4, h⟩ := bind_some h
        obtain ⟨_, e6, h⟩ := bind_some h
        replace e6 := chk_some e6
        refine WL_all hE [0, 1, 3, 4, 10, 11, 12, 13, 14, 15, 16] [] [10, 12] (st' := ⟨[(0, .val (.sl (.int .u8)) dst1), (1, U64 u2), (3, BB false), (4, BB false), (10, .row 10), (11, SS ([] : List UInt8)), (12, .rptr 12 0 0 1), (13, I64 (wi64 (i2 - (1 : Int)))), (14, U64 (4 : Int)), (15, U64 (16 : Int)), (16, U64 (15 : Int))], [], [(10, ⟨5, (.int .u8), ([] : List (Int))⟩), (12, ⟨118, (.int .u8), List.set a2 (wi64 (i2 - (1 : Int))).toNat b1⟩)]⟩) (orc := [tU8 b1, tU8 x1, tU8 x1]) (ob := [byteAt ([48, 49, 50, 51, 52, 53, 54, 55, 56, 57, 97, 98, 99, 100, 101, 102, 103, 104, 105, 106, 107, 108, 109, 110, 111, 112, 113, 114, 115, 116, 117, 118, 119, 120, 121, 122] : List UInt8) (wu64 (BitVec.toNat (BitVec.ofInt 64 u2 &&& BitVec.ofInt 64 (15 : Int)))) = some b1, at? a2 (wi64 (i2 - (1 : Int))) = some x1, List.length a2 = 65, at? a2 (wi64 (i2 - (1 : Int))) = some x1]) (by kernel_rfl) ⟨e5, e4, e6, e4, trivial⟩ ?_
        refine N_then ?_
        refine W_region ?_
        obtain ⟨_, e7, h⟩ := bind_some h
        replace e7 := chk_some e7
        refine WL_all hE [0, 1, 3, 4, 10, 11, 12, 13, 14, 15, 16] [] [10, 12] (st' := ⟨[(0, .val (.sl (.int .u8)) dst1), (1, U64 (Int.fdiv u2 (2 ^ min ((4 : Int)).toNat 64))), (3, BB false), (4, BB false), (10, .row 10), (11, SS ([] : List UInt8)), (12, .rptr 12 0 0 1), (13, I64 (wi64 (i2 - (1 : Int)))), (14, U64 (4 : Int)), (15, U64 (16 : Int)), (16, U64 (15 : Int))], [], [(10, ⟨5, (.int .u8), ([] : List (Int))⟩), (12, ⟨118, (.int .u8), List.set a2 (wi64 (i2 - (1 : Int))).toNat b1⟩)]⟩) (orc := []) (ob := [0 ≤ (4 : Int)]) (by kernel_rfl) ⟨e7, trivial⟩ ?_
        refine N_block ?_
        exact N_round (Int.fdiv u2 (2 ^ min ((4 : Int)).toNat 64), wi64 (i2 - (1 : Int)), List.set a2 (wi64 (i2 - (1 : Int))).toNat b1) (Nat.lt_succ_self _) h
      · replace h := ite_f e3 h
        refine W_exit ?_
        refine N_then_exit ?_
        refine N_then_exit ?_
        refine N_block_exit ?_
        refine N_then ?_
        refine W_seq ?_
        refine W_region ?_
        refine WL_all hE [0, 1, 3, 4, 10, 11, 12, 13] [] [10, 12] (st' := ⟨[(0, .val (.sl (.int .u8)) dst1), (1, U64 u2), (3, BB false), (4, BB false), (10, .row 10), (11, SS ([] : List UInt8)), (12, .rptr 12 0 0 1), (13, I64 (wi64 (i2 - (1 : Int))))], [], [(10, ⟨5, (.int .u8), ([] : List (Int))⟩), (12, ⟨118, (.int .u8), a2⟩)]⟩) (orc := []) (ob := []) (by kernel_rfl) trivial ?_
        refine N_then ?_
        refine W_region ?_
        obtain ⟨b2, e9, h⟩ := bind_some h
        obtain ⟨x2, e8, h⟩ := bind_some h
        obtain ⟨_, e10, h⟩ := bind_some h
        replace e10 := chk_some e10
        refine WL_all hE [0, 3, 4, 10, 11, 12, 13] [] [10, 12] (st' := ⟨[(0, .val (.sl (.int .u8)) dst1), (3, BB false), (4, BB false), (10, .row 10), (11, SS ([] : List UInt8)), (12, .rptr 12 0 0 1), (13, I64 (wi64 (i2 - (1 : Int))))], [], [(10, ⟨5, (.int .u8), ([] : List (Int))⟩), (12, ⟨118, (.int .u8), List.set a2 (wi64 (i2 - (1 : Int))).toNat b2⟩)]⟩) (orc := [tU8 b2, tU8 x2, tU8 x2]) (ob := [byteAt ([48, 49, 50, 51, 52, 53, 54, 55, 56, 57, 97, 98, 99, 100, 101, 102, 103, 104, 105, 106, 107, 108, 109, 110, 111, 112, 113, 114, 115, 116, 117, 118, 119, 120, 121, 122] : List UInt8) u2 = some b2, at? a2 (wi64 (i2 - (1 : Int))) = some x2, List.length a2 = 65, at? a2 (wi64 (i2 - (1 : Int))) = some x2]) (by kernel_rfl) ⟨e9, e8, e10, e8, trivial⟩ ?_
        exact hJ1 (wi64 (i2 - (1 : Int)), ([] : List (Int)), List.set a2 (wi64 (i2 - (1 : Int))).toNat b2) h

def C_internal_strconv_FormatUint_16 (k : Nat) : FnC := ⟨true, 1, [], fun | [⟨(.int .u64), i1⟩, ⟨(.int .i64), const1⟩], [⟨.str, r⟩] => const1 = (16 : Int) ∧ internal_strconv_FormatUint_16 k i1 = some r | _, _ => False⟩
noncomputable def E_internal_strconv_FormatUint_16 (k : Nat) : Env := ⟨Tryd.prog, Gt, 32, [(89, C_internal_strconv_formatBits_16_false_false k)]⟩
theorem c_internal_strconv_FormatUint_16 (k : Nat) : Contract Tryd.prog Gt 76 (C_internal_strconv_FormatUint_16 k) := by
  refine contract_of Gt_stable (fn := Tryd.f76) Tryd.func76 (by kernel_rfl) rfl ?_ ?_
  · intro xs rs h
    unfold C_internal_strconv_FormatUint_16 at h
    simp only at h
    split at h
    · exact ⟨by show 2 ≤ _; rw [Tryd.ntmps76]; decide, rfl, fun _ u hu => by simp at hu; (rcases hu with rfl) <;> rfl⟩
    · exact h.elim
  · intro w0 M xs rs hG h
    unfold C_internal_strconv_FormatUint_16 at h
    simp only at h
    split at h
    case h_2 => exact h.elim
    rename_i i1 const1 r
    change Int at i1
    change Int at const1
    change List UInt8 at r
    obtain ⟨rfl, h⟩ := h
    have hE : EnvOK (E_internal_strconv_FormatUint_16 k) ⟨Tryd.prog, Tryd.f76.ntmps, w0, M, fun _ => False, fun _ => undef⟩ := (EnvOK.cons (c_internal_strconv_formatBits_16_false_false k) (EnvOK.nil rfl Tryd.ntmps76 hG))
    unfold internal_strconv_FormatUint_16 at h
    refine W_seq ?_
    refine W_region ?_
    refine WL_all hE [0, 1] [] [] (st' := ⟨[(0, U64 i1), (1, I64 (16 : Int))], [], []⟩) (orc := []) (ob := []) (by kernel_rfl) trivial ?_
    refine N_then ?_
    refine W_seq ?_
    refine W_seq ?_
    refine W_region ?_
    refine WL_all hE [0, 1, 10] [] [] (st' := ⟨[(0, U64 i1), (1, I64 (16 : Int)), (10, BB false)], [], []⟩) (orc := []) (ob := []) (by kernel_rfl) trivial ?_
    refine N_then ?_
    refine W_cond_false (by kernel_rfl) ?_
    refine W_skip ?_
    refine N_then ?_
    refine W_seq ?_
    refine W_region ?_
    obtain ⟨v1, e1, h⟩ := bind_some h
    refine WL_all hE [8] [] [] (st' := ⟨[(8, SS v1.2)], [], []⟩) (orc := [⟨(.sl (.int .u8)), v1.1⟩, tS v1.2]) (ob := [(16 : Int) = (16 : Int) ∧ false = false ∧ false = false ∧ internal_strconv_formatBits_16_false_false k ([] : List (Int)) i1 = some ((v1).1, (v1).2)]) (by kernel_rfl) ⟨⟨rfl, rfl, rfl, e1⟩, trivial⟩ ?_
    refine N_then ?_
    refine W_seq ?_
    refine W_region ?_
    refine WL_all hE [4] [] [] (st' := ⟨[(4, SS v1.2)], [], []⟩) (orc := []) (ob := []) (by kernel_rfl) trivial ?_
    refine N_then ?_
    refine W_ret ?_
    cases h
    exact N_end (.inl rfl) (by kernel_rfl)

def C_strconv_FormatUint_16 (k : Nat) : FnC := ⟨true, 1, [], fun | [⟨(.int .u64), i1⟩, ⟨(.int .i64), const1⟩], [⟨.str, r⟩] => const1 = (16 : Int) ∧ strconv_FormatUint_16 k i1 = some r | _, _ => False⟩
noncomputable def E_strconv_FormatUint_16 (k : Nat) : Env := ⟨Tryd.prog, Gt, 8, [(76, C_internal_strconv_FormatUint_16 k)]⟩
theorem c_strconv_FormatUint_16 (k : Nat) : Contract Tryd.prog Gt 66 (C_strconv_FormatUint_16 k) := by
  refine contract_of Gt_stable (fn := Tryd.f66) Tryd.func66 (by kernel_rfl) rfl ?_ ?_
  · intro xs rs h
    unfold C_strconv_FormatUint_16 at h
    simp only at h
    split at h
    · exact ⟨by show 2 ≤ _; rw [Tryd.ntmps66]; decide, rfl, fun _ u hu => by simp at hu; (rcases hu with rfl) <;> rfl⟩
    · exact h.elim
  · intro w0 M xs rs hG h
    unfold C_strconv_FormatUint_16 at h
    simp only at h
    split at h
    case h_2 => exact h.elim
    rename_i i1 const1 r
    change Int at i1
    change Int at const1
    change List UInt8 at r
    obtain ⟨rfl, h⟩ := h
    have hE : EnvOK (E_strconv_FormatUint_16 k) ⟨Tryd.prog, Tryd.f66.ntmps, w0, M, fun _ => False, fun _ => undef⟩ := (EnvOK.cons (c_internal_strconv_FormatUint_16 k) (EnvOK.nil rfl Tryd.ntmps66 hG))
    unfold strconv_FormatUint_16 at h
    refine W_seq ?_
    refine W_region ?_
    refine WL_all hE [0, 1] [] [] (st' := ⟨[(0, U64 i1), (1, I64 (16 : Int))], [], []⟩) (orc := []) (ob := []) (by kernel_rfl) trivial ?_
    refine N_then ?_
    refine W_seq ?_
    refine W_region ?_
    obtain ⟨v1, e1, h⟩ := bind_some h
    refine WL_all hE [4] [] [] (st' := ⟨[(4, SS v1)], [], []⟩) (orc := [tS v1]) (ob := [(16 : Int) = (16 : Int) ∧ internal_strconv_FormatUint_16 k i1 = some v1]) (by kernel_rfl) ⟨⟨rfl, e1⟩, trivial⟩ ?_
    refine N_then ?_
    refine W_ret ?_
    cases h
    exact N_end (.inl rfl) (by kernel_rfl)

def C_internal_strconv_formatBits_16_false (k : Nat) : FnC := ⟨false, 2, [], fun | [⟨(.sl (.int .u8)), dst1⟩, ⟨(.int .u64), u1⟩, ⟨(.int .i64), const2⟩, ⟨.bool, neg1⟩, ⟨.bool, const4⟩], [⟨(.sl (.int .u8)), r1⟩, ⟨.str, r2⟩] => const2 = (16 : Int) ∧ const4 = false ∧ internal_strconv_formatBits_16_false k dst1 u1 neg1 = some (r1, r2) | _, _ => False⟩
noncomputable def E_internal_strconv_formatBits_16_false (k : Nat) : Env := ⟨Tryd.prog, Gt, 102, [(97, C_internal_strconv_isPowerOfTwo_16 k), (98, C_math_bits_TrailingZeros k)]⟩
theorem c_internal_strconv_formatBits_16_false (k : Nat) : Contract Tryd.prog Gt 89 (C_internal_strconv_formatBits_16_false k) := by
  refine contract_of Gt_stable (fn := Tryd.f89) Tryd.func89 (by kernel_rfl) rfl ?_ ?_
  · intro xs rs h
    unfold C_internal_strconv_formatBits_16_false at h
    simp only at h
    split at h
    · exact ⟨by show 5 ≤ _; rw [Tryd.ntmps89]; decide, rfl, fun hf => by cases hf⟩
    · exact h.elim
  · intro w0 M xs rs hG h
    unfold C_internal_strconv_formatBits_16_false at h
    simp only at h
    split at h
    case h_2 => exact h.elim
    rename_i dst1 u1 const2 neg1 const4 r1 r2
    change List (Int) at dst1
    change Int at u1
    change Int at const2
    change Bool at neg1
    change Bool at const4
    change List (Int) at r1
    change List UInt8 at r2
    obtain ⟨rfl, rfl, h⟩ := h
    have hE : EnvOK (E_internal_strconv_formatBits_16_false k) ⟨Tryd.prog, Tryd.f89.ntmps, w0, M, fun _ => False, fun _ => undef⟩ := (EnvOK.cons (c_internal_strconv_isPowerOfTwo_16 k) (EnvOK.cons (d_math_bits_TrailingZeros k) (EnvOK.nil rfl Tryd.ntmps89 hG)))
    unfold internal_strconv_formatBits_16_false at h
    refine W_seq ?_
    refine W_region ?_
    refine WL_all hE [0, 1, 2, 3, 4, 10, 11] [] [10] (st' := ⟨[(0, .val (.sl (.int .u8)) dst1), (1, U64 u1), (2, I64 (16 : Int)), (3, BB neg1), (4, BB false), (10, .row 10), (11, SS ([] : List UInt8))], [], [(10, ⟨5, (.int .u8), ([] : List (Int))⟩)]⟩) (orc := []) (ob := []) (by kernel_rfl) trivial ?_
    refine N_then ?_
    refine W_seq ?_
    refine W_seq ?_
    refine W_region ?_
    refine WL_all hE [0, 1, 2, 3, 4, 10, 11, 28] [] [10] (st' := ⟨[(0, .val (.sl (.int .u8)) dst1), (1, U64 u1), (2, I64 (16 : Int)), (3, BB neg1), (4, BB false), (10, .row 10), (11, SS ([] : List UInt8)), (28, BB false)], [], [(10, ⟨5, (.int .u8), ([] : List (Int))⟩)]⟩) (orc := []) (ob := []) (by kernel_rfl) trivial ?_
    refine N_then ?_
    refine W_cond_false (by kernel_rfl) ?_
    refine W_skip ?_
    refine N_then ?_
    refine W_seq ?_
    refine W_region ?_
    refine WL_all hE [0, 1, 2, 3, 4, 10, 11, 12] [] [10, 12] (st' := ⟨[(0, .val (.sl (.int .u8)) dst1), (1, U64 u1), (2, I64 (16 : Int)), (3, BB neg1), (4, BB false), (10, .row 10), (11, SS ([] : List UInt8)), (12, .rptr 12 0 0 1)], [], [(10, ⟨5, (.int .u8), ([] : List (Int))⟩), (12, ⟨118, (.int .u8), List.replicate 65 (0 : Int)⟩)]⟩) (orc := []) (ob := []) (by kernel_rfl) trivial ?_
    refine N_then ?_
    refine W_seq ?_
    refine W_region ?_
    refine WL_all hE [0, 1, 2, 3, 4, 10, 11, 12, 13] [] [10, 12] (st' := ⟨[(0, .val (.sl (.int .u8)) dst1), (1, U64 u1), (2, I64 (16 : Int)), (3, BB neg1), (4, BB false), (10, .row 10), (11, SS ([] : List UInt8)), (12, .rptr 12 0 0 1), (13, I64 (65 : Int))], [], [(10, ⟨5, (.int .u8), ([] : List (Int))⟩), (12, ⟨118, (.int .u8), List.replicate 65 (0 : Int)⟩)]⟩) (orc := []) (ob := []) (by kernel_rfl) trivial ?_
    refine N_then ?_
    refine W_join (α := Int) (fun z => internal_strconv_formatBits_16_false_j1 k neg1 z = some (r1, r2)) (fun u2 => ⟨[(0, .val (.sl (.int .u8)) dst1), (1, U64 u2), (2, I64 (16 : Int)), (3, BB neg1), (4, BB false), (10, .row 10), (11, SS ([] : List UInt8)), (12, .rptr 12 0 0 1), (13, I64 (65 : Int))], [], [(10, ⟨5, (.int .u8), ([] : List (Int))⟩), (12, ⟨118, (.int .u8), List.replicate 65 (0 : Int)⟩)]⟩) ?_ (fun hJ3 => ?_)
    · rintro u2 h
      unfold internal_strconv_formatBits_16_false_j1 at h
      refine W_join (α := (Int × List (Int) × List (Int))) (fun z => internal_strconv_formatBits_16_false_j2 neg1 z.1 z.2.1 z.2.2 = some (r1, r2)) (fun z => ⟨[(0, .val (.sl (.int .u8)) dst1), (3, BB neg1), (4, BB false), (10, .row 10), (11, SS ([] : List UInt8)), (12, .rptr 12 0 0 1), (13, I64 (z.1))], [], [(10, ⟨5, (.int .u8), (z.2.1)⟩), (12, ⟨118, (.int .u8), (z.2.2)⟩)]⟩) ?_ (fun hJ3 => ?_)
      · rintro ⟨i1, d1, a1⟩ h
        unfold internal_strconv_formatBits_16_false_j2 at h
        refine W_join (α := (Int × List (Int))) (fun z => internal_strconv_formatBits_16_false_j3 d1 z.1 z.2 = some (r1, r2)) (fun z => ⟨[(0, .val (.sl (.int .u8)) dst1), (4, BB false), (10, .row 10), (11, SS ([] : List UInt8)), (12, .rptr 12 0 0 1), (13, I64 (z.1))], [], [(10, ⟨5, (.int .u8), d1⟩), (12, ⟨118, (.int .u8), (z.2)⟩)]⟩) ?_ (fun hJ3 => ?_)
        · rintro ⟨i2, a2⟩ h
          unfold internal_strconv_formatBits_16_false_j3 at h
          refine W_seq ?_
          refine W_seq ?_
          refine W_region ?_
          refine WL_all hE [0, 10, 11, 12, 13, 94] [] [10, 12] (st' := ⟨[(0, .val (.sl (.int .u8)) dst1), (10, .row 10), (11, SS ([] : List UInt8)), (12, .rptr 12 0 0 1), (13, I64 i2), (94, BB false)], [], [(10, ⟨5, (.int .u8), d1⟩), (12, ⟨118, (.int .u8), a2⟩)]⟩) (orc := []) (ob := []) (by kernel_rfl) trivial ?_
          refine N_then ?_
          refine W_cond_false (by kernel_rfl) ?_
          refine W_skip ?_
          refine N_then ?_
          refine W_seq ?_
          refine W_region ?_
          obtain ⟨s1, e1, h⟩ := bind_some h
          obtain ⟨_, e2, h⟩ := bind_some h
          replace e2 := chk_some e2
          refine WL_all hE [10, 11] [] [10] (st' := ⟨[(10, .row 10), (11, SS (bytesStr s1))], [], [(10, ⟨5, (.int .u8), d1⟩)]⟩) (orc := [⟨(.sl (.int .u8)), s1⟩]) (ob := [sub? a2 i2 (a2.length : Int) = some s1, List.length a2 = 65]) (by kernel_rfl) ⟨e1, e2, trivial⟩ ?_
          refine N_then ?_
          refine W_ret ?_
          cases h
          exact N_end (.inl rfl) (by kernel_rfl)
        refine W_seq ?_
        refine W_region ?_
        refine WL_all hE [0, 4, 10, 11, 12, 13, 89] [] [10, 12] (st' := ⟨[(0, .val (.sl (.int .u8)) dst1), (4, BB false), (10, .row 10), (11, SS ([] : List UInt8)), (12, .rptr 12 0 0 1), (13, I64 i1), (89, BB neg1)], [], [(10, ⟨5, (.int .u8), d1⟩), (12, ⟨118, (.int .u8), a1⟩)]⟩) (orc := []) (ob := []) (by kernel_rfl) trivial ?_
        refine N_then ?_
        refine W_cond (b := neg1) (by kernel_rfl) (fun e3 => ?_) (fun e3 => ?_)
        · replace h := ite_t e3 h
          refine W_seq ?_
          refine W_region ?_
          refine WL_all hE [0, 4, 10, 11, 12, 13] [] [10, 12] (st' := ⟨[(0, .val (.sl (.int .u8)) dst1), (4, BB false), (10, .row 10), (11, SS ([] : List UInt8)), (12, .rptr 12 0 0 1), (13, I64 (wi64 (i1 - (1 : Int))))], [], [(10, ⟨5, (.int .u8), d1⟩), (12, ⟨118, (.int .u8), a1⟩)]⟩) (orc := []) (ob := []) (by kernel_rfl) trivial ?_
          refine N_then ?_
          refine W_region ?_
          obtain ⟨x1, e4, h⟩ := bind_some h
          obtain ⟨_, e5, h⟩ := bind_some h
          replace e5 := chk_some e5
          refine WL_all hE [0, 4, 10, 11, 12, 13] [] [10, 12] (st' := ⟨[(0, .val (.sl (.int .u8)) dst1), (4, BB false), (10, .row 10), (11, SS ([] : List UInt8)), (12, .rptr 12 0 0 1), (13, I64 (wi64 (i1 - (1 : Int))))], [], [(10, ⟨5, (.int .u8), d1⟩), (12, ⟨118, (.int .u8), List.set a1 (wi64 (i1 - (1 : Int))).toNat (45 : Int)⟩)]⟩) (orc := [tU8 x1, tU8 x1]) (ob := [at? a1 (wi64 (i1 - (1 : Int))) = some x1, List.length a1 = 65, at? a1 (wi64 (i1 - (1 : Int))) = some x1]) (by kernel_rfl) ⟨e4, e5, e4, trivial⟩ ?_
          exact hJ3 (wi64 (i1 - (1 : Int)), List.set a1 (wi64 (i1 - (1 : Int))).toNat (45 : Int)) h
        · replace h := ite_f e3 h
          refine W_skip ?_
          refine N.norm (st' := ⟨[(0, .val (.sl (.int .u8)) dst1), (4, BB false), (10, .row 10), (11, SS ([] : List UInt8)), (12, .rptr 12 0 0 1), (13, I64 i1)], [], [(10, ⟨5, (.int .u8), d1⟩), (12, ⟨118, (.int .u8), a1⟩)]⟩) (ks := [0, 4, 10, 11, 12, 13]) (bs := []) (rs := [10, 12]) ?_ (by kernel_rfl)
          exact hJ3 (i1, a1) h
      refine W_seq ?_
      refine W_region ?_
      refine WL_all hE [0, 1, 2, 3, 4, 10, 11, 12, 13, 34] [] [10, 12] (st' := ⟨[(0, .val (.sl (.int .u8)) dst1), (1, U64 u2), (2, I64 (16 : Int)), (3, BB neg1), (4, BB false), (10, .row 10), (11, SS ([] : List UInt8)), (12, .rptr 12 0 0 1), (13, I64 (65 : Int)), (34, BB true)], [], [(10, ⟨5, (.int .u8), ([] : List (Int))⟩), (12, ⟨118, (.int .u8), List.replicate 65 (0 : Int)⟩)]⟩) (orc := [tB true]) (ob := [(16 : Int) = (16 : Int) ∧ internal_strconv_isPowerOfTwo_16 k = some true]) (by kernel_rfl) ⟨⟨rfl, rfl⟩, trivial⟩ ?_
      refine N_then ?_
      refine W_cond_true (by kernel_rfl) ?_
      refine W_seq ?_
      refine W_region ?_
      refine WL_all hE [0, 1, 2, 3, 4, 10, 11, 12, 13, 14] [] [10, 12] (st' := ⟨[(0, .val (.sl (.int .u8)) dst1), (1, U64 u2), (2, I64 (16 : Int)), (3, BB neg1), (4, BB false), (10, .row 10), (11, SS ([] : List UInt8)), (12, .rptr 12 0 0 1), (13, I64 (65 : Int)), (14, U64 (4 : Int))], [], [(10, ⟨5, (.int .u8), ([] : List (Int))⟩), (12, ⟨118, (.int .u8), List.replicate 65 (0 : Int)⟩)]⟩) (orc := [tI64 (4 : Int)]) (ob := [math_bits_TrailingZeros k (16 : Int) = some (4 : Int)]) (by kernel_rfl) ⟨rfl, trivial⟩ ?_
      refine N_then ?_
      refine W_seq ?_
      refine W_region ?_
      refine WL_all hE [0, 1, 2, 3, 4, 10, 11, 12, 13, 14, 15] [] [10, 12] (st' := ⟨[(0, .val (.sl (.int .u8)) dst1), (1, U64 u2), (2, I64 (16 : Int)), (3, BB neg1), (4, BB false), (10, .row 10), (11, SS ([] : List UInt8)), (12, .rptr 12 0 0 1), (13, I64 (65 : Int)), (14, U64 (4 : Int)), (15, U64 (16 : Int))], [], [(10, ⟨5, (.int .u8), ([] : List (Int))⟩), (12, ⟨118, (.int .u8), List.replicate 65 (0 : Int)⟩)]⟩) (orc := []) (ob := []) (by kernel_rfl) trivial ?_
      refine N_then ?_
      refine W_seq ?_
      refine W_region ?_
      refine WL_all hE [0, 1, 3, 4, 10, 11, 12, 13, 14, 15, 16] [] [10, 12] (st' := ⟨[(0, .val (.sl (.int .u8)) dst1), (1, U64 u2), (3, BB neg1), (4, BB false), (10, .row 10), (11, SS ([] : List UInt8)), (12, .rptr 12 0 0 1), (13, I64 (65 : Int)), (14, U64 (4 : Int)), (15, U64 (16 : Int)), (16, U64 (15 : Int))], [], [(10, ⟨5, (.int .u8), ([] : List (Int))⟩), (12, ⟨118, (.int .u8), List.replicate 65 (0 : Int)⟩)]⟩) (orc := []) (ob := []) (by kernel_rfl) trivial ?_
      refine N_then ?_
      refine W_seq ?_
      refine W_block ?_
      refine W_loop (α := (Int × Int × List (Int))) (fun n z => internal_strconv_formatBits_16_false_l1 neg1 n z.1 z.2.1 z.2.2 = some (r1, r2)) (fun z => ⟨[(0, .val (.sl (.int .u8)) dst1), (1, U64 (z.1)), (3, BB neg1), (4, BB false), (10, .row 10), (11, SS ([] : List UInt8)), (12, .rptr 12 0 0 1), (13, I64 (z.2.1)), (14, U64 (4 : Int)), (15, U64 (16 : Int)), (16, U64 (15 : Int))], [], [(10, ⟨5, (.int .u8), ([] : List (Int))⟩), (12, ⟨118, (.int .u8), (z.2.2)⟩)]⟩) ?_ (k := k) (x := (u2, (65 : Int), List.replicate 65 (0 : Int))) h
      clear h
      rintro fuel1 ⟨u3, i3, a3⟩ h
      cases fuel1 with
      | zero => exact absurd (show none = some _ from h) (by simp)
      | succ fuel1 =>
        have h : internal_strconv_formatBits_16_false_b1 neg1 (internal_strconv_formatBits_16_false_l1 neg1 fuel1) u3 i3 a3 = some (r1, r2) := h
        unfold internal_strconv_formatBits_16_false_b1 at h
        refine W_seq ?_
        refine W_seq ?_
        refine W_region ?_
        refine WL_all hE [0, 1, 3, 4, 10, 11, 12, 13, 14, 15, 16, 46] [] [10, 12] (st' := ⟨[(0, .val (.sl (.int .u8)) dst1), (1, U64 u3), (3, BB neg1), (4, BB false), (10, .row 10), (11, SS ([] : List UInt8)), (12, .rptr 12 0 0 1), (13, I64 i3), (14, U64 (4 : Int)), (15, U64 (16 : Int)), (16, U64 (15 : Int)), (46, BB (decide ((16 : Int) ≤ u3)))], [], [(10, ⟨5, (.int .u8), ([] : List (Int))⟩), (12, ⟨118, (.int .u8), a3⟩)]⟩) (orc := []) (ob := []) (by kernel_rfl) trivial ?_
        refine N_then ?_
        refine W_cond (b := decide ((16 : Int) ≤ u3)) (by kernel_rfl) (fun e6 => ?_) (fun e6 => ?_)
        · replace h := ite_t e6 h
          refine W_skip ?_
          refine N_then ?_
          refine W_block ?_
          refine W_seq ?_
          refine W_region ?_
          refine WL_all hE [0, 1, 3, 4, 10, 11, 12, 13, 14, 15, 16] [] [10, 12] (st' := ⟨[(0, .val (.sl (.int .u8)) dst1), (1, U64 u3), (3, BB neg1), (4, BB false), (10, .row 10), (11, SS ([] : List UInt8)), (12, .rptr 12 0 0 1), (13, I64 (wi64 (i3 - (1 : Int)))), (14, U64 (4 : Int)), (15, U64 (16 : Int)), (16, U64 (15 : Int))], [], [(10, ⟨5, (.int .u8), ([] : List (Int))⟩), (12, ⟨118, (.int .u8), a3⟩)]⟩) (orc := []) (ob := []) (by kernel_rfl) trivial ?_
          refine N_then ?_
          refine W_seq ?_
          refine W_region ?_
          obtain ⟨b1, e8, h⟩ := bind_some h
          obtain ⟨x2, e7, h⟩ := bind_some h
          obtain ⟨_, e9, h⟩ := bind_some h
          replace e9 := chk_some e9
          refine WL_all hE [0, 1, 3, 4, 10, 11, 12, 13, 14, 15, 16] [] [10, 12] (st' := ⟨[(0, .val (.sl (.int .u8)) dst1), (1, U64 u3), (3, BB neg1), (4, BB false), (10, .row 10), (11, SS ([] : List UInt8)), (12, .rptr 12 0 0 1), (13, I64 (wi64 (i3 - (1 : Int)))), (14, U64 (4 : Int)), (15, U64 (16 : Int)), (16, U64 (15 : Int))], [], [(10, ⟨5, (.int .u8), ([] : List (Int))⟩), (12, ⟨118, (.int .u8), List.set a3 (wi64 (i3 - (1 : Int))).toNat b1⟩)]⟩) (orc := [tU8 b1, tU8 x2, tU8 x2]) (ob := [byteAt ([48, 49, 50, 51, 52, 53, 54, 55, 56, 57, 97, 98, 99, 100, 101, 102, 103, 104, 105, 106, 107, 108, 109, 110, 111, 112, 113, 114, 115, 116, 117, 118, 119, 120, 121, 122] : List UInt8) (wu64 (BitVec.toNat (BitVec.ofInt 64 u3 &&& BitVec.ofInt 64 (15 : Int)))) = some b1, at? a3 (wi64 (i3 - (1 : Int))) = some x2, List.length a3 = 65, at? a3 (wi64 (i3 - (1 : Int))) = some x2]) (by kernel_rfl) ⟨e8, e7, e9, e7, trivial⟩ ?_
          refine N_then ?_
          refine W_region ?_
          obtain ⟨_, e10, h⟩ := bind_some h
          replace e10 := chk_some e10
          refine WL_all hE [0, 1, 3, 4, 10, 11, 12, 13, 14, 15, 16] [] [10, 12] (st' := ⟨[(0, .val (.sl (.int .u8)) dst1), (1, U64 (Int.fdiv u3 (2 ^ min ((4 : Int)).toNat 64))), (3, BB neg1), (4, BB false), (10, .row 10), (11, SS ([] : List UInt8)), (12, .rptr 12 0 0 1), (13, I64 (wi64 (i3 - (1 : Int)))), (14, U64 (4 : Int)), (15, U64 (16 : Int)), (16, U64 (15 : Int))], [], [(10, ⟨5, (.int .u8), ([] : List (Int))⟩), (12, ⟨118, (.int .u8), List.set a3 (wi64 (i3 - (1 : Int))).toNat b1⟩)]⟩) (orc := []) (ob := [0 ≤ (4 : Int)]) (by kernel_rfl) ⟨e10, trivial⟩ ?_
          refine N_block ?_
          exact N_round (Int.fdiv u3 (2 ^ min ((4 : Int)).toNat 64), wi64 (i3 - (1 : Int)), List.set a3 (wi64 (i3 - (1 : Int))).toNat b1) (Nat.lt_succ_self _) h
        · replace h := ite_f e6 h
          refine W_exit ?_
          refine N_then_exit ?_
          refine N_then_exit ?_
          refine N_block_exit ?_
          refine N_then ?_
          refine W_seq ?_
          refine W_region ?_
          refine WL_all hE [0, 1, 3, 4, 10, 11, 12, 13] [] [10, 12] (st' := ⟨[(0, .val (.sl (.int .u8)) dst1), (1, U64 u3), (3, BB neg1), (4, BB false), (10, .row 10), (11, SS ([] : List UInt8)), (12, .rptr 12 0 0 1), (13, I64 (wi64 (i3 - (1 : Int))))], [], [(10, ⟨5, (.int .u8), ([] : List (Int))⟩), (12, ⟨118, (.int .u8), a3⟩)]⟩) (orc := []) (ob := []) (by kernel_rfl) trivial ?_
          refine N_then ?_
          refine W_region ?_
          obtain ⟨b2, e12, h⟩ := bind_some h
          obtain ⟨x3, e11, h⟩ := bind_some h
          obtain ⟨_, e13, h⟩ := bind_some h
          replace e13 := chk_some e13
          refine WL_all hE [0, 3, 4, 10, 11, 12, 13] [] [10, 12] (st' := ⟨[(0, .val (.sl (.int .u8)) dst1), (3, BB neg1), (4, BB false), (10, .row 10), (11, SS ([] : List UInt8)), (12, .rptr 12 0 0 1), (13, I64 (wi64 (i3 - (1 : Int))))], [], [(10, ⟨5, (.int .u8), ([] : List (Int))⟩), (12, ⟨118, (.int .u8), List.set a3 (wi64 (i3 - (1 : Int))).toNat b2⟩)]⟩) (orc := [tU8 b2, tU8 x3, tU8 x3]) (ob := [byteAt ([48, 49, 50, 51, 52, 53, 54, 55, 56, 57, 97, 98, 99, 100, 101, 102, 103, 104, 105, 106, 107, 108, 109, 110, 111, 112, 113, 114, 115, 116, 117, 118, 119, 120, 121, 122] : List UInt8) u3 = some b2, at? a3 (wi64 (i3 - (1 : Int))) = some x3, List.length a3 = 65, at? a3 (wi64 (i3 - (1 : Int))) = some x3]) (by kernel_rfl) ⟨e12, e11, e13, e11, trivial⟩ ?_
          exact hJ3 (wi64 (i3 - (1 : Int)), ([] : List (Int)), List.set a3 (wi64 (i3 - (1 : Int))).toNat b2) h
    refine W_seq ?_
    refine W_region ?_
    refine WL_all hE [0, 1, 2, 3, 4, 10, 11, 12, 13, 30] [] [10, 12] (st' := ⟨[(0, .val (.sl (.int .u8)) dst1), (1, U64 u1), (2, I64 (16 : Int)), (3, BB neg1), (4, BB false), (10, .row 10), (11, SS ([] : List UInt8)), (12, .rptr 12 0 0 1), (13, I64 (65 : Int)), (30, BB neg1)], [], [(10, ⟨5, (.int .u8), ([] : List (Int))⟩), (12, ⟨118, (.int .u8), List.replicate 65 (0 : Int)⟩)]⟩) (orc := []) (ob := []) (by kernel_rfl) trivial ?_
    refine N_then ?_
    refine W_cond (b := neg1) (by kernel_rfl) (fun e14 => ?_) (fun e14 => ?_)
    · replace h := ite_t e14 h
      refine W_region ?_
      refine WL_all hE [0, 1, 2, 3, 4, 10, 11, 12, 13] [] [10, 12] (st' := ⟨[(0, .val (.sl (.int .u8)) dst1), (1, U64 (negI .u64 u1)), (2, I64 (16 : Int)), (3, BB neg1), (4, BB false), (10, .row 10), (11, SS ([] : List UInt8)), (12, .rptr 12 0 0 1), (13, I64 (65 : Int))], [], [(10, ⟨5, (.int .u8), ([] : List (Int))⟩), (12, ⟨118, (.int .u8), List.replicate 65 (0 : Int)⟩)]⟩) (orc := []) (ob := []) (by kernel_rfl) trivial ?_
      exact hJ3 (negI .u64 u1) h
    · replace h := ite_f e14 h
      refine W_skip ?_
      refine N.norm (st' := ⟨[(0, .val (.sl (.int .u8)) dst1), (1, U64 u1), (2, I64 (16 : Int)), (3, BB neg1), (4, BB false), (10, .row 10), (11, SS ([] : List UInt8)), (12, .rptr 12 0 0 1), (13, I64 (65 : Int))], [], [(10, ⟨5, (.int .u8), ([] : List (Int))⟩), (12, ⟨118, (.int .u8), List.replicate 65 (0 : Int)⟩)]⟩) (ks := [0, 1, 2, 3, 4, 10, 11, 12, 13]) (bs := []) (rs := [10, 12]) ?_ (by kernel_rfl)
      exact hJ3 u1 h

def C_internal_strconv_FormatInt_16 (k : Nat) : FnC := ⟨true, 1, [], fun | [⟨(.int .i64), i1⟩, ⟨(.int .i64), const1⟩], [⟨.str, r⟩] => const1 = (16 : Int) ∧ internal_strconv_FormatInt_16 k i1 = some r | _, _ => False⟩
noncomputable def E_internal_strconv_FormatInt_16 (k : Nat) : Env := ⟨Tryd.prog, Gt, 54, [(89, C_internal_strconv_formatBits_16_false k)]⟩
theorem c_internal_strconv_FormatInt_16 (k : Nat) : Contract Tryd.prog Gt 77 (C_internal_strconv_FormatInt_16 k) := by
  refine contract_of Gt_stable (fn := Tryd.f77) Tryd.func77 (by kernel_rfl) rfl ?_ ?_
  · intro xs rs h
    unfold C_internal_strconv_FormatInt_16 at h
    simp only at h
    split at h
    · exact ⟨by show 2 ≤ _; rw [Tryd.ntmps77]; decide, rfl, fun _ u hu => by simp at hu; (rcases hu with rfl) <;> rfl⟩
    · exact h.elim
  · intro w0 M xs rs hG h
    unfold C_internal_strconv_FormatInt_16 at h
    simp only at h
    split at h
    case h_2 => exact h.elim
    rename_i i1 const1 r
    change Int at i1
    change Int at const1
    change List UInt8 at r
    obtain ⟨rfl, h⟩ := h
    have hE : EnvOK (E_internal_strconv_FormatInt_16 k) ⟨Tryd.prog, Tryd.f77.ntmps, w0, M, fun _ => False, fun _ => undef⟩ := (EnvOK.cons (c_internal_strconv_formatBits_16_false k) (EnvOK.nil rfl Tryd.ntmps77 hG))
    unfold internal_strconv_FormatInt_16 at h
    refine W_seq ?_
    refine W_region ?_
    refine WL_all hE [0, 1] [] [] (st' := ⟨[(0, I64 i1), (1, I64 (16 : Int))], [], []⟩) (orc := []) (ob := []) (by kernel_rfl) trivial ?_
    refine N_then ?_
    refine W_seq ?_
    refine W_seq ?_
    refine W_region ?_
    refine WL_all hE [0, 1, 11] [] [] (st' := ⟨[(0, I64 i1), (1, I64 (16 : Int)), (11, BB false)], [], []⟩) (orc := []) (ob := []) (by kernel_rfl) trivial ?_
    refine N_then ?_
    refine W_cond_false (by kernel_rfl) ?_
    refine W_skip ?_
    refine N_then ?_
    refine W_seq ?_
    refine W_region ?_
    obtain ⟨v1, e1, h⟩ := bind_some h
    refine WL_all hE [9] [] [] (st' := ⟨[(9, SS v1.2)], [], []⟩) (orc := [⟨(.sl (.int .u8)), v1.1⟩, tS v1.2]) (ob := [(16 : Int) = (16 : Int) ∧ false = false ∧ internal_strconv_formatBits_16_false k ([] : List (Int)) (wu64 i1) (decide (i1 < (0 : Int))) = some ((v1).1, (v1).2)]) (by kernel_rfl) ⟨⟨rfl, rfl, e1⟩, trivial⟩ ?_
    refine N_then ?_
    refine W_seq ?_
    refine W_region ?_
    refine WL_all hE [4] [] [] (st' := ⟨[(4, SS v1.2)], [], []⟩) (orc := []) (ob := []) (by kernel_rfl) trivial ?_
    refine N_then ?_
    refine W_ret ?_
    cases h
    exact N_end (.inl rfl) (by kernel_rfl)

def C_strconv_FormatInt_16 (k : Nat) : FnC := ⟨true, 1, [], fun | [⟨(.int .i64), i1⟩, ⟨(.int .i64), const1⟩], [⟨.str, r⟩] => const1 = (16 : Int) ∧ strconv_FormatInt_16 k i1 = some r | _, _ => False⟩
noncomputable def E_strconv_FormatInt_16 (k : Nat) : Env := ⟨Tryd.prog, Gt, 8, [(77, C_internal_strconv_FormatInt_16 k)]⟩
theorem c_strconv_FormatInt_16 (k : Nat) : Contract Tryd.prog Gt 67 (C_strconv_FormatInt_16 k) := by
  refine contract_of Gt_stable (fn := Tryd.f67) Tryd.func67 (by kernel_rfl) rfl ?_ ?_
  · intro xs rs h
    unfold C_strconv_FormatInt_16 at h
    simp only at h
    split at h
    · exact ⟨by show 2 ≤ _; rw [Tryd.ntmps67]; decide, rfl, fun _ u hu => by simp at hu; (rcases hu with rfl) <;> rfl⟩
    · exact h.elim
  · intro w0 M xs rs hG h
    unfold C_strconv_FormatInt_16 at h
    simp only at h
    split at h
    case h_2 => exact h.elim
    rename_i i1 const1 r
    change Int at i1
    change Int at const1
    change List UInt8 at r
    obtain ⟨rfl, h⟩ := h
    have hE : EnvOK (E_strconv_FormatInt_16 k) ⟨Tryd.prog, Tryd.f67.ntmps, w0, M, fun _ => False, fun _ => undef⟩ := (EnvOK.cons (c_internal_strconv_FormatInt_16 k) (EnvOK.nil rfl Tryd.ntmps67 hG))
    unfold strconv_FormatInt_16 at h
    refine W_seq ?_
    refine W_region ?_
    refine WL_all hE [0, 1] [] [] (st' := ⟨[(0, I64 i1), (1, I64 (16 : Int))], [], []⟩) (orc := []) (ob := []) (by kernel_rfl) trivial ?_
    refine N_then ?_
    refine W_seq ?_
    refine W_region ?_
    obtain ⟨v1, e1, h⟩ := bind_some h
    refine WL_all hE [4] [] [] (st' := ⟨[(4, SS v1)], [], []⟩) (orc := [tS v1]) (ob := [(16 : Int) = (16 : Int) ∧ internal_strconv_FormatInt_16 k i1 = some v1]) (by kernel_rfl) ⟨⟨rfl, e1⟩, trivial⟩ ?_
    refine N_then ?_
    refine W_ret ?_
    cases h
    exact N_end (.inl rfl) (by kernel_rfl)

def C_runes_shown (k : Nat) : FnC := ⟨true, 1, [], fun | [⟨.str, s1⟩, ⟨(.pair (.int .i32) (.pair (.int .i64) (.pair (.int .i64) (.pair .bool .unit)))), p1⟩], [⟨.str, r⟩] => runes_shown k s1 p1 = some r | _, _ => False⟩
noncomputable def E_runes_shown (k : Nat) : Env := ⟨Tryd.prog, Gt, 40, [(66, C_strconv_FormatUint_16 k), (67, C_strconv_FormatInt_16 k)]⟩
theorem c_runes_shown (k : Nat) : Contract Tryd.prog Gt 56 (C_runes_shown k) := by
  refine contract_of Gt_stable (fn := Tryd.f56) Tryd.func56 (by kernel_rfl) rfl ?_ ?_
  · intro xs rs h
    unfold C_runes_shown at h
    simp only at h
    split at h
    · exact ⟨by show 2 ≤ _; rw [Tryd.ntmps56]; decide, rfl, fun _ u hu => by simp at hu; (rcases hu with rfl) <;> rfl⟩
    · exact h.elim
  · intro w0 M xs rs hG h
    unfold C_runes_shown at h
    simp only at h
    split at h
    case h_2 => exact h.elim
    rename_i s1 p1 r
    change List UInt8 at s1
    change (Int × Int × Int × Bool × Unit) at p1
    change List UInt8 at r
    have hE : EnvOK (E_runes_shown k) ⟨Tryd.prog, Tryd.f56.ntmps, w0, M, fun _ => False, fun _ => undef⟩ := (EnvOK.cons (c_strconv_FormatUint_16 k) (EnvOK.cons (c_strconv_FormatInt_16 k) (EnvOK.nil rfl Tryd.ntmps56 hG)))
    unfold runes_shown at h
    refine W_seq ?_
    refine W_region ?_
    refine WL_all hE [0, 3] [3] [] (st' := ⟨[(0, SS s1), (3, .ptr 3 0)], [(3, .cells [I32 p1.1, I64 p1.2.1, I64 p1.2.2.1, BB p1.2.2.2.1] 35)], []⟩) (orc := []) (ob := []) (by kernel_rfl) trivial ?_
    refine N_then ?_
    refine W_seq ?_
    refine W_seq ?_
    refine W_region ?_
    obtain ⟨b1, e1, h⟩ := bind_some h
    refine WL_all hE [3, 5] [3] [] (st' := ⟨[(3, .ptr 3 0), (5, U8 b1)], [(3, .cells [I32 p1.1, I64 p1.2.1, I64 p1.2.2.1, BB p1.2.2.2.1] 35)], []⟩) (orc := [tU8 b1]) (ob := [byteAt s1 p1.2.1 = some b1]) (by kernel_rfl) ⟨e1, trivial⟩ ?_
    refine N_then ?_
    refine W_block ?_
    refine W_seq ?_
    refine W_region ?_
    refine WL_all hE [3, 5, 10] [3] [] (st' := ⟨[(3, .ptr 3 0), (5, U8 b1), (10, BB p1.2.2.2.1)], [(3, .cells [I32 p1.1, I64 p1.2.1, I64 p1.2.2.1, BB p1.2.2.2.1] 35)], []⟩) (orc := []) (ob := []) (by kernel_rfl) trivial ?_
    refine N_then ?_
    refine W_cond (b := p1.2.2.2.1) (by kernel_rfl) (fun e2 => ?_) (fun e2 => ?_)
    · replace h := ite_t e2 h
      refine W_seq ?_
      refine W_region ?_
      obtain ⟨v1, e3, h⟩ := bind_some h
      obtain ⟨_, e4, h⟩ := bind_some h
      replace e4 := chk_some e4
      refine WL_all hE [4] [] [] (st' := ⟨[(4, SS (([92, 120] : List UInt8) ++ v1))], [], []⟩) (orc := [tS v1]) (ob := [(16 : Int) = (16 : Int) ∧ strconv_FormatUint_16 k (wu64 b1) = some v1, List.length ([92, 120] : List UInt8) + List.length v1 ≤ lim]) (by kernel_rfl) ⟨⟨rfl, e3⟩, e4, trivial⟩ ?_
      refine N_then ?_
      refine W_ret ?_
      refine N_block_ret ?_
      refine N_then_ret ?_
      cases h
      exact N_end (.inl rfl) (by kernel_rfl)
    · replace h := ite_f e2 h
      refine W_join (α := Bool) (fun z => runes_shown_j1 k b1 p1 z = some r) (fun t1 => ⟨[(3, .ptr 3 0), (5, U8 b1), (17, BB t1)], [(3, .cells [I32 p1.1, I64 p1.2.1, I64 p1.2.2.1, BB p1.2.2.2.1] 35)], []⟩) ?_ (fun hJ2 => ?_)
      · rintro t1 h
        unfold runes_shown_j1 at h
        refine W_cond (b := t1) (by kernel_rfl) (fun e5 => ?_) (fun e5 => ?_)
        · replace h := ite_t e5 h
          refine W_seq ?_
          refine W_region ?_
          obtain ⟨_, e6, h⟩ := bind_some h
          replace e6 := chk_some e6
          refine WL_all hE [4] [] [] (st' := ⟨[(4, SS (([92] : List UInt8) ++ ((Utf8.encode b1).data.toList)))], [], []⟩) (orc := []) (ob := [List.length ([92] : List UInt8) + List.length ((Utf8.encode b1).data.toList) ≤ lim]) (by kernel_rfl) ⟨e6, trivial⟩ ?_
          refine N_then ?_
          refine W_ret ?_
          refine N_block_ret ?_
          refine N_then_ret ?_
          cases h
          exact N_end (.inl rfl) (by kernel_rfl)
        · replace h := ite_f e5 h
          refine W_seq ?_
          refine W_region ?_
          refine WL_tk hE 3 [3, 5, 28] [3] [] (st' := ⟨[(3, .ptr 3 0), (5, U8 b1), (28, BB (decide ((32 : Int) ≤ b1)))], [(3, .cells [I32 p1.1, I64 p1.2.1, I64 p1.2.2.1, BB p1.2.2.2.1] 35)], []⟩) (orc := []) (ob := []) (by kernel_rfl) trivial ?_
          refine WL_join (α := Bool) (fun z => runes_shown_j2 k b1 p1 z = some r) (fun t2 => ⟨[(3, .ptr 3 0), (5, U8 b1), (31, BB t2)], [(3, .cells [I32 p1.1, I64 p1.2.1, I64 p1.2.2.1, BB p1.2.2.2.1] 35)], []⟩) 3 ?_ (fun hJ2 => ?_)
          · rintro t2 h
            unfold runes_shown_j2 at h
            refine WL_all hE [3, 5, 25] [3] [] (st' := ⟨[(3, .ptr 3 0), (5, U8 b1), (25, BB t2)], [(3, .cells [I32 p1.1, I64 p1.2.1, I64 p1.2.2.1, BB p1.2.2.2.1] 35)], []⟩) (orc := []) (ob := []) (by kernel_rfl) trivial ?_
            refine N_then ?_
            refine W_cond (b := t2) (by kernel_rfl) (fun e7 => ?_) (fun e7 => ?_)
            · replace h := ite_t e7 h
              refine W_seq ?_
              refine W_region ?_
              refine WL_all hE [4] [] [] (st' := ⟨[(4, SS ((Utf8.encode b1).data.toList))], [], []⟩) (orc := []) (ob := []) (by kernel_rfl) trivial ?_
              refine N_then ?_
              refine W_ret ?_
              refine N_block_ret ?_
              refine N_then_ret ?_
              cases h
              exact N_end (.inl rfl) (by kernel_rfl)
            · replace h := ite_f e7 h
              refine W_skip ?_
              refine N_block ?_
              refine N_then ?_
              refine W_seq ?_
              refine W_region ?_
              obtain ⟨v2, e8, h⟩ := bind_some h
              obtain ⟨_, e9, h⟩ := bind_some h
              replace e9 := chk_some e9
              obtain ⟨_, e10, h⟩ := bind_some h
              replace e10 := chk_some e10
              refine WL_all hE [4] [] [] (st' := ⟨[(4, SS ((([92, 117] : List UInt8) ++ v2) ++ ([59] : List UInt8)))], [], []⟩) (orc := [tS v2]) (ob := [(16 : Int) = (16 : Int) ∧ strconv_FormatInt_16 k (wi64 p1.1) = some v2, List.length ([92, 117] : List UInt8) + List.length v2 ≤ lim, List.length (([92, 117] : List UInt8) ++ v2) + List.length ([59] : List UInt8) ≤ lim]) (by kernel_rfl) ⟨⟨rfl, e8⟩, e9, e10, trivial⟩ ?_
              refine N_then ?_
              refine W_ret ?_
              cases h
              exact N_end (.inl rfl) (by kernel_rfl)
          refine WL_split (fun g => ⟨[(3, .ptr 3 0), (5, U8 b1), (28, BB g)], [(3, .cells [I32 p1.1, I64 p1.2.1, I64 p1.2.2.1, BB p1.2.2.2.1] 35)], []⟩) (b := decide ((32 : Int) ≤ b1)) (fun e11 => ?_) (fun e11 => ?_)
          · rw [and_t e11] at h
            refine WL_all hE [3, 5, 31] [3] [] (st' := ⟨[(3, .ptr 3 0), (5, U8 b1), (31, BB (decide (b1 < (127 : Int))))], [(3, .cells [I32 p1.1, I64 p1.2.1, I64 p1.2.2.1, BB p1.2.2.2.1] 35)], []⟩) (orc := []) (ob := []) (by kernel_rfl) trivial ?_
            exact hJ2 (decide (b1 < (127 : Int))) h
          · rw [and_f e11] at h
            refine WL_all hE [3, 5, 31] [3] [] (st' := ⟨[(3, .ptr 3 0), (5, U8 b1), (31, BB false)], [(3, .cells [I32 p1.1, I64 p1.2.1, I64 p1.2.2.1, BB p1.2.2.2.1] 35)], []⟩) (orc := []) (ob := []) (by kernel_rfl) trivial ?_
            exact hJ2 false h
      refine W_seq ?_
      refine W_region ?_
      refine WL_all hE [3, 5, 17] [3] [] (st' := ⟨[(3, .ptr 3 0), (5, U8 b1), (17, BB (b1 == (34 : Int)))], [(3, .cells [I32 p1.1, I64 p1.2.1, I64 p1.2.2.1, BB p1.2.2.2.1] 35)], []⟩) (orc := []) (ob := []) (by kernel_rfl) trivial ?_
      refine N_then ?_
      refine W_cond (b := b1 == (34 : Int)) (by kernel_rfl) (fun e12 => ?_) (fun e12 => ?_)
      · replace h := ite_t e12 h
        refine W_skip ?_
        exact hJ2 (b1 == (34 : Int)) h
      · replace h := ite_f e12 h
        refine W_region ?_
        refine WL_all hE [3, 5, 17] [3] [] (st' := ⟨[(3, .ptr 3 0), (5, U8 b1), (17, BB (b1 == (92 : Int)))], [(3, .cells [I32 p1.1, I64 p1.2.1, I64 p1.2.2.1, BB p1.2.2.2.1] 35)], []⟩) (orc := []) (ob := []) (by kernel_rfl) trivial ?_
        exact hJ2 (b1 == (92 : Int)) h

def B_strings_Builder_WriteString_i1 (k : Nat) : FnB (List UInt8 × List (Int)) (Bool × Int × List (Int)) where
  n := 19
  S := fun z => ⟨[(0, .ptr 19 0), (1, SS (z.1))], [(19, .cells [.selfp 19, .row 20] 59)], [(20, ⟨5, (.int .u8), (z.2)⟩)]⟩
  S' := fun z y => ⟨[], [(19, .cells [.selfp 19, .row 20] 59)], [(20, ⟨5, (.int .u8), (y.2.2)⟩)]⟩
  rs := fun z y => [I64 (y.2.1), .val .err (y.1)]
  rel := fun z y => strings_Builder_WriteString_i1 k (z.1) (z.2) = some y
noncomputable def E_strings_Builder_WriteString_i1 (k : Nat) : Env := ⟨Tryd.prog, Gt, 19, []⟩
theorem b_strings_Builder_WriteString_i1 (k : Nat) : BC Tryd.prog Gt 47 (B_strings_Builder_WriteString_i1 k) := by
  refine bc_of (fn := Tryd.f47) Tryd.func47 (by kernel_rfl) rfl Tryd.ntmps47 ?_
  rintro cx hP hn hG ⟨s1, l1⟩ y0 h
  have hE : EnvOK (E_strings_Builder_WriteString_i1 k) cx := (EnvOK.nil hP hn hG)
  replace h : strings_Builder_WriteString_i1 k s1 l1 = some y0 := h
  unfold strings_Builder_WriteString_i1 at h
  refine W_seq ?_
  refine W_region ?_
  refine WL_all hE [0, 1] [19] [20] (st' := ⟨[(0, .ptr 19 0), (1, SS s1)], [(19, .cells [.selfp 19, .row 20] 59)], [(20, ⟨5, (.int .u8), l1⟩)]⟩) (orc := []) (ob := []) (by kernel_rfl) trivial ?_
  refine N_then ?_
  refine W_seq ?_
  refine W_region ?_
  refine WL_tk hE 1 [0, 1, 6] [19] [20] (st' := ⟨[(0, .ptr 19 0), (1, SS s1), (6, .ptr 19 0)], [(19, .cells [.selfp 19, .row 20] 59)], [(20, ⟨5, (.int .u8), l1⟩)]⟩) (orc := []) (ob := []) (by kernel_rfl) trivial ?_
  obtain ⟨v1, e1, h⟩ := bind_some h
  refine WL_callB hE (b_bld_copyCheck k) l1 v1 e1 (ρ := [(19, 20), (20, 21)]) (ρ' := [(20, 19), (21, 20)]) (n := 20) (by kernel_rfl) [0, 1] [19] [20] (by kernel_rfl) (by kernel_rfl) (st' := ⟨[(0, .ptr 19 0), (1, SS s1)], [(19, .cells [.selfp 19, .row 20] 59)], [(20, ⟨5, (.int .u8), l1⟩)]⟩) (by kernel_rfl) ?_
  refine WL_nil ?_
  refine N_then ?_
  refine W_seq ?_
  refine W_region ?_
  obtain ⟨_, e2, h⟩ := bind_some h
  replace e2 := chk_some e2
  refine WL_all hE [0, 1] [19] [20] (st' := ⟨[(0, .ptr 19 0), (1, SS s1)], [(19, .cells [.selfp 19, .row 20] 59)], [(20, ⟨5, (.int .u8), l1 ++ (bytesEl s1)⟩)]⟩) (orc := []) (ob := [List.length l1 + List.length (bytesEl s1) ≤ lim]) (by kernel_rfl) ⟨e2, trivial⟩ ?_
  refine N_then ?_
  refine W_seq ?_
  refine W_region ?_
  refine WL_all hE [0, 4, 5] [19] [20] (st' := ⟨[(0, .ptr 19 0), (4, I64 (List.length s1 : Int)), (5, .val .err true)], [(19, .cells [.selfp 19, .row 20] 59)], [(20, ⟨5, (.int .u8), l1 ++ (bytesEl s1)⟩)]⟩) (orc := []) (ob := []) (by kernel_rfl) trivial ?_
  refine N_then ?_
  refine W_ret ?_
  replace h := Option.some.inj h
  subst h
  refine N.norm (st' := ⟨[(0, .ptr 19 0), (4, I64 (List.length s1 : Int)), (5, .val .err true)], [(19, .cells [.selfp 19, .row 20] 59)], [(20, ⟨5, (.int .u8), l1 ++ (bytesEl s1)⟩)]⟩) (ks := [0, 4, 5]) (bs := [19]) (rs := [20]) ?_ (by kernel_rfl)
  exact N_endB hE.P [19] [20] (.inl rfl) (by kernel_rfl) (by kernel_rfl)

def B_runes_quote_c1_i1 (k : Nat) : FnB ((Int × Int × Int × Bool × Unit) × List UInt8 × List (Int)) (Bool × List (Int)) where
  n := 9
  S := fun z => ⟨[(0, .val (.pair (.int .i32) (.pair (.int .i64) (.pair (.int .i64) (.pair .bool .unit)))) (z.1)), (1, .ptr 9 0), (2, .ptr 11 0)], [(9, .cells [.selfp 9, .row 10] 59), (11, .cells [SS (z.2.1)] 9)], [(10, ⟨5, (.int .u8), (z.2.2)⟩)]⟩
  S' := fun z y => ⟨[], [(9, .cells [.selfp 9, .row 10] 59), (11, .cells [SS (z.2.1)] 9)], [(10, ⟨5, (.int .u8), (y.2)⟩)]⟩
  rs := fun z y => [BB (y.1)]
  rel := fun z y => runes_quote_c1_i1 k (z.1) (z.2.1) (z.2.2) = some y
noncomputable def E_runes_quote_c1_i1 (k : Nat) : Env := ⟨Tryd.prog, Gt, 9, [(56, C_runes_shown k)]⟩
theorem b_runes_quote_c1_i1 (k : Nat) : BC Tryd.prog Gt 55 (B_runes_quote_c1_i1 k) := by
  refine bc_of (fn := Tryd.f55) Tryd.func55 (by kernel_rfl) rfl Tryd.ntmps55 ?_
  rintro cx hP hn hG ⟨p1, c1, l1⟩ y0 h
  have hE : EnvOK (E_runes_quote_c1_i1 k) cx := (EnvOK.cons (c_runes_shown k) (EnvOK.nil hP hn hG))
  replace h : runes_quote_c1_i1 k p1 c1 l1 = some y0 := h
  unfold runes_quote_c1_i1 at h
  refine W_seq ?_
  refine W_region ?_
  refine WL_all hE [1, 2, 3] [3, 9, 11] [10] (st' := ⟨[(1, .ptr 9 0), (2, .ptr 11 0), (3, .ptr 3 0)], [(3, .cells [I32 p1.1, I64 p1.2.1, I64 p1.2.2.1, BB p1.2.2.2.1] 35), (9, .cells [.selfp 9, .row 10] 59), (11, .cells [SS c1] 9)], [(10, ⟨5, (.int .u8), l1⟩)]⟩) (orc := []) (ob := []) (by kernel_rfl) trivial ?_
  refine N_then ?_
  refine W_seq ?_
  refine W_region ?_
  obtain ⟨v1, e1, h⟩ := bind_some h
  refine WL_tk hE 3 [1, 2, 7] [9, 11] [10] (st' := ⟨[(1, .ptr 9 0), (2, .ptr 11 0), (7, SS v1)], [(9, .cells [.selfp 9, .row 10] 59), (11, .cells [SS c1] 9)], [(10, ⟨5, (.int .u8), l1⟩)]⟩) (orc := [tS v1]) (ob := [runes_shown k c1 (p1.1, p1.2.1, p1.2.2.1, p1.2.2.2.1, ()) = some v1]) (by kernel_rfl) ⟨e1, trivial⟩ ?_
  obtain ⟨v2, e2, h⟩ := bind_some h
  refine WL_callB hE (b_strings_Builder_WriteString_i1 k) (v1, l1) v2 e2 (ρ := [(9, 19), (10, 20)]) (ρ' := [(19, 9), (20, 10)]) (n := 19) (by kernel_rfl) [1, 2] [9, 11] [10] (by kernel_rfl) (by kernel_rfl) (st' := ⟨[(1, .ptr 9 0), (2, .ptr 11 0)], [(9, .cells [.selfp 9, .row 10] 59), (11, .cells [SS c1] 9)], [(10, ⟨5, (.int .u8), v2.2.2⟩)]⟩) (by kernel_rfl) ?_
  refine WL_nil ?_
  refine N_then ?_
  refine W_seq ?_
  refine W_region ?_
  refine WL_all hE [1, 2, 4] [9, 11] [10] (st' := ⟨[(1, .ptr 9 0), (2, .ptr 11 0), (4, BB true)], [(9, .cells [.selfp 9, .row 10] 59), (11, .cells [SS c1] 9)], [(10, ⟨5, (.int .u8), v2.2.2⟩)]⟩) (orc := []) (ob := []) (by kernel_rfl) trivial ?_
  refine N_then ?_
  refine W_ret ?_
  replace h := Option.some.inj h
  subst h
  exact N_endB hE.P [9, 11] [10] (.inl rfl) (by kernel_rfl) (by kernel_rfl)

def B_runes_each_i3 (k : Nat) : FnB (List UInt8 × List UInt8 × List (Int)) (List UInt8 × List (Int)) where
  n := 37
  S := fun z => ⟨[(0, SS (z.1)), (1, .clos 55 [37, 39])], [(37, .cells [.selfp 37, .row 38] 59), (39, .cells [SS (z.2.1)] 9)], [(38, ⟨5, (.int .u8), (z.2.2)⟩)]⟩
  S' := fun z y => ⟨[], [(37, .cells [.selfp 37, .row 38] 59), (39, .cells [SS (y.1)] 9)], [(38, ⟨5, (.int .u8), (y.2)⟩)]⟩
  rs := fun z y => []
  rel := fun z y => runes_each_i3 k (z.1) (z.2.1) (z.2.2) = some y
noncomputable def E_runes_each_i3 (k : Nat) : Env := ⟨Tryd.prog, Gt, 37, [(52, C_unicode_utf8_RuneLen k), (25, C_unicode_utf8_DecodeRuneInString k)]⟩
theorem b_runes_each_i3 (k : Nat) : BC Tryd.prog Gt 36 (B_runes_each_i3 k) := by
  refine bc_of (fn := Tryd.f36) Tryd.func36 (by kernel_rfl) rfl Tryd.ntmps36 ?_
  rintro cx hP hn hG ⟨s1, c1, l1⟩ y0 h
  have hE : EnvOK (E_runes_each_i3 k) cx := (EnvOK.cons (c_unicode_utf8_RuneLen k) (EnvOK.cons (d_unicode_utf8_DecodeRuneInString k) (EnvOK.nil hP hn hG)))
  replace h : runes_each_i3 k s1 c1 l1 = some y0 := h
  unfold runes_each_i3 at h
  refine W_seq ?_
  refine W_region ?_
  refine WL_all hE [0, 1, 10] [10, 37, 39] [38] (st' := ⟨[(0, SS s1), (1, .clos 55 [37, 39]), (10, .iter 10)], [(10, .iter s1 0), (37, .cells [.selfp 37, .row 38] 59), (39, .cells [SS c1] 9)], [(38, ⟨5, (.int .u8), l1⟩)]⟩) (orc := []) (ob := []) (by kernel_rfl) trivial ?_
  refine N_then ?_
  refine W_block ?_
  refine W_loop (α := (Nat × List (Int))) (fun n z => runes_each_i3_l1 k s1 c1 n z.1 z.2 = some y0) (fun z => ⟨[(0, SS s1), (1, .clos 55 [37, 39]), (10, .iter 10)], [(10, .iter s1 (z.1)), (37, .cells [.selfp 37, .row 38] 59), (39, .cells [SS c1] 9)], [(38, ⟨5, (.int .u8), (z.2)⟩)]⟩) ?_ (k := k) (x := (0, l1)) h
  clear h
  rintro fuel1 ⟨pos1, t3⟩ h
  cases fuel1 with
  | zero => exact absurd (show none = some _ from h) (by simp)
  | succ fuel1 =>
    have h : runes_each_i3_b1 k s1 c1 (runes_each_i3_l1 k s1 c1 fuel1) pos1 t3 = some y0 := h
    unfold runes_each_i3_b1 at h
    refine W_seq ?_
    refine W_region ?_
    rcases Bool.eq_false_or_eq_true (decide (pos1 < List.length s1)) with e1 | e1
    · replace h := ite_t e1 h
      refine WL_tk hE 1 [0, 1, 10, 11] [10, 37, 39] [38] (st' := ⟨[(0, SS s1), (1, .clos 55 [37, 39]), (10, .iter 10), (11, .tup [tB true, tI64 (pos1 : Int), tI32 (runeAt s1 pos1)])], [(10, .iter s1 (pos1 + widthAt s1 pos1)), (37, .cells [.selfp 37, .row 38] 59), (39, .cells [SS c1] 9)], [(38, ⟨5, (.int .u8), t3⟩)]⟩) (orc := [tB true]) (ob := [pos1 < List.length s1]) (by kernel_rfl) ⟨of_decide_eq_true e1, trivial⟩ ?_
      refine WL_all hE [0, 1, 10, 11, 12] [10, 37, 39] [38] (st' := ⟨[(0, SS s1), (1, .clos 55 [37, 39]), (10, .iter 10), (11, .tup [tB true, tI64 (pos1 : Int), tI32 (runeAt s1 pos1)]), (12, BB true)], [(10, .iter s1 (pos1 + widthAt s1 pos1)), (37, .cells [.selfp 37, .row 38] 59), (39, .cells [SS c1] 9)], [(38, ⟨5, (.int .u8), t3⟩)]⟩) (orc := []) (ob := []) (by kernel_rfl) trivial ?_
      refine N_then ?_
      refine W_seq ?_
      refine W_cond_true (by kernel_rfl) ?_
      refine W_skip ?_
      refine N_then ?_
      refine W_block ?_
      refine W_seq ?_
      refine W_region ?_
      refine WL_all hE [0, 1, 4, 5, 10] [10, 37, 39] [38] (st' := ⟨[(0, SS s1), (1, .clos 55 [37, 39]), (4, I64 (pos1 : Int)), (5, I32 (runeAt s1 pos1)), (10, .iter 10)], [(10, .iter s1 (pos1 + widthAt s1 pos1)), (37, .cells [.selfp 37, .row 38] 59), (39, .cells [SS c1] 9)], [(38, ⟨5, (.int .u8), t3⟩)]⟩) (orc := []) (ob := []) (by kernel_rfl) trivial ?_
      refine N_then ?_
      refine W_seq ?_
      refine W_region ?_
      obtain ⟨v1, e2, h⟩ := bind_some h
      refine WL_all hE [0, 1, 4, 5, 6, 10] [6, 10, 37, 39] [38] (st' := ⟨[(0, SS s1), (1, .clos 55 [37, 39]), (4, I64 (pos1 : Int)), (5, I32 (runeAt s1 pos1)), (6, .ptr 6 0), (10, .iter 10)], [(6, .cells [I32 (runeAt s1 pos1), I64 (pos1 : Int), I64 v1, BB false] 35), (10, .iter s1 (pos1 + widthAt s1 pos1)), (37, .cells [.selfp 37, .row 38] 59), (39, .cells [SS c1] 9)], [(38, ⟨5, (.int .u8), t3⟩)]⟩) (orc := [tI64 v1]) (ob := [unicode_utf8_RuneLen k (runeAt s1 pos1) = some v1]) (by kernel_rfl) ⟨e2, trivial⟩ ?_
      refine N_then ?_
      refine W_join (α := (Int × Bool)) (fun z => runes_each_i3_j1 k s1 pos1 c1 t3 (runes_each_i3_l1 k s1 c1 fuel1) z.1 z.2 = some y0) (fun z => ⟨[(0, SS s1), (1, .clos 55 [37, 39]), (6, .ptr 6 0), (10, .iter 10)], [(6, .cells [I32 (runeAt s1 pos1), I64 (pos1 : Int), I64 (z.1), BB (z.2)] 35), (10, .iter s1 (pos1 + widthAt s1 pos1)), (37, .cells [.selfp 37, .row 38] 59), (39, .cells [SS c1] 9)], [(38, ⟨5, (.int .u8), t3⟩)]⟩) ?_ (fun hJ1 => ?_)
      · rintro ⟨p1, p2⟩ h
        unfold runes_each_i3_j1 at h
        refine W_seq ?_
        refine W_region ?_
        refine WL_tk hE 2 [0, 1, 10, 33, 34] [10, 37, 39] [38] (st' := ⟨[(0, SS s1), (1, .clos 55 [37, 39]), (10, .iter 10), (33, .clos 55 [37, 39]), (34, .val (.pair (.int .i32) (.pair (.int .i64) (.pair (.int .i64) (.pair .bool .unit)))) (runeAt s1 pos1, (pos1 : Int), p1, p2, ()))], [(10, .iter s1 (pos1 + widthAt s1 pos1)), (37, .cells [.selfp 37, .row 38] 59), (39, .cells [SS c1] 9)], [(38, ⟨5, (.int .u8), t3⟩)]⟩) (orc := []) (ob := []) (by kernel_rfl) trivial ?_
        obtain ⟨v2, e3, h⟩ := bind_some h
        refine WL_callB hE (b_runes_quote_c1_i1 k) ((runeAt s1 pos1, (pos1 : Int), p1, p2, ()), c1, t3) v2 e3 (ρ := [(37, 9), (38, 10), (39, 11)]) (ρ' := [(9, 37), (11, 39), (10, 38)]) (n := 9) (by kernel_rfl) [0, 1, 10, 35] [10, 37, 39] [38] (by kernel_rfl) (by kernel_rfl) (st' := ⟨[(0, SS s1), (1, .clos 55 [37, 39]), (10, .iter 10), (35, BB v2.1)], [(10, .iter s1 (pos1 + widthAt s1 pos1)), (37, .cells [.selfp 37, .row 38] 59), (39, .cells [SS c1] 9)], [(38, ⟨5, (.int .u8), v2.2⟩)]⟩) (by kernel_rfl) ?_
        refine WL_all hE [0, 1, 10, 36] [10, 37, 39] [38] (st' := ⟨[(0, SS s1), (1, .clos 55 [37, 39]), (10, .iter 10), (36, BB (!v2.1))], [(10, .iter s1 (pos1 + widthAt s1 pos1)), (37, .cells [.selfp 37, .row 38] 59), (39, .cells [SS c1] 9)], [(38, ⟨5, (.int .u8), v2.2⟩)]⟩) (orc := []) (ob := []) (by kernel_rfl) trivial ?_
        refine N_then ?_
        refine W_cond (b := !v2.1) (by kernel_rfl) (fun e4 => ?_) (fun e4 => ?_)
        · replace h := ite_t e4 h
          refine W_ret ?_
          refine N_block_ret ?_
          refine N_then_ret ?_
          refine N_block_ret ?_
          replace h := Option.some.inj h
          subst h
          refine N.norm (st' := ⟨[(1, .clos 55 [37, 39])], [(37, .cells [.selfp 37, .row 38] 59), (39, .cells [SS c1] 9)], [(38, ⟨5, (.int .u8), v2.2⟩)]⟩) (ks := [1]) (bs := [37, 39]) (rs := [38]) ?_ (by kernel_rfl)
          exact N_endB hE.P [37, 39] [38] (.inl rfl) (by kernel_rfl) (by kernel_rfl)
        · replace h := ite_f e4 h
          refine W_skip ?_
          refine N_block ?_
          refine N.norm (st' := ⟨[(0, SS s1), (1, .clos 55 [37, 39]), (10, .iter 10)], [(10, .iter s1 (pos1 + widthAt s1 pos1)), (37, .cells [.selfp 37, .row 38] 59), (39, .cells [SS c1] 9)], [(38, ⟨5, (.int .u8), v2.2⟩)]⟩) (ks := [0, 1, 10]) (bs := [10, 37, 39]) (rs := [38]) ?_ (by kernel_rfl)
          exact N_round ((pos1 + widthAt s1 pos1), v2.2) (Nat.lt_succ_self _) h
      refine W_seq ?_
      refine W_region ?_
      refine WL_all hE [0, 1, 4, 6, 10, 21] [6, 10, 37, 39] [38] (st' := ⟨[(0, SS s1), (1, .clos 55 [37, 39]), (4, I64 (pos1 : Int)), (6, .ptr 6 0), (10, .iter 10), (21, BB ((runeAt s1 pos1) == (65533 : Int)))], [(6, .cells [I32 (runeAt s1 pos1), I64 (pos1 : Int), I64 v1, BB false] 35), (10, .iter s1 (pos1 + widthAt s1 pos1)), (37, .cells [.selfp 37, .row 38] 59), (39, .cells [SS c1] 9)], [(38, ⟨5, (.int .u8), t3⟩)]⟩) (orc := []) (ob := []) (by kernel_rfl) trivial ?_
      refine N_then ?_
      refine W_cond (b := (runeAt s1 pos1) == (65533 : Int)) (by kernel_rfl) (fun e5 => ?_) (fun e5 => ?_)
      · replace h := ite_t e5 h
        refine W_seq ?_
        refine W_region ?_
        obtain ⟨s2, e6, h⟩ := bind_some h
        obtain ⟨v3, e7, h⟩ := bind_some h
        refine WL_all hE [0, 1, 6, 8, 10] [6, 10, 37, 39] [38] (st' := ⟨[(0, SS s1), (1, .clos 55 [37, 39]), (6, .ptr 6 0), (8, I64 v3.2), (10, .iter 10)], [(6, .cells [I32 (runeAt s1 pos1), I64 (pos1 : Int), I64 v1, BB false] 35), (10, .iter s1 (pos1 + widthAt s1 pos1)), (37, .cells [.selfp 37, .row 38] 59), (39, .cells [SS c1] 9)], [(38, ⟨5, (.int .u8), t3⟩)]⟩) (orc := [tS s2, tI32 v3.1, tI64 v3.2]) (ob := [sub? s1 (pos1 : Int) (s1.length : Int) = some s2, utf8_DecodeRuneInString k s2 = some ((v3).1, (v3).2)]) (by kernel_rfl) ⟨e6, e7, trivial⟩ ?_
        refine N_then ?_
        refine W_seq ?_
        refine W_region ?_
        refine WL_all hE [0, 1, 6, 10, 30] [6, 10, 37, 39] [38] (st' := ⟨[(0, SS s1), (1, .clos 55 [37, 39]), (6, .ptr 6 0), (10, .iter 10), (30, BB (v3.2 == (1 : Int)))], [(6, .cells [I32 (runeAt s1 pos1), I64 (pos1 : Int), I64 v1, BB false] 35), (10, .iter s1 (pos1 + widthAt s1 pos1)), (37, .cells [.selfp 37, .row 38] 59), (39, .cells [SS c1] 9)], [(38, ⟨5, (.int .u8), t3⟩)]⟩) (orc := []) (ob := []) (by kernel_rfl) trivial ?_
        refine N_then ?_
        refine W_cond (b := v3.2 == (1 : Int)) (by kernel_rfl) (fun e8 => ?_) (fun e8 => ?_)
        · replace h := ite_t e8 h
          refine W_region ?_
          refine WL_all hE [0, 1, 6, 10] [6, 10, 37, 39] [38] (st' := ⟨[(0, SS s1), (1, .clos 55 [37, 39]), (6, .ptr 6 0), (10, .iter 10)], [(6, .cells [I32 (runeAt s1 pos1), I64 (pos1 : Int), I64 (1 : Int), BB true] 35), (10, .iter s1 (pos1 + widthAt s1 pos1)), (37, .cells [.selfp 37, .row 38] 59), (39, .cells [SS c1] 9)], [(38, ⟨5, (.int .u8), t3⟩)]⟩) (orc := []) (ob := []) (by kernel_rfl) trivial ?_
          exact hJ1 ((1 : Int), true) h
        · replace h := ite_f e8 h
          refine W_skip ?_
          refine N.norm (st' := ⟨[(0, SS s1), (1, .clos 55 [37, 39]), (6, .ptr 6 0), (10, .iter 10)], [(6, .cells [I32 (runeAt s1 pos1), I64 (pos1 : Int), I64 v1, BB false] 35), (10, .iter s1 (pos1 + widthAt s1 pos1)), (37, .cells [.selfp 37, .row 38] 59), (39, .cells [SS c1] 9)], [(38, ⟨5, (.int .u8), t3⟩)]⟩) (ks := [0, 1, 6, 10]) (bs := [6, 10, 37, 39]) (rs := [38]) ?_ (by kernel_rfl)
          exact hJ1 (v1, false) h
      · replace h := ite_f e5 h
        refine W_skip ?_
        refine N.norm (st' := ⟨[(0, SS s1), (1, .clos 55 [37, 39]), (6, .ptr 6 0), (10, .iter 10)], [(6, .cells [I32 (runeAt s1 pos1), I64 (pos1 : Int), I64 v1, BB false] 35), (10, .iter s1 (pos1 + widthAt s1 pos1)), (37, .cells [.selfp 37, .row 38] 59), (39, .cells [SS c1] 9)], [(38, ⟨5, (.int .u8), t3⟩)]⟩) (ks := [0, 1, 6, 10]) (bs := [6, 10, 37, 39]) (rs := [38]) ?_ (by kernel_rfl)
        exact hJ1 (v1, false) h
    · replace h := ite_f e1 h
      refine WL_tk hE 1 [0, 1, 10, 11] [10, 37, 39] [38] (st' := ⟨[(0, SS s1), (1, .clos 55 [37, 39]), (10, .iter 10), (11, .tup [tB false])], [(10, .iter s1 pos1), (37, .cells [.selfp 37, .row 38] 59), (39, .cells [SS c1] 9)], [(38, ⟨5, (.int .u8), t3⟩)]⟩) (orc := [tB false]) (ob := [List.length s1 ≤ pos1]) (by kernel_rfl) ⟨Nat.le_of_not_lt (of_decide_eq_false e1), trivial⟩ ?_
      refine WL_all hE [0, 1, 10, 11, 12] [10, 37, 39] [38] (st' := ⟨[(0, SS s1), (1, .clos 55 [37, 39]), (10, .iter 10), (11, .tup [tB false]), (12, BB false)], [(10, .iter s1 pos1), (37, .cells [.selfp 37, .row 38] 59), (39, .cells [SS c1] 9)], [(38, ⟨5, (.int .u8), t3⟩)]⟩) (orc := []) (ob := []) (by kernel_rfl) trivial ?_
      refine N_then ?_
      refine W_seq ?_
      refine W_cond_false (by kernel_rfl) ?_
      refine W_exit ?_
      refine N_then_exit ?_
      refine N_then_exit ?_
      refine N_block_exit ?_
      replace h := Option.some.inj h
      subst h
      refine N.norm (st' := ⟨[(1, .clos 55 [37, 39])], [(37, .cells [.selfp 37, .row 38] 59), (39, .cells [SS c1] 9)], [(38, ⟨5, (.int .u8), t3⟩)]⟩) (ks := [1]) (bs := [37, 39]) (rs := [38]) ?_ (by kernel_rfl)
      exact N_endB hE.P [37, 39] [38] (.inr rfl) (by kernel_rfl) (by kernel_rfl)

def C_runes_quote (k : Nat) : FnC := ⟨true, 1, [], fun | [⟨.str, s1⟩], [⟨.str, r⟩] => runes_quote k s1 = some r | _, _ => False⟩
noncomputable def E_runes_quote (k : Nat) : Env := ⟨Tryd.prog, Gt, 10, []⟩
theorem c_runes_quote (k : Nat) : Contract Tryd.prog Gt 43 (C_runes_quote k) := by
  refine contract_of Gt_stable (fn := Tryd.f43) Tryd.func43 (by kernel_rfl) rfl ?_ ?_
  · intro xs rs h
    unfold C_runes_quote at h
    simp only at h
    split at h
    · exact ⟨by show 1 ≤ _; rw [Tryd.ntmps43]; decide, rfl, fun _ u hu => by simp at hu; (rcases hu with rfl) <;> rfl⟩
    · exact h.elim
  · intro w0 M xs rs hG h
    unfold C_runes_quote at h
    simp only at h
    split at h
    case h_2 => exact h.elim
    rename_i s1 r
    change List UInt8 at s1
    change List UInt8 at r
    have hE : EnvOK (E_runes_quote k) ⟨Tryd.prog, Tryd.f43.ntmps, w0, M, fun _ => False, fun _ => undef⟩ := (EnvOK.nil rfl Tryd.ntmps43 hG)
    unfold runes_quote at h
    refine W_seq ?_
    refine W_region ?_
    refine WL_all hE [1] [1] [] (st' := ⟨[(1, .ptr 1 0)], [(1, .cells [SS s1] 9)], []⟩) (orc := []) (ob := []) (by kernel_rfl) trivial ?_
    refine N_then ?_
    refine W_seq ?_
    refine W_region ?_
    refine WL_all hE [1, 3] [1, 3] [1000003] (st' := ⟨[(1, .ptr 1 0), (3, .ptr 3 0)], [(1, .cells [SS s1] 9), (3, .cells [.selfp 3, .row 1000003] 59)], [(1000003, ⟨5, (.int .u8), ([] : List (Int))⟩)]⟩) (orc := []) (ob := []) (by kernel_rfl) trivial ?_
    refine N_then ?_
    refine W_seq ?_
    refine W_region ?_
    obtain ⟨v1, e1, h⟩ := bind_some h
    refine WL_callB hE (b_strings_Builder_WriteByte_i1 k) ((34 : Int), ([] : List (Int))) v1 e1 (ρ := [(3, 17), (1000003, 18)]) (ρ' := [(17, 3), (18, 1000003)]) (n := 17) (by kernel_rfl) [1, 3] [1, 3] [1000003] (by kernel_rfl) (by kernel_rfl) (st' := ⟨[(1, .ptr 1 0), (3, .ptr 3 0)], [(1, .cells [SS s1] 9), (3, .cells [.selfp 3, .row 1000003] 59)], [(1000003, ⟨5, (.int .u8), v1.2⟩)]⟩) (by kernel_rfl) ?_
    refine WL_nil ?_
    refine N_then ?_
    refine W_seq ?_
    refine W_region ?_
    refine WL_tk hE 2 [3, 5, 6] [1, 3] [1000003] (st' := ⟨[(3, .ptr 3 0), (5, SS s1), (6, .clos 55 [3, 1])], [(1, .cells [SS s1] 9), (3, .cells [.selfp 3, .row 1000003] 59)], [(1000003, ⟨5, (.int .u8), v1.2⟩)]⟩) (orc := []) (ob := []) (by kernel_rfl) trivial ?_
    obtain ⟨v2, e2, h⟩ := bind_some h
    refine WL_callB hE (b_runes_each_i3 k) (s1, s1, v1.2) v2 e2 (ρ := [(3, 37), (1000003, 38), (1, 39)]) (ρ' := [(37, 3), (39, 1), (38, 1000003)]) (n := 37) (by kernel_rfl) [3] [3] [1000003] (by kernel_rfl) (by kernel_rfl) (st' := ⟨[(3, .ptr 3 0)], [(3, .cells [.selfp 3, .row 1000003] 59)], [(1000003, ⟨5, (.int .u8), v2.2⟩)]⟩) (by kernel_rfl) ?_
    refine WL_nil ?_
    refine N_then ?_
    refine W_seq ?_
    refine W_region ?_
    obtain ⟨v3, e3, h⟩ := bind_some h
    refine WL_callB hE (b_strings_Builder_WriteByte_i1 k) ((34 : Int), v2.2) v3 e3 (ρ := [(3, 17), (1000003, 18)]) (ρ' := [(17, 3), (18, 1000003)]) (n := 17) (by kernel_rfl) [3] [3] [1000003] (by kernel_rfl) (by kernel_rfl) (st' := ⟨[(3, .ptr 3 0)], [(3, .cells [.selfp 3, .row 1000003] 59)], [(1000003, ⟨5, (.int .u8), v3.2⟩)]⟩) (by kernel_rfl) ?_
    refine WL_nil ?_
    refine N_then ?_
    refine W_seq ?_
    refine W_region ?_
    obtain ⟨v4, e4, h⟩ := bind_some h
    refine WL_callB hE (b_bld_String k) v3.2 v4 e4 (ρ := [(3, 14), (1000003, 15)]) (ρ' := []) (n := 14) (by kernel_rfl) [9] [] [] (by kernel_rfl) (by kernel_rfl) (st' := ⟨[(9, SS v4)], [], []⟩) (by kernel_rfl) ?_
    refine WL_all hE [2] [] [] (st' := ⟨[(2, SS v4)], [], []⟩) (orc := []) (ob := []) (by kernel_rfl) trivial ?_
    refine N_then ?_
    refine W_ret ?_
    cases h
    exact N_end (.inl rfl) (by kernel_rfl)

def C_runes_Quote (k : Nat) : FnC := ⟨true, 2, [], fun | [⟨.str, s1⟩], [⟨.str, r1⟩, ⟨(.int .i64), r2⟩] => runes_Quote k s1 = some (r1, r2) | _, _ => False⟩
noncomputable def E_runes_Quote (k : Nat) : Env := ⟨Tryd.prog, Gt, 12, [(35, C_runes_long k), (43, C_runes_quote k)]⟩
theorem c_runes_Quote (k : Nat) : Contract Tryd.prog Gt 27 (C_runes_Quote k) := by
  refine contract_of Gt_stable (fn := Tryd.f27) Tryd.func27 (by kernel_rfl) rfl ?_ ?_
  · intro xs rs h
    unfold C_runes_Quote at h
    simp only at h
    split at h
    · exact ⟨by show 1 ≤ _; rw [Tryd.ntmps27]; decide, rfl, fun _ u hu => by simp at hu; (rcases hu with rfl | rfl) <;> rfl⟩
    · exact h.elim
  · intro w0 M xs rs hG h
    unfold C_runes_Quote at h
    simp only at h
    split at h
    case h_2 => exact h.elim
    rename_i s1 r1 r2
    change List UInt8 at s1
    change List UInt8 at r1
    change Int at r2
    have hE : EnvOK (E_runes_Quote k) ⟨Tryd.prog, Tryd.f27.ntmps, w0, M, fun _ => False, fun _ => undef⟩ := (EnvOK.cons (c_runes_long k) (EnvOK.cons (c_runes_quote k) (EnvOK.nil rfl Tryd.ntmps27 hG)))
    unfold runes_Quote at h
    refine W_seq ?_
    refine W_region ?_
    refine WL_all hE [0] [] [] (st' := ⟨[(0, SS s1)], [], []⟩) (orc := []) (ob := []) (by kernel_rfl) trivial ?_
    refine N_then ?_
    refine W_seq ?_
    refine W_seq ?_
    refine W_region ?_
    obtain ⟨v1, e1, h⟩ := bind_some h
    refine WL_all hE [0, 4] [] [] (st' := ⟨[(0, SS s1), (4, I64 v1)], [], []⟩) (orc := [tI64 v1]) (ob := [runes_long k s1 = some v1]) (by kernel_rfl) ⟨e1, trivial⟩ ?_
    refine N_then ?_
    refine W_seq ?_
    refine W_region ?_
    refine WL_all hE [0, 4, 8] [] [] (st' := ⟨[(0, SS s1), (4, I64 v1), (8, BB (v1 != (0 : Int)))], [], []⟩) (orc := []) (ob := []) (by kernel_rfl) trivial ?_
    refine N_then ?_
    refine W_cond (b := v1 != (0 : Int)) (by kernel_rfl) (fun e2 => ?_) (fun e2 => ?_)
    · replace h := ite_t e2 h
      refine W_seq ?_
      refine W_region ?_
      refine WL_all hE [2, 3] [] [] (st' := ⟨[(2, SS ([] : List UInt8)), (3, I64 v1)], [], []⟩) (orc := []) (ob := []) (by kernel_rfl) trivial ?_
      refine N_then ?_
      refine W_ret ?_
      refine N_then_ret ?_
      cases h
      exact N_end (.inl rfl) (by kernel_rfl)
    · replace h := ite_f e2 h
      refine W_skip ?_
      refine N_then ?_
      refine W_seq ?_
      refine W_region ?_
      obtain ⟨v2, e3, h⟩ := bind_some h
      refine WL_all hE [2, 3] [] [] (st' := ⟨[(2, SS v2), (3, I64 (0 : Int))], [], []⟩) (orc := [tS v2]) (ob := [runes_quote k s1 = some v2]) (by kernel_rfl) ⟨e3, trivial⟩ ?_
      refine N_then ?_
      refine W_ret ?_
      cases h
      exact N_end (.inl rfl) (by kernel_rfl)

def C_runes_Text (k : Nat) : FnC := ⟨true, 1, [], fun | [⟨(.sl (.int .i32)), l1⟩], [⟨.str, r⟩] => runes_Text k l1 = some r | _, _ => False⟩
noncomputable def E_runes_Text (k : Nat) : Env := ⟨Tryd.prog, Gt, 5, []⟩
theorem c_runes_Text (k : Nat) : Contract Tryd.prog Gt 26 (C_runes_Text k) := by
  refine contract_of Gt_stable (fn := Tryd.f26) Tryd.func26 (by kernel_rfl) rfl ?_ ?_
  · intro xs rs h
    unfold C_runes_Text at h
    simp only at h
    split at h
    · exact ⟨by show 1 ≤ _; rw [Tryd.ntmps26]; decide, rfl, fun _ u hu => by simp at hu; (rcases hu with rfl) <;> rfl⟩
    · exact h.elim
  · intro w0 M xs rs hG h
    unfold C_runes_Text at h
    simp only at h
    split at h
    case h_2 => exact h.elim
    rename_i l1 r
    change List (Int) at l1
    change List UInt8 at r
    have hE : EnvOK (E_runes_Text k) ⟨Tryd.prog, Tryd.f26.ntmps, w0, M, fun _ => False, fun _ => undef⟩ := (EnvOK.nil rfl Tryd.ntmps26 hG)
    unfold runes_Text at h
    refine W_seq ?_
    refine W_region ?_
    refine WL_all hE [0] [] [] (st' := ⟨[(0, .val (.sl (.int .i32)) l1)], [], []⟩) (orc := []) (ob := []) (by kernel_rfl) trivial ?_
    refine N_then ?_
    refine W_seq ?_
    refine W_region ?_
    obtain ⟨_, e1, h⟩ := bind_some h
    replace e1 := chk_some e1
    refine WL_all hE [2] [] [] (st' := ⟨[(2, SS (runesStr l1))], [], []⟩) (orc := []) (ob := [List.length (runesStr l1) ≤ lim]) (by kernel_rfl) ⟨e1, trivial⟩ ?_
    refine N_then ?_
    refine W_ret ?_
    cases h
    exact N_end (.inl rfl) (by kernel_rfl)

def C_runes_Less (k : Nat) : FnC := ⟨true, 1, [], fun | [⟨.str, a1⟩, ⟨.str, b1⟩], [⟨.bool, r⟩] => runes_Less k a1 b1 = some r | _, _ => False⟩
noncomputable def E_runes_Less (k : Nat) : Env := ⟨Tryd.prog, Gt, 69, [(25, C_unicode_utf8_DecodeRuneInString k)]⟩
theorem c_runes_Less (k : Nat) : Contract Tryd.prog Gt 10 (C_runes_Less k) := by
  refine contract_of Gt_stable (fn := Tryd.f10) Tryd.func10 (by kernel_rfl) rfl ?_ ?_
  · intro xs rs h
    unfold C_runes_Less at h
    simp only at h
    split at h
    · exact ⟨by show 2 ≤ _; rw [Tryd.ntmps10]; decide, rfl, fun _ u hu => by simp at hu; (rcases hu with rfl) <;> rfl⟩
    · exact h.elim
  · intro w0 M xs rs hG h
    unfold C_runes_Less at h
    simp only at h
    split at h
    case h_2 => exact h.elim
    rename_i a1 b1 r
    change List UInt8 at a1
    change List UInt8 at b1
    change Bool at r
    have hE : EnvOK (E_runes_Less k) ⟨Tryd.prog, Tryd.f10.ntmps, w0, M, fun _ => False, fun _ => undef⟩ := (EnvOK.cons (d_unicode_utf8_DecodeRuneInString k) (EnvOK.nil rfl Tryd.ntmps10 hG))
    unfold runes_Less at h
    refine W_seq ?_
    refine W_region ?_
    refine WL_all hE [0, 1] [] [] (st' := ⟨[(0, SS a1), (1, SS b1)], [], []⟩) (orc := []) (ob := []) (by kernel_rfl) trivial ?_
    refine N_then ?_
    refine W_seq ?_
    refine W_block ?_
    refine W_loop (α := (List UInt8 × List UInt8)) (fun n z => runes_Less_l1 k n z.1 z.2 = some r) (fun z => ⟨[(0, SS (z.1)), (1, SS (z.2))], [], []⟩) ?_ (k := k) (x := (a1, b1)) h
    clear h
    rintro fuel1 ⟨a2, b2⟩ h
    cases fuel1 with
    | zero => exact absurd (show none = some _ from h) (by simp)
    | succ fuel1 =>
      have h : runes_Less_b1 k (runes_Less_l1 k fuel1) a2 b2 = some r := h
      unfold runes_Less_b1 at h
      refine W_seq ?_
      refine W_seq ?_
      refine W_region ?_
      refine WL_tk hE 3 [0, 1, 13] [] [] (st' := ⟨[(0, SS a2), (1, SS b2), (13, BB (!(a2 == ([] : List UInt8))))], [], []⟩) (orc := []) (ob := []) (by kernel_rfl) trivial ?_
      refine WL_join (α := Bool) (fun z => runes_Less_j1 k a2 b2 (runes_Less_l1 k fuel1) z = some r) (fun t1 => ⟨[(0, SS a2), (1, SS b2), (16, BB t1)], [], []⟩) 3 ?_ (fun hJ1 => ?_)
      · rintro t1 h
        unfold runes_Less_j1 at h
        refine WL_nil ?_
        refine N_then ?_
        refine W_cond (b := t1) (by kernel_rfl) (fun e1 => ?_) (fun e1 => ?_)
        · replace h := ite_t e1 h
          refine W_skip ?_
          refine N_then ?_
          refine W_block ?_
          refine W_seq ?_
          refine W_region ?_
          obtain ⟨v1, e2, h⟩ := bind_some h
          refine WL_all hE [0, 1, 5, 6] [] [] (st' := ⟨[(0, SS a2), (1, SS b2), (5, I32 v1.1), (6, I64 v1.2)], [], []⟩) (orc := [tI32 v1.1, tI64 v1.2]) (ob := [utf8_DecodeRuneInString k a2 = some ((v1).1, (v1).2)]) (by kernel_rfl) ⟨e2, trivial⟩ ?_
          refine N_then ?_
          refine W_seq ?_
          refine W_region ?_
          obtain ⟨v2, e3, h⟩ := bind_some h
          refine WL_all hE [0, 1, 5, 6, 7, 8] [] [] (st' := ⟨[(0, SS a2), (1, SS b2), (5, I32 v1.1), (6, I64 v1.2), (7, I32 v2.1), (8, I64 v2.2)], [], []⟩) (orc := [tI32 v2.1, tI64 v2.2]) (ob := [utf8_DecodeRuneInString k b2 = some ((v2).1, (v2).2)]) (by kernel_rfl) ⟨e3, trivial⟩ ?_
          refine N_then ?_
          refine W_seq ?_
          refine W_region ?_
          refine WL_all hE [0, 1, 5, 6, 7, 8, 9, 10] [] [] (st' := ⟨[(0, SS a2), (1, SS b2), (5, I32 v1.1), (6, I64 v1.2), (7, I32 v2.1), (8, I64 v2.2), (9, I64 (wi64 v1.1)), (10, I64 (wi64 v2.1))], [], []⟩) (orc := []) (ob := []) (by kernel_rfl) trivial ?_
          refine N_then ?_
          refine W_join (α := Int) (fun z => runes_Less_j2 b2 a2 v1 v2 (runes_Less_l1 k fuel1) z = some r) (fun x1 => ⟨[(0, SS a2), (1, SS b2), (6, I64 v1.2), (7, I32 v2.1), (8, I64 v2.2), (9, I64 x1), (10, I64 (wi64 v2.1))], [], []⟩) ?_ (fun hJ4 => ?_)
          · rintro x1 h
            unfold runes_Less_j2 at h
            refine W_join (α := Int) (fun z => runes_Less_j3 x1 a2 v1 b2 v2 (runes_Less_l1 k fuel1) z = some r) (fun y1 => ⟨[(0, SS a2), (1, SS b2), (6, I64 v1.2), (8, I64 v2.2), (9, I64 x1), (10, I64 y1)], [], []⟩) ?_ (fun hJ3 => ?_)
            · rintro y1 h
              unfold runes_Less_j3 at h
              refine W_seq ?_
              refine W_seq ?_
              refine W_region ?_
              refine WL_all hE [0, 1, 6, 8, 9, 10, 53] [] [] (st' := ⟨[(0, SS a2), (1, SS b2), (6, I64 v1.2), (8, I64 v2.2), (9, I64 x1), (10, I64 y1), (53, BB (x1 != y1))], [], []⟩) (orc := []) (ob := []) (by kernel_rfl) trivial ?_
              refine N_then ?_
              refine W_cond (b := x1 != y1) (by kernel_rfl) (fun e4 => ?_) (fun e4 => ?_)
              · replace h := ite_t e4 h
                refine W_seq ?_
                refine W_region ?_
                refine WL_all hE [4] [] [] (st' := ⟨[(4, BB (decide (x1 < y1)))], [], []⟩) (orc := []) (ob := []) (by kernel_rfl) trivial ?_
                refine N_then ?_
                refine W_ret ?_
                refine N_then_ret ?_
                refine N_block_ret ?_
                refine N_then_ret ?_
                refine N_block_ret ?_
                refine N_then_ret ?_
                cases h
                exact N_end (.inl rfl) (by kernel_rfl)
              · replace h := ite_f e4 h
                refine W_skip ?_
                refine N_then ?_
                refine W_draw (by kernel_rfl) (by kernel_rfl) ?_
                obtain ⟨s1, e5, h⟩ := bind_some h
                obtain ⟨s2, e6, h⟩ := bind_some h
                refine WD_all hE [0, 1] [] [] (st' := ⟨[(0, SS s1), (1, SS s2)], [], []⟩) (orc := [tS s1, tS s2]) (ob := [sub? a2 v1.2 (a2.length : Int) = some s1, sub? b2 v2.2 (b2.length : Int) = some s2]) (by kernel_rfl) ⟨e5, e6, trivial⟩ ?_
                refine N_block ?_
                exact N_round (s1, s2) (Nat.lt_succ_self _) h
            refine W_seq ?_
            refine W_region ?_
            refine WL_tk hE 3 [0, 1, 6, 8, 9, 10, 43] [] [] (st' := ⟨[(0, SS a2), (1, SS b2), (6, I64 v1.2), (8, I64 v2.2), (9, I64 x1), (10, I64 (wi64 v2.1)), (43, BB (v2.1 == (65533 : Int)))], [], []⟩) (orc := []) (ob := []) (by kernel_rfl) trivial ?_
            refine WL_join (α := Bool) (fun z => runes_Less_j4 b2 x1 a2 v1 v2 (runes_Less_l1 k fuel1) z = some r) (fun t2 => ⟨[(0, SS a2), (1, SS b2), (6, I64 v1.2), (8, I64 v2.2), (9, I64 x1), (10, I64 (wi64 v2.1)), (46, BB t2)], [], []⟩) 3 ?_ (fun hJ4 => ?_)
            · rintro t2 h
              unfold runes_Less_j4 at h
              refine WL_nil ?_
              refine N_then ?_
              refine W_cond (b := t2) (by kernel_rfl) (fun e7 => ?_) (fun e7 => ?_)
              · replace h := ite_t e7 h
                refine W_region ?_
                obtain ⟨b3, e8, h⟩ := bind_some h
                refine WL_all hE [0, 1, 6, 8, 9, 10] [] [] (st' := ⟨[(0, SS a2), (1, SS b2), (6, I64 v1.2), (8, I64 v2.2), (9, I64 x1), (10, I64 (wi64 ((1114112 : Int) + (wi64 b3))))], [], []⟩) (orc := [tU8 b3]) (ob := [byteAt b2 (0 : Int) = some b3]) (by kernel_rfl) ⟨e8, trivial⟩ ?_
                exact hJ3 (wi64 ((1114112 : Int) + (wi64 b3))) h
              · replace h := ite_f e7 h
                refine W_skip ?_
                refine N.norm (st' := ⟨[(0, SS a2), (1, SS b2), (6, I64 v1.2), (8, I64 v2.2), (9, I64 x1), (10, I64 (wi64 v2.1))], [], []⟩) (ks := [0, 1, 6, 8, 9, 10]) (bs := []) (rs := []) ?_ (by kernel_rfl)
                exact hJ3 (wi64 v2.1) h
            refine WL_split (fun g => ⟨[(0, SS a2), (1, SS b2), (6, I64 v1.2), (8, I64 v2.2), (9, I64 x1), (10, I64 (wi64 v2.1)), (43, BB g)], [], []⟩) (b := v2.1 == (65533 : Int)) (fun e9 => ?_) (fun e9 => ?_)
            · rw [and_t e9] at h
              refine WL_all hE [0, 1, 6, 8, 9, 10, 46] [] [] (st' := ⟨[(0, SS a2), (1, SS b2), (6, I64 v1.2), (8, I64 v2.2), (9, I64 x1), (10, I64 (wi64 v2.1)), (46, BB (v2.2 == (1 : Int)))], [], []⟩) (orc := []) (ob := []) (by kernel_rfl) trivial ?_
              exact hJ4 (v2.2 == (1 : Int)) h
            · rw [and_f e9] at h
              refine WL_all hE [0, 1, 6, 8, 9, 10, 46] [] [] (st' := ⟨[(0, SS a2), (1, SS b2), (6, I64 v1.2), (8, I64 v2.2), (9, I64 x1), (10, I64 (wi64 v2.1)), (46, BB false)], [], []⟩) (orc := []) (ob := []) (by kernel_rfl) trivial ?_
              exact hJ4 false h
          refine W_seq ?_
          refine W_region ?_
          refine WL_tk hE 3 [0, 1, 6, 7, 8, 9, 10, 33] [] [] (st' := ⟨[(0, SS a2), (1, SS b2), (6, I64 v1.2), (7, I32 v2.1), (8, I64 v2.2), (9, I64 (wi64 v1.1)), (10, I64 (wi64 v2.1)), (33, BB (v1.1 == (65533 : Int)))], [], []⟩) (orc := []) (ob := []) (by kernel_rfl) trivial ?_
          refine WL_join (α := Bool) (fun z => runes_Less_j5 a2 b2 v1 v2 (runes_Less_l1 k fuel1) z = some r) (fun t3 => ⟨[(0, SS a2), (1, SS b2), (6, I64 v1.2), (7, I32 v2.1), (8, I64 v2.2), (9, I64 (wi64 v1.1)), (10, I64 (wi64 v2.1)), (36, BB t3)], [], []⟩) 3 ?_ (fun hJ5 => ?_)
          · rintro t3 h
            unfold runes_Less_j5 at h
            refine WL_nil ?_
            refine N_then ?_
            refine W_cond (b := t3) (by kernel_rfl) (fun e10 => ?_) (fun e10 => ?_)
            · replace h := ite_t e10 h
              refine W_region ?_
              obtain ⟨b4, e11, h⟩ := bind_some h
              refine WL_all hE [0, 1, 6, 7, 8, 9, 10] [] [] (st' := ⟨[(0, SS a2), (1, SS b2), (6, I64 v1.2), (7, I32 v2.1), (8, I64 v2.2), (9, I64 (wi64 ((1114112 : Int) + (wi64 b4)))), (10, I64 (wi64 v2.1))], [], []⟩) (orc := [tU8 b4]) (ob := [byteAt a2 (0 : Int) = some b4]) (by kernel_rfl) ⟨e11, trivial⟩ ?_
              exact hJ4 (wi64 ((1114112 : Int) + (wi64 b4))) h
            · replace h := ite_f e10 h
              refine W_skip ?_
              refine N.norm (st' := ⟨[(0, SS a2), (1, SS b2), (6, I64 v1.2), (7, I32 v2.1), (8, I64 v2.2), (9, I64 (wi64 v1.1)), (10, I64 (wi64 v2.1))], [], []⟩) (ks := [0, 1, 6, 7, 8, 9, 10]) (bs := []) (rs := []) ?_ (by kernel_rfl)
              exact hJ4 (wi64 v1.1) h
          refine WL_split (fun g => ⟨[(0, SS a2), (1, SS b2), (6, I64 v1.2), (7, I32 v2.1), (8, I64 v2.2), (9, I64 (wi64 v1.1)), (10, I64 (wi64 v2.1)), (33, BB g)], [], []⟩) (b := v1.1 == (65533 : Int)) (fun e12 => ?_) (fun e12 => ?_)
          · rw [and_t e12] at h
            refine WL_all hE [0, 1, 6, 7, 8, 9, 10, 36] [] [] (st' := ⟨[(0, SS a2), (1, SS b2), (6, I64 v1.2), (7, I32 v2.1), (8, I64 v2.2), (9, I64 (wi64 v1.1)), (10, I64 (wi64 v2.1)), (36, BB (v1.2 == (1 : Int)))], [], []⟩) (orc := []) (ob := []) (by kernel_rfl) trivial ?_
            exact hJ5 (v1.2 == (1 : Int)) h
          · rw [and_f e12] at h
            refine WL_all hE [0, 1, 6, 7, 8, 9, 10, 36] [] [] (st' := ⟨[(0, SS a2), (1, SS b2), (6, I64 v1.2), (7, I32 v2.1), (8, I64 v2.2), (9, I64 (wi64 v1.1)), (10, I64 (wi64 v2.1)), (36, BB false)], [], []⟩) (orc := []) (ob := []) (by kernel_rfl) trivial ?_
            exact hJ5 false h
        · replace h := ite_f e1 h
          refine W_exit ?_
          refine N_then_exit ?_
          refine N_then_exit ?_
          refine N_block_exit ?_
          refine N_then ?_
          refine W_seq ?_
          refine W_region ?_
          refine WL_tk hE 3 [1, 65] [] [] (st' := ⟨[(1, SS b2), (65, BB (a2 == ([] : List UInt8)))], [], []⟩) (orc := []) (ob := []) (by kernel_rfl) trivial ?_
          refine WL_join (α := Bool) (fun z => runes_Less_j6 z = some r) (fun t4 => ⟨[(68, BB t4)], [], []⟩) 3 ?_ (fun hJ6 => ?_)
          · rintro t4 h
            unfold runes_Less_j6 at h
            refine WL_all hE [4] [] [] (st' := ⟨[(4, BB t4)], [], []⟩) (orc := []) (ob := []) (by kernel_rfl) trivial ?_
            refine N_then ?_
            refine W_ret ?_
            cases h
            exact N_end (.inl rfl) (by kernel_rfl)
          refine WL_split (fun g => ⟨[(1, SS b2), (65, BB g)], [], []⟩) (b := a2 == ([] : List UInt8)) (fun e13 => ?_) (fun e13 => ?_)
          · rw [and_t e13] at h
            refine WL_all hE [68] [] [] (st' := ⟨[(68, BB (!(b2 == ([] : List UInt8))))], [], []⟩) (orc := []) (ob := []) (by kernel_rfl) trivial ?_
            exact hJ6 (!(b2 == ([] : List UInt8))) h
          · rw [and_f e13] at h
            refine WL_all hE [68] [] [] (st' := ⟨[(68, BB false)], [], []⟩) (orc := []) (ob := []) (by kernel_rfl) trivial ?_
            exact hJ6 false h
      refine WL_split (fun g => ⟨[(0, SS a2), (1, SS b2), (13, BB g)], [], []⟩) (b := !(a2 == ([] : List UInt8))) (fun e14 => ?_) (fun e14 => ?_)
      · rw [and_t e14] at h
        refine WL_all hE [0, 1, 16] [] [] (st' := ⟨[(0, SS a2), (1, SS b2), (16, BB (!(b2 == ([] : List UInt8))))], [], []⟩) (orc := []) (ob := []) (by kernel_rfl) trivial ?_
        exact hJ1 (!(b2 == ([] : List UInt8))) h
      · rw [and_f e14] at h
        refine WL_all hE [0, 1, 16] [] [] (st' := ⟨[(0, SS a2), (1, SS b2), (16, BB false)], [], []⟩) (orc := []) (ob := []) (by kernel_rfl) trivial ?_
        exact hJ1 false h

def C_l01_alive (k : Nat) : FnC := ⟨true, 1, [], fun | [], [⟨.bool, r⟩] => l01_alive k = some r | _, _ => False⟩
noncomputable def E_l01_alive (k : Nat) : Env := ⟨Tryd.prog, Gt, 50, [(13, C_runes_Pieces k), (27, C_runes_Quote k), (10, C_runes_Less k), (26, C_runes_Text k)]⟩
theorem c_l01_alive (k : Nat) : Contract Tryd.prog Gt 24 (C_l01_alive k) := by
  refine contract_of Gt_stable (fn := Tryd.f24) Tryd.func24 (by kernel_rfl) rfl ?_ ?_
  · intro xs rs h
    unfold C_l01_alive at h
    simp only at h
    split at h
    · exact ⟨by show 0 ≤ _; rw [Tryd.ntmps24]; decide, rfl, fun _ u hu => by simp at hu; (rcases hu with rfl) <;> rfl⟩
    · exact h.elim
  · intro w0 M xs rs hG h
    unfold C_l01_alive at h
    simp only at h
    split at h
    case h_2 => exact h.elim
    rename_i r
    change Bool at r
    have hE : EnvOK (E_l01_alive k) ⟨Tryd.prog, Tryd.f24.ntmps, w0, M, fun _ => False, fun _ => undef⟩ := (EnvOK.cons (c_runes_Pieces k) (EnvOK.cons (c_runes_Quote k) (EnvOK.cons (c_runes_Less k) (EnvOK.cons (c_runes_Text k) (EnvOK.nil rfl Tryd.ntmps24 hG)))))
    unfold l01_alive at h
    refine W_seq ?_
    refine W_region ?_
    refine WL_all hE [] [] [] (st' := ⟨[], [], []⟩) (orc := []) (ob := []) (by kernel_rfl) trivial ?_
    refine N_then ?_
    refine W_seq ?_
    refine W_region ?_
    obtain ⟨v1, e1, h⟩ := bind_some h
    refine WL_all hE [1, 2] [] [] (st' := ⟨[(1, .val (.sl (.pair (.int .i32) (.pair (.int .i64) (.pair (.int .i64) (.pair .bool .unit))))) v1.1), (2, I64 v1.2)], [], []⟩) (orc := [⟨(.sl (.pair (.int .i32) (.pair (.int .i64) (.pair (.int .i64) (.pair .bool .unit))))), v1.1⟩, tI64 v1.2]) (ob := [runes_Pieces k ([97, 255] : List UInt8) = some ((v1).1, (v1).2)]) (by kernel_rfl) ⟨e1, trivial⟩ ?_
    refine N_then ?_
    refine W_seq ?_
    refine W_region ?_
    obtain ⟨v2, e2, h⟩ := bind_some h
    refine WL_all hE [1, 2, 3, 4] [] [] (st' := ⟨[(1, .val (.sl (.pair (.int .i32) (.pair (.int .i64) (.pair (.int .i64) (.pair .bool .unit))))) v1.1), (2, I64 v1.2), (3, SS v2.1), (4, I64 v2.2)], [], []⟩) (orc := [tS v2.1, tI64 v2.2]) (ob := [runes_Quote k ([97, 255] : List UInt8) = some ((v2).1, (v2).2)]) (by kernel_rfl) ⟨e2, trivial⟩ ?_
    refine N_then ?_
    refine W_seq ?_
    refine W_region ?_
    refine WL_tk hE 3 [1, 3, 4, 15] [] [] (st' := ⟨[(1, .val (.sl (.pair (.int .i32) (.pair (.int .i64) (.pair (.int .i64) (.pair .bool .unit))))) v1.1), (3, SS v2.1), (4, I64 v2.2), (15, BB (v1.2 == (0 : Int)))], [], []⟩) (orc := []) (ob := []) (by kernel_rfl) trivial ?_
    refine WL_join (α := Bool) (fun z => l01_alive_j1 k v1 v2 z = some r) (fun t1 => ⟨[(1, .val (.sl (.pair (.int .i32) (.pair (.int .i64) (.pair (.int .i64) (.pair .bool .unit))))) v1.1), (3, SS v2.1), (4, I64 v2.2), (19, BB t1)], [], []⟩) 4 ?_ (fun hJ1 => ?_)
    · rintro t1 h
      unfold l01_alive_j1 at h
      refine WL_tk hE 1 [1, 3, 4, 20] [] [] (st' := ⟨[(1, .val (.sl (.pair (.int .i32) (.pair (.int .i64) (.pair (.int .i64) (.pair .bool .unit))))) v1.1), (3, SS v2.1), (4, I64 v2.2), (20, BB t1)], [], []⟩) (orc := []) (ob := []) (by kernel_rfl) trivial ?_
      refine WL_join (α := Bool) (fun z => l01_alive_j2 k v1 v2 z = some r) (fun t2 => ⟨[(1, .val (.sl (.pair (.int .i32) (.pair (.int .i64) (.pair (.int .i64) (.pair .bool .unit))))) v1.1), (3, SS v2.1), (4, I64 v2.2), (26, BB t2)], [], []⟩) 6 ?_ (fun hJ2 => ?_)
      · rintro t2 h
        unfold l01_alive_j2 at h
        refine WL_tk hE 1 [1, 3, 4, 27] [] [] (st' := ⟨[(1, .val (.sl (.pair (.int .i32) (.pair (.int .i64) (.pair (.int .i64) (.pair .bool .unit))))) v1.1), (3, SS v2.1), (4, I64 v2.2), (27, BB t2)], [], []⟩) (orc := []) (ob := []) (by kernel_rfl) trivial ?_
        refine WL_join (α := Bool) (fun z => l01_alive_j3 k v2 z = some r) (fun t3 => ⟨[(3, SS v2.1), (4, I64 v2.2), (33, BB t3)], [], []⟩) 6 ?_ (fun hJ3 => ?_)
        · rintro t3 h
          unfold l01_alive_j3 at h
          refine WL_tk hE 1 [3, 4, 34] [] [] (st' := ⟨[(3, SS v2.1), (4, I64 v2.2), (34, BB t3)], [], []⟩) (orc := []) (ob := []) (by kernel_rfl) trivial ?_
          refine WL_join (α := Bool) (fun z => l01_alive_j4 k v2 z = some r) (fun t4 => ⟨[(3, SS v2.1), (37, BB t4)], [], []⟩) 3 ?_ (fun hJ4 => ?_)
          · rintro t4 h
            unfold l01_alive_j4 at h
            refine WL_tk hE 1 [3, 38] [] [] (st' := ⟨[(3, SS v2.1), (38, BB t4)], [], []⟩) (orc := []) (ob := []) (by kernel_rfl) trivial ?_
            refine WL_join (α := Bool) (fun z => l01_alive_j5 k z = some r) (fun t5 => ⟨[(41, BB t5)], [], []⟩) 3 ?_ (fun hJ5 => ?_)
            · rintro t5 h
              unfold l01_alive_j5 at h
              refine WL_tk hE 1 [42] [] [] (st' := ⟨[(42, BB t5)], [], []⟩) (orc := []) (ob := []) (by kernel_rfl) trivial ?_
              refine WL_join (α := Bool) (fun z => l01_alive_j6 k z = some r) (fun t6 => ⟨[(46, BB t6)], [], []⟩) 4 ?_ (fun hJ6 => ?_)
              · rintro t6 h
                unfold l01_alive_j6 at h
                refine WL_tk hE 1 [47] [] [] (st' := ⟨[(47, BB t6)], [], []⟩) (orc := []) (ob := []) (by kernel_rfl) trivial ?_
                refine WL_join (α := Bool) (fun z => l01_alive_j7 z = some r) (fun t7 => ⟨[(49, BB t7)], [], []⟩) 2 ?_ (fun hJ7 => ?_)
                · rintro t7 h
                  unfold l01_alive_j7 at h
                  refine WL_all hE [0] [] [] (st' := ⟨[(0, BB t7)], [], []⟩) (orc := []) (ob := []) (by kernel_rfl) trivial ?_
                  refine N_then ?_
                  refine W_ret ?_
                  cases h
                  exact N_end (.inl rfl) (by kernel_rfl)
                refine WL_split (fun g => ⟨[(47, BB g)], [], []⟩) (b := t6) (fun e3 => ?_) (fun e3 => ?_)
                · replace h := ite_t e3 h
                  obtain ⟨v3, e4, h⟩ := bind_some h
                  refine WL_all hE [49] [] [] (st' := ⟨[(49, BB v3)], [], []⟩) (orc := [tB v3]) (ob := [runes_Less k ([97] : List UInt8) ([98] : List UInt8) = some v3]) (by kernel_rfl) ⟨e4, trivial⟩ ?_
                  exact hJ7 v3 h
                · replace h := ite_f e3 h
                  refine WL_all hE [49] [] [] (st' := ⟨[(49, BB false)], [], []⟩) (orc := []) (ob := []) (by kernel_rfl) trivial ?_
                  exact hJ7 false h
              refine WL_split (fun g => ⟨[(42, BB g)], [], []⟩) (b := t5) (fun e5 => ?_) (fun e5 => ?_)
              · replace h := ite_t e5 h
                obtain ⟨v4, e6, h⟩ := bind_some h
                refine WL_all hE [46] [] [] (st' := ⟨[(46, BB (v4 == ([97] : List UInt8)))], [], []⟩) (orc := [tS v4]) (ob := [runes_Text k ([(97 : Int)] : List (Int)) = some v4]) (by kernel_rfl) ⟨e6, trivial⟩ ?_
                exact hJ6 (v4 == ([97] : List UInt8)) h
              · replace h := ite_f e5 h
                refine WL_all hE [46] [] [] (st' := ⟨[(46, BB false)], [], []⟩) (orc := []) (ob := []) (by kernel_rfl) trivial ?_
                exact hJ6 false h
            refine WL_split (fun g => ⟨[(3, SS v2.1), (38, BB g)], [], []⟩) (b := t4) (fun e7 => ?_) (fun e7 => ?_)
            · rw [and_t e7] at h
              refine WL_all hE [41] [] [] (st' := ⟨[(41, BB (v2.1 == ([34, 97, 92, 120, 102, 102, 34] : List UInt8)))], [], []⟩) (orc := []) (ob := []) (by kernel_rfl) trivial ?_
              exact hJ5 (v2.1 == ([34, 97, 92, 120, 102, 102, 34] : List UInt8)) h
            · rw [and_f e7] at h
              refine WL_all hE [41] [] [] (st' := ⟨[(41, BB false)], [], []⟩) (orc := []) (ob := []) (by kernel_rfl) trivial ?_
              exact hJ5 false h
          refine WL_split (fun g => ⟨[(3, SS v2.1), (4, I64 v2.2), (34, BB g)], [], []⟩) (b := t3) (fun e8 => ?_) (fun e8 => ?_)
          · rw [and_t e8] at h
            refine WL_all hE [3, 37] [] [] (st' := ⟨[(3, SS v2.1), (37, BB (v2.2 == (0 : Int)))], [], []⟩) (orc := []) (ob := []) (by kernel_rfl) trivial ?_
            exact hJ4 (v2.2 == (0 : Int)) h
          · rw [and_f e8] at h
            refine WL_all hE [3, 37] [] [] (st' := ⟨[(3, SS v2.1), (37, BB false)], [], []⟩) (orc := []) (ob := []) (by kernel_rfl) trivial ?_
            exact hJ4 false h
        refine WL_split (fun g => ⟨[(1, .val (.sl (.pair (.int .i32) (.pair (.int .i64) (.pair (.int .i64) (.pair .bool .unit))))) v1.1), (3, SS v2.1), (4, I64 v2.2), (27, BB g)], [], []⟩) (b := t2) (fun e9 => ?_) (fun e9 => ?_)
        · replace h := ite_t e9 h
          obtain ⟨x1, e10, h⟩ := bind_some h
          refine WL_all hE [3, 4, 33] [] [] (st' := ⟨[(3, SS v2.1), (4, I64 v2.2), (33, BB ((eqInt x1.1 (65533 : Int)) && ((eqInt x1.2.1 (1 : Int)) && ((eqInt x1.2.2.1 (1 : Int)) && ((eqBool x1.2.2.2.1 true) && (true))))))], [], []⟩) (orc := [⟨(.pair (.int .i32) (.pair (.int .i64) (.pair (.int .i64) (.pair .bool .unit)))), x1⟩]) (ob := [at? v1.1 (1 : Int) = some x1]) (by kernel_rfl) ⟨e10, trivial⟩ ?_
          exact hJ3 ((eqInt x1.1 (65533 : Int)) && ((eqInt x1.2.1 (1 : Int)) && ((eqInt x1.2.2.1 (1 : Int)) && ((eqBool x1.2.2.2.1 true) && (true))))) h
        · replace h := ite_f e9 h
          refine WL_all hE [3, 4, 33] [] [] (st' := ⟨[(3, SS v2.1), (4, I64 v2.2), (33, BB false)], [], []⟩) (orc := []) (ob := []) (by kernel_rfl) trivial ?_
          exact hJ3 false h
      refine WL_split (fun g => ⟨[(1, .val (.sl (.pair (.int .i32) (.pair (.int .i64) (.pair (.int .i64) (.pair .bool .unit))))) v1.1), (3, SS v2.1), (4, I64 v2.2), (20, BB g)], [], []⟩) (b := t1) (fun e11 => ?_) (fun e11 => ?_)
      · replace h := ite_t e11 h
        obtain ⟨x2, e12, h⟩ := bind_some h
        refine WL_all hE [1, 3, 4, 26] [] [] (st' := ⟨[(1, .val (.sl (.pair (.int .i32) (.pair (.int .i64) (.pair (.int .i64) (.pair .bool .unit))))) v1.1), (3, SS v2.1), (4, I64 v2.2), (26, BB ((eqInt x2.1 (97 : Int)) && ((eqInt x2.2.1 (0 : Int)) && ((eqInt x2.2.2.1 (1 : Int)) && ((eqBool x2.2.2.2.1 false) && (true))))))], [], []⟩) (orc := [⟨(.pair (.int .i32) (.pair (.int .i64) (.pair (.int .i64) (.pair .bool .unit)))), x2⟩]) (ob := [at? v1.1 (0 : Int) = some x2]) (by kernel_rfl) ⟨e12, trivial⟩ ?_
        exact hJ2 ((eqInt x2.1 (97 : Int)) && ((eqInt x2.2.1 (0 : Int)) && ((eqInt x2.2.2.1 (1 : Int)) && ((eqBool x2.2.2.2.1 false) && (true))))) h
      · replace h := ite_f e11 h
        refine WL_all hE [1, 3, 4, 26] [] [] (st' := ⟨[(1, .val (.sl (.pair (.int .i32) (.pair (.int .i64) (.pair (.int .i64) (.pair .bool .unit))))) v1.1), (3, SS v2.1), (4, I64 v2.2), (26, BB false)], [], []⟩) (orc := []) (ob := []) (by kernel_rfl) trivial ?_
        exact hJ2 false h
    refine WL_split (fun g => ⟨[(1, .val (.sl (.pair (.int .i32) (.pair (.int .i64) (.pair (.int .i64) (.pair .bool .unit))))) v1.1), (3, SS v2.1), (4, I64 v2.2), (15, BB g)], [], []⟩) (b := v1.2 == (0 : Int)) (fun e13 => ?_) (fun e13 => ?_)
    · rw [and_t e13] at h
      refine WL_all hE [1, 3, 4, 19] [] [] (st' := ⟨[(1, .val (.sl (.pair (.int .i32) (.pair (.int .i64) (.pair (.int .i64) (.pair .bool .unit))))) v1.1), (3, SS v2.1), (4, I64 v2.2), (19, BB ((List.length v1.1 : Int) == (2 : Int)))], [], []⟩) (orc := []) (ob := []) (by kernel_rfl) trivial ?_
      exact hJ1 ((List.length v1.1 : Int) == (2 : Int)) h
    · rw [and_f e13] at h
      refine WL_all hE [1, 3, 4, 19] [] [] (st' := ⟨[(1, .val (.sl (.pair (.int .i32) (.pair (.int .i64) (.pair (.int .i64) (.pair .bool .unit))))) v1.1), (3, SS v2.1), (4, I64 v2.2), (19, BB false)], [], []⟩) (orc := []) (ob := []) (by kernel_rfl) trivial ?_
      exact hJ1 false h

def C_l01_RunesRows (k : Nat) : FnC := ⟨true, 1, [], fun | [⟨.str, a1⟩, ⟨.str, b1⟩, ⟨.str, c1⟩], [⟨.bool, r⟩] => l01_RunesRows k a1 b1 c1 = some r | _, _ => False⟩
noncomputable def E_l01_RunesRows (k : Nat) : Env := ⟨Tryd.prog, Gt, 68, [(24, C_l01_alive k), (10, C_runes_Less k)]⟩
theorem c_l01_RunesRows (k : Nat) : Contract Tryd.prog Gt 5 (C_l01_RunesRows k) := by
  refine contract_of Gt_stable (fn := Tryd.f5) Tryd.func5 (by kernel_rfl) rfl ?_ ?_
  · intro xs rs h
    unfold C_l01_RunesRows at h
    simp only at h
    split at h
    · exact ⟨by show 3 ≤ _; rw [Tryd.ntmps5]; decide, rfl, fun _ u hu => by simp at hu; (rcases hu with rfl) <;> rfl⟩
    · exact h.elim
  · intro w0 M xs rs hG h
    unfold C_l01_RunesRows at h
    simp only at h
    split at h
    case h_2 => exact h.elim
    rename_i a1 b1 c1 r
    change List UInt8 at a1
    change List UInt8 at b1
    change List UInt8 at c1
    change Bool at r
    have hE : EnvOK (E_l01_RunesRows k) ⟨Tryd.prog, Tryd.f5.ntmps, w0, M, fun _ => False, fun _ => undef⟩ := (EnvOK.cons (c_l01_alive k) (EnvOK.cons (c_runes_Less k) (EnvOK.nil rfl Tryd.ntmps5 hG)))
    unfold l01_RunesRows at h
    refine W_seq ?_
    refine W_region ?_
    refine WL_all hE [0, 1, 2] [] [] (st' := ⟨[(0, SS a1), (1, SS b1), (2, SS c1)], [], []⟩) (orc := []) (ob := []) (by kernel_rfl) trivial ?_
    refine N_then ?_
    refine W_seq ?_
    refine W_seq ?_
    refine W_region ?_
    refine WL_tk hE 4 [0, 1, 2, 14] [] [] (st' := ⟨[(0, SS a1), (1, SS b1), (2, SS c1), (14, BB (decide ((5000 : Int) < (List.length a1 : Int))))], [], []⟩) (orc := []) (ob := []) (by kernel_rfl) trivial ?_
    refine WL_join (α := Bool) (fun z => l01_RunesRows_j1 k a1 b1 c1 z = some r) (fun t1 => ⟨[(0, SS a1), (1, SS b1), (2, SS c1), (18, BB t1)], [], []⟩) 4 ?_ (fun hJ1 => ?_)
    · rintro t1 h
      unfold l01_RunesRows_j1 at h
      refine WL_tk hE 1 [0, 1, 2, 19] [] [] (st' := ⟨[(0, SS a1), (1, SS b1), (2, SS c1), (19, BB t1)], [], []⟩) (orc := []) (ob := []) (by kernel_rfl) trivial ?_
      refine WL_join (α := Bool) (fun z => l01_RunesRows_j2 k a1 b1 c1 z = some r) (fun t2 => ⟨[(0, SS a1), (1, SS b1), (2, SS c1), (23, BB t2)], [], []⟩) 4 ?_ (fun hJ2 => ?_)
      · rintro t2 h
        unfold l01_RunesRows_j2 at h
        refine WL_nil ?_
        refine N_then ?_
        refine W_cond (b := t2) (by kernel_rfl) (fun e1 => ?_) (fun e1 => ?_)
        · replace h := ite_t e1 h
          refine W_seq ?_
          refine W_region ?_
          obtain ⟨v1, e2, h⟩ := bind_some h
          refine WL_all hE [6] [] [] (st' := ⟨[(6, BB v1)], [], []⟩) (orc := [tB v1]) (ob := [l01_alive k = some v1]) (by kernel_rfl) ⟨e2, trivial⟩ ?_
          refine N_then ?_
          refine W_ret ?_
          refine N_then_ret ?_
          cases h
          exact N_end (.inl rfl) (by kernel_rfl)
        · replace h := ite_f e1 h
          refine W_skip ?_
          refine N_then ?_
          refine W_seq ?_
          refine W_region ?_
          obtain ⟨v2, e3, h⟩ := bind_some h
          obtain ⟨v3, e4, h⟩ := bind_some h
          obtain ⟨v4, e5, h⟩ := bind_some h
          refine WL_all hE [0, 1, 7, 8, 9] [] [] (st' := ⟨[(0, SS a1), (1, SS b1), (7, BB v2), (8, BB v3), (9, BB v4)], [], []⟩) (orc := [tB v2, tB v3, tB v4]) (ob := [runes_Less k a1 b1 = some v2, runes_Less k b1 c1 = some v3, runes_Less k a1 c1 = some v4]) (by kernel_rfl) ⟨e3, e4, e5, trivial⟩ ?_
          refine N_then ?_
          refine W_seq ?_
          refine W_region ?_
          obtain ⟨v5, e6, h⟩ := bind_some h
          refine WL_all hE [0, 1, 7, 8, 9, 10] [] [] (st' := ⟨[(0, SS a1), (1, SS b1), (7, BB v2), (8, BB v3), (9, BB v4), (10, BB v5)], [], []⟩) (orc := [tB v5]) (ob := [runes_Less k b1 a1 = some v5]) (by kernel_rfl) ⟨e6, trivial⟩ ?_
          refine N_then ?_
          refine W_seq ?_
          refine W_seq ?_
          refine W_region ?_
          obtain ⟨v6, e7, h⟩ := bind_some h
          refine WL_tk hE 3 [0, 1, 7, 8, 9, 10, 39] [] [] (st' := ⟨[(0, SS a1), (1, SS b1), (7, BB v2), (8, BB v3), (9, BB v4), (10, BB v5), (39, BB (!v6))], [], []⟩) (orc := [tB v6]) (ob := [l01_alive k = some v6]) (by kernel_rfl) ⟨e7, trivial⟩ ?_
          refine WL_join (α := Bool) (fun z => l01_RunesRows_j3 v4 v2 v3 a1 b1 v5 z = some r) (fun t3 => ⟨[(0, SS a1), (1, SS b1), (7, BB v2), (8, BB v3), (9, BB v4), (10, BB v5), (43, BB t3)], [], []⟩) 4 ?_ (fun hJ3 => ?_)
          · rintro t3 h
            unfold l01_RunesRows_j3 at h
            refine WL_tk hE 1 [0, 1, 7, 8, 9, 10, 44] [] [] (st' := ⟨[(0, SS a1), (1, SS b1), (7, BB v2), (8, BB v3), (9, BB v4), (10, BB v5), (44, BB t3)], [], []⟩) (orc := []) (ob := []) (by kernel_rfl) trivial ?_
            refine WL_join (α := Bool) (fun z => l01_RunesRows_j4 v4 v2 v3 a1 b1 v5 z = some r) (fun t4 => ⟨[(0, SS a1), (1, SS b1), (7, BB v2), (8, BB v3), (9, BB v4), (10, BB v5), (49, BB t4)], [], []⟩) 5 ?_ (fun hJ4 => ?_)
            · rintro t4 h
              unfold l01_RunesRows_j4 at h
              refine WL_tk hE 1 [0, 1, 7, 8, 9, 10, 50] [] [] (st' := ⟨[(0, SS a1), (1, SS b1), (7, BB v2), (8, BB v3), (9, BB v4), (10, BB v5), (50, BB t4)], [], []⟩) (orc := []) (ob := []) (by kernel_rfl) trivial ?_
              refine WL_join (α := Bool) (fun z => l01_RunesRows_j5 v4 v2 v3 z = some r) (fun t5 => ⟨[(7, BB v2), (8, BB v3), (9, BB v4), (59, BB t5)], [], []⟩) 9 ?_ (fun hJ5 => ?_)
              · rintro t5 h
                unfold l01_RunesRows_j5 at h
                refine WL_nil ?_
                refine N_then ?_
                refine W_cond (b := t5) (by kernel_rfl) (fun e8 => ?_) (fun e8 => ?_)
                · replace h := ite_t e8 h
                  refine W_seq ?_
                  refine W_region ?_
                  refine WL_all hE [6] [] [] (st' := ⟨[(6, BB false)], [], []⟩) (orc := []) (ob := []) (by kernel_rfl) trivial ?_
                  refine N_then ?_
                  refine W_ret ?_
                  refine N_then_ret ?_
                  cases h
                  exact N_end (.inl rfl) (by kernel_rfl)
                · replace h := ite_f e8 h
                  refine W_skip ?_
                  refine N_then ?_
                  refine W_seq ?_
                  refine W_region ?_
                  refine WL_tk hE 2 [8, 9, 61] [] [] (st' := ⟨[(8, BB v3), (9, BB v4), (61, BB v2)], [], []⟩) (orc := []) (ob := []) (by kernel_rfl) trivial ?_
                  refine WL_join (α := Bool) (fun z => l01_RunesRows_j6 v4 z = some r) (fun t6 => ⟨[(9, BB v4), (63, BB t6)], [], []⟩) 2 ?_ (fun hJ6 => ?_)
                  · rintro t6 h
                    unfold l01_RunesRows_j6 at h
                    refine WL_tk hE 2 [9, 65] [] [] (st' := ⟨[(9, BB v4), (65, BB (!t6))], [], []⟩) (orc := []) (ob := []) (by kernel_rfl) trivial ?_
                    refine WL_join (α := Bool) (fun z => l01_RunesRows_j7 z = some r) (fun t7 => ⟨[(67, BB t7)], [], []⟩) 2 ?_ (fun hJ7 => ?_)
                    · rintro t7 h
                      unfold l01_RunesRows_j7 at h
                      refine WL_all hE [6] [] [] (st' := ⟨[(6, BB t7)], [], []⟩) (orc := []) (ob := []) (by kernel_rfl) trivial ?_
                      refine N_then ?_
                      refine W_ret ?_
                      cases h
                      exact N_end (.inl rfl) (by kernel_rfl)
                    refine WL_split (fun g => ⟨[(9, BB v4), (65, BB g)], [], []⟩) (b := !t6) (fun e9 => ?_) (fun e9 => ?_)
                    · rw [or_t e9] at h
                      refine WL_all hE [67] [] [] (st' := ⟨[(67, BB true)], [], []⟩) (orc := []) (ob := []) (by kernel_rfl) trivial ?_
                      exact hJ7 true h
                    · rw [or_f e9] at h
                      refine WL_all hE [67] [] [] (st' := ⟨[(67, BB v4)], [], []⟩) (orc := []) (ob := []) (by kernel_rfl) trivial ?_
                      exact hJ7 v4 h
                  refine WL_split (fun g => ⟨[(8, BB v3), (9, BB v4), (61, BB g)], [], []⟩) (b := v2) (fun e10 => ?_) (fun e10 => ?_)
                  · rw [and_t e10] at h
                    refine WL_all hE [9, 63] [] [] (st' := ⟨[(9, BB v4), (63, BB v3)], [], []⟩) (orc := []) (ob := []) (by kernel_rfl) trivial ?_
                    exact hJ6 v3 h
                  · rw [and_f e10] at h
                    refine WL_all hE [9, 63] [] [] (st' := ⟨[(9, BB v4), (63, BB false)], [], []⟩) (orc := []) (ob := []) (by kernel_rfl) trivial ?_
                    exact hJ6 false h
              refine WL_split (fun g => ⟨[(0, SS a1), (1, SS b1), (7, BB v2), (8, BB v3), (9, BB v4), (10, BB v5), (50, BB g)], [], []⟩) (b := t4) (fun e11 => ?_) (fun e11 => ?_)
              · replace h := ite_t e11 h
                refine WL_all hE [7, 8, 9, 59] [] [] (st' := ⟨[(7, BB v2), (8, BB v3), (9, BB v4), (59, BB true)], [], []⟩) (orc := []) (ob := []) (by kernel_rfl) trivial ?_
                exact hJ5 true h
              · replace h := ite_f e11 h
                refine WL_tk hE 5 [7, 8, 9, 10, 50, 53, 55] [] [] (st' := ⟨[(7, BB v2), (8, BB v3), (9, BB v4), (10, BB v5), (50, BB false), (53, BB (a1 == b1)), (55, BB v2)], [], []⟩) (orc := []) (ob := []) (by kernel_rfl) trivial ?_
                refine WL_join (α := Bool) (fun z => l01_RunesRows_j8 v4 v2 v3 a1 b1 z = some r) (fun t8 => ⟨[(7, BB v2), (8, BB v3), (9, BB v4), (50, BB false), (53, BB (a1 == b1)), (57, BB t8)], [], []⟩) 2 ?_ (fun hJ8 => ?_)
                · rintro t8 h
                  unfold l01_RunesRows_j8 at h
                  refine WL_all hE [7, 8, 9, 59] [] [] (st' := ⟨[(7, BB v2), (8, BB v3), (9, BB v4), (59, BB ((a1 == b1) == t8))], [], []⟩) (orc := []) (ob := []) (by kernel_rfl) trivial ?_
                  exact hJ5 ((a1 == b1) == t8) h
                refine WL_split (fun g => ⟨[(7, BB v2), (8, BB v3), (9, BB v4), (10, BB v5), (50, BB false), (53, BB (a1 == b1)), (55, BB g)], [], []⟩) (b := v2) (fun e12 => ?_) (fun e12 => ?_)
                · rw [or_t e12] at h
                  refine WL_all hE [7, 8, 9, 50, 53, 57] [] [] (st' := ⟨[(7, BB v2), (8, BB v3), (9, BB v4), (50, BB false), (53, BB (a1 == b1)), (57, BB true)], [], []⟩) (orc := []) (ob := []) (by kernel_rfl) trivial ?_
                  exact hJ8 true h
                · rw [or_f e12] at h
                  refine WL_all hE [7, 8, 9, 50, 53, 57] [] [] (st' := ⟨[(7, BB v2), (8, BB v3), (9, BB v4), (50, BB false), (53, BB (a1 == b1)), (57, BB v5)], [], []⟩) (orc := []) (ob := []) (by kernel_rfl) trivial ?_
                  exact hJ8 v5 h
            refine WL_split (fun g => ⟨[(0, SS a1), (1, SS b1), (7, BB v2), (8, BB v3), (9, BB v4), (10, BB v5), (44, BB g)], [], []⟩) (b := t3) (fun e13 => ?_) (fun e13 => ?_)
            · replace h := ite_t e13 h
              refine WL_all hE [0, 1, 7, 8, 9, 10, 49] [] [] (st' := ⟨[(0, SS a1), (1, SS b1), (7, BB v2), (8, BB v3), (9, BB v4), (10, BB v5), (49, BB true)], [], []⟩) (orc := []) (ob := []) (by kernel_rfl) trivial ?_
              exact hJ4 true h
            · replace h := ite_f e13 h
              refine WL_tk hE 2 [0, 1, 7, 8, 9, 10, 44, 46] [] [] (st' := ⟨[(0, SS a1), (1, SS b1), (7, BB v2), (8, BB v3), (9, BB v4), (10, BB v5), (44, BB false), (46, BB v2)], [], []⟩) (orc := []) (ob := []) (by kernel_rfl) trivial ?_
              refine WL_join (α := Bool) (fun z => l01_RunesRows_j9 v4 v2 v3 a1 b1 v5 z = some r) (fun t9 => ⟨[(0, SS a1), (1, SS b1), (7, BB v2), (8, BB v3), (9, BB v4), (10, BB v5), (44, BB false), (48, BB t9)], [], []⟩) 2 ?_ (fun hJ9 => ?_)
              · rintro t9 h
                unfold l01_RunesRows_j9 at h
                refine WL_all hE [0, 1, 7, 8, 9, 10, 49] [] [] (st' := ⟨[(0, SS a1), (1, SS b1), (7, BB v2), (8, BB v3), (9, BB v4), (10, BB v5), (49, BB t9)], [], []⟩) (orc := []) (ob := []) (by kernel_rfl) trivial ?_
                exact hJ4 t9 h
              refine WL_split (fun g => ⟨[(0, SS a1), (1, SS b1), (7, BB v2), (8, BB v3), (9, BB v4), (10, BB v5), (44, BB false), (46, BB g)], [], []⟩) (b := v2) (fun e14 => ?_) (fun e14 => ?_)
              · rw [and_t e14] at h
                refine WL_all hE [0, 1, 7, 8, 9, 10, 44, 48] [] [] (st' := ⟨[(0, SS a1), (1, SS b1), (7, BB v2), (8, BB v3), (9, BB v4), (10, BB v5), (44, BB false), (48, BB v5)], [], []⟩) (orc := []) (ob := []) (by kernel_rfl) trivial ?_
                exact hJ9 v5 h
              · rw [and_f e14] at h
                refine WL_all hE [0, 1, 7, 8, 9, 10, 44, 48] [] [] (st' := ⟨[(0, SS a1), (1, SS b1), (7, BB v2), (8, BB v3), (9, BB v4), (10, BB v5), (44, BB false), (48, BB false)], [], []⟩) (orc := []) (ob := []) (by kernel_rfl) trivial ?_
                exact hJ9 false h
          refine WL_split (fun g => ⟨[(0, SS a1), (1, SS b1), (7, BB v2), (8, BB v3), (9, BB v4), (10, BB v5), (39, BB g)], [], []⟩) (b := !v6) (fun e15 => ?_) (fun e15 => ?_)
          · replace h := ite_t e15 h
            refine WL_all hE [0, 1, 7, 8, 9, 10, 43] [] [] (st' := ⟨[(0, SS a1), (1, SS b1), (7, BB v2), (8, BB v3), (9, BB v4), (10, BB v5), (43, BB true)], [], []⟩) (orc := []) (ob := []) (by kernel_rfl) trivial ?_
            exact hJ3 true h
          · replace h := ite_f e15 h
            obtain ⟨v7, e16, h⟩ := bind_some h
            refine WL_all hE [0, 1, 7, 8, 9, 10, 43] [] [] (st' := ⟨[(0, SS a1), (1, SS b1), (7, BB v2), (8, BB v3), (9, BB v4), (10, BB v5), (43, BB v7)], [], []⟩) (orc := [tB v7]) (ob := [runes_Less k a1 a1 = some v7]) (by kernel_rfl) ⟨e16, trivial⟩ ?_
            exact hJ3 v7 h
      refine WL_split (fun g => ⟨[(0, SS a1), (1, SS b1), (2, SS c1), (19, BB g)], [], []⟩) (b := t1) (fun e17 => ?_) (fun e17 => ?_)
      · rw [or_t e17] at h
        refine WL_all hE [0, 1, 2, 23] [] [] (st' := ⟨[(0, SS a1), (1, SS b1), (2, SS c1), (23, BB true)], [], []⟩) (orc := []) (ob := []) (by kernel_rfl) trivial ?_
        exact hJ2 true h
      · rw [or_f e17] at h
        refine WL_all hE [0, 1, 2, 23] [] [] (st' := ⟨[(0, SS a1), (1, SS b1), (2, SS c1), (23, BB (decide ((5000 : Int) < (List.length c1 : Int))))], [], []⟩) (orc := []) (ob := []) (by kernel_rfl) trivial ?_
        exact hJ2 (decide ((5000 : Int) < (List.length c1 : Int))) h
    refine WL_split (fun g => ⟨[(0, SS a1), (1, SS b1), (2, SS c1), (14, BB g)], [], []⟩) (b := decide ((5000 : Int) < (List.length a1 : Int))) (fun e18 => ?_) (fun e18 => ?_)
    · rw [or_t e18] at h
      refine WL_all hE [0, 1, 2, 18] [] [] (st' := ⟨[(0, SS a1), (1, SS b1), (2, SS c1), (18, BB true)], [], []⟩) (orc := []) (ob := []) (by kernel_rfl) trivial ?_
      exact hJ1 true h
    · rw [or_f e18] at h
      refine WL_all hE [0, 1, 2, 18] [] [] (st' := ⟨[(0, SS a1), (1, SS b1), (2, SS c1), (18, BB (decide ((5000 : Int) < (List.length b1 : Int))))], [], []⟩) (orc := []) (ob := []) (by kernel_rfl) trivial ?_
      exact hJ1 (decide ((5000 : Int) < (List.length b1 : Int))) h

def C_runes_Part_c1 (k : Nat) : FnC := ⟨true, 1, [(.sl (.pair (.int .i32) (.pair (.int .i64) (.pair (.int .i64) (.pair .bool .unit))))), .str], fun | [⟨(.int .i64), i1⟩, ⟨(.ptr (.sl (.pair (.int .i32) (.pair (.int .i64) (.pair (.int .i64) (.pair .bool .unit)))))), t1⟩, ⟨(.ptr .str), t2⟩], [⟨(.int .i64), r⟩] => runes_Part_c1 k i1 t1 t2 = some r | _, _ => False⟩
noncomputable def E_runes_Part_c1 (k : Nat) : Env := ⟨Tryd.prog, Gt, 16, []⟩
theorem c_runes_Part_c1 (k : Nat) : Contract Tryd.prog Gt 40 (C_runes_Part_c1 k) := by
  refine contract_of Gt_stable (fn := Tryd.f40) Tryd.func40 (by kernel_rfl) rfl ?_ ?_
  · intro xs rs h
    unfold C_runes_Part_c1 at h
    simp only at h
    split at h
    · exact ⟨by show 3 ≤ _; rw [Tryd.ntmps40]; decide, rfl, fun _ u hu => by simp at hu; (rcases hu with rfl) <;> rfl⟩
    · exact h.elim
  · intro w0 M xs rs hG h
    unfold C_runes_Part_c1 at h
    simp only at h
    split at h
    case h_2 => exact h.elim
    rename_i i1 t1 t2 r
    change Int at i1
    change List ((Int × Int × Int × Bool × Unit)) at t1
    change List UInt8 at t2
    change Int at r
    have hE : EnvOK (E_runes_Part_c1 k) ⟨Tryd.prog, Tryd.f40.ntmps, w0, M, fun _ => False, fun _ => undef⟩ := (EnvOK.nil rfl Tryd.ntmps40 hG)
    unfold runes_Part_c1 at h
    refine W_seq ?_
    refine W_region ?_
    refine WL_all hE [0, 1, 2] [] [] (st' := ⟨[(0, I64 i1), (1, .vptr (.sl (.pair (.int .i32) (.pair (.int .i64) (.pair (.int .i64) (.pair .bool .unit))))) t1), (2, .vptr .str t2)], [], []⟩) (orc := []) (ob := []) (by kernel_rfl) trivial ?_
    refine N_then ?_
    refine W_seq ?_
    refine W_seq ?_
    refine W_region ?_
    refine WL_all hE [0, 1, 2, 8] [] [] (st' := ⟨[(0, I64 i1), (1, .vptr (.sl (.pair (.int .i32) (.pair (.int .i64) (.pair (.int .i64) (.pair .bool .unit))))) t1), (2, .vptr .str t2), (8, BB (i1 == (List.length t1 : Int)))], [], []⟩) (orc := []) (ob := []) (by kernel_rfl) trivial ?_
    refine N_then ?_
    refine W_cond (b := i1 == (List.length t1 : Int)) (by kernel_rfl) (fun e1 => ?_) (fun e1 => ?_)
    · replace h := ite_t e1 h
      refine W_seq ?_
      refine W_region ?_
      refine WL_all hE [4] [] [] (st' := ⟨[(4, I64 (List.length t2 : Int))], [], []⟩) (orc := []) (ob := []) (by kernel_rfl) trivial ?_
      refine N_then ?_
      refine W_ret ?_
      refine N_then_ret ?_
      cases h
      exact N_end (.inl rfl) (by kernel_rfl)
    · replace h := ite_f e1 h
      refine W_skip ?_
      refine N_then ?_
      refine W_seq ?_
      refine W_region ?_
      obtain ⟨x1, e2, h⟩ := bind_some h
      refine WL_all hE [4] [] [] (st' := ⟨[(4, I64 x1.2.1)], [], []⟩) (orc := [⟨(.pair (.int .i32) (.pair (.int .i64) (.pair (.int .i64) (.pair .bool .unit)))), x1⟩]) (ob := [at? t1 i1 = some x1]) (by kernel_rfl) ⟨e2, trivial⟩ ?_
      refine N_then ?_
      refine W_ret ?_
      cases h
      exact N_end (.inl rfl) (by kernel_rfl)

def C_runes_Part (k : Nat) : FnC := ⟨true, 2, [], fun | [⟨.str, s1⟩, ⟨(.int .i64), from1⟩, ⟨(.int .i64), to1⟩], [⟨.str, r1⟩, ⟨(.int .i64), r2⟩] => runes_Part k s1 from1 to1 = some (r1, r2) | _, _ => False⟩
noncomputable def E_runes_Part (k : Nat) : Env := ⟨Tryd.prog, Gt, 41, [(13, C_runes_Pieces k), (40, C_runes_Part_c1 k)]⟩
theorem c_runes_Part (k : Nat) : Contract Tryd.prog Gt 19 (C_runes_Part k) := by
  refine contract_of Gt_stable (fn := Tryd.f19) Tryd.func19 (by kernel_rfl) rfl ?_ ?_
  · intro xs rs h
    unfold C_runes_Part at h
    simp only at h
    split at h
    · exact ⟨by show 3 ≤ _; rw [Tryd.ntmps19]; decide, rfl, fun _ u hu => by simp at hu; (rcases hu with rfl | rfl) <;> rfl⟩
    · exact h.elim
  · intro w0 M xs rs hG h
    unfold C_runes_Part at h
    simp only at h
    split at h
    case h_2 => exact h.elim
    rename_i s1 from1 to1 r1 r2
    change List UInt8 at s1
    change Int at from1
    change Int at to1
    change List UInt8 at r1
    change Int at r2
    have hE : EnvOK (E_runes_Part k) ⟨Tryd.prog, Tryd.f19.ntmps, w0, M, fun _ => False, fun _ => undef⟩ := (EnvOK.cons (c_runes_Pieces k) (EnvOK.cons (c_runes_Part_c1 k) (EnvOK.nil rfl Tryd.ntmps19 hG)))
    unfold runes_Part at h
    refine W_seq ?_
    refine W_region ?_
    refine WL_all hE [1, 2, 3] [3] [] (st' := ⟨[(1, I64 from1), (2, I64 to1), (3, .ptr 3 0)], [(3, .cells [SS s1] 9)], []⟩) (orc := []) (ob := []) (by kernel_rfl) trivial ?_
    refine N_then ?_
    refine W_seq ?_
    refine W_region ?_
    obtain ⟨v1, e1, h⟩ := bind_some h
    refine WL_all hE [1, 2, 3, 8, 9] [3, 8] [] (st' := ⟨[(1, I64 from1), (2, I64 to1), (3, .ptr 3 0), (8, .ptr 8 0), (9, I64 v1.2)], [(3, .cells [SS s1] 9), (8, .cells [.val (.sl (.pair (.int .i32) (.pair (.int .i64) (.pair (.int .i64) (.pair .bool .unit))))) v1.1] 24)], []⟩) (orc := [⟨(.sl (.pair (.int .i32) (.pair (.int .i64) (.pair (.int .i64) (.pair .bool .unit))))), v1.1⟩, tI64 v1.2]) (ob := [runes_Pieces k s1 = some ((v1).1, (v1).2)]) (by kernel_rfl) ⟨e1, trivial⟩ ?_
    refine N_then ?_
    refine W_seq ?_
    refine W_seq ?_
    refine W_region ?_
    refine WL_all hE [1, 2, 3, 8, 9, 17] [3, 8] [] (st' := ⟨[(1, I64 from1), (2, I64 to1), (3, .ptr 3 0), (8, .ptr 8 0), (9, I64 v1.2), (17, BB (v1.2 != (0 : Int)))], [(3, .cells [SS s1] 9), (8, .cells [.val (.sl (.pair (.int .i32) (.pair (.int .i64) (.pair (.int .i64) (.pair .bool .unit))))) v1.1] 24)], []⟩) (orc := []) (ob := []) (by kernel_rfl) trivial ?_
    refine N_then ?_
    refine W_cond (b := v1.2 != (0 : Int)) (by kernel_rfl) (fun e2 => ?_) (fun e2 => ?_)
    · replace h := ite_t e2 h
      refine W_seq ?_
      refine W_region ?_
      refine WL_all hE [6, 7] [] [] (st' := ⟨[(6, SS ([] : List UInt8)), (7, I64 v1.2)], [], []⟩) (orc := []) (ob := []) (by kernel_rfl) trivial ?_
      refine N_then ?_
      refine W_ret ?_
      refine N_then_ret ?_
      cases h
      exact N_end (.inl rfl) (by kernel_rfl)
    · replace h := ite_f e2 h
      refine W_skip ?_
      refine N_then ?_
      refine W_seq ?_
      refine W_seq ?_
      refine W_region ?_
      refine WL_tk hE 3 [1, 2, 3, 8, 21] [3, 8] [] (st' := ⟨[(1, I64 from1), (2, I64 to1), (3, .ptr 3 0), (8, .ptr 8 0), (21, BB (decide (from1 < (0 : Int))))], [(3, .cells [SS s1] 9), (8, .cells [.val (.sl (.pair (.int .i32) (.pair (.int .i64) (.pair (.int .i64) (.pair .bool .unit))))) v1.1] 24)], []⟩) (orc := []) (ob := []) (by kernel_rfl) trivial ?_
      refine WL_join (α := Bool) (fun z => runes_Part_j1 k from1 v1 s1 to1 z = some (r1, r2)) (fun t1 => ⟨[(1, I64 from1), (2, I64 to1), (3, .ptr 3 0), (8, .ptr 8 0), (25, BB t1)], [(3, .cells [SS s1] 9), (8, .cells [.val (.sl (.pair (.int .i32) (.pair (.int .i64) (.pair (.int .i64) (.pair .bool .unit))))) v1.1] 24)], []⟩) 4 ?_ (fun hJ1 => ?_)
      · rintro t1 h
        unfold runes_Part_j1 at h
        refine WL_tk hE 1 [1, 2, 3, 8, 26] [3, 8] [] (st' := ⟨[(1, I64 from1), (2, I64 to1), (3, .ptr 3 0), (8, .ptr 8 0), (26, BB t1)], [(3, .cells [SS s1] 9), (8, .cells [.val (.sl (.pair (.int .i32) (.pair (.int .i64) (.pair (.int .i64) (.pair .bool .unit))))) v1.1] 24)], []⟩) (orc := []) (ob := []) (by kernel_rfl) trivial ?_
        refine WL_join (α := Bool) (fun z => runes_Part_j2 k from1 v1 s1 to1 z = some (r1, r2)) (fun t2 => ⟨[(1, I64 from1), (2, I64 to1), (3, .ptr 3 0), (8, .ptr 8 0), (31, BB t2)], [(3, .cells [SS s1] 9), (8, .cells [.val (.sl (.pair (.int .i32) (.pair (.int .i64) (.pair (.int .i64) (.pair .bool .unit))))) v1.1] 24)], []⟩) 5 ?_ (fun hJ2 => ?_)
        · rintro t2 h
          unfold runes_Part_j2 at h
          refine WL_nil ?_
          refine N_then ?_
          refine W_cond (b := t2) (by kernel_rfl) (fun e3 => ?_) (fun e3 => ?_)
          · replace h := ite_t e3 h
            refine W_seq ?_
            refine W_region ?_
            refine WL_all hE [6, 7] [] [] (st' := ⟨[(6, SS ([] : List UInt8)), (7, I64 (10 : Int))], [], []⟩) (orc := []) (ob := []) (by kernel_rfl) trivial ?_
            refine N_then ?_
            refine W_ret ?_
            refine N_then_ret ?_
            cases h
            exact N_end (.inl rfl) (by kernel_rfl)
          · replace h := ite_f e3 h
            refine W_skip ?_
            refine N_then ?_
            refine W_seq ?_
            refine W_region ?_
            refine WL_all hE [1, 2, 3, 10] [3, 8] [] (st' := ⟨[(1, I64 from1), (2, I64 to1), (3, .ptr 3 0), (10, .clos 40 [8, 3])], [(3, .cells [SS s1] 9), (8, .cells [.val (.sl (.pair (.int .i32) (.pair (.int .i64) (.pair (.int .i64) (.pair .bool .unit))))) v1.1] 24)], []⟩) (orc := []) (ob := []) (by kernel_rfl) trivial ?_
            refine N_then ?_
            refine W_seq ?_
            refine W_draw (by kernel_rfl) (by kernel_rfl) ?_
            obtain ⟨v2, e4, h⟩ := bind_some h
            obtain ⟨v3, e5, h⟩ := bind_some h
            obtain ⟨s2, e6, h⟩ := bind_some h
            refine WD_all hE [6, 7] [] [] (st' := ⟨[(6, SS s2), (7, I64 (0 : Int))], [], []⟩) (orc := [tI64 v2, tI64 v3, tS s2]) (ob := [runes_Part_c1 k from1 v1.1 s1 = some v2, runes_Part_c1 k to1 v1.1 s1 = some v3, sub? s1 v2 v3 = some s2]) (by kernel_rfl) ⟨e4, e5, e6, trivial⟩ ?_
            refine N_then ?_
            refine W_ret ?_
            cases h
            exact N_end (.inl rfl) (by kernel_rfl)
        refine WL_split (fun g => ⟨[(1, I64 from1), (2, I64 to1), (3, .ptr 3 0), (8, .ptr 8 0), (26, BB g)], [(3, .cells [SS s1] 9), (8, .cells [.val (.sl (.pair (.int .i32) (.pair (.int .i64) (.pair (.int .i64) (.pair .bool .unit))))) v1.1] 24)], []⟩) (b := t1) (fun e7 => ?_) (fun e7 => ?_)
        · rw [or_t e7] at h
          refine WL_all hE [1, 2, 3, 8, 31] [3, 8] [] (st' := ⟨[(1, I64 from1), (2, I64 to1), (3, .ptr 3 0), (8, .ptr 8 0), (31, BB true)], [(3, .cells [SS s1] 9), (8, .cells [.val (.sl (.pair (.int .i32) (.pair (.int .i64) (.pair (.int .i64) (.pair .bool .unit))))) v1.1] 24)], []⟩) (orc := []) (ob := []) (by kernel_rfl) trivial ?_
          exact hJ2 true h
        · rw [or_f e7] at h
          refine WL_all hE [1, 2, 3, 8, 31] [3, 8] [] (st' := ⟨[(1, I64 from1), (2, I64 to1), (3, .ptr 3 0), (8, .ptr 8 0), (31, BB (decide ((List.length v1.1 : Int) < to1)))], [(3, .cells [SS s1] 9), (8, .cells [.val (.sl (.pair (.int .i32) (.pair (.int .i64) (.pair (.int .i64) (.pair .bool .unit))))) v1.1] 24)], []⟩) (orc := []) (ob := []) (by kernel_rfl) trivial ?_
          exact hJ2 (decide ((List.length v1.1 : Int) < to1)) h
      refine WL_split (fun g => ⟨[(1, I64 from1), (2, I64 to1), (3, .ptr 3 0), (8, .ptr 8 0), (21, BB g)], [(3, .cells [SS s1] 9), (8, .cells [.val (.sl (.pair (.int .i32) (.pair (.int .i64) (.pair (.int .i64) (.pair .bool .unit))))) v1.1] 24)], []⟩) (b := decide (from1 < (0 : Int))) (fun e8 => ?_) (fun e8 => ?_)
      · rw [or_t e8] at h
        refine WL_all hE [1, 2, 3, 8, 25] [3, 8] [] (st' := ⟨[(1, I64 from1), (2, I64 to1), (3, .ptr 3 0), (8, .ptr 8 0), (25, BB true)], [(3, .cells [SS s1] 9), (8, .cells [.val (.sl (.pair (.int .i32) (.pair (.int .i64) (.pair (.int .i64) (.pair .bool .unit))))) v1.1] 24)], []⟩) (orc := []) (ob := []) (by kernel_rfl) trivial ?_
        exact hJ1 true h
      · rw [or_f e8] at h
        refine WL_all hE [1, 2, 3, 8, 25] [3, 8] [] (st' := ⟨[(1, I64 from1), (2, I64 to1), (3, .ptr 3 0), (8, .ptr 8 0), (25, BB (decide (to1 < from1)))], [(3, .cells [SS s1] 9), (8, .cells [.val (.sl (.pair (.int .i32) (.pair (.int .i64) (.pair (.int .i64) (.pair .bool .unit))))) v1.1] 24)], []⟩) (orc := []) (ob := []) (by kernel_rfl) trivial ?_
        exact hJ1 (decide (to1 < from1)) h

def C_runes_Back (k : Nat) : FnC := ⟨true, 2, [], fun | [⟨.str, s1⟩], [⟨.str, r1⟩, ⟨(.int .i64), r2⟩] => runes_Back k s1 = some (r1, r2) | _, _ => False⟩
noncomputable def E_runes_Back (k : Nat) : Env := ⟨Tryd.prog, Gt, 13, [(35, C_runes_long k)]⟩
theorem c_runes_Back (k : Nat) : Contract Tryd.prog Gt 21 (C_runes_Back k) := by
  refine contract_of Gt_stable (fn := Tryd.f21) Tryd.func21 (by kernel_rfl) rfl ?_ ?_
  · intro xs rs h
    unfold C_runes_Back at h
    simp only at h
    split at h
    · exact ⟨by show 1 ≤ _; rw [Tryd.ntmps21]; decide, rfl, fun _ u hu => by simp at hu; (rcases hu with rfl | rfl) <;> rfl⟩
    · exact h.elim
  · intro w0 M xs rs hG h
    unfold C_runes_Back at h
    simp only at h
    split at h
    case h_2 => exact h.elim
    rename_i s1 r1 r2
    change List UInt8 at s1
    change List UInt8 at r1
    change Int at r2
    have hE : EnvOK (E_runes_Back k) ⟨Tryd.prog, Tryd.f21.ntmps, w0, M, fun _ => False, fun _ => undef⟩ := (EnvOK.cons (c_runes_long k) (EnvOK.nil rfl Tryd.ntmps21 hG))
    unfold runes_Back at h
    refine W_seq ?_
    refine W_region ?_
    refine WL_all hE [0] [] [] (st' := ⟨[(0, SS s1)], [], []⟩) (orc := []) (ob := []) (by kernel_rfl) trivial ?_
    refine N_then ?_
    refine W_seq ?_
    refine W_seq ?_
    refine W_region ?_
    obtain ⟨v1, e1, h⟩ := bind_some h
    refine WL_all hE [0, 4] [] [] (st' := ⟨[(0, SS s1), (4, I64 v1)], [], []⟩) (orc := [tI64 v1]) (ob := [runes_long k s1 = some v1]) (by kernel_rfl) ⟨e1, trivial⟩ ?_
    refine N_then ?_
    refine W_seq ?_
    refine W_region ?_
    refine WL_all hE [0, 4, 8] [] [] (st' := ⟨[(0, SS s1), (4, I64 v1), (8, BB (v1 != (0 : Int)))], [], []⟩) (orc := []) (ob := []) (by kernel_rfl) trivial ?_
    refine N_then ?_
    refine W_cond (b := v1 != (0 : Int)) (by kernel_rfl) (fun e2 => ?_) (fun e2 => ?_)
    · replace h := ite_t e2 h
      refine W_seq ?_
      refine W_region ?_
      refine WL_all hE [2, 3] [] [] (st' := ⟨[(2, SS ([] : List UInt8)), (3, I64 v1)], [], []⟩) (orc := []) (ob := []) (by kernel_rfl) trivial ?_
      refine N_then ?_
      refine W_ret ?_
      refine N_then_ret ?_
      cases h
      exact N_end (.inl rfl) (by kernel_rfl)
    · replace h := ite_f e2 h
      refine W_skip ?_
      refine N_then ?_
      refine W_seq ?_
      refine W_region ?_
      obtain ⟨_, e3, h⟩ := bind_some h
      replace e3 := chk_some e3
      obtain ⟨_, e4, h⟩ := bind_some h
      replace e4 := chk_some e4
      refine WL_all hE [2, 3] [] [] (st' := ⟨[(2, SS (runesStr (strRunes s1))), (3, I64 (0 : Int))], [], []⟩) (orc := []) (ob := [List.length s1 ≤ lim, List.length (runesStr (strRunes s1)) ≤ lim]) (by kernel_rfl) ⟨e3, e4, trivial⟩ ?_
      refine N_then ?_
      refine W_ret ?_
      cases h
      exact N_end (.inl rfl) (by kernel_rfl)

def C_unicode_utf8_RuneCountInString (k : Nat) : FnC := ⟨true, 1, [], fun | [⟨.str, s1⟩], [⟨(.int .i64), r⟩] => unicode_utf8_RuneCountInString k s1 = some r | _, _ => False⟩
noncomputable def E_unicode_utf8_RuneCountInString (k : Nat) : Env := ⟨Tryd.prog, Gt, 10, []⟩
theorem c_unicode_utf8_RuneCountInString (k : Nat) : Contract Tryd.prog Gt 38 (C_unicode_utf8_RuneCountInString k) := by
  refine contract_of Gt_stable (fn := Tryd.f38) Tryd.func38 (by kernel_rfl) rfl ?_ ?_
  · intro xs rs h
    unfold C_unicode_utf8_RuneCountInString at h
    simp only at h
    split at h
    · exact ⟨by show 1 ≤ _; rw [Tryd.ntmps38]; decide, rfl, fun _ u hu => by simp at hu; (rcases hu with rfl) <;> rfl⟩
    · exact h.elim
  · intro w0 M xs rs hG h
    unfold C_unicode_utf8_RuneCountInString at h
    simp only at h
    split at h
    case h_2 => exact h.elim
    rename_i s1 r
    change List UInt8 at s1
    change Int at r
    have hE : EnvOK (E_unicode_utf8_RuneCountInString k) ⟨Tryd.prog, Tryd.f38.ntmps, w0, M, fun _ => False, fun _ => undef⟩ := (EnvOK.nil rfl Tryd.ntmps38 hG)
    unfold unicode_utf8_RuneCountInString at h
    refine W_seq ?_
    refine W_region ?_
    refine WL_all hE [0, 2] [] [] (st' := ⟨[(0, SS s1), (2, I64 (0 : Int))], [], []⟩) (orc := []) (ob := []) (by kernel_rfl) trivial ?_
    refine N_then ?_
    refine W_seq ?_
    refine W_seq ?_
    refine W_region ?_
    refine WL_all hE [2, 4] [4] [] (st' := ⟨[(2, I64 (0 : Int)), (4, .iter 4)], [(4, .iter s1 0)], []⟩) (orc := []) (ob := []) (by kernel_rfl) trivial ?_
    refine N_then ?_
    refine W_block ?_
    refine W_loop (α := (Int × Nat)) (fun n z => unicode_utf8_RuneCountInString_l1 s1 n z.1 z.2 = some r) (fun z => ⟨[(2, I64 (z.1)), (4, .iter 4)], [(4, .iter s1 (z.2))], []⟩) ?_ (k := k) (x := ((0 : Int), 0)) h
    clear h
    rintro fuel1 ⟨n1, pos1⟩ h
    cases fuel1 with
    | zero => exact absurd (show none = some _ from h) (by simp)
    | succ fuel1 =>
      have h : unicode_utf8_RuneCountInString_b1 s1 (unicode_utf8_RuneCountInString_l1 s1 fuel1) n1 pos1 = some r := h
      unfold unicode_utf8_RuneCountInString_b1 at h
      refine W_seq ?_
      refine W_region ?_
      rcases Bool.eq_false_or_eq_true (decide (pos1 < List.length s1)) with e1 | e1
      · replace h := ite_t e1 h
        refine WL_tk hE 1 [2, 4, 5] [4] [] (st' := ⟨[(2, I64 n1), (4, .iter 4), (5, .tup [tB true, tI64 (pos1 : Int), tI32 (runeAt s1 pos1)])], [(4, .iter s1 (pos1 + widthAt s1 pos1))], []⟩) (orc := [tB true]) (ob := [pos1 < List.length s1]) (by kernel_rfl) ⟨of_decide_eq_true e1, trivial⟩ ?_
        refine WL_all hE [2, 4, 6] [4] [] (st' := ⟨[(2, I64 n1), (4, .iter 4), (6, BB true)], [(4, .iter s1 (pos1 + widthAt s1 pos1))], []⟩) (orc := []) (ob := []) (by kernel_rfl) trivial ?_
        refine N_then ?_
        refine W_seq ?_
        refine W_cond_true (by kernel_rfl) ?_
        refine W_skip ?_
        refine N_then ?_
        refine W_block ?_
        refine W_region ?_
        refine WL_all hE [2, 4] [4] [] (st' := ⟨[(2, I64 (wi64 (n1 + (1 : Int)))), (4, .iter 4)], [(4, .iter s1 (pos1 + widthAt s1 pos1))], []⟩) (orc := []) (ob := []) (by kernel_rfl) trivial ?_
        refine N_block ?_
        exact N_round (wi64 (n1 + (1 : Int)), (pos1 + widthAt s1 pos1)) (Nat.lt_succ_self _) h
      · replace h := ite_f e1 h
        refine WL_tk hE 1 [2, 4, 5] [4] [] (st' := ⟨[(2, I64 n1), (4, .iter 4), (5, .tup [tB false])], [(4, .iter s1 pos1)], []⟩) (orc := [tB false]) (ob := [List.length s1 ≤ pos1]) (by kernel_rfl) ⟨Nat.le_of_not_lt (of_decide_eq_false e1), trivial⟩ ?_
        refine WL_all hE [2, 4, 6] [4] [] (st' := ⟨[(2, I64 n1), (4, .iter 4), (6, BB false)], [(4, .iter s1 pos1)], []⟩) (orc := []) (ob := []) (by kernel_rfl) trivial ?_
        refine N_then ?_
        refine W_seq ?_
        refine W_cond_false (by kernel_rfl) ?_
        refine W_exit ?_
        refine N_then_exit ?_
        refine N_then_exit ?_
        refine N_block_exit ?_
        refine N_then ?_
        refine W_seq ?_
        refine W_region ?_
        refine WL_all hE [2] [] [] (st' := ⟨[(2, I64 n1)], [], []⟩) (orc := []) (ob := []) (by kernel_rfl) trivial ?_
        refine N_then ?_
        refine W_ret ?_
        cases h
        exact N_end (.inl rfl) (by kernel_rfl)

def C_runes_Len (k : Nat) : FnC := ⟨true, 2, [], fun | [⟨.str, s1⟩], [⟨(.int .i64), r1⟩, ⟨(.int .i64), r2⟩] => runes_Len k s1 = some (r1, r2) | _, _ => False⟩
noncomputable def E_runes_Len (k : Nat) : Env := ⟨Tryd.prog, Gt, 12, [(35, C_runes_long k), (38, C_unicode_utf8_RuneCountInString k)]⟩
theorem c_runes_Len (k : Nat) : Contract Tryd.prog Gt 15 (C_runes_Len k) := by
  refine contract_of Gt_stable (fn := Tryd.f15) Tryd.func15 (by kernel_rfl) rfl ?_ ?_
  · intro xs rs h
    unfold C_runes_Len at h
    simp only at h
    split at h
    · exact ⟨by show 1 ≤ _; rw [Tryd.ntmps15]; decide, rfl, fun _ u hu => by simp at hu; (rcases hu with rfl | rfl) <;> rfl⟩
    · exact h.elim
  · intro w0 M xs rs hG h
    unfold C_runes_Len at h
    simp only at h
    split at h
    case h_2 => exact h.elim
    rename_i s1 r1 r2
    change List UInt8 at s1
    change Int at r1
    change Int at r2
    have hE : EnvOK (E_runes_Len k) ⟨Tryd.prog, Tryd.f15.ntmps, w0, M, fun _ => False, fun _ => undef⟩ := (EnvOK.cons (c_runes_long k) (EnvOK.cons (c_unicode_utf8_RuneCountInString k) (EnvOK.nil rfl Tryd.ntmps15 hG)))
    unfold runes_Len at h
    refine W_seq ?_
    refine W_region ?_
    refine WL_all hE [0] [] [] (st' := ⟨[(0, SS s1)], [], []⟩) (orc := []) (ob := []) (by kernel_rfl) trivial ?_
    refine N_then ?_
    refine W_seq ?_
    refine W_seq ?_
    refine W_region ?_
    obtain ⟨v1, e1, h⟩ := bind_some h
    refine WL_all hE [0, 4] [] [] (st' := ⟨[(0, SS s1), (4, I64 v1)], [], []⟩) (orc := [tI64 v1]) (ob := [runes_long k s1 = some v1]) (by kernel_rfl) ⟨e1, trivial⟩ ?_
    refine N_then ?_
    refine W_seq ?_
    refine W_region ?_
    refine WL_all hE [0, 4, 8] [] [] (st' := ⟨[(0, SS s1), (4, I64 v1), (8, BB (v1 != (0 : Int)))], [], []⟩) (orc := []) (ob := []) (by kernel_rfl) trivial ?_
    refine N_then ?_
    refine W_cond (b := v1 != (0 : Int)) (by kernel_rfl) (fun e2 => ?_) (fun e2 => ?_)
    · replace h := ite_t e2 h
      refine W_seq ?_
      refine W_region ?_
      refine WL_all hE [2, 3] [] [] (st' := ⟨[(2, I64 (0 : Int)), (3, I64 v1)], [], []⟩) (orc := []) (ob := []) (by kernel_rfl) trivial ?_
      refine N_then ?_
      refine W_ret ?_
      refine N_then_ret ?_
      cases h
      exact N_end (.inl rfl) (by kernel_rfl)
    · replace h := ite_f e2 h
      refine W_skip ?_
      refine N_then ?_
      refine W_seq ?_
      refine W_region ?_
      obtain ⟨v2, e3, h⟩ := bind_some h
      refine WL_all hE [2, 3] [] [] (st' := ⟨[(2, I64 v2), (3, I64 (0 : Int))], [], []⟩) (orc := [tI64 v2]) (ob := [unicode_utf8_RuneCountInString k s1 = some v2]) (by kernel_rfl) ⟨e3, trivial⟩ ?_
      refine N_then ?_
      refine W_ret ?_
      cases h
      exact N_end (.inl rfl) (by kernel_rfl)

def B_runes_Broken_c1_i1 (k : Nat) : FnB ((Int × Int × Int × Bool × Unit) × Int) (Bool × Int) where
  n := 10
  S := fun z => ⟨[(0, .val (.pair (.int .i32) (.pair (.int .i64) (.pair (.int .i64) (.pair .bool .unit)))) (z.1)), (1, .ptr 10 0)], [(10, .cells [I64 (z.2)] 3)], []⟩
  S' := fun z y => ⟨[], [(10, .cells [I64 (y.2)] 3)], []⟩
  rs := fun z y => [BB (y.1)]
  rel := fun z y => runes_Broken_c1_i1 k (z.1) (z.2) = some y
noncomputable def E_runes_Broken_c1_i1 (k : Nat) : Env := ⟨Tryd.prog, Gt, 10, []⟩
theorem b_runes_Broken_c1_i1 (k : Nat) : BC Tryd.prog Gt 39 (B_runes_Broken_c1_i1 k) := by
  refine bc_of (fn := Tryd.f39) Tryd.func39 (by kernel_rfl) rfl Tryd.ntmps39 ?_
  rintro cx hP hn hG ⟨p1, c1⟩ y0 h
  have hE : EnvOK (E_runes_Broken_c1_i1 k) cx := (EnvOK.nil hP hn hG)
  replace h : runes_Broken_c1_i1 k p1 c1 = some y0 := h
  unfold runes_Broken_c1_i1 at h
  refine W_seq ?_
  refine W_region ?_
  refine WL_all hE [1, 2] [2, 10] [] (st' := ⟨[(1, .ptr 10 0), (2, .ptr 2 0)], [(2, .cells [I32 p1.1, I64 p1.2.1, I64 p1.2.2.1, BB p1.2.2.2.1] 35), (10, .cells [I64 c1] 3)], []⟩) (orc := []) (ob := []) (by kernel_rfl) trivial ?_
  refine N_then ?_
  refine W_join (α := Int) (fun z => runes_Broken_c1_i1_j1 z = some y0) (fun t2 => ⟨[(1, .ptr 10 0)], [(10, .cells [I64 t2] 3)], []⟩) ?_ (fun hJ1 => ?_)
  · rintro t2 h
    unfold runes_Broken_c1_i1_j1 at h
    refine W_seq ?_
    refine W_region ?_
    refine WL_all hE [1, 3] [10] [] (st' := ⟨[(1, .ptr 10 0), (3, BB (decide (t2 < (0 : Int))))], [(10, .cells [I64 t2] 3)], []⟩) (orc := []) (ob := []) (by kernel_rfl) trivial ?_
    refine N_then ?_
    refine W_ret ?_
    replace h := Option.some.inj h
    subst h
    exact N_endB hE.P [10] [] (.inl rfl) (by kernel_rfl) (by kernel_rfl)
  refine W_seq ?_
  refine W_region ?_
  refine WL_all hE [1, 2, 5] [2, 10] [] (st' := ⟨[(1, .ptr 10 0), (2, .ptr 2 0), (5, BB p1.2.2.2.1)], [(2, .cells [I32 p1.1, I64 p1.2.1, I64 p1.2.2.1, BB p1.2.2.2.1] 35), (10, .cells [I64 c1] 3)], []⟩) (orc := []) (ob := []) (by kernel_rfl) trivial ?_
  refine N_then ?_
  refine W_cond (b := p1.2.2.2.1) (by kernel_rfl) (fun e1 => ?_) (fun e1 => ?_)
  · replace h := ite_t e1 h
    refine W_region ?_
    refine WL_all hE [1] [10] [] (st' := ⟨[(1, .ptr 10 0)], [(10, .cells [I64 p1.2.1] 3)], []⟩) (orc := []) (ob := []) (by kernel_rfl) trivial ?_
    exact hJ1 p1.2.1 h
  · replace h := ite_f e1 h
    refine W_skip ?_
    refine N.norm (st' := ⟨[(1, .ptr 10 0)], [(10, .cells [I64 c1] 3)], []⟩) (ks := [1]) (bs := [10]) (rs := []) ?_ (by kernel_rfl)
    exact hJ1 c1 h

def B_runes_each_i2 (k : Nat) : FnB (List UInt8 × Int) Int where
  n := 37
  S := fun z => ⟨[(0, SS (z.1)), (1, .clos 39 [37])], [(37, .cells [I64 (z.2)] 3)], []⟩
  S' := fun z y => ⟨[], [(37, .cells [I64 (y)] 3)], []⟩
  rs := fun z y => []
  rel := fun z y => runes_each_i2 k (z.1) (z.2) = some y
noncomputable def E_runes_each_i2 (k : Nat) : Env := ⟨Tryd.prog, Gt, 37, [(52, C_unicode_utf8_RuneLen k), (25, C_unicode_utf8_DecodeRuneInString k)]⟩
theorem b_runes_each_i2 (k : Nat) : BC Tryd.prog Gt 36 (B_runes_each_i2 k) := by
  refine bc_of (fn := Tryd.f36) Tryd.func36 (by kernel_rfl) rfl Tryd.ntmps36 ?_
  rintro cx hP hn hG ⟨s1, c1⟩ y0 h
  have hE : EnvOK (E_runes_each_i2 k) cx := (EnvOK.cons (c_unicode_utf8_RuneLen k) (EnvOK.cons (d_unicode_utf8_DecodeRuneInString k) (EnvOK.nil hP hn hG)))
  replace h : runes_each_i2 k s1 c1 = some y0 := h
  unfold runes_each_i2 at h
  refine W_seq ?_
  refine W_region ?_
  refine WL_all hE [0, 1, 10] [10, 37] [] (st' := ⟨[(0, SS s1), (1, .clos 39 [37]), (10, .iter 10)], [(10, .iter s1 0), (37, .cells [I64 c1] 3)], []⟩) (orc := []) (ob := []) (by kernel_rfl) trivial ?_
  refine N_then ?_
  refine W_block ?_
  refine W_loop (α := (Nat × Int)) (fun n z => runes_each_i2_l1 k s1 n z.1 z.2 = some y0) (fun z => ⟨[(0, SS s1), (1, .clos 39 [37]), (10, .iter 10)], [(10, .iter s1 (z.1)), (37, .cells [I64 (z.2)] 3)], []⟩) ?_ (k := k) (x := (0, c1)) h
  clear h
  rintro fuel1 ⟨pos1, t2⟩ h
  cases fuel1 with
  | zero => exact absurd (show none = some _ from h) (by simp)
  | succ fuel1 =>
    have h : runes_each_i2_b1 k s1 (runes_each_i2_l1 k s1 fuel1) pos1 t2 = some y0 := h
    unfold runes_each_i2_b1 at h
    refine W_seq ?_
    refine W_region ?_
    rcases Bool.eq_false_or_eq_true (decide (pos1 < List.length s1)) with e1 | e1
    · replace h := ite_t e1 h
      refine WL_tk hE 1 [0, 1, 10, 11] [10, 37] [] (st' := ⟨[(0, SS s1), (1, .clos 39 [37]), (10, .iter 10), (11, .tup [tB true, tI64 (pos1 : Int), tI32 (runeAt s1 pos1)])], [(10, .iter s1 (pos1 + widthAt s1 pos1)), (37, .cells [I64 t2] 3)], []⟩) (orc := [tB true]) (ob := [pos1 < List.length s1]) (by kernel_rfl) ⟨of_decide_eq_true e1, trivial⟩ ?_
      refine WL_all hE [0, 1, 10, 11, 12] [10, 37] [] (st' := ⟨[(0, SS s1), (1, .clos 39 [37]), (10, .iter 10), (11, .tup [tB true, tI64 (pos1 : Int), tI32 (runeAt s1 pos1)]), (12, BB true)], [(10, .iter s1 (pos1 + widthAt s1 pos1)), (37, .cells [I64 t2] 3)], []⟩) (orc := []) (ob := []) (by kernel_rfl) trivial ?_
      refine N_then ?_
      refine W_seq ?_
      refine W_cond_true (by kernel_rfl) ?_
      refine W_skip ?_
      refine N_then ?_
      refine W_block ?_
      refine W_seq ?_
      refine W_region ?_
      refine WL_all hE [0, 1, 4, 5, 10] [10, 37] [] (st' := ⟨[(0, SS s1), (1, .clos 39 [37]), (4, I64 (pos1 : Int)), (5, I32 (runeAt s1 pos1)), (10, .iter 10)], [(10, .iter s1 (pos1 + widthAt s1 pos1)), (37, .cells [I64 t2] 3)], []⟩) (orc := []) (ob := []) (by kernel_rfl) trivial ?_
      refine N_then ?_
      refine W_seq ?_
      refine W_region ?_
      obtain ⟨v1, e2, h⟩ := bind_some h
      refine WL_all hE [0, 1, 4, 5, 6, 10] [6, 10, 37] [] (st' := ⟨[(0, SS s1), (1, .clos 39 [37]), (4, I64 (pos1 : Int)), (5, I32 (runeAt s1 pos1)), (6, .ptr 6 0), (10, .iter 10)], [(6, .cells [I32 (runeAt s1 pos1), I64 (pos1 : Int), I64 v1, BB false] 35), (10, .iter s1 (pos1 + widthAt s1 pos1)), (37, .cells [I64 t2] 3)], []⟩) (orc := [tI64 v1]) (ob := [unicode_utf8_RuneLen k (runeAt s1 pos1) = some v1]) (by kernel_rfl) ⟨e2, trivial⟩ ?_
      refine N_then ?_
      refine W_join (α := (Int × Bool)) (fun z => runes_each_i2_j1 k s1 pos1 t2 (runes_each_i2_l1 k s1 fuel1) z.1 z.2 = some y0) (fun z => ⟨[(0, SS s1), (1, .clos 39 [37]), (6, .ptr 6 0), (10, .iter 10)], [(6, .cells [I32 (runeAt s1 pos1), I64 (pos1 : Int), I64 (z.1), BB (z.2)] 35), (10, .iter s1 (pos1 + widthAt s1 pos1)), (37, .cells [I64 t2] 3)], []⟩) ?_ (fun hJ1 => ?_)
      · rintro ⟨p1, p2⟩ h
        unfold runes_each_i2_j1 at h
        refine W_seq ?_
        refine W_region ?_
        refine WL_tk hE 2 [0, 1, 10, 33, 34] [10, 37] [] (st' := ⟨[(0, SS s1), (1, .clos 39 [37]), (10, .iter 10), (33, .clos 39 [37]), (34, .val (.pair (.int .i32) (.pair (.int .i64) (.pair (.int .i64) (.pair .bool .unit)))) (runeAt s1 pos1, (pos1 : Int), p1, p2, ()))], [(10, .iter s1 (pos1 + widthAt s1 pos1)), (37, .cells [I64 t2] 3)], []⟩) (orc := []) (ob := []) (by kernel_rfl) trivial ?_
        obtain ⟨v2, e3, h⟩ := bind_some h
        refine WL_callB hE (b_runes_Broken_c1_i1 k) ((runeAt s1 pos1, (pos1 : Int), p1, p2, ()), t2) v2 e3 (ρ := [(37, 10)]) (ρ' := [(10, 37)]) (n := 10) (by kernel_rfl) [0, 1, 10, 35] [10, 37] [] (by kernel_rfl) (by kernel_rfl) (st' := ⟨[(0, SS s1), (1, .clos 39 [37]), (10, .iter 10), (35, BB v2.1)], [(10, .iter s1 (pos1 + widthAt s1 pos1)), (37, .cells [I64 v2.2] 3)], []⟩) (by kernel_rfl) ?_
        refine WL_all hE [0, 1, 10, 36] [10, 37] [] (st' := ⟨[(0, SS s1), (1, .clos 39 [37]), (10, .iter 10), (36, BB (!v2.1))], [(10, .iter s1 (pos1 + widthAt s1 pos1)), (37, .cells [I64 v2.2] 3)], []⟩) (orc := []) (ob := []) (by kernel_rfl) trivial ?_
        refine N_then ?_
        refine W_cond (b := !v2.1) (by kernel_rfl) (fun e4 => ?_) (fun e4 => ?_)
        · replace h := ite_t e4 h
          refine W_ret ?_
          refine N_block_ret ?_
          refine N_then_ret ?_
          refine N_block_ret ?_
          replace h := Option.some.inj h
          subst h
          refine N.norm (st' := ⟨[(1, .clos 39 [37])], [(37, .cells [I64 v2.2] 3)], []⟩) (ks := [1]) (bs := [37]) (rs := []) ?_ (by kernel_rfl)
          exact N_endB hE.P [37] [] (.inl rfl) (by kernel_rfl) (by kernel_rfl)
        · replace h := ite_f e4 h
          refine W_skip ?_
          refine N_block ?_
          refine N.norm (st' := ⟨[(0, SS s1), (1, .clos 39 [37]), (10, .iter 10)], [(10, .iter s1 (pos1 + widthAt s1 pos1)), (37, .cells [I64 v2.2] 3)], []⟩) (ks := [0, 1, 10]) (bs := [10, 37]) (rs := []) ?_ (by kernel_rfl)
          exact N_round ((pos1 + widthAt s1 pos1), v2.2) (Nat.lt_succ_self _) h
      refine W_seq ?_
      refine W_region ?_
      refine WL_all hE [0, 1, 4, 6, 10, 21] [6, 10, 37] [] (st' := ⟨[(0, SS s1), (1, .clos 39 [37]), (4, I64 (pos1 : Int)), (6, .ptr 6 0), (10, .iter 10), (21, BB ((runeAt s1 pos1) == (65533 : Int)))], [(6, .cells [I32 (runeAt s1 pos1), I64 (pos1 : Int), I64 v1, BB false] 35), (10, .iter s1 (pos1 + widthAt s1 pos1)), (37, .cells [I64 t2] 3)], []⟩) (orc := []) (ob := []) (by kernel_rfl) trivial ?_
      refine N_then ?_
      refine W_cond (b := (runeAt s1 pos1) == (65533 : Int)) (by kernel_rfl) (fun e5 => ?_) (fun e5 => ?_)
      · replace h := ite_t e5 h
        refine W_seq ?_
        refine W_region ?_
        obtain ⟨s2, e6, h⟩ := bind_some h
        obtain ⟨v3, e7, h⟩ := bind_some h
        refine WL_all hE [0, 1, 6, 8, 10] [6, 10, 37] [] (st' := ⟨[(0, SS s1), (1, .clos 39 [37]), (6, .ptr 6 0), (8, I64 v3.2), (10, .iter 10)], [(6, .cells [I32 (runeAt s1 pos1), I64 (pos1 : Int), I64 v1, BB false] 35), (10, .iter s1 (pos1 + widthAt s1 pos1)), (37, .cells [I64 t2] 3)], []⟩) (orc := [tS s2, tI32 v3.1, tI64 v3.2]) (ob := [sub? s1 (pos1 : Int) (s1.length : Int) = some s2, utf8_DecodeRuneInString k s2 = some ((v3).1, (v3).2)]) (by kernel_rfl) ⟨e6, e7, trivial⟩ ?_
        refine N_then ?_
        refine W_seq ?_
        refine W_region ?_
        refine WL_all hE [0, 1, 6, 10, 30] [6, 10, 37] [] (st' := ⟨[(0, SS s1), (1, .clos 39 [37]), (6, .ptr 6 0), (10, .iter 10), (30, BB (v3.2 == (1 : Int)))], [(6, .cells [I32 (runeAt s1 pos1), I64 (pos1 : Int), I64 v1, BB false] 35), (10, .iter s1 (pos1 + widthAt s1 pos1)), (37, .cells [I64 t2] 3)], []⟩) (orc := []) (ob := []) (by kernel_rfl) trivial ?_
        refine N_then ?_
        refine W_cond (b := v3.2 == (1 : Int)) (by kernel_rfl) (fun e8 => ?_) (fun e8 => ?_)
        · replace h := ite_t e8 h
          refine W_region ?_
          refine WL_all hE [0, 1, 6, 10] [6, 10, 37] [] (st' := ⟨[(0, SS s1), (1, .clos 39 [37]), (6, .ptr 6 0), (10, .iter 10)], [(6, .cells [I32 (runeAt s1 pos1), I64 (pos1 : Int), I64 (1 : Int), BB true] 35), (10, .iter s1 (pos1 + widthAt s1 pos1)), (37, .cells [I64 t2] 3)], []⟩) (orc := []) (ob := []) (by kernel_rfl) trivial ?_
          exact hJ1 ((1 : Int), true) h
        · replace h := ite_f e8 h
          refine W_skip ?_
          refine N.norm (st' := ⟨[(0, SS s1), (1, .clos 39 [37]), (6, .ptr 6 0), (10, .iter 10)], [(6, .cells [I32 (runeAt s1 pos1), I64 (pos1 : Int), I64 v1, BB false] 35), (10, .iter s1 (pos1 + widthAt s1 pos1)), (37, .cells [I64 t2] 3)], []⟩) (ks := [0, 1, 6, 10]) (bs := [6, 10, 37]) (rs := []) ?_ (by kernel_rfl)
          exact hJ1 (v1, false) h
      · replace h := ite_f e5 h
        refine W_skip ?_
        refine N.norm (st' := ⟨[(0, SS s1), (1, .clos 39 [37]), (6, .ptr 6 0), (10, .iter 10)], [(6, .cells [I32 (runeAt s1 pos1), I64 (pos1 : Int), I64 v1, BB false] 35), (10, .iter s1 (pos1 + widthAt s1 pos1)), (37, .cells [I64 t2] 3)], []⟩) (ks := [0, 1, 6, 10]) (bs := [6, 10, 37]) (rs := []) ?_ (by kernel_rfl)
        exact hJ1 (v1, false) h
    · replace h := ite_f e1 h
      refine WL_tk hE 1 [0, 1, 10, 11] [10, 37] [] (st' := ⟨[(0, SS s1), (1, .clos 39 [37]), (10, .iter 10), (11, .tup [tB false])], [(10, .iter s1 pos1), (37, .cells [I64 t2] 3)], []⟩) (orc := [tB false]) (ob := [List.length s1 ≤ pos1]) (by kernel_rfl) ⟨Nat.le_of_not_lt (of_decide_eq_false e1), trivial⟩ ?_
      refine WL_all hE [0, 1, 10, 11, 12] [10, 37] [] (st' := ⟨[(0, SS s1), (1, .clos 39 [37]), (10, .iter 10), (11, .tup [tB false]), (12, BB false)], [(10, .iter s1 pos1), (37, .cells [I64 t2] 3)], []⟩) (orc := []) (ob := []) (by kernel_rfl) trivial ?_
      refine N_then ?_
      refine W_seq ?_
      refine W_cond_false (by kernel_rfl) ?_
      refine W_exit ?_
      refine N_then_exit ?_
      refine N_then_exit ?_
      refine N_block_exit ?_
      replace h := Option.some.inj h
      subst h
      refine N.norm (st' := ⟨[(1, .clos 39 [37])], [(37, .cells [I64 t2] 3)], []⟩) (ks := [1]) (bs := [37]) (rs := []) ?_ (by kernel_rfl)
      exact N_endB hE.P [37] [] (.inr rfl) (by kernel_rfl) (by kernel_rfl)

def C_runes_Broken (k : Nat) : FnC := ⟨true, 2, [], fun | [⟨.str, s1⟩], [⟨(.int .i64), r1⟩, ⟨(.int .i64), r2⟩] => runes_Broken k s1 = some (r1, r2) | _, _ => False⟩
noncomputable def E_runes_Broken (k : Nat) : Env := ⟨Tryd.prog, Gt, 15, [(35, C_runes_long k)]⟩
theorem c_runes_Broken (k : Nat) : Contract Tryd.prog Gt 17 (C_runes_Broken k) := by
  refine contract_of Gt_stable (fn := Tryd.f17) Tryd.func17 (by kernel_rfl) rfl ?_ ?_
  · intro xs rs h
    unfold C_runes_Broken at h
    simp only at h
    split at h
    · exact ⟨by show 1 ≤ _; rw [Tryd.ntmps17]; decide, rfl, fun _ u hu => by simp at hu; (rcases hu with rfl | rfl) <;> rfl⟩
    · exact h.elim
  · intro w0 M xs rs hG h
    unfold C_runes_Broken at h
    simp only at h
    split at h
    case h_2 => exact h.elim
    rename_i s1 r1 r2
    change List UInt8 at s1
    change Int at r1
    change Int at r2
    have hE : EnvOK (E_runes_Broken k) ⟨Tryd.prog, Tryd.f17.ntmps, w0, M, fun _ => False, fun _ => undef⟩ := (EnvOK.cons (c_runes_long k) (EnvOK.nil rfl Tryd.ntmps17 hG))
    unfold runes_Broken at h
    refine W_seq ?_
    refine W_region ?_
    refine WL_all hE [0] [] [] (st' := ⟨[(0, SS s1)], [], []⟩) (orc := []) (ob := []) (by kernel_rfl) trivial ?_
    refine N_then ?_
    refine W_seq ?_
    refine W_seq ?_
    refine W_region ?_
    obtain ⟨v1, e1, h⟩ := bind_some h
    refine WL_all hE [0, 4] [] [] (st' := ⟨[(0, SS s1), (4, I64 v1)], [], []⟩) (orc := [tI64 v1]) (ob := [runes_long k s1 = some v1]) (by kernel_rfl) ⟨e1, trivial⟩ ?_
    refine N_then ?_
    refine W_seq ?_
    refine W_region ?_
    refine WL_all hE [0, 4, 9] [] [] (st' := ⟨[(0, SS s1), (4, I64 v1), (9, BB (v1 != (0 : Int)))], [], []⟩) (orc := []) (ob := []) (by kernel_rfl) trivial ?_
    refine N_then ?_
    refine W_cond (b := v1 != (0 : Int)) (by kernel_rfl) (fun e2 => ?_) (fun e2 => ?_)
    · replace h := ite_t e2 h
      refine W_seq ?_
      refine W_region ?_
      refine WL_all hE [2, 3] [] [] (st' := ⟨[(2, I64 (0 : Int)), (3, I64 v1)], [], []⟩) (orc := []) (ob := []) (by kernel_rfl) trivial ?_
      refine N_then ?_
      refine W_ret ?_
      refine N_then_ret ?_
      cases h
      exact N_end (.inl rfl) (by kernel_rfl)
    · replace h := ite_f e2 h
      refine W_skip ?_
      refine N_then ?_
      refine W_seq ?_
      refine W_region ?_
      refine WL_all hE [0, 5] [5] [] (st' := ⟨[(0, SS s1), (5, .ptr 5 0)], [(5, .cells [I64 (-1 : Int)] 3)], []⟩) (orc := []) (ob := []) (by kernel_rfl) trivial ?_
      refine N_then ?_
      refine W_seq ?_
      refine W_region ?_
      refine WL_tk hE 2 [5, 11, 12] [5] [] (st' := ⟨[(5, .ptr 5 0), (11, SS s1), (12, .clos 39 [5])], [(5, .cells [I64 (-1 : Int)] 3)], []⟩) (orc := []) (ob := []) (by kernel_rfl) trivial ?_
      obtain ⟨v2, e3, h⟩ := bind_some h
      refine WL_callB hE (b_runes_each_i2 k) (s1, (-1 : Int)) v2 e3 (ρ := [(5, 37)]) (ρ' := [(37, 5)]) (n := 37) (by kernel_rfl) [5] [5] [] (by kernel_rfl) (by kernel_rfl) (st' := ⟨[(5, .ptr 5 0)], [(5, .cells [I64 v2] 3)], []⟩) (by kernel_rfl) ?_
      refine WL_nil ?_
      refine N_then ?_
      refine W_seq ?_
      refine W_region ?_
      refine WL_all hE [2, 3] [] [] (st' := ⟨[(2, I64 v2), (3, I64 (0 : Int))], [], []⟩) (orc := []) (ob := []) (by kernel_rfl) trivial ?_
      refine N_then ?_
      refine W_ret ?_
      cases h
      exact N_end (.inl rfl) (by kernel_rfl)

def C_l01_RunesBack (k : Nat) : FnC := ⟨true, 1, [], fun | [⟨.str, s1⟩, ⟨(.int .i64), k1⟩], [⟨.bool, r⟩] => l01_RunesBack k s1 k1 = some r | _, _ => False⟩
noncomputable def E_l01_RunesBack (k : Nat) : Env := ⟨Tryd.prog, Gt, 204, [(24, C_l01_alive k), (13, C_runes_Pieces k), (25, C_unicode_utf8_DecodeRuneInString k), (19, C_runes_Part k), (21, C_runes_Back k), (15, C_runes_Len k), (17, C_runes_Broken k), (26, C_runes_Text k)]⟩
theorem c_l01_RunesBack (k : Nat) : Contract Tryd.prog Gt 6 (C_l01_RunesBack k) := by
  refine contract_of Gt_stable (fn := Tryd.f6) Tryd.func6 (by kernel_rfl) rfl ?_ ?_
  · intro xs rs h
    unfold C_l01_RunesBack at h
    simp only at h
    split at h
    · exact ⟨by show 2 ≤ _; rw [Tryd.ntmps6]; decide, rfl, fun _ u hu => by simp at hu; (rcases hu with rfl) <;> rfl⟩
    · exact h.elim
  · intro w0 M xs rs hG h
    unfold C_l01_RunesBack at h
    simp only at h
    split at h
    case h_2 => exact h.elim
    rename_i s1 k1 r
    change List UInt8 at s1
    change Int at k1
    change Bool at r
    have hE : EnvOK (E_l01_RunesBack k) ⟨Tryd.prog, Tryd.f6.ntmps, w0, M, fun _ => False, fun _ => undef⟩ := (EnvOK.cons (c_l01_alive k) (EnvOK.cons (c_runes_Pieces k) (EnvOK.cons (d_unicode_utf8_DecodeRuneInString k) (EnvOK.cons (c_runes_Part k) (EnvOK.cons (c_runes_Back k) (EnvOK.cons (c_runes_Len k) (EnvOK.cons (c_runes_Broken k) (EnvOK.cons (c_runes_Text k) (EnvOK.nil rfl Tryd.ntmps6 hG)))))))))
    unfold l01_RunesBack at h
    refine W_seq ?_
    refine W_region ?_
    refine WL_all hE [0, 1] [] [] (st' := ⟨[(0, SS s1), (1, I64 k1)], [], []⟩) (orc := []) (ob := []) (by kernel_rfl) trivial ?_
    refine N_then ?_
    refine W_seq ?_
    refine W_region ?_
    obtain ⟨v1, e1, h⟩ := bind_some h
    refine WL_all hE [0, 1, 5] [] [] (st' := ⟨[(0, SS s1), (1, I64 k1), (5, BB v1)], [], []⟩) (orc := [tB v1]) (ob := [l01_alive k = some v1]) (by kernel_rfl) ⟨e1, trivial⟩ ?_
    refine N_then ?_
    refine W_seq ?_
    refine W_seq ?_
    refine W_region ?_
    refine WL_all hE [0, 1, 5, 31] [] [] (st' := ⟨[(0, SS s1), (1, I64 k1), (5, BB v1), (31, BB (decide ((5000 : Int) < (List.length s1 : Int))))], [], []⟩) (orc := []) (ob := []) (by kernel_rfl) trivial ?_
    refine N_then ?_
    refine W_cond (b := decide ((5000 : Int) < (List.length s1 : Int))) (by kernel_rfl) (fun e2 => ?_) (fun e2 => ?_)
    · replace h := ite_t e2 h
      refine W_seq ?_
      refine W_region ?_
      refine WL_all hE [4] [] [] (st' := ⟨[(4, BB v1)], [], []⟩) (orc := []) (ob := []) (by kernel_rfl) trivial ?_
      refine N_then ?_
      refine W_ret ?_
      refine N_then_ret ?_
      cases h
      exact N_end (.inl rfl) (by kernel_rfl)
    · replace h := ite_f e2 h
      refine W_skip ?_
      refine N_then ?_
      refine W_seq ?_
      refine W_region ?_
      obtain ⟨v2, e3, h⟩ := bind_some h
      refine WL_all hE [0, 1, 5, 6, 7] [] [] (st' := ⟨[(0, SS s1), (1, I64 k1), (5, BB v1), (6, .val (.sl (.pair (.int .i32) (.pair (.int .i64) (.pair (.int .i64) (.pair .bool .unit))))) v2.1), (7, I64 v2.2)], [], []⟩) (orc := [⟨(.sl (.pair (.int .i32) (.pair (.int .i64) (.pair (.int .i64) (.pair .bool .unit))))), v2.1⟩, tI64 v2.2]) (ob := [runes_Pieces k s1 = some ((v2).1, (v2).2)]) (by kernel_rfl) ⟨e3, trivial⟩ ?_
      refine N_then ?_
      refine W_seq ?_
      refine W_seq ?_
      refine W_region ?_
      refine WL_all hE [0, 1, 5, 6, 39] [] [] (st' := ⟨[(0, SS s1), (1, I64 k1), (5, BB v1), (6, .val (.sl (.pair (.int .i32) (.pair (.int .i64) (.pair (.int .i64) (.pair .bool .unit))))) v2.1), (39, BB (v2.2 != (0 : Int)))], [], []⟩) (orc := []) (ob := []) (by kernel_rfl) trivial ?_
      refine N_then ?_
      refine W_cond (b := v2.2 != (0 : Int)) (by kernel_rfl) (fun e4 => ?_) (fun e4 => ?_)
      · replace h := ite_t e4 h
        refine W_seq ?_
        refine W_region ?_
        refine WL_all hE [4] [] [] (st' := ⟨[(4, BB false)], [], []⟩) (orc := []) (ob := []) (by kernel_rfl) trivial ?_
        refine N_then ?_
        refine W_ret ?_
        refine N_then_ret ?_
        cases h
        exact N_end (.inl rfl) (by kernel_rfl)
      · replace h := ite_f e4 h
        refine W_skip ?_
        refine N_then ?_
        refine W_seq ?_
        refine W_region ?_
        refine WL_all hE [0, 1, 5, 6, 8] [] [] (st' := ⟨[(0, SS s1), (1, I64 k1), (5, BB v1), (6, .val (.sl (.pair (.int .i32) (.pair (.int .i64) (.pair (.int .i64) (.pair .bool .unit))))) v2.1), (8, I64 (0 : Int))], [], []⟩) (orc := []) (ob := []) (by kernel_rfl) trivial ?_
        refine N_then ?_
        refine W_seq ?_
        refine W_region ?_
        refine WL_all hE [0, 1, 5, 6, 8, 9] [] [9] (st' := ⟨[(0, SS s1), (1, I64 k1), (5, BB v1), (6, .val (.sl (.pair (.int .i32) (.pair (.int .i64) (.pair (.int .i64) (.pair .bool .unit))))) v2.1), (8, I64 (0 : Int)), (9, .row 9)], [], [(9, ⟨21, (.int .i32), ([] : List (Int))⟩)]⟩) (orc := []) (ob := []) (by kernel_rfl) trivial ?_
        refine N_then ?_
        refine W_seq ?_
        refine W_seq ?_
        refine W_region ?_
        refine WL_all hE [0, 1, 5, 6, 8, 9, 10] [] [9] (st' := ⟨[(0, SS s1), (1, I64 k1), (5, BB v1), (6, .val (.sl (.pair (.int .i32) (.pair (.int .i64) (.pair (.int .i64) (.pair .bool .unit))))) v2.1), (8, I64 (0 : Int)), (9, .row 9), (10, I64 (0 : Int))], [], [(9, ⟨21, (.int .i32), ([] : List (Int))⟩)]⟩) (orc := []) (ob := []) (by kernel_rfl) trivial ?_
        refine N_then ?_
        refine W_block ?_
        refine W_loop (α := (Int × Int × List (Int))) (fun n z => l01_RunesBack_l1 k v2 s1 k1 v1 n z.1 z.2.1 z.2.2 = some r) (fun z => ⟨[(0, SS s1), (1, I64 k1), (5, BB v1), (6, .val (.sl (.pair (.int .i32) (.pair (.int .i64) (.pair (.int .i64) (.pair .bool .unit))))) v2.1), (8, I64 (z.1)), (9, .row 9), (10, I64 (z.2.1))], [], [(9, ⟨21, (.int .i32), (z.2.2)⟩)]⟩) ?_ (k := k) (x := ((0 : Int), (0 : Int), ([] : List (Int)))) h
        clear h
        rintro fuel1 ⟨at1, i1, all1⟩ h
        cases fuel1 with
        | zero => exact absurd (show none = some _ from h) (by simp)
        | succ fuel1 =>
          have h : l01_RunesBack_b1 k v2 s1 k1 v1 (l01_RunesBack_l1 k v2 s1 k1 v1 fuel1) at1 i1 all1 = some r := h
          unfold l01_RunesBack_b1 at h
          refine W_seq ?_
          refine W_seq ?_
          refine W_region ?_
          refine WL_all hE [0, 1, 5, 6, 8, 9, 10, 43] [] [9] (st' := ⟨[(0, SS s1), (1, I64 k1), (5, BB v1), (6, .val (.sl (.pair (.int .i32) (.pair (.int .i64) (.pair (.int .i64) (.pair .bool .unit))))) v2.1), (8, I64 at1), (9, .row 9), (10, I64 i1), (43, BB (decide (i1 < (List.length v2.1 : Int))))], [], [(9, ⟨21, (.int .i32), all1⟩)]⟩) (orc := []) (ob := []) (by kernel_rfl) trivial ?_
          refine N_then ?_
          refine W_cond (b := decide (i1 < (List.length v2.1 : Int))) (by kernel_rfl) (fun e5 => ?_) (fun e5 => ?_)
          · replace h := ite_t e5 h
            refine W_skip ?_
            refine N_then ?_
            refine W_seq ?_
            refine W_block ?_
            refine W_seq ?_
            refine W_region ?_
            obtain ⟨x1, e6, h⟩ := bind_some h
            refine WL_all hE [0, 1, 5, 6, 8, 9, 10, 11] [11] [9] (st' := ⟨[(0, SS s1), (1, I64 k1), (5, BB v1), (6, .val (.sl (.pair (.int .i32) (.pair (.int .i64) (.pair (.int .i64) (.pair .bool .unit))))) v2.1), (8, I64 at1), (9, .row 9), (10, I64 i1), (11, .ptr 11 0)], [(11, .cells [I32 x1.1, I64 x1.2.1, I64 x1.2.2.1, BB x1.2.2.2.1] 35)], [(9, ⟨21, (.int .i32), all1⟩)]⟩) (orc := [⟨(.pair (.int .i32) (.pair (.int .i64) (.pair (.int .i64) (.pair .bool .unit)))), x1⟩]) (ob := [at? v2.1 i1 = some x1]) (by kernel_rfl) ⟨e6, trivial⟩ ?_
            refine N_then ?_
            refine W_seq ?_
            refine W_seq ?_
            refine W_region ?_
            refine WL_tk hE 5 [0, 1, 5, 6, 8, 9, 10, 11, 54] [11] [9] (st' := ⟨[(0, SS s1), (1, I64 k1), (5, BB v1), (6, .val (.sl (.pair (.int .i32) (.pair (.int .i64) (.pair (.int .i64) (.pair .bool .unit))))) v2.1), (8, I64 at1), (9, .row 9), (10, I64 i1), (11, .ptr 11 0), (54, BB (x1.2.1 != at1))], [(11, .cells [I32 x1.1, I64 x1.2.1, I64 x1.2.2.1, BB x1.2.2.2.1] 35)], [(9, ⟨21, (.int .i32), all1⟩)]⟩) (orc := []) (ob := []) (by kernel_rfl) trivial ?_
            refine WL_join (α := Bool) (fun z => l01_RunesBack_j1 k s1 at1 all1 (l01_RunesBack_l1 k v2 s1 k1 v1 fuel1) i1 x1 z = some r) (fun t1 => ⟨[(0, SS s1), (1, I64 k1), (5, BB v1), (6, .val (.sl (.pair (.int .i32) (.pair (.int .i64) (.pair (.int .i64) (.pair .bool .unit))))) v2.1), (8, I64 at1), (9, .row 9), (10, I64 i1), (11, .ptr 11 0), (58, BB t1)], [(11, .cells [I32 x1.1, I64 x1.2.1, I64 x1.2.2.1, BB x1.2.2.2.1] 35)], [(9, ⟨21, (.int .i32), all1⟩)]⟩) 4 ?_ (fun hJ1 => ?_)
            · rintro t1 h
              unfold l01_RunesBack_j1 at h
              refine WL_tk hE 1 [0, 1, 5, 6, 8, 9, 10, 11, 59] [11] [9] (st' := ⟨[(0, SS s1), (1, I64 k1), (5, BB v1), (6, .val (.sl (.pair (.int .i32) (.pair (.int .i64) (.pair (.int .i64) (.pair .bool .unit))))) v2.1), (8, I64 at1), (9, .row 9), (10, I64 i1), (11, .ptr 11 0), (59, BB t1)], [(11, .cells [I32 x1.1, I64 x1.2.1, I64 x1.2.2.1, BB x1.2.2.2.1] 35)], [(9, ⟨21, (.int .i32), all1⟩)]⟩) (orc := []) (ob := []) (by kernel_rfl) trivial ?_
              refine WL_join (α := Bool) (fun z => l01_RunesBack_j2 k s1 at1 all1 (l01_RunesBack_l1 k v2 s1 k1 v1 fuel1) i1 x1 z = some r) (fun t2 => ⟨[(0, SS s1), (1, I64 k1), (5, BB v1), (6, .val (.sl (.pair (.int .i32) (.pair (.int .i64) (.pair (.int .i64) (.pair .bool .unit))))) v2.1), (8, I64 at1), (9, .row 9), (10, I64 i1), (11, .ptr 11 0), (67, BB t2)], [(11, .cells [I32 x1.1, I64 x1.2.1, I64 x1.2.2.1, BB x1.2.2.2.1] 35)], [(9, ⟨21, (.int .i32), all1⟩)]⟩) 8 ?_ (fun hJ2 => ?_)
              · rintro t2 h
                unfold l01_RunesBack_j2 at h
                refine WL_nil ?_
                refine N_then ?_
                refine W_cond (b := t2) (by kernel_rfl) (fun e7 => ?_) (fun e7 => ?_)
                · replace h := ite_t e7 h
                  refine W_seq ?_
                  refine W_region ?_
                  refine WL_all hE [4] [] [] (st' := ⟨[(4, BB false)], [], []⟩) (orc := []) (ob := []) (by kernel_rfl) trivial ?_
                  refine N_then ?_
                  refine W_ret ?_
                  refine N_then_ret ?_
                  refine N_block_ret ?_
                  refine N_then_ret ?_
                  refine N_then_ret ?_
                  refine N_block_ret ?_
                  refine N_then_ret ?_
                  cases h
                  exact N_end (.inl rfl) (by kernel_rfl)
                · replace h := ite_f e7 h
                  refine W_skip ?_
                  refine N_then ?_
                  refine W_seq ?_
                  refine W_region ?_
                  obtain ⟨s2, e8, h⟩ := bind_some h
                  obtain ⟨v3, e9, h⟩ := bind_some h
                  refine WL_all hE [0, 1, 5, 6, 8, 9, 10, 11, 12, 13] [11] [9] (st' := ⟨[(0, SS s1), (1, I64 k1), (5, BB v1), (6, .val (.sl (.pair (.int .i32) (.pair (.int .i64) (.pair (.int .i64) (.pair .bool .unit))))) v2.1), (8, I64 at1), (9, .row 9), (10, I64 i1), (11, .ptr 11 0), (12, I32 v3.1), (13, I64 v3.2)], [(11, .cells [I32 x1.1, I64 x1.2.1, I64 x1.2.2.1, BB x1.2.2.2.1] 35)], [(9, ⟨21, (.int .i32), all1⟩)]⟩) (orc := [tS s2, tI32 v3.1, tI64 v3.2]) (ob := [sub? s1 at1 (s1.length : Int) = some s2, utf8_DecodeRuneInString k s2 = some ((v3).1, (v3).2)]) (by kernel_rfl) ⟨e8, e9, trivial⟩ ?_
                  refine N_then ?_
                  refine W_seq ?_
                  refine W_seq ?_
                  refine W_region ?_
                  refine WL_tk hE 5 [0, 1, 5, 6, 8, 9, 10, 11, 12, 13, 79] [11] [9] (st' := ⟨[(0, SS s1), (1, I64 k1), (5, BB v1), (6, .val (.sl (.pair (.int .i32) (.pair (.int .i64) (.pair (.int .i64) (.pair .bool .unit))))) v2.1), (8, I64 at1), (9, .row 9), (10, I64 i1), (11, .ptr 11 0), (12, I32 v3.1), (13, I64 v3.2), (79, BB (x1.1 != v3.1))], [(11, .cells [I32 x1.1, I64 x1.2.1, I64 x1.2.2.1, BB x1.2.2.2.1] 35)], [(9, ⟨21, (.int .i32), all1⟩)]⟩) (orc := []) (ob := []) (by kernel_rfl) trivial ?_
                  refine WL_join (α := Bool) (fun z => l01_RunesBack_j3 all1 v3 (l01_RunesBack_l1 k v2 s1 k1 v1 fuel1) at1 i1 x1 z = some r) (fun t3 => ⟨[(0, SS s1), (1, I64 k1), (5, BB v1), (6, .val (.sl (.pair (.int .i32) (.pair (.int .i64) (.pair (.int .i64) (.pair .bool .unit))))) v2.1), (8, I64 at1), (9, .row 9), (10, I64 i1), (11, .ptr 11 0), (12, I32 v3.1), (13, I64 v3.2), (84, BB t3)], [(11, .cells [I32 x1.1, I64 x1.2.1, I64 x1.2.2.1, BB x1.2.2.2.1] 35)], [(9, ⟨21, (.int .i32), all1⟩)]⟩) 5 ?_ (fun hJ3 => ?_)
                  · rintro t3 h
                    unfold l01_RunesBack_j3 at h
                    refine WL_tk hE 1 [0, 1, 5, 6, 8, 9, 10, 11, 12, 13, 85] [11] [9] (st' := ⟨[(0, SS s1), (1, I64 k1), (5, BB v1), (6, .val (.sl (.pair (.int .i32) (.pair (.int .i64) (.pair (.int .i64) (.pair .bool .unit))))) v2.1), (8, I64 at1), (9, .row 9), (10, I64 i1), (11, .ptr 11 0), (12, I32 v3.1), (13, I64 v3.2), (85, BB t3)], [(11, .cells [I32 x1.1, I64 x1.2.1, I64 x1.2.2.1, BB x1.2.2.2.1] 35)], [(9, ⟨21, (.int .i32), all1⟩)]⟩) (orc := []) (ob := []) (by kernel_rfl) trivial ?_
                    refine WL_join (α := Bool) (fun z => l01_RunesBack_j4 all1 v3 (l01_RunesBack_l1 k v2 s1 k1 v1 fuel1) at1 i1 z = some r) (fun t4 => ⟨[(0, SS s1), (1, I64 k1), (5, BB v1), (6, .val (.sl (.pair (.int .i32) (.pair (.int .i64) (.pair (.int .i64) (.pair .bool .unit))))) v2.1), (8, I64 at1), (9, .row 9), (10, I64 i1), (12, I32 v3.1), (13, I64 v3.2), (95, BB t4)], [], [(9, ⟨21, (.int .i32), all1⟩)]⟩) 10 ?_ (fun hJ4 => ?_)
                    · rintro t4 h
                      unfold l01_RunesBack_j4 at h
                      refine WL_nil ?_
                      refine N_then ?_
                      refine W_cond (b := t4) (by kernel_rfl) (fun e10 => ?_) (fun e10 => ?_)
                      · replace h := ite_t e10 h
                        refine W_seq ?_
                        refine W_region ?_
                        refine WL_all hE [4] [] [] (st' := ⟨[(4, BB false)], [], []⟩) (orc := []) (ob := []) (by kernel_rfl) trivial ?_
                        refine N_then ?_
                        refine W_ret ?_
                        refine N_then_ret ?_
                        refine N_block_ret ?_
                        refine N_then_ret ?_
                        refine N_then_ret ?_
                        refine N_block_ret ?_
                        refine N_then_ret ?_
                        cases h
                        exact N_end (.inl rfl) (by kernel_rfl)
                      · replace h := ite_f e10 h
                        refine W_skip ?_
                        refine N_then ?_
                        refine W_seq ?_
                        refine W_region ?_
                        obtain ⟨_, e11, h⟩ := bind_some h
                        replace e11 := chk_some e11
                        refine WL_all hE [0, 1, 5, 6, 8, 9, 10, 13] [] [9] (st' := ⟨[(0, SS s1), (1, I64 k1), (5, BB v1), (6, .val (.sl (.pair (.int .i32) (.pair (.int .i64) (.pair (.int .i64) (.pair .bool .unit))))) v2.1), (8, I64 at1), (9, .row 9), (10, I64 i1), (13, I64 v3.2)], [], [(9, ⟨21, (.int .i32), all1 ++ ([v3.1] : List (Int))⟩)]⟩) (orc := []) (ob := [List.length all1 + List.length ([v3.1] : List (Int)) ≤ lim]) (by kernel_rfl) ⟨e11, trivial⟩ ?_
                        refine N_then ?_
                        refine W_region ?_
                        refine WL_all hE [0, 1, 5, 6, 8, 9, 10] [] [9] (st' := ⟨[(0, SS s1), (1, I64 k1), (5, BB v1), (6, .val (.sl (.pair (.int .i32) (.pair (.int .i64) (.pair (.int .i64) (.pair .bool .unit))))) v2.1), (8, I64 (wi64 (at1 + v3.2))), (9, .row 9), (10, I64 i1)], [], [(9, ⟨21, (.int .i32), all1 ++ ([v3.1] : List (Int))⟩)]⟩) (orc := []) (ob := []) (by kernel_rfl) trivial ?_
                        refine N_block ?_
                        refine N_then ?_
                        refine W_region ?_
                        refine WL_all hE [0, 1, 5, 6, 8, 9, 10] [] [9] (st' := ⟨[(0, SS s1), (1, I64 k1), (5, BB v1), (6, .val (.sl (.pair (.int .i32) (.pair (.int .i64) (.pair (.int .i64) (.pair .bool .unit))))) v2.1), (8, I64 (wi64 (at1 + v3.2))), (9, .row 9), (10, I64 (wi64 (i1 + (1 : Int))))], [], [(9, ⟨21, (.int .i32), all1 ++ ([v3.1] : List (Int))⟩)]⟩) (orc := []) (ob := []) (by kernel_rfl) trivial ?_
                        exact N_round (wi64 (at1 + v3.2), wi64 (i1 + (1 : Int)), all1 ++ ([v3.1] : List (Int))) (Nat.lt_succ_self _) h
                    refine WL_split (fun g => ⟨[(0, SS s1), (1, I64 k1), (5, BB v1), (6, .val (.sl (.pair (.int .i32) (.pair (.int .i64) (.pair (.int .i64) (.pair .bool .unit))))) v2.1), (8, I64 at1), (9, .row 9), (10, I64 i1), (11, .ptr 11 0), (12, I32 v3.1), (13, I64 v3.2), (85, BB g)], [(11, .cells [I32 x1.1, I64 x1.2.1, I64 x1.2.2.1, BB x1.2.2.2.1] 35)], [(9, ⟨21, (.int .i32), all1⟩)]⟩) (b := t3) (fun e12 => ?_) (fun e12 => ?_)
                    · replace h := ite_t e12 h
                      refine WL_all hE [0, 1, 5, 6, 8, 9, 10, 12, 13, 95] [] [9] (st' := ⟨[(0, SS s1), (1, I64 k1), (5, BB v1), (6, .val (.sl (.pair (.int .i32) (.pair (.int .i64) (.pair (.int .i64) (.pair .bool .unit))))) v2.1), (8, I64 at1), (9, .row 9), (10, I64 i1), (12, I32 v3.1), (13, I64 v3.2), (95, BB true)], [], [(9, ⟨21, (.int .i32), all1⟩)]⟩) (orc := []) (ob := []) (by kernel_rfl) trivial ?_
                      exact hJ4 true h
                    · replace h := ite_f e12 h
                      refine WL_tk hE 5 [0, 1, 5, 6, 8, 9, 10, 12, 13, 85, 87, 90] [] [9] (st' := ⟨[(0, SS s1), (1, I64 k1), (5, BB v1), (6, .val (.sl (.pair (.int .i32) (.pair (.int .i64) (.pair (.int .i64) (.pair .bool .unit))))) v2.1), (8, I64 at1), (9, .row 9), (10, I64 i1), (12, I32 v3.1), (13, I64 v3.2), (85, BB false), (87, BB x1.2.2.2.1), (90, BB (v3.1 == (65533 : Int)))], [], [(9, ⟨21, (.int .i32), all1⟩)]⟩) (orc := []) (ob := []) (by kernel_rfl) trivial ?_
                      refine WL_join (α := Bool) (fun z => l01_RunesBack_j5 all1 v3 (l01_RunesBack_l1 k v2 s1 k1 v1 fuel1) at1 i1 x1 z = some r) (fun t5 => ⟨[(0, SS s1), (1, I64 k1), (5, BB v1), (6, .val (.sl (.pair (.int .i32) (.pair (.int .i64) (.pair (.int .i64) (.pair .bool .unit))))) v2.1), (8, I64 at1), (9, .row 9), (10, I64 i1), (12, I32 v3.1), (13, I64 v3.2), (85, BB false), (87, BB x1.2.2.2.1), (93, BB t5)], [], [(9, ⟨21, (.int .i32), all1⟩)]⟩) 3 ?_ (fun hJ5 => ?_)
                      · rintro t5 h
                        unfold l01_RunesBack_j5 at h
                        refine WL_all hE [0, 1, 5, 6, 8, 9, 10, 12, 13, 95] [] [9] (st' := ⟨[(0, SS s1), (1, I64 k1), (5, BB v1), (6, .val (.sl (.pair (.int .i32) (.pair (.int .i64) (.pair (.int .i64) (.pair .bool .unit))))) v2.1), (8, I64 at1), (9, .row 9), (10, I64 i1), (12, I32 v3.1), (13, I64 v3.2), (95, BB (!(x1.2.2.2.1 == t5)))], [], [(9, ⟨21, (.int .i32), all1⟩)]⟩) (orc := []) (ob := []) (by kernel_rfl) trivial ?_
                        exact hJ4 (!(x1.2.2.2.1 == t5)) h
                      refine WL_split (fun g => ⟨[(0, SS s1), (1, I64 k1), (5, BB v1), (6, .val (.sl (.pair (.int .i32) (.pair (.int .i64) (.pair (.int .i64) (.pair .bool .unit))))) v2.1), (8, I64 at1), (9, .row 9), (10, I64 i1), (12, I32 v3.1), (13, I64 v3.2), (85, BB false), (87, BB x1.2.2.2.1), (90, BB g)], [], [(9, ⟨21, (.int .i32), all1⟩)]⟩) (b := v3.1 == (65533 : Int)) (fun e13 => ?_) (fun e13 => ?_)
                      · rw [and_t e13] at h
                        refine WL_all hE [0, 1, 5, 6, 8, 9, 10, 12, 13, 85, 87, 93] [] [9] (st' := ⟨[(0, SS s1), (1, I64 k1), (5, BB v1), (6, .val (.sl (.pair (.int .i32) (.pair (.int .i64) (.pair (.int .i64) (.pair .bool .unit))))) v2.1), (8, I64 at1), (9, .row 9), (10, I64 i1), (12, I32 v3.1), (13, I64 v3.2), (85, BB false), (87, BB x1.2.2.2.1), (93, BB (v3.2 == (1 : Int)))], [], [(9, ⟨21, (.int .i32), all1⟩)]⟩) (orc := []) (ob := []) (by kernel_rfl) trivial ?_
                        exact hJ5 (v3.2 == (1 : Int)) h
                      · rw [and_f e13] at h
                        refine WL_all hE [0, 1, 5, 6, 8, 9, 10, 12, 13, 85, 87, 93] [] [9] (st' := ⟨[(0, SS s1), (1, I64 k1), (5, BB v1), (6, .val (.sl (.pair (.int .i32) (.pair (.int .i64) (.pair (.int .i64) (.pair .bool .unit))))) v2.1), (8, I64 at1), (9, .row 9), (10, I64 i1), (12, I32 v3.1), (13, I64 v3.2), (85, BB false), (87, BB x1.2.2.2.1), (93, BB false)], [], [(9, ⟨21, (.int .i32), all1⟩)]⟩) (orc := []) (ob := []) (by kernel_rfl) trivial ?_
                        exact hJ5 false h
                  refine WL_split (fun g => ⟨[(0, SS s1), (1, I64 k1), (5, BB v1), (6, .val (.sl (.pair (.int .i32) (.pair (.int .i64) (.pair (.int .i64) (.pair .bool .unit))))) v2.1), (8, I64 at1), (9, .row 9), (10, I64 i1), (11, .ptr 11 0), (12, I32 v3.1), (13, I64 v3.2), (79, BB g)], [(11, .cells [I32 x1.1, I64 x1.2.1, I64 x1.2.2.1, BB x1.2.2.2.1] 35)], [(9, ⟨21, (.int .i32), all1⟩)]⟩) (b := x1.1 != v3.1) (fun e14 => ?_) (fun e14 => ?_)
                  · rw [or_t e14] at h
                    refine WL_all hE [0, 1, 5, 6, 8, 9, 10, 11, 12, 13, 84] [11] [9] (st' := ⟨[(0, SS s1), (1, I64 k1), (5, BB v1), (6, .val (.sl (.pair (.int .i32) (.pair (.int .i64) (.pair (.int .i64) (.pair .bool .unit))))) v2.1), (8, I64 at1), (9, .row 9), (10, I64 i1), (11, .ptr 11 0), (12, I32 v3.1), (13, I64 v3.2), (84, BB true)], [(11, .cells [I32 x1.1, I64 x1.2.1, I64 x1.2.2.1, BB x1.2.2.2.1] 35)], [(9, ⟨21, (.int .i32), all1⟩)]⟩) (orc := []) (ob := []) (by kernel_rfl) trivial ?_
                    exact hJ3 true h
                  · rw [or_f e14] at h
                    refine WL_all hE [0, 1, 5, 6, 8, 9, 10, 11, 12, 13, 84] [11] [9] (st' := ⟨[(0, SS s1), (1, I64 k1), (5, BB v1), (6, .val (.sl (.pair (.int .i32) (.pair (.int .i64) (.pair (.int .i64) (.pair .bool .unit))))) v2.1), (8, I64 at1), (9, .row 9), (10, I64 i1), (11, .ptr 11 0), (12, I32 v3.1), (13, I64 v3.2), (84, BB (x1.2.2.1 != v3.2))], [(11, .cells [I32 x1.1, I64 x1.2.1, I64 x1.2.2.1, BB x1.2.2.2.1] 35)], [(9, ⟨21, (.int .i32), all1⟩)]⟩) (orc := []) (ob := []) (by kernel_rfl) trivial ?_
                    exact hJ3 (x1.2.2.1 != v3.2) h
              refine WL_split (fun g => ⟨[(0, SS s1), (1, I64 k1), (5, BB v1), (6, .val (.sl (.pair (.int .i32) (.pair (.int .i64) (.pair (.int .i64) (.pair .bool .unit))))) v2.1), (8, I64 at1), (9, .row 9), (10, I64 i1), (11, .ptr 11 0), (59, BB g)], [(11, .cells [I32 x1.1, I64 x1.2.1, I64 x1.2.2.1, BB x1.2.2.2.1] 35)], [(9, ⟨21, (.int .i32), all1⟩)]⟩) (b := t1) (fun e15 => ?_) (fun e15 => ?_)
              · rw [or_t e15] at h
                refine WL_all hE [0, 1, 5, 6, 8, 9, 10, 11, 67] [11] [9] (st' := ⟨[(0, SS s1), (1, I64 k1), (5, BB v1), (6, .val (.sl (.pair (.int .i32) (.pair (.int .i64) (.pair (.int .i64) (.pair .bool .unit))))) v2.1), (8, I64 at1), (9, .row 9), (10, I64 i1), (11, .ptr 11 0), (67, BB true)], [(11, .cells [I32 x1.1, I64 x1.2.1, I64 x1.2.2.1, BB x1.2.2.2.1] 35)], [(9, ⟨21, (.int .i32), all1⟩)]⟩) (orc := []) (ob := []) (by kernel_rfl) trivial ?_
                exact hJ2 true h
              · rw [or_f e15] at h
                refine WL_all hE [0, 1, 5, 6, 8, 9, 10, 11, 67] [11] [9] (st' := ⟨[(0, SS s1), (1, I64 k1), (5, BB v1), (6, .val (.sl (.pair (.int .i32) (.pair (.int .i64) (.pair (.int .i64) (.pair .bool .unit))))) v2.1), (8, I64 at1), (9, .row 9), (10, I64 i1), (11, .ptr 11 0), (67, BB (decide ((List.length s1 : Int) < (wi64 (at1 + x1.2.2.1)))))], [(11, .cells [I32 x1.1, I64 x1.2.1, I64 x1.2.2.1, BB x1.2.2.2.1] 35)], [(9, ⟨21, (.int .i32), all1⟩)]⟩) (orc := []) (ob := []) (by kernel_rfl) trivial ?_
                exact hJ2 (decide ((List.length s1 : Int) < (wi64 (at1 + x1.2.2.1)))) h
            refine WL_split (fun g => ⟨[(0, SS s1), (1, I64 k1), (5, BB v1), (6, .val (.sl (.pair (.int .i32) (.pair (.int .i64) (.pair (.int .i64) (.pair .bool .unit))))) v2.1), (8, I64 at1), (9, .row 9), (10, I64 i1), (11, .ptr 11 0), (54, BB g)], [(11, .cells [I32 x1.1, I64 x1.2.1, I64 x1.2.2.1, BB x1.2.2.2.1] 35)], [(9, ⟨21, (.int .i32), all1⟩)]⟩) (b := x1.2.1 != at1) (fun e16 => ?_) (fun e16 => ?_)
            · rw [or_t e16] at h
              refine WL_all hE [0, 1, 5, 6, 8, 9, 10, 11, 58] [11] [9] (st' := ⟨[(0, SS s1), (1, I64 k1), (5, BB v1), (6, .val (.sl (.pair (.int .i32) (.pair (.int .i64) (.pair (.int .i64) (.pair .bool .unit))))) v2.1), (8, I64 at1), (9, .row 9), (10, I64 i1), (11, .ptr 11 0), (58, BB true)], [(11, .cells [I32 x1.1, I64 x1.2.1, I64 x1.2.2.1, BB x1.2.2.2.1] 35)], [(9, ⟨21, (.int .i32), all1⟩)]⟩) (orc := []) (ob := []) (by kernel_rfl) trivial ?_
              exact hJ1 true h
            · rw [or_f e16] at h
              refine WL_all hE [0, 1, 5, 6, 8, 9, 10, 11, 58] [11] [9] (st' := ⟨[(0, SS s1), (1, I64 k1), (5, BB v1), (6, .val (.sl (.pair (.int .i32) (.pair (.int .i64) (.pair (.int .i64) (.pair .bool .unit))))) v2.1), (8, I64 at1), (9, .row 9), (10, I64 i1), (11, .ptr 11 0), (58, BB (decide (x1.2.2.1 < (1 : Int))))], [(11, .cells [I32 x1.1, I64 x1.2.1, I64 x1.2.2.1, BB x1.2.2.2.1] 35)], [(9, ⟨21, (.int .i32), all1⟩)]⟩) (orc := []) (ob := []) (by kernel_rfl) trivial ?_
              exact hJ1 (decide (x1.2.2.1 < (1 : Int))) h
          · replace h := ite_f e5 h
            refine W_exit ?_
            refine N_then_exit ?_
            refine N_then_exit ?_
            refine N_block_exit ?_
            refine N_then ?_
            refine W_seq ?_
            refine W_region ?_
            refine WL_all hE [0, 1, 5, 6, 8, 9, 14] [] [9] (st' := ⟨[(0, SS s1), (1, I64 k1), (5, BB v1), (6, .val (.sl (.pair (.int .i32) (.pair (.int .i64) (.pair (.int .i64) (.pair .bool .unit))))) v2.1), (8, I64 at1), (9, .row 9), (14, I64 (wi64 ((List.length v2.1 : Int) + (1 : Int))))], [], [(9, ⟨21, (.int .i32), all1⟩)]⟩) (orc := []) (ob := []) (by kernel_rfl) trivial ?_
            refine N_then ?_
            refine W_seq ?_
            refine W_region ?_
            obtain ⟨_, e17, h⟩ := bind_some h
            replace e17 := chk_some e17
            obtain ⟨_, e18, h⟩ := bind_some h
            replace e18 := chk_some e18
            refine WL_all hE [0, 5, 6, 8, 9, 15] [] [9] (st' := ⟨[(0, SS s1), (5, BB v1), (6, .val (.sl (.pair (.int .i32) (.pair (.int .i64) (.pair (.int .i64) (.pair .bool .unit))))) v2.1), (8, I64 at1), (9, .row 9), (15, I64 (Int.tmod (wi64 ((Int.tmod k1 (wi64 ((List.length v2.1 : Int) + (1 : Int)))) + (wi64 ((List.length v2.1 : Int) + (1 : Int))))) (wi64 ((List.length v2.1 : Int) + (1 : Int)))))], [], [(9, ⟨21, (.int .i32), all1⟩)]⟩) (orc := []) (ob := [(wi64 ((List.length v2.1 : Int) + (1 : Int))) ≠ 0, (wi64 ((List.length v2.1 : Int) + (1 : Int))) ≠ 0]) (by kernel_rfl) ⟨e17, e18, trivial⟩ ?_
            refine N_then ?_
            refine W_seq ?_
            refine W_region ?_
            obtain ⟨v4, e19, h⟩ := bind_some h
            refine WL_all hE [0, 5, 6, 8, 9, 15, 16, 17] [] [9] (st' := ⟨[(0, SS s1), (5, BB v1), (6, .val (.sl (.pair (.int .i32) (.pair (.int .i64) (.pair (.int .i64) (.pair .bool .unit))))) v2.1), (8, I64 at1), (9, .row 9), (15, I64 (Int.tmod (wi64 ((Int.tmod k1 (wi64 ((List.length v2.1 : Int) + (1 : Int)))) + (wi64 ((List.length v2.1 : Int) + (1 : Int))))) (wi64 ((List.length v2.1 : Int) + (1 : Int))))), (16, SS v4.1), (17, I64 v4.2)], [], [(9, ⟨21, (.int .i32), all1⟩)]⟩) (orc := [tS v4.1, tI64 v4.2]) (ob := [runes_Part k s1 (0 : Int) (Int.tmod (wi64 ((Int.tmod k1 (wi64 ((List.length v2.1 : Int) + (1 : Int)))) + (wi64 ((List.length v2.1 : Int) + (1 : Int))))) (wi64 ((List.length v2.1 : Int) + (1 : Int)))) = some ((v4).1, (v4).2)]) (by kernel_rfl) ⟨e19, trivial⟩ ?_
            refine N_then ?_
            refine W_seq ?_
            refine W_region ?_
            obtain ⟨v5, e20, h⟩ := bind_some h
            refine WL_all hE [0, 5, 6, 8, 9, 16, 17, 18, 19] [] [9] (st' := ⟨[(0, SS s1), (5, BB v1), (6, .val (.sl (.pair (.int .i32) (.pair (.int .i64) (.pair (.int .i64) (.pair .bool .unit))))) v2.1), (8, I64 at1), (9, .row 9), (16, SS v4.1), (17, I64 v4.2), (18, SS v5.1), (19, I64 v5.2)], [], [(9, ⟨21, (.int .i32), all1⟩)]⟩) (orc := [tS v5.1, tI64 v5.2]) (ob := [runes_Part k s1 (Int.tmod (wi64 ((Int.tmod k1 (wi64 ((List.length v2.1 : Int) + (1 : Int)))) + (wi64 ((List.length v2.1 : Int) + (1 : Int))))) (wi64 ((List.length v2.1 : Int) + (1 : Int)))) (List.length v2.1 : Int) = some ((v5).1, (v5).2)]) (by kernel_rfl) ⟨e20, trivial⟩ ?_
            refine N_then ?_
            refine W_seq ?_
            refine W_region ?_
            obtain ⟨v6, e21, h⟩ := bind_some h
            refine WL_all hE [0, 5, 6, 8, 9, 16, 17, 18, 19, 20, 21] [] [9] (st' := ⟨[(0, SS s1), (5, BB v1), (6, .val (.sl (.pair (.int .i32) (.pair (.int .i64) (.pair (.int .i64) (.pair .bool .unit))))) v2.1), (8, I64 at1), (9, .row 9), (16, SS v4.1), (17, I64 v4.2), (18, SS v5.1), (19, I64 v5.2), (20, SS v6.1), (21, I64 v6.2)], [], [(9, ⟨21, (.int .i32), all1⟩)]⟩) (orc := [tS v6.1, tI64 v6.2]) (ob := [runes_Back k s1 = some ((v6).1, (v6).2)]) (by kernel_rfl) ⟨e21, trivial⟩ ?_
            refine N_then ?_
            refine W_seq ?_
            refine W_region ?_
            obtain ⟨v7, e22, h⟩ := bind_some h
            refine WL_all hE [0, 5, 6, 8, 9, 16, 17, 18, 19, 20, 21, 22, 23] [] [9] (st' := ⟨[(0, SS s1), (5, BB v1), (6, .val (.sl (.pair (.int .i32) (.pair (.int .i64) (.pair (.int .i64) (.pair .bool .unit))))) v2.1), (8, I64 at1), (9, .row 9), (16, SS v4.1), (17, I64 v4.2), (18, SS v5.1), (19, I64 v5.2), (20, SS v6.1), (21, I64 v6.2), (22, I64 v7.1), (23, I64 v7.2)], [], [(9, ⟨21, (.int .i32), all1⟩)]⟩) (orc := [tI64 v7.1, tI64 v7.2]) (ob := [runes_Len k v6.1 = some ((v7).1, (v7).2)]) (by kernel_rfl) ⟨e22, trivial⟩ ?_
            refine N_then ?_
            refine W_seq ?_
            refine W_seq ?_
            refine W_region ?_
            refine WL_tk hE 5 [0, 5, 6, 9, 16, 17, 18, 19, 20, 21, 22, 23, 141] [] [9] (st' := ⟨[(0, SS s1), (5, BB v1), (6, .val (.sl (.pair (.int .i32) (.pair (.int .i64) (.pair (.int .i64) (.pair .bool .unit))))) v2.1), (9, .row 9), (16, SS v4.1), (17, I64 v4.2), (18, SS v5.1), (19, I64 v5.2), (20, SS v6.1), (21, I64 v6.2), (22, I64 v7.1), (23, I64 v7.2), (141, BB (at1 != (List.length s1 : Int)))], [], [(9, ⟨21, (.int .i32), all1⟩)]⟩) (orc := []) (ob := []) (by kernel_rfl) trivial ?_
            refine WL_join (α := Bool) (fun z => l01_RunesBack_j6 k v6 v1 all1 v7 v2 v4 v5 s1 z = some r) (fun t6 => ⟨[(0, SS s1), (5, BB v1), (6, .val (.sl (.pair (.int .i32) (.pair (.int .i64) (.pair (.int .i64) (.pair .bool .unit))))) v2.1), (9, .row 9), (16, SS v4.1), (18, SS v5.1), (19, I64 v5.2), (20, SS v6.1), (21, I64 v6.2), (22, I64 v7.1), (23, I64 v7.2), (144, BB t6)], [], [(9, ⟨21, (.int .i32), all1⟩)]⟩) 3 ?_ (fun hJ6 => ?_)
            · rintro t6 h
              unfold l01_RunesBack_j6 at h
              refine WL_tk hE 1 [0, 5, 6, 9, 16, 18, 19, 20, 21, 22, 23, 145] [] [9] (st' := ⟨[(0, SS s1), (5, BB v1), (6, .val (.sl (.pair (.int .i32) (.pair (.int .i64) (.pair (.int .i64) (.pair .bool .unit))))) v2.1), (9, .row 9), (16, SS v4.1), (18, SS v5.1), (19, I64 v5.2), (20, SS v6.1), (21, I64 v6.2), (22, I64 v7.1), (23, I64 v7.2), (145, BB t6)], [], [(9, ⟨21, (.int .i32), all1⟩)]⟩) (orc := []) (ob := []) (by kernel_rfl) trivial ?_
              refine WL_join (α := Bool) (fun z => l01_RunesBack_j7 k v6 v1 all1 v7 v2 v4 v5 s1 z = some r) (fun t7 => ⟨[(0, SS s1), (5, BB v1), (6, .val (.sl (.pair (.int .i32) (.pair (.int .i64) (.pair (.int .i64) (.pair .bool .unit))))) v2.1), (9, .row 9), (16, SS v4.1), (18, SS v5.1), (20, SS v6.1), (21, I64 v6.2), (22, I64 v7.1), (23, I64 v7.2), (148, BB t7)], [], [(9, ⟨21, (.int .i32), all1⟩)]⟩) 3 ?_ (fun hJ7 => ?_)
              · rintro t7 h
                unfold l01_RunesBack_j7 at h
                refine WL_tk hE 1 [0, 5, 6, 9, 16, 18, 20, 21, 22, 23, 149] [] [9] (st' := ⟨[(0, SS s1), (5, BB v1), (6, .val (.sl (.pair (.int .i32) (.pair (.int .i64) (.pair (.int .i64) (.pair .bool .unit))))) v2.1), (9, .row 9), (16, SS v4.1), (18, SS v5.1), (20, SS v6.1), (21, I64 v6.2), (22, I64 v7.1), (23, I64 v7.2), (149, BB t7)], [], [(9, ⟨21, (.int .i32), all1⟩)]⟩) (orc := []) (ob := []) (by kernel_rfl) trivial ?_
                refine WL_join (α := Bool) (fun z => l01_RunesBack_j8 k v6 v1 all1 v7 v2 v4 v5 s1 z = some r) (fun t8 => ⟨[(0, SS s1), (5, BB v1), (6, .val (.sl (.pair (.int .i32) (.pair (.int .i64) (.pair (.int .i64) (.pair .bool .unit))))) v2.1), (9, .row 9), (16, SS v4.1), (18, SS v5.1), (20, SS v6.1), (22, I64 v7.1), (23, I64 v7.2), (152, BB t8)], [], [(9, ⟨21, (.int .i32), all1⟩)]⟩) 3 ?_ (fun hJ8 => ?_)
                · rintro t8 h
                  unfold l01_RunesBack_j8 at h
                  refine WL_tk hE 1 [0, 5, 6, 9, 16, 18, 20, 22, 23, 153] [] [9] (st' := ⟨[(0, SS s1), (5, BB v1), (6, .val (.sl (.pair (.int .i32) (.pair (.int .i64) (.pair (.int .i64) (.pair .bool .unit))))) v2.1), (9, .row 9), (16, SS v4.1), (18, SS v5.1), (20, SS v6.1), (22, I64 v7.1), (23, I64 v7.2), (153, BB t8)], [], [(9, ⟨21, (.int .i32), all1⟩)]⟩) (orc := []) (ob := []) (by kernel_rfl) trivial ?_
                  refine WL_join (α := Bool) (fun z => l01_RunesBack_j9 k v6 v1 all1 v7 v2 v4 v5 s1 z = some r) (fun t9 => ⟨[(0, SS s1), (5, BB v1), (6, .val (.sl (.pair (.int .i32) (.pair (.int .i64) (.pair (.int .i64) (.pair .bool .unit))))) v2.1), (9, .row 9), (16, SS v4.1), (18, SS v5.1), (20, SS v6.1), (22, I64 v7.1), (156, BB t9)], [], [(9, ⟨21, (.int .i32), all1⟩)]⟩) 3 ?_ (fun hJ9 => ?_)
                  · rintro t9 h
                    unfold l01_RunesBack_j9 at h
                    refine WL_tk hE 1 [0, 5, 6, 9, 16, 18, 20, 22, 157] [] [9] (st' := ⟨[(0, SS s1), (5, BB v1), (6, .val (.sl (.pair (.int .i32) (.pair (.int .i64) (.pair (.int .i64) (.pair .bool .unit))))) v2.1), (9, .row 9), (16, SS v4.1), (18, SS v5.1), (20, SS v6.1), (22, I64 v7.1), (157, BB t9)], [], [(9, ⟨21, (.int .i32), all1⟩)]⟩) (orc := []) (ob := []) (by kernel_rfl) trivial ?_
                    refine WL_join (α := Bool) (fun z => l01_RunesBack_j10 k v6 v1 all1 v7 v2 z = some r) (fun t10 => ⟨[(5, BB v1), (6, .val (.sl (.pair (.int .i32) (.pair (.int .i64) (.pair (.int .i64) (.pair .bool .unit))))) v2.1), (9, .row 9), (20, SS v6.1), (22, I64 v7.1), (163, BB t10)], [], [(9, ⟨21, (.int .i32), all1⟩)]⟩) 6 ?_ (fun hJ10 => ?_)
                    · rintro t10 h
                      unfold l01_RunesBack_j10 at h
                      refine WL_tk hE 1 [5, 6, 9, 20, 22, 164] [] [9] (st' := ⟨[(5, BB v1), (6, .val (.sl (.pair (.int .i32) (.pair (.int .i64) (.pair (.int .i64) (.pair .bool .unit))))) v2.1), (9, .row 9), (20, SS v6.1), (22, I64 v7.1), (164, BB t10)], [], [(9, ⟨21, (.int .i32), all1⟩)]⟩) (orc := []) (ob := []) (by kernel_rfl) trivial ?_
                      refine WL_join (α := Bool) (fun z => l01_RunesBack_j11 k v6 v1 all1 z = some r) (fun t11 => ⟨[(5, BB v1), (9, .row 9), (20, SS v6.1), (169, BB t11)], [], [(9, ⟨21, (.int .i32), all1⟩)]⟩) 5 ?_ (fun hJ11 => ?_)
                      · rintro t11 h
                        unfold l01_RunesBack_j11 at h
                        refine WL_tk hE 1 [5, 9, 20, 170] [] [9] (st' := ⟨[(5, BB v1), (9, .row 9), (20, SS v6.1), (170, BB t11)], [], [(9, ⟨21, (.int .i32), all1⟩)]⟩) (orc := []) (ob := []) (by kernel_rfl) trivial ?_
                        refine WL_join (α := Bool) (fun z => l01_RunesBack_j12 k v6 v1 z = some r) (fun t12 => ⟨[(5, BB v1), (20, SS v6.1), (175, BB t12)], [], []⟩) 5 ?_ (fun hJ12 => ?_)
                        · rintro t12 h
                          unfold l01_RunesBack_j12 at h
                          refine WL_nil ?_
                          refine N_then ?_
                          refine W_cond (b := t12) (by kernel_rfl) (fun e23 => ?_) (fun e23 => ?_)
                          · replace h := ite_t e23 h
                            refine W_seq ?_
                            refine W_region ?_
                            refine WL_all hE [4] [] [] (st' := ⟨[(4, BB false)], [], []⟩) (orc := []) (ob := []) (by kernel_rfl) trivial ?_
                            refine N_then ?_
                            refine W_ret ?_
                            refine N_then_ret ?_
                            cases h
                            exact N_end (.inl rfl) (by kernel_rfl)
                          · replace h := ite_f e23 h
                            refine W_skip ?_
                            refine N_then ?_
                            refine W_seq ?_
                            refine W_region ?_
                            obtain ⟨v8, e24, h⟩ := bind_some h
                            refine WL_all hE [5, 20, 24, 25] [] [] (st' := ⟨[(5, BB v1), (20, SS v6.1), (24, I64 v8.1), (25, I64 v8.2)], [], []⟩) (orc := [tI64 v8.1, tI64 v8.2]) (ob := [runes_Broken k v6.1 = some ((v8).1, (v8).2)]) (by kernel_rfl) ⟨e24, trivial⟩ ?_
                            refine N_then ?_
                            refine W_seq ?_
                            refine W_region ?_
                            obtain ⟨v9, e25, h⟩ := bind_some h
                            refine WL_all hE [5, 20, 24, 25, 26, 27] [] [] (st' := ⟨[(5, BB v1), (20, SS v6.1), (24, I64 v8.1), (25, I64 v8.2), (26, SS v9.1), (27, I64 v9.2)], [], []⟩) (orc := [tS v9.1, tI64 v9.2]) (ob := [runes_Back k v6.1 = some ((v9).1, (v9).2)]) (by kernel_rfl) ⟨e25, trivial⟩ ?_
                            refine N_then ?_
                            refine W_seq ?_
                            refine W_region ?_
                            refine WL_tk hE 2 [20, 24, 25, 26, 27, 187] [] [] (st' := ⟨[(20, SS v6.1), (24, I64 v8.1), (25, I64 v8.2), (26, SS v9.1), (27, I64 v9.2), (187, BB v1)], [], []⟩) (orc := []) (ob := []) (by kernel_rfl) trivial ?_
                            refine WL_join (α := Bool) (fun z => l01_RunesBack_j13 v9 v6 v8 z = some r) (fun t13 => ⟨[(20, SS v6.1), (24, I64 v8.1), (26, SS v9.1), (27, I64 v9.2), (190, BB t13)], [], []⟩) 3 ?_ (fun hJ13 => ?_)
                            · rintro t13 h
                              unfold l01_RunesBack_j13 at h
                              refine WL_tk hE 1 [20, 24, 26, 27, 191] [] [] (st' := ⟨[(20, SS v6.1), (24, I64 v8.1), (26, SS v9.1), (27, I64 v9.2), (191, BB t13)], [], []⟩) (orc := []) (ob := []) (by kernel_rfl) trivial ?_
                              refine WL_join (α := Bool) (fun z => l01_RunesBack_j14 v9 v6 z = some r) (fun t14 => ⟨[(20, SS v6.1), (26, SS v9.1), (27, I64 v9.2), (194, BB t14)], [], []⟩) 3 ?_ (fun hJ14 => ?_)
                              · rintro t14 h
                                unfold l01_RunesBack_j14 at h
                                refine WL_tk hE 1 [20, 26, 27, 195] [] [] (st' := ⟨[(20, SS v6.1), (26, SS v9.1), (27, I64 v9.2), (195, BB t14)], [], []⟩) (orc := []) (ob := []) (by kernel_rfl) trivial ?_
                                refine WL_join (α := Bool) (fun z => l01_RunesBack_j15 v9 v6 z = some r) (fun t15 => ⟨[(20, SS v6.1), (26, SS v9.1), (198, BB t15)], [], []⟩) 3 ?_ (fun hJ15 => ?_)
                                · rintro t15 h
                                  unfold l01_RunesBack_j15 at h
                                  refine WL_tk hE 1 [20, 26, 199] [] [] (st' := ⟨[(20, SS v6.1), (26, SS v9.1), (199, BB t15)], [], []⟩) (orc := []) (ob := []) (by kernel_rfl) trivial ?_
                                  refine WL_join (α := Bool) (fun z => l01_RunesBack_j16 z = some r) (fun t16 => ⟨[(203, BB t16)], [], []⟩) 4 ?_ (fun hJ16 => ?_)
                                  · rintro t16 h
                                    unfold l01_RunesBack_j16 at h
                                    refine WL_all hE [4] [] [] (st' := ⟨[(4, BB t16)], [], []⟩) (orc := []) (ob := []) (by kernel_rfl) trivial ?_
                                    refine N_then ?_
                                    refine W_ret ?_
                                    cases h
                                    exact N_end (.inl rfl) (by kernel_rfl)
                                  refine WL_split (fun g => ⟨[(20, SS v6.1), (26, SS v9.1), (199, BB g)], [], []⟩) (b := t15) (fun e26 => ?_) (fun e26 => ?_)
                                  · rw [and_t e26] at h
                                    refine WL_all hE [203] [] [] (st' := ⟨[(203, BB (v9.1 == v6.1))], [], []⟩) (orc := []) (ob := []) (by kernel_rfl) trivial ?_
                                    exact hJ16 (v9.1 == v6.1) h
                                  · rw [and_f e26] at h
                                    refine WL_all hE [203] [] [] (st' := ⟨[(203, BB false)], [], []⟩) (orc := []) (ob := []) (by kernel_rfl) trivial ?_
                                    exact hJ16 false h
                                refine WL_split (fun g => ⟨[(20, SS v6.1), (26, SS v9.1), (27, I64 v9.2), (195, BB g)], [], []⟩) (b := t14) (fun e27 => ?_) (fun e27 => ?_)
                                · rw [and_t e27] at h
                                  refine WL_all hE [20, 26, 198] [] [] (st' := ⟨[(20, SS v6.1), (26, SS v9.1), (198, BB (v9.2 == (0 : Int)))], [], []⟩) (orc := []) (ob := []) (by kernel_rfl) trivial ?_
                                  exact hJ15 (v9.2 == (0 : Int)) h
                                · rw [and_f e27] at h
                                  refine WL_all hE [20, 26, 198] [] [] (st' := ⟨[(20, SS v6.1), (26, SS v9.1), (198, BB false)], [], []⟩) (orc := []) (ob := []) (by kernel_rfl) trivial ?_
                                  exact hJ15 false h
                              refine WL_split (fun g => ⟨[(20, SS v6.1), (24, I64 v8.1), (26, SS v9.1), (27, I64 v9.2), (191, BB g)], [], []⟩) (b := t13) (fun e28 => ?_) (fun e28 => ?_)
                              · rw [and_t e28] at h
                                refine WL_all hE [20, 26, 27, 194] [] [] (st' := ⟨[(20, SS v6.1), (26, SS v9.1), (27, I64 v9.2), (194, BB (v8.1 == (-1 : Int)))], [], []⟩) (orc := []) (ob := []) (by kernel_rfl) trivial ?_
                                exact hJ14 (v8.1 == (-1 : Int)) h
                              · rw [and_f e28] at h
                                refine WL_all hE [20, 26, 27, 194] [] [] (st' := ⟨[(20, SS v6.1), (26, SS v9.1), (27, I64 v9.2), (194, BB false)], [], []⟩) (orc := []) (ob := []) (by kernel_rfl) trivial ?_
                                exact hJ14 false h
                            refine WL_split (fun g => ⟨[(20, SS v6.1), (24, I64 v8.1), (25, I64 v8.2), (26, SS v9.1), (27, I64 v9.2), (187, BB g)], [], []⟩) (b := v1) (fun e29 => ?_) (fun e29 => ?_)
                            · rw [and_t e29] at h
                              refine WL_all hE [20, 24, 26, 27, 190] [] [] (st' := ⟨[(20, SS v6.1), (24, I64 v8.1), (26, SS v9.1), (27, I64 v9.2), (190, BB (v8.2 == (0 : Int)))], [], []⟩) (orc := []) (ob := []) (by kernel_rfl) trivial ?_
                              exact hJ13 (v8.2 == (0 : Int)) h
                            · rw [and_f e29] at h
                              refine WL_all hE [20, 24, 26, 27, 190] [] [] (st' := ⟨[(20, SS v6.1), (24, I64 v8.1), (26, SS v9.1), (27, I64 v9.2), (190, BB false)], [], []⟩) (orc := []) (ob := []) (by kernel_rfl) trivial ?_
                              exact hJ13 false h
                        refine WL_split (fun g => ⟨[(5, BB v1), (9, .row 9), (20, SS v6.1), (170, BB g)], [], [(9, ⟨21, (.int .i32), all1⟩)]⟩) (b := t11) (fun e30 => ?_) (fun e30 => ?_)
                        · replace h := ite_t e30 h
                          refine WL_all hE [5, 20, 175] [] [] (st' := ⟨[(5, BB v1), (20, SS v6.1), (175, BB true)], [], []⟩) (orc := []) (ob := []) (by kernel_rfl) trivial ?_
                          exact hJ12 true h
                        · replace h := ite_f e30 h
                          obtain ⟨v10, e31, h⟩ := bind_some h
                          refine WL_all hE [5, 20, 175] [] [] (st' := ⟨[(5, BB v1), (20, SS v6.1), (175, BB (!(v6.1 == v10)))], [], []⟩) (orc := [tS v10]) (ob := [runes_Text k all1 = some v10]) (by kernel_rfl) ⟨e31, trivial⟩ ?_
                          exact hJ12 (!(v6.1 == v10)) h
                      refine WL_split (fun g => ⟨[(5, BB v1), (6, .val (.sl (.pair (.int .i32) (.pair (.int .i64) (.pair (.int .i64) (.pair .bool .unit))))) v2.1), (9, .row 9), (20, SS v6.1), (22, I64 v7.1), (164, BB g)], [], [(9, ⟨21, (.int .i32), all1⟩)]⟩) (b := t10) (fun e32 => ?_) (fun e32 => ?_)
                      · rw [or_t e32] at h
                        refine WL_all hE [5, 9, 20, 169] [] [9] (st' := ⟨[(5, BB v1), (9, .row 9), (20, SS v6.1), (169, BB true)], [], [(9, ⟨21, (.int .i32), all1⟩)]⟩) (orc := []) (ob := []) (by kernel_rfl) trivial ?_
                        exact hJ11 true h
                      · rw [or_f e32] at h
                        refine WL_all hE [5, 9, 20, 169] [] [9] (st' := ⟨[(5, BB v1), (9, .row 9), (20, SS v6.1), (169, BB (v7.1 != (List.length v2.1 : Int)))], [], [(9, ⟨21, (.int .i32), all1⟩)]⟩) (orc := []) (ob := []) (by kernel_rfl) trivial ?_
                        exact hJ11 (v7.1 != (List.length v2.1 : Int)) h
                    refine WL_split (fun g => ⟨[(0, SS s1), (5, BB v1), (6, .val (.sl (.pair (.int .i32) (.pair (.int .i64) (.pair (.int .i64) (.pair .bool .unit))))) v2.1), (9, .row 9), (16, SS v4.1), (18, SS v5.1), (20, SS v6.1), (22, I64 v7.1), (157, BB g)], [], [(9, ⟨21, (.int .i32), all1⟩)]⟩) (b := t9) (fun e33 => ?_) (fun e33 => ?_)
                    · replace h := ite_t e33 h
                      refine WL_all hE [5, 6, 9, 20, 22, 163] [] [9] (st' := ⟨[(5, BB v1), (6, .val (.sl (.pair (.int .i32) (.pair (.int .i64) (.pair (.int .i64) (.pair .bool .unit))))) v2.1), (9, .row 9), (20, SS v6.1), (22, I64 v7.1), (163, BB true)], [], [(9, ⟨21, (.int .i32), all1⟩)]⟩) (orc := []) (ob := []) (by kernel_rfl) trivial ?_
                      exact hJ10 true h
                    · replace h := ite_f e33 h
                      obtain ⟨_, e34, h⟩ := bind_some h
                      replace e34 := chk_some e34
                      refine WL_all hE [5, 6, 9, 20, 22, 163] [] [9] (st' := ⟨[(5, BB v1), (6, .val (.sl (.pair (.int .i32) (.pair (.int .i64) (.pair (.int .i64) (.pair .bool .unit))))) v2.1), (9, .row 9), (20, SS v6.1), (22, I64 v7.1), (163, BB (!((v4.1 ++ v5.1) == s1)))], [], [(9, ⟨21, (.int .i32), all1⟩)]⟩) (orc := []) (ob := [List.length v4.1 + List.length v5.1 ≤ lim]) (by kernel_rfl) ⟨e34, trivial⟩ ?_
                      exact hJ10 (!((v4.1 ++ v5.1) == s1)) h
                  refine WL_split (fun g => ⟨[(0, SS s1), (5, BB v1), (6, .val (.sl (.pair (.int .i32) (.pair (.int .i64) (.pair (.int .i64) (.pair .bool .unit))))) v2.1), (9, .row 9), (16, SS v4.1), (18, SS v5.1), (20, SS v6.1), (22, I64 v7.1), (23, I64 v7.2), (153, BB g)], [], [(9, ⟨21, (.int .i32), all1⟩)]⟩) (b := t8) (fun e35 => ?_) (fun e35 => ?_)
                  · rw [or_t e35] at h
                    refine WL_all hE [0, 5, 6, 9, 16, 18, 20, 22, 156] [] [9] (st' := ⟨[(0, SS s1), (5, BB v1), (6, .val (.sl (.pair (.int .i32) (.pair (.int .i64) (.pair (.int .i64) (.pair .bool .unit))))) v2.1), (9, .row 9), (16, SS v4.1), (18, SS v5.1), (20, SS v6.1), (22, I64 v7.1), (156, BB true)], [], [(9, ⟨21, (.int .i32), all1⟩)]⟩) (orc := []) (ob := []) (by kernel_rfl) trivial ?_
                    exact hJ9 true h
                  · rw [or_f e35] at h
                    refine WL_all hE [0, 5, 6, 9, 16, 18, 20, 22, 156] [] [9] (st' := ⟨[(0, SS s1), (5, BB v1), (6, .val (.sl (.pair (.int .i32) (.pair (.int .i64) (.pair (.int .i64) (.pair .bool .unit))))) v2.1), (9, .row 9), (16, SS v4.1), (18, SS v5.1), (20, SS v6.1), (22, I64 v7.1), (156, BB (v7.2 != (0 : Int)))], [], [(9, ⟨21, (.int .i32), all1⟩)]⟩) (orc := []) (ob := []) (by kernel_rfl) trivial ?_
                    exact hJ9 (v7.2 != (0 : Int)) h
                refine WL_split (fun g => ⟨[(0, SS s1), (5, BB v1), (6, .val (.sl (.pair (.int .i32) (.pair (.int .i64) (.pair (.int .i64) (.pair .bool .unit))))) v2.1), (9, .row 9), (16, SS v4.1), (18, SS v5.1), (20, SS v6.1), (21, I64 v6.2), (22, I64 v7.1), (23, I64 v7.2), (149, BB g)], [], [(9, ⟨21, (.int .i32), all1⟩)]⟩) (b := t7) (fun e36 => ?_) (fun e36 => ?_)
                · rw [or_t e36] at h
                  refine WL_all hE [0, 5, 6, 9, 16, 18, 20, 22, 23, 152] [] [9] (st' := ⟨[(0, SS s1), (5, BB v1), (6, .val (.sl (.pair (.int .i32) (.pair (.int .i64) (.pair (.int .i64) (.pair .bool .unit))))) v2.1), (9, .row 9), (16, SS v4.1), (18, SS v5.1), (20, SS v6.1), (22, I64 v7.1), (23, I64 v7.2), (152, BB true)], [], [(9, ⟨21, (.int .i32), all1⟩)]⟩) (orc := []) (ob := []) (by kernel_rfl) trivial ?_
                  exact hJ8 true h
                · rw [or_f e36] at h
                  refine WL_all hE [0, 5, 6, 9, 16, 18, 20, 22, 23, 152] [] [9] (st' := ⟨[(0, SS s1), (5, BB v1), (6, .val (.sl (.pair (.int .i32) (.pair (.int .i64) (.pair (.int .i64) (.pair .bool .unit))))) v2.1), (9, .row 9), (16, SS v4.1), (18, SS v5.1), (20, SS v6.1), (22, I64 v7.1), (23, I64 v7.2), (152, BB (v6.2 != (0 : Int)))], [], [(9, ⟨21, (.int .i32), all1⟩)]⟩) (orc := []) (ob := []) (by kernel_rfl) trivial ?_
                  exact hJ8 (v6.2 != (0 : Int)) h
              refine WL_split (fun g => ⟨[(0, SS s1), (5, BB v1), (6, .val (.sl (.pair (.int .i32) (.pair (.int .i64) (.pair (.int .i64) (.pair .bool .unit))))) v2.1), (9, .row 9), (16, SS v4.1), (18, SS v5.1), (19, I64 v5.2), (20, SS v6.1), (21, I64 v6.2), (22, I64 v7.1), (23, I64 v7.2), (145, BB g)], [], [(9, ⟨21, (.int .i32), all1⟩)]⟩) (b := t6) (fun e37 => ?_) (fun e37 => ?_)
              · rw [or_t e37] at h
                refine WL_all hE [0, 5, 6, 9, 16, 18, 20, 21, 22, 23, 148] [] [9] (st' := ⟨[(0, SS s1), (5, BB v1), (6, .val (.sl (.pair (.int .i32) (.pair (.int .i64) (.pair (.int .i64) (.pair .bool .unit))))) v2.1), (9, .row 9), (16, SS v4.1), (18, SS v5.1), (20, SS v6.1), (21, I64 v6.2), (22, I64 v7.1), (23, I64 v7.2), (148, BB true)], [], [(9, ⟨21, (.int .i32), all1⟩)]⟩) (orc := []) (ob := []) (by kernel_rfl) trivial ?_
                exact hJ7 true h
              · rw [or_f e37] at h
                refine WL_all hE [0, 5, 6, 9, 16, 18, 20, 21, 22, 23, 148] [] [9] (st' := ⟨[(0, SS s1), (5, BB v1), (6, .val (.sl (.pair (.int .i32) (.pair (.int .i64) (.pair (.int .i64) (.pair .bool .unit))))) v2.1), (9, .row 9), (16, SS v4.1), (18, SS v5.1), (20, SS v6.1), (21, I64 v6.2), (22, I64 v7.1), (23, I64 v7.2), (148, BB (v5.2 != (0 : Int)))], [], [(9, ⟨21, (.int .i32), all1⟩)]⟩) (orc := []) (ob := []) (by kernel_rfl) trivial ?_
                exact hJ7 (v5.2 != (0 : Int)) h
            refine WL_split (fun g => ⟨[(0, SS s1), (5, BB v1), (6, .val (.sl (.pair (.int .i32) (.pair (.int .i64) (.pair (.int .i64) (.pair .bool .unit))))) v2.1), (9, .row 9), (16, SS v4.1), (17, I64 v4.2), (18, SS v5.1), (19, I64 v5.2), (20, SS v6.1), (21, I64 v6.2), (22, I64 v7.1), (23, I64 v7.2), (141, BB g)], [], [(9, ⟨21, (.int .i32), all1⟩)]⟩) (b := at1 != (List.length s1 : Int)) (fun e38 => ?_) (fun e38 => ?_)
            · rw [or_t e38] at h
              refine WL_all hE [0, 5, 6, 9, 16, 18, 19, 20, 21, 22, 23, 144] [] [9] (st' := ⟨[(0, SS s1), (5, BB v1), (6, .val (.sl (.pair (.int .i32) (.pair (.int .i64) (.pair (.int .i64) (.pair .bool .unit))))) v2.1), (9, .row 9), (16, SS v4.1), (18, SS v5.1), (19, I64 v5.2), (20, SS v6.1), (21, I64 v6.2), (22, I64 v7.1), (23, I64 v7.2), (144, BB true)], [], [(9, ⟨21, (.int .i32), all1⟩)]⟩) (orc := []) (ob := []) (by kernel_rfl) trivial ?_
              exact hJ6 true h
            · rw [or_f e38] at h
              refine WL_all hE [0, 5, 6, 9, 16, 18, 19, 20, 21, 22, 23, 144] [] [9] (st' := ⟨[(0, SS s1), (5, BB v1), (6, .val (.sl (.pair (.int .i32) (.pair (.int .i64) (.pair (.int .i64) (.pair .bool .unit))))) v2.1), (9, .row 9), (16, SS v4.1), (18, SS v5.1), (19, I64 v5.2), (20, SS v6.1), (21, I64 v6.2), (22, I64 v7.1), (23, I64 v7.2), (144, BB (v4.2 != (0 : Int)))], [], [(9, ⟨21, (.int .i32), all1⟩)]⟩) (orc := []) (ob := []) (by kernel_rfl) trivial ?_
              exact hJ6 (v4.2 != (0 : Int)) h

end Go.Ev
