/- Contracts, by program. -/
import Derived.Test.YtciikbiapmbocaaDoorProg
import Derived.Test.YtciikbiapmbocaaDoorEvW
import Derived.Test.YtciikbiapmbocaaDoorShRu2
import Derived.Test.YtciikbiapmbocaaDoorLibT
import Derived.Test.YtciikbiapmbocaaDoorCtRu1
import Derived.KernelRfl
namespace Go.Ev
open Go Go.Proofs
set_option linter.unusedVariables false
set_option maxRecDepth 100000

def C_l01_long (k : Nat) : FnC := ⟨true, 1, [], fun | [⟨.str, s1⟩], [⟨.bool, r⟩] => l01_long k s1 = some r | _, _ => False⟩
noncomputable def E_l01_long (k : Nat) : Env := ⟨Tryd.prog, Gl, 16, []⟩
theorem c_l01_long (k : Nat) : Contract Tryd.prog Gl 12 (C_l01_long k) := by
  refine contract_of Gl_stable (fn := Tryd.f12) Tryd.func12 (by kernel_rfl) rfl ?_ ?_
  · intro xs rs h
    unfold C_l01_long at h
    simp only at h
    split at h
    · exact ⟨by show 1 ≤ _; rw [Tryd.ntmps12]; decide, rfl, fun _ u hu => by simp at hu; (rcases hu with rfl) <;> rfl⟩
    · exact h.elim
  · intro w0 M xs rs hG h
    unfold C_l01_long at h
    simp only at h
    split at h
    case h_2 => exact h.elim
    rename_i s1 r
    change List UInt8 at s1
    change Bool at r
    have hE : EnvOK (E_l01_long k) ⟨Tryd.prog, Tryd.f12.ntmps, w0, M, fun _ => False, fun _ => undef⟩ := (EnvOK.nil rfl Tryd.ntmps12 hG)
    unfold l01_long at h
    refine W_seq ?_
    refine W_region ?_
    refine WL_all hE [0] [] [] (st' := ⟨[(0, SS s1)], [], []⟩) (orc := []) (ob := []) (by kernel_rfl) trivial ?_
    refine N_then ?_
    refine W_seq ?_
    refine W_region ?_
    refine WL_tk hE 4 [0, 6] [] [] (st' := ⟨[(0, SS s1), (6, BB (decide ((3000 : Int) < (List.length s1 : Int))))], [], []⟩) (orc := []) (ob := []) (by kernel_rfl) trivial ?_
    refine WL_join (α := Bool) (fun z => l01_long_j1 s1 z = some r) (fun t1 => ⟨[(0, SS s1), (10, BB t1)], [], []⟩) 4 ?_ (fun hJ1 => ?_)
    · rintro t1 h
      unfold l01_long_j1 at h
      refine WL_tk hE 1 [0, 11] [] [] (st' := ⟨[(0, SS s1), (11, BB t1)], [], []⟩) (orc := []) (ob := []) (by kernel_rfl) trivial ?_
      refine WL_join (α := Bool) (fun z => l01_long_j2 z = some r) (fun t2 => ⟨[(15, BB t2)], [], []⟩) 4 ?_ (fun hJ2 => ?_)
      · rintro t2 h
        unfold l01_long_j2 at h
        refine WL_all hE [2] [] [] (st' := ⟨[(2, BB t2)], [], []⟩) (orc := []) (ob := []) (by kernel_rfl) trivial ?_
        refine N_then ?_
        refine W_ret ?_
        cases h
        exact N_end (.inl rfl) (by kernel_rfl)
      refine WL_split (fun g => ⟨[(0, SS s1), (11, BB g)], [], []⟩) (b := t1) (fun e1 => ?_) (fun e1 => ?_)
      · rw [or_t e1] at h
        refine WL_all hE [15] [] [] (st' := ⟨[(15, BB true)], [], []⟩) (orc := []) (ob := []) (by kernel_rfl) trivial ?_
        exact hJ2 true h
      · rw [or_f e1] at h
        refine WL_all hE [15] [] [] (st' := ⟨[(15, BB (decide ((66000 : Int) < (List.length s1 : Int))))], [], []⟩) (orc := []) (ob := []) (by kernel_rfl) trivial ?_
        exact hJ2 (decide ((66000 : Int) < (List.length s1 : Int))) h
    refine WL_split (fun g => ⟨[(0, SS s1), (6, BB g)], [], []⟩) (b := decide ((3000 : Int) < (List.length s1 : Int))) (fun e2 => ?_) (fun e2 => ?_)
    · rw [and_t e2] at h
      refine WL_all hE [0, 10] [] [] (st' := ⟨[(0, SS s1), (10, BB (decide ((List.length s1 : Int) ≤ (65536 : Int))))], [], []⟩) (orc := []) (ob := []) (by kernel_rfl) trivial ?_
      exact hJ1 (decide ((List.length s1 : Int) ≤ (65536 : Int))) h
    · rw [and_f e2] at h
      refine WL_all hE [0, 10] [] [] (st' := ⟨[(0, SS s1), (10, BB false)], [], []⟩) (orc := []) (ob := []) (by kernel_rfl) trivial ?_
      exact hJ1 false h

def C_runes_long (k : Nat) : FnC := ⟨true, 1, [], fun | [⟨.str, s1⟩], [⟨(.int .i64), r⟩] => runes_long k s1 = some r | _, _ => False⟩
noncomputable def E_runes_long (k : Nat) : Env := ⟨Tryd.prog, Gl, 6, []⟩
theorem c_runes_long (k : Nat) : Contract Tryd.prog Gl 35 (C_runes_long k) := by
  refine contract_of Gl_stable (fn := Tryd.f35) Tryd.func35 (by kernel_rfl) rfl ?_ ?_
  · intro xs rs h
    unfold C_runes_long at h
    simp only at h
    split at h
    · exact ⟨by show 1 ≤ _; rw [Tryd.ntmps35]; decide, rfl, fun _ u hu => by simp at hu; (rcases hu with rfl) <;> rfl⟩
    · exact h.elim
  · intro w0 M xs rs hG h
    unfold C_runes_long at h
    simp only at h
    split at h
    case h_2 => exact h.elim
    rename_i s1 r
    change List UInt8 at s1
    change Int at r
    have hE : EnvOK (E_runes_long k) ⟨Tryd.prog, Tryd.f35.ntmps, w0, M, fun _ => False, fun _ => undef⟩ := (EnvOK.nil rfl Tryd.ntmps35 hG)
    unfold runes_long at h
    refine W_seq ?_
    refine W_region ?_
    refine WL_all hE [0] [] [] (st' := ⟨[(0, SS s1)], [], []⟩) (orc := []) (ob := []) (by kernel_rfl) trivial ?_
    refine N_then ?_
    refine W_seq ?_
    refine W_seq ?_
    refine W_region ?_
    refine WL_all hE [5] [] [] (st' := ⟨[(5, BB (decide ((65536 : Int) < (List.length s1 : Int))))], [], []⟩) (orc := []) (ob := []) (by kernel_rfl) trivial ?_
    refine N_then ?_
    refine W_cond (b := decide ((65536 : Int) < (List.length s1 : Int))) (by kernel_rfl) (fun e1 => ?_) (fun e1 => ?_)
    · replace h := ite_t e1 h
      refine W_seq ?_
      refine W_region ?_
      refine WL_all hE [2] [] [] (st' := ⟨[(2, I64 (3 : Int))], [], []⟩) (orc := []) (ob := []) (by kernel_rfl) trivial ?_
      refine N_then ?_
      refine W_ret ?_
      refine N_then_ret ?_
      cases h
      exact N_end (.inl rfl) (by kernel_rfl)
    · replace h := ite_f e1 h
      refine W_skip ?_
      refine N_then ?_
      refine W_seq ?_
      refine W_region ?_
      refine WL_all hE [2] [] [] (st' := ⟨[(2, I64 (0 : Int))], [], []⟩) (orc := []) (ob := []) (by kernel_rfl) trivial ?_
      refine N_then ?_
      refine W_ret ?_
      cases h
      exact N_end (.inl rfl) (by kernel_rfl)

def C_unicode_utf8_RuneLen (k : Nat) : FnC := ⟨true, 1, [], fun | [⟨(.int .i32), r1⟩], [⟨(.int .i64), r⟩] => unicode_utf8_RuneLen k r1 = some r | _, _ => False⟩
noncomputable def E_unicode_utf8_RuneLen (k : Nat) : Env := ⟨Tryd.prog, Gl, 25, []⟩
theorem c_unicode_utf8_RuneLen (k : Nat) : Contract Tryd.prog Gl 52 (C_unicode_utf8_RuneLen k) := by
  refine contract_of Gl_stable (fn := Tryd.f52) Tryd.func52 (by kernel_rfl) rfl ?_ ?_
  · intro xs rs h
    unfold C_unicode_utf8_RuneLen at h
    simp only at h
    split at h
    · exact ⟨by show 1 ≤ _; rw [Tryd.ntmps52]; decide, rfl, fun _ u hu => by simp at hu; (rcases hu with rfl) <;> rfl⟩
    · exact h.elim
  · intro w0 M xs rs hG h
    unfold C_unicode_utf8_RuneLen at h
    simp only at h
    split at h
    case h_2 => exact h.elim
    rename_i r1 r
    change Int at r1
    change Int at r
    have hE : EnvOK (E_unicode_utf8_RuneLen k) ⟨Tryd.prog, Tryd.f52.ntmps, w0, M, fun _ => False, fun _ => undef⟩ := (EnvOK.nil rfl Tryd.ntmps52 hG)
    unfold unicode_utf8_RuneLen at h
    refine W_seq ?_
    refine W_region ?_
    refine WL_all hE [0] [] [] (st' := ⟨[(0, I32 r1)], [], []⟩) (orc := []) (ob := []) (by kernel_rfl) trivial ?_
    refine N_then ?_
    refine W_seq ?_
    refine W_block ?_
    refine W_seq ?_
    refine W_region ?_
    refine WL_all hE [0, 3] [] [] (st' := ⟨[(0, I32 r1), (3, BB (decide (r1 < (0 : Int))))], [], []⟩) (orc := []) (ob := []) (by kernel_rfl) trivial ?_
    refine N_then ?_
    refine W_cond (b := decide (r1 < (0 : Int))) (by kernel_rfl) (fun e1 => ?_) (fun e1 => ?_)
    · replace h := ite_t e1 h
      refine W_seq ?_
      refine W_region ?_
      refine WL_all hE [2] [] [] (st' := ⟨[(2, I64 (-1 : Int))], [], []⟩) (orc := []) (ob := []) (by kernel_rfl) trivial ?_
      refine N_then ?_
      refine W_ret ?_
      refine N_block_ret ?_
      refine N_then_ret ?_
      cases h
      exact N_end (.inl rfl) (by kernel_rfl)
    · replace h := ite_f e1 h
      refine W_seq ?_
      refine W_region ?_
      refine WL_all hE [0, 6] [] [] (st' := ⟨[(0, I32 r1), (6, BB (decide (r1 ≤ (127 : Int))))], [], []⟩) (orc := []) (ob := []) (by kernel_rfl) trivial ?_
      refine N_then ?_
      refine W_cond (b := decide (r1 ≤ (127 : Int))) (by kernel_rfl) (fun e2 => ?_) (fun e2 => ?_)
      · replace h := ite_t e2 h
        refine W_seq ?_
        refine W_region ?_
        refine WL_all hE [2] [] [] (st' := ⟨[(2, I64 (1 : Int))], [], []⟩) (orc := []) (ob := []) (by kernel_rfl) trivial ?_
        refine N_then ?_
        refine W_ret ?_
        refine N_block_ret ?_
        refine N_then_ret ?_
        cases h
        exact N_end (.inl rfl) (by kernel_rfl)
      · replace h := ite_f e2 h
        refine W_seq ?_
        refine W_region ?_
        refine WL_all hE [0, 9] [] [] (st' := ⟨[(0, I32 r1), (9, BB (decide (r1 ≤ (2047 : Int))))], [], []⟩) (orc := []) (ob := []) (by kernel_rfl) trivial ?_
        refine N_then ?_
        refine W_cond (b := decide (r1 ≤ (2047 : Int))) (by kernel_rfl) (fun e3 => ?_) (fun e3 => ?_)
        · replace h := ite_t e3 h
          refine W_seq ?_
          refine W_region ?_
          refine WL_all hE [2] [] [] (st' := ⟨[(2, I64 (2 : Int))], [], []⟩) (orc := []) (ob := []) (by kernel_rfl) trivial ?_
          refine N_then ?_
          refine W_ret ?_
          refine N_block_ret ?_
          refine N_then_ret ?_
          cases h
          exact N_end (.inl rfl) (by kernel_rfl)
        · replace h := ite_f e3 h
          refine W_seq ?_
          refine W_region ?_
          refine WL_tk hE 3 [0, 15] [] [] (st' := ⟨[(0, I32 r1), (15, BB (decide ((55296 : Int) ≤ r1)))], [], []⟩) (orc := []) (ob := []) (by kernel_rfl) trivial ?_
          refine WL_join (α := Bool) (fun z => unicode_utf8_RuneLen_j1 r1 z = some r) (fun t1 => ⟨[(0, I32 r1), (18, BB t1)], [], []⟩) 3 ?_ (fun hJ1 => ?_)
          · rintro t1 h
            unfold unicode_utf8_RuneLen_j1 at h
            refine WL_all hE [0, 12] [] [] (st' := ⟨[(0, I32 r1), (12, BB t1)], [], []⟩) (orc := []) (ob := []) (by kernel_rfl) trivial ?_
            refine N_then ?_
            refine W_cond (b := t1) (by kernel_rfl) (fun e4 => ?_) (fun e4 => ?_)
            · replace h := ite_t e4 h
              refine W_seq ?_
              refine W_region ?_
              refine WL_all hE [2] [] [] (st' := ⟨[(2, I64 (-1 : Int))], [], []⟩) (orc := []) (ob := []) (by kernel_rfl) trivial ?_
              refine N_then ?_
              refine W_ret ?_
              refine N_block_ret ?_
              refine N_then_ret ?_
              cases h
              exact N_end (.inl rfl) (by kernel_rfl)
            · replace h := ite_f e4 h
              refine W_seq ?_
              refine W_region ?_
              refine WL_all hE [0, 19] [] [] (st' := ⟨[(0, I32 r1), (19, BB (decide (r1 ≤ (65535 : Int))))], [], []⟩) (orc := []) (ob := []) (by kernel_rfl) trivial ?_
              refine N_then ?_
              refine W_cond (b := decide (r1 ≤ (65535 : Int))) (by kernel_rfl) (fun e5 => ?_) (fun e5 => ?_)
              · replace h := ite_t e5 h
                refine W_seq ?_
                refine W_region ?_
                refine WL_all hE [2] [] [] (st' := ⟨[(2, I64 (3 : Int))], [], []⟩) (orc := []) (ob := []) (by kernel_rfl) trivial ?_
                refine N_then ?_
                refine W_ret ?_
                refine N_block_ret ?_
                refine N_then_ret ?_
                cases h
                exact N_end (.inl rfl) (by kernel_rfl)
              · replace h := ite_f e5 h
                refine W_seq ?_
                refine W_region ?_
                refine WL_all hE [22] [] [] (st' := ⟨[(22, BB (decide (r1 ≤ (1114111 : Int))))], [], []⟩) (orc := []) (ob := []) (by kernel_rfl) trivial ?_
                refine N_then ?_
                refine W_cond (b := decide (r1 ≤ (1114111 : Int))) (by kernel_rfl) (fun e6 => ?_) (fun e6 => ?_)
                · replace h := ite_t e6 h
                  refine W_seq ?_
                  refine W_region ?_
                  refine WL_all hE [2] [] [] (st' := ⟨[(2, I64 (4 : Int))], [], []⟩) (orc := []) (ob := []) (by kernel_rfl) trivial ?_
                  refine N_then ?_
                  refine W_ret ?_
                  refine N_block_ret ?_
                  refine N_then_ret ?_
                  cases h
                  exact N_end (.inl rfl) (by kernel_rfl)
                · replace h := ite_f e6 h
                  refine W_skip ?_
                  refine N_block ?_
                  refine N_then ?_
                  refine W_seq ?_
                  refine W_region ?_
                  refine WL_all hE [2] [] [] (st' := ⟨[(2, I64 (-1 : Int))], [], []⟩) (orc := []) (ob := []) (by kernel_rfl) trivial ?_
                  refine N_then ?_
                  refine W_ret ?_
                  cases h
                  exact N_end (.inl rfl) (by kernel_rfl)
          refine WL_split (fun g => ⟨[(0, I32 r1), (15, BB g)], [], []⟩) (b := decide ((55296 : Int) ≤ r1)) (fun e7 => ?_) (fun e7 => ?_)
          · rw [and_t e7] at h
            refine WL_all hE [0, 18] [] [] (st' := ⟨[(0, I32 r1), (18, BB (decide (r1 ≤ (57343 : Int))))], [], []⟩) (orc := []) (ob := []) (by kernel_rfl) trivial ?_
            exact hJ1 (decide (r1 ≤ (57343 : Int))) h
          · rw [and_f e7] at h
            refine WL_all hE [0, 18] [] [] (st' := ⟨[(0, I32 r1), (18, BB false)], [], []⟩) (orc := []) (ob := []) (by kernel_rfl) trivial ?_
            exact hJ1 false h

def B_runes_Pieces_c1_i1 (k : Nat) : FnB ((Int × Int × Int × Bool × Unit) × List ((Int × Int × Int × Bool × Unit))) (Bool × List ((Int × Int × Int × Bool × Unit))) where
  n := 8
  S := fun z => ⟨[(0, .val (.pair (.int .i32) (.pair (.int .i64) (.pair (.int .i64) (.pair .bool .unit)))) (z.1)), (1, .ptr 8 0)], [(8, .cells [.row 9])], [(9, ⟨35, (.pair (.int .i32) (.pair (.int .i64) (.pair (.int .i64) (.pair .bool .unit)))), (z.2)⟩)]⟩
  S' := fun z y => ⟨[], [(8, .cells [.row 9])], [(9, ⟨35, (.pair (.int .i32) (.pair (.int .i64) (.pair (.int .i64) (.pair .bool .unit)))), (y.2)⟩)]⟩
  rs := fun z y => [BB (y.1)]
  rel := fun z y => runes_Pieces_c1_i1 k (z.1) (z.2) = some y
noncomputable def E_runes_Pieces_c1_i1 (k : Nat) : Env := ⟨Tryd.prog, Gl, 8, []⟩
theorem b_runes_Pieces_c1_i1 (k : Nat) : BC Tryd.prog Gl 37 (B_runes_Pieces_c1_i1 k) := by
  refine bc_of (fn := Tryd.f37) Tryd.func37 (by kernel_rfl) rfl Tryd.ntmps37 ?_
  rintro cx hP hn hG ⟨p1, l1⟩ y0 h
  have hE : EnvOK (E_runes_Pieces_c1_i1 k) cx := (EnvOK.nil hP hn hG)
  replace h : runes_Pieces_c1_i1 k p1 l1 = some y0 := h
  unfold runes_Pieces_c1_i1 at h
  refine W_seq ?_
  refine W_region ?_
  refine WL_all hE [1, 2] [2, 8] [9] (st' := ⟨[(1, .ptr 8 0), (2, .ptr 2 0)], [(2, .cells [I32 p1.1, I64 p1.2.1, I64 p1.2.2.1, BB p1.2.2.2.1]), (8, .cells [.row 9])], [(9, ⟨35, (.pair (.int .i32) (.pair (.int .i64) (.pair (.int .i64) (.pair .bool .unit)))), l1⟩)]⟩) (orc := []) (ob := []) (by kernel_rfl) trivial ?_
  refine N_then ?_
  refine W_seq ?_
  refine W_region ?_
  obtain ⟨_, e1, h⟩ := bind_some h
  replace e1 := chk_some e1
  refine WL_all hE [1] [8] [9] (st' := ⟨[(1, .ptr 8 0)], [(8, .cells [.row 9])], [(9, ⟨35, (.pair (.int .i32) (.pair (.int .i64) (.pair (.int .i64) (.pair .bool .unit)))), l1 ++ ([(p1.1, p1.2.1, p1.2.2.1, p1.2.2.2.1, ())] : List ((Int × Int × Int × Bool × Unit)))⟩)]⟩) (orc := []) (ob := [List.length l1 + List.length ([(p1.1, p1.2.1, p1.2.2.1, p1.2.2.2.1, ())] : List ((Int × Int × Int × Bool × Unit))) ≤ lim]) (by kernel_rfl) ⟨e1, trivial⟩ ?_
  refine N_then ?_
  refine W_seq ?_
  refine W_region ?_
  refine WL_all hE [1, 3] [8] [9] (st' := ⟨[(1, .ptr 8 0), (3, BB true)], [(8, .cells [.row 9])], [(9, ⟨35, (.pair (.int .i32) (.pair (.int .i64) (.pair (.int .i64) (.pair .bool .unit)))), l1 ++ ([(p1.1, p1.2.1, p1.2.2.1, p1.2.2.2.1, ())] : List ((Int × Int × Int × Bool × Unit)))⟩)]⟩) (orc := []) (ob := []) (by kernel_rfl) trivial ?_
  refine N_then ?_
  refine W_ret ?_
  replace h := Option.some.inj h
  subst h
  exact N_endB hE.P [8] [9] (.inl rfl) (by kernel_rfl) (by kernel_rfl)

def B_runes_each_i1 (k : Nat) : FnB (List UInt8 × List ((Int × Int × Int × Bool × Unit))) (List ((Int × Int × Int × Bool × Unit))) where
  n := 37
  S := fun z => ⟨[(0, SS (z.1)), (1, .clos 37 [37])], [(37, .cells [.row 38])], [(38, ⟨35, (.pair (.int .i32) (.pair (.int .i64) (.pair (.int .i64) (.pair .bool .unit)))), (z.2)⟩)]⟩
  S' := fun z y => ⟨[], [(37, .cells [.row 38])], [(38, ⟨35, (.pair (.int .i32) (.pair (.int .i64) (.pair (.int .i64) (.pair .bool .unit)))), (y)⟩)]⟩
  rs := fun z y => []
  rel := fun z y => runes_each_i1 k (z.1) (z.2) = some y
noncomputable def E_runes_each_i1 (k : Nat) : Env := ⟨Tryd.prog, Gl, 37, [(52, C_unicode_utf8_RuneLen k), (25, C_unicode_utf8_DecodeRuneInString k)]⟩
theorem b_runes_each_i1 (k : Nat) : BC Tryd.prog Gl 36 (B_runes_each_i1 k) := by
  refine bc_of (fn := Tryd.f36) Tryd.func36 (by kernel_rfl) rfl Tryd.ntmps36 ?_
  rintro cx hP hn hG ⟨s1, l1⟩ y0 h
  have hE : EnvOK (E_runes_each_i1 k) cx := (EnvOK.cons (c_unicode_utf8_RuneLen k) (EnvOK.cons (c_unicode_utf8_DecodeRuneInString k) (EnvOK.nil hP hn hG)))
  replace h : runes_each_i1 k s1 l1 = some y0 := h
  unfold runes_each_i1 at h
  refine W_seq ?_
  refine W_region ?_
  refine WL_all hE [0, 1, 10] [10, 37] [38] (st' := ⟨[(0, SS s1), (1, .clos 37 [37]), (10, .iter 10)], [(10, .iter s1 0), (37, .cells [.row 38])], [(38, ⟨35, (.pair (.int .i32) (.pair (.int .i64) (.pair (.int .i64) (.pair .bool .unit)))), l1⟩)]⟩) (orc := []) (ob := []) (by kernel_rfl) trivial ?_
  refine N_then ?_
  refine W_block ?_
  refine W_loop (α := (Nat × List ((Int × Int × Int × Bool × Unit)))) (fun n z => runes_each_i1_l1 k s1 n z.1 z.2 = some y0) (fun z => ⟨[(0, SS s1), (1, .clos 37 [37]), (10, .iter 10)], [(10, .iter s1 (z.1)), (37, .cells [.row 38])], [(38, ⟨35, (.pair (.int .i32) (.pair (.int .i64) (.pair (.int .i64) (.pair .bool .unit)))), (z.2)⟩)]⟩) ?_ (k := k) (x := (0, l1)) h
  clear h
  rintro fuel1 ⟨pos1, t2⟩ h
  cases fuel1 with
  | zero => exact absurd (show none = some _ from h) (by simp)
  | succ fuel1 =>
    have h : runes_each_i1_b1 k s1 (runes_each_i1_l1 k s1 fuel1) pos1 t2 = some y0 := h
    unfold runes_each_i1_b1 at h
    refine W_seq ?_
    refine W_region ?_
    rcases Bool.eq_false_or_eq_true (decide (pos1 < List.length s1)) with e1 | e1
    · replace h := ite_t e1 h
      refine WL_tk hE 1 [0, 1, 10, 11] [10, 37] [38] (st' := ⟨[(0, SS s1), (1, .clos 37 [37]), (10, .iter 10), (11, .tup [tB true, tI64 (pos1 : Int), tI32 (runeAt s1 pos1)])], [(10, .iter s1 (pos1 + widthAt s1 pos1)), (37, .cells [.row 38])], [(38, ⟨35, (.pair (.int .i32) (.pair (.int .i64) (.pair (.int .i64) (.pair .bool .unit)))), t2⟩)]⟩) (orc := [tB true]) (ob := [pos1 < List.length s1]) (by kernel_rfl) ⟨of_decide_eq_true e1, trivial⟩ ?_
      refine WL_all hE [0, 1, 10, 11, 12] [10, 37] [38] (st' := ⟨[(0, SS s1), (1, .clos 37 [37]), (10, .iter 10), (11, .tup [tB true, tI64 (pos1 : Int), tI32 (runeAt s1 pos1)]), (12, BB true)], [(10, .iter s1 (pos1 + widthAt s1 pos1)), (37, .cells [.row 38])], [(38, ⟨35, (.pair (.int .i32) (.pair (.int .i64) (.pair (.int .i64) (.pair .bool .unit)))), t2⟩)]⟩) (orc := []) (ob := []) (by kernel_rfl) trivial ?_
      refine N_then ?_
      refine W_seq ?_
      refine W_cond_true (by kernel_rfl) ?_
      refine W_skip ?_
      refine N_then ?_
      refine W_block ?_
      refine W_seq ?_
      refine W_region ?_
      refine WL_all hE [0, 1, 4, 5, 10] [10, 37] [38] (st' := ⟨[(0, SS s1), (1, .clos 37 [37]), (4, I64 (pos1 : Int)), (5, I32 (runeAt s1 pos1)), (10, .iter 10)], [(10, .iter s1 (pos1 + widthAt s1 pos1)), (37, .cells [.row 38])], [(38, ⟨35, (.pair (.int .i32) (.pair (.int .i64) (.pair (.int .i64) (.pair .bool .unit)))), t2⟩)]⟩) (orc := []) (ob := []) (by kernel_rfl) trivial ?_
      refine N_then ?_
      refine W_seq ?_
      refine W_region ?_
      obtain ⟨v1, e2, h⟩ := bind_some h
      refine WL_all hE [0, 1, 4, 5, 6, 10] [6, 10, 37] [38] (st' := ⟨[(0, SS s1), (1, .clos 37 [37]), (4, I64 (pos1 : Int)), (5, I32 (runeAt s1 pos1)), (6, .ptr 6 0), (10, .iter 10)], [(6, .cells [I32 (runeAt s1 pos1), I64 (pos1 : Int), I64 v1, BB false]), (10, .iter s1 (pos1 + widthAt s1 pos1)), (37, .cells [.row 38])], [(38, ⟨35, (.pair (.int .i32) (.pair (.int .i64) (.pair (.int .i64) (.pair .bool .unit)))), t2⟩)]⟩) (orc := [tI64 v1]) (ob := [unicode_utf8_RuneLen k (runeAt s1 pos1) = some v1]) (by kernel_rfl) ⟨e2, trivial⟩ ?_
      refine N_then ?_
      refine W_join (α := (Int × Bool)) (fun z => runes_each_i1_j1 k s1 pos1 t2 (runes_each_i1_l1 k s1 fuel1) z.1 z.2 = some y0) (fun z => ⟨[(0, SS s1), (1, .clos 37 [37]), (6, .ptr 6 0), (10, .iter 10)], [(6, .cells [I32 (runeAt s1 pos1), I64 (pos1 : Int), I64 (z.1), BB (z.2)]), (10, .iter s1 (pos1 + widthAt s1 pos1)), (37, .cells [.row 38])], [(38, ⟨35, (.pair (.int .i32) (.pair (.int .i64) (.pair (.int .i64) (.pair .bool .unit)))), t2⟩)]⟩) ?_ (fun hJ1 => ?_)
      · rintro ⟨p1, p2⟩ h
        unfold runes_each_i1_j1 at h
        refine W_seq ?_
        refine W_region ?_
        refine WL_tk hE 2 [0, 1, 10, 33, 34] [10, 37] [38] (st' := ⟨[(0, SS s1), (1, .clos 37 [37]), (10, .iter 10), (33, .clos 37 [37]), (34, .val (.pair (.int .i32) (.pair (.int .i64) (.pair (.int .i64) (.pair .bool .unit)))) (runeAt s1 pos1, (pos1 : Int), p1, p2, ()))], [(10, .iter s1 (pos1 + widthAt s1 pos1)), (37, .cells [.row 38])], [(38, ⟨35, (.pair (.int .i32) (.pair (.int .i64) (.pair (.int .i64) (.pair .bool .unit)))), t2⟩)]⟩) (orc := []) (ob := []) (by kernel_rfl) trivial ?_
        obtain ⟨v2, e3, h⟩ := bind_some h
        refine WL_callB hE (b_runes_Pieces_c1_i1 k) ((runeAt s1 pos1, (pos1 : Int), p1, p2, ()), t2) v2 e3 (ρ := [(37, 8), (38, 9)]) (ρ' := [(8, 37), (9, 38)]) (n := 8) (by kernel_rfl) [0, 1, 10, 35] [10, 37] [38] (by kernel_rfl) (by kernel_rfl) (st' := ⟨[(0, SS s1), (1, .clos 37 [37]), (10, .iter 10), (35, BB v2.1)], [(10, .iter s1 (pos1 + widthAt s1 pos1)), (37, .cells [.row 38])], [(38, ⟨35, (.pair (.int .i32) (.pair (.int .i64) (.pair (.int .i64) (.pair .bool .unit)))), v2.2⟩)]⟩) (by kernel_rfl) ?_
        refine WL_all hE [0, 1, 10, 36] [10, 37] [38] (st' := ⟨[(0, SS s1), (1, .clos 37 [37]), (10, .iter 10), (36, BB (!v2.1))], [(10, .iter s1 (pos1 + widthAt s1 pos1)), (37, .cells [.row 38])], [(38, ⟨35, (.pair (.int .i32) (.pair (.int .i64) (.pair (.int .i64) (.pair .bool .unit)))), v2.2⟩)]⟩) (orc := []) (ob := []) (by kernel_rfl) trivial ?_
        refine N_then ?_
        refine W_cond (b := !v2.1) (by kernel_rfl) (fun e4 => ?_) (fun e4 => ?_)
        · replace h := ite_t e4 h
          refine W_ret ?_
          refine N_block_ret ?_
          refine N_then_ret ?_
          refine N_block_ret ?_
          replace h := Option.some.inj h
          subst h
          refine N.norm (st' := ⟨[(1, .clos 37 [37])], [(37, .cells [.row 38])], [(38, ⟨35, (.pair (.int .i32) (.pair (.int .i64) (.pair (.int .i64) (.pair .bool .unit)))), v2.2⟩)]⟩) (ks := [1]) (bs := [37]) (rs := [38]) ?_ (by kernel_rfl)
          exact N_endB hE.P [37] [38] (.inl rfl) (by kernel_rfl) (by kernel_rfl)
        · replace h := ite_f e4 h
          refine W_skip ?_
          refine N_block ?_
          refine N.norm (st' := ⟨[(0, SS s1), (1, .clos 37 [37]), (10, .iter 10)], [(10, .iter s1 (pos1 + widthAt s1 pos1)), (37, .cells [.row 38])], [(38, ⟨35, (.pair (.int .i32) (.pair (.int .i64) (.pair (.int .i64) (.pair .bool .unit)))), v2.2⟩)]⟩) (ks := [0, 1, 10]) (bs := [10, 37]) (rs := [38]) ?_ (by kernel_rfl)
          exact N_round ((pos1 + widthAt s1 pos1), v2.2) (Nat.lt_succ_self _) h
      refine W_seq ?_
      refine W_region ?_
      refine WL_all hE [0, 1, 4, 6, 10, 21] [6, 10, 37] [38] (st' := ⟨[(0, SS s1), (1, .clos 37 [37]), (4, I64 (pos1 : Int)), (6, .ptr 6 0), (10, .iter 10), (21, BB ((runeAt s1 pos1) == (65533 : Int)))], [(6, .cells [I32 (runeAt s1 pos1), I64 (pos1 : Int), I64 v1, BB false]), (10, .iter s1 (pos1 + widthAt s1 pos1)), (37, .cells [.row 38])], [(38, ⟨35, (.pair (.int .i32) (.pair (.int .i64) (.pair (.int .i64) (.pair .bool .unit)))), t2⟩)]⟩) (orc := []) (ob := []) (by kernel_rfl) trivial ?_
      refine N_then ?_
      refine W_cond (b := (runeAt s1 pos1) == (65533 : Int)) (by kernel_rfl) (fun e5 => ?_) (fun e5 => ?_)
      · replace h := ite_t e5 h
        refine W_seq ?_
        refine W_region ?_
        obtain ⟨s2, e6, h⟩ := bind_some h
        obtain ⟨v3, e7, h⟩ := bind_some h
        refine WL_all hE [0, 1, 6, 8, 10] [6, 10, 37] [38] (st' := ⟨[(0, SS s1), (1, .clos 37 [37]), (6, .ptr 6 0), (8, I64 v3.2), (10, .iter 10)], [(6, .cells [I32 (runeAt s1 pos1), I64 (pos1 : Int), I64 v1, BB false]), (10, .iter s1 (pos1 + widthAt s1 pos1)), (37, .cells [.row 38])], [(38, ⟨35, (.pair (.int .i32) (.pair (.int .i64) (.pair (.int .i64) (.pair .bool .unit)))), t2⟩)]⟩) (orc := [tS s2, tI32 v3.1, tI64 v3.2]) (ob := [sub? s1 (pos1 : Int) (s1.length : Int) = some s2, utf8_DecodeRuneInString k s2 = some ((v3).1, (v3).2)]) (by kernel_rfl) ⟨e6, e7, trivial⟩ ?_
        refine N_then ?_
        refine W_seq ?_
        refine W_region ?_
        refine WL_all hE [0, 1, 6, 10, 30] [6, 10, 37] [38] (st' := ⟨[(0, SS s1), (1, .clos 37 [37]), (6, .ptr 6 0), (10, .iter 10), (30, BB (v3.2 == (1 : Int)))], [(6, .cells [I32 (runeAt s1 pos1), I64 (pos1 : Int), I64 v1, BB false]), (10, .iter s1 (pos1 + widthAt s1 pos1)), (37, .cells [.row 38])], [(38, ⟨35, (.pair (.int .i32) (.pair (.int .i64) (.pair (.int .i64) (.pair .bool .unit)))), t2⟩)]⟩) (orc := []) (ob := []) (by kernel_rfl) trivial ?_
        refine N_then ?_
        refine W_cond (b := v3.2 == (1 : Int)) (by kernel_rfl) (fun e8 => ?_) (fun e8 => ?_)
        · replace h := ite_t e8 h
          refine W_region ?_
          refine WL_all hE [0, 1, 6, 10] [6, 10, 37] [38] (st' := ⟨[(0, SS s1), (1, .clos 37 [37]), (6, .ptr 6 0), (10, .iter 10)], [(6, .cells [I32 (runeAt s1 pos1), I64 (pos1 : Int), I64 (1 : Int), BB true]), (10, .iter s1 (pos1 + widthAt s1 pos1)), (37, .cells [.row 38])], [(38, ⟨35, (.pair (.int .i32) (.pair (.int .i64) (.pair (.int .i64) (.pair .bool .unit)))), t2⟩)]⟩) (orc := []) (ob := []) (by kernel_rfl) trivial ?_
          exact hJ1 ((1 : Int), true) h
        · replace h := ite_f e8 h
          refine W_skip ?_
          refine N.norm (st' := ⟨[(0, SS s1), (1, .clos 37 [37]), (6, .ptr 6 0), (10, .iter 10)], [(6, .cells [I32 (runeAt s1 pos1), I64 (pos1 : Int), I64 v1, BB false]), (10, .iter s1 (pos1 + widthAt s1 pos1)), (37, .cells [.row 38])], [(38, ⟨35, (.pair (.int .i32) (.pair (.int .i64) (.pair (.int .i64) (.pair .bool .unit)))), t2⟩)]⟩) (ks := [0, 1, 6, 10]) (bs := [6, 10, 37]) (rs := [38]) ?_ (by kernel_rfl)
          exact hJ1 (v1, false) h
      · replace h := ite_f e5 h
        refine W_skip ?_
        refine N.norm (st' := ⟨[(0, SS s1), (1, .clos 37 [37]), (6, .ptr 6 0), (10, .iter 10)], [(6, .cells [I32 (runeAt s1 pos1), I64 (pos1 : Int), I64 v1, BB false]), (10, .iter s1 (pos1 + widthAt s1 pos1)), (37, .cells [.row 38])], [(38, ⟨35, (.pair (.int .i32) (.pair (.int .i64) (.pair (.int .i64) (.pair .bool .unit)))), t2⟩)]⟩) (ks := [0, 1, 6, 10]) (bs := [6, 10, 37]) (rs := [38]) ?_ (by kernel_rfl)
        exact hJ1 (v1, false) h
    · replace h := ite_f e1 h
      refine WL_tk hE 1 [0, 1, 10, 11] [10, 37] [38] (st' := ⟨[(0, SS s1), (1, .clos 37 [37]), (10, .iter 10), (11, .tup [tB false])], [(10, .iter s1 pos1), (37, .cells [.row 38])], [(38, ⟨35, (.pair (.int .i32) (.pair (.int .i64) (.pair (.int .i64) (.pair .bool .unit)))), t2⟩)]⟩) (orc := [tB false]) (ob := [List.length s1 ≤ pos1]) (by kernel_rfl) ⟨Nat.le_of_not_lt (of_decide_eq_false e1), trivial⟩ ?_
      refine WL_all hE [0, 1, 10, 11, 12] [10, 37] [38] (st' := ⟨[(0, SS s1), (1, .clos 37 [37]), (10, .iter 10), (11, .tup [tB false]), (12, BB false)], [(10, .iter s1 pos1), (37, .cells [.row 38])], [(38, ⟨35, (.pair (.int .i32) (.pair (.int .i64) (.pair (.int .i64) (.pair .bool .unit)))), t2⟩)]⟩) (orc := []) (ob := []) (by kernel_rfl) trivial ?_
      refine N_then ?_
      refine W_seq ?_
      refine W_cond_false (by kernel_rfl) ?_
      refine W_exit ?_
      refine N_then_exit ?_
      refine N_then_exit ?_
      refine N_block_exit ?_
      replace h := Option.some.inj h
      subst h
      refine N.norm (st' := ⟨[(1, .clos 37 [37])], [(37, .cells [.row 38])], [(38, ⟨35, (.pair (.int .i32) (.pair (.int .i64) (.pair (.int .i64) (.pair .bool .unit)))), t2⟩)]⟩) (ks := [1]) (bs := [37]) (rs := [38]) ?_ (by kernel_rfl)
      exact N_endB hE.P [37] [38] (.inr rfl) (by kernel_rfl) (by kernel_rfl)

def B_runes_Pieces_i1 (k : Nat) : FnB (List UInt8) (Int × List ((Int × Int × Int × Bool × Unit))) where
  n := 15
  S := fun z => ⟨[(0, SS (z))], [], []⟩
  S' := fun z y => ⟨[], [], [(3500001, ⟨35, (.pair (.int .i32) (.pair (.int .i64) (.pair (.int .i64) (.pair .bool .unit)))), (y.2)⟩)]⟩
  rs := fun z y => [.row 3500001, I64 (y.1)]
  rel := fun z y => runes_Pieces_i1 k (z) = some y
noncomputable def E_runes_Pieces_i1 (k : Nat) : Env := ⟨Tryd.prog, Gl, 15, [(35, C_runes_long k)]⟩
theorem b_runes_Pieces_i1 (k : Nat) : BC Tryd.prog Gl 13 (B_runes_Pieces_i1 k) := by
  refine bc_of (fn := Tryd.f13) Tryd.func13 (by kernel_rfl) rfl Tryd.ntmps13 ?_
  rintro cx hP hn hG s1 y0 h
  have hE : EnvOK (E_runes_Pieces_i1 k) cx := (EnvOK.cons (c_runes_long k) (EnvOK.nil hP hn hG))
  replace h : runes_Pieces_i1 k s1 = some y0 := h
  unfold runes_Pieces_i1 at h
  refine W_seq ?_
  refine W_region ?_
  refine WL_all hE [0] [] [] (st' := ⟨[(0, SS s1)], [], []⟩) (orc := []) (ob := []) (by kernel_rfl) trivial ?_
  refine N_then ?_
  refine W_seq ?_
  refine W_seq ?_
  refine W_region ?_
  obtain ⟨v1, e1, h⟩ := bind_some h
  refine WL_all hE [0, 4] [] [] (st' := ⟨[(0, SS s1), (4, I64 v1)], [], []⟩) (orc := [tI64 v1]) (ob := [runes_long k s1 = some v1]) (by kernel_rfl) ⟨e1, trivial⟩ ?_
  refine N_then ?_
  refine W_seq ?_
  refine W_region ?_
  refine WL_all hE [0, 4, 9] [] [] (st' := ⟨[(0, SS s1), (4, I64 v1), (9, BB (v1 != (0 : Int)))], [], []⟩) (orc := []) (ob := []) (by kernel_rfl) trivial ?_
  refine N_then ?_
  refine W_cond (b := v1 != (0 : Int)) (by kernel_rfl) (fun e2 => ?_) (fun e2 => ?_)
  · replace h := ite_t e2 h
    refine W_seq ?_
    refine W_region ?_
    refine WL_all hE [2, 3] [] [2] (st' := ⟨[(2, .row 2), (3, I64 v1)], [], [(2, ⟨35, (.pair (.int .i32) (.pair (.int .i64) (.pair (.int .i64) (.pair .bool .unit)))), ([] : List ((Int × Int × Int × Bool × Unit)))⟩)]⟩) (orc := []) (ob := []) (by kernel_rfl) trivial ?_
    refine N_then ?_
    refine W_ret ?_
    refine N_then_ret ?_
    replace h := Option.some.inj h
    subst h
    refine N.norm (st' := ⟨[(2, .row 2), (3, I64 v1)], [], [(2, ⟨35, (.pair (.int .i32) (.pair (.int .i64) (.pair (.int .i64) (.pair .bool .unit)))), ([] : List ((Int × Int × Int × Bool × Unit)))⟩)]⟩) (ks := [2, 3]) (bs := []) (rs := [2]) ?_ (by kernel_rfl)
    refine N.ren [(2, 3500001)] (st' := ⟨[(2, .row 3500001), (3, I64 v1)], [], [(3500001, ⟨35, (.pair (.int .i32) (.pair (.int .i64) (.pair (.int .i64) (.pair .bool .unit)))), ([] : List ((Int × Int × Int × Bool × Unit)))⟩)]⟩) (by kernel_rfl) ?_
    exact N_endB hE.P [] [3500001] (.inl rfl) (by kernel_rfl) (by kernel_rfl)
  · replace h := ite_f e2 h
    refine W_skip ?_
    refine N_then ?_
    refine W_seq ?_
    refine W_region ?_
    refine WL_all hE [0, 5] [5] [1000005] (st' := ⟨[(0, SS s1), (5, .ptr 5 0)], [(5, .cells [.row 1000005])], [(1000005, ⟨35, (.pair (.int .i32) (.pair (.int .i64) (.pair (.int .i64) (.pair .bool .unit)))), ([] : List ((Int × Int × Int × Bool × Unit)))⟩)]⟩) (orc := []) (ob := []) (by kernel_rfl) trivial ?_
    refine N_then ?_
    refine W_seq ?_
    refine W_region ?_
    refine WL_tk hE 2 [5, 11, 12] [5] [1000005] (st' := ⟨[(5, .ptr 5 0), (11, SS s1), (12, .clos 37 [5])], [(5, .cells [.row 1000005])], [(1000005, ⟨35, (.pair (.int .i32) (.pair (.int .i64) (.pair (.int .i64) (.pair .bool .unit)))), ([] : List ((Int × Int × Int × Bool × Unit)))⟩)]⟩) (orc := []) (ob := []) (by kernel_rfl) trivial ?_
    obtain ⟨v2, e3, h⟩ := bind_some h
    refine WL_callB hE (b_runes_each_i1 k) (s1, ([] : List ((Int × Int × Int × Bool × Unit)))) v2 e3 (ρ := [(5, 37), (1000005, 38)]) (ρ' := [(37, 5), (38, 1000005)]) (n := 37) (by kernel_rfl) [5] [5] [1000005] (by kernel_rfl) (by kernel_rfl) (st' := ⟨[(5, .ptr 5 0)], [(5, .cells [.row 1000005])], [(1000005, ⟨35, (.pair (.int .i32) (.pair (.int .i64) (.pair (.int .i64) (.pair .bool .unit)))), v2⟩)]⟩) (by kernel_rfl) ?_
    refine WL_nil ?_
    refine N_then ?_
    refine W_seq ?_
    refine W_region ?_
    refine WL_all hE [2, 3] [] [1000005] (st' := ⟨[(2, .row 1000005), (3, I64 (0 : Int))], [], [(1000005, ⟨35, (.pair (.int .i32) (.pair (.int .i64) (.pair (.int .i64) (.pair .bool .unit)))), v2⟩)]⟩) (orc := []) (ob := []) (by kernel_rfl) trivial ?_
    refine N_then ?_
    refine W_ret ?_
    replace h := Option.some.inj h
    subst h
    refine N.norm (st' := ⟨[(2, .row 1000005), (3, I64 (0 : Int))], [], [(1000005, ⟨35, (.pair (.int .i32) (.pair (.int .i64) (.pair (.int .i64) (.pair .bool .unit)))), v2⟩)]⟩) (ks := [2, 3]) (bs := []) (rs := [1000005]) ?_ (by kernel_rfl)
    refine N.ren [(1000005, 3500001)] (st' := ⟨[(2, .row 3500001), (3, I64 (0 : Int))], [], [(3500001, ⟨35, (.pair (.int .i32) (.pair (.int .i64) (.pair (.int .i64) (.pair .bool .unit)))), v2⟩)]⟩) (by kernel_rfl) ?_
    exact N_endB hE.P [] [3500001] (.inl rfl) (by kernel_rfl) (by kernel_rfl)

def C_r01_Pieces (k : Nat) : FnC := ⟨false, 2, [], fun | [⟨.str, s1⟩], [⟨(.sl (.pair (.int .i32) (.pair (.int .i64) (.pair (.int .i64) (.pair .bool .unit))))), r1⟩, ⟨(.int .i64), r2⟩] => r01_Pieces k s1 = some (r1, r2) | _, _ => False⟩
noncomputable def E_r01_Pieces (k : Nat) : Env := ⟨Tryd.prog, Gl, 9, [(33, C_r01_All k)]⟩
theorem c_r01_Pieces (k : Nat) : Contract Tryd.prog Gl 14 (C_r01_Pieces k) := by
  refine contract_of Gl_stable (fn := Tryd.f14) Tryd.func14 (by kernel_rfl) rfl ?_ ?_
  · intro xs rs h
    unfold C_r01_Pieces at h
    simp only at h
    split at h
    · exact ⟨by show 1 ≤ _; rw [Tryd.ntmps14]; decide, rfl, fun hf => by cases hf⟩
    · exact h.elim
  · intro w0 M xs rs hG h
    unfold C_r01_Pieces at h
    simp only at h
    split at h
    case h_2 => exact h.elim
    rename_i s1 r1 r2
    change List UInt8 at s1
    change List ((Int × Int × Int × Bool × Unit)) at r1
    change Int at r2
    have hE : EnvOK (E_r01_Pieces k) ⟨Tryd.prog, Tryd.f14.ntmps, w0, M, fun _ => False, fun _ => undef⟩ := (EnvOK.cons (c_r01_All k) (EnvOK.nil rfl Tryd.ntmps14 hG))
    unfold r01_Pieces at h
    refine W_seq ?_
    refine W_region ?_
    refine WL_all hE [0] [] [] (st' := ⟨[(0, SS s1)], [], []⟩) (orc := []) (ob := []) (by kernel_rfl) trivial ?_
    refine N_then ?_
    refine W_seq ?_
    refine W_seq ?_
    refine W_region ?_
    refine WL_all hE [0, 6] [] [] (st' := ⟨[(0, SS s1), (6, BB (decide ((65536 : Int) < (List.length s1 : Int))))], [], []⟩) (orc := []) (ob := []) (by kernel_rfl) trivial ?_
    refine N_then ?_
    refine W_cond (b := decide ((65536 : Int) < (List.length s1 : Int))) (by kernel_rfl) (fun e1 => ?_) (fun e1 => ?_)
    · replace h := ite_t e1 h
      refine W_seq ?_
      refine W_region ?_
      refine WL_all hE [2, 3] [] [2] (st' := ⟨[(2, .row 2), (3, I64 (3 : Int))], [], [(2, ⟨35, (.pair (.int .i32) (.pair (.int .i64) (.pair (.int .i64) (.pair .bool .unit)))), ([] : List ((Int × Int × Int × Bool × Unit)))⟩)]⟩) (orc := []) (ob := []) (by kernel_rfl) trivial ?_
      refine N_then ?_
      refine W_ret ?_
      refine N_then_ret ?_
      cases h
      exact N_end (.inl rfl) (by kernel_rfl)
    · replace h := ite_f e1 h
      refine W_skip ?_
      refine N_then ?_
      refine W_seq ?_
      refine W_region ?_
      obtain ⟨v1, e2, h⟩ := bind_some h
      refine WL_all hE [2, 3] [] [] (st' := ⟨[(2, .val (.sl (.pair (.int .i32) (.pair (.int .i64) (.pair (.int .i64) (.pair .bool .unit))))) v1), (3, I64 (0 : Int))], [], []⟩) (orc := [⟨(.sl (.pair (.int .i32) (.pair (.int .i64) (.pair (.int .i64) (.pair .bool .unit))))), v1⟩]) (ob := [r01_All k s1 = some v1]) (by kernel_rfl) ⟨e2, trivial⟩ ?_
      refine N_then ?_
      refine W_ret ?_
      cases h
      exact N_end (.inl rfl) (by kernel_rfl)

def C_unicode_utf8_RuneCountInString (k : Nat) : FnC := ⟨true, 1, [], fun | [⟨.str, s1⟩], [⟨(.int .i64), r⟩] => unicode_utf8_RuneCountInString k s1 = some r | _, _ => False⟩
noncomputable def E_unicode_utf8_RuneCountInString (k : Nat) : Env := ⟨Tryd.prog, Gl, 10, []⟩
theorem c_unicode_utf8_RuneCountInString (k : Nat) : Contract Tryd.prog Gl 38 (C_unicode_utf8_RuneCountInString k) := by
  refine contract_of Gl_stable (fn := Tryd.f38) Tryd.func38 (by kernel_rfl) rfl ?_ ?_
  · intro xs rs h
    unfold C_unicode_utf8_RuneCountInString at h
    simp only at h
    split at h
    · exact ⟨by show 1 ≤ _; rw [Tryd.ntmps38]; decide, rfl, fun _ u hu => by simp at hu; (rcases hu with rfl) <;> rfl⟩
    · exact h.elim
  · intro w0 M xs rs hG h
    unfold C_unicode_utf8_RuneCountInString at h
    simp only at h
    split at h
    case h_2 => exact h.elim
    rename_i s1 r
    change List UInt8 at s1
    change Int at r
    have hE : EnvOK (E_unicode_utf8_RuneCountInString k) ⟨Tryd.prog, Tryd.f38.ntmps, w0, M, fun _ => False, fun _ => undef⟩ := (EnvOK.nil rfl Tryd.ntmps38 hG)
    unfold unicode_utf8_RuneCountInString at h
    refine W_seq ?_
    refine W_region ?_
    refine WL_all hE [0, 2] [] [] (st' := ⟨[(0, SS s1), (2, I64 (0 : Int))], [], []⟩) (orc := []) (ob := []) (by kernel_rfl) trivial ?_
    refine N_then ?_
    refine W_seq ?_
    refine W_seq ?_
    refine W_region ?_
    refine WL_all hE [2, 4] [4] [] (st' := ⟨[(2, I64 (0 : Int)), (4, .iter 4)], [(4, .iter s1 0)], []⟩) (orc := []) (ob := []) (by kernel_rfl) trivial ?_
    refine N_then ?_
    refine W_block ?_
    refine W_loop (α := (Int × Nat)) (fun n z => unicode_utf8_RuneCountInString_l1 s1 n z.1 z.2 = some r) (fun z => ⟨[(2, I64 (z.1)), (4, .iter 4)], [(4, .iter s1 (z.2))], []⟩) ?_ (k := k) (x := ((0 : Int), 0)) h
    clear h
    rintro fuel1 ⟨n1, pos1⟩ h
    cases fuel1 with
    | zero => exact absurd (show none = some _ from h) (by simp)
    | succ fuel1 =>
      have h : unicode_utf8_RuneCountInString_b1 s1 (unicode_utf8_RuneCountInString_l1 s1 fuel1) n1 pos1 = some r := h
      unfold unicode_utf8_RuneCountInString_b1 at h
      refine W_seq ?_
      refine W_region ?_
      rcases Bool.eq_false_or_eq_true (decide (pos1 < List.length s1)) with e1 | e1
      · replace h := ite_t e1 h
        refine WL_tk hE 1 [2, 4, 5] [4] [] (st' := ⟨[(2, I64 n1), (4, .iter 4), (5, .tup [tB true, tI64 (pos1 : Int), tI32 (runeAt s1 pos1)])], [(4, .iter s1 (pos1 + widthAt s1 pos1))], []⟩) (orc := [tB true]) (ob := [pos1 < List.length s1]) (by kernel_rfl) ⟨of_decide_eq_true e1, trivial⟩ ?_
        refine WL_all hE [2, 4, 6] [4] [] (st' := ⟨[(2, I64 n1), (4, .iter 4), (6, BB true)], [(4, .iter s1 (pos1 + widthAt s1 pos1))], []⟩) (orc := []) (ob := []) (by kernel_rfl) trivial ?_
        refine N_then ?_
        refine W_seq ?_
        refine W_cond_true (by kernel_rfl) ?_
        refine W_skip ?_
        refine N_then ?_
        refine W_block ?_
        refine W_region ?_
        refine WL_all hE [2, 4] [4] [] (st' := ⟨[(2, I64 (wi64 (n1 + (1 : Int)))), (4, .iter 4)], [(4, .iter s1 (pos1 + widthAt s1 pos1))], []⟩) (orc := []) (ob := []) (by kernel_rfl) trivial ?_
        refine N_block ?_
        exact N_round (wi64 (n1 + (1 : Int)), (pos1 + widthAt s1 pos1)) (Nat.lt_succ_self _) h
      · replace h := ite_f e1 h
        refine WL_tk hE 1 [2, 4, 5] [4] [] (st' := ⟨[(2, I64 n1), (4, .iter 4), (5, .tup [tB false])], [(4, .iter s1 pos1)], []⟩) (orc := [tB false]) (ob := [List.length s1 ≤ pos1]) (by kernel_rfl) ⟨Nat.le_of_not_lt (of_decide_eq_false e1), trivial⟩ ?_
        refine WL_all hE [2, 4, 6] [4] [] (st' := ⟨[(2, I64 n1), (4, .iter 4), (6, BB false)], [(4, .iter s1 pos1)], []⟩) (orc := []) (ob := []) (by kernel_rfl) trivial ?_
        refine N_then ?_
        refine W_seq ?_
        refine W_cond_false (by kernel_rfl) ?_
        refine W_exit ?_
        refine N_then_exit ?_
        refine N_then_exit ?_
        refine N_block_exit ?_
        refine N_then ?_
        refine W_seq ?_
        refine W_region ?_
        refine WL_all hE [2] [] [] (st' := ⟨[(2, I64 n1)], [], []⟩) (orc := []) (ob := []) (by kernel_rfl) trivial ?_
        refine N_then ?_
        refine W_ret ?_
        cases h
        exact N_end (.inl rfl) (by kernel_rfl)

def C_runes_Len (k : Nat) : FnC := ⟨true, 2, [], fun | [⟨.str, s1⟩], [⟨(.int .i64), r1⟩, ⟨(.int .i64), r2⟩] => runes_Len k s1 = some (r1, r2) | _, _ => False⟩
noncomputable def E_runes_Len (k : Nat) : Env := ⟨Tryd.prog, Gl, 12, [(35, C_runes_long k), (38, C_unicode_utf8_RuneCountInString k)]⟩
theorem c_runes_Len (k : Nat) : Contract Tryd.prog Gl 15 (C_runes_Len k) := by
  refine contract_of Gl_stable (fn := Tryd.f15) Tryd.func15 (by kernel_rfl) rfl ?_ ?_
  · intro xs rs h
    unfold C_runes_Len at h
    simp only at h
    split at h
    · exact ⟨by show 1 ≤ _; rw [Tryd.ntmps15]; decide, rfl, fun _ u hu => by simp at hu; (rcases hu with rfl | rfl) <;> rfl⟩
    · exact h.elim
  · intro w0 M xs rs hG h
    unfold C_runes_Len at h
    simp only at h
    split at h
    case h_2 => exact h.elim
    rename_i s1 r1 r2
    change List UInt8 at s1
    change Int at r1
    change Int at r2
    have hE : EnvOK (E_runes_Len k) ⟨Tryd.prog, Tryd.f15.ntmps, w0, M, fun _ => False, fun _ => undef⟩ := (EnvOK.cons (c_runes_long k) (EnvOK.cons (c_unicode_utf8_RuneCountInString k) (EnvOK.nil rfl Tryd.ntmps15 hG)))
    unfold runes_Len at h
    refine W_seq ?_
    refine W_region ?_
    refine WL_all hE [0] [] [] (st' := ⟨[(0, SS s1)], [], []⟩) (orc := []) (ob := []) (by kernel_rfl) trivial ?_
    refine N_then ?_
    refine W_seq ?_
    refine W_seq ?_
    refine W_region ?_
    obtain ⟨v1, e1, h⟩ := bind_some h
    refine WL_all hE [0, 4] [] [] (st' := ⟨[(0, SS s1), (4, I64 v1)], [], []⟩) (orc := [tI64 v1]) (ob := [runes_long k s1 = some v1]) (by kernel_rfl) ⟨e1, trivial⟩ ?_
    refine N_then ?_
    refine W_seq ?_
    refine W_region ?_
    refine WL_all hE [0, 4, 8] [] [] (st' := ⟨[(0, SS s1), (4, I64 v1), (8, BB (v1 != (0 : Int)))], [], []⟩) (orc := []) (ob := []) (by kernel_rfl) trivial ?_
    refine N_then ?_
    refine W_cond (b := v1 != (0 : Int)) (by kernel_rfl) (fun e2 => ?_) (fun e2 => ?_)
    · replace h := ite_t e2 h
      refine W_seq ?_
      refine W_region ?_
      refine WL_all hE [2, 3] [] [] (st' := ⟨[(2, I64 (0 : Int)), (3, I64 v1)], [], []⟩) (orc := []) (ob := []) (by kernel_rfl) trivial ?_
      refine N_then ?_
      refine W_ret ?_
      refine N_then_ret ?_
      cases h
      exact N_end (.inl rfl) (by kernel_rfl)
    · replace h := ite_f e2 h
      refine W_skip ?_
      refine N_then ?_
      refine W_seq ?_
      refine W_region ?_
      obtain ⟨v2, e3, h⟩ := bind_some h
      refine WL_all hE [2, 3] [] [] (st' := ⟨[(2, I64 v2), (3, I64 (0 : Int))], [], []⟩) (orc := [tI64 v2]) (ob := [unicode_utf8_RuneCountInString k s1 = some v2]) (by kernel_rfl) ⟨e3, trivial⟩ ?_
      refine N_then ?_
      refine W_ret ?_
      cases h
      exact N_end (.inl rfl) (by kernel_rfl)

def C_r01_Len (k : Nat) : FnC := ⟨true, 2, [], fun | [⟨.str, s1⟩], [⟨(.int .i64), r1⟩, ⟨(.int .i64), r2⟩] => r01_Len k s1 = some (r1, r2) | _, _ => False⟩
noncomputable def E_r01_Len (k : Nat) : Env := ⟨Tryd.prog, Gl, 14, [(14, C_r01_Pieces k)]⟩
theorem c_r01_Len (k : Nat) : Contract Tryd.prog Gl 16 (C_r01_Len k) := by
  refine contract_of Gl_stable (fn := Tryd.f16) Tryd.func16 (by kernel_rfl) rfl ?_ ?_
  · intro xs rs h
    unfold C_r01_Len at h
    simp only at h
    split at h
    · exact ⟨by show 1 ≤ _; rw [Tryd.ntmps16]; decide, rfl, fun _ u hu => by simp at hu; (rcases hu with rfl | rfl) <;> rfl⟩
    · exact h.elim
  · intro w0 M xs rs hG h
    unfold C_r01_Len at h
    simp only at h
    split at h
    case h_2 => exact h.elim
    rename_i s1 r1 r2
    change List UInt8 at s1
    change Int at r1
    change Int at r2
    have hE : EnvOK (E_r01_Len k) ⟨Tryd.prog, Tryd.f16.ntmps, w0, M, fun _ => False, fun _ => undef⟩ := (EnvOK.cons (c_r01_Pieces k) (EnvOK.nil rfl Tryd.ntmps16 hG))
    unfold r01_Len at h
    refine W_seq ?_
    refine W_region ?_
    refine WL_all hE [0] [] [] (st' := ⟨[(0, SS s1)], [], []⟩) (orc := []) (ob := []) (by kernel_rfl) trivial ?_
    refine N_then ?_
    refine W_seq ?_
    refine W_region ?_
    obtain ⟨v1, e1, h⟩ := bind_some h
    refine WL_all hE [4, 5] [] [] (st' := ⟨[(4, .val (.sl (.pair (.int .i32) (.pair (.int .i64) (.pair (.int .i64) (.pair .bool .unit))))) v1.1), (5, I64 v1.2)], [], []⟩) (orc := [⟨(.sl (.pair (.int .i32) (.pair (.int .i64) (.pair (.int .i64) (.pair .bool .unit))))), v1.1⟩, tI64 v1.2]) (ob := [r01_Pieces k s1 = some ((v1).1, (v1).2)]) (by kernel_rfl) ⟨e1, trivial⟩ ?_
    refine N_then ?_
    refine W_seq ?_
    refine W_region ?_
    refine WL_all hE [2, 3] [] [] (st' := ⟨[(2, I64 (List.length v1.1 : Int)), (3, I64 v1.2)], [], []⟩) (orc := []) (ob := []) (by kernel_rfl) trivial ?_
    refine N_then ?_
    refine W_ret ?_
    cases h
    exact N_end (.inl rfl) (by kernel_rfl)

def B_runes_Broken_c1_i1 (k : Nat) : FnB ((Int × Int × Int × Bool × Unit) × Int) (Bool × Int) where
  n := 10
  S := fun z => ⟨[(0, .val (.pair (.int .i32) (.pair (.int .i64) (.pair (.int .i64) (.pair .bool .unit)))) (z.1)), (1, .ptr 10 0)], [(10, .cells [I64 (z.2)])], []⟩
  S' := fun z y => ⟨[], [(10, .cells [I64 (y.2)])], []⟩
  rs := fun z y => [BB (y.1)]
  rel := fun z y => runes_Broken_c1_i1 k (z.1) (z.2) = some y
noncomputable def E_runes_Broken_c1_i1 (k : Nat) : Env := ⟨Tryd.prog, Gl, 10, []⟩
theorem b_runes_Broken_c1_i1 (k : Nat) : BC Tryd.prog Gl 39 (B_runes_Broken_c1_i1 k) := by
  refine bc_of (fn := Tryd.f39) Tryd.func39 (by kernel_rfl) rfl Tryd.ntmps39 ?_
  rintro cx hP hn hG ⟨p1, c1⟩ y0 h
  have hE : EnvOK (E_runes_Broken_c1_i1 k) cx := (EnvOK.nil hP hn hG)
  replace h : runes_Broken_c1_i1 k p1 c1 = some y0 := h
  unfold runes_Broken_c1_i1 at h
  refine W_seq ?_
  refine W_region ?_
  refine WL_all hE [1, 2] [2, 10] [] (st' := ⟨[(1, .ptr 10 0), (2, .ptr 2 0)], [(2, .cells [I32 p1.1, I64 p1.2.1, I64 p1.2.2.1, BB p1.2.2.2.1]), (10, .cells [I64 c1])], []⟩) (orc := []) (ob := []) (by kernel_rfl) trivial ?_
  refine N_then ?_
  refine W_join (α := Int) (fun z => runes_Broken_c1_i1_j1 z = some y0) (fun t2 => ⟨[(1, .ptr 10 0)], [(10, .cells [I64 t2])], []⟩) ?_ (fun hJ1 => ?_)
  · rintro t2 h
    unfold runes_Broken_c1_i1_j1 at h
    refine W_seq ?_
    refine W_region ?_
    refine WL_all hE [1, 3] [10] [] (st' := ⟨[(1, .ptr 10 0), (3, BB (decide (t2 < (0 : Int))))], [(10, .cells [I64 t2])], []⟩) (orc := []) (ob := []) (by kernel_rfl) trivial ?_
    refine N_then ?_
    refine W_ret ?_
    replace h := Option.some.inj h
    subst h
    exact N_endB hE.P [10] [] (.inl rfl) (by kernel_rfl) (by kernel_rfl)
  refine W_seq ?_
  refine W_region ?_
  refine WL_all hE [1, 2, 5] [2, 10] [] (st' := ⟨[(1, .ptr 10 0), (2, .ptr 2 0), (5, BB p1.2.2.2.1)], [(2, .cells [I32 p1.1, I64 p1.2.1, I64 p1.2.2.1, BB p1.2.2.2.1]), (10, .cells [I64 c1])], []⟩) (orc := []) (ob := []) (by kernel_rfl) trivial ?_
  refine N_then ?_
  refine W_cond (b := p1.2.2.2.1) (by kernel_rfl) (fun e1 => ?_) (fun e1 => ?_)
  · replace h := ite_t e1 h
    refine W_region ?_
    refine WL_all hE [1] [10] [] (st' := ⟨[(1, .ptr 10 0)], [(10, .cells [I64 p1.2.1])], []⟩) (orc := []) (ob := []) (by kernel_rfl) trivial ?_
    exact hJ1 p1.2.1 h
  · replace h := ite_f e1 h
    refine W_skip ?_
    refine N.norm (st' := ⟨[(1, .ptr 10 0)], [(10, .cells [I64 c1])], []⟩) (ks := [1]) (bs := [10]) (rs := []) ?_ (by kernel_rfl)
    exact hJ1 c1 h

def B_runes_each_i2 (k : Nat) : FnB (List UInt8 × Int) Int where
  n := 37
  S := fun z => ⟨[(0, SS (z.1)), (1, .clos 39 [37])], [(37, .cells [I64 (z.2)])], []⟩
  S' := fun z y => ⟨[], [(37, .cells [I64 (y)])], []⟩
  rs := fun z y => []
  rel := fun z y => runes_each_i2 k (z.1) (z.2) = some y
noncomputable def E_runes_each_i2 (k : Nat) : Env := ⟨Tryd.prog, Gl, 37, [(52, C_unicode_utf8_RuneLen k), (25, C_unicode_utf8_DecodeRuneInString k)]⟩
theorem b_runes_each_i2 (k : Nat) : BC Tryd.prog Gl 36 (B_runes_each_i2 k) := by
  refine bc_of (fn := Tryd.f36) Tryd.func36 (by kernel_rfl) rfl Tryd.ntmps36 ?_
  rintro cx hP hn hG ⟨s1, c1⟩ y0 h
  have hE : EnvOK (E_runes_each_i2 k) cx := (EnvOK.cons (c_unicode_utf8_RuneLen k) (EnvOK.cons (c_unicode_utf8_DecodeRuneInString k) (EnvOK.nil hP hn hG)))
  replace h : runes_each_i2 k s1 c1 = some y0 := h
  unfold runes_each_i2 at h
  refine W_seq ?_
  refine W_region ?_
  refine WL_all hE [0, 1, 10] [10, 37] [] (st' := ⟨[(0, SS s1), (1, .clos 39 [37]), (10, .iter 10)], [(10, .iter s1 0), (37, .cells [I64 c1])], []⟩) (orc := []) (ob := []) (by kernel_rfl) trivial ?_
  refine N_then ?_
  refine W_block ?_
  refine W_loop (α := (Nat × Int)) (fun n z => runes_each_i2_l1 k s1 n z.1 z.2 = some y0) (fun z => ⟨[(0, SS s1), (1, .clos 39 [37]), (10, .iter 10)], [(10, .iter s1 (z.1)), (37, .cells [I64 (z.2)])], []⟩) ?_ (k := k) (x := (0, c1)) h
  clear h
  rintro fuel1 ⟨pos1, t2⟩ h
  cases fuel1 with
  | zero => exact absurd (show none = some _ from h) (by simp)
  | succ fuel1 =>
    have h : runes_each_i2_b1 k s1 (runes_each_i2_l1 k s1 fuel1) pos1 t2 = some y0 := h
    unfold runes_each_i2_b1 at h
    refine W_seq ?_
    refine W_region ?_
    rcases Bool.eq_false_or_eq_true (decide (pos1 < List.length s1)) with e1 | e1
    · replace h := ite_t e1 h
      refine WL_tk hE 1 [0, 1, 10, 11] [10, 37] [] (st' := ⟨[(0, SS s1), (1, .clos 39 [37]), (10, .iter 10), (11, .tup [tB true, tI64 (pos1 : Int), tI32 (runeAt s1 pos1)])], [(10, .iter s1 (pos1 + widthAt s1 pos1)), (37, .cells [I64 t2])], []⟩) (orc := [tB true]) (ob := [pos1 < List.length s1]) (by kernel_rfl) ⟨of_decide_eq_true e1, trivial⟩ ?_
      refine WL_all hE [0, 1, 10, 11, 12] [10, 37] [] (st' := ⟨[(0, SS s1), (1, .clos 39 [37]), (10, .iter 10), (11, .tup [tB true, tI64 (pos1 : Int), tI32 (runeAt s1 pos1)]), (12, BB true)], [(10, .iter s1 (pos1 + widthAt s1 pos1)), (37, .cells [I64 t2])], []⟩) (orc := []) (ob := []) (by kernel_rfl) trivial ?_
      refine N_then ?_
      refine W_seq ?_
      refine W_cond_true (by kernel_rfl) ?_
      refine W_skip ?_
      refine N_then ?_
      refine W_block ?_
      refine W_seq ?_
      refine W_region ?_
      refine WL_all hE [0, 1, 4, 5, 10] [10, 37] [] (st' := ⟨[(0, SS s1), (1, .clos 39 [37]), (4, I64 (pos1 : Int)), (5, I32 (runeAt s1 pos1)), (10, .iter 10)], [(10, .iter s1 (pos1 + widthAt s1 pos1)), (37, .cells [I64 t2])], []⟩) (orc := []) (ob := []) (by kernel_rfl) trivial ?_
      refine N_then ?_
      refine W_seq ?_
      refine W_region ?_
      obtain ⟨v1, e2, h⟩ := bind_some h
      refine WL_all hE [0, 1, 4, 5, 6, 10] [6, 10, 37] [] (st' := ⟨[(0, SS s1), (1, .clos 39 [37]), (4, I64 (pos1 : Int)), (5, I32 (runeAt s1 pos1)), (6, .ptr 6 0), (10, .iter 10)], [(6, .cells [I32 (runeAt s1 pos1), I64 (pos1 : Int), I64 v1, BB false]), (10, .iter s1 (pos1 + widthAt s1 pos1)), (37, .cells [I64 t2])], []⟩) (orc := [tI64 v1]) (ob := [unicode_utf8_RuneLen k (runeAt s1 pos1) = some v1]) (by kernel_rfl) ⟨e2, trivial⟩ ?_
      refine N_then ?_
      refine W_join (α := (Int × Bool)) (fun z => runes_each_i2_j1 k s1 pos1 t2 (runes_each_i2_l1 k s1 fuel1) z.1 z.2 = some y0) (fun z => ⟨[(0, SS s1), (1, .clos 39 [37]), (6, .ptr 6 0), (10, .iter 10)], [(6, .cells [I32 (runeAt s1 pos1), I64 (pos1 : Int), I64 (z.1), BB (z.2)]), (10, .iter s1 (pos1 + widthAt s1 pos1)), (37, .cells [I64 t2])], []⟩) ?_ (fun hJ1 => ?_)
      · rintro ⟨p1, p2⟩ h
        unfold runes_each_i2_j1 at h
        refine W_seq ?_
        refine W_region ?_
        refine WL_tk hE 2 [0, 1, 10, 33, 34] [10, 37] [] (st' := ⟨[(0, SS s1), (1, .clos 39 [37]), (10, .iter 10), (33, .clos 39 [37]), (34, .val (.pair (.int .i32) (.pair (.int .i64) (.pair (.int .i64) (.pair .bool .unit)))) (runeAt s1 pos1, (pos1 : Int), p1, p2, ()))], [(10, .iter s1 (pos1 + widthAt s1 pos1)), (37, .cells [I64 t2])], []⟩) (orc := []) (ob := []) (by kernel_rfl) trivial ?_
        obtain ⟨v2, e3, h⟩ := bind_some h
        refine WL_callB hE (b_runes_Broken_c1_i1 k) ((runeAt s1 pos1, (pos1 : Int), p1, p2, ()), t2) v2 e3 (ρ := [(37, 10)]) (ρ' := [(10, 37)]) (n := 10) (by kernel_rfl) [0, 1, 10, 35] [10, 37] [] (by kernel_rfl) (by kernel_rfl) (st' := ⟨[(0, SS s1), (1, .clos 39 [37]), (10, .iter 10), (35, BB v2.1)], [(10, .iter s1 (pos1 + widthAt s1 pos1)), (37, .cells [I64 v2.2])], []⟩) (by kernel_rfl) ?_
        refine WL_all hE [0, 1, 10, 36] [10, 37] [] (st' := ⟨[(0, SS s1), (1, .clos 39 [37]), (10, .iter 10), (36, BB (!v2.1))], [(10, .iter s1 (pos1 + widthAt s1 pos1)), (37, .cells [I64 v2.2])], []⟩) (orc := []) (ob := []) (by kernel_rfl) trivial ?_
        refine N_then ?_
        refine W_cond (b := !v2.1) (by kernel_rfl) (fun e4 => ?_) (fun e4 => ?_)
        · replace h := ite_t e4 h
          refine W_ret ?_
          refine N_block_ret ?_
          refine N_then_ret ?_
          refine N_block_ret ?_
          replace h := Option.some.inj h
          subst h
          refine N.norm (st' := ⟨[(1, .clos 39 [37])], [(37, .cells [I64 v2.2])], []⟩) (ks := [1]) (bs := [37]) (rs := []) ?_ (by kernel_rfl)
          exact N_endB hE.P [37] [] (.inl rfl) (by kernel_rfl) (by kernel_rfl)
        · replace h := ite_f e4 h
          refine W_skip ?_
          refine N_block ?_
          refine N.norm (st' := ⟨[(0, SS s1), (1, .clos 39 [37]), (10, .iter 10)], [(10, .iter s1 (pos1 + widthAt s1 pos1)), (37, .cells [I64 v2.2])], []⟩) (ks := [0, 1, 10]) (bs := [10, 37]) (rs := []) ?_ (by kernel_rfl)
          exact N_round ((pos1 + widthAt s1 pos1), v2.2) (Nat.lt_succ_self _) h
      refine W_seq ?_
      refine W_region ?_
      refine WL_all hE [0, 1, 4, 6, 10, 21] [6, 10, 37] [] (st' := ⟨[(0, SS s1), (1, .clos 39 [37]), (4, I64 (pos1 : Int)), (6, .ptr 6 0), (10, .iter 10), (21, BB ((runeAt s1 pos1) == (65533 : Int)))], [(6, .cells [I32 (runeAt s1 pos1), I64 (pos1 : Int), I64 v1, BB false]), (10, .iter s1 (pos1 + widthAt s1 pos1)), (37, .cells [I64 t2])], []⟩) (orc := []) (ob := []) (by kernel_rfl) trivial ?_
      refine N_then ?_
      refine W_cond (b := (runeAt s1 pos1) == (65533 : Int)) (by kernel_rfl) (fun e5 => ?_) (fun e5 => ?_)
      · replace h := ite_t e5 h
        refine W_seq ?_
        refine W_region ?_
        obtain ⟨s2, e6, h⟩ := bind_some h
        obtain ⟨v3, e7, h⟩ := bind_some h
        refine WL_all hE [0, 1, 6, 8, 10] [6, 10, 37] [] (st' := ⟨[(0, SS s1), (1, .clos 39 [37]), (6, .ptr 6 0), (8, I64 v3.2), (10, .iter 10)], [(6, .cells [I32 (runeAt s1 pos1), I64 (pos1 : Int), I64 v1, BB false]), (10, .iter s1 (pos1 + widthAt s1 pos1)), (37, .cells [I64 t2])], []⟩) (orc := [tS s2, tI32 v3.1, tI64 v3.2]) (ob := [sub? s1 (pos1 : Int) (s1.length : Int) = some s2, utf8_DecodeRuneInString k s2 = some ((v3).1, (v3).2)]) (by kernel_rfl) ⟨e6, e7, trivial⟩ ?_
        refine N_then ?_
        refine W_seq ?_
        refine W_region ?_
        refine WL_all hE [0, 1, 6, 10, 30] [6, 10, 37] [] (st' := ⟨[(0, SS s1), (1, .clos 39 [37]), (6, .ptr 6 0), (10, .iter 10), (30, BB (v3.2 == (1 : Int)))], [(6, .cells [I32 (runeAt s1 pos1), I64 (pos1 : Int), I64 v1, BB false]), (10, .iter s1 (pos1 + widthAt s1 pos1)), (37, .cells [I64 t2])], []⟩) (orc := []) (ob := []) (by kernel_rfl) trivial ?_
        refine N_then ?_
        refine W_cond (b := v3.2 == (1 : Int)) (by kernel_rfl) (fun e8 => ?_) (fun e8 => ?_)
        · replace h := ite_t e8 h
          refine W_region ?_
          refine WL_all hE [0, 1, 6, 10] [6, 10, 37] [] (st' := ⟨[(0, SS s1), (1, .clos 39 [37]), (6, .ptr 6 0), (10, .iter 10)], [(6, .cells [I32 (runeAt s1 pos1), I64 (pos1 : Int), I64 (1 : Int), BB true]), (10, .iter s1 (pos1 + widthAt s1 pos1)), (37, .cells [I64 t2])], []⟩) (orc := []) (ob := []) (by kernel_rfl) trivial ?_
          exact hJ1 ((1 : Int), true) h
        · replace h := ite_f e8 h
          refine W_skip ?_
          refine N.norm (st' := ⟨[(0, SS s1), (1, .clos 39 [37]), (6, .ptr 6 0), (10, .iter 10)], [(6, .cells [I32 (runeAt s1 pos1), I64 (pos1 : Int), I64 v1, BB false]), (10, .iter s1 (pos1 + widthAt s1 pos1)), (37, .cells [I64 t2])], []⟩) (ks := [0, 1, 6, 10]) (bs := [6, 10, 37]) (rs := []) ?_ (by kernel_rfl)
          exact hJ1 (v1, false) h
      · replace h := ite_f e5 h
        refine W_skip ?_
        refine N.norm (st' := ⟨[(0, SS s1), (1, .clos 39 [37]), (6, .ptr 6 0), (10, .iter 10)], [(6, .cells [I32 (runeAt s1 pos1), I64 (pos1 : Int), I64 v1, BB false]), (10, .iter s1 (pos1 + widthAt s1 pos1)), (37, .cells [I64 t2])], []⟩) (ks := [0, 1, 6, 10]) (bs := [6, 10, 37]) (rs := []) ?_ (by kernel_rfl)
        exact hJ1 (v1, false) h
    · replace h := ite_f e1 h
      refine WL_tk hE 1 [0, 1, 10, 11] [10, 37] [] (st' := ⟨[(0, SS s1), (1, .clos 39 [37]), (10, .iter 10), (11, .tup [tB false])], [(10, .iter s1 pos1), (37, .cells [I64 t2])], []⟩) (orc := [tB false]) (ob := [List.length s1 ≤ pos1]) (by kernel_rfl) ⟨Nat.le_of_not_lt (of_decide_eq_false e1), trivial⟩ ?_
      refine WL_all hE [0, 1, 10, 11, 12] [10, 37] [] (st' := ⟨[(0, SS s1), (1, .clos 39 [37]), (10, .iter 10), (11, .tup [tB false]), (12, BB false)], [(10, .iter s1 pos1), (37, .cells [I64 t2])], []⟩) (orc := []) (ob := []) (by kernel_rfl) trivial ?_
      refine N_then ?_
      refine W_seq ?_
      refine W_cond_false (by kernel_rfl) ?_
      refine W_exit ?_
      refine N_then_exit ?_
      refine N_then_exit ?_
      refine N_block_exit ?_
      replace h := Option.some.inj h
      subst h
      refine N.norm (st' := ⟨[(1, .clos 39 [37])], [(37, .cells [I64 t2])], []⟩) (ks := [1]) (bs := [37]) (rs := []) ?_ (by kernel_rfl)
      exact N_endB hE.P [37] [] (.inr rfl) (by kernel_rfl) (by kernel_rfl)

def C_runes_Broken (k : Nat) : FnC := ⟨true, 2, [], fun | [⟨.str, s1⟩], [⟨(.int .i64), r1⟩, ⟨(.int .i64), r2⟩] => runes_Broken k s1 = some (r1, r2) | _, _ => False⟩
noncomputable def E_runes_Broken (k : Nat) : Env := ⟨Tryd.prog, Gl, 15, [(35, C_runes_long k)]⟩
theorem c_runes_Broken (k : Nat) : Contract Tryd.prog Gl 17 (C_runes_Broken k) := by
  refine contract_of Gl_stable (fn := Tryd.f17) Tryd.func17 (by kernel_rfl) rfl ?_ ?_
  · intro xs rs h
    unfold C_runes_Broken at h
    simp only at h
    split at h
    · exact ⟨by show 1 ≤ _; rw [Tryd.ntmps17]; decide, rfl, fun _ u hu => by simp at hu; (rcases hu with rfl | rfl) <;> rfl⟩
    · exact h.elim
  · intro w0 M xs rs hG h
    unfold C_runes_Broken at h
    simp only at h
    split at h
    case h_2 => exact h.elim
    rename_i s1 r1 r2
    change List UInt8 at s1
    change Int at r1
    change Int at r2
    have hE : EnvOK (E_runes_Broken k) ⟨Tryd.prog, Tryd.f17.ntmps, w0, M, fun _ => False, fun _ => undef⟩ := (EnvOK.cons (c_runes_long k) (EnvOK.nil rfl Tryd.ntmps17 hG))
    unfold runes_Broken at h
    refine W_seq ?_
    refine W_region ?_
    refine WL_all hE [0] [] [] (st' := ⟨[(0, SS s1)], [], []⟩) (orc := []) (ob := []) (by kernel_rfl) trivial ?_
    refine N_then ?_
    refine W_seq ?_
    refine W_seq ?_
    refine W_region ?_
    obtain ⟨v1, e1, h⟩ := bind_some h
    refine WL_all hE [0, 4] [] [] (st' := ⟨[(0, SS s1), (4, I64 v1)], [], []⟩) (orc := [tI64 v1]) (ob := [runes_long k s1 = some v1]) (by kernel_rfl) ⟨e1, trivial⟩ ?_
    refine N_then ?_
    refine W_seq ?_
    refine W_region ?_
    refine WL_all hE [0, 4, 9] [] [] (st' := ⟨[(0, SS s1), (4, I64 v1), (9, BB (v1 != (0 : Int)))], [], []⟩) (orc := []) (ob := []) (by kernel_rfl) trivial ?_
    refine N_then ?_
    refine W_cond (b := v1 != (0 : Int)) (by kernel_rfl) (fun e2 => ?_) (fun e2 => ?_)
    · replace h := ite_t e2 h
      refine W_seq ?_
      refine W_region ?_
      refine WL_all hE [2, 3] [] [] (st' := ⟨[(2, I64 (0 : Int)), (3, I64 v1)], [], []⟩) (orc := []) (ob := []) (by kernel_rfl) trivial ?_
      refine N_then ?_
      refine W_ret ?_
      refine N_then_ret ?_
      cases h
      exact N_end (.inl rfl) (by kernel_rfl)
    · replace h := ite_f e2 h
      refine W_skip ?_
      refine N_then ?_
      refine W_seq ?_
      refine W_region ?_
      refine WL_all hE [0, 5] [5] [] (st' := ⟨[(0, SS s1), (5, .ptr 5 0)], [(5, .cells [I64 (-1 : Int)])], []⟩) (orc := []) (ob := []) (by kernel_rfl) trivial ?_
      refine N_then ?_
      refine W_seq ?_
      refine W_region ?_
      refine WL_tk hE 2 [5, 11, 12] [5] [] (st' := ⟨[(5, .ptr 5 0), (11, SS s1), (12, .clos 39 [5])], [(5, .cells [I64 (-1 : Int)])], []⟩) (orc := []) (ob := []) (by kernel_rfl) trivial ?_
      obtain ⟨v2, e3, h⟩ := bind_some h
      refine WL_callB hE (b_runes_each_i2 k) (s1, (-1 : Int)) v2 e3 (ρ := [(5, 37)]) (ρ' := [(37, 5)]) (n := 37) (by kernel_rfl) [5] [5] [] (by kernel_rfl) (by kernel_rfl) (st' := ⟨[(5, .ptr 5 0)], [(5, .cells [I64 v2])], []⟩) (by kernel_rfl) ?_
      refine WL_nil ?_
      refine N_then ?_
      refine W_seq ?_
      refine W_region ?_
      refine WL_all hE [2, 3] [] [] (st' := ⟨[(2, I64 v2), (3, I64 (0 : Int))], [], []⟩) (orc := []) (ob := []) (by kernel_rfl) trivial ?_
      refine N_then ?_
      refine W_ret ?_
      cases h
      exact N_end (.inl rfl) (by kernel_rfl)

def C_r01_Broken (k : Nat) : FnC := ⟨true, 2, [], fun | [⟨.str, s1⟩], [⟨(.int .i64), r1⟩, ⟨(.int .i64), r2⟩] => r01_Broken k s1 = some (r1, r2) | _, _ => False⟩
noncomputable def E_r01_Broken (k : Nat) : Env := ⟨Tryd.prog, Gl, 31, [(14, C_r01_Pieces k)]⟩
theorem c_r01_Broken (k : Nat) : Contract Tryd.prog Gl 18 (C_r01_Broken k) := by
  refine contract_of Gl_stable (fn := Tryd.f18) Tryd.func18 (by kernel_rfl) rfl ?_ ?_
  · intro xs rs h
    unfold C_r01_Broken at h
    simp only at h
    split at h
    · exact ⟨by show 1 ≤ _; rw [Tryd.ntmps18]; decide, rfl, fun _ u hu => by simp at hu; (rcases hu with rfl | rfl) <;> rfl⟩
    · exact h.elim
  · intro w0 M xs rs hG h
    unfold C_r01_Broken at h
    simp only at h
    split at h
    case h_2 => exact h.elim
    rename_i s1 r1 r2
    change List UInt8 at s1
    change Int at r1
    change Int at r2
    have hE : EnvOK (E_r01_Broken k) ⟨Tryd.prog, Tryd.f18.ntmps, w0, M, fun _ => False, fun _ => undef⟩ := (EnvOK.cons (c_r01_Pieces k) (EnvOK.nil rfl Tryd.ntmps18 hG))
    unfold r01_Broken at h
    refine W_seq ?_
    refine W_region ?_
    refine WL_all hE [0] [] [] (st' := ⟨[(0, SS s1)], [], []⟩) (orc := []) (ob := []) (by kernel_rfl) trivial ?_
    refine N_then ?_
    refine W_seq ?_
    refine W_region ?_
    obtain ⟨v1, e1, h⟩ := bind_some h
    refine WL_all hE [4, 5] [] [] (st' := ⟨[(4, .val (.sl (.pair (.int .i32) (.pair (.int .i64) (.pair (.int .i64) (.pair .bool .unit))))) v1.1), (5, I64 v1.2)], [], []⟩) (orc := [⟨(.sl (.pair (.int .i32) (.pair (.int .i64) (.pair (.int .i64) (.pair .bool .unit))))), v1.1⟩, tI64 v1.2]) (ob := [r01_Pieces k s1 = some ((v1).1, (v1).2)]) (by kernel_rfl) ⟨e1, trivial⟩ ?_
    refine N_then ?_
    refine W_seq ?_
    refine W_seq ?_
    refine W_region ?_
    refine WL_all hE [4, 5, 13] [] [] (st' := ⟨[(4, .val (.sl (.pair (.int .i32) (.pair (.int .i64) (.pair (.int .i64) (.pair .bool .unit))))) v1.1), (5, I64 v1.2), (13, BB (v1.2 != (0 : Int)))], [], []⟩) (orc := []) (ob := []) (by kernel_rfl) trivial ?_
    refine N_then ?_
    refine W_cond (b := v1.2 != (0 : Int)) (by kernel_rfl) (fun e2 => ?_) (fun e2 => ?_)
    · replace h := ite_t e2 h
      refine W_seq ?_
      refine W_region ?_
      refine WL_all hE [2, 3] [] [] (st' := ⟨[(2, I64 (0 : Int)), (3, I64 v1.2)], [], []⟩) (orc := []) (ob := []) (by kernel_rfl) trivial ?_
      refine N_then ?_
      refine W_ret ?_
      refine N_then_ret ?_
      cases h
      exact N_end (.inl rfl) (by kernel_rfl)
    · replace h := ite_f e2 h
      refine W_skip ?_
      refine N_then ?_
      refine W_seq ?_
      refine W_seq ?_
      refine W_region ?_
      refine WL_all hE [4, 6] [] [] (st' := ⟨[(4, .val (.sl (.pair (.int .i32) (.pair (.int .i64) (.pair (.int .i64) (.pair .bool .unit))))) v1.1), (6, I64 (0 : Int))], [], []⟩) (orc := []) (ob := []) (by kernel_rfl) trivial ?_
      refine N_then ?_
      refine W_block ?_
      refine W_loop (α := Int) (fun n z => r01_Broken_l1 v1 n z = some (r1, r2)) (fun i1 => ⟨[(4, .val (.sl (.pair (.int .i32) (.pair (.int .i64) (.pair (.int .i64) (.pair .bool .unit))))) v1.1), (6, I64 i1)], [], []⟩) ?_ (k := k) (x := (0 : Int)) h
      clear h
      rintro fuel1 i1 h
      cases fuel1 with
      | zero => exact absurd (show none = some _ from h) (by simp)
      | succ fuel1 =>
        have h : r01_Broken_b1 v1 (r01_Broken_l1 v1 fuel1) i1 = some (r1, r2) := h
        unfold r01_Broken_b1 at h
        refine W_seq ?_
        refine W_seq ?_
        refine W_region ?_
        refine WL_all hE [4, 6, 18] [] [] (st' := ⟨[(4, .val (.sl (.pair (.int .i32) (.pair (.int .i64) (.pair (.int .i64) (.pair .bool .unit))))) v1.1), (6, I64 i1), (18, BB (decide (i1 < (List.length v1.1 : Int))))], [], []⟩) (orc := []) (ob := []) (by kernel_rfl) trivial ?_
        refine N_then ?_
        refine W_cond (b := decide (i1 < (List.length v1.1 : Int))) (by kernel_rfl) (fun e3 => ?_) (fun e3 => ?_)
        · replace h := ite_t e3 h
          refine W_skip ?_
          refine N_then ?_
          refine W_seq ?_
          refine W_block ?_
          refine W_seq ?_
          refine W_region ?_
          obtain ⟨x1, e4, h⟩ := bind_some h
          refine WL_all hE [4, 6, 25] [] [] (st' := ⟨[(4, .val (.sl (.pair (.int .i32) (.pair (.int .i64) (.pair (.int .i64) (.pair .bool .unit))))) v1.1), (6, I64 i1), (25, BB x1.2.2.2.1)], [], []⟩) (orc := [⟨(.pair (.int .i32) (.pair (.int .i64) (.pair (.int .i64) (.pair .bool .unit)))), x1⟩]) (ob := [at? v1.1 i1 = some x1]) (by kernel_rfl) ⟨e4, trivial⟩ ?_
          refine N_then ?_
          refine W_cond (b := x1.2.2.2.1) (by kernel_rfl) (fun e5 => ?_) (fun e5 => ?_)
          · replace h := ite_t e5 h
            refine W_seq ?_
            refine W_region ?_
            refine WL_all hE [2, 3] [] [] (st' := ⟨[(2, I64 x1.2.1), (3, I64 (0 : Int))], [], []⟩) (orc := [⟨(.pair (.int .i32) (.pair (.int .i64) (.pair (.int .i64) (.pair .bool .unit)))), x1⟩]) (ob := [at? v1.1 i1 = some x1]) (by kernel_rfl) ⟨e4, trivial⟩ ?_
            refine N_then ?_
            refine W_ret ?_
            refine N_block_ret ?_
            refine N_then_ret ?_
            refine N_then_ret ?_
            refine N_block_ret ?_
            refine N_then_ret ?_
            cases h
            exact N_end (.inl rfl) (by kernel_rfl)
          · replace h := ite_f e5 h
            refine W_skip ?_
            refine N_block ?_
            refine N_then ?_
            refine W_region ?_
            refine WL_all hE [4, 6] [] [] (st' := ⟨[(4, .val (.sl (.pair (.int .i32) (.pair (.int .i64) (.pair (.int .i64) (.pair .bool .unit))))) v1.1), (6, I64 (wi64 (i1 + (1 : Int))))], [], []⟩) (orc := []) (ob := []) (by kernel_rfl) trivial ?_
            exact N_round (wi64 (i1 + (1 : Int))) (Nat.lt_succ_self _) h
        · replace h := ite_f e3 h
          refine W_exit ?_
          refine N_then_exit ?_
          refine N_then_exit ?_
          refine N_block_exit ?_
          refine N_then ?_
          refine W_seq ?_
          refine W_region ?_
          refine WL_all hE [2, 3] [] [] (st' := ⟨[(2, I64 (-1 : Int)), (3, I64 (0 : Int))], [], []⟩) (orc := []) (ob := []) (by kernel_rfl) trivial ?_
          refine N_then ?_
          refine W_ret ?_
          cases h
          exact N_end (.inl rfl) (by kernel_rfl)

def C_runes_Pieces (k : Nat) : FnC := ⟨false, 2, [], fun | [⟨.str, s1⟩], [⟨(.sl (.pair (.int .i32) (.pair (.int .i64) (.pair (.int .i64) (.pair .bool .unit))))), r1⟩, ⟨(.int .i64), r2⟩] => runes_Pieces k s1 = some (r1, r2) | _, _ => False⟩
noncomputable def E_runes_Pieces (k : Nat) : Env := ⟨Tryd.prog, Gl, 15, [(35, C_runes_long k)]⟩
theorem c_runes_Pieces (k : Nat) : Contract Tryd.prog Gl 13 (C_runes_Pieces k) := by
  refine contract_of Gl_stable (fn := Tryd.f13) Tryd.func13 (by kernel_rfl) rfl ?_ ?_
  · intro xs rs h
    unfold C_runes_Pieces at h
    simp only at h
    split at h
    · exact ⟨by show 1 ≤ _; rw [Tryd.ntmps13]; decide, rfl, fun hf => by cases hf⟩
    · exact h.elim
  · intro w0 M xs rs hG h
    unfold C_runes_Pieces at h
    simp only at h
    split at h
    case h_2 => exact h.elim
    rename_i s1 r1 r2
    change List UInt8 at s1
    change List ((Int × Int × Int × Bool × Unit)) at r1
    change Int at r2
    have hE : EnvOK (E_runes_Pieces k) ⟨Tryd.prog, Tryd.f13.ntmps, w0, M, fun _ => False, fun _ => undef⟩ := (EnvOK.cons (c_runes_long k) (EnvOK.nil rfl Tryd.ntmps13 hG))
    unfold runes_Pieces at h
    refine W_seq ?_
    refine W_region ?_
    refine WL_all hE [0] [] [] (st' := ⟨[(0, SS s1)], [], []⟩) (orc := []) (ob := []) (by kernel_rfl) trivial ?_
    refine N_then ?_
    refine W_seq ?_
    refine W_seq ?_
    refine W_region ?_
    obtain ⟨v1, e1, h⟩ := bind_some h
    refine WL_all hE [0, 4] [] [] (st' := ⟨[(0, SS s1), (4, I64 v1)], [], []⟩) (orc := [tI64 v1]) (ob := [runes_long k s1 = some v1]) (by kernel_rfl) ⟨e1, trivial⟩ ?_
    refine N_then ?_
    refine W_seq ?_
    refine W_region ?_
    refine WL_all hE [0, 4, 9] [] [] (st' := ⟨[(0, SS s1), (4, I64 v1), (9, BB (v1 != (0 : Int)))], [], []⟩) (orc := []) (ob := []) (by kernel_rfl) trivial ?_
    refine N_then ?_
    refine W_cond (b := v1 != (0 : Int)) (by kernel_rfl) (fun e2 => ?_) (fun e2 => ?_)
    · replace h := ite_t e2 h
      refine W_seq ?_
      refine W_region ?_
      refine WL_all hE [2, 3] [] [2] (st' := ⟨[(2, .row 2), (3, I64 v1)], [], [(2, ⟨35, (.pair (.int .i32) (.pair (.int .i64) (.pair (.int .i64) (.pair .bool .unit)))), ([] : List ((Int × Int × Int × Bool × Unit)))⟩)]⟩) (orc := []) (ob := []) (by kernel_rfl) trivial ?_
      refine N_then ?_
      refine W_ret ?_
      refine N_then_ret ?_
      cases h
      exact N_end (.inl rfl) (by kernel_rfl)
    · replace h := ite_f e2 h
      refine W_skip ?_
      refine N_then ?_
      refine W_seq ?_
      refine W_region ?_
      refine WL_all hE [0, 5] [5] [1000005] (st' := ⟨[(0, SS s1), (5, .ptr 5 0)], [(5, .cells [.row 1000005])], [(1000005, ⟨35, (.pair (.int .i32) (.pair (.int .i64) (.pair (.int .i64) (.pair .bool .unit)))), ([] : List ((Int × Int × Int × Bool × Unit)))⟩)]⟩) (orc := []) (ob := []) (by kernel_rfl) trivial ?_
      refine N_then ?_
      refine W_seq ?_
      refine W_region ?_
      refine WL_tk hE 2 [5, 11, 12] [5] [1000005] (st' := ⟨[(5, .ptr 5 0), (11, SS s1), (12, .clos 37 [5])], [(5, .cells [.row 1000005])], [(1000005, ⟨35, (.pair (.int .i32) (.pair (.int .i64) (.pair (.int .i64) (.pair .bool .unit)))), ([] : List ((Int × Int × Int × Bool × Unit)))⟩)]⟩) (orc := []) (ob := []) (by kernel_rfl) trivial ?_
      obtain ⟨v2, e3, h⟩ := bind_some h
      refine WL_callB hE (b_runes_each_i1 k) (s1, ([] : List ((Int × Int × Int × Bool × Unit)))) v2 e3 (ρ := [(5, 37), (1000005, 38)]) (ρ' := [(37, 5), (38, 1000005)]) (n := 37) (by kernel_rfl) [5] [5] [1000005] (by kernel_rfl) (by kernel_rfl) (st' := ⟨[(5, .ptr 5 0)], [(5, .cells [.row 1000005])], [(1000005, ⟨35, (.pair (.int .i32) (.pair (.int .i64) (.pair (.int .i64) (.pair .bool .unit)))), v2⟩)]⟩) (by kernel_rfl) ?_
      refine WL_nil ?_
      refine N_then ?_
      refine W_seq ?_
      refine W_region ?_
      refine WL_all hE [2, 3] [] [1000005] (st' := ⟨[(2, .row 1000005), (3, I64 (0 : Int))], [], [(1000005, ⟨35, (.pair (.int .i32) (.pair (.int .i64) (.pair (.int .i64) (.pair .bool .unit)))), v2⟩)]⟩) (orc := []) (ob := []) (by kernel_rfl) trivial ?_
      refine N_then ?_
      refine W_ret ?_
      cases h
      exact N_end (.inl rfl) (by kernel_rfl)

def C_runes_Part_c1 (k : Nat) : FnC := ⟨true, 1, [(.sl (.pair (.int .i32) (.pair (.int .i64) (.pair (.int .i64) (.pair .bool .unit))))), .str], fun | [⟨(.int .i64), i1⟩, ⟨(.ptr (.sl (.pair (.int .i32) (.pair (.int .i64) (.pair (.int .i64) (.pair .bool .unit)))))), t1⟩, ⟨(.ptr .str), t2⟩], [⟨(.int .i64), r⟩] => runes_Part_c1 k i1 t1 t2 = some r | _, _ => False⟩
noncomputable def E_runes_Part_c1 (k : Nat) : Env := ⟨Tryd.prog, Gl, 16, []⟩
theorem c_runes_Part_c1 (k : Nat) : Contract Tryd.prog Gl 40 (C_runes_Part_c1 k) := by
  refine contract_of Gl_stable (fn := Tryd.f40) Tryd.func40 (by kernel_rfl) rfl ?_ ?_
  · intro xs rs h
    unfold C_runes_Part_c1 at h
    simp only at h
    split at h
    · exact ⟨by show 3 ≤ _; rw [Tryd.ntmps40]; decide, rfl, fun _ u hu => by simp at hu; (rcases hu with rfl) <;> rfl⟩
    · exact h.elim
  · intro w0 M xs rs hG h
    unfold C_runes_Part_c1 at h
    simp only at h
    split at h
    case h_2 => exact h.elim
    rename_i i1 t1 t2 r
    change Int at i1
    change List ((Int × Int × Int × Bool × Unit)) at t1
    change List UInt8 at t2
    change Int at r
    have hE : EnvOK (E_runes_Part_c1 k) ⟨Tryd.prog, Tryd.f40.ntmps, w0, M, fun _ => False, fun _ => undef⟩ := (EnvOK.nil rfl Tryd.ntmps40 hG)
    unfold runes_Part_c1 at h
    refine W_seq ?_
    refine W_region ?_
    refine WL_all hE [0, 1, 2] [] [] (st' := ⟨[(0, I64 i1), (1, .vptr (.sl (.pair (.int .i32) (.pair (.int .i64) (.pair (.int .i64) (.pair .bool .unit))))) t1), (2, .vptr .str t2)], [], []⟩) (orc := []) (ob := []) (by kernel_rfl) trivial ?_
    refine N_then ?_
    refine W_seq ?_
    refine W_seq ?_
    refine W_region ?_
    refine WL_all hE [0, 1, 2, 8] [] [] (st' := ⟨[(0, I64 i1), (1, .vptr (.sl (.pair (.int .i32) (.pair (.int .i64) (.pair (.int .i64) (.pair .bool .unit))))) t1), (2, .vptr .str t2), (8, BB (i1 == (List.length t1 : Int)))], [], []⟩) (orc := []) (ob := []) (by kernel_rfl) trivial ?_
    refine N_then ?_
    refine W_cond (b := i1 == (List.length t1 : Int)) (by kernel_rfl) (fun e1 => ?_) (fun e1 => ?_)
    · replace h := ite_t e1 h
      refine W_seq ?_
      refine W_region ?_
      refine WL_all hE [4] [] [] (st' := ⟨[(4, I64 (List.length t2 : Int))], [], []⟩) (orc := []) (ob := []) (by kernel_rfl) trivial ?_
      refine N_then ?_
      refine W_ret ?_
      refine N_then_ret ?_
      cases h
      exact N_end (.inl rfl) (by kernel_rfl)
    · replace h := ite_f e1 h
      refine W_skip ?_
      refine N_then ?_
      refine W_seq ?_
      refine W_region ?_
      obtain ⟨x1, e2, h⟩ := bind_some h
      refine WL_all hE [4] [] [] (st' := ⟨[(4, I64 x1.2.1)], [], []⟩) (orc := [⟨(.pair (.int .i32) (.pair (.int .i64) (.pair (.int .i64) (.pair .bool .unit)))), x1⟩]) (ob := [at? t1 i1 = some x1]) (by kernel_rfl) ⟨e2, trivial⟩ ?_
      refine N_then ?_
      refine W_ret ?_
      cases h
      exact N_end (.inl rfl) (by kernel_rfl)

def C_runes_Part (k : Nat) : FnC := ⟨true, 2, [], fun | [⟨.str, s1⟩, ⟨(.int .i64), from1⟩, ⟨(.int .i64), to1⟩], [⟨.str, r1⟩, ⟨(.int .i64), r2⟩] => runes_Part k s1 from1 to1 = some (r1, r2) | _, _ => False⟩
noncomputable def E_runes_Part (k : Nat) : Env := ⟨Tryd.prog, Gl, 41, [(13, C_runes_Pieces k), (40, C_runes_Part_c1 k)]⟩
theorem c_runes_Part (k : Nat) : Contract Tryd.prog Gl 19 (C_runes_Part k) := by
  refine contract_of Gl_stable (fn := Tryd.f19) Tryd.func19 (by kernel_rfl) rfl ?_ ?_
  · intro xs rs h
    unfold C_runes_Part at h
    simp only at h
    split at h
    · exact ⟨by show 3 ≤ _; rw [Tryd.ntmps19]; decide, rfl, fun _ u hu => by simp at hu; (rcases hu with rfl | rfl) <;> rfl⟩
    · exact h.elim
  · intro w0 M xs rs hG h
    unfold C_runes_Part at h
    simp only at h
    split at h
    case h_2 => exact h.elim
    rename_i s1 from1 to1 r1 r2
    change List UInt8 at s1
    change Int at from1
    change Int at to1
    change List UInt8 at r1
    change Int at r2
    have hE : EnvOK (E_runes_Part k) ⟨Tryd.prog, Tryd.f19.ntmps, w0, M, fun _ => False, fun _ => undef⟩ := (EnvOK.cons (c_runes_Pieces k) (EnvOK.cons (c_runes_Part_c1 k) (EnvOK.nil rfl Tryd.ntmps19 hG)))
    unfold runes_Part at h
    refine W_seq ?_
    refine W_region ?_
    refine WL_all hE [1, 2, 3] [3] [] (st' := ⟨[(1, I64 from1), (2, I64 to1), (3, .ptr 3 0)], [(3, .cells [SS s1])], []⟩) (orc := []) (ob := []) (by kernel_rfl) trivial ?_
    refine N_then ?_
    refine W_seq ?_
    refine W_region ?_
    obtain ⟨v1, e1, h⟩ := bind_some h
    refine WL_all hE [1, 2, 3, 8, 9] [3, 8] [] (st' := ⟨[(1, I64 from1), (2, I64 to1), (3, .ptr 3 0), (8, .ptr 8 0), (9, I64 v1.2)], [(3, .cells [SS s1]), (8, .cells [.val (.sl (.pair (.int .i32) (.pair (.int .i64) (.pair (.int .i64) (.pair .bool .unit))))) v1.1])], []⟩) (orc := [⟨(.sl (.pair (.int .i32) (.pair (.int .i64) (.pair (.int .i64) (.pair .bool .unit))))), v1.1⟩, tI64 v1.2]) (ob := [runes_Pieces k s1 = some ((v1).1, (v1).2)]) (by kernel_rfl) ⟨e1, trivial⟩ ?_
    refine N_then ?_
    refine W_seq ?_
    refine W_seq ?_
    refine W_region ?_
    refine WL_all hE [1, 2, 3, 8, 9, 17] [3, 8] [] (st' := ⟨[(1, I64 from1), (2, I64 to1), (3, .ptr 3 0), (8, .ptr 8 0), (9, I64 v1.2), (17, BB (v1.2 != (0 : Int)))], [(3, .cells [SS s1]), (8, .cells [.val (.sl (.pair (.int .i32) (.pair (.int .i64) (.pair (.int .i64) (.pair .bool .unit))))) v1.1])], []⟩) (orc := []) (ob := []) (by kernel_rfl) trivial ?_
    refine N_then ?_
    refine W_cond (b := v1.2 != (0 : Int)) (by kernel_rfl) (fun e2 => ?_) (fun e2 => ?_)
    · replace h := ite_t e2 h
      refine W_seq ?_
      refine W_region ?_
      refine WL_all hE [6, 7] [] [] (st' := ⟨[(6, SS ([] : List UInt8)), (7, I64 v1.2)], [], []⟩) (orc := []) (ob := []) (by kernel_rfl) trivial ?_
      refine N_then ?_
      refine W_ret ?_
      refine N_then_ret ?_
      cases h
      exact N_end (.inl rfl) (by kernel_rfl)
    · replace h := ite_f e2 h
      refine W_skip ?_
      refine N_then ?_
      refine W_seq ?_
      refine W_seq ?_
      refine W_region ?_
      refine WL_tk hE 3 [1, 2, 3, 8, 21] [3, 8] [] (st' := ⟨[(1, I64 from1), (2, I64 to1), (3, .ptr 3 0), (8, .ptr 8 0), (21, BB (decide (from1 < (0 : Int))))], [(3, .cells [SS s1]), (8, .cells [.val (.sl (.pair (.int .i32) (.pair (.int .i64) (.pair (.int .i64) (.pair .bool .unit))))) v1.1])], []⟩) (orc := []) (ob := []) (by kernel_rfl) trivial ?_
      refine WL_join (α := Bool) (fun z => runes_Part_j1 k from1 v1 s1 to1 z = some (r1, r2)) (fun t1 => ⟨[(1, I64 from1), (2, I64 to1), (3, .ptr 3 0), (8, .ptr 8 0), (25, BB t1)], [(3, .cells [SS s1]), (8, .cells [.val (.sl (.pair (.int .i32) (.pair (.int .i64) (.pair (.int .i64) (.pair .bool .unit))))) v1.1])], []⟩) 4 ?_ (fun hJ1 => ?_)
      · rintro t1 h
        unfold runes_Part_j1 at h
        refine WL_tk hE 1 [1, 2, 3, 8, 26] [3, 8] [] (st' := ⟨[(1, I64 from1), (2, I64 to1), (3, .ptr 3 0), (8, .ptr 8 0), (26, BB t1)], [(3, .cells [SS s1]), (8, .cells [.val (.sl (.pair (.int .i32) (.pair (.int .i64) (.pair (.int .i64) (.pair .bool .unit))))) v1.1])], []⟩) (orc := []) (ob := []) (by kernel_rfl) trivial ?_
        refine WL_join (α := Bool) (fun z => runes_Part_j2 k from1 v1 s1 to1 z = some (r1, r2)) (fun t2 => ⟨[(1, I64 from1), (2, I64 to1), (3, .ptr 3 0), (8, .ptr 8 0), (31, BB t2)], [(3, .cells [SS s1]), (8, .cells [.val (.sl (.pair (.int .i32) (.pair (.int .i64) (.pair (.int .i64) (.pair .bool .unit))))) v1.1])], []⟩) 5 ?_ (fun hJ2 => ?_)
        · rintro t2 h
          unfold runes_Part_j2 at h
          refine WL_nil ?_
          refine N_then ?_
          refine W_cond (b := t2) (by kernel_rfl) (fun e3 => ?_) (fun e3 => ?_)
          · replace h := ite_t e3 h
            refine W_seq ?_
            refine W_region ?_
            refine WL_all hE [6, 7] [] [] (st' := ⟨[(6, SS ([] : List UInt8)), (7, I64 (10 : Int))], [], []⟩) (orc := []) (ob := []) (by kernel_rfl) trivial ?_
            refine N_then ?_
            refine W_ret ?_
            refine N_then_ret ?_
            cases h
            exact N_end (.inl rfl) (by kernel_rfl)
          · replace h := ite_f e3 h
            refine W_skip ?_
            refine N_then ?_
            refine W_seq ?_
            refine W_region ?_
            refine WL_all hE [1, 2, 3, 10] [3, 8] [] (st' := ⟨[(1, I64 from1), (2, I64 to1), (3, .ptr 3 0), (10, .clos 40 [8, 3])], [(3, .cells [SS s1]), (8, .cells [.val (.sl (.pair (.int .i32) (.pair (.int .i64) (.pair (.int .i64) (.pair .bool .unit))))) v1.1])], []⟩) (orc := []) (ob := []) (by kernel_rfl) trivial ?_
            refine N_then ?_
            refine W_seq ?_
            refine W_draw (by kernel_rfl) (by kernel_rfl) ?_
            obtain ⟨v2, e4, h⟩ := bind_some h
            obtain ⟨v3, e5, h⟩ := bind_some h
            obtain ⟨s2, e6, h⟩ := bind_some h
            refine WD_all hE [6, 7] [] [] (st' := ⟨[(6, SS s2), (7, I64 (0 : Int))], [], []⟩) (orc := [tI64 v2, tI64 v3, tS s2]) (ob := [runes_Part_c1 k from1 v1.1 s1 = some v2, runes_Part_c1 k to1 v1.1 s1 = some v3, sub? s1 v2 v3 = some s2]) (by kernel_rfl) ⟨e4, e5, e6, trivial⟩ ?_
            refine N_then ?_
            refine W_ret ?_
            cases h
            exact N_end (.inl rfl) (by kernel_rfl)
        refine WL_split (fun g => ⟨[(1, I64 from1), (2, I64 to1), (3, .ptr 3 0), (8, .ptr 8 0), (26, BB g)], [(3, .cells [SS s1]), (8, .cells [.val (.sl (.pair (.int .i32) (.pair (.int .i64) (.pair (.int .i64) (.pair .bool .unit))))) v1.1])], []⟩) (b := t1) (fun e7 => ?_) (fun e7 => ?_)
        · rw [or_t e7] at h
          refine WL_all hE [1, 2, 3, 8, 31] [3, 8] [] (st' := ⟨[(1, I64 from1), (2, I64 to1), (3, .ptr 3 0), (8, .ptr 8 0), (31, BB true)], [(3, .cells [SS s1]), (8, .cells [.val (.sl (.pair (.int .i32) (.pair (.int .i64) (.pair (.int .i64) (.pair .bool .unit))))) v1.1])], []⟩) (orc := []) (ob := []) (by kernel_rfl) trivial ?_
          exact hJ2 true h
        · rw [or_f e7] at h
          refine WL_all hE [1, 2, 3, 8, 31] [3, 8] [] (st' := ⟨[(1, I64 from1), (2, I64 to1), (3, .ptr 3 0), (8, .ptr 8 0), (31, BB (decide ((List.length v1.1 : Int) < to1)))], [(3, .cells [SS s1]), (8, .cells [.val (.sl (.pair (.int .i32) (.pair (.int .i64) (.pair (.int .i64) (.pair .bool .unit))))) v1.1])], []⟩) (orc := []) (ob := []) (by kernel_rfl) trivial ?_
          exact hJ2 (decide ((List.length v1.1 : Int) < to1)) h
      refine WL_split (fun g => ⟨[(1, I64 from1), (2, I64 to1), (3, .ptr 3 0), (8, .ptr 8 0), (21, BB g)], [(3, .cells [SS s1]), (8, .cells [.val (.sl (.pair (.int .i32) (.pair (.int .i64) (.pair (.int .i64) (.pair .bool .unit))))) v1.1])], []⟩) (b := decide (from1 < (0 : Int))) (fun e8 => ?_) (fun e8 => ?_)
      · rw [or_t e8] at h
        refine WL_all hE [1, 2, 3, 8, 25] [3, 8] [] (st' := ⟨[(1, I64 from1), (2, I64 to1), (3, .ptr 3 0), (8, .ptr 8 0), (25, BB true)], [(3, .cells [SS s1]), (8, .cells [.val (.sl (.pair (.int .i32) (.pair (.int .i64) (.pair (.int .i64) (.pair .bool .unit))))) v1.1])], []⟩) (orc := []) (ob := []) (by kernel_rfl) trivial ?_
        exact hJ1 true h
      · rw [or_f e8] at h
        refine WL_all hE [1, 2, 3, 8, 25] [3, 8] [] (st' := ⟨[(1, I64 from1), (2, I64 to1), (3, .ptr 3 0), (8, .ptr 8 0), (25, BB (decide (to1 < from1)))], [(3, .cells [SS s1]), (8, .cells [.val (.sl (.pair (.int .i32) (.pair (.int .i64) (.pair (.int .i64) (.pair .bool .unit))))) v1.1])], []⟩) (orc := []) (ob := []) (by kernel_rfl) trivial ?_
        exact hJ1 (decide (to1 < from1)) h

def C_r01_Part (k : Nat) : FnC := ⟨true, 2, [], fun | [⟨.str, s1⟩, ⟨(.int .i64), from1⟩, ⟨(.int .i64), to1⟩], [⟨.str, r1⟩, ⟨(.int .i64), r2⟩] => r01_Part k s1 from1 to1 = some (r1, r2) | _, _ => False⟩
noncomputable def E_r01_Part (k : Nat) : Env := ⟨Tryd.prog, Gl, 61, [(14, C_r01_Pieces k)]⟩
theorem c_r01_Part (k : Nat) : Contract Tryd.prog Gl 20 (C_r01_Part k) := by
  refine contract_of Gl_stable (fn := Tryd.f20) Tryd.func20 (by kernel_rfl) rfl ?_ ?_
  · intro xs rs h
    unfold C_r01_Part at h
    simp only at h
    split at h
    · exact ⟨by show 3 ≤ _; rw [Tryd.ntmps20]; decide, rfl, fun _ u hu => by simp at hu; (rcases hu with rfl | rfl) <;> rfl⟩
    · exact h.elim
  · intro w0 M xs rs hG h
    unfold C_r01_Part at h
    simp only at h
    split at h
    case h_2 => exact h.elim
    rename_i s1 from1 to1 r1 r2
    change List UInt8 at s1
    change Int at from1
    change Int at to1
    change List UInt8 at r1
    change Int at r2
    have hE : EnvOK (E_r01_Part k) ⟨Tryd.prog, Tryd.f20.ntmps, w0, M, fun _ => False, fun _ => undef⟩ := (EnvOK.cons (c_r01_Pieces k) (EnvOK.nil rfl Tryd.ntmps20 hG))
    unfold r01_Part at h
    refine W_seq ?_
    refine W_region ?_
    refine WL_all hE [0, 1, 2] [] [] (st' := ⟨[(0, SS s1), (1, I64 from1), (2, I64 to1)], [], []⟩) (orc := []) (ob := []) (by kernel_rfl) trivial ?_
    refine N_then ?_
    refine W_seq ?_
    refine W_region ?_
    obtain ⟨v1, e1, h⟩ := bind_some h
    refine WL_all hE [0, 1, 2, 8, 9] [] [] (st' := ⟨[(0, SS s1), (1, I64 from1), (2, I64 to1), (8, .val (.sl (.pair (.int .i32) (.pair (.int .i64) (.pair (.int .i64) (.pair .bool .unit))))) v1.1), (9, I64 v1.2)], [], []⟩) (orc := [⟨(.sl (.pair (.int .i32) (.pair (.int .i64) (.pair (.int .i64) (.pair .bool .unit))))), v1.1⟩, tI64 v1.2]) (ob := [r01_Pieces k s1 = some ((v1).1, (v1).2)]) (by kernel_rfl) ⟨e1, trivial⟩ ?_
    refine N_then ?_
    refine W_seq ?_
    refine W_seq ?_
    refine W_region ?_
    refine WL_all hE [0, 1, 2, 8, 9, 18] [] [] (st' := ⟨[(0, SS s1), (1, I64 from1), (2, I64 to1), (8, .val (.sl (.pair (.int .i32) (.pair (.int .i64) (.pair (.int .i64) (.pair .bool .unit))))) v1.1), (9, I64 v1.2), (18, BB (v1.2 != (0 : Int)))], [], []⟩) (orc := []) (ob := []) (by kernel_rfl) trivial ?_
    refine N_then ?_
    refine W_cond (b := v1.2 != (0 : Int)) (by kernel_rfl) (fun e2 => ?_) (fun e2 => ?_)
    · replace h := ite_t e2 h
      refine W_seq ?_
      refine W_region ?_
      refine WL_all hE [6, 7] [] [] (st' := ⟨[(6, SS ([] : List UInt8)), (7, I64 v1.2)], [], []⟩) (orc := []) (ob := []) (by kernel_rfl) trivial ?_
      refine N_then ?_
      refine W_ret ?_
      refine N_then_ret ?_
      cases h
      exact N_end (.inl rfl) (by kernel_rfl)
    · replace h := ite_f e2 h
      refine W_skip ?_
      refine N_then ?_
      refine W_seq ?_
      refine W_seq ?_
      refine W_region ?_
      refine WL_tk hE 3 [0, 1, 2, 8, 22] [] [] (st' := ⟨[(0, SS s1), (1, I64 from1), (2, I64 to1), (8, .val (.sl (.pair (.int .i32) (.pair (.int .i64) (.pair (.int .i64) (.pair .bool .unit))))) v1.1), (22, BB (decide (from1 < (0 : Int))))], [], []⟩) (orc := []) (ob := []) (by kernel_rfl) trivial ?_
      refine WL_join (α := Bool) (fun z => r01_Part_j1 k to1 v1 s1 from1 z = some (r1, r2)) (fun t1 => ⟨[(0, SS s1), (1, I64 from1), (2, I64 to1), (8, .val (.sl (.pair (.int .i32) (.pair (.int .i64) (.pair (.int .i64) (.pair .bool .unit))))) v1.1), (26, BB t1)], [], []⟩) 4 ?_ (fun hJ1 => ?_)
      · rintro t1 h
        unfold r01_Part_j1 at h
        refine WL_tk hE 1 [0, 1, 2, 8, 27] [] [] (st' := ⟨[(0, SS s1), (1, I64 from1), (2, I64 to1), (8, .val (.sl (.pair (.int .i32) (.pair (.int .i64) (.pair (.int .i64) (.pair .bool .unit))))) v1.1), (27, BB t1)], [], []⟩) (orc := []) (ob := []) (by kernel_rfl) trivial ?_
        refine WL_join (α := Bool) (fun z => r01_Part_j2 k to1 v1 s1 from1 z = some (r1, r2)) (fun t2 => ⟨[(0, SS s1), (1, I64 from1), (2, I64 to1), (8, .val (.sl (.pair (.int .i32) (.pair (.int .i64) (.pair (.int .i64) (.pair .bool .unit))))) v1.1), (32, BB t2)], [], []⟩) 5 ?_ (fun hJ2 => ?_)
        · rintro t2 h
          unfold r01_Part_j2 at h
          refine WL_nil ?_
          refine N_then ?_
          refine W_cond (b := t2) (by kernel_rfl) (fun e3 => ?_) (fun e3 => ?_)
          · replace h := ite_t e3 h
            refine W_seq ?_
            refine W_region ?_
            refine WL_all hE [6, 7] [] [] (st' := ⟨[(6, SS ([] : List UInt8)), (7, I64 (10 : Int))], [], []⟩) (orc := []) (ob := []) (by kernel_rfl) trivial ?_
            refine N_then ?_
            refine W_ret ?_
            refine N_then_ret ?_
            cases h
            exact N_end (.inl rfl) (by kernel_rfl)
          · replace h := ite_f e3 h
            refine W_skip ?_
            refine N_then ?_
            refine W_seq ?_
            refine W_region ?_
            refine WL_all hE [0, 1, 2, 8, 10] [] [10] (st' := ⟨[(0, SS s1), (1, I64 from1), (2, I64 to1), (8, .val (.sl (.pair (.int .i32) (.pair (.int .i64) (.pair (.int .i64) (.pair .bool .unit))))) v1.1), (10, .row 10)], [], [(10, ⟨5, (.int .u8), ([] : List (Int))⟩)]⟩) (orc := []) (ob := []) (by kernel_rfl) trivial ?_
            refine N_then ?_
            refine W_seq ?_
            refine W_seq ?_
            refine W_region ?_
            refine WL_all hE [0, 2, 8, 10, 11] [] [10] (st' := ⟨[(0, SS s1), (2, I64 to1), (8, .val (.sl (.pair (.int .i32) (.pair (.int .i64) (.pair (.int .i64) (.pair .bool .unit))))) v1.1), (10, .row 10), (11, I64 from1)], [], [(10, ⟨5, (.int .u8), ([] : List (Int))⟩)]⟩) (orc := []) (ob := []) (by kernel_rfl) trivial ?_
            refine N_then ?_
            refine W_block ?_
            refine W_loop (α := (Int × List (Int))) (fun n z => r01_Part_l1 to1 v1 s1 n z.1 z.2 = some (r1, r2)) (fun z => ⟨[(0, SS s1), (2, I64 to1), (8, .val (.sl (.pair (.int .i32) (.pair (.int .i64) (.pair (.int .i64) (.pair .bool .unit))))) v1.1), (10, .row 10), (11, I64 (z.1))], [], [(10, ⟨5, (.int .u8), (z.2)⟩)]⟩) ?_ (k := k) (x := (from1, ([] : List (Int)))) h
            clear h
            rintro fuel1 ⟨i1, out1⟩ h
            cases fuel1 with
            | zero => exact absurd (show none = some _ from h) (by simp)
            | succ fuel1 =>
              have h : r01_Part_b1 to1 v1 s1 (r01_Part_l1 to1 v1 s1 fuel1) i1 out1 = some (r1, r2) := h
              unfold r01_Part_b1 at h
              refine W_seq ?_
              refine W_seq ?_
              refine W_region ?_
              refine WL_all hE [0, 2, 8, 10, 11, 36] [] [10] (st' := ⟨[(0, SS s1), (2, I64 to1), (8, .val (.sl (.pair (.int .i32) (.pair (.int .i64) (.pair (.int .i64) (.pair .bool .unit))))) v1.1), (10, .row 10), (11, I64 i1), (36, BB (decide (i1 < to1)))], [], [(10, ⟨5, (.int .u8), out1⟩)]⟩) (orc := []) (ob := []) (by kernel_rfl) trivial ?_
              refine N_then ?_
              refine W_cond (b := decide (i1 < to1)) (by kernel_rfl) (fun e4 => ?_) (fun e4 => ?_)
              · replace h := ite_t e4 h
                refine W_skip ?_
                refine N_then ?_
                refine W_seq ?_
                refine W_block ?_
                obtain ⟨x1, e5, h⟩ := bind_some h
                obtain ⟨s2, e6, h⟩ := bind_some h
                refine W_tail hE 19 [0, 2, 8, 11, 39, 57] [] [10] (by kernel_rfl) (by kernel_rfl) (by kernel_rfl) (st' := ⟨[(0, SS s1), (2, I64 to1), (8, .val (.sl (.pair (.int .i32) (.pair (.int .i64) (.pair (.int .i64) (.pair .bool .unit))))) v1.1), (11, I64 i1), (39, .row 10), (57, SS s2)], [], [(10, ⟨5, (.int .u8), out1⟩)]⟩) (orc := [⟨(.pair (.int .i32) (.pair (.int .i64) (.pair (.int .i64) (.pair .bool .unit)))), x1⟩, ⟨(.pair (.int .i32) (.pair (.int .i64) (.pair (.int .i64) (.pair .bool .unit)))), x1⟩, ⟨(.pair (.int .i32) (.pair (.int .i64) (.pair (.int .i64) (.pair .bool .unit)))), x1⟩, tS s2]) (ob := [at? v1.1 i1 = some x1, at? v1.1 i1 = some x1, at? v1.1 i1 = some x1, sub? s1 x1.2.1 (wi64 (x1.2.1 + x1.2.2.1)) = some s2]) (by kernel_rfl) ⟨e5, e5, e5, e6, trivial⟩ ?_
                obtain ⟨_, e7, h⟩ := bind_some h
                replace e7 := chk_some e7
                refine WL_all hE [0, 2, 8, 10, 11] [] [10] (st' := ⟨[(0, SS s1), (2, I64 to1), (8, .val (.sl (.pair (.int .i32) (.pair (.int .i64) (.pair (.int .i64) (.pair .bool .unit))))) v1.1), (10, .row 10), (11, I64 i1)], [], [(10, ⟨5, (.int .u8), out1 ++ (bytesEl s2)⟩)]⟩) (orc := []) (ob := [List.length out1 + List.length (bytesEl s2) ≤ lim]) (by kernel_rfl) ⟨e7, trivial⟩ ?_
                refine N_block ?_
                refine N_then ?_
                refine W_region ?_
                refine WL_all hE [0, 2, 8, 10, 11] [] [10] (st' := ⟨[(0, SS s1), (2, I64 to1), (8, .val (.sl (.pair (.int .i32) (.pair (.int .i64) (.pair (.int .i64) (.pair .bool .unit))))) v1.1), (10, .row 10), (11, I64 (wi64 (i1 + (1 : Int))))], [], [(10, ⟨5, (.int .u8), out1 ++ (bytesEl s2)⟩)]⟩) (orc := []) (ob := []) (by kernel_rfl) trivial ?_
                exact N_round (wi64 (i1 + (1 : Int)), out1 ++ (bytesEl s2)) (Nat.lt_succ_self _) h
              · replace h := ite_f e4 h
                refine W_exit ?_
                refine N_then_exit ?_
                refine N_then_exit ?_
                refine N_block_exit ?_
                refine N_then ?_
                refine W_seq ?_
                refine W_region ?_
                refine WL_all hE [6, 7] [] [] (st' := ⟨[(6, SS (bytesStr out1)), (7, I64 (0 : Int))], [], []⟩) (orc := []) (ob := []) (by kernel_rfl) trivial ?_
                refine N_then ?_
                refine W_ret ?_
                cases h
                exact N_end (.inl rfl) (by kernel_rfl)
        refine WL_split (fun g => ⟨[(0, SS s1), (1, I64 from1), (2, I64 to1), (8, .val (.sl (.pair (.int .i32) (.pair (.int .i64) (.pair (.int .i64) (.pair .bool .unit))))) v1.1), (27, BB g)], [], []⟩) (b := t1) (fun e8 => ?_) (fun e8 => ?_)
        · rw [or_t e8] at h
          refine WL_all hE [0, 1, 2, 8, 32] [] [] (st' := ⟨[(0, SS s1), (1, I64 from1), (2, I64 to1), (8, .val (.sl (.pair (.int .i32) (.pair (.int .i64) (.pair (.int .i64) (.pair .bool .unit))))) v1.1), (32, BB true)], [], []⟩) (orc := []) (ob := []) (by kernel_rfl) trivial ?_
          exact hJ2 true h
        · rw [or_f e8] at h
          refine WL_all hE [0, 1, 2, 8, 32] [] [] (st' := ⟨[(0, SS s1), (1, I64 from1), (2, I64 to1), (8, .val (.sl (.pair (.int .i32) (.pair (.int .i64) (.pair (.int .i64) (.pair .bool .unit))))) v1.1), (32, BB (decide ((List.length v1.1 : Int) < to1)))], [], []⟩) (orc := []) (ob := []) (by kernel_rfl) trivial ?_
          exact hJ2 (decide ((List.length v1.1 : Int) < to1)) h
      refine WL_split (fun g => ⟨[(0, SS s1), (1, I64 from1), (2, I64 to1), (8, .val (.sl (.pair (.int .i32) (.pair (.int .i64) (.pair (.int .i64) (.pair .bool .unit))))) v1.1), (22, BB g)], [], []⟩) (b := decide (from1 < (0 : Int))) (fun e9 => ?_) (fun e9 => ?_)
      · rw [or_t e9] at h
        refine WL_all hE [0, 1, 2, 8, 26] [] [] (st' := ⟨[(0, SS s1), (1, I64 from1), (2, I64 to1), (8, .val (.sl (.pair (.int .i32) (.pair (.int .i64) (.pair (.int .i64) (.pair .bool .unit))))) v1.1), (26, BB true)], [], []⟩) (orc := []) (ob := []) (by kernel_rfl) trivial ?_
        exact hJ1 true h
      · rw [or_f e9] at h
        refine WL_all hE [0, 1, 2, 8, 26] [] [] (st' := ⟨[(0, SS s1), (1, I64 from1), (2, I64 to1), (8, .val (.sl (.pair (.int .i32) (.pair (.int .i64) (.pair (.int .i64) (.pair .bool .unit))))) v1.1), (26, BB (decide (to1 < from1)))], [], []⟩) (orc := []) (ob := []) (by kernel_rfl) trivial ?_
        exact hJ1 (decide (to1 < from1)) h

def C_runes_Back (k : Nat) : FnC := ⟨true, 2, [], fun | [⟨.str, s1⟩], [⟨.str, r1⟩, ⟨(.int .i64), r2⟩] => runes_Back k s1 = some (r1, r2) | _, _ => False⟩
noncomputable def E_runes_Back (k : Nat) : Env := ⟨Tryd.prog, Gl, 13, [(35, C_runes_long k)]⟩
theorem c_runes_Back (k : Nat) : Contract Tryd.prog Gl 21 (C_runes_Back k) := by
  refine contract_of Gl_stable (fn := Tryd.f21) Tryd.func21 (by kernel_rfl) rfl ?_ ?_
  · intro xs rs h
    unfold C_runes_Back at h
    simp only at h
    split at h
    · exact ⟨by show 1 ≤ _; rw [Tryd.ntmps21]; decide, rfl, fun _ u hu => by simp at hu; (rcases hu with rfl | rfl) <;> rfl⟩
    · exact h.elim
  · intro w0 M xs rs hG h
    unfold C_runes_Back at h
    simp only at h
    split at h
    case h_2 => exact h.elim
    rename_i s1 r1 r2
    change List UInt8 at s1
    change List UInt8 at r1
    change Int at r2
    have hE : EnvOK (E_runes_Back k) ⟨Tryd.prog, Tryd.f21.ntmps, w0, M, fun _ => False, fun _ => undef⟩ := (EnvOK.cons (c_runes_long k) (EnvOK.nil rfl Tryd.ntmps21 hG))
    unfold runes_Back at h
    refine W_seq ?_
    refine W_region ?_
    refine WL_all hE [0] [] [] (st' := ⟨[(0, SS s1)], [], []⟩) (orc := []) (ob := []) (by kernel_rfl) trivial ?_
    refine N_then ?_
    refine W_seq ?_
    refine W_seq ?_
    refine W_region ?_
    obtain ⟨v1, e1, h⟩ := bind_some h
    refine WL_all hE [0, 4] [] [] (st' := ⟨[(0, SS s1), (4, I64 v1)], [], []⟩) (orc := [tI64 v1]) (ob := [runes_long k s1 = some v1]) (by kernel_rfl) ⟨e1, trivial⟩ ?_
    refine N_then ?_
    refine W_seq ?_
    refine W_region ?_
    refine WL_all hE [0, 4, 8] [] [] (st' := ⟨[(0, SS s1), (4, I64 v1), (8, BB (v1 != (0 : Int)))], [], []⟩) (orc := []) (ob := []) (by kernel_rfl) trivial ?_
    refine N_then ?_
    refine W_cond (b := v1 != (0 : Int)) (by kernel_rfl) (fun e2 => ?_) (fun e2 => ?_)
    · replace h := ite_t e2 h
      refine W_seq ?_
      refine W_region ?_
      refine WL_all hE [2, 3] [] [] (st' := ⟨[(2, SS ([] : List UInt8)), (3, I64 v1)], [], []⟩) (orc := []) (ob := []) (by kernel_rfl) trivial ?_
      refine N_then ?_
      refine W_ret ?_
      refine N_then_ret ?_
      cases h
      exact N_end (.inl rfl) (by kernel_rfl)
    · replace h := ite_f e2 h
      refine W_skip ?_
      refine N_then ?_
      refine W_seq ?_
      refine W_region ?_
      obtain ⟨_, e3, h⟩ := bind_some h
      replace e3 := chk_some e3
      obtain ⟨_, e4, h⟩ := bind_some h
      replace e4 := chk_some e4
      refine WL_all hE [2, 3] [] [] (st' := ⟨[(2, SS (runesStr (strRunes s1))), (3, I64 (0 : Int))], [], []⟩) (orc := []) (ob := [List.length s1 ≤ lim, List.length (runesStr (strRunes s1)) ≤ lim]) (by kernel_rfl) ⟨e3, e4, trivial⟩ ?_
      refine N_then ?_
      refine W_ret ?_
      cases h
      exact N_end (.inl rfl) (by kernel_rfl)

def C_r01_one (k : Nat) : FnC := ⟨false, 1, [], fun | [⟨(.int .i32), r1⟩], [⟨(.sl (.int .u8)), r⟩] => r01_one k r1 = some r | _, _ => False⟩
noncomputable def E_r01_one (k : Nat) : Env := ⟨Tryd.prog, Gl, 60, [(53, C_r01_Rune k)]⟩
theorem c_r01_one (k : Nat) : Contract Tryd.prog Gl 41 (C_r01_one k) := by
  refine contract_of Gl_stable (fn := Tryd.f41) Tryd.func41 (by kernel_rfl) rfl ?_ ?_
  · intro xs rs h
    unfold C_r01_one at h
    simp only at h
    split at h
    · exact ⟨by show 1 ≤ _; rw [Tryd.ntmps41]; decide, rfl, fun hf => by cases hf⟩
    · exact h.elim
  · intro w0 M xs rs hG h
    unfold C_r01_one at h
    simp only at h
    split at h
    case h_2 => exact h.elim
    rename_i r1 r
    change Int at r1
    change List (Int) at r
    have hE : EnvOK (E_r01_one k) ⟨Tryd.prog, Tryd.f41.ntmps, w0, M, fun _ => False, fun _ => undef⟩ := (EnvOK.cons (c_r01_Rune k) (EnvOK.nil rfl Tryd.ntmps41 hG))
    unfold r01_one at h
    refine W_seq ?_
    refine W_region ?_
    refine WL_all hE [0] [] [] (st' := ⟨[(0, I32 r1)], [], []⟩) (orc := []) (ob := []) (by kernel_rfl) trivial ?_
    refine N_then ?_
    refine W_join (α := Int) (fun z => r01_one_j1 z = some r) (fun r2 => ⟨[(0, I32 r2)], [], []⟩) ?_ (fun hJ1 => ?_)
    · rintro r2 h
      unfold r01_one_j1 at h
      refine W_seq ?_
      refine W_block ?_
      refine W_seq ?_
      refine W_region ?_
      refine WL_all hE [0, 6] [] [] (st' := ⟨[(0, I32 r2), (6, BB (decide (r2 < (128 : Int))))], [], []⟩) (orc := []) (ob := []) (by kernel_rfl) trivial ?_
      refine N_then ?_
      refine W_cond (b := decide (r2 < (128 : Int))) (by kernel_rfl) (fun e1 => ?_) (fun e1 => ?_)
      · replace h := ite_t e1 h
        refine W_seq ?_
        refine W_region ?_
        refine WL_all hE [2] [] [11] (st' := ⟨[(2, .row 11)], [], [(11, ⟨5, (.int .u8), ([wu8 r2] : List (Int))⟩)]⟩) (orc := []) (ob := []) (by kernel_rfl) trivial ?_
        refine N_then ?_
        refine W_ret ?_
        refine N_block_ret ?_
        refine N_then_ret ?_
        cases h
        exact N_end (.inl rfl) (by kernel_rfl)
      · replace h := ite_f e1 h
        refine W_seq ?_
        refine W_region ?_
        refine WL_all hE [0, 12] [] [] (st' := ⟨[(0, I32 r2), (12, BB (decide (r2 < (2048 : Int))))], [], []⟩) (orc := []) (ob := []) (by kernel_rfl) trivial ?_
        refine N_then ?_
        refine W_cond (b := decide (r2 < (2048 : Int))) (by kernel_rfl) (fun e2 => ?_) (fun e2 => ?_)
        · replace h := ite_t e2 h
          refine W_seq ?_
          refine W_region ?_
          obtain ⟨_, e3, h⟩ := bind_some h
          replace e3 := chk_some e3
          obtain ⟨_, e4, h⟩ := bind_some h
          replace e4 := chk_some e4
          refine WL_all hE [2] [] [23] (st' := ⟨[(2, .row 23)], [], [(23, ⟨5, (.int .u8), ([wu8 (wi32 ((192 : Int) + (wi32 (Int.tdiv r2 (64 : Int))))), wu8 (wi32 ((128 : Int) + (Int.tmod r2 (64 : Int))))] : List (Int))⟩)]⟩) (orc := []) (ob := [(64 : Int) ≠ 0, (64 : Int) ≠ 0]) (by kernel_rfl) ⟨e3, e4, trivial⟩ ?_
          refine N_then ?_
          refine W_ret ?_
          refine N_block_ret ?_
          refine N_then_ret ?_
          cases h
          exact N_end (.inl rfl) (by kernel_rfl)
        · replace h := ite_f e2 h
          refine W_seq ?_
          refine W_region ?_
          refine WL_all hE [0, 24] [] [] (st' := ⟨[(0, I32 r2), (24, BB (decide (r2 < (65536 : Int))))], [], []⟩) (orc := []) (ob := []) (by kernel_rfl) trivial ?_
          refine N_then ?_
          refine W_cond (b := decide (r2 < (65536 : Int))) (by kernel_rfl) (fun e5 => ?_) (fun e5 => ?_)
          · replace h := ite_t e5 h
            refine W_seq ?_
            refine W_region ?_
            obtain ⟨_, e6, h⟩ := bind_some h
            replace e6 := chk_some e6
            obtain ⟨_, e7, h⟩ := bind_some h
            replace e7 := chk_some e7
            obtain ⟨_, e8, h⟩ := bind_some h
            replace e8 := chk_some e8
            obtain ⟨_, e9, h⟩ := bind_some h
            replace e9 := chk_some e9
            refine WL_all hE [2] [] [40] (st' := ⟨[(2, .row 40)], [], [(40, ⟨5, (.int .u8), ([wu8 (wi32 ((224 : Int) + (wi32 (Int.tdiv r2 (4096 : Int))))), wu8 (wi32 ((128 : Int) + (Int.tmod (wi32 (Int.tdiv r2 (64 : Int))) (64 : Int)))), wu8 (wi32 ((128 : Int) + (Int.tmod r2 (64 : Int))))] : List (Int))⟩)]⟩) (orc := []) (ob := [(4096 : Int) ≠ 0, (64 : Int) ≠ 0, (64 : Int) ≠ 0, (64 : Int) ≠ 0]) (by kernel_rfl) ⟨e6, e7, e8, e9, trivial⟩ ?_
            refine N_then ?_
            refine W_ret ?_
            refine N_block_ret ?_
            refine N_then_ret ?_
            cases h
            exact N_end (.inl rfl) (by kernel_rfl)
          · replace h := ite_f e5 h
            refine W_skip ?_
            refine N_block ?_
            refine N_then ?_
            refine W_seq ?_
            refine W_region ?_
            obtain ⟨_, e10, h⟩ := bind_some h
            replace e10 := chk_some e10
            obtain ⟨_, e11, h⟩ := bind_some h
            replace e11 := chk_some e11
            obtain ⟨_, e12, h⟩ := bind_some h
            replace e12 := chk_some e12
            obtain ⟨_, e13, h⟩ := bind_some h
            replace e13 := chk_some e13
            obtain ⟨_, e14, h⟩ := bind_some h
            replace e14 := chk_some e14
            obtain ⟨_, e15, h⟩ := bind_some h
            replace e15 := chk_some e15
            refine WL_all hE [2] [] [59] (st' := ⟨[(2, .row 59)], [], [(59, ⟨5, (.int .u8), ([wu8 (wi32 ((240 : Int) + (wi32 (Int.tdiv r2 (262144 : Int))))), wu8 (wi32 ((128 : Int) + (Int.tmod (wi32 (Int.tdiv r2 (4096 : Int))) (64 : Int)))), wu8 (wi32 ((128 : Int) + (Int.tmod (wi32 (Int.tdiv r2 (64 : Int))) (64 : Int)))), wu8 (wi32 ((128 : Int) + (Int.tmod r2 (64 : Int))))] : List (Int))⟩)]⟩) (orc := []) (ob := [(262144 : Int) ≠ 0, (4096 : Int) ≠ 0, (64 : Int) ≠ 0, (64 : Int) ≠ 0, (64 : Int) ≠ 0, (64 : Int) ≠ 0]) (by kernel_rfl) ⟨e10, e11, e12, e13, e14, e15, trivial⟩ ?_
            refine N_then ?_
            refine W_ret ?_
            cases h
            exact N_end (.inl rfl) (by kernel_rfl)
    refine W_seq ?_
    refine W_region ?_
    obtain ⟨v1, e16, h⟩ := bind_some h
    refine WL_all hE [0, 5] [] [] (st' := ⟨[(0, I32 r1), (5, BB (!v1))], [], []⟩) (orc := [tB v1]) (ob := [r01_Rune k r1 = some v1]) (by kernel_rfl) ⟨e16, trivial⟩ ?_
    refine N_then ?_
    refine W_cond (b := !v1) (by kernel_rfl) (fun e17 => ?_) (fun e17 => ?_)
    · replace h := ite_t e17 h
      refine W_region ?_
      refine WL_all hE [0] [] [] (st' := ⟨[(0, I32 (65533 : Int))], [], []⟩) (orc := []) (ob := []) (by kernel_rfl) trivial ?_
      exact hJ1 (65533 : Int) h
    · replace h := ite_f e17 h
      refine W_skip ?_
      refine N.norm (st' := ⟨[(0, I32 r1)], [], []⟩) (ks := [0]) (bs := []) (rs := []) ?_ (by kernel_rfl)
      exact hJ1 r1 h

def C_r01_Back (k : Nat) : FnC := ⟨true, 2, [], fun | [⟨.str, s1⟩], [⟨.str, r1⟩, ⟨(.int .i64), r2⟩] => r01_Back k s1 = some (r1, r2) | _, _ => False⟩
noncomputable def E_r01_Back (k : Nat) : Env := ⟨Tryd.prog, Gl, 34, [(14, C_r01_Pieces k), (41, C_r01_one k)]⟩
theorem c_r01_Back (k : Nat) : Contract Tryd.prog Gl 22 (C_r01_Back k) := by
  refine contract_of Gl_stable (fn := Tryd.f22) Tryd.func22 (by kernel_rfl) rfl ?_ ?_
  · intro xs rs h
    unfold C_r01_Back at h
    simp only at h
    split at h
    · exact ⟨by show 1 ≤ _; rw [Tryd.ntmps22]; decide, rfl, fun _ u hu => by simp at hu; (rcases hu with rfl | rfl) <;> rfl⟩
    · exact h.elim
  · intro w0 M xs rs hG h
    unfold C_r01_Back at h
    simp only at h
    split at h
    case h_2 => exact h.elim
    rename_i s1 r1 r2
    change List UInt8 at s1
    change List UInt8 at r1
    change Int at r2
    have hE : EnvOK (E_r01_Back k) ⟨Tryd.prog, Tryd.f22.ntmps, w0, M, fun _ => False, fun _ => undef⟩ := (EnvOK.cons (c_r01_Pieces k) (EnvOK.cons (c_r01_one k) (EnvOK.nil rfl Tryd.ntmps22 hG)))
    unfold r01_Back at h
    refine W_seq ?_
    refine W_region ?_
    refine WL_all hE [0] [] [] (st' := ⟨[(0, SS s1)], [], []⟩) (orc := []) (ob := []) (by kernel_rfl) trivial ?_
    refine N_then ?_
    refine W_seq ?_
    refine W_region ?_
    obtain ⟨v1, e1, h⟩ := bind_some h
    refine WL_all hE [4, 5] [] [] (st' := ⟨[(4, .val (.sl (.pair (.int .i32) (.pair (.int .i64) (.pair (.int .i64) (.pair .bool .unit))))) v1.1), (5, I64 v1.2)], [], []⟩) (orc := [⟨(.sl (.pair (.int .i32) (.pair (.int .i64) (.pair (.int .i64) (.pair .bool .unit))))), v1.1⟩, tI64 v1.2]) (ob := [r01_Pieces k s1 = some ((v1).1, (v1).2)]) (by kernel_rfl) ⟨e1, trivial⟩ ?_
    refine N_then ?_
    refine W_seq ?_
    refine W_seq ?_
    refine W_region ?_
    refine WL_all hE [4, 5, 15] [] [] (st' := ⟨[(4, .val (.sl (.pair (.int .i32) (.pair (.int .i64) (.pair (.int .i64) (.pair .bool .unit))))) v1.1), (5, I64 v1.2), (15, BB (v1.2 != (0 : Int)))], [], []⟩) (orc := []) (ob := []) (by kernel_rfl) trivial ?_
    refine N_then ?_
    refine W_cond (b := v1.2 != (0 : Int)) (by kernel_rfl) (fun e2 => ?_) (fun e2 => ?_)
    · replace h := ite_t e2 h
      refine W_seq ?_
      refine W_region ?_
      refine WL_all hE [2, 3] [] [] (st' := ⟨[(2, SS ([] : List UInt8)), (3, I64 v1.2)], [], []⟩) (orc := []) (ob := []) (by kernel_rfl) trivial ?_
      refine N_then ?_
      refine W_ret ?_
      refine N_then_ret ?_
      cases h
      exact N_end (.inl rfl) (by kernel_rfl)
    · replace h := ite_f e2 h
      refine W_skip ?_
      refine N_then ?_
      refine W_seq ?_
      refine W_region ?_
      refine WL_all hE [4, 6] [] [6] (st' := ⟨[(4, .val (.sl (.pair (.int .i32) (.pair (.int .i64) (.pair (.int .i64) (.pair .bool .unit))))) v1.1), (6, .row 6)], [], [(6, ⟨5, (.int .u8), ([] : List (Int))⟩)]⟩) (orc := []) (ob := []) (by kernel_rfl) trivial ?_
      refine N_then ?_
      refine W_seq ?_
      refine W_seq ?_
      refine W_region ?_
      refine WL_all hE [4, 6, 7] [] [6] (st' := ⟨[(4, .val (.sl (.pair (.int .i32) (.pair (.int .i64) (.pair (.int .i64) (.pair .bool .unit))))) v1.1), (6, .row 6), (7, I64 (0 : Int))], [], [(6, ⟨5, (.int .u8), ([] : List (Int))⟩)]⟩) (orc := []) (ob := []) (by kernel_rfl) trivial ?_
      refine N_then ?_
      refine W_block ?_
      refine W_loop (α := (Int × List (Int))) (fun n z => r01_Back_l1 k v1 n z.1 z.2 = some (r1, r2)) (fun z => ⟨[(4, .val (.sl (.pair (.int .i32) (.pair (.int .i64) (.pair (.int .i64) (.pair .bool .unit))))) v1.1), (6, .row 6), (7, I64 (z.1))], [], [(6, ⟨5, (.int .u8), (z.2)⟩)]⟩) ?_ (k := k) (x := ((0 : Int), ([] : List (Int)))) h
      clear h
      rintro fuel1 ⟨i1, out1⟩ h
      cases fuel1 with
      | zero => exact absurd (show none = some _ from h) (by simp)
      | succ fuel1 =>
        have h : r01_Back_b1 k v1 (r01_Back_l1 k v1 fuel1) i1 out1 = some (r1, r2) := h
        unfold r01_Back_b1 at h
        refine W_seq ?_
        refine W_seq ?_
        refine W_region ?_
        refine WL_all hE [4, 6, 7, 20] [] [6] (st' := ⟨[(4, .val (.sl (.pair (.int .i32) (.pair (.int .i64) (.pair (.int .i64) (.pair .bool .unit))))) v1.1), (6, .row 6), (7, I64 i1), (20, BB (decide (i1 < (List.length v1.1 : Int))))], [], [(6, ⟨5, (.int .u8), out1⟩)]⟩) (orc := []) (ob := []) (by kernel_rfl) trivial ?_
        refine N_then ?_
        refine W_cond (b := decide (i1 < (List.length v1.1 : Int))) (by kernel_rfl) (fun e3 => ?_) (fun e3 => ?_)
        · replace h := ite_t e3 h
          refine W_skip ?_
          refine N_then ?_
          refine W_seq ?_
          refine W_block ?_
          refine W_seq ?_
          refine W_region ?_
          obtain ⟨x1, e4, h⟩ := bind_some h
          obtain ⟨v2, e5, h⟩ := bind_some h
          refine WL_all hE [4, 6, 7, 8] [] [6] (st' := ⟨[(4, .val (.sl (.pair (.int .i32) (.pair (.int .i64) (.pair (.int .i64) (.pair .bool .unit))))) v1.1), (6, .row 6), (7, I64 i1), (8, .val (.sl (.int .u8)) v2)], [], [(6, ⟨5, (.int .u8), out1⟩)]⟩) (orc := [⟨(.pair (.int .i32) (.pair (.int .i64) (.pair (.int .i64) (.pair .bool .unit)))), x1⟩, ⟨(.sl (.int .u8)), v2⟩]) (ob := [at? v1.1 i1 = some x1, r01_one k x1.1 = some v2]) (by kernel_rfl) ⟨e4, e5, trivial⟩ ?_
          refine N_then ?_
          refine W_region ?_
          obtain ⟨_, e6, h⟩ := bind_some h
          replace e6 := chk_some e6
          refine WL_all hE [4, 6, 7] [] [6] (st' := ⟨[(4, .val (.sl (.pair (.int .i32) (.pair (.int .i64) (.pair (.int .i64) (.pair .bool .unit))))) v1.1), (6, .row 6), (7, I64 i1)], [], [(6, ⟨5, (.int .u8), out1 ++ v2⟩)]⟩) (orc := []) (ob := [List.length out1 + List.length v2 ≤ lim]) (by kernel_rfl) ⟨e6, trivial⟩ ?_
          refine N_block ?_
          refine N_then ?_
          refine W_region ?_
          refine WL_all hE [4, 6, 7] [] [6] (st' := ⟨[(4, .val (.sl (.pair (.int .i32) (.pair (.int .i64) (.pair (.int .i64) (.pair .bool .unit))))) v1.1), (6, .row 6), (7, I64 (wi64 (i1 + (1 : Int))))], [], [(6, ⟨5, (.int .u8), out1 ++ v2⟩)]⟩) (orc := []) (ob := []) (by kernel_rfl) trivial ?_
          exact N_round (wi64 (i1 + (1 : Int)), out1 ++ v2) (Nat.lt_succ_self _) h
        · replace h := ite_f e3 h
          refine W_exit ?_
          refine N_then_exit ?_
          refine N_then_exit ?_
          refine N_block_exit ?_
          refine N_then ?_
          refine W_seq ?_
          refine W_region ?_
          refine WL_all hE [2, 3] [] [] (st' := ⟨[(2, SS (bytesStr out1)), (3, I64 (0 : Int))], [], []⟩) (orc := []) (ob := []) (by kernel_rfl) trivial ?_
          refine N_then ?_
          refine W_ret ?_
          cases h
          exact N_end (.inl rfl) (by kernel_rfl)

def C_r01_Same (k : Nat) : FnC := ⟨true, 1, [], fun | [⟨(.sl (.pair (.int .i32) (.pair (.int .i64) (.pair (.int .i64) (.pair .bool .unit))))), a1⟩, ⟨(.sl (.pair (.int .i32) (.pair (.int .i64) (.pair (.int .i64) (.pair .bool .unit))))), b1⟩], [⟨.bool, r⟩] => r01_Same k a1 b1 = some r | _, _ => False⟩
noncomputable def E_r01_Same (k : Nat) : Env := ⟨Tryd.prog, Gl, 26, []⟩
theorem c_r01_Same (k : Nat) : Contract Tryd.prog Gl 23 (C_r01_Same k) := by
  refine contract_of Gl_stable (fn := Tryd.f23) Tryd.func23 (by kernel_rfl) rfl ?_ ?_
  · intro xs rs h
    unfold C_r01_Same at h
    simp only at h
    split at h
    · exact ⟨by show 2 ≤ _; rw [Tryd.ntmps23]; decide, rfl, fun _ u hu => by simp at hu; (rcases hu with rfl) <;> rfl⟩
    · exact h.elim
  · intro w0 M xs rs hG h
    unfold C_r01_Same at h
    simp only at h
    split at h
    case h_2 => exact h.elim
    rename_i a1 b1 r
    change List ((Int × Int × Int × Bool × Unit)) at a1
    change List ((Int × Int × Int × Bool × Unit)) at b1
    change Bool at r
    have hE : EnvOK (E_r01_Same k) ⟨Tryd.prog, Tryd.f23.ntmps, w0, M, fun _ => False, fun _ => undef⟩ := (EnvOK.nil rfl Tryd.ntmps23 hG)
    unfold r01_Same at h
    refine W_seq ?_
    refine W_region ?_
    refine WL_all hE [0, 1] [] [] (st' := ⟨[(0, .val (.sl (.pair (.int .i32) (.pair (.int .i64) (.pair (.int .i64) (.pair .bool .unit))))) a1), (1, .val (.sl (.pair (.int .i32) (.pair (.int .i64) (.pair (.int .i64) (.pair .bool .unit))))) b1)], [], []⟩) (orc := []) (ob := []) (by kernel_rfl) trivial ?_
    refine N_then ?_
    refine W_seq ?_
    refine W_seq ?_
    refine W_region ?_
    refine WL_all hE [0, 1, 10] [] [] (st' := ⟨[(0, .val (.sl (.pair (.int .i32) (.pair (.int .i64) (.pair (.int .i64) (.pair .bool .unit))))) a1), (1, .val (.sl (.pair (.int .i32) (.pair (.int .i64) (.pair (.int .i64) (.pair .bool .unit))))) b1), (10, BB ((List.length a1 : Int) != (List.length b1 : Int)))], [], []⟩) (orc := []) (ob := []) (by kernel_rfl) trivial ?_
    refine N_then ?_
    refine W_cond (b := (List.length a1 : Int) != (List.length b1 : Int)) (by kernel_rfl) (fun e1 => ?_) (fun e1 => ?_)
    · replace h := ite_t e1 h
      refine W_seq ?_
      refine W_region ?_
      refine WL_all hE [4] [] [] (st' := ⟨[(4, BB false)], [], []⟩) (orc := []) (ob := []) (by kernel_rfl) trivial ?_
      refine N_then ?_
      refine W_ret ?_
      refine N_then_ret ?_
      cases h
      exact N_end (.inl rfl) (by kernel_rfl)
    · replace h := ite_f e1 h
      refine W_skip ?_
      refine N_then ?_
      refine W_seq ?_
      refine W_seq ?_
      refine W_region ?_
      refine WL_all hE [0, 1, 5] [] [] (st' := ⟨[(0, .val (.sl (.pair (.int .i32) (.pair (.int .i64) (.pair (.int .i64) (.pair .bool .unit))))) a1), (1, .val (.sl (.pair (.int .i32) (.pair (.int .i64) (.pair (.int .i64) (.pair .bool .unit))))) b1), (5, I64 (0 : Int))], [], []⟩) (orc := []) (ob := []) (by kernel_rfl) trivial ?_
      refine N_then ?_
      refine W_block ?_
      refine W_loop (α := Int) (fun n z => r01_Same_l1 a1 b1 n z = some r) (fun i1 => ⟨[(0, .val (.sl (.pair (.int .i32) (.pair (.int .i64) (.pair (.int .i64) (.pair .bool .unit))))) a1), (1, .val (.sl (.pair (.int .i32) (.pair (.int .i64) (.pair (.int .i64) (.pair .bool .unit))))) b1), (5, I64 i1)], [], []⟩) ?_ (k := k) (x := (0 : Int)) h
      clear h
      rintro fuel1 i1 h
      cases fuel1 with
      | zero => exact absurd (show none = some _ from h) (by simp)
      | succ fuel1 =>
        have h : r01_Same_b1 a1 b1 (r01_Same_l1 a1 b1 fuel1) i1 = some r := h
        unfold r01_Same_b1 at h
        refine W_seq ?_
        refine W_seq ?_
        refine W_region ?_
        refine WL_all hE [0, 1, 5, 14] [] [] (st' := ⟨[(0, .val (.sl (.pair (.int .i32) (.pair (.int .i64) (.pair (.int .i64) (.pair .bool .unit))))) a1), (1, .val (.sl (.pair (.int .i32) (.pair (.int .i64) (.pair (.int .i64) (.pair .bool .unit))))) b1), (5, I64 i1), (14, BB (decide (i1 < (List.length a1 : Int))))], [], []⟩) (orc := []) (ob := []) (by kernel_rfl) trivial ?_
        refine N_then ?_
        refine W_cond (b := decide (i1 < (List.length a1 : Int))) (by kernel_rfl) (fun e2 => ?_) (fun e2 => ?_)
        · replace h := ite_t e2 h
          refine W_skip ?_
          refine N_then ?_
          refine W_seq ?_
          refine W_block ?_
          refine W_seq ?_
          refine W_draw (by kernel_rfl) (by kernel_rfl) ?_
          obtain ⟨x1, e3, h⟩ := bind_some h
          obtain ⟨x2, e4, h⟩ := bind_some h
          refine WD_all hE [0, 1, 5, 25] [] [] (st' := ⟨[(0, .val (.sl (.pair (.int .i32) (.pair (.int .i64) (.pair (.int .i64) (.pair .bool .unit))))) a1), (1, .val (.sl (.pair (.int .i32) (.pair (.int .i64) (.pair (.int .i64) (.pair .bool .unit))))) b1), (5, I64 i1), (25, BB (!((eqInt x1.1 x2.1) && ((eqInt x1.2.1 x2.2.1) && ((eqInt x1.2.2.1 x2.2.2.1) && ((eqBool x1.2.2.2.1 x2.2.2.2.1) && (true)))))))], [], []⟩) (orc := [⟨(.pair (.int .i32) (.pair (.int .i64) (.pair (.int .i64) (.pair .bool .unit)))), x1⟩, ⟨(.pair (.int .i32) (.pair (.int .i64) (.pair (.int .i64) (.pair .bool .unit)))), x2⟩]) (ob := [at? a1 i1 = some x1, at? b1 i1 = some x2]) (by kernel_rfl) ⟨e3, e4, trivial⟩ ?_
          refine N_then ?_
          refine W_cond (b := !((eqInt x1.1 x2.1) && ((eqInt x1.2.1 x2.2.1) && ((eqInt x1.2.2.1 x2.2.2.1) && ((eqBool x1.2.2.2.1 x2.2.2.2.1) && (true)))))) (by kernel_rfl) (fun e5 => ?_) (fun e5 => ?_)
          · replace h := ite_t e5 h
            refine W_seq ?_
            refine W_region ?_
            refine WL_all hE [4] [] [] (st' := ⟨[(4, BB false)], [], []⟩) (orc := []) (ob := []) (by kernel_rfl) trivial ?_
            refine N_then ?_
            refine W_ret ?_
            refine N_block_ret ?_
            refine N_then_ret ?_
            refine N_then_ret ?_
            refine N_block_ret ?_
            refine N_then_ret ?_
            cases h
            exact N_end (.inl rfl) (by kernel_rfl)
          · replace h := ite_f e5 h
            refine W_skip ?_
            refine N_block ?_
            refine N_then ?_
            refine W_region ?_
            refine WL_all hE [0, 1, 5] [] [] (st' := ⟨[(0, .val (.sl (.pair (.int .i32) (.pair (.int .i64) (.pair (.int .i64) (.pair .bool .unit))))) a1), (1, .val (.sl (.pair (.int .i32) (.pair (.int .i64) (.pair (.int .i64) (.pair .bool .unit))))) b1), (5, I64 (wi64 (i1 + (1 : Int))))], [], []⟩) (orc := []) (ob := []) (by kernel_rfl) trivial ?_
            exact N_round (wi64 (i1 + (1 : Int))) (Nat.lt_succ_self _) h
        · replace h := ite_f e2 h
          refine W_exit ?_
          refine N_then_exit ?_
          refine N_then_exit ?_
          refine N_block_exit ?_
          refine N_then ?_
          refine W_seq ?_
          refine W_region ?_
          refine WL_all hE [4] [] [] (st' := ⟨[(4, BB true)], [], []⟩) (orc := []) (ob := []) (by kernel_rfl) trivial ?_
          refine N_then ?_
          refine W_ret ?_
          cases h
          exact N_end (.inl rfl) (by kernel_rfl)

def C_l01_RunesTexts (k : Nat) : FnC := ⟨true, 1, [], fun | [⟨.str, s1⟩, ⟨(.int .i64), from1⟩, ⟨(.int .i64), to1⟩], [⟨.bool, r⟩] => l01_RunesTexts k s1 from1 to1 = some r | _, _ => False⟩
noncomputable def E_l01_RunesTexts (k : Nat) : Env := ⟨Tryd.prog, Gl, 158, [(12, C_l01_long k), (14, C_r01_Pieces k), (15, C_runes_Len k), (16, C_r01_Len k), (17, C_runes_Broken k), (18, C_r01_Broken k), (19, C_runes_Part k), (20, C_r01_Part k), (21, C_runes_Back k), (22, C_r01_Back k), (23, C_r01_Same k)]⟩
theorem c_l01_RunesTexts (k : Nat) : Contract Tryd.prog Gl 4 (C_l01_RunesTexts k) := by
  refine contract_of Gl_stable (fn := Tryd.f4) Tryd.func4 (by kernel_rfl) rfl ?_ ?_
  · intro xs rs h
    unfold C_l01_RunesTexts at h
    simp only at h
    split at h
    · exact ⟨by show 3 ≤ _; rw [Tryd.ntmps4]; decide, rfl, fun _ u hu => by simp at hu; (rcases hu with rfl) <;> rfl⟩
    · exact h.elim
  · intro w0 M xs rs hG h
    unfold C_l01_RunesTexts at h
    simp only at h
    split at h
    case h_2 => exact h.elim
    rename_i s1 from1 to1 r
    change List UInt8 at s1
    change Int at from1
    change Int at to1
    change Bool at r
    have hE : EnvOK (E_l01_RunesTexts k) ⟨Tryd.prog, Tryd.f4.ntmps, w0, M, fun _ => False, fun _ => undef⟩ := (EnvOK.cons (c_l01_long k) (EnvOK.cons (c_r01_Pieces k) (EnvOK.cons (c_runes_Len k) (EnvOK.cons (c_r01_Len k) (EnvOK.cons (c_runes_Broken k) (EnvOK.cons (c_r01_Broken k) (EnvOK.cons (c_runes_Part k) (EnvOK.cons (c_r01_Part k) (EnvOK.cons (c_runes_Back k) (EnvOK.cons (c_r01_Back k) (EnvOK.cons (c_r01_Same k) (EnvOK.nil rfl Tryd.ntmps4 hG))))))))))))
    unfold l01_RunesTexts at h
    refine W_seq ?_
    refine W_region ?_
    refine WL_all hE [0, 1, 2] [] [] (st' := ⟨[(0, SS s1), (1, I64 from1), (2, I64 to1)], [], []⟩) (orc := []) (ob := []) (by kernel_rfl) trivial ?_
    refine N_then ?_
    refine W_seq ?_
    refine W_seq ?_
    refine W_region ?_
    obtain ⟨v1, e1, h⟩ := bind_some h
    refine WL_all hE [0, 1, 2, 31] [] [] (st' := ⟨[(0, SS s1), (1, I64 from1), (2, I64 to1), (31, BB v1)], [], []⟩) (orc := [tB v1]) (ob := [l01_long k s1 = some v1]) (by kernel_rfl) ⟨e1, trivial⟩ ?_
    refine N_then ?_
    refine W_cond (b := v1) (by kernel_rfl) (fun e2 => ?_) (fun e2 => ?_)
    · replace h := ite_t e2 h
      refine W_seq ?_
      refine W_region ?_
      refine WL_all hE [6] [] [] (st' := ⟨[(6, BB true)], [], []⟩) (orc := []) (ob := []) (by kernel_rfl) trivial ?_
      refine N_then ?_
      refine W_ret ?_
      refine N_then_ret ?_
      cases h
      exact N_end (.inl rfl) (by kernel_rfl)
    · replace h := ite_f e2 h
      refine W_skip ?_
      refine N_then ?_
      refine W_seq ?_
      refine W_region ?_
      refine WL_tk hE 1 [0, 1, 2, 33] [] [] (st' := ⟨[(0, SS s1), (1, I64 from1), (2, I64 to1), (33, SS s1)], [], []⟩) (orc := []) (ob := []) (by kernel_rfl) trivial ?_
      obtain ⟨v2, e3, h⟩ := bind_some h
      refine WL_callB hE (b_runes_Pieces_i1 k) s1 v2 e3 (ρ := []) (ρ' := [(3500001, 34)]) (n := 15) (by kernel_rfl) [0, 1, 2, 34] [] [34] (by kernel_rfl) (by kernel_rfl) (st' := ⟨[(0, SS s1), (1, I64 from1), (2, I64 to1), (34, .tups [.r 34, .v (tI64 v2.1)])], [], [(34, ⟨35, (.pair (.int .i32) (.pair (.int .i64) (.pair (.int .i64) (.pair .bool .unit)))), v2.2⟩)]⟩) (by kernel_rfl) ?_
      refine WL_all hE [0, 1, 2, 7, 8] [] [34] (st' := ⟨[(0, SS s1), (1, I64 from1), (2, I64 to1), (7, .row 34), (8, I64 v2.1)], [], [(34, ⟨35, (.pair (.int .i32) (.pair (.int .i64) (.pair (.int .i64) (.pair .bool .unit)))), v2.2⟩)]⟩) (orc := []) (ob := []) (by kernel_rfl) trivial ?_
      refine N_then ?_
      refine W_seq ?_
      refine W_region ?_
      obtain ⟨v3, e4, h⟩ := bind_some h
      refine WL_all hE [0, 1, 2, 7, 8, 9, 10] [] [34] (st' := ⟨[(0, SS s1), (1, I64 from1), (2, I64 to1), (7, .row 34), (8, I64 v2.1), (9, .val (.sl (.pair (.int .i32) (.pair (.int .i64) (.pair (.int .i64) (.pair .bool .unit))))) v3.1), (10, I64 v3.2)], [], [(34, ⟨35, (.pair (.int .i32) (.pair (.int .i64) (.pair (.int .i64) (.pair .bool .unit)))), v2.2⟩)]⟩) (orc := [⟨(.sl (.pair (.int .i32) (.pair (.int .i64) (.pair (.int .i64) (.pair .bool .unit))))), v3.1⟩, tI64 v3.2]) (ob := [r01_Pieces k s1 = some ((v3).1, (v3).2)]) (by kernel_rfl) ⟨e4, trivial⟩ ?_
      refine N_then ?_
      refine W_seq ?_
      refine W_region ?_
      obtain ⟨v4, e5, h⟩ := bind_some h
      refine WL_all hE [0, 1, 2, 7, 8, 9, 10, 11, 12] [] [34] (st' := ⟨[(0, SS s1), (1, I64 from1), (2, I64 to1), (7, .row 34), (8, I64 v2.1), (9, .val (.sl (.pair (.int .i32) (.pair (.int .i64) (.pair (.int .i64) (.pair .bool .unit))))) v3.1), (10, I64 v3.2), (11, I64 v4.1), (12, I64 v4.2)], [], [(34, ⟨35, (.pair (.int .i32) (.pair (.int .i64) (.pair (.int .i64) (.pair .bool .unit)))), v2.2⟩)]⟩) (orc := [tI64 v4.1, tI64 v4.2]) (ob := [runes_Len k s1 = some ((v4).1, (v4).2)]) (by kernel_rfl) ⟨e5, trivial⟩ ?_
      refine N_then ?_
      refine W_seq ?_
      refine W_region ?_
      obtain ⟨v5, e6, h⟩ := bind_some h
      refine WL_all hE [0, 1, 2, 7, 8, 9, 10, 11, 12, 13, 14] [] [34] (st' := ⟨[(0, SS s1), (1, I64 from1), (2, I64 to1), (7, .row 34), (8, I64 v2.1), (9, .val (.sl (.pair (.int .i32) (.pair (.int .i64) (.pair (.int .i64) (.pair .bool .unit))))) v3.1), (10, I64 v3.2), (11, I64 v4.1), (12, I64 v4.2), (13, I64 v5.1), (14, I64 v5.2)], [], [(34, ⟨35, (.pair (.int .i32) (.pair (.int .i64) (.pair (.int .i64) (.pair .bool .unit)))), v2.2⟩)]⟩) (orc := [tI64 v5.1, tI64 v5.2]) (ob := [r01_Len k s1 = some ((v5).1, (v5).2)]) (by kernel_rfl) ⟨e6, trivial⟩ ?_
      refine N_then ?_
      refine W_seq ?_
      refine W_region ?_
      obtain ⟨v6, e7, h⟩ := bind_some h
      refine WL_all hE [0, 1, 2, 7, 8, 9, 10, 11, 12, 13, 14, 15, 16] [] [34] (st' := ⟨[(0, SS s1), (1, I64 from1), (2, I64 to1), (7, .row 34), (8, I64 v2.1), (9, .val (.sl (.pair (.int .i32) (.pair (.int .i64) (.pair (.int .i64) (.pair .bool .unit))))) v3.1), (10, I64 v3.2), (11, I64 v4.1), (12, I64 v4.2), (13, I64 v5.1), (14, I64 v5.2), (15, I64 v6.1), (16, I64 v6.2)], [], [(34, ⟨35, (.pair (.int .i32) (.pair (.int .i64) (.pair (.int .i64) (.pair .bool .unit)))), v2.2⟩)]⟩) (orc := [tI64 v6.1, tI64 v6.2]) (ob := [runes_Broken k s1 = some ((v6).1, (v6).2)]) (by kernel_rfl) ⟨e7, trivial⟩ ?_
      refine N_then ?_
      refine W_seq ?_
      refine W_region ?_
      obtain ⟨v7, e8, h⟩ := bind_some h
      refine WL_all hE [0, 1, 2, 7, 8, 9, 10, 11, 12, 13, 14, 15, 16, 17, 18] [] [34] (st' := ⟨[(0, SS s1), (1, I64 from1), (2, I64 to1), (7, .row 34), (8, I64 v2.1), (9, .val (.sl (.pair (.int .i32) (.pair (.int .i64) (.pair (.int .i64) (.pair .bool .unit))))) v3.1), (10, I64 v3.2), (11, I64 v4.1), (12, I64 v4.2), (13, I64 v5.1), (14, I64 v5.2), (15, I64 v6.1), (16, I64 v6.2), (17, I64 v7.1), (18, I64 v7.2)], [], [(34, ⟨35, (.pair (.int .i32) (.pair (.int .i64) (.pair (.int .i64) (.pair .bool .unit)))), v2.2⟩)]⟩) (orc := [tI64 v7.1, tI64 v7.2]) (ob := [r01_Broken k s1 = some ((v7).1, (v7).2)]) (by kernel_rfl) ⟨e8, trivial⟩ ?_
      refine N_then ?_
      refine W_seq ?_
      refine W_region ?_
      obtain ⟨v8, e9, h⟩ := bind_some h
      refine WL_all hE [0, 1, 2, 7, 8, 9, 10, 11, 12, 13, 14, 15, 16, 17, 18, 19, 20] [] [34] (st' := ⟨[(0, SS s1), (1, I64 from1), (2, I64 to1), (7, .row 34), (8, I64 v2.1), (9, .val (.sl (.pair (.int .i32) (.pair (.int .i64) (.pair (.int .i64) (.pair .bool .unit))))) v3.1), (10, I64 v3.2), (11, I64 v4.1), (12, I64 v4.2), (13, I64 v5.1), (14, I64 v5.2), (15, I64 v6.1), (16, I64 v6.2), (17, I64 v7.1), (18, I64 v7.2), (19, SS v8.1), (20, I64 v8.2)], [], [(34, ⟨35, (.pair (.int .i32) (.pair (.int .i64) (.pair (.int .i64) (.pair .bool .unit)))), v2.2⟩)]⟩) (orc := [tS v8.1, tI64 v8.2]) (ob := [runes_Part k s1 from1 to1 = some ((v8).1, (v8).2)]) (by kernel_rfl) ⟨e9, trivial⟩ ?_
      refine N_then ?_
      refine W_seq ?_
      refine W_region ?_
      obtain ⟨v9, e10, h⟩ := bind_some h
      refine WL_all hE [0, 7, 8, 9, 10, 11, 12, 13, 14, 15, 16, 17, 18, 19, 20, 21, 22] [] [34] (st' := ⟨[(0, SS s1), (7, .row 34), (8, I64 v2.1), (9, .val (.sl (.pair (.int .i32) (.pair (.int .i64) (.pair (.int .i64) (.pair .bool .unit))))) v3.1), (10, I64 v3.2), (11, I64 v4.1), (12, I64 v4.2), (13, I64 v5.1), (14, I64 v5.2), (15, I64 v6.1), (16, I64 v6.2), (17, I64 v7.1), (18, I64 v7.2), (19, SS v8.1), (20, I64 v8.2), (21, SS v9.1), (22, I64 v9.2)], [], [(34, ⟨35, (.pair (.int .i32) (.pair (.int .i64) (.pair (.int .i64) (.pair .bool .unit)))), v2.2⟩)]⟩) (orc := [tS v9.1, tI64 v9.2]) (ob := [r01_Part k s1 from1 to1 = some ((v9).1, (v9).2)]) (by kernel_rfl) ⟨e10, trivial⟩ ?_
      refine N_then ?_
      refine W_seq ?_
      refine W_region ?_
      obtain ⟨v10, e11, h⟩ := bind_some h
      refine WL_all hE [0, 7, 8, 9, 10, 11, 12, 13, 14, 15, 16, 17, 18, 19, 20, 21, 22, 23, 24] [] [34] (st' := ⟨[(0, SS s1), (7, .row 34), (8, I64 v2.1), (9, .val (.sl (.pair (.int .i32) (.pair (.int .i64) (.pair (.int .i64) (.pair .bool .unit))))) v3.1), (10, I64 v3.2), (11, I64 v4.1), (12, I64 v4.2), (13, I64 v5.1), (14, I64 v5.2), (15, I64 v6.1), (16, I64 v6.2), (17, I64 v7.1), (18, I64 v7.2), (19, SS v8.1), (20, I64 v8.2), (21, SS v9.1), (22, I64 v9.2), (23, SS v10.1), (24, I64 v10.2)], [], [(34, ⟨35, (.pair (.int .i32) (.pair (.int .i64) (.pair (.int .i64) (.pair .bool .unit)))), v2.2⟩)]⟩) (orc := [tS v10.1, tI64 v10.2]) (ob := [runes_Back k s1 = some ((v10).1, (v10).2)]) (by kernel_rfl) ⟨e11, trivial⟩ ?_
      refine N_then ?_
      refine W_seq ?_
      refine W_region ?_
      obtain ⟨v11, e12, h⟩ := bind_some h
      refine WL_all hE [0, 7, 8, 9, 10, 11, 12, 13, 14, 15, 16, 17, 18, 19, 20, 21, 22, 23, 24, 25, 26] [] [34] (st' := ⟨[(0, SS s1), (7, .row 34), (8, I64 v2.1), (9, .val (.sl (.pair (.int .i32) (.pair (.int .i64) (.pair (.int .i64) (.pair .bool .unit))))) v3.1), (10, I64 v3.2), (11, I64 v4.1), (12, I64 v4.2), (13, I64 v5.1), (14, I64 v5.2), (15, I64 v6.1), (16, I64 v6.2), (17, I64 v7.1), (18, I64 v7.2), (19, SS v8.1), (20, I64 v8.2), (21, SS v9.1), (22, I64 v9.2), (23, SS v10.1), (24, I64 v10.2), (25, SS v11.1), (26, I64 v11.2)], [], [(34, ⟨35, (.pair (.int .i32) (.pair (.int .i64) (.pair (.int .i64) (.pair .bool .unit)))), v2.2⟩)]⟩) (orc := [tS v11.1, tI64 v11.2]) (ob := [r01_Back k s1 = some ((v11).1, (v11).2)]) (by kernel_rfl) ⟨e12, trivial⟩ ?_
      refine N_then ?_
      refine W_seq ?_
      refine W_seq ?_
      refine W_region ?_
      refine WL_tk hE 4 [0, 7, 9, 10, 11, 12, 13, 14, 15, 16, 17, 18, 19, 20, 21, 22, 23, 24, 25, 26, 89] [] [34] (st' := ⟨[(0, SS s1), (7, .row 34), (9, .val (.sl (.pair (.int .i32) (.pair (.int .i64) (.pair (.int .i64) (.pair .bool .unit))))) v3.1), (10, I64 v3.2), (11, I64 v4.1), (12, I64 v4.2), (13, I64 v5.1), (14, I64 v5.2), (15, I64 v6.1), (16, I64 v6.2), (17, I64 v7.1), (18, I64 v7.2), (19, SS v8.1), (20, I64 v8.2), (21, SS v9.1), (22, I64 v9.2), (23, SS v10.1), (24, I64 v10.2), (25, SS v11.1), (26, I64 v11.2), (89, BB (v2.1 != v3.2))], [], [(34, ⟨35, (.pair (.int .i32) (.pair (.int .i64) (.pair (.int .i64) (.pair .bool .unit)))), v2.2⟩)]⟩) (orc := []) (ob := []) (by kernel_rfl) trivial ?_
      refine WL_join (α := Bool) (fun z => l01_RunesTexts_j1 k s1 v3 v2 v10 v11 v8 v9 v6 v7 v4 v5 z = some r) (fun t1 => ⟨[(0, SS s1), (7, .row 34), (9, .val (.sl (.pair (.int .i32) (.pair (.int .i64) (.pair (.int .i64) (.pair .bool .unit))))) v3.1), (10, I64 v3.2), (11, I64 v4.1), (13, I64 v5.1), (15, I64 v6.1), (16, I64 v6.2), (17, I64 v7.1), (18, I64 v7.2), (19, SS v8.1), (20, I64 v8.2), (21, SS v9.1), (22, I64 v9.2), (23, SS v10.1), (24, I64 v10.2), (25, SS v11.1), (26, I64 v11.2), (93, BB t1)], [], [(34, ⟨35, (.pair (.int .i32) (.pair (.int .i64) (.pair (.int .i64) (.pair .bool .unit)))), v2.2⟩)]⟩) 4 ?_ (fun hJ1 => ?_)
      · rintro t1 h
        unfold l01_RunesTexts_j1 at h
        refine WL_tk hE 1 [0, 7, 9, 10, 11, 13, 15, 16, 17, 18, 19, 20, 21, 22, 23, 24, 25, 26, 94] [] [34] (st' := ⟨[(0, SS s1), (7, .row 34), (9, .val (.sl (.pair (.int .i32) (.pair (.int .i64) (.pair (.int .i64) (.pair .bool .unit))))) v3.1), (10, I64 v3.2), (11, I64 v4.1), (13, I64 v5.1), (15, I64 v6.1), (16, I64 v6.2), (17, I64 v7.1), (18, I64 v7.2), (19, SS v8.1), (20, I64 v8.2), (21, SS v9.1), (22, I64 v9.2), (23, SS v10.1), (24, I64 v10.2), (25, SS v11.1), (26, I64 v11.2), (94, BB t1)], [], [(34, ⟨35, (.pair (.int .i32) (.pair (.int .i64) (.pair (.int .i64) (.pair .bool .unit)))), v2.2⟩)]⟩) (orc := []) (ob := []) (by kernel_rfl) trivial ?_
        refine WL_join (α := Bool) (fun z => l01_RunesTexts_j2 k s1 v3 v2 v10 v11 v8 v9 v6 v7 v4 v5 z = some r) (fun t2 => ⟨[(0, SS s1), (7, .row 34), (9, .val (.sl (.pair (.int .i32) (.pair (.int .i64) (.pair (.int .i64) (.pair .bool .unit))))) v3.1), (10, I64 v3.2), (11, I64 v4.1), (13, I64 v5.1), (15, I64 v6.1), (17, I64 v7.1), (19, SS v8.1), (20, I64 v8.2), (21, SS v9.1), (22, I64 v9.2), (23, SS v10.1), (24, I64 v10.2), (25, SS v11.1), (26, I64 v11.2), (98, BB t2)], [], [(34, ⟨35, (.pair (.int .i32) (.pair (.int .i64) (.pair (.int .i64) (.pair .bool .unit)))), v2.2⟩)]⟩) 4 ?_ (fun hJ2 => ?_)
        · rintro t2 h
          unfold l01_RunesTexts_j2 at h
          refine WL_tk hE 1 [0, 7, 9, 10, 11, 13, 15, 17, 19, 20, 21, 22, 23, 24, 25, 26, 99] [] [34] (st' := ⟨[(0, SS s1), (7, .row 34), (9, .val (.sl (.pair (.int .i32) (.pair (.int .i64) (.pair (.int .i64) (.pair .bool .unit))))) v3.1), (10, I64 v3.2), (11, I64 v4.1), (13, I64 v5.1), (15, I64 v6.1), (17, I64 v7.1), (19, SS v8.1), (20, I64 v8.2), (21, SS v9.1), (22, I64 v9.2), (23, SS v10.1), (24, I64 v10.2), (25, SS v11.1), (26, I64 v11.2), (99, BB t2)], [], [(34, ⟨35, (.pair (.int .i32) (.pair (.int .i64) (.pair (.int .i64) (.pair .bool .unit)))), v2.2⟩)]⟩) (orc := []) (ob := []) (by kernel_rfl) trivial ?_
          refine WL_join (α := Bool) (fun z => l01_RunesTexts_j3 k s1 v3 v2 v10 v11 v8 v9 v6 v7 v4 v5 z = some r) (fun t3 => ⟨[(0, SS s1), (7, .row 34), (9, .val (.sl (.pair (.int .i32) (.pair (.int .i64) (.pair (.int .i64) (.pair .bool .unit))))) v3.1), (10, I64 v3.2), (11, I64 v4.1), (13, I64 v5.1), (15, I64 v6.1), (17, I64 v7.1), (19, SS v8.1), (21, SS v9.1), (23, SS v10.1), (24, I64 v10.2), (25, SS v11.1), (26, I64 v11.2), (103, BB t3)], [], [(34, ⟨35, (.pair (.int .i32) (.pair (.int .i64) (.pair (.int .i64) (.pair .bool .unit)))), v2.2⟩)]⟩) 4 ?_ (fun hJ3 => ?_)
          · rintro t3 h
            unfold l01_RunesTexts_j3 at h
            refine WL_tk hE 1 [0, 7, 9, 10, 11, 13, 15, 17, 19, 21, 23, 24, 25, 26, 104] [] [34] (st' := ⟨[(0, SS s1), (7, .row 34), (9, .val (.sl (.pair (.int .i32) (.pair (.int .i64) (.pair (.int .i64) (.pair .bool .unit))))) v3.1), (10, I64 v3.2), (11, I64 v4.1), (13, I64 v5.1), (15, I64 v6.1), (17, I64 v7.1), (19, SS v8.1), (21, SS v9.1), (23, SS v10.1), (24, I64 v10.2), (25, SS v11.1), (26, I64 v11.2), (104, BB t3)], [], [(34, ⟨35, (.pair (.int .i32) (.pair (.int .i64) (.pair (.int .i64) (.pair .bool .unit)))), v2.2⟩)]⟩) (orc := []) (ob := []) (by kernel_rfl) trivial ?_
            refine WL_join (α := Bool) (fun z => l01_RunesTexts_j4 k s1 v3 v2 v10 v11 v8 v9 v6 v7 v4 v5 z = some r) (fun t4 => ⟨[(0, SS s1), (7, .row 34), (9, .val (.sl (.pair (.int .i32) (.pair (.int .i64) (.pair (.int .i64) (.pair .bool .unit))))) v3.1), (10, I64 v3.2), (11, I64 v4.1), (13, I64 v5.1), (15, I64 v6.1), (17, I64 v7.1), (19, SS v8.1), (21, SS v9.1), (23, SS v10.1), (25, SS v11.1), (108, BB t4)], [], [(34, ⟨35, (.pair (.int .i32) (.pair (.int .i64) (.pair (.int .i64) (.pair .bool .unit)))), v2.2⟩)]⟩) 4 ?_ (fun hJ4 => ?_)
            · rintro t4 h
              unfold l01_RunesTexts_j4 at h
              refine WL_tk hE 1 [0, 7, 9, 10, 11, 13, 15, 17, 19, 21, 23, 25, 109] [] [34] (st' := ⟨[(0, SS s1), (7, .row 34), (9, .val (.sl (.pair (.int .i32) (.pair (.int .i64) (.pair (.int .i64) (.pair .bool .unit))))) v3.1), (10, I64 v3.2), (11, I64 v4.1), (13, I64 v5.1), (15, I64 v6.1), (17, I64 v7.1), (19, SS v8.1), (21, SS v9.1), (23, SS v10.1), (25, SS v11.1), (109, BB t4)], [], [(34, ⟨35, (.pair (.int .i32) (.pair (.int .i64) (.pair (.int .i64) (.pair .bool .unit)))), v2.2⟩)]⟩) (orc := []) (ob := []) (by kernel_rfl) trivial ?_
              refine WL_join (α := Bool) (fun z => l01_RunesTexts_j5 k s1 v3 v2 v10 v11 v8 v9 v6 v7 z = some r) (fun t5 => ⟨[(0, SS s1), (7, .row 34), (9, .val (.sl (.pair (.int .i32) (.pair (.int .i64) (.pair (.int .i64) (.pair .bool .unit))))) v3.1), (10, I64 v3.2), (15, I64 v6.1), (17, I64 v7.1), (19, SS v8.1), (21, SS v9.1), (23, SS v10.1), (25, SS v11.1), (113, BB t5)], [], [(34, ⟨35, (.pair (.int .i32) (.pair (.int .i64) (.pair (.int .i64) (.pair .bool .unit)))), v2.2⟩)]⟩) 4 ?_ (fun hJ5 => ?_)
              · rintro t5 h
                unfold l01_RunesTexts_j5 at h
                refine WL_tk hE 1 [0, 7, 9, 10, 15, 17, 19, 21, 23, 25, 114] [] [34] (st' := ⟨[(0, SS s1), (7, .row 34), (9, .val (.sl (.pair (.int .i32) (.pair (.int .i64) (.pair (.int .i64) (.pair .bool .unit))))) v3.1), (10, I64 v3.2), (15, I64 v6.1), (17, I64 v7.1), (19, SS v8.1), (21, SS v9.1), (23, SS v10.1), (25, SS v11.1), (114, BB t5)], [], [(34, ⟨35, (.pair (.int .i32) (.pair (.int .i64) (.pair (.int .i64) (.pair .bool .unit)))), v2.2⟩)]⟩) (orc := []) (ob := []) (by kernel_rfl) trivial ?_
                refine WL_join (α := Bool) (fun z => l01_RunesTexts_j6 k s1 v3 v2 v10 v11 v8 v9 z = some r) (fun t6 => ⟨[(0, SS s1), (7, .row 34), (9, .val (.sl (.pair (.int .i32) (.pair (.int .i64) (.pair (.int .i64) (.pair .bool .unit))))) v3.1), (10, I64 v3.2), (19, SS v8.1), (21, SS v9.1), (23, SS v10.1), (25, SS v11.1), (118, BB t6)], [], [(34, ⟨35, (.pair (.int .i32) (.pair (.int .i64) (.pair (.int .i64) (.pair .bool .unit)))), v2.2⟩)]⟩) 4 ?_ (fun hJ6 => ?_)
                · rintro t6 h
                  unfold l01_RunesTexts_j6 at h
                  refine WL_tk hE 1 [0, 7, 9, 10, 19, 21, 23, 25, 119] [] [34] (st' := ⟨[(0, SS s1), (7, .row 34), (9, .val (.sl (.pair (.int .i32) (.pair (.int .i64) (.pair (.int .i64) (.pair .bool .unit))))) v3.1), (10, I64 v3.2), (19, SS v8.1), (21, SS v9.1), (23, SS v10.1), (25, SS v11.1), (119, BB t6)], [], [(34, ⟨35, (.pair (.int .i32) (.pair (.int .i64) (.pair (.int .i64) (.pair .bool .unit)))), v2.2⟩)]⟩) (orc := []) (ob := []) (by kernel_rfl) trivial ?_
                  refine WL_join (α := Bool) (fun z => l01_RunesTexts_j7 k s1 v3 v2 v10 v11 z = some r) (fun t7 => ⟨[(0, SS s1), (7, .row 34), (9, .val (.sl (.pair (.int .i32) (.pair (.int .i64) (.pair (.int .i64) (.pair .bool .unit))))) v3.1), (10, I64 v3.2), (23, SS v10.1), (25, SS v11.1), (123, BB t7)], [], [(34, ⟨35, (.pair (.int .i32) (.pair (.int .i64) (.pair (.int .i64) (.pair .bool .unit)))), v2.2⟩)]⟩) 4 ?_ (fun hJ7 => ?_)
                  · rintro t7 h
                    unfold l01_RunesTexts_j7 at h
                    refine WL_tk hE 1 [0, 7, 9, 10, 23, 25, 124] [] [34] (st' := ⟨[(0, SS s1), (7, .row 34), (9, .val (.sl (.pair (.int .i32) (.pair (.int .i64) (.pair (.int .i64) (.pair .bool .unit))))) v3.1), (10, I64 v3.2), (23, SS v10.1), (25, SS v11.1), (124, BB t7)], [], [(34, ⟨35, (.pair (.int .i32) (.pair (.int .i64) (.pair (.int .i64) (.pair .bool .unit)))), v2.2⟩)]⟩) (orc := []) (ob := []) (by kernel_rfl) trivial ?_
                    refine WL_join (α := Bool) (fun z => l01_RunesTexts_j8 k s1 v3 v2 z = some r) (fun t8 => ⟨[(0, SS s1), (7, .row 34), (9, .val (.sl (.pair (.int .i32) (.pair (.int .i64) (.pair (.int .i64) (.pair .bool .unit))))) v3.1), (10, I64 v3.2), (128, BB t8)], [], [(34, ⟨35, (.pair (.int .i32) (.pair (.int .i64) (.pair (.int .i64) (.pair .bool .unit)))), v2.2⟩)]⟩) 4 ?_ (fun hJ8 => ?_)
                    · rintro t8 h
                      unfold l01_RunesTexts_j8 at h
                      refine WL_tk hE 1 [0, 7, 9, 10, 129] [] [34] (st' := ⟨[(0, SS s1), (7, .row 34), (9, .val (.sl (.pair (.int .i32) (.pair (.int .i64) (.pair (.int .i64) (.pair .bool .unit))))) v3.1), (10, I64 v3.2), (129, BB t8)], [], [(34, ⟨35, (.pair (.int .i32) (.pair (.int .i64) (.pair (.int .i64) (.pair .bool .unit)))), v2.2⟩)]⟩) (orc := []) (ob := []) (by kernel_rfl) trivial ?_
                      refine WL_join (α := Bool) (fun z => l01_RunesTexts_j9 k s1 v3 v2 z = some r) (fun t9 => ⟨[(0, SS s1), (7, .row 34), (9, .val (.sl (.pair (.int .i32) (.pair (.int .i64) (.pair (.int .i64) (.pair .bool .unit))))) v3.1), (10, I64 v3.2), (134, BB t9)], [], [(34, ⟨35, (.pair (.int .i32) (.pair (.int .i64) (.pair (.int .i64) (.pair .bool .unit)))), v2.2⟩)]⟩) 5 ?_ (fun hJ9 => ?_)
                      · rintro t9 h
                        unfold l01_RunesTexts_j9 at h
                        refine WL_nil ?_
                        refine N_then ?_
                        refine W_cond (b := t9) (by kernel_rfl) (fun e13 => ?_) (fun e13 => ?_)
                        · replace h := ite_t e13 h
                          refine W_seq ?_
                          refine W_region ?_
                          refine WL_all hE [6] [] [] (st' := ⟨[(6, BB false)], [], []⟩) (orc := []) (ob := []) (by kernel_rfl) trivial ?_
                          refine N_then ?_
                          refine W_ret ?_
                          refine N_then_ret ?_
                          cases h
                          exact N_end (.inl rfl) (by kernel_rfl)
                        · replace h := ite_f e13 h
                          refine W_skip ?_
                          refine N_then ?_
                          refine W_seq ?_
                          refine W_seq ?_
                          refine W_region ?_
                          refine WL_all hE [0, 7, 9, 10, 27] [] [34] (st' := ⟨[(0, SS s1), (7, .row 34), (9, .val (.sl (.pair (.int .i32) (.pair (.int .i64) (.pair (.int .i64) (.pair .bool .unit))))) v3.1), (10, I64 v3.2), (27, I64 (0 : Int))], [], [(34, ⟨35, (.pair (.int .i32) (.pair (.int .i64) (.pair (.int .i64) (.pair .bool .unit)))), v2.2⟩)]⟩) (orc := []) (ob := []) (by kernel_rfl) trivial ?_
                          refine N_then ?_
                          refine W_block ?_
                          refine W_loop (α := (Int × List ((Int × Int × Int × Bool × Unit)))) (fun n z => l01_RunesTexts_l1 k s1 v3 n z.1 z.2 = some r) (fun z => ⟨[(0, SS s1), (7, .row 34), (9, .val (.sl (.pair (.int .i32) (.pair (.int .i64) (.pair (.int .i64) (.pair .bool .unit))))) v3.1), (10, I64 v3.2), (27, I64 (z.1))], [], [(34, ⟨35, (.pair (.int .i32) (.pair (.int .i64) (.pair (.int .i64) (.pair .bool .unit)))), (z.2)⟩)]⟩) ?_ (k := k) (x := ((0 : Int), v2.2)) h
                          clear h
                          rintro fuel1 ⟨i1, t10⟩ h
                          cases fuel1 with
                          | zero => exact absurd (show none = some _ from h) (by simp)
                          | succ fuel1 =>
                            have h : l01_RunesTexts_b1 k s1 v3 (l01_RunesTexts_l1 k s1 v3 fuel1) i1 t10 = some r := h
                            unfold l01_RunesTexts_b1 at h
                            refine W_seq ?_
                            refine W_seq ?_
                            refine W_region ?_
                            refine WL_all hE [0, 7, 9, 10, 27, 138] [] [34] (st' := ⟨[(0, SS s1), (7, .row 34), (9, .val (.sl (.pair (.int .i32) (.pair (.int .i64) (.pair (.int .i64) (.pair .bool .unit))))) v3.1), (10, I64 v3.2), (27, I64 i1), (138, BB (decide (i1 < (List.length t10 : Int))))], [], [(34, ⟨35, (.pair (.int .i32) (.pair (.int .i64) (.pair (.int .i64) (.pair .bool .unit)))), t10⟩)]⟩) (orc := []) (ob := []) (by kernel_rfl) trivial ?_
                            refine N_then ?_
                            refine W_cond (b := decide (i1 < (List.length t10 : Int))) (by kernel_rfl) (fun e14 => ?_) (fun e14 => ?_)
                            · replace h := ite_t e14 h
                              refine W_skip ?_
                              refine N_then ?_
                              refine W_seq ?_
                              refine W_block ?_
                              refine W_region ?_
                              obtain ⟨x1, e15, h⟩ := bind_some h
                              refine WL_all hE [0, 7, 9, 10, 27] [] [34] (st' := ⟨[(0, SS s1), (7, .row 34), (9, .val (.sl (.pair (.int .i32) (.pair (.int .i64) (.pair (.int .i64) (.pair .bool .unit))))) v3.1), (10, I64 v3.2), (27, I64 i1)], [], [(34, ⟨35, (.pair (.int .i32) (.pair (.int .i64) (.pair (.int .i64) (.pair .bool .unit)))), List.set t10 (i1).toNat ((77 : Int), (0 : Int), (0 : Int), false, ())⟩)]⟩) (orc := [⟨(.pair (.int .i32) (.pair (.int .i64) (.pair (.int .i64) (.pair .bool .unit)))), x1⟩, ⟨(.pair (.int .i32) (.pair (.int .i64) (.pair (.int .i64) (.pair .bool .unit)))), x1⟩]) (ob := [at? t10 i1 = some x1, at? t10 i1 = some x1]) (by kernel_rfl) ⟨e15, e15, trivial⟩ ?_
                              refine N_block ?_
                              refine N_then ?_
                              refine W_region ?_
                              refine WL_all hE [0, 7, 9, 10, 27] [] [34] (st' := ⟨[(0, SS s1), (7, .row 34), (9, .val (.sl (.pair (.int .i32) (.pair (.int .i64) (.pair (.int .i64) (.pair .bool .unit))))) v3.1), (10, I64 v3.2), (27, I64 (wi64 (i1 + (1 : Int))))], [], [(34, ⟨35, (.pair (.int .i32) (.pair (.int .i64) (.pair (.int .i64) (.pair .bool .unit)))), List.set t10 (i1).toNat ((77 : Int), (0 : Int), (0 : Int), false, ())⟩)]⟩) (orc := []) (ob := []) (by kernel_rfl) trivial ?_
                              exact N_round (wi64 (i1 + (1 : Int)), List.set t10 (i1).toNat ((77 : Int), (0 : Int), (0 : Int), false, ())) (Nat.lt_succ_self _) h
                            · replace h := ite_f e14 h
                              refine W_exit ?_
                              refine N_then_exit ?_
                              refine N_then_exit ?_
                              refine N_block_exit ?_
                              refine N_then ?_
                              refine W_seq ?_
                              refine W_region ?_
                              refine WL_tk hE 1 [9, 10, 146] [] [] (st' := ⟨[(9, .val (.sl (.pair (.int .i32) (.pair (.int .i64) (.pair (.int .i64) (.pair .bool .unit))))) v3.1), (10, I64 v3.2), (146, SS s1)], [], []⟩) (orc := []) (ob := []) (by kernel_rfl) trivial ?_
                              obtain ⟨v12, e16, h⟩ := bind_some h
                              refine WL_callB hE (b_runes_Pieces_i1 k) s1 v12 e16 (ρ := []) (ρ' := [(3500001, 147)]) (n := 15) (by kernel_rfl) [9, 10, 147] [] [147] (by kernel_rfl) (by kernel_rfl) (st' := ⟨[(9, .val (.sl (.pair (.int .i32) (.pair (.int .i64) (.pair (.int .i64) (.pair .bool .unit))))) v3.1), (10, I64 v3.2), (147, .tups [.r 147, .v (tI64 v12.1)])], [], [(147, ⟨35, (.pair (.int .i32) (.pair (.int .i64) (.pair (.int .i64) (.pair .bool .unit)))), v12.2⟩)]⟩) (by kernel_rfl) ?_
                              refine WL_all hE [9, 10, 28, 29] [] [147] (st' := ⟨[(9, .val (.sl (.pair (.int .i32) (.pair (.int .i64) (.pair (.int .i64) (.pair .bool .unit))))) v3.1), (10, I64 v3.2), (28, .row 147), (29, I64 v12.1)], [], [(147, ⟨35, (.pair (.int .i32) (.pair (.int .i64) (.pair (.int .i64) (.pair .bool .unit)))), v12.2⟩)]⟩) (orc := []) (ob := []) (by kernel_rfl) trivial ?_
                              refine N_then ?_
                              refine W_seq ?_
                              refine W_region ?_
                              refine WL_tk hE 4 [9, 28, 153] [] [147] (st' := ⟨[(9, .val (.sl (.pair (.int .i32) (.pair (.int .i64) (.pair (.int .i64) (.pair .bool .unit))))) v3.1), (28, .row 147), (153, BB (v12.1 == v3.2))], [], [(147, ⟨35, (.pair (.int .i32) (.pair (.int .i64) (.pair (.int .i64) (.pair .bool .unit)))), v12.2⟩)]⟩) (orc := []) (ob := []) (by kernel_rfl) trivial ?_
                              refine WL_join (α := Bool) (fun z => l01_RunesTexts_j10 z = some r) (fun t11 => ⟨[(157, BB t11)], [], []⟩) 4 ?_ (fun hJ10 => ?_)
                              · rintro t11 h
                                unfold l01_RunesTexts_j10 at h
                                refine WL_all hE [6] [] [] (st' := ⟨[(6, BB t11)], [], []⟩) (orc := []) (ob := []) (by kernel_rfl) trivial ?_
                                refine N_then ?_
                                refine W_ret ?_
                                cases h
                                exact N_end (.inl rfl) (by kernel_rfl)
                              refine WL_split (fun g => ⟨[(9, .val (.sl (.pair (.int .i32) (.pair (.int .i64) (.pair (.int .i64) (.pair .bool .unit))))) v3.1), (28, .row 147), (153, BB g)], [], [(147, ⟨35, (.pair (.int .i32) (.pair (.int .i64) (.pair (.int .i64) (.pair .bool .unit)))), v12.2⟩)]⟩) (b := v12.1 == v3.2) (fun e17 => ?_) (fun e17 => ?_)
                              · replace h := ite_t e17 h
                                obtain ⟨v13, e18, h⟩ := bind_some h
                                refine WL_all hE [157] [] [] (st' := ⟨[(157, BB v13)], [], []⟩) (orc := [tB v13]) (ob := [r01_Same k v12.2 v3.1 = some v13]) (by kernel_rfl) ⟨e18, trivial⟩ ?_
                                exact hJ10 v13 h
                              · replace h := ite_f e17 h
                                refine WL_all hE [157] [] [] (st' := ⟨[(157, BB false)], [], []⟩) (orc := []) (ob := []) (by kernel_rfl) trivial ?_
                                exact hJ10 false h
                      refine WL_split (fun g => ⟨[(0, SS s1), (7, .row 34), (9, .val (.sl (.pair (.int .i32) (.pair (.int .i64) (.pair (.int .i64) (.pair .bool .unit))))) v3.1), (10, I64 v3.2), (129, BB g)], [], [(34, ⟨35, (.pair (.int .i32) (.pair (.int .i64) (.pair (.int .i64) (.pair .bool .unit)))), v2.2⟩)]⟩) (b := t8) (fun e19 => ?_) (fun e19 => ?_)
                      · replace h := ite_t e19 h
                        refine WL_all hE [0, 7, 9, 10, 134] [] [34] (st' := ⟨[(0, SS s1), (7, .row 34), (9, .val (.sl (.pair (.int .i32) (.pair (.int .i64) (.pair (.int .i64) (.pair .bool .unit))))) v3.1), (10, I64 v3.2), (134, BB true)], [], [(34, ⟨35, (.pair (.int .i32) (.pair (.int .i64) (.pair (.int .i64) (.pair .bool .unit)))), v2.2⟩)]⟩) (orc := []) (ob := []) (by kernel_rfl) trivial ?_
                        exact hJ9 true h
                      · replace h := ite_f e19 h
                        obtain ⟨v14, e20, h⟩ := bind_some h
                        refine WL_all hE [0, 7, 9, 10, 134] [] [34] (st' := ⟨[(0, SS s1), (7, .row 34), (9, .val (.sl (.pair (.int .i32) (.pair (.int .i64) (.pair (.int .i64) (.pair .bool .unit))))) v3.1), (10, I64 v3.2), (134, BB (!v14))], [], [(34, ⟨35, (.pair (.int .i32) (.pair (.int .i64) (.pair (.int .i64) (.pair .bool .unit)))), v2.2⟩)]⟩) (orc := [tB v14]) (ob := [r01_Same k v2.2 v3.1 = some v14]) (by kernel_rfl) ⟨e20, trivial⟩ ?_
                        exact hJ9 (!v14) h
                    refine WL_split (fun g => ⟨[(0, SS s1), (7, .row 34), (9, .val (.sl (.pair (.int .i32) (.pair (.int .i64) (.pair (.int .i64) (.pair .bool .unit))))) v3.1), (10, I64 v3.2), (23, SS v10.1), (25, SS v11.1), (124, BB g)], [], [(34, ⟨35, (.pair (.int .i32) (.pair (.int .i64) (.pair (.int .i64) (.pair .bool .unit)))), v2.2⟩)]⟩) (b := t7) (fun e21 => ?_) (fun e21 => ?_)
                    · rw [or_t e21] at h
                      refine WL_all hE [0, 7, 9, 10, 128] [] [34] (st' := ⟨[(0, SS s1), (7, .row 34), (9, .val (.sl (.pair (.int .i32) (.pair (.int .i64) (.pair (.int .i64) (.pair .bool .unit))))) v3.1), (10, I64 v3.2), (128, BB true)], [], [(34, ⟨35, (.pair (.int .i32) (.pair (.int .i64) (.pair (.int .i64) (.pair .bool .unit)))), v2.2⟩)]⟩) (orc := []) (ob := []) (by kernel_rfl) trivial ?_
                      exact hJ8 true h
                    · rw [or_f e21] at h
                      refine WL_all hE [0, 7, 9, 10, 128] [] [34] (st' := ⟨[(0, SS s1), (7, .row 34), (9, .val (.sl (.pair (.int .i32) (.pair (.int .i64) (.pair (.int .i64) (.pair .bool .unit))))) v3.1), (10, I64 v3.2), (128, BB (!(v10.1 == v11.1)))], [], [(34, ⟨35, (.pair (.int .i32) (.pair (.int .i64) (.pair (.int .i64) (.pair .bool .unit)))), v2.2⟩)]⟩) (orc := []) (ob := []) (by kernel_rfl) trivial ?_
                      exact hJ8 (!(v10.1 == v11.1)) h
                  refine WL_split (fun g => ⟨[(0, SS s1), (7, .row 34), (9, .val (.sl (.pair (.int .i32) (.pair (.int .i64) (.pair (.int .i64) (.pair .bool .unit))))) v3.1), (10, I64 v3.2), (19, SS v8.1), (21, SS v9.1), (23, SS v10.1), (25, SS v11.1), (119, BB g)], [], [(34, ⟨35, (.pair (.int .i32) (.pair (.int .i64) (.pair (.int .i64) (.pair .bool .unit)))), v2.2⟩)]⟩) (b := t6) (fun e22 => ?_) (fun e22 => ?_)
                  · rw [or_t e22] at h
                    refine WL_all hE [0, 7, 9, 10, 23, 25, 123] [] [34] (st' := ⟨[(0, SS s1), (7, .row 34), (9, .val (.sl (.pair (.int .i32) (.pair (.int .i64) (.pair (.int .i64) (.pair .bool .unit))))) v3.1), (10, I64 v3.2), (23, SS v10.1), (25, SS v11.1), (123, BB true)], [], [(34, ⟨35, (.pair (.int .i32) (.pair (.int .i64) (.pair (.int .i64) (.pair .bool .unit)))), v2.2⟩)]⟩) (orc := []) (ob := []) (by kernel_rfl) trivial ?_
                    exact hJ7 true h
                  · rw [or_f e22] at h
                    refine WL_all hE [0, 7, 9, 10, 23, 25, 123] [] [34] (st' := ⟨[(0, SS s1), (7, .row 34), (9, .val (.sl (.pair (.int .i32) (.pair (.int .i64) (.pair (.int .i64) (.pair .bool .unit))))) v3.1), (10, I64 v3.2), (23, SS v10.1), (25, SS v11.1), (123, BB (!(v8.1 == v9.1)))], [], [(34, ⟨35, (.pair (.int .i32) (.pair (.int .i64) (.pair (.int .i64) (.pair .bool .unit)))), v2.2⟩)]⟩) (orc := []) (ob := []) (by kernel_rfl) trivial ?_
                    exact hJ7 (!(v8.1 == v9.1)) h
                refine WL_split (fun g => ⟨[(0, SS s1), (7, .row 34), (9, .val (.sl (.pair (.int .i32) (.pair (.int .i64) (.pair (.int .i64) (.pair .bool .unit))))) v3.1), (10, I64 v3.2), (15, I64 v6.1), (17, I64 v7.1), (19, SS v8.1), (21, SS v9.1), (23, SS v10.1), (25, SS v11.1), (114, BB g)], [], [(34, ⟨35, (.pair (.int .i32) (.pair (.int .i64) (.pair (.int .i64) (.pair .bool .unit)))), v2.2⟩)]⟩) (b := t5) (fun e23 => ?_) (fun e23 => ?_)
                · rw [or_t e23] at h
                  refine WL_all hE [0, 7, 9, 10, 19, 21, 23, 25, 118] [] [34] (st' := ⟨[(0, SS s1), (7, .row 34), (9, .val (.sl (.pair (.int .i32) (.pair (.int .i64) (.pair (.int .i64) (.pair .bool .unit))))) v3.1), (10, I64 v3.2), (19, SS v8.1), (21, SS v9.1), (23, SS v10.1), (25, SS v11.1), (118, BB true)], [], [(34, ⟨35, (.pair (.int .i32) (.pair (.int .i64) (.pair (.int .i64) (.pair .bool .unit)))), v2.2⟩)]⟩) (orc := []) (ob := []) (by kernel_rfl) trivial ?_
                  exact hJ6 true h
                · rw [or_f e23] at h
                  refine WL_all hE [0, 7, 9, 10, 19, 21, 23, 25, 118] [] [34] (st' := ⟨[(0, SS s1), (7, .row 34), (9, .val (.sl (.pair (.int .i32) (.pair (.int .i64) (.pair (.int .i64) (.pair .bool .unit))))) v3.1), (10, I64 v3.2), (19, SS v8.1), (21, SS v9.1), (23, SS v10.1), (25, SS v11.1), (118, BB (v6.1 != v7.1))], [], [(34, ⟨35, (.pair (.int .i32) (.pair (.int .i64) (.pair (.int .i64) (.pair .bool .unit)))), v2.2⟩)]⟩) (orc := []) (ob := []) (by kernel_rfl) trivial ?_
                  exact hJ6 (v6.1 != v7.1) h
              refine WL_split (fun g => ⟨[(0, SS s1), (7, .row 34), (9, .val (.sl (.pair (.int .i32) (.pair (.int .i64) (.pair (.int .i64) (.pair .bool .unit))))) v3.1), (10, I64 v3.2), (11, I64 v4.1), (13, I64 v5.1), (15, I64 v6.1), (17, I64 v7.1), (19, SS v8.1), (21, SS v9.1), (23, SS v10.1), (25, SS v11.1), (109, BB g)], [], [(34, ⟨35, (.pair (.int .i32) (.pair (.int .i64) (.pair (.int .i64) (.pair .bool .unit)))), v2.2⟩)]⟩) (b := t4) (fun e24 => ?_) (fun e24 => ?_)
              · rw [or_t e24] at h
                refine WL_all hE [0, 7, 9, 10, 15, 17, 19, 21, 23, 25, 113] [] [34] (st' := ⟨[(0, SS s1), (7, .row 34), (9, .val (.sl (.pair (.int .i32) (.pair (.int .i64) (.pair (.int .i64) (.pair .bool .unit))))) v3.1), (10, I64 v3.2), (15, I64 v6.1), (17, I64 v7.1), (19, SS v8.1), (21, SS v9.1), (23, SS v10.1), (25, SS v11.1), (113, BB true)], [], [(34, ⟨35, (.pair (.int .i32) (.pair (.int .i64) (.pair (.int .i64) (.pair .bool .unit)))), v2.2⟩)]⟩) (orc := []) (ob := []) (by kernel_rfl) trivial ?_
                exact hJ5 true h
              · rw [or_f e24] at h
                refine WL_all hE [0, 7, 9, 10, 15, 17, 19, 21, 23, 25, 113] [] [34] (st' := ⟨[(0, SS s1), (7, .row 34), (9, .val (.sl (.pair (.int .i32) (.pair (.int .i64) (.pair (.int .i64) (.pair .bool .unit))))) v3.1), (10, I64 v3.2), (15, I64 v6.1), (17, I64 v7.1), (19, SS v8.1), (21, SS v9.1), (23, SS v10.1), (25, SS v11.1), (113, BB (v4.1 != v5.1))], [], [(34, ⟨35, (.pair (.int .i32) (.pair (.int .i64) (.pair (.int .i64) (.pair .bool .unit)))), v2.2⟩)]⟩) (orc := []) (ob := []) (by kernel_rfl) trivial ?_
                exact hJ5 (v4.1 != v5.1) h
            refine WL_split (fun g => ⟨[(0, SS s1), (7, .row 34), (9, .val (.sl (.pair (.int .i32) (.pair (.int .i64) (.pair (.int .i64) (.pair .bool .unit))))) v3.1), (10, I64 v3.2), (11, I64 v4.1), (13, I64 v5.1), (15, I64 v6.1), (17, I64 v7.1), (19, SS v8.1), (21, SS v9.1), (23, SS v10.1), (24, I64 v10.2), (25, SS v11.1), (26, I64 v11.2), (104, BB g)], [], [(34, ⟨35, (.pair (.int .i32) (.pair (.int .i64) (.pair (.int .i64) (.pair .bool .unit)))), v2.2⟩)]⟩) (b := t3) (fun e25 => ?_) (fun e25 => ?_)
            · rw [or_t e25] at h
              refine WL_all hE [0, 7, 9, 10, 11, 13, 15, 17, 19, 21, 23, 25, 108] [] [34] (st' := ⟨[(0, SS s1), (7, .row 34), (9, .val (.sl (.pair (.int .i32) (.pair (.int .i64) (.pair (.int .i64) (.pair .bool .unit))))) v3.1), (10, I64 v3.2), (11, I64 v4.1), (13, I64 v5.1), (15, I64 v6.1), (17, I64 v7.1), (19, SS v8.1), (21, SS v9.1), (23, SS v10.1), (25, SS v11.1), (108, BB true)], [], [(34, ⟨35, (.pair (.int .i32) (.pair (.int .i64) (.pair (.int .i64) (.pair .bool .unit)))), v2.2⟩)]⟩) (orc := []) (ob := []) (by kernel_rfl) trivial ?_
              exact hJ4 true h
            · rw [or_f e25] at h
              refine WL_all hE [0, 7, 9, 10, 11, 13, 15, 17, 19, 21, 23, 25, 108] [] [34] (st' := ⟨[(0, SS s1), (7, .row 34), (9, .val (.sl (.pair (.int .i32) (.pair (.int .i64) (.pair (.int .i64) (.pair .bool .unit))))) v3.1), (10, I64 v3.2), (11, I64 v4.1), (13, I64 v5.1), (15, I64 v6.1), (17, I64 v7.1), (19, SS v8.1), (21, SS v9.1), (23, SS v10.1), (25, SS v11.1), (108, BB (v10.2 != v11.2))], [], [(34, ⟨35, (.pair (.int .i32) (.pair (.int .i64) (.pair (.int .i64) (.pair .bool .unit)))), v2.2⟩)]⟩) (orc := []) (ob := []) (by kernel_rfl) trivial ?_
              exact hJ4 (v10.2 != v11.2) h
          refine WL_split (fun g => ⟨[(0, SS s1), (7, .row 34), (9, .val (.sl (.pair (.int .i32) (.pair (.int .i64) (.pair (.int .i64) (.pair .bool .unit))))) v3.1), (10, I64 v3.2), (11, I64 v4.1), (13, I64 v5.1), (15, I64 v6.1), (17, I64 v7.1), (19, SS v8.1), (20, I64 v8.2), (21, SS v9.1), (22, I64 v9.2), (23, SS v10.1), (24, I64 v10.2), (25, SS v11.1), (26, I64 v11.2), (99, BB g)], [], [(34, ⟨35, (.pair (.int .i32) (.pair (.int .i64) (.pair (.int .i64) (.pair .bool .unit)))), v2.2⟩)]⟩) (b := t2) (fun e26 => ?_) (fun e26 => ?_)
          · rw [or_t e26] at h
            refine WL_all hE [0, 7, 9, 10, 11, 13, 15, 17, 19, 21, 23, 24, 25, 26, 103] [] [34] (st' := ⟨[(0, SS s1), (7, .row 34), (9, .val (.sl (.pair (.int .i32) (.pair (.int .i64) (.pair (.int .i64) (.pair .bool .unit))))) v3.1), (10, I64 v3.2), (11, I64 v4.1), (13, I64 v5.1), (15, I64 v6.1), (17, I64 v7.1), (19, SS v8.1), (21, SS v9.1), (23, SS v10.1), (24, I64 v10.2), (25, SS v11.1), (26, I64 v11.2), (103, BB true)], [], [(34, ⟨35, (.pair (.int .i32) (.pair (.int .i64) (.pair (.int .i64) (.pair .bool .unit)))), v2.2⟩)]⟩) (orc := []) (ob := []) (by kernel_rfl) trivial ?_
            exact hJ3 true h
          · rw [or_f e26] at h
            refine WL_all hE [0, 7, 9, 10, 11, 13, 15, 17, 19, 21, 23, 24, 25, 26, 103] [] [34] (st' := ⟨[(0, SS s1), (7, .row 34), (9, .val (.sl (.pair (.int .i32) (.pair (.int .i64) (.pair (.int .i64) (.pair .bool .unit))))) v3.1), (10, I64 v3.2), (11, I64 v4.1), (13, I64 v5.1), (15, I64 v6.1), (17, I64 v7.1), (19, SS v8.1), (21, SS v9.1), (23, SS v10.1), (24, I64 v10.2), (25, SS v11.1), (26, I64 v11.2), (103, BB (v8.2 != v9.2))], [], [(34, ⟨35, (.pair (.int .i32) (.pair (.int .i64) (.pair (.int .i64) (.pair .bool .unit)))), v2.2⟩)]⟩) (orc := []) (ob := []) (by kernel_rfl) trivial ?_
            exact hJ3 (v8.2 != v9.2) h
        refine WL_split (fun g => ⟨[(0, SS s1), (7, .row 34), (9, .val (.sl (.pair (.int .i32) (.pair (.int .i64) (.pair (.int .i64) (.pair .bool .unit))))) v3.1), (10, I64 v3.2), (11, I64 v4.1), (13, I64 v5.1), (15, I64 v6.1), (16, I64 v6.2), (17, I64 v7.1), (18, I64 v7.2), (19, SS v8.1), (20, I64 v8.2), (21, SS v9.1), (22, I64 v9.2), (23, SS v10.1), (24, I64 v10.2), (25, SS v11.1), (26, I64 v11.2), (94, BB g)], [], [(34, ⟨35, (.pair (.int .i32) (.pair (.int .i64) (.pair (.int .i64) (.pair .bool .unit)))), v2.2⟩)]⟩) (b := t1) (fun e27 => ?_) (fun e27 => ?_)
        · rw [or_t e27] at h
          refine WL_all hE [0, 7, 9, 10, 11, 13, 15, 17, 19, 20, 21, 22, 23, 24, 25, 26, 98] [] [34] (st' := ⟨[(0, SS s1), (7, .row 34), (9, .val (.sl (.pair (.int .i32) (.pair (.int .i64) (.pair (.int .i64) (.pair .bool .unit))))) v3.1), (10, I64 v3.2), (11, I64 v4.1), (13, I64 v5.1), (15, I64 v6.1), (17, I64 v7.1), (19, SS v8.1), (20, I64 v8.2), (21, SS v9.1), (22, I64 v9.2), (23, SS v10.1), (24, I64 v10.2), (25, SS v11.1), (26, I64 v11.2), (98, BB true)], [], [(34, ⟨35, (.pair (.int .i32) (.pair (.int .i64) (.pair (.int .i64) (.pair .bool .unit)))), v2.2⟩)]⟩) (orc := []) (ob := []) (by kernel_rfl) trivial ?_
          exact hJ2 true h
        · rw [or_f e27] at h
          refine WL_all hE [0, 7, 9, 10, 11, 13, 15, 17, 19, 20, 21, 22, 23, 24, 25, 26, 98] [] [34] (st' := ⟨[(0, SS s1), (7, .row 34), (9, .val (.sl (.pair (.int .i32) (.pair (.int .i64) (.pair (.int .i64) (.pair .bool .unit))))) v3.1), (10, I64 v3.2), (11, I64 v4.1), (13, I64 v5.1), (15, I64 v6.1), (17, I64 v7.1), (19, SS v8.1), (20, I64 v8.2), (21, SS v9.1), (22, I64 v9.2), (23, SS v10.1), (24, I64 v10.2), (25, SS v11.1), (26, I64 v11.2), (98, BB (v6.2 != v7.2))], [], [(34, ⟨35, (.pair (.int .i32) (.pair (.int .i64) (.pair (.int .i64) (.pair .bool .unit)))), v2.2⟩)]⟩) (orc := []) (ob := []) (by kernel_rfl) trivial ?_
          exact hJ2 (v6.2 != v7.2) h
      refine WL_split (fun g => ⟨[(0, SS s1), (7, .row 34), (9, .val (.sl (.pair (.int .i32) (.pair (.int .i64) (.pair (.int .i64) (.pair .bool .unit))))) v3.1), (10, I64 v3.2), (11, I64 v4.1), (12, I64 v4.2), (13, I64 v5.1), (14, I64 v5.2), (15, I64 v6.1), (16, I64 v6.2), (17, I64 v7.1), (18, I64 v7.2), (19, SS v8.1), (20, I64 v8.2), (21, SS v9.1), (22, I64 v9.2), (23, SS v10.1), (24, I64 v10.2), (25, SS v11.1), (26, I64 v11.2), (89, BB g)], [], [(34, ⟨35, (.pair (.int .i32) (.pair (.int .i64) (.pair (.int .i64) (.pair .bool .unit)))), v2.2⟩)]⟩) (b := v2.1 != v3.2) (fun e28 => ?_) (fun e28 => ?_)
      · rw [or_t e28] at h
        refine WL_all hE [0, 7, 9, 10, 11, 13, 15, 16, 17, 18, 19, 20, 21, 22, 23, 24, 25, 26, 93] [] [34] (st' := ⟨[(0, SS s1), (7, .row 34), (9, .val (.sl (.pair (.int .i32) (.pair (.int .i64) (.pair (.int .i64) (.pair .bool .unit))))) v3.1), (10, I64 v3.2), (11, I64 v4.1), (13, I64 v5.1), (15, I64 v6.1), (16, I64 v6.2), (17, I64 v7.1), (18, I64 v7.2), (19, SS v8.1), (20, I64 v8.2), (21, SS v9.1), (22, I64 v9.2), (23, SS v10.1), (24, I64 v10.2), (25, SS v11.1), (26, I64 v11.2), (93, BB true)], [], [(34, ⟨35, (.pair (.int .i32) (.pair (.int .i64) (.pair (.int .i64) (.pair .bool .unit)))), v2.2⟩)]⟩) (orc := []) (ob := []) (by kernel_rfl) trivial ?_
        exact hJ1 true h
      · rw [or_f e28] at h
        refine WL_all hE [0, 7, 9, 10, 11, 13, 15, 16, 17, 18, 19, 20, 21, 22, 23, 24, 25, 26, 93] [] [34] (st' := ⟨[(0, SS s1), (7, .row 34), (9, .val (.sl (.pair (.int .i32) (.pair (.int .i64) (.pair (.int .i64) (.pair .bool .unit))))) v3.1), (10, I64 v3.2), (11, I64 v4.1), (13, I64 v5.1), (15, I64 v6.1), (16, I64 v6.2), (17, I64 v7.1), (18, I64 v7.2), (19, SS v8.1), (20, I64 v8.2), (21, SS v9.1), (22, I64 v9.2), (23, SS v10.1), (24, I64 v10.2), (25, SS v11.1), (26, I64 v11.2), (93, BB (v4.2 != v5.2))], [], [(34, ⟨35, (.pair (.int .i32) (.pair (.int .i64) (.pair (.int .i64) (.pair .bool .unit)))), v2.2⟩)]⟩) (orc := []) (ob := []) (by kernel_rfl) trivial ?_
        exact hJ1 (v4.2 != v5.2) h

end Go.Ev
