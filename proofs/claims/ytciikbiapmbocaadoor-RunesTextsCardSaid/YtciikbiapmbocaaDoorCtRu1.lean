/- Contracts, by program. -/
import Derived.Test.YtciikbiapmbocaaDoorProg
import Derived.Test.YtciikbiapmbocaaDoorEvT
import Derived.Test.YtciikbiapmbocaaDoorShRu1
import Derived.Test.YtciikbiapmbocaaDoorLibT
import Derived.KernelRfl
namespace Go.Ev
open Go Go.Proofs
set_option linter.unusedVariables false
set_option maxRecDepth 100000

def C_runes_Less (k : Nat) : FnC := ⟨true, 1, [], fun | [⟨.str, a1⟩, ⟨.str, b1⟩], [⟨.bool, r⟩] => runes_Less k a1 b1 = some r | _, _ => False⟩
noncomputable def E_runes_Less (k : Nat) : Env := ⟨Tryd.prog, Gl, 69, [(25, C_unicode_utf8_DecodeRuneInString k)]⟩
theorem c_runes_Less (k : Nat) : Contract Tryd.prog Gl 10 (C_runes_Less k) := by
  refine contract_of Gl_stable (fn := Tryd.f10) Tryd.func10 (by kernel_rfl) rfl ?_ ?_
  · intro xs rs h
    unfold C_runes_Less at h
    simp only at h
    split at h
    · exact ⟨by show 2 ≤ _; rw [Tryd.ntmps10]; decide, rfl, fun _ u hu => by simp at hu; (rcases hu with rfl) <;> rfl⟩
    · exact h.elim
  · intro w0 M xs rs hG h
    unfold C_runes_Less at h
    simp only at h
    split at h
    case h_2 => exact h.elim
    rename_i a1 b1 r
    change List UInt8 at a1
    change List UInt8 at b1
    change Bool at r
    have hE : EnvOK (E_runes_Less k) ⟨Tryd.prog, Tryd.f10.ntmps, w0, M, fun _ => False, fun _ => undef⟩ := (EnvOK.cons (c_unicode_utf8_DecodeRuneInString k) (EnvOK.nil rfl Tryd.ntmps10 hG))
    unfold runes_Less at h
    refine W_seq ?_
    refine W_region ?_
    refine WL_all hE [0, 1] [] [] (st' := ⟨[(0, SS a1), (1, SS b1)], [], []⟩) (orc := []) (ob := []) (by kernel_rfl) trivial ?_
    refine N_then ?_
    refine W_seq ?_
    refine W_block ?_
    refine W_loop (α := (List UInt8 × List UInt8)) (fun n z => runes_Less_l1 k n z.1 z.2 = some r) (fun z => ⟨[(0, SS (z.1)), (1, SS (z.2))], [], []⟩) ?_ (k := k) (x := (a1, b1)) h
    clear h
    rintro n1 ⟨a2, b2⟩ h
    cases n1 with
    | zero => exact absurd (show none = some _ from h) (by simp)
    | succ n1 =>
      have h : runes_Less_b1 k (runes_Less_l1 k n1) a2 b2 = some r := h
      unfold runes_Less_b1 at h
      refine W_seq ?_
      refine W_seq ?_
      refine W_region ?_
      refine WL_tk hE 3 [0, 1, 13] [] [] (st' := ⟨[(0, SS a2), (1, SS b2), (13, BB (!(a2 == ([] : List UInt8))))], [], []⟩) (orc := []) (ob := []) (by kernel_rfl) trivial ?_
      refine WL_join (α := Bool) (fun z => runes_Less_j1 k a2 b2 (runes_Less_l1 k n1) z = some r) (fun t1 => ⟨[(0, SS a2), (1, SS b2), (16, BB t1)], [], []⟩) 3 ?_ (fun hJ1 => ?_)
      · rintro t1 h
        unfold runes_Less_j1 at h
        refine WL_nil ?_
        refine N_then ?_
        refine W_cond (b := t1) (by kernel_rfl) (fun e1 => ?_) (fun e1 => ?_)
        · replace h := ite_t e1 h
          refine W_skip ?_
          refine N_then ?_
          refine W_block ?_
          refine W_seq ?_
          refine W_region ?_
          obtain ⟨v1, e2, h⟩ := bind_some h
          refine WL_all hE [0, 1, 5, 6] [] [] (st' := ⟨[(0, SS a2), (1, SS b2), (5, I32 v1.1), (6, I64 v1.2)], [], []⟩) (orc := [tI32 v1.1, tI64 v1.2]) (ob := [utf8_DecodeRuneInString k a2 = some ((v1).1, (v1).2)]) (by kernel_rfl) ⟨e2, trivial⟩ ?_
          refine N_then ?_
          refine W_seq ?_
          refine W_region ?_
          obtain ⟨v2, e3, h⟩ := bind_some h
          refine WL_all hE [0, 1, 5, 6, 7, 8] [] [] (st' := ⟨[(0, SS a2), (1, SS b2), (5, I32 v1.1), (6, I64 v1.2), (7, I32 v2.1), (8, I64 v2.2)], [], []⟩) (orc := [tI32 v2.1, tI64 v2.2]) (ob := [utf8_DecodeRuneInString k b2 = some ((v2).1, (v2).2)]) (by kernel_rfl) ⟨e3, trivial⟩ ?_
          refine N_then ?_
          refine W_seq ?_
          refine W_region ?_
          refine WL_all hE [0, 1, 5, 6, 7, 8, 9, 10] [] [] (st' := ⟨[(0, SS a2), (1, SS b2), (5, I32 v1.1), (6, I64 v1.2), (7, I32 v2.1), (8, I64 v2.2), (9, I64 (wi64 v1.1)), (10, I64 (wi64 v2.1))], [], []⟩) (orc := []) (ob := []) (by kernel_rfl) trivial ?_
          refine N_then ?_
          refine W_join (α := Int) (fun z => runes_Less_j2 b2 a2 v1 v2 (runes_Less_l1 k n1) z = some r) (fun x1 => ⟨[(0, SS a2), (1, SS b2), (6, I64 v1.2), (7, I32 v2.1), (8, I64 v2.2), (9, I64 x1), (10, I64 (wi64 v2.1))], [], []⟩) ?_ (fun hJ4 => ?_)
          · rintro x1 h
            unfold runes_Less_j2 at h
            refine W_join (α := Int) (fun z => runes_Less_j3 x1 a2 v1 b2 v2 (runes_Less_l1 k n1) z = some r) (fun y1 => ⟨[(0, SS a2), (1, SS b2), (6, I64 v1.2), (8, I64 v2.2), (9, I64 x1), (10, I64 y1)], [], []⟩) ?_ (fun hJ3 => ?_)
            · rintro y1 h
              unfold runes_Less_j3 at h
              refine W_seq ?_
              refine W_seq ?_
              refine W_region ?_
              refine WL_all hE [0, 1, 6, 8, 9, 10, 53] [] [] (st' := ⟨[(0, SS a2), (1, SS b2), (6, I64 v1.2), (8, I64 v2.2), (9, I64 x1), (10, I64 y1), (53, BB (x1 != y1))], [], []⟩) (orc := []) (ob := []) (by kernel_rfl) trivial ?_
              refine N_then ?_
              refine W_cond (b := x1 != y1) (by kernel_rfl) (fun e4 => ?_) (fun e4 => ?_)
              · replace h := ite_t e4 h
                refine W_seq ?_
                refine W_region ?_
                refine WL_all hE [4] [] [] (st' := ⟨[(4, BB (decide (x1 < y1)))], [], []⟩) (orc := []) (ob := []) (by kernel_rfl) trivial ?_
                refine N_then ?_
                refine W_ret ?_
                refine N_then_ret ?_
                refine N_block_ret ?_
                refine N_then_ret ?_
                refine N_block_ret ?_
                refine N_then_ret ?_
                cases h
                exact N_end (.inl rfl) (by kernel_rfl)
              · replace h := ite_f e4 h
                refine W_skip ?_
                refine N_then ?_
                refine W_draw (by kernel_rfl) (by kernel_rfl) ?_
                obtain ⟨s1, e5, h⟩ := bind_some h
                obtain ⟨s2, e6, h⟩ := bind_some h
                refine WD_all hE [0, 1] [] [] (st' := ⟨[(0, SS s1), (1, SS s2)], [], []⟩) (orc := [tS s1, tS s2]) (ob := [sub? a2 v1.2 (a2.length : Int) = some s1, sub? b2 v2.2 (b2.length : Int) = some s2]) (by kernel_rfl) ⟨e5, e6, trivial⟩ ?_
                refine N_block ?_
                exact N_round (s1, s2) (Nat.lt_succ_self _) h
            refine W_seq ?_
            refine W_region ?_
            refine WL_tk hE 3 [0, 1, 6, 8, 9, 10, 43] [] [] (st' := ⟨[(0, SS a2), (1, SS b2), (6, I64 v1.2), (8, I64 v2.2), (9, I64 x1), (10, I64 (wi64 v2.1)), (43, BB (v2.1 == (65533 : Int)))], [], []⟩) (orc := []) (ob := []) (by kernel_rfl) trivial ?_
            refine WL_join (α := Bool) (fun z => runes_Less_j4 b2 x1 a2 v1 v2 (runes_Less_l1 k n1) z = some r) (fun t2 => ⟨[(0, SS a2), (1, SS b2), (6, I64 v1.2), (8, I64 v2.2), (9, I64 x1), (10, I64 (wi64 v2.1)), (46, BB t2)], [], []⟩) 3 ?_ (fun hJ4 => ?_)
            · rintro t2 h
              unfold runes_Less_j4 at h
              refine WL_nil ?_
              refine N_then ?_
              refine W_cond (b := t2) (by kernel_rfl) (fun e7 => ?_) (fun e7 => ?_)
              · replace h := ite_t e7 h
                refine W_region ?_
                obtain ⟨b3, e8, h⟩ := bind_some h
                refine WL_all hE [0, 1, 6, 8, 9, 10] [] [] (st' := ⟨[(0, SS a2), (1, SS b2), (6, I64 v1.2), (8, I64 v2.2), (9, I64 x1), (10, I64 (wi64 ((1114112 : Int) + (wi64 b3))))], [], []⟩) (orc := [tU8 b3]) (ob := [byteAt b2 (0 : Int) = some b3]) (by kernel_rfl) ⟨e8, trivial⟩ ?_
                exact hJ3 (wi64 ((1114112 : Int) + (wi64 b3))) h
              · replace h := ite_f e7 h
                refine W_skip ?_
                refine N.norm (st' := ⟨[(0, SS a2), (1, SS b2), (6, I64 v1.2), (8, I64 v2.2), (9, I64 x1), (10, I64 (wi64 v2.1))], [], []⟩) (ks := [0, 1, 6, 8, 9, 10]) (bs := []) (rs := []) ?_ (by kernel_rfl)
                exact hJ3 (wi64 v2.1) h
            refine WL_split (fun g => ⟨[(0, SS a2), (1, SS b2), (6, I64 v1.2), (8, I64 v2.2), (9, I64 x1), (10, I64 (wi64 v2.1)), (43, BB g)], [], []⟩) (b := v2.1 == (65533 : Int)) (fun e9 => ?_) (fun e9 => ?_)
            · rw [and_t e9] at h
              refine WL_all hE [0, 1, 6, 8, 9, 10, 46] [] [] (st' := ⟨[(0, SS a2), (1, SS b2), (6, I64 v1.2), (8, I64 v2.2), (9, I64 x1), (10, I64 (wi64 v2.1)), (46, BB (v2.2 == (1 : Int)))], [], []⟩) (orc := []) (ob := []) (by kernel_rfl) trivial ?_
              exact hJ4 (v2.2 == (1 : Int)) h
            · rw [and_f e9] at h
              refine WL_all hE [0, 1, 6, 8, 9, 10, 46] [] [] (st' := ⟨[(0, SS a2), (1, SS b2), (6, I64 v1.2), (8, I64 v2.2), (9, I64 x1), (10, I64 (wi64 v2.1)), (46, BB false)], [], []⟩) (orc := []) (ob := []) (by kernel_rfl) trivial ?_
              exact hJ4 false h
          refine W_seq ?_
          refine W_region ?_
          refine WL_tk hE 3 [0, 1, 6, 7, 8, 9, 10, 33] [] [] (st' := ⟨[(0, SS a2), (1, SS b2), (6, I64 v1.2), (7, I32 v2.1), (8, I64 v2.2), (9, I64 (wi64 v1.1)), (10, I64 (wi64 v2.1)), (33, BB (v1.1 == (65533 : Int)))], [], []⟩) (orc := []) (ob := []) (by kernel_rfl) trivial ?_
          refine WL_join (α := Bool) (fun z => runes_Less_j5 a2 b2 v1 v2 (runes_Less_l1 k n1) z = some r) (fun t3 => ⟨[(0, SS a2), (1, SS b2), (6, I64 v1.2), (7, I32 v2.1), (8, I64 v2.2), (9, I64 (wi64 v1.1)), (10, I64 (wi64 v2.1)), (36, BB t3)], [], []⟩) 3 ?_ (fun hJ5 => ?_)
          · rintro t3 h
            unfold runes_Less_j5 at h
            refine WL_nil ?_
            refine N_then ?_
            refine W_cond (b := t3) (by kernel_rfl) (fun e10 => ?_) (fun e10 => ?_)
            · replace h := ite_t e10 h
              refine W_region ?_
              obtain ⟨b4, e11, h⟩ := bind_some h
              refine WL_all hE [0, 1, 6, 7, 8, 9, 10] [] [] (st' := ⟨[(0, SS a2), (1, SS b2), (6, I64 v1.2), (7, I32 v2.1), (8, I64 v2.2), (9, I64 (wi64 ((1114112 : Int) + (wi64 b4)))), (10, I64 (wi64 v2.1))], [], []⟩) (orc := [tU8 b4]) (ob := [byteAt a2 (0 : Int) = some b4]) (by kernel_rfl) ⟨e11, trivial⟩ ?_
              exact hJ4 (wi64 ((1114112 : Int) + (wi64 b4))) h
            · replace h := ite_f e10 h
              refine W_skip ?_
              refine N.norm (st' := ⟨[(0, SS a2), (1, SS b2), (6, I64 v1.2), (7, I32 v2.1), (8, I64 v2.2), (9, I64 (wi64 v1.1)), (10, I64 (wi64 v2.1))], [], []⟩) (ks := [0, 1, 6, 7, 8, 9, 10]) (bs := []) (rs := []) ?_ (by kernel_rfl)
              exact hJ4 (wi64 v1.1) h
          refine WL_split (fun g => ⟨[(0, SS a2), (1, SS b2), (6, I64 v1.2), (7, I32 v2.1), (8, I64 v2.2), (9, I64 (wi64 v1.1)), (10, I64 (wi64 v2.1)), (33, BB g)], [], []⟩) (b := v1.1 == (65533 : Int)) (fun e12 => ?_) (fun e12 => ?_)
          · rw [and_t e12] at h
            refine WL_all hE [0, 1, 6, 7, 8, 9, 10, 36] [] [] (st' := ⟨[(0, SS a2), (1, SS b2), (6, I64 v1.2), (7, I32 v2.1), (8, I64 v2.2), (9, I64 (wi64 v1.1)), (10, I64 (wi64 v2.1)), (36, BB (v1.2 == (1 : Int)))], [], []⟩) (orc := []) (ob := []) (by kernel_rfl) trivial ?_
            exact hJ5 (v1.2 == (1 : Int)) h
          · rw [and_f e12] at h
            refine WL_all hE [0, 1, 6, 7, 8, 9, 10, 36] [] [] (st' := ⟨[(0, SS a2), (1, SS b2), (6, I64 v1.2), (7, I32 v2.1), (8, I64 v2.2), (9, I64 (wi64 v1.1)), (10, I64 (wi64 v2.1)), (36, BB false)], [], []⟩) (orc := []) (ob := []) (by kernel_rfl) trivial ?_
            exact hJ5 false h
        · replace h := ite_f e1 h
          refine W_exit ?_
          refine N_then_exit ?_
          refine N_then_exit ?_
          refine N_block_exit ?_
          refine N_then ?_
          refine W_seq ?_
          refine W_region ?_
          refine WL_tk hE 3 [1, 65] [] [] (st' := ⟨[(1, SS b2), (65, BB (a2 == ([] : List UInt8)))], [], []⟩) (orc := []) (ob := []) (by kernel_rfl) trivial ?_
          refine WL_join (α := Bool) (fun z => runes_Less_j6 z = some r) (fun t4 => ⟨[(68, BB t4)], [], []⟩) 3 ?_ (fun hJ6 => ?_)
          · rintro t4 h
            unfold runes_Less_j6 at h
            refine WL_all hE [4] [] [] (st' := ⟨[(4, BB t4)], [], []⟩) (orc := []) (ob := []) (by kernel_rfl) trivial ?_
            refine N_then ?_
            refine W_ret ?_
            cases h
            exact N_end (.inl rfl) (by kernel_rfl)
          refine WL_split (fun g => ⟨[(1, SS b2), (65, BB g)], [], []⟩) (b := a2 == ([] : List UInt8)) (fun e13 => ?_) (fun e13 => ?_)
          · rw [and_t e13] at h
            refine WL_all hE [68] [] [] (st' := ⟨[(68, BB (!(b2 == ([] : List UInt8))))], [], []⟩) (orc := []) (ob := []) (by kernel_rfl) trivial ?_
            exact hJ6 (!(b2 == ([] : List UInt8))) h
          · rw [and_f e13] at h
            refine WL_all hE [68] [] [] (st' := ⟨[(68, BB false)], [], []⟩) (orc := []) (ob := []) (by kernel_rfl) trivial ?_
            exact hJ6 false h
      refine WL_split (fun g => ⟨[(0, SS a2), (1, SS b2), (13, BB g)], [], []⟩) (b := !(a2 == ([] : List UInt8))) (fun e14 => ?_) (fun e14 => ?_)
      · rw [and_t e14] at h
        refine WL_all hE [0, 1, 16] [] [] (st' := ⟨[(0, SS a2), (1, SS b2), (16, BB (!(b2 == ([] : List UInt8))))], [], []⟩) (orc := []) (ob := []) (by kernel_rfl) trivial ?_
        exact hJ1 (!(b2 == ([] : List UInt8))) h
      · rw [and_f e14] at h
        refine WL_all hE [0, 1, 16] [] [] (st' := ⟨[(0, SS a2), (1, SS b2), (16, BB false)], [], []⟩) (orc := []) (ob := []) (by kernel_rfl) trivial ?_
        exact hJ1 false h

def C_r01_tail (k : Nat) : FnC := ⟨true, 1, [], fun | [⟨(.int .u8), b1⟩], [⟨.bool, r⟩] => r01_tail k b1 = some r | _, _ => False⟩
noncomputable def E_r01_tail (k : Nat) : Env := ⟨Tryd.prog, Gl, 9, []⟩
theorem c_r01_tail (k : Nat) : Contract Tryd.prog Gl 65 (C_r01_tail k) := by
  refine contract_of Gl_stable (fn := Tryd.f65) Tryd.func65 (by kernel_rfl) rfl ?_ ?_
  · intro xs rs h
    unfold C_r01_tail at h
    simp only at h
    split at h
    · exact ⟨by show 1 ≤ _; rw [Tryd.ntmps65]; decide, rfl, fun _ u hu => by simp at hu; (rcases hu with rfl) <;> rfl⟩
    · exact h.elim
  · intro w0 M xs rs hG h
    unfold C_r01_tail at h
    simp only at h
    split at h
    case h_2 => exact h.elim
    rename_i b1 r
    change Int at b1
    change Bool at r
    have hE : EnvOK (E_r01_tail k) ⟨Tryd.prog, Tryd.f65.ntmps, w0, M, fun _ => False, fun _ => undef⟩ := (EnvOK.nil rfl Tryd.ntmps65 hG)
    unfold r01_tail at h
    refine W_seq ?_
    refine W_region ?_
    refine WL_all hE [0] [] [] (st' := ⟨[(0, U8 b1)], [], []⟩) (orc := []) (ob := []) (by kernel_rfl) trivial ?_
    refine N_then ?_
    refine W_seq ?_
    refine W_region ?_
    refine WL_tk hE 3 [0, 5] [] [] (st' := ⟨[(0, U8 b1), (5, BB (decide ((128 : Int) ≤ b1)))], [], []⟩) (orc := []) (ob := []) (by kernel_rfl) trivial ?_
    refine WL_join (α := Bool) (fun z => r01_tail_j1 z = some r) (fun t1 => ⟨[(8, BB t1)], [], []⟩) 3 ?_ (fun hJ1 => ?_)
    · rintro t1 h
      unfold r01_tail_j1 at h
      refine WL_all hE [2] [] [] (st' := ⟨[(2, BB t1)], [], []⟩) (orc := []) (ob := []) (by kernel_rfl) trivial ?_
      refine N_then ?_
      refine W_ret ?_
      cases h
      exact N_end (.inl rfl) (by kernel_rfl)
    refine WL_split (fun g => ⟨[(0, U8 b1), (5, BB g)], [], []⟩) (b := decide ((128 : Int) ≤ b1)) (fun e1 => ?_) (fun e1 => ?_)
    · rw [and_t e1] at h
      refine WL_all hE [8] [] [] (st' := ⟨[(8, BB (decide (b1 < (192 : Int))))], [], []⟩) (orc := []) (ob := []) (by kernel_rfl) trivial ?_
      exact hJ1 (decide (b1 < (192 : Int))) h
    · rw [and_f e1] at h
      refine WL_all hE [8] [] [] (st' := ⟨[(8, BB false)], [], []⟩) (orc := []) (ob := []) (by kernel_rfl) trivial ?_
      exact hJ1 false h

def C_r01_Rune (k : Nat) : FnC := ⟨true, 1, [], fun | [⟨(.int .i32), r1⟩], [⟨.bool, r⟩] => r01_Rune k r1 = some r | _, _ => False⟩
noncomputable def E_r01_Rune (k : Nat) : Env := ⟨Tryd.prog, Gl, 17, []⟩
theorem c_r01_Rune (k : Nat) : Contract Tryd.prog Gl 53 (C_r01_Rune k) := by
  refine contract_of Gl_stable (fn := Tryd.f53) Tryd.func53 (by kernel_rfl) rfl ?_ ?_
  · intro xs rs h
    unfold C_r01_Rune at h
    simp only at h
    split at h
    · exact ⟨by show 1 ≤ _; rw [Tryd.ntmps53]; decide, rfl, fun _ u hu => by simp at hu; (rcases hu with rfl) <;> rfl⟩
    · exact h.elim
  · intro w0 M xs rs hG h
    unfold C_r01_Rune at h
    simp only at h
    split at h
    case h_2 => exact h.elim
    rename_i r1 r
    change Int at r1
    change Bool at r
    have hE : EnvOK (E_r01_Rune k) ⟨Tryd.prog, Tryd.f53.ntmps, w0, M, fun _ => False, fun _ => undef⟩ := (EnvOK.nil rfl Tryd.ntmps53 hG)
    unfold r01_Rune at h
    refine W_seq ?_
    refine W_region ?_
    refine WL_all hE [0] [] [] (st' := ⟨[(0, I32 r1)], [], []⟩) (orc := []) (ob := []) (by kernel_rfl) trivial ?_
    refine N_then ?_
    refine W_seq ?_
    refine W_region ?_
    refine WL_tk hE 3 [0, 5] [] [] (st' := ⟨[(0, I32 r1), (5, BB (decide ((0 : Int) ≤ r1)))], [], []⟩) (orc := []) (ob := []) (by kernel_rfl) trivial ?_
    refine WL_join (α := Bool) (fun z => r01_Rune_j1 r1 z = some r) (fun t1 => ⟨[(0, I32 r1), (8, BB t1)], [], []⟩) 3 ?_ (fun hJ1 => ?_)
    · rintro t1 h
      unfold r01_Rune_j1 at h
      refine WL_tk hE 1 [0, 9] [] [] (st' := ⟨[(0, I32 r1), (9, BB t1)], [], []⟩) (orc := []) (ob := []) (by kernel_rfl) trivial ?_
      refine WL_join (α := Bool) (fun z => r01_Rune_j2 z = some r) (fun t2 => ⟨[(16, BB t2)], [], []⟩) 7 ?_ (fun hJ2 => ?_)
      · rintro t2 h
        unfold r01_Rune_j2 at h
        refine WL_all hE [2] [] [] (st' := ⟨[(2, BB t2)], [], []⟩) (orc := []) (ob := []) (by kernel_rfl) trivial ?_
        refine N_then ?_
        refine W_ret ?_
        cases h
        exact N_end (.inl rfl) (by kernel_rfl)
      refine WL_split (fun g => ⟨[(0, I32 r1), (9, BB g)], [], []⟩) (b := t1) (fun e1 => ?_) (fun e1 => ?_)
      · replace h := ite_t e1 h
        refine WL_tk hE 3 [0, 9, 12] [] [] (st' := ⟨[(0, I32 r1), (9, BB true), (12, BB (decide (r1 < (55296 : Int))))], [], []⟩) (orc := []) (ob := []) (by kernel_rfl) trivial ?_
        refine WL_join (α := Bool) (fun z => r01_Rune_j3 z = some r) (fun t3 => ⟨[(9, BB true), (15, BB t3)], [], []⟩) 3 ?_ (fun hJ3 => ?_)
        · rintro t3 h
          unfold r01_Rune_j3 at h
          refine WL_all hE [16] [] [] (st' := ⟨[(16, BB t3)], [], []⟩) (orc := []) (ob := []) (by kernel_rfl) trivial ?_
          exact hJ2 t3 h
        refine WL_split (fun g => ⟨[(0, I32 r1), (9, BB true), (12, BB g)], [], []⟩) (b := decide (r1 < (55296 : Int))) (fun e2 => ?_) (fun e2 => ?_)
        · rw [or_t e2] at h
          refine WL_all hE [9, 15] [] [] (st' := ⟨[(9, BB true), (15, BB true)], [], []⟩) (orc := []) (ob := []) (by kernel_rfl) trivial ?_
          exact hJ3 true h
        · rw [or_f e2] at h
          refine WL_all hE [9, 15] [] [] (st' := ⟨[(9, BB true), (15, BB (decide ((57343 : Int) < r1)))], [], []⟩) (orc := []) (ob := []) (by kernel_rfl) trivial ?_
          exact hJ3 (decide ((57343 : Int) < r1)) h
      · replace h := ite_f e1 h
        refine WL_all hE [16] [] [] (st' := ⟨[(16, BB false)], [], []⟩) (orc := []) (ob := []) (by kernel_rfl) trivial ?_
        exact hJ2 false h
    refine WL_split (fun g => ⟨[(0, I32 r1), (5, BB g)], [], []⟩) (b := decide ((0 : Int) ≤ r1)) (fun e3 => ?_) (fun e3 => ?_)
    · rw [and_t e3] at h
      refine WL_all hE [0, 8] [] [] (st' := ⟨[(0, I32 r1), (8, BB (decide (r1 ≤ (1114111 : Int))))], [], []⟩) (orc := []) (ob := []) (by kernel_rfl) trivial ?_
      exact hJ1 (decide (r1 ≤ (1114111 : Int))) h
    · rw [and_f e3] at h
      refine WL_all hE [0, 8] [] [] (st' := ⟨[(0, I32 r1), (8, BB false)], [], []⟩) (orc := []) (ob := []) (by kernel_rfl) trivial ?_
      exact hJ1 false h

def C_r01_At (k : Nat) : FnC := ⟨true, 1, [], fun | [⟨.str, s1⟩, ⟨(.int .i64), at1⟩], [⟨(.pair (.int .i32) (.pair (.int .i64) (.pair (.int .i64) (.pair .bool .unit)))), r⟩] => r01_At k s1 at1 = some r | _, _ => False⟩
noncomputable def E_r01_At (k : Nat) : Env := ⟨Tryd.prog, Gl, 103, [(65, C_r01_tail k), (53, C_r01_Rune k)]⟩
theorem c_r01_At (k : Nat) : Contract Tryd.prog Gl 51 (C_r01_At k) := by
  refine contract_of Gl_stable (fn := Tryd.f51) Tryd.func51 (by kernel_rfl) rfl ?_ ?_
  · intro xs rs h
    unfold C_r01_At at h
    simp only at h
    split at h
    · exact ⟨by show 2 ≤ _; rw [Tryd.ntmps51]; decide, rfl, fun _ u hu => by simp at hu; (rcases hu with rfl) <;> rfl⟩
    · exact h.elim
  · intro w0 M xs rs hG h
    unfold C_r01_At at h
    simp only at h
    split at h
    case h_2 => exact h.elim
    rename_i s1 at1 r
    change List UInt8 at s1
    change Int at at1
    change (Int × Int × Int × Bool × Unit) at r
    have hE : EnvOK (E_r01_At k) ⟨Tryd.prog, Tryd.f51.ntmps, w0, M, fun _ => False, fun _ => undef⟩ := (EnvOK.cons (c_r01_tail k) (EnvOK.cons (c_r01_Rune k) (EnvOK.nil rfl Tryd.ntmps51 hG)))
    unfold r01_At at h
    refine W_seq ?_
    refine W_region ?_
    refine WL_all hE [0, 1, 4] [4] [] (st' := ⟨[(0, SS s1), (1, I64 at1), (4, .ptr 4 0)], [(4, .cells [I32 (0 : Int), I64 (0 : Int), I64 (0 : Int), BB false])], []⟩) (orc := []) (ob := []) (by kernel_rfl) trivial ?_
    refine N_then ?_
    refine W_seq ?_
    refine W_region ?_
    obtain ⟨b1, e1, h⟩ := bind_some h
    refine WL_all hE [0, 1, 4, 5] [4] [] (st' := ⟨[(0, SS s1), (1, I64 at1), (4, .ptr 4 0), (5, U8 b1)], [(4, .cells [I32 (0 : Int), I64 (0 : Int), I64 (0 : Int), BB false])], []⟩) (orc := [tU8 b1]) (ob := [byteAt s1 at1 = some b1]) (by kernel_rfl) ⟨e1, trivial⟩ ?_
    refine N_then ?_
    refine W_seq ?_
    refine W_seq ?_
    refine W_region ?_
    refine WL_all hE [0, 1, 4, 5, 15] [4] [] (st' := ⟨[(0, SS s1), (1, I64 at1), (4, .ptr 4 0), (5, U8 b1), (15, BB (decide (b1 < (128 : Int))))], [(4, .cells [I32 (0 : Int), I64 (0 : Int), I64 (0 : Int), BB false])], []⟩) (orc := []) (ob := []) (by kernel_rfl) trivial ?_
    refine N_then ?_
    refine W_cond (b := decide (b1 < (128 : Int))) (by kernel_rfl) (fun e2 => ?_) (fun e2 => ?_)
    · replace h := ite_t e2 h
      refine W_seq ?_
      refine W_region ?_
      refine WL_all hE [4] [4] [] (st' := ⟨[(4, .ptr 4 0)], [(4, .cells [I32 (wi32 b1), I64 at1, I64 (1 : Int), BB false])], []⟩) (orc := []) (ob := []) (by kernel_rfl) trivial ?_
      refine N_then ?_
      refine W_ret ?_
      refine N_then_ret ?_
      cases h
      exact N_end (.inl rfl) (by kernel_rfl)
    · replace h := ite_f e2 h
      refine W_skip ?_
      refine N_then ?_
      refine W_seq ?_
      refine W_region ?_
      refine WL_all hE [0, 1, 4, 5, 6] [4] [] (st' := ⟨[(0, SS s1), (1, I64 at1), (4, .ptr 4 0), (5, U8 b1), (6, I64 (0 : Int))], [(4, .cells [I32 (0 : Int), I64 (0 : Int), I64 (0 : Int), BB false])], []⟩) (orc := []) (ob := []) (by kernel_rfl) trivial ?_
      refine N_then ?_
      refine W_seq ?_
      refine W_region ?_
      refine WL_all hE [0, 1, 4, 5, 6, 7] [4] [] (st' := ⟨[(0, SS s1), (1, I64 at1), (4, .ptr 4 0), (5, U8 b1), (6, I64 (0 : Int)), (7, I32 (0 : Int))], [(4, .cells [I32 (0 : Int), I64 (0 : Int), I64 (0 : Int), BB false])], []⟩) (orc := []) (ob := []) (by kernel_rfl) trivial ?_
      refine N_then ?_
      refine W_join (α := (Int × Int)) (fun z => r01_At_j1 k at1 s1 z.1 z.2 = some r) (fun z => ⟨[(0, SS s1), (1, I64 at1), (4, .ptr 4 0), (6, I64 (z.1)), (7, I32 (z.2))], [(4, .cells [I32 (0 : Int), I64 (0 : Int), I64 (0 : Int), BB false])], []⟩) ?_ (fun hJ3 => ?_)
      · rintro ⟨long1, r1⟩ h
        unfold r01_At_j1 at h
        refine W_seq ?_
        refine W_region ?_
        refine WL_all hE [0, 1, 4, 6, 7, 8] [4, 8] [] (st' := ⟨[(0, SS s1), (1, I64 at1), (4, .ptr 4 0), (6, I64 long1), (7, I32 r1), (8, .ptr 8 0)], [(4, .cells [I32 (0 : Int), I64 (0 : Int), I64 (0 : Int), BB false]), (8, .cells [I32 (65533 : Int), I64 at1, I64 (1 : Int), BB true])], []⟩) (orc := []) (ob := []) (by kernel_rfl) trivial ?_
        refine N_then ?_
        refine W_seq ?_
        refine W_seq ?_
        refine W_region ?_
        refine WL_tk hE 3 [0, 1, 4, 6, 7, 8, 54] [4, 8] [] (st' := ⟨[(0, SS s1), (1, I64 at1), (4, .ptr 4 0), (6, I64 long1), (7, I32 r1), (8, .ptr 8 0), (54, BB (long1 == (0 : Int)))], [(4, .cells [I32 (0 : Int), I64 (0 : Int), I64 (0 : Int), BB false]), (8, .cells [I32 (65533 : Int), I64 at1, I64 (1 : Int), BB true])], []⟩) (orc := []) (ob := []) (by kernel_rfl) trivial ?_
        refine WL_join (α := Bool) (fun z => r01_At_j2 k at1 long1 s1 r1 z = some r) (fun t1 => ⟨[(0, SS s1), (1, I64 at1), (4, .ptr 4 0), (6, I64 long1), (7, I32 r1), (8, .ptr 8 0), (61, BB t1)], [(4, .cells [I32 (0 : Int), I64 (0 : Int), I64 (0 : Int), BB false]), (8, .cells [I32 (65533 : Int), I64 at1, I64 (1 : Int), BB true])], []⟩) 7 ?_ (fun hJ2 => ?_)
        · rintro t1 h
          unfold r01_At_j2 at h
          refine WL_nil ?_
          refine N_then ?_
          refine W_cond (b := t1) (by kernel_rfl) (fun e3 => ?_) (fun e3 => ?_)
          · replace h := ite_t e3 h
            refine W_seq ?_
            refine W_region ?_
            refine WL_all hE [4] [4] [] (st' := ⟨[(4, .ptr 4 0)], [(4, .cells [I32 (65533 : Int), I64 at1, I64 (1 : Int), BB true])], []⟩) (orc := []) (ob := []) (by kernel_rfl) trivial ?_
            refine N_then ?_
            refine W_ret ?_
            refine N_then_ret ?_
            cases h
            exact N_end (.inl rfl) (by kernel_rfl)
          · replace h := ite_f e3 h
            refine W_skip ?_
            refine N_then ?_
            refine W_seq ?_
            refine W_seq ?_
            refine W_region ?_
            refine WL_all hE [0, 1, 4, 6, 7, 8, 9] [4, 8] [] (st' := ⟨[(0, SS s1), (1, I64 at1), (4, .ptr 4 0), (6, I64 long1), (7, I32 r1), (8, .ptr 8 0), (9, I64 (1 : Int))], [(4, .cells [I32 (0 : Int), I64 (0 : Int), I64 (0 : Int), BB false]), (8, .cells [I32 (65533 : Int), I64 at1, I64 (1 : Int), BB true])], []⟩) (orc := []) (ob := []) (by kernel_rfl) trivial ?_
            refine N_then ?_
            refine W_block ?_
            refine W_loop (α := (Int × Int)) (fun n z => r01_At_l1 k long1 s1 at1 n z.1 z.2 = some r) (fun z => ⟨[(0, SS s1), (1, I64 at1), (4, .ptr 4 0), (6, I64 long1), (7, I32 (z.1)), (8, .ptr 8 0), (9, I64 (z.2))], [(4, .cells [I32 (0 : Int), I64 (0 : Int), I64 (0 : Int), BB false]), (8, .cells [I32 (65533 : Int), I64 at1, I64 (1 : Int), BB true])], []⟩) ?_ (k := k) (x := (r1, (1 : Int))) h
            clear h
            rintro n1 ⟨r2, i1⟩ h
            cases n1 with
            | zero => exact absurd (show none = some _ from h) (by simp)
            | succ n1 =>
              have h : r01_At_b1 k long1 s1 at1 (r01_At_l1 k long1 s1 at1 n1) r2 i1 = some r := h
              unfold r01_At_b1 at h
              refine W_seq ?_
              refine W_seq ?_
              refine W_region ?_
              refine WL_all hE [0, 1, 4, 6, 7, 8, 9, 65] [4, 8] [] (st' := ⟨[(0, SS s1), (1, I64 at1), (4, .ptr 4 0), (6, I64 long1), (7, I32 r2), (8, .ptr 8 0), (9, I64 i1), (65, BB (decide (i1 < long1)))], [(4, .cells [I32 (0 : Int), I64 (0 : Int), I64 (0 : Int), BB false]), (8, .cells [I32 (65533 : Int), I64 at1, I64 (1 : Int), BB true])], []⟩) (orc := []) (ob := []) (by kernel_rfl) trivial ?_
              refine N_then ?_
              refine W_cond (b := decide (i1 < long1)) (by kernel_rfl) (fun e4 => ?_) (fun e4 => ?_)
              · replace h := ite_t e4 h
                refine W_skip ?_
                refine N_then ?_
                refine W_seq ?_
                refine W_block ?_
                refine W_seq ?_
                refine W_seq ?_
                refine W_region ?_
                obtain ⟨b2, e5, h⟩ := bind_some h
                obtain ⟨v1, e6, h⟩ := bind_some h
                refine WL_all hE [0, 1, 4, 6, 7, 8, 9, 74] [4, 8] [] (st' := ⟨[(0, SS s1), (1, I64 at1), (4, .ptr 4 0), (6, I64 long1), (7, I32 r2), (8, .ptr 8 0), (9, I64 i1), (74, BB (!v1))], [(4, .cells [I32 (0 : Int), I64 (0 : Int), I64 (0 : Int), BB false]), (8, .cells [I32 (65533 : Int), I64 at1, I64 (1 : Int), BB true])], []⟩) (orc := [tU8 b2, tB v1]) (ob := [byteAt s1 (wi64 (at1 + i1)) = some b2, r01_tail k b2 = some v1]) (by kernel_rfl) ⟨e5, e6, trivial⟩ ?_
                refine N_then ?_
                refine W_cond (b := !v1) (by kernel_rfl) (fun e7 => ?_) (fun e7 => ?_)
                · replace h := ite_t e7 h
                  refine W_seq ?_
                  refine W_region ?_
                  refine WL_all hE [4] [4] [] (st' := ⟨[(4, .ptr 4 0)], [(4, .cells [I32 (65533 : Int), I64 at1, I64 (1 : Int), BB true])], []⟩) (orc := []) (ob := []) (by kernel_rfl) trivial ?_
                  refine N_then ?_
                  refine W_ret ?_
                  refine N_then_ret ?_
                  refine N_block_ret ?_
                  refine N_then_ret ?_
                  refine N_then_ret ?_
                  refine N_block_ret ?_
                  refine N_then_ret ?_
                  cases h
                  exact N_end (.inl rfl) (by kernel_rfl)
                · replace h := ite_f e7 h
                  refine W_skip ?_
                  refine N_then ?_
                  refine W_region ?_
                  obtain ⟨b3, e8, h⟩ := bind_some h
                  refine WL_all hE [0, 1, 4, 6, 7, 8, 9] [4, 8] [] (st' := ⟨[(0, SS s1), (1, I64 at1), (4, .ptr 4 0), (6, I64 long1), (7, I32 (wi32 ((wi32 ((64 : Int) * r2)) + (wi32 (wu8 (b3 - (128 : Int))))))), (8, .ptr 8 0), (9, I64 i1)], [(4, .cells [I32 (0 : Int), I64 (0 : Int), I64 (0 : Int), BB false]), (8, .cells [I32 (65533 : Int), I64 at1, I64 (1 : Int), BB true])], []⟩) (orc := [tU8 b3]) (ob := [byteAt s1 (wi64 (at1 + i1)) = some b3]) (by kernel_rfl) ⟨e8, trivial⟩ ?_
                  refine N_block ?_
                  refine N_then ?_
                  refine W_region ?_
                  refine WL_all hE [0, 1, 4, 6, 7, 8, 9] [4, 8] [] (st' := ⟨[(0, SS s1), (1, I64 at1), (4, .ptr 4 0), (6, I64 long1), (7, I32 (wi32 ((wi32 ((64 : Int) * r2)) + (wi32 (wu8 (b3 - (128 : Int))))))), (8, .ptr 8 0), (9, I64 (wi64 (i1 + (1 : Int))))], [(4, .cells [I32 (0 : Int), I64 (0 : Int), I64 (0 : Int), BB false]), (8, .cells [I32 (65533 : Int), I64 at1, I64 (1 : Int), BB true])], []⟩) (orc := []) (ob := []) (by kernel_rfl) trivial ?_
                  exact N_round (wi32 ((wi32 ((64 : Int) * r2)) + (wi32 (wu8 (b3 - (128 : Int))))), wi64 (i1 + (1 : Int))) (Nat.lt_succ_self _) h
              · replace h := ite_f e4 h
                refine W_exit ?_
                refine N_then_exit ?_
                refine N_then_exit ?_
                refine N_block_exit ?_
                refine N_then ?_
                refine W_seq ?_
                refine W_region ?_
                refine WL_all hE [1, 4, 6, 7, 8, 10] [4, 8] [86] (st' := ⟨[(1, I64 at1), (4, .ptr 4 0), (6, I64 long1), (7, I32 r2), (8, .ptr 8 0), (10, .row 86)], [(4, .cells [I32 (0 : Int), I64 (0 : Int), I64 (0 : Int), BB false]), (8, .cells [I32 (65533 : Int), I64 at1, I64 (1 : Int), BB true])], [(86, ⟨21, (.int .i32), ([(0 : Int), (0 : Int), (128 : Int), (2048 : Int), (65536 : Int)] : List (Int))⟩)]⟩) (orc := []) (ob := []) (by kernel_rfl) trivial ?_
                refine N_then ?_
                refine W_seq ?_
                refine W_seq ?_
                refine W_region ?_
                obtain ⟨x1, e9, h⟩ := bind_some h
                refine WL_tk hE 7 [1, 4, 6, 7, 8, 93] [4, 8] [] (st' := ⟨[(1, I64 at1), (4, .ptr 4 0), (6, I64 long1), (7, I32 r2), (8, .ptr 8 0), (93, BB (decide (r2 < x1)))], [(4, .cells [I32 (0 : Int), I64 (0 : Int), I64 (0 : Int), BB false]), (8, .cells [I32 (65533 : Int), I64 at1, I64 (1 : Int), BB true])], []⟩) (orc := [tI32 x1, tI32 x1]) (ob := [at? ([(0 : Int), (0 : Int), (128 : Int), (2048 : Int), (65536 : Int)] : List (Int)) long1 = some x1, at? ([(0 : Int), (0 : Int), (128 : Int), (2048 : Int), (65536 : Int)] : List (Int)) long1 = some x1]) (by kernel_rfl) ⟨e9, e9, trivial⟩ ?_
                refine WL_join (α := Bool) (fun z => r01_At_j3 at1 r2 long1 z = some r) (fun t2 => ⟨[(1, I64 at1), (4, .ptr 4 0), (6, I64 long1), (7, I32 r2), (8, .ptr 8 0), (97, BB t2)], [(4, .cells [I32 (0 : Int), I64 (0 : Int), I64 (0 : Int), BB false]), (8, .cells [I32 (65533 : Int), I64 at1, I64 (1 : Int), BB true])], []⟩) 4 ?_ (fun hJ3 => ?_)
                · rintro t2 h
                  unfold r01_At_j3 at h
                  refine WL_nil ?_
                  refine N_then ?_
                  refine W_cond (b := t2) (by kernel_rfl) (fun e10 => ?_) (fun e10 => ?_)
                  · replace h := ite_t e10 h
                    refine W_seq ?_
                    refine W_region ?_
                    refine WL_all hE [4] [4] [] (st' := ⟨[(4, .ptr 4 0)], [(4, .cells [I32 (65533 : Int), I64 at1, I64 (1 : Int), BB true])], []⟩) (orc := []) (ob := []) (by kernel_rfl) trivial ?_
                    refine N_then ?_
                    refine W_ret ?_
                    refine N_then_ret ?_
                    cases h
                    exact N_end (.inl rfl) (by kernel_rfl)
                  · replace h := ite_f e10 h
                    refine W_skip ?_
                    refine N_then ?_
                    refine W_seq ?_
                    refine W_region ?_
                    refine WL_all hE [4] [4] [] (st' := ⟨[(4, .ptr 4 0)], [(4, .cells [I32 r2, I64 at1, I64 long1, BB false])], []⟩) (orc := []) (ob := []) (by kernel_rfl) trivial ?_
                    refine N_then ?_
                    refine W_ret ?_
                    cases h
                    exact N_end (.inl rfl) (by kernel_rfl)
                refine WL_split (fun g => ⟨[(1, I64 at1), (4, .ptr 4 0), (6, I64 long1), (7, I32 r2), (8, .ptr 8 0), (93, BB g)], [(4, .cells [I32 (0 : Int), I64 (0 : Int), I64 (0 : Int), BB false]), (8, .cells [I32 (65533 : Int), I64 at1, I64 (1 : Int), BB true])], []⟩) (b := decide (r2 < x1)) (fun e11 => ?_) (fun e11 => ?_)
                · replace h := ite_t e11 h
                  refine WL_all hE [1, 4, 6, 7, 8, 97] [4, 8] [] (st' := ⟨[(1, I64 at1), (4, .ptr 4 0), (6, I64 long1), (7, I32 r2), (8, .ptr 8 0), (97, BB true)], [(4, .cells [I32 (0 : Int), I64 (0 : Int), I64 (0 : Int), BB false]), (8, .cells [I32 (65533 : Int), I64 at1, I64 (1 : Int), BB true])], []⟩) (orc := []) (ob := []) (by kernel_rfl) trivial ?_
                  exact hJ3 true h
                · replace h := ite_f e11 h
                  obtain ⟨v2, e12, h⟩ := bind_some h
                  refine WL_all hE [1, 4, 6, 7, 8, 97] [4, 8] [] (st' := ⟨[(1, I64 at1), (4, .ptr 4 0), (6, I64 long1), (7, I32 r2), (8, .ptr 8 0), (97, BB (!v2))], [(4, .cells [I32 (0 : Int), I64 (0 : Int), I64 (0 : Int), BB false]), (8, .cells [I32 (65533 : Int), I64 at1, I64 (1 : Int), BB true])], []⟩) (orc := [tB v2]) (ob := [r01_Rune k r2 = some v2]) (by kernel_rfl) ⟨e12, trivial⟩ ?_
                  exact hJ3 (!v2) h
        refine WL_split (fun g => ⟨[(0, SS s1), (1, I64 at1), (4, .ptr 4 0), (6, I64 long1), (7, I32 r1), (8, .ptr 8 0), (54, BB g)], [(4, .cells [I32 (0 : Int), I64 (0 : Int), I64 (0 : Int), BB false]), (8, .cells [I32 (65533 : Int), I64 at1, I64 (1 : Int), BB true])], []⟩) (b := long1 == (0 : Int)) (fun e13 => ?_) (fun e13 => ?_)
        · rw [or_t e13] at h
          refine WL_all hE [0, 1, 4, 6, 7, 8, 61] [4, 8] [] (st' := ⟨[(0, SS s1), (1, I64 at1), (4, .ptr 4 0), (6, I64 long1), (7, I32 r1), (8, .ptr 8 0), (61, BB true)], [(4, .cells [I32 (0 : Int), I64 (0 : Int), I64 (0 : Int), BB false]), (8, .cells [I32 (65533 : Int), I64 at1, I64 (1 : Int), BB true])], []⟩) (orc := []) (ob := []) (by kernel_rfl) trivial ?_
          exact hJ2 true h
        · rw [or_f e13] at h
          refine WL_all hE [0, 1, 4, 6, 7, 8, 61] [4, 8] [] (st' := ⟨[(0, SS s1), (1, I64 at1), (4, .ptr 4 0), (6, I64 long1), (7, I32 r1), (8, .ptr 8 0), (61, BB (decide ((List.length s1 : Int) < (wi64 (at1 + long1)))))], [(4, .cells [I32 (0 : Int), I64 (0 : Int), I64 (0 : Int), BB false]), (8, .cells [I32 (65533 : Int), I64 at1, I64 (1 : Int), BB true])], []⟩) (orc := []) (ob := []) (by kernel_rfl) trivial ?_
          exact hJ2 (decide ((List.length s1 : Int) < (wi64 (at1 + long1)))) h
      refine W_block ?_
      refine W_seq ?_
      refine W_region ?_
      refine WL_tk hE 3 [0, 1, 4, 5, 6, 7, 23] [4] [] (st' := ⟨[(0, SS s1), (1, I64 at1), (4, .ptr 4 0), (5, U8 b1), (6, I64 (0 : Int)), (7, I32 (0 : Int)), (23, BB (decide ((192 : Int) ≤ b1)))], [(4, .cells [I32 (0 : Int), I64 (0 : Int), I64 (0 : Int), BB false])], []⟩) (orc := []) (ob := []) (by kernel_rfl) trivial ?_
      refine WL_join (α := Bool) (fun z => r01_At_j4 k at1 s1 b1 z = some r) (fun t3 => ⟨[(0, SS s1), (1, I64 at1), (4, .ptr 4 0), (5, U8 b1), (6, I64 (0 : Int)), (7, I32 (0 : Int)), (26, BB t3)], [(4, .cells [I32 (0 : Int), I64 (0 : Int), I64 (0 : Int), BB false])], []⟩) 3 ?_ (fun hJ4 => ?_)
      · rintro t3 h
        unfold r01_At_j4 at h
        refine WL_all hE [0, 1, 4, 5, 6, 7, 20] [4] [] (st' := ⟨[(0, SS s1), (1, I64 at1), (4, .ptr 4 0), (5, U8 b1), (6, I64 (0 : Int)), (7, I32 (0 : Int)), (20, BB t3)], [(4, .cells [I32 (0 : Int), I64 (0 : Int), I64 (0 : Int), BB false])], []⟩) (orc := []) (ob := []) (by kernel_rfl) trivial ?_
        refine N_then ?_
        refine W_cond (b := t3) (by kernel_rfl) (fun e14 => ?_) (fun e14 => ?_)
        · replace h := ite_t e14 h
          refine W_seq ?_
          refine W_region ?_
          refine WL_all hE [0, 1, 4, 5, 6] [4] [] (st' := ⟨[(0, SS s1), (1, I64 at1), (4, .ptr 4 0), (5, U8 b1), (6, I64 (2 : Int))], [(4, .cells [I32 (0 : Int), I64 (0 : Int), I64 (0 : Int), BB false])], []⟩) (orc := []) (ob := []) (by kernel_rfl) trivial ?_
          refine N_then ?_
          refine W_region ?_
          refine WL_all hE [0, 1, 4, 6, 7] [4] [] (st' := ⟨[(0, SS s1), (1, I64 at1), (4, .ptr 4 0), (6, I64 (2 : Int)), (7, I32 (wi32 (wu8 (b1 - (192 : Int)))))], [(4, .cells [I32 (0 : Int), I64 (0 : Int), I64 (0 : Int), BB false])], []⟩) (orc := []) (ob := []) (by kernel_rfl) trivial ?_
          refine N_block ?_
          exact hJ3 ((2 : Int), wi32 (wu8 (b1 - (192 : Int)))) h
        · replace h := ite_f e14 h
          refine W_seq ?_
          refine W_region ?_
          refine WL_tk hE 3 [0, 1, 4, 5, 6, 7, 33] [4] [] (st' := ⟨[(0, SS s1), (1, I64 at1), (4, .ptr 4 0), (5, U8 b1), (6, I64 (0 : Int)), (7, I32 (0 : Int)), (33, BB (decide ((224 : Int) ≤ b1)))], [(4, .cells [I32 (0 : Int), I64 (0 : Int), I64 (0 : Int), BB false])], []⟩) (orc := []) (ob := []) (by kernel_rfl) trivial ?_
          refine WL_join (α := Bool) (fun z => r01_At_j5 k at1 s1 b1 z = some r) (fun t4 => ⟨[(0, SS s1), (1, I64 at1), (4, .ptr 4 0), (5, U8 b1), (6, I64 (0 : Int)), (7, I32 (0 : Int)), (36, BB t4)], [(4, .cells [I32 (0 : Int), I64 (0 : Int), I64 (0 : Int), BB false])], []⟩) 3 ?_ (fun hJ5 => ?_)
          · rintro t4 h
            unfold r01_At_j5 at h
            refine WL_all hE [0, 1, 4, 5, 6, 7, 30] [4] [] (st' := ⟨[(0, SS s1), (1, I64 at1), (4, .ptr 4 0), (5, U8 b1), (6, I64 (0 : Int)), (7, I32 (0 : Int)), (30, BB t4)], [(4, .cells [I32 (0 : Int), I64 (0 : Int), I64 (0 : Int), BB false])], []⟩) (orc := []) (ob := []) (by kernel_rfl) trivial ?_
            refine N_then ?_
            refine W_cond (b := t4) (by kernel_rfl) (fun e15 => ?_) (fun e15 => ?_)
            · replace h := ite_t e15 h
              refine W_seq ?_
              refine W_region ?_
              refine WL_all hE [0, 1, 4, 5, 6] [4] [] (st' := ⟨[(0, SS s1), (1, I64 at1), (4, .ptr 4 0), (5, U8 b1), (6, I64 (3 : Int))], [(4, .cells [I32 (0 : Int), I64 (0 : Int), I64 (0 : Int), BB false])], []⟩) (orc := []) (ob := []) (by kernel_rfl) trivial ?_
              refine N_then ?_
              refine W_region ?_
              refine WL_all hE [0, 1, 4, 6, 7] [4] [] (st' := ⟨[(0, SS s1), (1, I64 at1), (4, .ptr 4 0), (6, I64 (3 : Int)), (7, I32 (wi32 (wu8 (b1 - (224 : Int)))))], [(4, .cells [I32 (0 : Int), I64 (0 : Int), I64 (0 : Int), BB false])], []⟩) (orc := []) (ob := []) (by kernel_rfl) trivial ?_
              refine N_block ?_
              exact hJ3 ((3 : Int), wi32 (wu8 (b1 - (224 : Int)))) h
            · replace h := ite_f e15 h
              refine W_seq ?_
              refine W_region ?_
              refine WL_tk hE 3 [0, 1, 4, 5, 6, 7, 43] [4] [] (st' := ⟨[(0, SS s1), (1, I64 at1), (4, .ptr 4 0), (5, U8 b1), (6, I64 (0 : Int)), (7, I32 (0 : Int)), (43, BB (decide ((240 : Int) ≤ b1)))], [(4, .cells [I32 (0 : Int), I64 (0 : Int), I64 (0 : Int), BB false])], []⟩) (orc := []) (ob := []) (by kernel_rfl) trivial ?_
              refine WL_join (α := Bool) (fun z => r01_At_j6 k at1 s1 b1 z = some r) (fun t5 => ⟨[(0, SS s1), (1, I64 at1), (4, .ptr 4 0), (5, U8 b1), (6, I64 (0 : Int)), (7, I32 (0 : Int)), (46, BB t5)], [(4, .cells [I32 (0 : Int), I64 (0 : Int), I64 (0 : Int), BB false])], []⟩) 3 ?_ (fun hJ6 => ?_)
              · rintro t5 h
                unfold r01_At_j6 at h
                refine WL_all hE [0, 1, 4, 5, 6, 7, 40] [4] [] (st' := ⟨[(0, SS s1), (1, I64 at1), (4, .ptr 4 0), (5, U8 b1), (6, I64 (0 : Int)), (7, I32 (0 : Int)), (40, BB t5)], [(4, .cells [I32 (0 : Int), I64 (0 : Int), I64 (0 : Int), BB false])], []⟩) (orc := []) (ob := []) (by kernel_rfl) trivial ?_
                refine N_then ?_
                refine W_cond (b := t5) (by kernel_rfl) (fun e16 => ?_) (fun e16 => ?_)
                · replace h := ite_t e16 h
                  refine W_seq ?_
                  refine W_region ?_
                  refine WL_all hE [0, 1, 4, 5, 6] [4] [] (st' := ⟨[(0, SS s1), (1, I64 at1), (4, .ptr 4 0), (5, U8 b1), (6, I64 (4 : Int))], [(4, .cells [I32 (0 : Int), I64 (0 : Int), I64 (0 : Int), BB false])], []⟩) (orc := []) (ob := []) (by kernel_rfl) trivial ?_
                  refine N_then ?_
                  refine W_region ?_
                  refine WL_all hE [0, 1, 4, 6, 7] [4] [] (st' := ⟨[(0, SS s1), (1, I64 at1), (4, .ptr 4 0), (6, I64 (4 : Int)), (7, I32 (wi32 (wu8 (b1 - (240 : Int)))))], [(4, .cells [I32 (0 : Int), I64 (0 : Int), I64 (0 : Int), BB false])], []⟩) (orc := []) (ob := []) (by kernel_rfl) trivial ?_
                  refine N_block ?_
                  exact hJ3 ((4 : Int), wi32 (wu8 (b1 - (240 : Int)))) h
                · replace h := ite_f e16 h
                  refine W_skip ?_
                  refine N_block ?_
                  refine N.norm (st' := ⟨[(0, SS s1), (1, I64 at1), (4, .ptr 4 0), (6, I64 (0 : Int)), (7, I32 (0 : Int))], [(4, .cells [I32 (0 : Int), I64 (0 : Int), I64 (0 : Int), BB false])], []⟩) (ks := [0, 1, 4, 6, 7]) (bs := [4]) (rs := []) ?_ (by kernel_rfl)
                  exact hJ3 ((0 : Int), (0 : Int)) h
              refine WL_split (fun g => ⟨[(0, SS s1), (1, I64 at1), (4, .ptr 4 0), (5, U8 b1), (6, I64 (0 : Int)), (7, I32 (0 : Int)), (43, BB g)], [(4, .cells [I32 (0 : Int), I64 (0 : Int), I64 (0 : Int), BB false])], []⟩) (b := decide ((240 : Int) ≤ b1)) (fun e17 => ?_) (fun e17 => ?_)
              · rw [and_t e17] at h
                refine WL_all hE [0, 1, 4, 5, 6, 7, 46] [4] [] (st' := ⟨[(0, SS s1), (1, I64 at1), (4, .ptr 4 0), (5, U8 b1), (6, I64 (0 : Int)), (7, I32 (0 : Int)), (46, BB (decide (b1 < (248 : Int))))], [(4, .cells [I32 (0 : Int), I64 (0 : Int), I64 (0 : Int), BB false])], []⟩) (orc := []) (ob := []) (by kernel_rfl) trivial ?_
                exact hJ6 (decide (b1 < (248 : Int))) h
              · rw [and_f e17] at h
                refine WL_all hE [0, 1, 4, 5, 6, 7, 46] [4] [] (st' := ⟨[(0, SS s1), (1, I64 at1), (4, .ptr 4 0), (5, U8 b1), (6, I64 (0 : Int)), (7, I32 (0 : Int)), (46, BB false)], [(4, .cells [I32 (0 : Int), I64 (0 : Int), I64 (0 : Int), BB false])], []⟩) (orc := []) (ob := []) (by kernel_rfl) trivial ?_
                exact hJ6 false h
          refine WL_split (fun g => ⟨[(0, SS s1), (1, I64 at1), (4, .ptr 4 0), (5, U8 b1), (6, I64 (0 : Int)), (7, I32 (0 : Int)), (33, BB g)], [(4, .cells [I32 (0 : Int), I64 (0 : Int), I64 (0 : Int), BB false])], []⟩) (b := decide ((224 : Int) ≤ b1)) (fun e18 => ?_) (fun e18 => ?_)
          · rw [and_t e18] at h
            refine WL_all hE [0, 1, 4, 5, 6, 7, 36] [4] [] (st' := ⟨[(0, SS s1), (1, I64 at1), (4, .ptr 4 0), (5, U8 b1), (6, I64 (0 : Int)), (7, I32 (0 : Int)), (36, BB (decide (b1 < (240 : Int))))], [(4, .cells [I32 (0 : Int), I64 (0 : Int), I64 (0 : Int), BB false])], []⟩) (orc := []) (ob := []) (by kernel_rfl) trivial ?_
            exact hJ5 (decide (b1 < (240 : Int))) h
          · rw [and_f e18] at h
            refine WL_all hE [0, 1, 4, 5, 6, 7, 36] [4] [] (st' := ⟨[(0, SS s1), (1, I64 at1), (4, .ptr 4 0), (5, U8 b1), (6, I64 (0 : Int)), (7, I32 (0 : Int)), (36, BB false)], [(4, .cells [I32 (0 : Int), I64 (0 : Int), I64 (0 : Int), BB false])], []⟩) (orc := []) (ob := []) (by kernel_rfl) trivial ?_
            exact hJ5 false h
      refine WL_split (fun g => ⟨[(0, SS s1), (1, I64 at1), (4, .ptr 4 0), (5, U8 b1), (6, I64 (0 : Int)), (7, I32 (0 : Int)), (23, BB g)], [(4, .cells [I32 (0 : Int), I64 (0 : Int), I64 (0 : Int), BB false])], []⟩) (b := decide ((192 : Int) ≤ b1)) (fun e19 => ?_) (fun e19 => ?_)
      · rw [and_t e19] at h
        refine WL_all hE [0, 1, 4, 5, 6, 7, 26] [4] [] (st' := ⟨[(0, SS s1), (1, I64 at1), (4, .ptr 4 0), (5, U8 b1), (6, I64 (0 : Int)), (7, I32 (0 : Int)), (26, BB (decide (b1 < (224 : Int))))], [(4, .cells [I32 (0 : Int), I64 (0 : Int), I64 (0 : Int), BB false])], []⟩) (orc := []) (ob := []) (by kernel_rfl) trivial ?_
        exact hJ4 (decide (b1 < (224 : Int))) h
      · rw [and_f e19] at h
        refine WL_all hE [0, 1, 4, 5, 6, 7, 26] [4] [] (st' := ⟨[(0, SS s1), (1, I64 at1), (4, .ptr 4 0), (5, U8 b1), (6, I64 (0 : Int)), (7, I32 (0 : Int)), (26, BB false)], [(4, .cells [I32 (0 : Int), I64 (0 : Int), I64 (0 : Int), BB false])], []⟩) (orc := []) (ob := []) (by kernel_rfl) trivial ?_
        exact hJ4 false h

def C_r01_All (k : Nat) : FnC := ⟨false, 1, [], fun | [⟨.str, s1⟩], [⟨(.sl (.pair (.int .i32) (.pair (.int .i64) (.pair (.int .i64) (.pair .bool .unit))))), r⟩] => r01_All k s1 = some r | _, _ => False⟩
noncomputable def E_r01_All (k : Nat) : Env := ⟨Tryd.prog, Gl, 22, [(51, C_r01_At k)]⟩
theorem c_r01_All (k : Nat) : Contract Tryd.prog Gl 33 (C_r01_All k) := by
  refine contract_of Gl_stable (fn := Tryd.f33) Tryd.func33 (by kernel_rfl) rfl ?_ ?_
  · intro xs rs h
    unfold C_r01_All at h
    simp only at h
    split at h
    · exact ⟨by show 1 ≤ _; rw [Tryd.ntmps33]; decide, rfl, fun hf => by cases hf⟩
    · exact h.elim
  · intro w0 M xs rs hG h
    unfold C_r01_All at h
    simp only at h
    split at h
    case h_2 => exact h.elim
    rename_i s1 r
    change List UInt8 at s1
    change List ((Int × Int × Int × Bool × Unit)) at r
    have hE : EnvOK (E_r01_All k) ⟨Tryd.prog, Tryd.f33.ntmps, w0, M, fun _ => False, fun _ => undef⟩ := (EnvOK.cons (c_r01_At k) (EnvOK.nil rfl Tryd.ntmps33 hG))
    unfold r01_All at h
    refine W_seq ?_
    refine W_region ?_
    refine WL_all hE [0] [] [] (st' := ⟨[(0, SS s1)], [], []⟩) (orc := []) (ob := []) (by kernel_rfl) trivial ?_
    refine N_then ?_
    refine W_seq ?_
    refine W_region ?_
    refine WL_all hE [0, 3] [] [3] (st' := ⟨[(0, SS s1), (3, .row 3)], [], [(3, ⟨35, (.pair (.int .i32) (.pair (.int .i64) (.pair (.int .i64) (.pair .bool .unit)))), ([] : List ((Int × Int × Int × Bool × Unit)))⟩)]⟩) (orc := []) (ob := []) (by kernel_rfl) trivial ?_
    refine N_then ?_
    refine W_seq ?_
    refine W_region ?_
    refine WL_all hE [0, 3, 4] [] [3] (st' := ⟨[(0, SS s1), (3, .row 3), (4, I64 (0 : Int))], [], [(3, ⟨35, (.pair (.int .i32) (.pair (.int .i64) (.pair (.int .i64) (.pair .bool .unit)))), ([] : List ((Int × Int × Int × Bool × Unit)))⟩)]⟩) (orc := []) (ob := []) (by kernel_rfl) trivial ?_
    refine N_then ?_
    refine W_seq ?_
    refine W_block ?_
    refine W_loop (α := (Int × List ((Int × Int × Int × Bool × Unit)))) (fun n z => r01_All_l1 k s1 n z.1 z.2 = some r) (fun z => ⟨[(0, SS s1), (3, .row 3), (4, I64 (z.1))], [], [(3, ⟨35, (.pair (.int .i32) (.pair (.int .i64) (.pair (.int .i64) (.pair .bool .unit)))), (z.2)⟩)]⟩) ?_ (k := k) (x := ((0 : Int), ([] : List ((Int × Int × Int × Bool × Unit))))) h
    clear h
    rintro n1 ⟨at1, out1⟩ h
    cases n1 with
    | zero => exact absurd (show none = some _ from h) (by simp)
    | succ n1 =>
      have h : r01_All_b1 k s1 (r01_All_l1 k s1 n1) at1 out1 = some r := h
      unfold r01_All_b1 at h
      refine W_seq ?_
      refine W_seq ?_
      refine W_region ?_
      refine WL_all hE [0, 3, 4, 9] [] [3] (st' := ⟨[(0, SS s1), (3, .row 3), (4, I64 at1), (9, BB (decide (at1 < (List.length s1 : Int))))], [], [(3, ⟨35, (.pair (.int .i32) (.pair (.int .i64) (.pair (.int .i64) (.pair .bool .unit)))), out1⟩)]⟩) (orc := []) (ob := []) (by kernel_rfl) trivial ?_
      refine N_then ?_
      refine W_cond (b := decide (at1 < (List.length s1 : Int))) (by kernel_rfl) (fun e1 => ?_) (fun e1 => ?_)
      · replace h := ite_t e1 h
        refine W_skip ?_
        refine N_then ?_
        refine W_block ?_
        refine W_seq ?_
        refine W_region ?_
        obtain ⟨v1, e2, h⟩ := bind_some h
        refine WL_all hE [0, 3, 4, 5] [5] [3] (st' := ⟨[(0, SS s1), (3, .row 3), (4, I64 at1), (5, .ptr 5 0)], [(5, .cells [I32 v1.1, I64 v1.2.1, I64 v1.2.2.1, BB v1.2.2.2.1])], [(3, ⟨35, (.pair (.int .i32) (.pair (.int .i64) (.pair (.int .i64) (.pair .bool .unit)))), out1⟩)]⟩) (orc := [⟨(.pair (.int .i32) (.pair (.int .i64) (.pair (.int .i64) (.pair .bool .unit)))), v1⟩]) (ob := [r01_At k s1 at1 = some v1]) (by kernel_rfl) ⟨e2, trivial⟩ ?_
        refine N_then ?_
        refine W_seq ?_
        refine W_region ?_
        obtain ⟨_, e3, h⟩ := bind_some h
        replace e3 := chk_some e3
        refine WL_all hE [0, 3, 4, 5] [5] [3] (st' := ⟨[(0, SS s1), (3, .row 3), (4, I64 at1), (5, .ptr 5 0)], [(5, .cells [I32 v1.1, I64 v1.2.1, I64 v1.2.2.1, BB v1.2.2.2.1])], [(3, ⟨35, (.pair (.int .i32) (.pair (.int .i64) (.pair (.int .i64) (.pair .bool .unit)))), out1 ++ ([(v1.1, v1.2.1, v1.2.2.1, v1.2.2.2.1, ())] : List ((Int × Int × Int × Bool × Unit)))⟩)]⟩) (orc := []) (ob := [List.length out1 + List.length ([(v1.1, v1.2.1, v1.2.2.1, v1.2.2.2.1, ())] : List ((Int × Int × Int × Bool × Unit))) ≤ lim]) (by kernel_rfl) ⟨e3, trivial⟩ ?_
        refine N_then ?_
        refine W_region ?_
        refine WL_all hE [0, 3, 4] [] [3] (st' := ⟨[(0, SS s1), (3, .row 3), (4, I64 (wi64 (at1 + v1.2.2.1)))], [], [(3, ⟨35, (.pair (.int .i32) (.pair (.int .i64) (.pair (.int .i64) (.pair .bool .unit)))), out1 ++ ([(v1.1, v1.2.1, v1.2.2.1, v1.2.2.2.1, ())] : List ((Int × Int × Int × Bool × Unit)))⟩)]⟩) (orc := []) (ob := []) (by kernel_rfl) trivial ?_
        refine N_block ?_
        exact N_round (wi64 (at1 + v1.2.2.1), out1 ++ ([(v1.1, v1.2.1, v1.2.2.1, v1.2.2.2.1, ())] : List ((Int × Int × Int × Bool × Unit)))) (Nat.lt_succ_self _) h
      · replace h := ite_f e1 h
        refine W_exit ?_
        refine N_then_exit ?_
        refine N_then_exit ?_
        refine N_block_exit ?_
        refine N_then ?_
        refine W_seq ?_
        refine W_region ?_
        refine WL_all hE [2] [] [3] (st' := ⟨[(2, .row 3)], [], [(3, ⟨35, (.pair (.int .i32) (.pair (.int .i64) (.pair (.int .i64) (.pair .bool .unit)))), out1⟩)]⟩) (orc := []) (ob := []) (by kernel_rfl) trivial ?_
        refine N_then ?_
        refine W_ret ?_
        cases h
        exact N_end (.inl rfl) (by kernel_rfl)

def C_r01_weight (k : Nat) : FnC := ⟨true, 1, [], fun | [⟨.str, s1⟩, ⟨(.pair (.int .i32) (.pair (.int .i64) (.pair (.int .i64) (.pair .bool .unit)))), p1⟩], [⟨(.int .i64), r⟩] => r01_weight k s1 p1 = some r | _, _ => False⟩
noncomputable def E_r01_weight (k : Nat) : Env := ⟨Tryd.prog, Gl, 16, []⟩
theorem c_r01_weight (k : Nat) : Contract Tryd.prog Gl 34 (C_r01_weight k) := by
  refine contract_of Gl_stable (fn := Tryd.f34) Tryd.func34 (by kernel_rfl) rfl ?_ ?_
  · intro xs rs h
    unfold C_r01_weight at h
    simp only at h
    split at h
    · exact ⟨by show 2 ≤ _; rw [Tryd.ntmps34]; decide, rfl, fun _ u hu => by simp at hu; (rcases hu with rfl) <;> rfl⟩
    · exact h.elim
  · intro w0 M xs rs hG h
    unfold C_r01_weight at h
    simp only at h
    split at h
    case h_2 => exact h.elim
    rename_i s1 p1 r
    change List UInt8 at s1
    change (Int × Int × Int × Bool × Unit) at p1
    change Int at r
    have hE : EnvOK (E_r01_weight k) ⟨Tryd.prog, Tryd.f34.ntmps, w0, M, fun _ => False, fun _ => undef⟩ := (EnvOK.nil rfl Tryd.ntmps34 hG)
    unfold r01_weight at h
    refine W_seq ?_
    refine W_region ?_
    refine WL_all hE [0, 3] [3] [] (st' := ⟨[(0, SS s1), (3, .ptr 3 0)], [(3, .cells [I32 p1.1, I64 p1.2.1, I64 p1.2.2.1, BB p1.2.2.2.1])], []⟩) (orc := []) (ob := []) (by kernel_rfl) trivial ?_
    refine N_then ?_
    refine W_seq ?_
    refine W_seq ?_
    refine W_region ?_
    refine WL_all hE [0, 3, 6] [3] [] (st' := ⟨[(0, SS s1), (3, .ptr 3 0), (6, BB p1.2.2.2.1)], [(3, .cells [I32 p1.1, I64 p1.2.1, I64 p1.2.2.1, BB p1.2.2.2.1])], []⟩) (orc := []) (ob := []) (by kernel_rfl) trivial ?_
    refine N_then ?_
    refine W_cond (b := p1.2.2.2.1) (by kernel_rfl) (fun e1 => ?_) (fun e1 => ?_)
    · replace h := ite_t e1 h
      refine W_seq ?_
      refine W_region ?_
      obtain ⟨b1, e2, h⟩ := bind_some h
      refine WL_all hE [4] [] [] (st' := ⟨[(4, I64 (wi64 ((2097152 : Int) + (wi64 b1))))], [], []⟩) (orc := [tU8 b1]) (ob := [byteAt s1 p1.2.1 = some b1]) (by kernel_rfl) ⟨e2, trivial⟩ ?_
      refine N_then ?_
      refine W_ret ?_
      refine N_then_ret ?_
      cases h
      exact N_end (.inl rfl) (by kernel_rfl)
    · replace h := ite_f e1 h
      refine W_skip ?_
      refine N_then ?_
      refine W_seq ?_
      refine W_region ?_
      refine WL_all hE [4] [] [] (st' := ⟨[(4, I64 (wi64 p1.1))], [], []⟩) (orc := []) (ob := []) (by kernel_rfl) trivial ?_
      refine N_then ?_
      refine W_ret ?_
      cases h
      exact N_end (.inl rfl) (by kernel_rfl)

def C_r01_Less (k : Nat) : FnC := ⟨true, 1, [], fun | [⟨.str, a1⟩, ⟨.str, b1⟩], [⟨.bool, r⟩] => r01_Less k a1 b1 = some r | _, _ => False⟩
noncomputable def E_r01_Less (k : Nat) : Env := ⟨Tryd.prog, Gl, 49, [(33, C_r01_All k), (34, C_r01_weight k)]⟩
theorem c_r01_Less (k : Nat) : Contract Tryd.prog Gl 11 (C_r01_Less k) := by
  refine contract_of Gl_stable (fn := Tryd.f11) Tryd.func11 (by kernel_rfl) rfl ?_ ?_
  · intro xs rs h
    unfold C_r01_Less at h
    simp only at h
    split at h
    · exact ⟨by show 2 ≤ _; rw [Tryd.ntmps11]; decide, rfl, fun _ u hu => by simp at hu; (rcases hu with rfl) <;> rfl⟩
    · exact h.elim
  · intro w0 M xs rs hG h
    unfold C_r01_Less at h
    simp only at h
    split at h
    case h_2 => exact h.elim
    rename_i a1 b1 r
    change List UInt8 at a1
    change List UInt8 at b1
    change Bool at r
    have hE : EnvOK (E_r01_Less k) ⟨Tryd.prog, Tryd.f11.ntmps, w0, M, fun _ => False, fun _ => undef⟩ := (EnvOK.cons (c_r01_All k) (EnvOK.cons (c_r01_weight k) (EnvOK.nil rfl Tryd.ntmps11 hG)))
    unfold r01_Less at h
    refine W_seq ?_
    refine W_region ?_
    refine WL_all hE [0, 1] [] [] (st' := ⟨[(0, SS a1), (1, SS b1)], [], []⟩) (orc := []) (ob := []) (by kernel_rfl) trivial ?_
    refine N_then ?_
    refine W_seq ?_
    refine W_region ?_
    obtain ⟨v1, e1, h⟩ := bind_some h
    obtain ⟨v2, e2, h⟩ := bind_some h
    refine WL_all hE [0, 1, 5, 6] [] [] (st' := ⟨[(0, SS a1), (1, SS b1), (5, .val (.sl (.pair (.int .i32) (.pair (.int .i64) (.pair (.int .i64) (.pair .bool .unit))))) v1), (6, .val (.sl (.pair (.int .i32) (.pair (.int .i64) (.pair (.int .i64) (.pair .bool .unit))))) v2)], [], []⟩) (orc := [⟨(.sl (.pair (.int .i32) (.pair (.int .i64) (.pair (.int .i64) (.pair .bool .unit))))), v1⟩, ⟨(.sl (.pair (.int .i32) (.pair (.int .i64) (.pair (.int .i64) (.pair .bool .unit))))), v2⟩]) (ob := [r01_All k a1 = some v1, r01_All k b1 = some v2]) (by kernel_rfl) ⟨e1, e2, trivial⟩ ?_
    refine N_then ?_
    refine W_seq ?_
    refine W_seq ?_
    refine W_region ?_
    refine WL_all hE [0, 1, 5, 6, 7] [] [] (st' := ⟨[(0, SS a1), (1, SS b1), (5, .val (.sl (.pair (.int .i32) (.pair (.int .i64) (.pair (.int .i64) (.pair .bool .unit))))) v1), (6, .val (.sl (.pair (.int .i32) (.pair (.int .i64) (.pair (.int .i64) (.pair .bool .unit))))) v2), (7, I64 (0 : Int))], [], []⟩) (orc := []) (ob := []) (by kernel_rfl) trivial ?_
    refine N_then ?_
    refine W_block ?_
    refine W_loop (α := Int) (fun n z => r01_Less_l1 k v1 a1 v2 b1 n z = some r) (fun i1 => ⟨[(0, SS a1), (1, SS b1), (5, .val (.sl (.pair (.int .i32) (.pair (.int .i64) (.pair (.int .i64) (.pair .bool .unit))))) v1), (6, .val (.sl (.pair (.int .i32) (.pair (.int .i64) (.pair (.int .i64) (.pair .bool .unit))))) v2), (7, I64 i1)], [], []⟩) ?_ (k := k) (x := (0 : Int)) h
    clear h
    rintro n1 i1 h
    cases n1 with
    | zero => exact absurd (show none = some _ from h) (by simp)
    | succ n1 =>
      have h : r01_Less_b1 k v1 a1 v2 b1 (r01_Less_l1 k v1 a1 v2 b1 n1) i1 = some r := h
      unfold r01_Less_b1 at h
      refine W_seq ?_
      refine W_seq ?_
      refine W_region ?_
      refine WL_tk hE 5 [0, 1, 5, 6, 7, 18] [] [] (st' := ⟨[(0, SS a1), (1, SS b1), (5, .val (.sl (.pair (.int .i32) (.pair (.int .i64) (.pair (.int .i64) (.pair .bool .unit))))) v1), (6, .val (.sl (.pair (.int .i32) (.pair (.int .i64) (.pair (.int .i64) (.pair .bool .unit))))) v2), (7, I64 i1), (18, BB (decide (i1 < (List.length v1 : Int))))], [], []⟩) (orc := []) (ob := []) (by kernel_rfl) trivial ?_
      refine WL_join (α := Bool) (fun z => r01_Less_j1 k v1 i1 a1 v2 b1 (r01_Less_l1 k v1 a1 v2 b1 n1) z = some r) (fun t1 => ⟨[(0, SS a1), (1, SS b1), (5, .val (.sl (.pair (.int .i32) (.pair (.int .i64) (.pair (.int .i64) (.pair .bool .unit))))) v1), (6, .val (.sl (.pair (.int .i32) (.pair (.int .i64) (.pair (.int .i64) (.pair .bool .unit))))) v2), (7, I64 i1), (23, BB t1)], [], []⟩) 5 ?_ (fun hJ1 => ?_)
      · rintro t1 h
        unfold r01_Less_j1 at h
        refine WL_nil ?_
        refine N_then ?_
        refine W_cond (b := t1) (by kernel_rfl) (fun e3 => ?_) (fun e3 => ?_)
        · replace h := ite_t e3 h
          refine W_skip ?_
          refine N_then ?_
          refine W_seq ?_
          refine W_block ?_
          refine W_seq ?_
          refine W_draw (by kernel_rfl) (by kernel_rfl) ?_
          obtain ⟨x1, e4, h⟩ := bind_some h
          obtain ⟨v3, e6, h⟩ := bind_some h
          obtain ⟨x2, e5, h⟩ := bind_some h
          obtain ⟨v4, e7, h⟩ := bind_some h
          refine WD_all hE [0, 1, 5, 6, 7, 8, 9] [] [] (st' := ⟨[(0, SS a1), (1, SS b1), (5, .val (.sl (.pair (.int .i32) (.pair (.int .i64) (.pair (.int .i64) (.pair .bool .unit))))) v1), (6, .val (.sl (.pair (.int .i32) (.pair (.int .i64) (.pair (.int .i64) (.pair .bool .unit))))) v2), (7, I64 i1), (8, I64 v3), (9, I64 v4)], [], []⟩) (orc := [⟨(.pair (.int .i32) (.pair (.int .i64) (.pair (.int .i64) (.pair .bool .unit)))), x1⟩, tI64 v3, ⟨(.pair (.int .i32) (.pair (.int .i64) (.pair (.int .i64) (.pair .bool .unit)))), x2⟩, tI64 v4]) (ob := [at? v1 i1 = some x1, r01_weight k a1 x1 = some v3, at? v2 i1 = some x2, r01_weight k b1 x2 = some v4]) (by kernel_rfl) ⟨e4, e6, e5, e7, trivial⟩ ?_
          refine N_then ?_
          refine W_seq ?_
          refine W_region ?_
          refine WL_all hE [0, 1, 5, 6, 7, 8, 9, 40] [] [] (st' := ⟨[(0, SS a1), (1, SS b1), (5, .val (.sl (.pair (.int .i32) (.pair (.int .i64) (.pair (.int .i64) (.pair .bool .unit))))) v1), (6, .val (.sl (.pair (.int .i32) (.pair (.int .i64) (.pair (.int .i64) (.pair .bool .unit))))) v2), (7, I64 i1), (8, I64 v3), (9, I64 v4), (40, BB (v3 != v4))], [], []⟩) (orc := []) (ob := []) (by kernel_rfl) trivial ?_
          refine N_then ?_
          refine W_cond (b := v3 != v4) (by kernel_rfl) (fun e8 => ?_) (fun e8 => ?_)
          · replace h := ite_t e8 h
            refine W_seq ?_
            refine W_region ?_
            refine WL_all hE [4] [] [] (st' := ⟨[(4, BB (decide (v3 < v4)))], [], []⟩) (orc := []) (ob := []) (by kernel_rfl) trivial ?_
            refine N_then ?_
            refine W_ret ?_
            refine N_block_ret ?_
            refine N_then_ret ?_
            refine N_then_ret ?_
            refine N_block_ret ?_
            refine N_then_ret ?_
            cases h
            exact N_end (.inl rfl) (by kernel_rfl)
          · replace h := ite_f e8 h
            refine W_skip ?_
            refine N_block ?_
            refine N_then ?_
            refine W_region ?_
            refine WL_all hE [0, 1, 5, 6, 7] [] [] (st' := ⟨[(0, SS a1), (1, SS b1), (5, .val (.sl (.pair (.int .i32) (.pair (.int .i64) (.pair (.int .i64) (.pair .bool .unit))))) v1), (6, .val (.sl (.pair (.int .i32) (.pair (.int .i64) (.pair (.int .i64) (.pair .bool .unit))))) v2), (7, I64 (wi64 (i1 + (1 : Int))))], [], []⟩) (orc := []) (ob := []) (by kernel_rfl) trivial ?_
            exact N_round (wi64 (i1 + (1 : Int))) (Nat.lt_succ_self _) h
        · replace h := ite_f e3 h
          refine W_exit ?_
          refine N_then_exit ?_
          refine N_then_exit ?_
          refine N_block_exit ?_
          refine N_then ?_
          refine W_seq ?_
          refine W_region ?_
          refine WL_all hE [4] [] [] (st' := ⟨[(4, BB (decide ((List.length v1 : Int) < (List.length v2 : Int))))], [], []⟩) (orc := []) (ob := []) (by kernel_rfl) trivial ?_
          refine N_then ?_
          refine W_ret ?_
          cases h
          exact N_end (.inl rfl) (by kernel_rfl)
      refine WL_split (fun g => ⟨[(0, SS a1), (1, SS b1), (5, .val (.sl (.pair (.int .i32) (.pair (.int .i64) (.pair (.int .i64) (.pair .bool .unit))))) v1), (6, .val (.sl (.pair (.int .i32) (.pair (.int .i64) (.pair (.int .i64) (.pair .bool .unit))))) v2), (7, I64 i1), (18, BB g)], [], []⟩) (b := decide (i1 < (List.length v1 : Int))) (fun e9 => ?_) (fun e9 => ?_)
      · rw [and_t e9] at h
        refine WL_all hE [0, 1, 5, 6, 7, 23] [] [] (st' := ⟨[(0, SS a1), (1, SS b1), (5, .val (.sl (.pair (.int .i32) (.pair (.int .i64) (.pair (.int .i64) (.pair .bool .unit))))) v1), (6, .val (.sl (.pair (.int .i32) (.pair (.int .i64) (.pair (.int .i64) (.pair .bool .unit))))) v2), (7, I64 i1), (23, BB (decide (i1 < (List.length v2 : Int))))], [], []⟩) (orc := []) (ob := []) (by kernel_rfl) trivial ?_
        exact hJ1 (decide (i1 < (List.length v2 : Int))) h
      · rw [and_f e9] at h
        refine WL_all hE [0, 1, 5, 6, 7, 23] [] [] (st' := ⟨[(0, SS a1), (1, SS b1), (5, .val (.sl (.pair (.int .i32) (.pair (.int .i64) (.pair (.int .i64) (.pair .bool .unit))))) v1), (6, .val (.sl (.pair (.int .i32) (.pair (.int .i64) (.pair (.int .i64) (.pair .bool .unit))))) v2), (7, I64 i1), (23, BB false)], [], []⟩) (orc := []) (ob := []) (by kernel_rfl) trivial ?_
        exact hJ1 false h

def C_l01_RunesRow (k : Nat) : FnC := ⟨true, 1, [], fun | [⟨.str, a1⟩, ⟨.str, b1⟩], [⟨.bool, r⟩] => l01_RunesRow k a1 b1 = some r | _, _ => False⟩
noncomputable def E_l01_RunesRow (k : Nat) : Env := ⟨Tryd.prog, Gl, 29, [(10, C_runes_Less k), (11, C_r01_Less k)]⟩
theorem c_l01_RunesRow (k : Nat) : Contract Tryd.prog Gl 3 (C_l01_RunesRow k) := by
  refine contract_of Gl_stable (fn := Tryd.f3) Tryd.func3 (by kernel_rfl) rfl ?_ ?_
  · intro xs rs h
    unfold C_l01_RunesRow at h
    simp only at h
    split at h
    · exact ⟨by show 2 ≤ _; rw [Tryd.ntmps3]; decide, rfl, fun _ u hu => by simp at hu; (rcases hu with rfl) <;> rfl⟩
    · exact h.elim
  · intro w0 M xs rs hG h
    unfold C_l01_RunesRow at h
    simp only at h
    split at h
    case h_2 => exact h.elim
    rename_i a1 b1 r
    change List UInt8 at a1
    change List UInt8 at b1
    change Bool at r
    have hE : EnvOK (E_l01_RunesRow k) ⟨Tryd.prog, Tryd.f3.ntmps, w0, M, fun _ => False, fun _ => undef⟩ := (EnvOK.cons (c_runes_Less k) (EnvOK.cons (c_r01_Less k) (EnvOK.nil rfl Tryd.ntmps3 hG)))
    unfold l01_RunesRow at h
    refine W_seq ?_
    refine W_region ?_
    refine WL_all hE [0, 1] [] [] (st' := ⟨[(0, SS a1), (1, SS b1)], [], []⟩) (orc := []) (ob := []) (by kernel_rfl) trivial ?_
    refine N_then ?_
    refine W_seq ?_
    refine W_seq ?_
    refine W_region ?_
    refine WL_tk hE 4 [0, 1, 8] [] [] (st' := ⟨[(0, SS a1), (1, SS b1), (8, BB (decide ((5000 : Int) < (List.length a1 : Int))))], [], []⟩) (orc := []) (ob := []) (by kernel_rfl) trivial ?_
    refine WL_join (α := Bool) (fun z => l01_RunesRow_j1 k a1 b1 z = some r) (fun t1 => ⟨[(0, SS a1), (1, SS b1), (12, BB t1)], [], []⟩) 4 ?_ (fun hJ1 => ?_)
    · rintro t1 h
      unfold l01_RunesRow_j1 at h
      refine WL_nil ?_
      refine N_then ?_
      refine W_cond (b := t1) (by kernel_rfl) (fun e1 => ?_) (fun e1 => ?_)
      · replace h := ite_t e1 h
        refine W_seq ?_
        refine W_region ?_
        refine WL_all hE [4] [] [] (st' := ⟨[(4, BB true)], [], []⟩) (orc := []) (ob := []) (by kernel_rfl) trivial ?_
        refine N_then ?_
        refine W_ret ?_
        refine N_then_ret ?_
        cases h
        exact N_end (.inl rfl) (by kernel_rfl)
      · replace h := ite_f e1 h
        refine W_skip ?_
        refine N_then ?_
        refine W_seq ?_
        refine W_region ?_
        obtain ⟨v1, e2, h⟩ := bind_some h
        obtain ⟨v2, e3, h⟩ := bind_some h
        refine WL_tk hE 8 [0, 1, 20] [] [] (st' := ⟨[(0, SS a1), (1, SS b1), (20, BB (v1 == v2))], [], []⟩) (orc := [tB v1, tB v2]) (ob := [runes_Less k a1 b1 = some v1, r01_Less k a1 b1 = some v2]) (by kernel_rfl) ⟨e2, e3, trivial⟩ ?_
        refine WL_join (α := Bool) (fun z => l01_RunesRow_j2 z = some r) (fun t2 => ⟨[(28, BB t2)], [], []⟩) 8 ?_ (fun hJ2 => ?_)
        · rintro t2 h
          unfold l01_RunesRow_j2 at h
          refine WL_all hE [4] [] [] (st' := ⟨[(4, BB t2)], [], []⟩) (orc := []) (ob := []) (by kernel_rfl) trivial ?_
          refine N_then ?_
          refine W_ret ?_
          cases h
          exact N_end (.inl rfl) (by kernel_rfl)
        refine WL_split (fun g => ⟨[(0, SS a1), (1, SS b1), (20, BB g)], [], []⟩) (b := v1 == v2) (fun e4 => ?_) (fun e4 => ?_)
        · replace h := ite_t e4 h
          obtain ⟨v3, e5, h⟩ := bind_some h
          obtain ⟨v4, e6, h⟩ := bind_some h
          refine WL_all hE [28] [] [] (st' := ⟨[(28, BB (v3 == v4))], [], []⟩) (orc := [tB v3, tB v4]) (ob := [runes_Less k b1 a1 = some v3, r01_Less k b1 a1 = some v4]) (by kernel_rfl) ⟨e5, e6, trivial⟩ ?_
          exact hJ2 (v3 == v4) h
        · replace h := ite_f e4 h
          refine WL_all hE [28] [] [] (st' := ⟨[(28, BB false)], [], []⟩) (orc := []) (ob := []) (by kernel_rfl) trivial ?_
          exact hJ2 false h
    refine WL_split (fun g => ⟨[(0, SS a1), (1, SS b1), (8, BB g)], [], []⟩) (b := decide ((5000 : Int) < (List.length a1 : Int))) (fun e7 => ?_) (fun e7 => ?_)
    · rw [or_t e7] at h
      refine WL_all hE [0, 1, 12] [] [] (st' := ⟨[(0, SS a1), (1, SS b1), (12, BB true)], [], []⟩) (orc := []) (ob := []) (by kernel_rfl) trivial ?_
      exact hJ1 true h
    · rw [or_f e7] at h
      refine WL_all hE [0, 1, 12] [] [] (st' := ⟨[(0, SS a1), (1, SS b1), (12, BB (decide ((5000 : Int) < (List.length b1 : Int))))], [], []⟩) (orc := []) (ob := []) (by kernel_rfl) trivial ?_
      exact hJ1 (decide ((5000 : Int) < (List.length b1 : Int))) h

end Go.Ev
