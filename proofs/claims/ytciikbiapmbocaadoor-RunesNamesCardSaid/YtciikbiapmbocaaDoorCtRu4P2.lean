/- Contracts, by program. -/
import Derived.Test.YtciikbiapmbocaaDoorProg
import Derived.Test.YtciikbiapmbocaaDoorEvY
import Derived.Test.YtciikbiapmbocaaDoorShRu4
import Derived.Test.YtciikbiapmbocaaDoorLibX
import Derived.Test.YtciikbiapmbocaaDoorCtRu4P1
import Derived.KernelRfl
namespace Go.Ev
open Go Go.Proofs
set_option linter.unusedVariables false
set_option maxRecDepth 100000

def C_internal_strconv_ParseUint (k : Nat) : FnC := ⟨false, 2, [], fun | [⟨.str, s1⟩, ⟨(.int .i64), base1⟩, ⟨(.int .i64), bitsize1⟩], [⟨(.int .u64), rz1⟩, ⟨.err, rz2⟩] => internal_strconv_ParseUint k s1 base1 bitsize1 = some (rz1, rz2) | _, _ => False⟩
noncomputable def E_internal_strconv_ParseUint (k : Nat) : Env := ⟨Tryd.prog, Gu, 172, [(80, C_internal_strconv_lower k), (81, C_internal_strconv_underscoreOK k)]⟩
theorem c_internal_strconv_ParseUint (k : Nat) : Contract Tryd.prog Gu 73 (C_internal_strconv_ParseUint k) := by
  refine contract_of Gu_stable (fn := Tryd.f73) Tryd.func73 (by kernel_rfl) rfl ?_ ?_
  · intro xs rs h
    unfold C_internal_strconv_ParseUint at h
    simp only at h
    split at h
    · exact ⟨by show 3 ≤ _; rw [Tryd.ntmps73]; decide, rfl, fun hf => by cases hf⟩
    · exact h.elim
  · intro w0 M xs rs hG h
    unfold C_internal_strconv_ParseUint at h
    simp only at h
    split at h
    case h_2 => exact h.elim
    rename_i s1 base1 bitsize1 rz1 rz2
    change List UInt8 at s1
    change Int at base1
    change Int at bitsize1
    change Int at rz1
    change Option (Option (Nat × Int)) at rz2
    have hE : EnvOK (E_internal_strconv_ParseUint k) ⟨Tryd.prog, Tryd.f73.ntmps, w0, M, fun _ => False, fun _ => undef⟩ := (EnvOK.cons (c_internal_strconv_lower k) (EnvOK.cons (c_internal_strconv_underscoreOK k) (EnvOK.nil rfl Tryd.ntmps73 hG)))
    unfold internal_strconv_ParseUint at h
    refine W_seq ?_
    refine W_region ?_
    refine WL_all hE [0, 1, 2] [] [] (st' := ⟨[(0, SS s1), (1, I64 base1), (2, I64 bitsize1)], [], []⟩) (orc := []) (ob := []) (by kernel_rfl) trivial ?_
    refine N_then ?_
    refine W_seq ?_
    refine W_seq ?_
    refine W_region ?_
    refine WL_all hE [0, 1, 2, 19] [] [] (st' := ⟨[(0, SS s1), (1, I64 base1), (2, I64 bitsize1), (19, BB (s1 == ([] : List UInt8)))], [], []⟩) (orc := []) (ob := []) (by kernel_rfl) trivial ?_
    refine N_then ?_
    refine W_cond (b := s1 == ([] : List UInt8)) (by kernel_rfl) (fun e1 => ?_) (fun e1 => ?_)
    · replace h := ite_t e1 h
      refine W_seq ?_
      refine W_region ?_
      refine WL_all hE [6, 7] [] [] (st' := ⟨[(6, U64 (0 : Int)), (7, .val .err (some (some (101, (2 : Int))) : Option (Option (Nat × Int))))], [], []⟩) (orc := []) (ob := []) (by kernel_rfl) trivial ?_
      refine N_then ?_
      refine W_ret ?_
      refine N_then_ret ?_
      cases h
      exact N_end (.inl rfl) (by kernel_rfl)
    · replace h := ite_f e1 h
      refine W_skip ?_
      refine N_then ?_
      refine W_seq ?_
      refine W_region ?_
      refine WL_all hE [0, 1, 2, 8] [] [] (st' := ⟨[(0, SS s1), (1, I64 base1), (2, I64 bitsize1), (8, BB (base1 == (0 : Int)))], [], []⟩) (orc := []) (ob := []) (by kernel_rfl) trivial ?_
      refine N_then ?_
      refine W_seq ?_
      refine W_region ?_
      refine WL_all hE [0, 1, 2, 8, 9] [] [] (st' := ⟨[(0, SS s1), (1, I64 base1), (2, I64 bitsize1), (8, BB (base1 == (0 : Int))), (9, SS s1)], [], []⟩) (orc := []) (ob := []) (by kernel_rfl) trivial ?_
      refine N_then ?_
      refine W_join (α := (List UInt8 × Int)) (fun z => internal_strconv_ParseUint_j1 k bitsize1 base1 s1 z.1 z.2 = some (rz1, rz2)) (fun z => ⟨[(0, SS (z.1)), (1, I64 (z.2)), (2, I64 bitsize1), (8, BB (base1 == (0 : Int))), (9, SS s1)], [], []⟩) ?_ (fun hJ11 => ?_)
      · rintro ⟨s2, base2⟩ h
        unfold internal_strconv_ParseUint_j1 at h
        refine W_join (α := Int) (fun z => internal_strconv_ParseUint_j2 k base2 s2 base1 s1 z = some (rz1, rz2)) (fun bitsize2 => ⟨[(0, SS s2), (1, I64 base2), (2, I64 bitsize2), (8, BB (base1 == (0 : Int))), (9, SS s1)], [], []⟩) ?_ (fun hJ10 => ?_)
        · rintro bitsize2 h
          unfold internal_strconv_ParseUint_j2 at h
          refine W_seq ?_
          refine W_region ?_
          refine WL_all hE [0, 1, 2, 8, 9] [] [] (st' := ⟨[(0, SS s2), (1, I64 base2), (2, I64 bitsize2), (8, BB (base1 == (0 : Int))), (9, SS s1)], [], []⟩) (orc := []) (ob := []) (by kernel_rfl) trivial ?_
          refine N_then ?_
          refine W_join (α := Int) (fun z => internal_strconv_ParseUint_j3 k bitsize2 s2 base2 base1 s1 z = some (rz1, rz2)) (fun cutoff1 => ⟨[(0, SS s2), (1, I64 base2), (2, I64 bitsize2), (8, BB (base1 == (0 : Int))), (9, SS s1), (10, U64 cutoff1)], [], []⟩) ?_ (fun hJ10 => ?_)
          · rintro cutoff1 h
            unfold internal_strconv_ParseUint_j3 at h
            refine W_seq ?_
            refine W_region ?_
            obtain ⟨_, e2, h⟩ := bind_some h
            replace e2 := chk_some e2
            refine WL_all hE [0, 1, 8, 9, 10, 11] [] [] (st' := ⟨[(0, SS s2), (1, I64 base2), (8, BB (base1 == (0 : Int))), (9, SS s1), (10, U64 cutoff1), (11, U64 (wu64 ((wu64 ((1 : Int) * 2 ^ min (wu64 bitsize2).toNat 64)) - (1 : Int))))], [], []⟩) (orc := []) (ob := [0 ≤ (wu64 bitsize2)]) (by kernel_rfl) ⟨e2, trivial⟩ ?_
            refine N_then ?_
            refine W_seq ?_
            refine W_region ?_
            refine WL_all hE [0, 1, 8, 9, 10, 11, 12] [] [] (st' := ⟨[(0, SS s2), (1, I64 base2), (8, BB (base1 == (0 : Int))), (9, SS s1), (10, U64 cutoff1), (11, U64 (wu64 ((wu64 ((1 : Int) * 2 ^ min (wu64 bitsize2).toNat 64)) - (1 : Int)))), (12, BB false)], [], []⟩) (orc := []) (ob := []) (by kernel_rfl) trivial ?_
            refine N_then ?_
            refine W_seq ?_
            refine W_region ?_
            refine WL_all hE [0, 1, 8, 9, 10, 11, 12, 13] [] [] (st' := ⟨[(0, SS s2), (1, I64 base2), (8, BB (base1 == (0 : Int))), (9, SS s1), (10, U64 cutoff1), (11, U64 (wu64 ((wu64 ((1 : Int) * 2 ^ min (wu64 bitsize2).toNat 64)) - (1 : Int)))), (12, BB false), (13, U64 (0 : Int))], [], []⟩) (orc := []) (ob := []) (by kernel_rfl) trivial ?_
            refine N_then ?_
            refine W_seq ?_
            refine W_seq ?_
            refine W_region ?_
            refine WL_all hE [1, 8, 9, 10, 11, 12, 13, 99, 100, 101] [] [] (st' := ⟨[(1, I64 base2), (8, BB (base1 == (0 : Int))), (9, SS s1), (10, U64 cutoff1), (11, U64 (wu64 ((wu64 ((1 : Int) * 2 ^ min (wu64 bitsize2).toNat 64)) - (1 : Int)))), (12, BB false), (13, U64 (0 : Int)), (99, .val (.sl (.int .u8)) (bytesEl s2)), (100, I64 (List.length (bytesEl s2) : Int)), (101, I64 (0 : Int))], [], []⟩) (orc := []) (ob := []) (by kernel_rfl) trivial ?_
            refine N_then ?_
            refine W_block ?_
            refine W_loop (α := (Bool × Int × Int)) (fun n z => internal_strconv_ParseUint_l1 k s2 base2 cutoff1 bitsize2 base1 s1 n z.1 z.2.1 z.2.2 = some (rz1, rz2)) (fun z => ⟨[(1, I64 base2), (8, BB (base1 == (0 : Int))), (9, SS s1), (10, U64 cutoff1), (11, U64 (wu64 ((wu64 ((1 : Int) * 2 ^ min (wu64 bitsize2).toNat 64)) - (1 : Int)))), (12, BB (z.1)), (13, U64 (z.2.1)), (99, .val (.sl (.int .u8)) (bytesEl s2)), (100, I64 (List.length (bytesEl s2) : Int)), (101, I64 (z.2.2))], [], []⟩) ?_ (k := k) (x := (false, (0 : Int), (0 : Int))) h
            clear h
            rintro fuel1 ⟨underscores1, n1, t1⟩ h
            cases fuel1 with
            | zero => exact absurd (show none = some _ from h) (by simp)
            | succ fuel1 =>
              have h : internal_strconv_ParseUint_b1 k s2 base2 cutoff1 bitsize2 base1 s1 (internal_strconv_ParseUint_l1 k s2 base2 cutoff1 bitsize2 base1 s1 fuel1) underscores1 n1 t1 = some (rz1, rz2) := h
              unfold internal_strconv_ParseUint_b1 at h
              refine W_seq ?_
              refine W_region ?_
              refine WL_all hE [1, 8, 9, 10, 11, 12, 13, 99, 100, 101, 102] [] [] (st' := ⟨[(1, I64 base2), (8, BB (base1 == (0 : Int))), (9, SS s1), (10, U64 cutoff1), (11, U64 (wu64 ((wu64 ((1 : Int) * 2 ^ min (wu64 bitsize2).toNat 64)) - (1 : Int)))), (12, BB underscores1), (13, U64 n1), (99, .val (.sl (.int .u8)) (bytesEl s2)), (100, I64 (List.length (bytesEl s2) : Int)), (101, I64 t1), (102, BB (decide (t1 < (List.length (bytesEl s2) : Int))))], [], []⟩) (orc := []) (ob := []) (by kernel_rfl) trivial ?_
              refine N_then ?_
              refine W_seq ?_
              refine W_cond (b := decide (t1 < (List.length (bytesEl s2) : Int))) (by kernel_rfl) (fun e3 => ?_) (fun e3 => ?_)
              · replace h := ite_t e3 h
                refine W_skip ?_
                refine N_then ?_
                refine W_join (α := (Bool × Int)) (fun z => internal_strconv_ParseUint_j4 (internal_strconv_ParseUint_l1 k s2 base2 cutoff1 bitsize2 base1 s1 fuel1) t1 z.1 z.2 = some (rz1, rz2)) (fun z => ⟨[(1, I64 base2), (8, BB (base1 == (0 : Int))), (9, SS s1), (10, U64 cutoff1), (11, U64 (wu64 ((wu64 ((1 : Int) * 2 ^ min (wu64 bitsize2).toNat 64)) - (1 : Int)))), (12, BB (z.1)), (13, U64 (z.2)), (99, .val (.sl (.int .u8)) (bytesEl s2)), (100, I64 (List.length (bytesEl s2) : Int)), (101, I64 t1)], [], []⟩) ?_ (fun hJ4 => ?_)
                · rintro ⟨underscores2, n2⟩ h
                  unfold internal_strconv_ParseUint_j4 at h
                  refine W_region ?_
                  refine WL_all hE [1, 8, 9, 10, 11, 12, 13, 99, 100, 101] [] [] (st' := ⟨[(1, I64 base2), (8, BB (base1 == (0 : Int))), (9, SS s1), (10, U64 cutoff1), (11, U64 (wu64 ((wu64 ((1 : Int) * 2 ^ min (wu64 bitsize2).toNat 64)) - (1 : Int)))), (12, BB underscores2), (13, U64 n2), (99, .val (.sl (.int .u8)) (bytesEl s2)), (100, I64 (List.length (bytesEl s2) : Int)), (101, I64 (wi64 (t1 + (1 : Int))))], [], []⟩) (orc := []) (ob := []) (by kernel_rfl) trivial ?_
                  exact N_round (underscores2, n2, wi64 (t1 + (1 : Int))) (Nat.lt_succ_self _) h
                refine W_block ?_
                refine W_seq ?_
                refine W_region ?_
                obtain ⟨x1, e4, h⟩ := bind_some h
                refine WL_all hE [1, 8, 9, 10, 11, 12, 13, 15, 99, 100, 101] [] [] (st' := ⟨[(1, I64 base2), (8, BB (base1 == (0 : Int))), (9, SS s1), (10, U64 cutoff1), (11, U64 (wu64 ((wu64 ((1 : Int) * 2 ^ min (wu64 bitsize2).toNat 64)) - (1 : Int)))), (12, BB underscores1), (13, U64 n1), (15, U8 x1), (99, .val (.sl (.int .u8)) (bytesEl s2)), (100, I64 (List.length (bytesEl s2) : Int)), (101, I64 t1)], [], []⟩) (orc := [tU8 x1]) (ob := [at? (bytesEl s2) t1 = some x1]) (by kernel_rfl) ⟨e4, trivial⟩ ?_
                refine N_then ?_
                refine W_seq ?_
                refine W_region ?_
                refine WL_all hE [1, 8, 9, 10, 11, 12, 13, 15, 99, 100, 101] [] [] (st' := ⟨[(1, I64 base2), (8, BB (base1 == (0 : Int))), (9, SS s1), (10, U64 cutoff1), (11, U64 (wu64 ((wu64 ((1 : Int) * 2 ^ min (wu64 bitsize2).toNat 64)) - (1 : Int)))), (12, BB underscores1), (13, U64 n1), (15, U8 x1), (99, .val (.sl (.int .u8)) (bytesEl s2)), (100, I64 (List.length (bytesEl s2) : Int)), (101, I64 t1)], [], []⟩) (orc := []) (ob := []) (by kernel_rfl) trivial ?_
                refine N_then ?_
                refine W_join (α := Int) (fun z => internal_strconv_ParseUint_j5 base2 cutoff1 n1 bitsize2 (internal_strconv_ParseUint_l1 k s2 base2 cutoff1 bitsize2 base1 s1 fuel1) t1 underscores1 z = some (rz1, rz2)) (fun d1 => ⟨[(1, I64 base2), (8, BB (base1 == (0 : Int))), (9, SS s1), (10, U64 cutoff1), (11, U64 (wu64 ((wu64 ((1 : Int) * 2 ^ min (wu64 bitsize2).toNat 64)) - (1 : Int)))), (12, BB underscores1), (13, U64 n1), (16, U8 d1), (99, .val (.sl (.int .u8)) (bytesEl s2)), (100, I64 (List.length (bytesEl s2) : Int)), (101, I64 t1)], [], []⟩) ?_ (fun hJ6 => ?_)
                · rintro d1 h
                  unfold internal_strconv_ParseUint_j5 at h
                  refine W_seq ?_
                  refine W_seq ?_
                  refine W_region ?_
                  refine WL_all hE [1, 8, 9, 10, 11, 12, 13, 16, 99, 100, 101, 137] [] [] (st' := ⟨[(1, I64 base2), (8, BB (base1 == (0 : Int))), (9, SS s1), (10, U64 cutoff1), (11, U64 (wu64 ((wu64 ((1 : Int) * 2 ^ min (wu64 bitsize2).toNat 64)) - (1 : Int)))), (12, BB underscores1), (13, U64 n1), (16, U8 d1), (99, .val (.sl (.int .u8)) (bytesEl s2)), (100, I64 (List.length (bytesEl s2) : Int)), (101, I64 t1), (137, BB (decide ((wu8 base2) ≤ d1)))], [], []⟩) (orc := []) (ob := []) (by kernel_rfl) trivial ?_
                  refine N_then ?_
                  refine W_cond (b := decide ((wu8 base2) ≤ d1)) (by kernel_rfl) (fun e5 => ?_) (fun e5 => ?_)
                  · replace h := ite_t e5 h
                    refine W_seq ?_
                    refine W_region ?_
                    refine WL_all hE [6, 7] [] [] (st' := ⟨[(6, U64 (0 : Int)), (7, .val .err (some (some (101, (2 : Int))) : Option (Option (Nat × Int))))], [], []⟩) (orc := []) (ob := []) (by kernel_rfl) trivial ?_
                    refine N_then ?_
                    refine W_ret ?_
                    refine N_then_ret ?_
                    refine N_block_ret ?_
                    refine N_then_ret ?_
                    refine N_then_ret ?_
                    refine N_block_ret ?_
                    refine N_then_ret ?_
                    cases h
                    exact N_end (.inl rfl) (by kernel_rfl)
                  · replace h := ite_f e5 h
                    refine W_skip ?_
                    refine N_then ?_
                    refine W_seq ?_
                    refine W_seq ?_
                    refine W_region ?_
                    refine WL_all hE [1, 8, 9, 10, 11, 12, 13, 16, 99, 100, 101, 141] [] [] (st' := ⟨[(1, I64 base2), (8, BB (base1 == (0 : Int))), (9, SS s1), (10, U64 cutoff1), (11, U64 (wu64 ((wu64 ((1 : Int) * 2 ^ min (wu64 bitsize2).toNat 64)) - (1 : Int)))), (12, BB underscores1), (13, U64 n1), (16, U8 d1), (99, .val (.sl (.int .u8)) (bytesEl s2)), (100, I64 (List.length (bytesEl s2) : Int)), (101, I64 t1), (141, BB (decide (cutoff1 ≤ n1)))], [], []⟩) (orc := []) (ob := []) (by kernel_rfl) trivial ?_
                    refine N_then ?_
                    refine W_cond (b := decide (cutoff1 ≤ n1)) (by kernel_rfl) (fun e6 => ?_) (fun e6 => ?_)
                    · replace h := ite_t e6 h
                      refine W_seq ?_
                      refine W_region ?_
                      refine WL_all hE [6, 7] [] [] (st' := ⟨[(6, U64 (wu64 ((wu64 ((1 : Int) * 2 ^ min (wu64 bitsize2).toNat 64)) - (1 : Int)))), (7, .val .err (some (some (101, (1 : Int))) : Option (Option (Nat × Int))))], [], []⟩) (orc := []) (ob := []) (by kernel_rfl) trivial ?_
                      refine N_then ?_
                      refine W_ret ?_
                      refine N_then_ret ?_
                      refine N_block_ret ?_
                      refine N_then_ret ?_
                      refine N_then_ret ?_
                      refine N_block_ret ?_
                      refine N_then_ret ?_
                      cases h
                      exact N_end (.inl rfl) (by kernel_rfl)
                    · replace h := ite_f e6 h
                      refine W_skip ?_
                      refine N_then ?_
                      refine W_seq ?_
                      refine W_region ?_
                      refine WL_all hE [1, 8, 9, 10, 11, 12, 13, 16, 99, 100, 101] [] [] (st' := ⟨[(1, I64 base2), (8, BB (base1 == (0 : Int))), (9, SS s1), (10, U64 cutoff1), (11, U64 (wu64 ((wu64 ((1 : Int) * 2 ^ min (wu64 bitsize2).toNat 64)) - (1 : Int)))), (12, BB underscores1), (13, U64 (wu64 (n1 * (wu64 base2)))), (16, U8 d1), (99, .val (.sl (.int .u8)) (bytesEl s2)), (100, I64 (List.length (bytesEl s2) : Int)), (101, I64 t1)], [], []⟩) (orc := []) (ob := []) (by kernel_rfl) trivial ?_
                      refine N_then ?_
                      refine W_seq ?_
                      refine W_region ?_
                      refine WL_all hE [1, 8, 9, 10, 11, 12, 13, 17, 99, 100, 101] [] [] (st' := ⟨[(1, I64 base2), (8, BB (base1 == (0 : Int))), (9, SS s1), (10, U64 cutoff1), (11, U64 (wu64 ((wu64 ((1 : Int) * 2 ^ min (wu64 bitsize2).toNat 64)) - (1 : Int)))), (12, BB underscores1), (13, U64 (wu64 (n1 * (wu64 base2)))), (17, U64 (wu64 ((wu64 (n1 * (wu64 base2))) + (wu64 d1)))), (99, .val (.sl (.int .u8)) (bytesEl s2)), (100, I64 (List.length (bytesEl s2) : Int)), (101, I64 t1)], [], []⟩) (orc := []) (ob := []) (by kernel_rfl) trivial ?_
                      refine N_then ?_
                      refine W_seq ?_
                      refine W_seq ?_
                      refine W_region ?_
                      refine WL_tk hE 4 [1, 8, 9, 10, 11, 12, 17, 99, 100, 101, 155] [] [] (st' := ⟨[(1, I64 base2), (8, BB (base1 == (0 : Int))), (9, SS s1), (10, U64 cutoff1), (11, U64 (wu64 ((wu64 ((1 : Int) * 2 ^ min (wu64 bitsize2).toNat 64)) - (1 : Int)))), (12, BB underscores1), (17, U64 (wu64 ((wu64 (n1 * (wu64 base2))) + (wu64 d1)))), (99, .val (.sl (.int .u8)) (bytesEl s2)), (100, I64 (List.length (bytesEl s2) : Int)), (101, I64 t1), (155, BB (decide ((wu64 ((wu64 (n1 * (wu64 base2))) + (wu64 d1))) < (wu64 (n1 * (wu64 base2))))))], [], []⟩) (orc := []) (ob := []) (by kernel_rfl) trivial ?_
                      refine WL_join (α := Bool) (fun z => internal_strconv_ParseUint_j6 bitsize2 (internal_strconv_ParseUint_l1 k s2 base2 cutoff1 bitsize2 base1 s1 fuel1) t1 underscores1 n1 base2 d1 z = some (rz1, rz2)) (fun t2 => ⟨[(1, I64 base2), (8, BB (base1 == (0 : Int))), (9, SS s1), (10, U64 cutoff1), (11, U64 (wu64 ((wu64 ((1 : Int) * 2 ^ min (wu64 bitsize2).toNat 64)) - (1 : Int)))), (12, BB underscores1), (17, U64 (wu64 ((wu64 (n1 * (wu64 base2))) + (wu64 d1)))), (99, .val (.sl (.int .u8)) (bytesEl s2)), (100, I64 (List.length (bytesEl s2) : Int)), (101, I64 t1), (159, BB t2)], [], []⟩) 4 ?_ (fun hJ6 => ?_)
                      · rintro t2 h
                        unfold internal_strconv_ParseUint_j6 at h
                        refine WL_nil ?_
                        refine N_then ?_
                        refine W_cond (b := t2) (by kernel_rfl) (fun e7 => ?_) (fun e7 => ?_)
                        · replace h := ite_t e7 h
                          refine W_seq ?_
                          refine W_region ?_
                          refine WL_all hE [6, 7] [] [] (st' := ⟨[(6, U64 (wu64 ((wu64 ((1 : Int) * 2 ^ min (wu64 bitsize2).toNat 64)) - (1 : Int)))), (7, .val .err (some (some (101, (1 : Int))) : Option (Option (Nat × Int))))], [], []⟩) (orc := []) (ob := []) (by kernel_rfl) trivial ?_
                          refine N_then ?_
                          refine W_ret ?_
                          refine N_then_ret ?_
                          refine N_block_ret ?_
                          refine N_then_ret ?_
                          refine N_then_ret ?_
                          refine N_block_ret ?_
                          refine N_then_ret ?_
                          cases h
                          exact N_end (.inl rfl) (by kernel_rfl)
                        · replace h := ite_f e7 h
                          refine W_skip ?_
                          refine N_then ?_
                          refine W_region ?_
                          refine WL_all hE [1, 8, 9, 10, 11, 12, 13, 99, 100, 101] [] [] (st' := ⟨[(1, I64 base2), (8, BB (base1 == (0 : Int))), (9, SS s1), (10, U64 cutoff1), (11, U64 (wu64 ((wu64 ((1 : Int) * 2 ^ min (wu64 bitsize2).toNat 64)) - (1 : Int)))), (12, BB underscores1), (13, U64 (wu64 ((wu64 (n1 * (wu64 base2))) + (wu64 d1)))), (99, .val (.sl (.int .u8)) (bytesEl s2)), (100, I64 (List.length (bytesEl s2) : Int)), (101, I64 t1)], [], []⟩) (orc := []) (ob := []) (by kernel_rfl) trivial ?_
                          refine N_block ?_
                          exact hJ4 (underscores1, wu64 ((wu64 (n1 * (wu64 base2))) + (wu64 d1))) h
                      refine WL_split (fun g => ⟨[(1, I64 base2), (8, BB (base1 == (0 : Int))), (9, SS s1), (10, U64 cutoff1), (11, U64 (wu64 ((wu64 ((1 : Int) * 2 ^ min (wu64 bitsize2).toNat 64)) - (1 : Int)))), (12, BB underscores1), (17, U64 (wu64 ((wu64 (n1 * (wu64 base2))) + (wu64 d1)))), (99, .val (.sl (.int .u8)) (bytesEl s2)), (100, I64 (List.length (bytesEl s2) : Int)), (101, I64 t1), (155, BB g)], [], []⟩) (b := decide ((wu64 ((wu64 (n1 * (wu64 base2))) + (wu64 d1))) < (wu64 (n1 * (wu64 base2))))) (fun e8 => ?_) (fun e8 => ?_)
                      · rw [or_t e8] at h
                        refine WL_all hE [1, 8, 9, 10, 11, 12, 17, 99, 100, 101, 159] [] [] (st' := ⟨[(1, I64 base2), (8, BB (base1 == (0 : Int))), (9, SS s1), (10, U64 cutoff1), (11, U64 (wu64 ((wu64 ((1 : Int) * 2 ^ min (wu64 bitsize2).toNat 64)) - (1 : Int)))), (12, BB underscores1), (17, U64 (wu64 ((wu64 (n1 * (wu64 base2))) + (wu64 d1)))), (99, .val (.sl (.int .u8)) (bytesEl s2)), (100, I64 (List.length (bytesEl s2) : Int)), (101, I64 t1), (159, BB true)], [], []⟩) (orc := []) (ob := []) (by kernel_rfl) trivial ?_
                        exact hJ6 true h
                      · rw [or_f e8] at h
                        refine WL_all hE [1, 8, 9, 10, 11, 12, 17, 99, 100, 101, 159] [] [] (st' := ⟨[(1, I64 base2), (8, BB (base1 == (0 : Int))), (9, SS s1), (10, U64 cutoff1), (11, U64 (wu64 ((wu64 ((1 : Int) * 2 ^ min (wu64 bitsize2).toNat 64)) - (1 : Int)))), (12, BB underscores1), (17, U64 (wu64 ((wu64 (n1 * (wu64 base2))) + (wu64 d1)))), (99, .val (.sl (.int .u8)) (bytesEl s2)), (100, I64 (List.length (bytesEl s2) : Int)), (101, I64 t1), (159, BB (decide ((wu64 ((wu64 ((1 : Int) * 2 ^ min (wu64 bitsize2).toNat 64)) - (1 : Int))) < (wu64 ((wu64 (n1 * (wu64 base2))) + (wu64 d1))))))], [], []⟩) (orc := []) (ob := []) (by kernel_rfl) trivial ?_
                        exact hJ6 (decide ((wu64 ((wu64 ((1 : Int) * 2 ^ min (wu64 bitsize2).toNat 64)) - (1 : Int))) < (wu64 ((wu64 (n1 * (wu64 base2))) + (wu64 d1))))) h
                refine W_block ?_
                refine W_seq ?_
                refine W_region ?_
                refine WL_tk hE 3 [1, 8, 9, 10, 11, 12, 13, 15, 99, 100, 101, 109] [] [] (st' := ⟨[(1, I64 base2), (8, BB (base1 == (0 : Int))), (9, SS s1), (10, U64 cutoff1), (11, U64 (wu64 ((wu64 ((1 : Int) * 2 ^ min (wu64 bitsize2).toNat 64)) - (1 : Int)))), (12, BB underscores1), (13, U64 n1), (15, U8 x1), (99, .val (.sl (.int .u8)) (bytesEl s2)), (100, I64 (List.length (bytesEl s2) : Int)), (101, I64 t1), (109, BB (x1 == (95 : Int)))], [], []⟩) (orc := []) (ob := []) (by kernel_rfl) trivial ?_
                refine WL_join (α := Bool) (fun z => internal_strconv_ParseUint_j7 k (internal_strconv_ParseUint_l1 k s2 base2 cutoff1 bitsize2 base1 s1 fuel1) t1 n1 base2 cutoff1 bitsize2 underscores1 x1 z = some (rz1, rz2)) (fun t3 => ⟨[(1, I64 base2), (8, BB (base1 == (0 : Int))), (9, SS s1), (10, U64 cutoff1), (11, U64 (wu64 ((wu64 ((1 : Int) * 2 ^ min (wu64 bitsize2).toNat 64)) - (1 : Int)))), (12, BB underscores1), (13, U64 n1), (15, U8 x1), (99, .val (.sl (.int .u8)) (bytesEl s2)), (100, I64 (List.length (bytesEl s2) : Int)), (101, I64 t1), (111, BB t3)], [], []⟩) 2 ?_ (fun hJ7 => ?_)
                · rintro t3 h
                  unfold internal_strconv_ParseUint_j7 at h
                  refine WL_all hE [1, 8, 9, 10, 11, 12, 13, 15, 99, 100, 101, 106] [] [] (st' := ⟨[(1, I64 base2), (8, BB (base1 == (0 : Int))), (9, SS s1), (10, U64 cutoff1), (11, U64 (wu64 ((wu64 ((1 : Int) * 2 ^ min (wu64 bitsize2).toNat 64)) - (1 : Int)))), (12, BB underscores1), (13, U64 n1), (15, U8 x1), (99, .val (.sl (.int .u8)) (bytesEl s2)), (100, I64 (List.length (bytesEl s2) : Int)), (101, I64 t1), (106, BB t3)], [], []⟩) (orc := []) (ob := []) (by kernel_rfl) trivial ?_
                  refine N_then ?_
                  refine W_cond (b := t3) (by kernel_rfl) (fun e9 => ?_) (fun e9 => ?_)
                  · replace h := ite_t e9 h
                    refine W_seq ?_
                    refine W_region ?_
                    refine WL_all hE [1, 8, 9, 10, 11, 12, 13, 99, 100, 101] [] [] (st' := ⟨[(1, I64 base2), (8, BB (base1 == (0 : Int))), (9, SS s1), (10, U64 cutoff1), (11, U64 (wu64 ((wu64 ((1 : Int) * 2 ^ min (wu64 bitsize2).toNat 64)) - (1 : Int)))), (12, BB true), (13, U64 n1), (99, .val (.sl (.int .u8)) (bytesEl s2)), (100, I64 (List.length (bytesEl s2) : Int)), (101, I64 t1)], [], []⟩) (orc := []) (ob := []) (by kernel_rfl) trivial ?_
                    refine N_then ?_
                    refine W_exit ?_
                    refine N_block_out rfl ?_
                    refine N_then_exit ?_
                    refine N_block_exit ?_
                    exact hJ4 (true, n1) h
                  · replace h := ite_f e9 h
                    refine W_seq ?_
                    refine W_region ?_
                    refine WL_tk hE 3 [1, 8, 9, 10, 11, 12, 13, 15, 99, 100, 101, 115] [] [] (st' := ⟨[(1, I64 base2), (8, BB (base1 == (0 : Int))), (9, SS s1), (10, U64 cutoff1), (11, U64 (wu64 ((wu64 ((1 : Int) * 2 ^ min (wu64 bitsize2).toNat 64)) - (1 : Int)))), (12, BB underscores1), (13, U64 n1), (15, U8 x1), (99, .val (.sl (.int .u8)) (bytesEl s2)), (100, I64 (List.length (bytesEl s2) : Int)), (101, I64 t1), (115, BB (decide ((48 : Int) ≤ x1)))], [], []⟩) (orc := []) (ob := []) (by kernel_rfl) trivial ?_
                    refine WL_join (α := Bool) (fun z => internal_strconv_ParseUint_j8 k base2 cutoff1 n1 bitsize2 (internal_strconv_ParseUint_l1 k s2 base2 cutoff1 bitsize2 base1 s1 fuel1) t1 underscores1 x1 z = some (rz1, rz2)) (fun t4 => ⟨[(1, I64 base2), (8, BB (base1 == (0 : Int))), (9, SS s1), (10, U64 cutoff1), (11, U64 (wu64 ((wu64 ((1 : Int) * 2 ^ min (wu64 bitsize2).toNat 64)) - (1 : Int)))), (12, BB underscores1), (13, U64 n1), (15, U8 x1), (99, .val (.sl (.int .u8)) (bytesEl s2)), (100, I64 (List.length (bytesEl s2) : Int)), (101, I64 t1), (118, BB t4)], [], []⟩) 3 ?_ (fun hJ8 => ?_)
                    · rintro t4 h
                      unfold internal_strconv_ParseUint_j8 at h
                      refine WL_all hE [1, 8, 9, 10, 11, 12, 13, 15, 99, 100, 101, 112] [] [] (st' := ⟨[(1, I64 base2), (8, BB (base1 == (0 : Int))), (9, SS s1), (10, U64 cutoff1), (11, U64 (wu64 ((wu64 ((1 : Int) * 2 ^ min (wu64 bitsize2).toNat 64)) - (1 : Int)))), (12, BB underscores1), (13, U64 n1), (15, U8 x1), (99, .val (.sl (.int .u8)) (bytesEl s2)), (100, I64 (List.length (bytesEl s2) : Int)), (101, I64 t1), (112, BB t4)], [], []⟩) (orc := []) (ob := []) (by kernel_rfl) trivial ?_
                      refine N_then ?_
                      refine W_cond (b := t4) (by kernel_rfl) (fun e10 => ?_) (fun e10 => ?_)
                      · replace h := ite_t e10 h
                        refine W_region ?_
                        refine WL_all hE [1, 8, 9, 10, 11, 12, 13, 16, 99, 100, 101] [] [] (st' := ⟨[(1, I64 base2), (8, BB (base1 == (0 : Int))), (9, SS s1), (10, U64 cutoff1), (11, U64 (wu64 ((wu64 ((1 : Int) * 2 ^ min (wu64 bitsize2).toNat 64)) - (1 : Int)))), (12, BB underscores1), (13, U64 n1), (16, U8 (wu8 (x1 - (48 : Int)))), (99, .val (.sl (.int .u8)) (bytesEl s2)), (100, I64 (List.length (bytesEl s2) : Int)), (101, I64 t1)], [], []⟩) (orc := []) (ob := []) (by kernel_rfl) trivial ?_
                        refine N_block ?_
                        exact hJ6 (wu8 (x1 - (48 : Int))) h
                      · replace h := ite_f e10 h
                        refine W_seq ?_
                        refine W_region ?_
                        obtain ⟨v1, e11, h⟩ := bind_some h
                        refine WL_tk hE 4 [1, 8, 9, 10, 11, 12, 13, 15, 99, 100, 101, 125] [] [] (st' := ⟨[(1, I64 base2), (8, BB (base1 == (0 : Int))), (9, SS s1), (10, U64 cutoff1), (11, U64 (wu64 ((wu64 ((1 : Int) * 2 ^ min (wu64 bitsize2).toNat 64)) - (1 : Int)))), (12, BB underscores1), (13, U64 n1), (15, U8 x1), (99, .val (.sl (.int .u8)) (bytesEl s2)), (100, I64 (List.length (bytesEl s2) : Int)), (101, I64 t1), (125, BB (decide ((97 : Int) ≤ v1)))], [], []⟩) (orc := [tU8 v1]) (ob := [internal_strconv_lower k x1 = some v1]) (by kernel_rfl) ⟨e11, trivial⟩ ?_
                        refine WL_join (α := Bool) (fun z => internal_strconv_ParseUint_j9 k x1 base2 cutoff1 n1 bitsize2 (internal_strconv_ParseUint_l1 k s2 base2 cutoff1 bitsize2 base1 s1 fuel1) t1 underscores1 z = some (rz1, rz2)) (fun t5 => ⟨[(1, I64 base2), (8, BB (base1 == (0 : Int))), (9, SS s1), (10, U64 cutoff1), (11, U64 (wu64 ((wu64 ((1 : Int) * 2 ^ min (wu64 bitsize2).toNat 64)) - (1 : Int)))), (12, BB underscores1), (13, U64 n1), (15, U8 x1), (99, .val (.sl (.int .u8)) (bytesEl s2)), (100, I64 (List.length (bytesEl s2) : Int)), (101, I64 t1), (129, BB t5)], [], []⟩) 4 ?_ (fun hJ9 => ?_)
                        · rintro t5 h
                          unfold internal_strconv_ParseUint_j9 at h
                          refine WL_all hE [1, 8, 9, 10, 11, 12, 13, 15, 99, 100, 101, 121] [] [] (st' := ⟨[(1, I64 base2), (8, BB (base1 == (0 : Int))), (9, SS s1), (10, U64 cutoff1), (11, U64 (wu64 ((wu64 ((1 : Int) * 2 ^ min (wu64 bitsize2).toNat 64)) - (1 : Int)))), (12, BB underscores1), (13, U64 n1), (15, U8 x1), (99, .val (.sl (.int .u8)) (bytesEl s2)), (100, I64 (List.length (bytesEl s2) : Int)), (101, I64 t1), (121, BB t5)], [], []⟩) (orc := []) (ob := []) (by kernel_rfl) trivial ?_
                          refine N_then ?_
                          refine W_cond (b := t5) (by kernel_rfl) (fun e12 => ?_) (fun e12 => ?_)
                          · replace h := ite_t e12 h
                            refine W_region ?_
                            obtain ⟨v2, e13, h⟩ := bind_some h
                            refine WL_all hE [1, 8, 9, 10, 11, 12, 13, 16, 99, 100, 101] [] [] (st' := ⟨[(1, I64 base2), (8, BB (base1 == (0 : Int))), (9, SS s1), (10, U64 cutoff1), (11, U64 (wu64 ((wu64 ((1 : Int) * 2 ^ min (wu64 bitsize2).toNat 64)) - (1 : Int)))), (12, BB underscores1), (13, U64 n1), (16, U8 (wu8 ((wu8 (v2 - (97 : Int))) + (10 : Int)))), (99, .val (.sl (.int .u8)) (bytesEl s2)), (100, I64 (List.length (bytesEl s2) : Int)), (101, I64 t1)], [], []⟩) (orc := [tU8 v2]) (ob := [internal_strconv_lower k x1 = some v2]) (by kernel_rfl) ⟨e13, trivial⟩ ?_
                            refine N_block ?_
                            exact hJ6 (wu8 ((wu8 (v2 - (97 : Int))) + (10 : Int))) h
                          · replace h := ite_f e12 h
                            refine W_seq ?_
                            refine W_region ?_
                            refine WL_all hE [6, 7] [] [] (st' := ⟨[(6, U64 (0 : Int)), (7, .val .err (some (some (101, (2 : Int))) : Option (Option (Nat × Int))))], [], []⟩) (orc := []) (ob := []) (by kernel_rfl) trivial ?_
                            refine N_then ?_
                            refine W_ret ?_
                            refine N_block_ret ?_
                            refine N_then_ret ?_
                            refine N_block_ret ?_
                            refine N_then_ret ?_
                            refine N_then_ret ?_
                            refine N_block_ret ?_
                            refine N_then_ret ?_
                            cases h
                            exact N_end (.inl rfl) (by kernel_rfl)
                        refine WL_split (fun g => ⟨[(1, I64 base2), (8, BB (base1 == (0 : Int))), (9, SS s1), (10, U64 cutoff1), (11, U64 (wu64 ((wu64 ((1 : Int) * 2 ^ min (wu64 bitsize2).toNat 64)) - (1 : Int)))), (12, BB underscores1), (13, U64 n1), (15, U8 x1), (99, .val (.sl (.int .u8)) (bytesEl s2)), (100, I64 (List.length (bytesEl s2) : Int)), (101, I64 t1), (125, BB g)], [], []⟩) (b := decide ((97 : Int) ≤ v1)) (fun e14 => ?_) (fun e14 => ?_)
                        · replace h := ite_t e14 h
                          obtain ⟨v3, e15, h⟩ := bind_some h
                          refine WL_all hE [1, 8, 9, 10, 11, 12, 13, 15, 99, 100, 101, 129] [] [] (st' := ⟨[(1, I64 base2), (8, BB (base1 == (0 : Int))), (9, SS s1), (10, U64 cutoff1), (11, U64 (wu64 ((wu64 ((1 : Int) * 2 ^ min (wu64 bitsize2).toNat 64)) - (1 : Int)))), (12, BB underscores1), (13, U64 n1), (15, U8 x1), (99, .val (.sl (.int .u8)) (bytesEl s2)), (100, I64 (List.length (bytesEl s2) : Int)), (101, I64 t1), (129, BB (decide (v3 ≤ (122 : Int))))], [], []⟩) (orc := [tU8 v3]) (ob := [internal_strconv_lower k x1 = some v3]) (by kernel_rfl) ⟨e15, trivial⟩ ?_
                          exact hJ9 (decide (v3 ≤ (122 : Int))) h
                        · replace h := ite_f e14 h
                          refine WL_all hE [1, 8, 9, 10, 11, 12, 13, 15, 99, 100, 101, 129] [] [] (st' := ⟨[(1, I64 base2), (8, BB (base1 == (0 : Int))), (9, SS s1), (10, U64 cutoff1), (11, U64 (wu64 ((wu64 ((1 : Int) * 2 ^ min (wu64 bitsize2).toNat 64)) - (1 : Int)))), (12, BB underscores1), (13, U64 n1), (15, U8 x1), (99, .val (.sl (.int .u8)) (bytesEl s2)), (100, I64 (List.length (bytesEl s2) : Int)), (101, I64 t1), (129, BB false)], [], []⟩) (orc := []) (ob := []) (by kernel_rfl) trivial ?_
                          exact hJ9 false h
                    refine WL_split (fun g => ⟨[(1, I64 base2), (8, BB (base1 == (0 : Int))), (9, SS s1), (10, U64 cutoff1), (11, U64 (wu64 ((wu64 ((1 : Int) * 2 ^ min (wu64 bitsize2).toNat 64)) - (1 : Int)))), (12, BB underscores1), (13, U64 n1), (15, U8 x1), (99, .val (.sl (.int .u8)) (bytesEl s2)), (100, I64 (List.length (bytesEl s2) : Int)), (101, I64 t1), (115, BB g)], [], []⟩) (b := decide ((48 : Int) ≤ x1)) (fun e16 => ?_) (fun e16 => ?_)
                    · rw [and_t e16] at h
                      refine WL_all hE [1, 8, 9, 10, 11, 12, 13, 15, 99, 100, 101, 118] [] [] (st' := ⟨[(1, I64 base2), (8, BB (base1 == (0 : Int))), (9, SS s1), (10, U64 cutoff1), (11, U64 (wu64 ((wu64 ((1 : Int) * 2 ^ min (wu64 bitsize2).toNat 64)) - (1 : Int)))), (12, BB underscores1), (13, U64 n1), (15, U8 x1), (99, .val (.sl (.int .u8)) (bytesEl s2)), (100, I64 (List.length (bytesEl s2) : Int)), (101, I64 t1), (118, BB (decide (x1 ≤ (57 : Int))))], [], []⟩) (orc := []) (ob := []) (by kernel_rfl) trivial ?_
                      exact hJ8 (decide (x1 ≤ (57 : Int))) h
                    · rw [and_f e16] at h
                      refine WL_all hE [1, 8, 9, 10, 11, 12, 13, 15, 99, 100, 101, 118] [] [] (st' := ⟨[(1, I64 base2), (8, BB (base1 == (0 : Int))), (9, SS s1), (10, U64 cutoff1), (11, U64 (wu64 ((wu64 ((1 : Int) * 2 ^ min (wu64 bitsize2).toNat 64)) - (1 : Int)))), (12, BB underscores1), (13, U64 n1), (15, U8 x1), (99, .val (.sl (.int .u8)) (bytesEl s2)), (100, I64 (List.length (bytesEl s2) : Int)), (101, I64 t1), (118, BB false)], [], []⟩) (orc := []) (ob := []) (by kernel_rfl) trivial ?_
                      exact hJ8 false h
                refine WL_split (fun g => ⟨[(1, I64 base2), (8, BB (base1 == (0 : Int))), (9, SS s1), (10, U64 cutoff1), (11, U64 (wu64 ((wu64 ((1 : Int) * 2 ^ min (wu64 bitsize2).toNat 64)) - (1 : Int)))), (12, BB underscores1), (13, U64 n1), (15, U8 x1), (99, .val (.sl (.int .u8)) (bytesEl s2)), (100, I64 (List.length (bytesEl s2) : Int)), (101, I64 t1), (109, BB g)], [], []⟩) (b := x1 == (95 : Int)) (fun e17 => ?_) (fun e17 => ?_)
                · rw [and_t e17] at h
                  refine WL_all hE [1, 8, 9, 10, 11, 12, 13, 15, 99, 100, 101, 111] [] [] (st' := ⟨[(1, I64 base2), (8, BB (base1 == (0 : Int))), (9, SS s1), (10, U64 cutoff1), (11, U64 (wu64 ((wu64 ((1 : Int) * 2 ^ min (wu64 bitsize2).toNat 64)) - (1 : Int)))), (12, BB underscores1), (13, U64 n1), (15, U8 x1), (99, .val (.sl (.int .u8)) (bytesEl s2)), (100, I64 (List.length (bytesEl s2) : Int)), (101, I64 t1), (111, BB (base1 == (0 : Int)))], [], []⟩) (orc := []) (ob := []) (by kernel_rfl) trivial ?_
                  exact hJ7 (base1 == (0 : Int)) h
                · rw [and_f e17] at h
                  refine WL_all hE [1, 8, 9, 10, 11, 12, 13, 15, 99, 100, 101, 111] [] [] (st' := ⟨[(1, I64 base2), (8, BB (base1 == (0 : Int))), (9, SS s1), (10, U64 cutoff1), (11, U64 (wu64 ((wu64 ((1 : Int) * 2 ^ min (wu64 bitsize2).toNat 64)) - (1 : Int)))), (12, BB underscores1), (13, U64 n1), (15, U8 x1), (99, .val (.sl (.int .u8)) (bytesEl s2)), (100, I64 (List.length (bytesEl s2) : Int)), (101, I64 t1), (111, BB false)], [], []⟩) (orc := []) (ob := []) (by kernel_rfl) trivial ?_
                  exact hJ7 false h
              · replace h := ite_f e3 h
                refine W_exit ?_
                refine N_then_exit ?_
                refine N_then_exit ?_
                refine N_block_exit ?_
                refine N_then ?_
                refine W_seq ?_
                refine W_seq ?_
                refine W_region ?_
                refine WL_tk hE 2 [9, 13, 165] [] [] (st' := ⟨[(9, SS s1), (13, U64 n1), (165, BB underscores1)], [], []⟩) (orc := []) (ob := []) (by kernel_rfl) trivial ?_
                refine WL_join (α := Bool) (fun z => internal_strconv_ParseUint_j10 n1 z = some (rz1, rz2)) (fun t6 => ⟨[(13, U64 n1), (169, BB t6)], [], []⟩) 4 ?_ (fun hJ10 => ?_)
                · rintro t6 h
                  unfold internal_strconv_ParseUint_j10 at h
                  refine WL_nil ?_
                  refine N_then ?_
                  refine W_cond (b := t6) (by kernel_rfl) (fun e18 => ?_) (fun e18 => ?_)
                  · replace h := ite_t e18 h
                    refine W_seq ?_
                    refine W_region ?_
                    refine WL_all hE [6, 7] [] [] (st' := ⟨[(6, U64 (0 : Int)), (7, .val .err (some (some (101, (2 : Int))) : Option (Option (Nat × Int))))], [], []⟩) (orc := []) (ob := []) (by kernel_rfl) trivial ?_
                    refine N_then ?_
                    refine W_ret ?_
                    refine N_then_ret ?_
                    cases h
                    exact N_end (.inl rfl) (by kernel_rfl)
                  · replace h := ite_f e18 h
                    refine W_skip ?_
                    refine N_then ?_
                    refine W_seq ?_
                    refine W_region ?_
                    refine WL_all hE [6, 7] [] [] (st' := ⟨[(6, U64 n1), (7, .val .err (none : Option (Option (Nat × Int))))], [], []⟩) (orc := []) (ob := []) (by kernel_rfl) trivial ?_
                    refine N_then ?_
                    refine W_ret ?_
                    cases h
                    exact N_end (.inl rfl) (by kernel_rfl)
                refine WL_split (fun g => ⟨[(9, SS s1), (13, U64 n1), (165, BB g)], [], []⟩) (b := underscores1) (fun e19 => ?_) (fun e19 => ?_)
                · replace h := ite_t e19 h
                  obtain ⟨v4, e20, h⟩ := bind_some h
                  refine WL_all hE [13, 169] [] [] (st' := ⟨[(13, U64 n1), (169, BB (!v4))], [], []⟩) (orc := [tB v4]) (ob := [internal_strconv_underscoreOK k s1 = some v4]) (by kernel_rfl) ⟨e20, trivial⟩ ?_
                  exact hJ10 (!v4) h
                · replace h := ite_f e19 h
                  refine WL_all hE [13, 169] [] [] (st' := ⟨[(13, U64 n1), (169, BB false)], [], []⟩) (orc := []) (ob := []) (by kernel_rfl) trivial ?_
                  exact hJ10 false h
          refine W_seq ?_
          refine W_region ?_
          refine WL_all hE [0, 1, 2, 8, 9, 85] [] [] (st' := ⟨[(0, SS s2), (1, I64 base2), (2, I64 bitsize2), (8, BB (base1 == (0 : Int))), (9, SS s1), (85, I64 base2)], [], []⟩) (orc := []) (ob := []) (by kernel_rfl) trivial ?_
          refine N_then ?_
          refine W_block ?_
          refine W_seq ?_
          refine W_region ?_
          refine WL_all hE [0, 1, 2, 8, 9, 85, 90] [] [] (st' := ⟨[(0, SS s2), (1, I64 base2), (2, I64 bitsize2), (8, BB (base1 == (0 : Int))), (9, SS s1), (85, I64 base2), (90, BB (base2 == (10 : Int)))], [], []⟩) (orc := []) (ob := []) (by kernel_rfl) trivial ?_
          refine N_then ?_
          refine W_cond (b := base2 == (10 : Int)) (by kernel_rfl) (fun e21 => ?_) (fun e21 => ?_)
          · replace h := ite_t e21 h
            refine W_region ?_
            refine WL_all hE [0, 1, 2, 8, 9, 10] [] [] (st' := ⟨[(0, SS s2), (1, I64 base2), (2, I64 bitsize2), (8, BB (base1 == (0 : Int))), (9, SS s1), (10, U64 (1844674407370955162 : Int))], [], []⟩) (orc := []) (ob := []) (by kernel_rfl) trivial ?_
            refine N_block ?_
            exact hJ10 (1844674407370955162 : Int) h
          · replace h := ite_f e21 h
            refine W_seq ?_
            refine W_region ?_
            refine WL_all hE [0, 1, 2, 8, 9, 92] [] [] (st' := ⟨[(0, SS s2), (1, I64 base2), (2, I64 bitsize2), (8, BB (base1 == (0 : Int))), (9, SS s1), (92, BB (base2 == (16 : Int)))], [], []⟩) (orc := []) (ob := []) (by kernel_rfl) trivial ?_
            refine N_then ?_
            refine W_cond (b := base2 == (16 : Int)) (by kernel_rfl) (fun e22 => ?_) (fun e22 => ?_)
            · replace h := ite_t e22 h
              refine W_region ?_
              refine WL_all hE [0, 1, 2, 8, 9, 10] [] [] (st' := ⟨[(0, SS s2), (1, I64 base2), (2, I64 bitsize2), (8, BB (base1 == (0 : Int))), (9, SS s1), (10, U64 (1152921504606846976 : Int))], [], []⟩) (orc := []) (ob := []) (by kernel_rfl) trivial ?_
              refine N_block ?_
              exact hJ10 (1152921504606846976 : Int) h
            · replace h := ite_f e22 h
              refine W_region ?_
              obtain ⟨_, e23, h⟩ := bind_some h
              replace e23 := chk_some e23
              refine WL_all hE [0, 1, 2, 8, 9, 10] [] [] (st' := ⟨[(0, SS s2), (1, I64 base2), (2, I64 bitsize2), (8, BB (base1 == (0 : Int))), (9, SS s1), (10, U64 (wu64 ((wu64 (Int.tdiv (18446744073709551615 : Int) (wu64 base2))) + (1 : Int))))], [], []⟩) (orc := []) (ob := [(wu64 base2) ≠ 0]) (by kernel_rfl) ⟨e23, trivial⟩ ?_
              refine N_block ?_
              exact hJ10 (wu64 ((wu64 (Int.tdiv (18446744073709551615 : Int) (wu64 base2))) + (1 : Int))) h
        refine W_seq ?_
        refine W_region ?_
        refine WL_all hE [0, 1, 2, 8, 9, 77] [] [] (st' := ⟨[(0, SS s2), (1, I64 base2), (2, I64 bitsize1), (8, BB (base1 == (0 : Int))), (9, SS s1), (77, BB (bitsize1 == (0 : Int)))], [], []⟩) (orc := []) (ob := []) (by kernel_rfl) trivial ?_
        refine N_then ?_
        refine W_cond (b := bitsize1 == (0 : Int)) (by kernel_rfl) (fun e24 => ?_) (fun e24 => ?_)
        · replace h := ite_t e24 h
          refine W_region ?_
          refine WL_all hE [0, 1, 2, 8, 9] [] [] (st' := ⟨[(0, SS s2), (1, I64 base2), (2, I64 (64 : Int)), (8, BB (base1 == (0 : Int))), (9, SS s1)], [], []⟩) (orc := []) (ob := []) (by kernel_rfl) trivial ?_
          exact hJ10 (64 : Int) h
        · replace h := ite_f e24 h
          refine W_seq ?_
          refine W_region ?_
          refine WL_tk hE 3 [0, 1, 2, 8, 9, 80] [] [] (st' := ⟨[(0, SS s2), (1, I64 base2), (2, I64 bitsize1), (8, BB (base1 == (0 : Int))), (9, SS s1), (80, BB (decide (bitsize1 < (0 : Int))))], [], []⟩) (orc := []) (ob := []) (by kernel_rfl) trivial ?_
          refine WL_join (α := Bool) (fun z => internal_strconv_ParseUint_j11 k base2 s2 base1 s1 bitsize1 z = some (rz1, rz2)) (fun t7 => ⟨[(0, SS s2), (1, I64 base2), (2, I64 bitsize1), (8, BB (base1 == (0 : Int))), (9, SS s1), (83, BB t7)], [], []⟩) 3 ?_ (fun hJ11 => ?_)
          · rintro t7 h
            unfold internal_strconv_ParseUint_j11 at h
            refine WL_nil ?_
            refine N_then ?_
            refine W_cond (b := t7) (by kernel_rfl) (fun e25 => ?_) (fun e25 => ?_)
            · replace h := ite_t e25 h
              refine W_seq ?_
              refine W_region ?_
              refine WL_all hE [6, 7] [] [] (st' := ⟨[(6, U64 (0 : Int)), (7, .val .err (some (some (101, (4 : Int))) : Option (Option (Nat × Int))))], [], []⟩) (orc := []) (ob := []) (by kernel_rfl) trivial ?_
              refine N_then ?_
              refine W_ret ?_
              refine N_then_ret ?_
              cases h
              exact N_end (.inl rfl) (by kernel_rfl)
            · replace h := ite_f e25 h
              refine W_skip ?_
              refine N.norm (st' := ⟨[(0, SS s2), (1, I64 base2), (2, I64 bitsize1), (8, BB (base1 == (0 : Int))), (9, SS s1)], [], []⟩) (ks := [0, 1, 2, 8, 9]) (bs := []) (rs := []) ?_ (by kernel_rfl)
              exact hJ10 bitsize1 h
          refine WL_split (fun g => ⟨[(0, SS s2), (1, I64 base2), (2, I64 bitsize1), (8, BB (base1 == (0 : Int))), (9, SS s1), (80, BB g)], [], []⟩) (b := decide (bitsize1 < (0 : Int))) (fun e26 => ?_) (fun e26 => ?_)
          · rw [or_t e26] at h
            refine WL_all hE [0, 1, 2, 8, 9, 83] [] [] (st' := ⟨[(0, SS s2), (1, I64 base2), (2, I64 bitsize1), (8, BB (base1 == (0 : Int))), (9, SS s1), (83, BB true)], [], []⟩) (orc := []) (ob := []) (by kernel_rfl) trivial ?_
            exact hJ11 true h
          · rw [or_f e26] at h
            refine WL_all hE [0, 1, 2, 8, 9, 83] [] [] (st' := ⟨[(0, SS s2), (1, I64 base2), (2, I64 bitsize1), (8, BB (base1 == (0 : Int))), (9, SS s1), (83, BB (decide ((64 : Int) < bitsize1)))], [], []⟩) (orc := []) (ob := []) (by kernel_rfl) trivial ?_
            exact hJ11 (decide ((64 : Int) < bitsize1)) h
      refine W_block ?_
      refine W_seq ?_
      refine W_region ?_
      refine WL_tk hE 3 [0, 1, 2, 8, 9, 28] [] [] (st' := ⟨[(0, SS s1), (1, I64 base1), (2, I64 bitsize1), (8, BB (base1 == (0 : Int))), (9, SS s1), (28, BB (decide ((2 : Int) ≤ base1)))], [], []⟩) (orc := []) (ob := []) (by kernel_rfl) trivial ?_
      refine WL_join (α := Bool) (fun z => internal_strconv_ParseUint_j12 k bitsize1 base1 s1 z = some (rz1, rz2)) (fun t8 => ⟨[(0, SS s1), (1, I64 base1), (2, I64 bitsize1), (8, BB (base1 == (0 : Int))), (9, SS s1), (31, BB t8)], [], []⟩) 3 ?_ (fun hJ12 => ?_)
      · rintro t8 h
        unfold internal_strconv_ParseUint_j12 at h
        refine WL_all hE [0, 1, 2, 8, 9, 25] [] [] (st' := ⟨[(0, SS s1), (1, I64 base1), (2, I64 bitsize1), (8, BB (base1 == (0 : Int))), (9, SS s1), (25, BB t8)], [], []⟩) (orc := []) (ob := []) (by kernel_rfl) trivial ?_
        refine N_then ?_
        refine W_cond (b := t8) (by kernel_rfl) (fun e27 => ?_) (fun e27 => ?_)
        · replace h := ite_t e27 h
          refine W_skip ?_
          refine N_block ?_
          refine N.norm (st' := ⟨[(0, SS s1), (1, I64 base1), (2, I64 bitsize1), (8, BB (base1 == (0 : Int))), (9, SS s1)], [], []⟩) (ks := [0, 1, 2, 8, 9]) (bs := []) (rs := []) ?_ (by kernel_rfl)
          exact hJ11 (s1, base1) h
        · replace h := ite_f e27 h
          refine W_seq ?_
          refine W_region ?_
          refine WL_all hE [0, 2, 8, 9, 32] [] [] (st' := ⟨[(0, SS s1), (2, I64 bitsize1), (8, BB (base1 == (0 : Int))), (9, SS s1), (32, BB (base1 == (0 : Int)))], [], []⟩) (orc := []) (ob := []) (by kernel_rfl) trivial ?_
          refine N_then ?_
          refine W_cond (b := base1 == (0 : Int)) (by kernel_rfl) (fun e28 => ?_) (fun e28 => ?_)
          · replace h := ite_t e28 h
            refine W_seq ?_
            refine W_region ?_
            refine WL_all hE [0, 1, 2, 8, 9] [] [] (st' := ⟨[(0, SS s1), (1, I64 (10 : Int)), (2, I64 bitsize1), (8, BB (base1 == (0 : Int))), (9, SS s1)], [], []⟩) (orc := []) (ob := []) (by kernel_rfl) trivial ?_
            refine N_then ?_
            refine W_seq ?_
            refine W_region ?_
            obtain ⟨b1, e29, h⟩ := bind_some h
            refine WL_all hE [0, 1, 2, 8, 9, 37] [] [] (st' := ⟨[(0, SS s1), (1, I64 (10 : Int)), (2, I64 bitsize1), (8, BB (base1 == (0 : Int))), (9, SS s1), (37, BB (b1 == (48 : Int)))], [], []⟩) (orc := [tU8 b1]) (ob := [byteAt s1 (0 : Int) = some b1]) (by kernel_rfl) ⟨e29, trivial⟩ ?_
            refine N_then ?_
            refine W_cond (b := b1 == (48 : Int)) (by kernel_rfl) (fun e30 => ?_) (fun e30 => ?_)
            · replace h := ite_t e30 h
              refine W_block ?_
              refine W_seq ?_
              refine W_region ?_
              refine WL_tk hE 4 [0, 2, 8, 9, 44] [] [] (st' := ⟨[(0, SS s1), (2, I64 bitsize1), (8, BB (base1 == (0 : Int))), (9, SS s1), (44, BB (decide ((3 : Int) ≤ (List.length s1 : Int))))], [], []⟩) (orc := []) (ob := []) (by kernel_rfl) trivial ?_
              refine WL_join (α := Bool) (fun z => internal_strconv_ParseUint_j13 k s1 bitsize1 base1 z = some (rz1, rz2)) (fun t9 => ⟨[(0, SS s1), (2, I64 bitsize1), (8, BB (base1 == (0 : Int))), (9, SS s1), (49, BB t9)], [], []⟩) 5 ?_ (fun hJ13 => ?_)
              · rintro t9 h
                unfold internal_strconv_ParseUint_j13 at h
                refine WL_all hE [0, 2, 8, 9, 40] [] [] (st' := ⟨[(0, SS s1), (2, I64 bitsize1), (8, BB (base1 == (0 : Int))), (9, SS s1), (40, BB t9)], [], []⟩) (orc := []) (ob := []) (by kernel_rfl) trivial ?_
                refine N_then ?_
                refine W_cond (b := t9) (by kernel_rfl) (fun e31 => ?_) (fun e31 => ?_)
                · replace h := ite_t e31 h
                  refine W_seq ?_
                  refine W_region ?_
                  refine WL_all hE [0, 1, 2, 8, 9] [] [] (st' := ⟨[(0, SS s1), (1, I64 (2 : Int)), (2, I64 bitsize1), (8, BB (base1 == (0 : Int))), (9, SS s1)], [], []⟩) (orc := []) (ob := []) (by kernel_rfl) trivial ?_
                  refine N_then ?_
                  refine W_region ?_
                  obtain ⟨s3, e32, h⟩ := bind_some h
                  refine WL_all hE [0, 1, 2, 8, 9] [] [] (st' := ⟨[(0, SS s3), (1, I64 (2 : Int)), (2, I64 bitsize1), (8, BB (base1 == (0 : Int))), (9, SS s1)], [], []⟩) (orc := [tS s3]) (ob := [sub? s1 (2 : Int) (s1.length : Int) = some s3]) (by kernel_rfl) ⟨e32, trivial⟩ ?_
                  refine N_block ?_
                  refine N_block ?_
                  exact hJ11 (s3, (2 : Int)) h
                · replace h := ite_f e31 h
                  refine W_seq ?_
                  refine W_region ?_
                  refine WL_tk hE 4 [0, 2, 8, 9, 56] [] [] (st' := ⟨[(0, SS s1), (2, I64 bitsize1), (8, BB (base1 == (0 : Int))), (9, SS s1), (56, BB (decide ((3 : Int) ≤ (List.length s1 : Int))))], [], []⟩) (orc := []) (ob := []) (by kernel_rfl) trivial ?_
                  refine WL_join (α := Bool) (fun z => internal_strconv_ParseUint_j14 k s1 bitsize1 base1 z = some (rz1, rz2)) (fun t10 => ⟨[(0, SS s1), (2, I64 bitsize1), (8, BB (base1 == (0 : Int))), (9, SS s1), (61, BB t10)], [], []⟩) 5 ?_ (fun hJ14 => ?_)
                  · rintro t10 h
                    unfold internal_strconv_ParseUint_j14 at h
                    refine WL_all hE [0, 2, 8, 9, 52] [] [] (st' := ⟨[(0, SS s1), (2, I64 bitsize1), (8, BB (base1 == (0 : Int))), (9, SS s1), (52, BB t10)], [], []⟩) (orc := []) (ob := []) (by kernel_rfl) trivial ?_
                    refine N_then ?_
                    refine W_cond (b := t10) (by kernel_rfl) (fun e33 => ?_) (fun e33 => ?_)
                    · replace h := ite_t e33 h
                      refine W_seq ?_
                      refine W_region ?_
                      refine WL_all hE [0, 1, 2, 8, 9] [] [] (st' := ⟨[(0, SS s1), (1, I64 (8 : Int)), (2, I64 bitsize1), (8, BB (base1 == (0 : Int))), (9, SS s1)], [], []⟩) (orc := []) (ob := []) (by kernel_rfl) trivial ?_
                      refine N_then ?_
                      refine W_region ?_
                      obtain ⟨s4, e34, h⟩ := bind_some h
                      refine WL_all hE [0, 1, 2, 8, 9] [] [] (st' := ⟨[(0, SS s4), (1, I64 (8 : Int)), (2, I64 bitsize1), (8, BB (base1 == (0 : Int))), (9, SS s1)], [], []⟩) (orc := [tS s4]) (ob := [sub? s1 (2 : Int) (s1.length : Int) = some s4]) (by kernel_rfl) ⟨e34, trivial⟩ ?_
                      refine N_block ?_
                      refine N_block ?_
                      exact hJ11 (s4, (8 : Int)) h
                    · replace h := ite_f e33 h
                      refine W_seq ?_
                      refine W_region ?_
                      refine WL_tk hE 4 [0, 2, 8, 9, 68] [] [] (st' := ⟨[(0, SS s1), (2, I64 bitsize1), (8, BB (base1 == (0 : Int))), (9, SS s1), (68, BB (decide ((3 : Int) ≤ (List.length s1 : Int))))], [], []⟩) (orc := []) (ob := []) (by kernel_rfl) trivial ?_
                      refine WL_join (α := Bool) (fun z => internal_strconv_ParseUint_j15 k s1 bitsize1 base1 z = some (rz1, rz2)) (fun t11 => ⟨[(0, SS s1), (2, I64 bitsize1), (8, BB (base1 == (0 : Int))), (9, SS s1), (73, BB t11)], [], []⟩) 5 ?_ (fun hJ15 => ?_)
                      · rintro t11 h
                        unfold internal_strconv_ParseUint_j15 at h
                        refine WL_all hE [0, 2, 8, 9, 64] [] [] (st' := ⟨[(0, SS s1), (2, I64 bitsize1), (8, BB (base1 == (0 : Int))), (9, SS s1), (64, BB t11)], [], []⟩) (orc := []) (ob := []) (by kernel_rfl) trivial ?_
                        refine N_then ?_
                        refine W_cond (b := t11) (by kernel_rfl) (fun e35 => ?_) (fun e35 => ?_)
                        · replace h := ite_t e35 h
                          refine W_seq ?_
                          refine W_region ?_
                          refine WL_all hE [0, 1, 2, 8, 9] [] [] (st' := ⟨[(0, SS s1), (1, I64 (16 : Int)), (2, I64 bitsize1), (8, BB (base1 == (0 : Int))), (9, SS s1)], [], []⟩) (orc := []) (ob := []) (by kernel_rfl) trivial ?_
                          refine N_then ?_
                          refine W_region ?_
                          obtain ⟨s5, e36, h⟩ := bind_some h
                          refine WL_all hE [0, 1, 2, 8, 9] [] [] (st' := ⟨[(0, SS s5), (1, I64 (16 : Int)), (2, I64 bitsize1), (8, BB (base1 == (0 : Int))), (9, SS s1)], [], []⟩) (orc := [tS s5]) (ob := [sub? s1 (2 : Int) (s1.length : Int) = some s5]) (by kernel_rfl) ⟨e36, trivial⟩ ?_
                          refine N_block ?_
                          refine N_block ?_
                          exact hJ11 (s5, (16 : Int)) h
                        · replace h := ite_f e35 h
                          refine W_seq ?_
                          refine W_region ?_
                          refine WL_all hE [0, 1, 2, 8, 9] [] [] (st' := ⟨[(0, SS s1), (1, I64 (8 : Int)), (2, I64 bitsize1), (8, BB (base1 == (0 : Int))), (9, SS s1)], [], []⟩) (orc := []) (ob := []) (by kernel_rfl) trivial ?_
                          refine N_then ?_
                          refine W_region ?_
                          obtain ⟨s6, e37, h⟩ := bind_some h
                          refine WL_all hE [0, 1, 2, 8, 9] [] [] (st' := ⟨[(0, SS s6), (1, I64 (8 : Int)), (2, I64 bitsize1), (8, BB (base1 == (0 : Int))), (9, SS s1)], [], []⟩) (orc := [tS s6]) (ob := [sub? s1 (1 : Int) (s1.length : Int) = some s6]) (by kernel_rfl) ⟨e37, trivial⟩ ?_
                          refine N_block ?_
                          refine N_block ?_
                          exact hJ11 (s6, (8 : Int)) h
                      refine WL_split (fun g => ⟨[(0, SS s1), (2, I64 bitsize1), (8, BB (base1 == (0 : Int))), (9, SS s1), (68, BB g)], [], []⟩) (b := decide ((3 : Int) ≤ (List.length s1 : Int))) (fun e38 => ?_) (fun e38 => ?_)
                      · replace h := ite_t e38 h
                        obtain ⟨b2, e39, h⟩ := bind_some h
                        obtain ⟨v5, e40, h⟩ := bind_some h
                        refine WL_all hE [0, 2, 8, 9, 73] [] [] (st' := ⟨[(0, SS s1), (2, I64 bitsize1), (8, BB (base1 == (0 : Int))), (9, SS s1), (73, BB (v5 == (120 : Int)))], [], []⟩) (orc := [tU8 b2, tU8 v5]) (ob := [byteAt s1 (1 : Int) = some b2, internal_strconv_lower k b2 = some v5]) (by kernel_rfl) ⟨e39, e40, trivial⟩ ?_
                        exact hJ15 (v5 == (120 : Int)) h
                      · replace h := ite_f e38 h
                        refine WL_all hE [0, 2, 8, 9, 73] [] [] (st' := ⟨[(0, SS s1), (2, I64 bitsize1), (8, BB (base1 == (0 : Int))), (9, SS s1), (73, BB false)], [], []⟩) (orc := []) (ob := []) (by kernel_rfl) trivial ?_
                        exact hJ15 false h
                  refine WL_split (fun g => ⟨[(0, SS s1), (2, I64 bitsize1), (8, BB (base1 == (0 : Int))), (9, SS s1), (56, BB g)], [], []⟩) (b := decide ((3 : Int) ≤ (List.length s1 : Int))) (fun e41 => ?_) (fun e41 => ?_)
                  · replace h := ite_t e41 h
                    obtain ⟨b3, e42, h⟩ := bind_some h
                    obtain ⟨v6, e43, h⟩ := bind_some h
                    refine WL_all hE [0, 2, 8, 9, 61] [] [] (st' := ⟨[(0, SS s1), (2, I64 bitsize1), (8, BB (base1 == (0 : Int))), (9, SS s1), (61, BB (v6 == (111 : Int)))], [], []⟩) (orc := [tU8 b3, tU8 v6]) (ob := [byteAt s1 (1 : Int) = some b3, internal_strconv_lower k b3 = some v6]) (by kernel_rfl) ⟨e42, e43, trivial⟩ ?_
                    exact hJ14 (v6 == (111 : Int)) h
                  · replace h := ite_f e41 h
                    refine WL_all hE [0, 2, 8, 9, 61] [] [] (st' := ⟨[(0, SS s1), (2, I64 bitsize1), (8, BB (base1 == (0 : Int))), (9, SS s1), (61, BB false)], [], []⟩) (orc := []) (ob := []) (by kernel_rfl) trivial ?_
                    exact hJ14 false h
              refine WL_split (fun g => ⟨[(0, SS s1), (2, I64 bitsize1), (8, BB (base1 == (0 : Int))), (9, SS s1), (44, BB g)], [], []⟩) (b := decide ((3 : Int) ≤ (List.length s1 : Int))) (fun e44 => ?_) (fun e44 => ?_)
              · replace h := ite_t e44 h
                obtain ⟨b4, e45, h⟩ := bind_some h
                obtain ⟨v7, e46, h⟩ := bind_some h
                refine WL_all hE [0, 2, 8, 9, 49] [] [] (st' := ⟨[(0, SS s1), (2, I64 bitsize1), (8, BB (base1 == (0 : Int))), (9, SS s1), (49, BB (v7 == (98 : Int)))], [], []⟩) (orc := [tU8 b4, tU8 v7]) (ob := [byteAt s1 (1 : Int) = some b4, internal_strconv_lower k b4 = some v7]) (by kernel_rfl) ⟨e45, e46, trivial⟩ ?_
                exact hJ13 (v7 == (98 : Int)) h
              · replace h := ite_f e44 h
                refine WL_all hE [0, 2, 8, 9, 49] [] [] (st' := ⟨[(0, SS s1), (2, I64 bitsize1), (8, BB (base1 == (0 : Int))), (9, SS s1), (49, BB false)], [], []⟩) (orc := []) (ob := []) (by kernel_rfl) trivial ?_
                exact hJ13 false h
            · replace h := ite_f e30 h
              refine W_skip ?_
              refine N_block ?_
              refine N.norm (st' := ⟨[(0, SS s1), (1, I64 (10 : Int)), (2, I64 bitsize1), (8, BB (base1 == (0 : Int))), (9, SS s1)], [], []⟩) (ks := [0, 1, 2, 8, 9]) (bs := []) (rs := []) ?_ (by kernel_rfl)
              exact hJ11 (s1, (10 : Int)) h
          · replace h := ite_f e28 h
            refine W_seq ?_
            refine W_region ?_
            refine WL_all hE [6, 7] [] [] (st' := ⟨[(6, U64 (0 : Int)), (7, .val .err (some (some (101, (3 : Int))) : Option (Option (Nat × Int))))], [], []⟩) (orc := []) (ob := []) (by kernel_rfl) trivial ?_
            refine N_then ?_
            refine W_ret ?_
            refine N_block_ret ?_
            refine N_then_ret ?_
            cases h
            exact N_end (.inl rfl) (by kernel_rfl)
      refine WL_split (fun g => ⟨[(0, SS s1), (1, I64 base1), (2, I64 bitsize1), (8, BB (base1 == (0 : Int))), (9, SS s1), (28, BB g)], [], []⟩) (b := decide ((2 : Int) ≤ base1)) (fun e47 => ?_) (fun e47 => ?_)
      · rw [and_t e47] at h
        refine WL_all hE [0, 1, 2, 8, 9, 31] [] [] (st' := ⟨[(0, SS s1), (1, I64 base1), (2, I64 bitsize1), (8, BB (base1 == (0 : Int))), (9, SS s1), (31, BB (decide (base1 ≤ (36 : Int))))], [], []⟩) (orc := []) (ob := []) (by kernel_rfl) trivial ?_
        exact hJ12 (decide (base1 ≤ (36 : Int))) h
      · rw [and_f e47] at h
        refine WL_all hE [0, 1, 2, 8, 9, 31] [] [] (st' := ⟨[(0, SS s1), (1, I64 base1), (2, I64 bitsize1), (8, BB (base1 == (0 : Int))), (9, SS s1), (31, BB false)], [], []⟩) (orc := []) (ob := []) (by kernel_rfl) trivial ?_
        exact hJ12 false h

def C_strconv_ParseUint (k : Nat) : FnC := ⟨false, 2, [], fun | [⟨.str, s1⟩, ⟨(.int .i64), base1⟩, ⟨(.int .i64), bitsize1⟩], [⟨(.int .u64), rz1⟩, ⟨.err, rz2⟩] => strconv_ParseUint k s1 base1 bitsize1 = some (rz1, rz2) | _, _ => False⟩
noncomputable def E_strconv_ParseUint (k : Nat) : Env := ⟨Tryd.prog, Gu, 26, [(73, C_internal_strconv_ParseUint k), (74, C_strconv_toError k)]⟩
theorem c_strconv_ParseUint (k : Nat) : Contract Tryd.prog Gu 60 (C_strconv_ParseUint k) := by
  refine contract_of Gu_stable (fn := Tryd.f60) Tryd.func60 (by kernel_rfl) rfl ?_ ?_
  · intro xs rs h
    unfold C_strconv_ParseUint at h
    simp only at h
    split at h
    · exact ⟨by show 3 ≤ _; rw [Tryd.ntmps60]; decide, rfl, fun hf => by cases hf⟩
    · exact h.elim
  · intro w0 M xs rs hG h
    unfold C_strconv_ParseUint at h
    simp only at h
    split at h
    case h_2 => exact h.elim
    rename_i s1 base1 bitsize1 rz1 rz2
    change List UInt8 at s1
    change Int at base1
    change Int at bitsize1
    change Int at rz1
    change Option (Option (Nat × Int)) at rz2
    have hE : EnvOK (E_strconv_ParseUint k) ⟨Tryd.prog, Tryd.f60.ntmps, w0, M, fun _ => False, fun _ => undef⟩ := (EnvOK.cons (c_internal_strconv_ParseUint k) (EnvOK.cons (e_strconv_toError k) (EnvOK.nil rfl Tryd.ntmps60 hG)))
    unfold strconv_ParseUint at h
    refine W_seq ?_
    refine W_region ?_
    refine WL_all hE [0, 1, 2] [] [] (st' := ⟨[(0, SS s1), (1, I64 base1), (2, I64 bitsize1)], [], []⟩) (orc := []) (ob := []) (by kernel_rfl) trivial ?_
    refine N_then ?_
    refine W_seq ?_
    refine W_region ?_
    obtain ⟨v1, e1, h⟩ := bind_some h
    refine WL_all hE [0, 1, 2, 8, 9] [] [] (st' := ⟨[(0, SS s1), (1, I64 base1), (2, I64 bitsize1), (8, U64 v1.1), (9, .val .err v1.2)], [], []⟩) (orc := [tU64 v1.1, ⟨.err, v1.2⟩]) (ob := [internal_strconv_ParseUint k s1 base1 bitsize1 = some ((v1).1, (v1).2)]) (by kernel_rfl) ⟨e1, trivial⟩ ?_
    refine N_then ?_
    refine W_seq ?_
    refine W_seq ?_
    refine W_region ?_
    refine WL_all hE [0, 1, 2, 8, 9, 18] [] [] (st' := ⟨[(0, SS s1), (1, I64 base1), (2, I64 bitsize1), (8, U64 v1.1), (9, .val .err v1.2), (18, BB (!Option.isNone v1.2))], [], []⟩) (orc := []) (ob := []) (by kernel_rfl) trivial ?_
    refine N_then ?_
    refine W_cond (b := !Option.isNone v1.2) (by kernel_rfl) (fun e2 => ?_) (fun e2 => ?_)
    · replace h := ite_t e2 h
      refine W_seq ?_
      refine W_region ?_
      obtain ⟨v2, e3, h⟩ := bind_some h
      refine WL_all hE [6, 7] [] [] (st' := ⟨[(6, U64 v1.1), (7, .val .err v2)], [], []⟩) (orc := [⟨.err, v2⟩]) (ob := [strconv_toError k ([80, 97, 114, 115, 101, 85, 105, 110, 116] : List UInt8) s1 base1 bitsize1 v1.2 = some v2]) (by kernel_rfl) ⟨e3, trivial⟩ ?_
      refine N_then ?_
      refine W_ret ?_
      refine N_then_ret ?_
      cases h
      exact N_end (.inl rfl) (by kernel_rfl)
    · replace h := ite_f e2 h
      refine W_skip ?_
      refine N_then ?_
      refine W_seq ?_
      refine W_region ?_
      refine WL_all hE [6, 7] [] [] (st' := ⟨[(6, U64 v1.1), (7, .val .err (none : Option (Option (Nat × Int))))], [], []⟩) (orc := []) (ob := []) (by kernel_rfl) trivial ?_
      refine N_then ?_
      refine W_ret ?_
      cases h
      exact N_end (.inl rfl) (by kernel_rfl)

def C_unicode_utf8_ValidRune (k : Nat) : FnC := ⟨true, 1, [], fun | [⟨(.int .i32), r1⟩], [⟨.bool, rz⟩] => unicode_utf8_ValidRune k r1 = some rz | _, _ => False⟩
noncomputable def E_unicode_utf8_ValidRune (k : Nat) : Env := ⟨Tryd.prog, Gu, 17, []⟩
theorem c_unicode_utf8_ValidRune (k : Nat) : Contract Tryd.prog Gu 61 (C_unicode_utf8_ValidRune k) := by
  refine contract_of Gu_stable (fn := Tryd.f61) Tryd.func61 (by kernel_rfl) rfl ?_ ?_
  · intro xs rs h
    unfold C_unicode_utf8_ValidRune at h
    simp only at h
    split at h
    · exact ⟨by show 1 ≤ _; rw [Tryd.ntmps61]; decide, rfl, fun _ u hu => by simp at hu; (rcases hu with rfl) <;> rfl⟩
    · exact h.elim
  · intro w0 M xs rs hG h
    unfold C_unicode_utf8_ValidRune at h
    simp only at h
    split at h
    case h_2 => exact h.elim
    rename_i r1 rz
    change Int at r1
    change Bool at rz
    have hE : EnvOK (E_unicode_utf8_ValidRune k) ⟨Tryd.prog, Tryd.f61.ntmps, w0, M, fun _ => False, fun _ => undef⟩ := (EnvOK.nil rfl Tryd.ntmps61 hG)
    unfold unicode_utf8_ValidRune at h
    refine W_seq ?_
    refine W_region ?_
    refine WL_all hE [0] [] [] (st' := ⟨[(0, I32 r1)], [], []⟩) (orc := []) (ob := []) (by kernel_rfl) trivial ?_
    refine N_then ?_
    refine W_seq ?_
    refine W_block ?_
    refine W_seq ?_
    refine W_region ?_
    refine WL_tk hE 3 [0, 6] [] [] (st' := ⟨[(0, I32 r1), (6, BB (decide ((0 : Int) ≤ r1)))], [], []⟩) (orc := []) (ob := []) (by kernel_rfl) trivial ?_
    refine WL_join (α := Bool) (fun z => unicode_utf8_ValidRune_j1 r1 z = some rz) (fun t1 => ⟨[(0, I32 r1), (9, BB t1)], [], []⟩) 3 ?_ (fun hJ1 => ?_)
    · rintro t1 h
      unfold unicode_utf8_ValidRune_j1 at h
      refine WL_all hE [0, 3] [] [] (st' := ⟨[(0, I32 r1), (3, BB t1)], [], []⟩) (orc := []) (ob := []) (by kernel_rfl) trivial ?_
      refine N_then ?_
      refine W_cond (b := t1) (by kernel_rfl) (fun e1 => ?_) (fun e1 => ?_)
      · replace h := ite_t e1 h
        refine W_seq ?_
        refine W_region ?_
        refine WL_all hE [2] [] [] (st' := ⟨[(2, BB true)], [], []⟩) (orc := []) (ob := []) (by kernel_rfl) trivial ?_
        refine N_then ?_
        refine W_ret ?_
        refine N_block_ret ?_
        refine N_then_ret ?_
        cases h
        exact N_end (.inl rfl) (by kernel_rfl)
      · replace h := ite_f e1 h
        refine W_seq ?_
        refine W_region ?_
        refine WL_tk hE 3 [0, 13] [] [] (st' := ⟨[(0, I32 r1), (13, BB (decide ((57343 : Int) < r1)))], [], []⟩) (orc := []) (ob := []) (by kernel_rfl) trivial ?_
        refine WL_join (α := Bool) (fun z => unicode_utf8_ValidRune_j2 z = some rz) (fun t2 => ⟨[(16, BB t2)], [], []⟩) 3 ?_ (fun hJ2 => ?_)
        · rintro t2 h
          unfold unicode_utf8_ValidRune_j2 at h
          refine WL_all hE [10] [] [] (st' := ⟨[(10, BB t2)], [], []⟩) (orc := []) (ob := []) (by kernel_rfl) trivial ?_
          refine N_then ?_
          refine W_cond (b := t2) (by kernel_rfl) (fun e2 => ?_) (fun e2 => ?_)
          · replace h := ite_t e2 h
            refine W_seq ?_
            refine W_region ?_
            refine WL_all hE [2] [] [] (st' := ⟨[(2, BB true)], [], []⟩) (orc := []) (ob := []) (by kernel_rfl) trivial ?_
            refine N_then ?_
            refine W_ret ?_
            refine N_block_ret ?_
            refine N_then_ret ?_
            cases h
            exact N_end (.inl rfl) (by kernel_rfl)
          · replace h := ite_f e2 h
            refine W_skip ?_
            refine N_block ?_
            refine N_then ?_
            refine W_seq ?_
            refine W_region ?_
            refine WL_all hE [2] [] [] (st' := ⟨[(2, BB false)], [], []⟩) (orc := []) (ob := []) (by kernel_rfl) trivial ?_
            refine N_then ?_
            refine W_ret ?_
            cases h
            exact N_end (.inl rfl) (by kernel_rfl)
        refine WL_split (fun g => ⟨[(0, I32 r1), (13, BB g)], [], []⟩) (b := decide ((57343 : Int) < r1)) (fun e3 => ?_) (fun e3 => ?_)
        · rw [and_t e3] at h
          refine WL_all hE [16] [] [] (st' := ⟨[(16, BB (decide (r1 ≤ (1114111 : Int))))], [], []⟩) (orc := []) (ob := []) (by kernel_rfl) trivial ?_
          exact hJ2 (decide (r1 ≤ (1114111 : Int))) h
        · rw [and_f e3] at h
          refine WL_all hE [16] [] [] (st' := ⟨[(16, BB false)], [], []⟩) (orc := []) (ob := []) (by kernel_rfl) trivial ?_
          exact hJ2 false h
    refine WL_split (fun g => ⟨[(0, I32 r1), (6, BB g)], [], []⟩) (b := decide ((0 : Int) ≤ r1)) (fun e4 => ?_) (fun e4 => ?_)
    · rw [and_t e4] at h
      refine WL_all hE [0, 9] [] [] (st' := ⟨[(0, I32 r1), (9, BB (decide (r1 < (55296 : Int))))], [], []⟩) (orc := []) (ob := []) (by kernel_rfl) trivial ?_
      exact hJ1 (decide (r1 < (55296 : Int))) h
    · rw [and_f e4] at h
      refine WL_all hE [0, 9] [] [] (st' := ⟨[(0, I32 r1), (9, BB false)], [], []⟩) (orc := []) (ob := []) (by kernel_rfl) trivial ?_
      exact hJ1 false h

def C_runes_thing (k : Nat) : FnC := ⟨true, 2, [], fun | [⟨.str, s1⟩], [⟨.str, rz1⟩, ⟨(.int .i64), rz2⟩] => runes_thing k s1 = some (rz1, rz2) | _, _ => False⟩
noncomputable def E_runes_thing (k : Nat) : Env := ⟨Tryd.prog, Gu, 111, [(59, C_strings_TrimLeft k), (60, C_strconv_ParseUint k), (45, C_strings_HasPrefix k), (61, C_unicode_utf8_ValidRune k)]⟩
theorem c_runes_thing (k : Nat) : Contract Tryd.prog Gu 46 (C_runes_thing k) := by
  refine contract_of Gu_stable (fn := Tryd.f46) Tryd.func46 (by kernel_rfl) rfl ?_ ?_
  · intro xs rs h
    unfold C_runes_thing at h
    simp only at h
    split at h
    · exact ⟨by show 1 ≤ _; rw [Tryd.ntmps46]; decide, rfl, fun _ u hu => by simp at hu; (rcases hu with rfl | rfl) <;> rfl⟩
    · exact h.elim
  · intro w0 M xs rs hG h
    unfold C_runes_thing at h
    simp only at h
    split at h
    case h_2 => exact h.elim
    rename_i s1 rz1 rz2
    change List UInt8 at s1
    change List UInt8 at rz1
    change Int at rz2
    have hE : EnvOK (E_runes_thing k) ⟨Tryd.prog, Tryd.f46.ntmps, w0, M, fun _ => False, fun _ => undef⟩ := (EnvOK.cons (c_strings_TrimLeft k) (EnvOK.cons (c_strconv_ParseUint k) (EnvOK.cons (c_strings_HasPrefix k) (EnvOK.cons (c_unicode_utf8_ValidRune k) (EnvOK.nil rfl Tryd.ntmps46 hG)))))
    unfold runes_thing at h
    refine W_seq ?_
    refine W_region ?_
    refine WL_all hE [0] [] [] (st' := ⟨[(0, SS s1)], [], []⟩) (orc := []) (ob := []) (by kernel_rfl) trivial ?_
    refine N_then ?_
    refine W_seq ?_
    refine W_seq ?_
    refine W_region ?_
    obtain ⟨b1, e1, h⟩ := bind_some h
    refine WL_all hE [0, 4] [] [] (st' := ⟨[(0, SS s1), (4, U8 b1)], [], []⟩) (orc := [tU8 b1]) (ob := [byteAt s1 (0 : Int) = some b1]) (by kernel_rfl) ⟨e1, trivial⟩ ?_
    refine N_then ?_
    refine W_seq ?_
    refine W_region ?_
    refine WL_all hE [0, 4, 13] [] [] (st' := ⟨[(0, SS s1), (4, U8 b1), (13, BB (b1 != (92 : Int)))], [], []⟩) (orc := []) (ob := []) (by kernel_rfl) trivial ?_
    refine N_then ?_
    refine W_cond (b := b1 != (92 : Int)) (by kernel_rfl) (fun e2 => ?_) (fun e2 => ?_)
    · replace h := ite_t e2 h
      refine W_seq ?_
      refine W_seq ?_
      refine W_region ?_
      refine WL_tk hE 3 [0, 4, 16] [] [] (st' := ⟨[(0, SS s1), (4, U8 b1), (16, BB (decide (b1 < (32 : Int))))], [], []⟩) (orc := []) (ob := []) (by kernel_rfl) trivial ?_
      refine WL_join (α := Bool) (fun z => runes_thing_j1 s1 z = some (rz1, rz2)) (fun t1 => ⟨[(0, SS s1), (19, BB t1)], [], []⟩) 3 ?_ (fun hJ1 => ?_)
      · rintro t1 h
        unfold runes_thing_j1 at h
        refine WL_nil ?_
        refine N_then ?_
        refine W_cond (b := t1) (by kernel_rfl) (fun e3 => ?_) (fun e3 => ?_)
        · replace h := ite_t e3 h
          refine W_seq ?_
          refine W_region ?_
          refine WL_all hE [2, 3] [] [] (st' := ⟨[(2, SS ([] : List UInt8)), (3, I64 (0 : Int))], [], []⟩) (orc := []) (ob := []) (by kernel_rfl) trivial ?_
          refine N_then ?_
          refine W_ret ?_
          refine N_then_ret ?_
          refine N_then_ret ?_
          cases h
          exact N_end (.inl rfl) (by kernel_rfl)
        · replace h := ite_f e3 h
          refine W_skip ?_
          refine N_then ?_
          refine W_seq ?_
          refine W_region ?_
          obtain ⟨s2, e4, h⟩ := bind_some h
          refine WL_all hE [2, 3] [] [] (st' := ⟨[(2, SS s2), (3, I64 (1 : Int))], [], []⟩) (orc := [tS s2]) (ob := [sub? s1 (0 : Int) (1 : Int) = some s2]) (by kernel_rfl) ⟨e4, trivial⟩ ?_
          refine N_then ?_
          refine W_ret ?_
          refine N_then_ret ?_
          cases h
          exact N_end (.inl rfl) (by kernel_rfl)
      refine WL_split (fun g => ⟨[(0, SS s1), (4, U8 b1), (16, BB g)], [], []⟩) (b := decide (b1 < (32 : Int))) (fun e5 => ?_) (fun e5 => ?_)
      · rw [or_t e5] at h
        refine WL_all hE [0, 19] [] [] (st' := ⟨[(0, SS s1), (19, BB true)], [], []⟩) (orc := []) (ob := []) (by kernel_rfl) trivial ?_
        exact hJ1 true h
      · rw [or_f e5] at h
        refine WL_all hE [0, 19] [] [] (st' := ⟨[(0, SS s1), (19, BB (decide ((126 : Int) < b1)))], [], []⟩) (orc := []) (ob := []) (by kernel_rfl) trivial ?_
        exact hJ1 (decide ((126 : Int) < b1)) h
    · replace h := ite_f e2 h
      refine W_skip ?_
      refine N_then ?_
      refine W_seq ?_
      refine W_seq ?_
      refine W_region ?_
      refine WL_all hE [0, 24] [] [] (st' := ⟨[(0, SS s1), (24, BB (decide ((List.length s1 : Int) < (2 : Int))))], [], []⟩) (orc := []) (ob := []) (by kernel_rfl) trivial ?_
      refine N_then ?_
      refine W_cond (b := decide ((List.length s1 : Int) < (2 : Int))) (by kernel_rfl) (fun e6 => ?_) (fun e6 => ?_)
      · replace h := ite_t e6 h
        refine W_seq ?_
        refine W_region ?_
        refine WL_all hE [2, 3] [] [] (st' := ⟨[(2, SS ([] : List UInt8)), (3, I64 (0 : Int))], [], []⟩) (orc := []) (ob := []) (by kernel_rfl) trivial ?_
        refine N_then ?_
        refine W_ret ?_
        refine N_then_ret ?_
        cases h
        exact N_end (.inl rfl) (by kernel_rfl)
      · replace h := ite_f e6 h
        refine W_skip ?_
        refine N_then ?_
        refine W_seq ?_
        refine W_region ?_
        obtain ⟨s3, e7, h⟩ := bind_some h
        obtain ⟨v1, e8, h⟩ := bind_some h
        refine WL_all hE [0, 5] [] [] (st' := ⟨[(0, SS s1), (5, I64 (wi64 ((wi64 ((List.length s1 : Int) - (2 : Int))) - (List.length v1 : Int))))], [], []⟩) (orc := [tS s3, tS v1]) (ob := [sub? s1 (2 : Int) (s1.length : Int) = some s3, strings_TrimLeft k s3 ([48, 49, 50, 51, 52, 53, 54, 55, 56, 57, 97, 98, 99, 100, 101, 102] : List UInt8) = some v1]) (by kernel_rfl) ⟨e7, e8, trivial⟩ ?_
        refine N_then ?_
        refine W_seq ?_
        refine W_seq ?_
        refine W_region ?_
        obtain ⟨b2, e9, h⟩ := bind_some h
        refine WL_all hE [0, 5, 34] [] [] (st' := ⟨[(0, SS s1), (5, I64 (wi64 ((wi64 ((List.length s1 : Int) - (2 : Int))) - (List.length v1 : Int)))), (34, U8 b2)], [], []⟩) (orc := [tU8 b2]) (ob := [byteAt s1 (1 : Int) = some b2]) (by kernel_rfl) ⟨e9, trivial⟩ ?_
        refine N_then ?_
        refine W_block ?_
        refine W_join (α := Bool) (fun z => runes_thing_j2 k s1 b2 v1 z = some (rz1, rz2)) (fun t2 => ⟨[(0, SS s1), (5, I64 (wi64 ((wi64 ((List.length s1 : Int) - (2 : Int))) - (List.length v1 : Int)))), (34, U8 b2), (35, BB t2)], [], []⟩) ?_ (fun hJ10 => ?_)
        · rintro t2 h
          unfold runes_thing_j2 at h
          refine W_cond (b := t2) (by kernel_rfl) (fun e10 => ?_) (fun e10 => ?_)
          · replace h := ite_t e10 h
            refine W_seq ?_
            refine W_region ?_
            obtain ⟨s4, e11, h⟩ := bind_some h
            refine WL_all hE [2, 3] [] [] (st' := ⟨[(2, SS s4), (3, I64 (2 : Int))], [], []⟩) (orc := [tS s4]) (ob := [sub? s1 (1 : Int) (2 : Int) = some s4]) (by kernel_rfl) ⟨e11, trivial⟩ ?_
            refine N_then ?_
            refine W_ret ?_
            refine N_block_ret ?_
            refine N_then_ret ?_
            cases h
            exact N_end (.inl rfl) (by kernel_rfl)
          · replace h := ite_f e10 h
            refine W_seq ?_
            refine W_region ?_
            refine WL_all hE [0, 5, 34, 40] [] [] (st' := ⟨[(0, SS s1), (5, I64 (wi64 ((wi64 ((List.length s1 : Int) - (2 : Int))) - (List.length v1 : Int)))), (34, U8 b2), (40, BB (b2 == (120 : Int)))], [], []⟩) (orc := []) (ob := []) (by kernel_rfl) trivial ?_
            refine N_then ?_
            refine W_cond (b := b2 == (120 : Int)) (by kernel_rfl) (fun e12 => ?_) (fun e12 => ?_)
            · replace h := ite_t e12 h
              refine W_seq ?_
              refine W_seq ?_
              refine W_region ?_
              refine WL_tk hE 3 [0, 44] [] [] (st' := ⟨[(0, SS s1), (44, BB (decide ((wi64 ((wi64 ((List.length s1 : Int) - (2 : Int))) - (List.length v1 : Int))) < (2 : Int))))], [], []⟩) (orc := []) (ob := []) (by kernel_rfl) trivial ?_
              refine WL_join (α := Bool) (fun z => runes_thing_j3 k s1 z = some (rz1, rz2)) (fun t3 => ⟨[(0, SS s1), (48, BB t3)], [], []⟩) 4 ?_ (fun hJ3 => ?_)
              · rintro t3 h
                unfold runes_thing_j3 at h
                refine WL_nil ?_
                refine N_then ?_
                refine W_cond (b := t3) (by kernel_rfl) (fun e13 => ?_) (fun e13 => ?_)
                · replace h := ite_t e13 h
                  refine W_seq ?_
                  refine W_region ?_
                  refine WL_all hE [2, 3] [] [] (st' := ⟨[(2, SS ([] : List UInt8)), (3, I64 (0 : Int))], [], []⟩) (orc := []) (ob := []) (by kernel_rfl) trivial ?_
                  refine N_then ?_
                  refine W_ret ?_
                  refine N_then_ret ?_
                  refine N_block_ret ?_
                  refine N_then_ret ?_
                  cases h
                  exact N_end (.inl rfl) (by kernel_rfl)
                · replace h := ite_f e13 h
                  refine W_skip ?_
                  refine N_then ?_
                  refine W_seq ?_
                  refine W_region ?_
                  obtain ⟨s5, e14, h⟩ := bind_some h
                  obtain ⟨v2, e15, h⟩ := bind_some h
                  refine WL_all hE [6] [] [] (st' := ⟨[(6, U64 v2.1)], [], []⟩) (orc := [tS s5, tU64 v2.1, ⟨.err, v2.2⟩]) (ob := [sub? s1 (2 : Int) (4 : Int) = some s5, strconv_ParseUint k s5 (16 : Int) (8 : Int) = some ((v2).1, (v2).2)]) (by kernel_rfl) ⟨e14, e15, trivial⟩ ?_
                  refine N_then ?_
                  refine W_seq ?_
                  refine W_region ?_
                  refine WL_all hE [2, 3] [] [] (st' := ⟨[(2, SS (bytesStr ([wu8 v2.1] : List (Int)))), (3, I64 (4 : Int))], [], []⟩) (orc := []) (ob := []) (by kernel_rfl) trivial ?_
                  refine N_then ?_
                  refine W_ret ?_
                  refine N_block_ret ?_
                  refine N_then_ret ?_
                  cases h
                  exact N_end (.inl rfl) (by kernel_rfl)
              refine WL_split (fun g => ⟨[(0, SS s1), (44, BB g)], [], []⟩) (b := decide ((wi64 ((wi64 ((List.length s1 : Int) - (2 : Int))) - (List.length v1 : Int))) < (2 : Int))) (fun e16 => ?_) (fun e16 => ?_)
              · replace h := ite_t e16 h
                refine WL_all hE [0, 48] [] [] (st' := ⟨[(0, SS s1), (48, BB true)], [], []⟩) (orc := []) (ob := []) (by kernel_rfl) trivial ?_
                exact hJ3 true h
              · replace h := ite_f e16 h
                obtain ⟨b3, e17, h⟩ := bind_some h
                refine WL_all hE [0, 48] [] [] (st' := ⟨[(0, SS s1), (48, BB (decide (b3 < (56 : Int))))], [], []⟩) (orc := [tU8 b3]) (ob := [byteAt s1 (2 : Int) = some b3]) (by kernel_rfl) ⟨e17, trivial⟩ ?_
                exact hJ3 (decide (b3 < (56 : Int))) h
            · replace h := ite_f e12 h
              refine W_seq ?_
              refine W_region ?_
              refine WL_all hE [0, 5, 59] [] [] (st' := ⟨[(0, SS s1), (5, I64 (wi64 ((wi64 ((List.length s1 : Int) - (2 : Int))) - (List.length v1 : Int)))), (59, BB (b2 == (117 : Int)))], [], []⟩) (orc := []) (ob := []) (by kernel_rfl) trivial ?_
              refine N_then ?_
              refine W_cond (b := b2 == (117 : Int)) (by kernel_rfl) (fun e18 => ?_) (fun e18 => ?_)
              · replace h := ite_t e18 h
                refine W_seq ?_
                refine W_region ?_
                obtain ⟨s6, e19, h⟩ := bind_some h
                obtain ⟨v3, e20, h⟩ := bind_some h
                refine WL_all hE [0, 5, 8, 9] [] [] (st' := ⟨[(0, SS s1), (5, I64 (wi64 ((wi64 ((List.length s1 : Int) - (2 : Int))) - (List.length v1 : Int)))), (8, U64 v3.1), (9, .val .err v3.2)], [], []⟩) (orc := [tS s6, tU64 v3.1, ⟨.err, v3.2⟩]) (ob := [sub? s1 (2 : Int) (wi64 ((2 : Int) + (wi64 ((wi64 ((List.length s1 : Int) - (2 : Int))) - (List.length v1 : Int))))) = some s6, strconv_ParseUint k s6 (16 : Int) (32 : Int) = some ((v3).1, (v3).2)]) (by kernel_rfl) ⟨e19, e20, trivial⟩ ?_
                refine N_then ?_
                refine W_seq ?_
                refine W_seq ?_
                refine W_region ?_
                refine WL_tk hE 3 [0, 5, 8, 71] [] [] (st' := ⟨[(0, SS s1), (5, I64 (wi64 ((wi64 ((List.length s1 : Int) - (2 : Int))) - (List.length v1 : Int)))), (8, U64 v3.1), (71, BB (!Option.isNone v3.2))], [], []⟩) (orc := []) (ob := []) (by kernel_rfl) trivial ?_
                refine WL_join (α := Bool) (fun z => runes_thing_j4 k v3 s1 v1 z = some (rz1, rz2)) (fun t4 => ⟨[(0, SS s1), (5, I64 (wi64 ((wi64 ((List.length s1 : Int) - (2 : Int))) - (List.length v1 : Int)))), (8, U64 v3.1), (74, BB t4)], [], []⟩) 3 ?_ (fun hJ4 => ?_)
                · rintro t4 h
                  unfold runes_thing_j4 at h
                  refine WL_tk hE 1 [0, 5, 8, 75] [] [] (st' := ⟨[(0, SS s1), (5, I64 (wi64 ((wi64 ((List.length s1 : Int) - (2 : Int))) - (List.length v1 : Int)))), (8, U64 v3.1), (75, BB t4)], [], []⟩) (orc := []) (ob := []) (by kernel_rfl) trivial ?_
                  refine WL_join (α := Bool) (fun z => runes_thing_j5 k v3 s1 v1 z = some (rz1, rz2)) (fun t5 => ⟨[(0, SS s1), (5, I64 (wi64 ((wi64 ((List.length s1 : Int) - (2 : Int))) - (List.length v1 : Int)))), (8, U64 v3.1), (80, BB t5)], [], []⟩) 5 ?_ (fun hJ5 => ?_)
                  · rintro t5 h
                    unfold runes_thing_j5 at h
                    refine WL_tk hE 1 [0, 5, 8, 81] [] [] (st' := ⟨[(0, SS s1), (5, I64 (wi64 ((wi64 ((List.length s1 : Int) - (2 : Int))) - (List.length v1 : Int)))), (8, U64 v3.1), (81, BB t5)], [], []⟩) (orc := []) (ob := []) (by kernel_rfl) trivial ?_
                    refine WL_join (α := Bool) (fun z => runes_thing_j6 k v3 s1 v1 z = some (rz1, rz2)) (fun t6 => ⟨[(0, SS s1), (5, I64 (wi64 ((wi64 ((List.length s1 : Int) - (2 : Int))) - (List.length v1 : Int)))), (8, U64 v3.1), (88, BB t6)], [], []⟩) 7 ?_ (fun hJ6 => ?_)
                    · rintro t6 h
                      unfold runes_thing_j6 at h
                      refine WL_tk hE 1 [0, 5, 8, 89] [] [] (st' := ⟨[(0, SS s1), (5, I64 (wi64 ((wi64 ((List.length s1 : Int) - (2 : Int))) - (List.length v1 : Int)))), (8, U64 v3.1), (89, BB t6)], [], []⟩) (orc := []) (ob := []) (by kernel_rfl) trivial ?_
                      refine WL_join (α := Bool) (fun z => runes_thing_j7 k v3 s1 v1 z = some (rz1, rz2)) (fun t7 => ⟨[(0, SS s1), (5, I64 (wi64 ((wi64 ((List.length s1 : Int) - (2 : Int))) - (List.length v1 : Int)))), (8, U64 v3.1), (97, BB t7)], [], []⟩) 8 ?_ (fun hJ7 => ?_)
                      · rintro t7 h
                        unfold runes_thing_j7 at h
                        refine WL_tk hE 1 [0, 5, 8, 98] [] [] (st' := ⟨[(0, SS s1), (5, I64 (wi64 ((wi64 ((List.length s1 : Int) - (2 : Int))) - (List.length v1 : Int)))), (8, U64 v3.1), (98, BB t7)], [], []⟩) (orc := []) (ob := []) (by kernel_rfl) trivial ?_
                        refine WL_join (α := Bool) (fun z => runes_thing_j8 v3 s1 v1 z = some (rz1, rz2)) (fun t8 => ⟨[(5, I64 (wi64 ((wi64 ((List.length s1 : Int) - (2 : Int))) - (List.length v1 : Int)))), (8, U64 v3.1), (105, BB t8)], [], []⟩) 7 ?_ (fun hJ8 => ?_)
                        · rintro t8 h
                          unfold runes_thing_j8 at h
                          refine WL_nil ?_
                          refine N_then ?_
                          refine W_cond (b := t8) (by kernel_rfl) (fun e21 => ?_) (fun e21 => ?_)
                          · replace h := ite_t e21 h
                            refine W_seq ?_
                            refine W_region ?_
                            refine WL_all hE [2, 3] [] [] (st' := ⟨[(2, SS ([] : List UInt8)), (3, I64 (0 : Int))], [], []⟩) (orc := []) (ob := []) (by kernel_rfl) trivial ?_
                            refine N_then ?_
                            refine W_ret ?_
                            refine N_then_ret ?_
                            refine N_block_ret ?_
                            refine N_then_ret ?_
                            cases h
                            exact N_end (.inl rfl) (by kernel_rfl)
                          · replace h := ite_f e21 h
                            refine W_skip ?_
                            refine N_then ?_
                            refine W_seq ?_
                            refine W_region ?_
                            refine WL_all hE [2, 3] [] [] (st' := ⟨[(2, SS ((Utf8.encode (wi32 v3.1)).data.toList)), (3, I64 (wi64 ((wi64 ((wi64 ((List.length s1 : Int) - (2 : Int))) - (List.length v1 : Int))) + (3 : Int))))], [], []⟩) (orc := []) (ob := []) (by kernel_rfl) trivial ?_
                            refine N_then ?_
                            refine W_ret ?_
                            refine N_block_ret ?_
                            refine N_then_ret ?_
                            cases h
                            exact N_end (.inl rfl) (by kernel_rfl)
                        refine WL_split (fun g => ⟨[(0, SS s1), (5, I64 (wi64 ((wi64 ((List.length s1 : Int) - (2 : Int))) - (List.length v1 : Int)))), (8, U64 v3.1), (98, BB g)], [], []⟩) (b := t7) (fun e22 => ?_) (fun e22 => ?_)
                        · replace h := ite_t e22 h
                          refine WL_all hE [5, 8, 105] [] [] (st' := ⟨[(5, I64 (wi64 ((wi64 ((List.length s1 : Int) - (2 : Int))) - (List.length v1 : Int)))), (8, U64 v3.1), (105, BB true)], [], []⟩) (orc := []) (ob := []) (by kernel_rfl) trivial ?_
                          exact hJ8 true h
                        · replace h := ite_f e22 h
                          obtain ⟨s7, e23, h⟩ := bind_some h
                          obtain ⟨v4, e24, h⟩ := bind_some h
                          refine WL_all hE [5, 8, 105] [] [] (st' := ⟨[(5, I64 (wi64 ((wi64 ((List.length s1 : Int) - (2 : Int))) - (List.length v1 : Int)))), (8, U64 v3.1), (105, BB (!v4))], [], []⟩) (orc := [tS s7, tB v4]) (ob := [sub? s1 (wi64 ((2 : Int) + (wi64 ((wi64 ((List.length s1 : Int) - (2 : Int))) - (List.length v1 : Int))))) (s1.length : Int) = some s7, strings_HasPrefix k s7 ([59] : List UInt8) = some v4]) (by kernel_rfl) ⟨e23, e24, trivial⟩ ?_
                          exact hJ8 (!v4) h
                      refine WL_split (fun g => ⟨[(0, SS s1), (5, I64 (wi64 ((wi64 ((List.length s1 : Int) - (2 : Int))) - (List.length v1 : Int)))), (8, U64 v3.1), (89, BB g)], [], []⟩) (b := t6) (fun e25 => ?_) (fun e25 => ?_)
                      · replace h := ite_t e25 h
                        refine WL_all hE [0, 5, 8, 97] [] [] (st' := ⟨[(0, SS s1), (5, I64 (wi64 ((wi64 ((List.length s1 : Int) - (2 : Int))) - (List.length v1 : Int)))), (8, U64 v3.1), (97, BB true)], [], []⟩) (orc := []) (ob := []) (by kernel_rfl) trivial ?_
                        exact hJ7 true h
                      · replace h := ite_f e25 h
                        obtain ⟨b4, e26, h⟩ := bind_some h
                        refine WL_tk hE 4 [0, 5, 8, 89, 93] [] [] (st' := ⟨[(0, SS s1), (5, I64 (wi64 ((wi64 ((List.length s1 : Int) - (2 : Int))) - (List.length v1 : Int)))), (8, U64 v3.1), (89, BB false), (93, BB (b4 == (48 : Int)))], [], []⟩) (orc := [tU8 b4]) (ob := [byteAt s1 (2 : Int) = some b4]) (by kernel_rfl) ⟨e26, trivial⟩ ?_
                        refine WL_join (α := Bool) (fun z => runes_thing_j9 k v3 s1 v1 z = some (rz1, rz2)) (fun t9 => ⟨[(0, SS s1), (5, I64 (wi64 ((wi64 ((List.length s1 : Int) - (2 : Int))) - (List.length v1 : Int)))), (8, U64 v3.1), (89, BB false), (96, BB t9)], [], []⟩) 3 ?_ (fun hJ9 => ?_)
                        · rintro t9 h
                          unfold runes_thing_j9 at h
                          refine WL_all hE [0, 5, 8, 97] [] [] (st' := ⟨[(0, SS s1), (5, I64 (wi64 ((wi64 ((List.length s1 : Int) - (2 : Int))) - (List.length v1 : Int)))), (8, U64 v3.1), (97, BB t9)], [], []⟩) (orc := []) (ob := []) (by kernel_rfl) trivial ?_
                          exact hJ7 t9 h
                        refine WL_split (fun g => ⟨[(0, SS s1), (5, I64 (wi64 ((wi64 ((List.length s1 : Int) - (2 : Int))) - (List.length v1 : Int)))), (8, U64 v3.1), (89, BB false), (93, BB g)], [], []⟩) (b := b4 == (48 : Int)) (fun e27 => ?_) (fun e27 => ?_)
                        · rw [and_t e27] at h
                          refine WL_all hE [0, 5, 8, 89, 96] [] [] (st' := ⟨[(0, SS s1), (5, I64 (wi64 ((wi64 ((List.length s1 : Int) - (2 : Int))) - (List.length v1 : Int)))), (8, U64 v3.1), (89, BB false), (96, BB (decide ((1 : Int) < (wi64 ((wi64 ((List.length s1 : Int) - (2 : Int))) - (List.length v1 : Int))))))], [], []⟩) (orc := []) (ob := []) (by kernel_rfl) trivial ?_
                          exact hJ9 (decide ((1 : Int) < (wi64 ((wi64 ((List.length s1 : Int) - (2 : Int))) - (List.length v1 : Int))))) h
                        · rw [and_f e27] at h
                          refine WL_all hE [0, 5, 8, 89, 96] [] [] (st' := ⟨[(0, SS s1), (5, I64 (wi64 ((wi64 ((List.length s1 : Int) - (2 : Int))) - (List.length v1 : Int)))), (8, U64 v3.1), (89, BB false), (96, BB false)], [], []⟩) (orc := []) (ob := []) (by kernel_rfl) trivial ?_
                          exact hJ9 false h
                    refine WL_split (fun g => ⟨[(0, SS s1), (5, I64 (wi64 ((wi64 ((List.length s1 : Int) - (2 : Int))) - (List.length v1 : Int)))), (8, U64 v3.1), (81, BB g)], [], []⟩) (b := t5) (fun e28 => ?_) (fun e28 => ?_)
                    · replace h := ite_t e28 h
                      refine WL_all hE [0, 5, 8, 88] [] [] (st' := ⟨[(0, SS s1), (5, I64 (wi64 ((wi64 ((List.length s1 : Int) - (2 : Int))) - (List.length v1 : Int)))), (8, U64 v3.1), (88, BB true)], [], []⟩) (orc := []) (ob := []) (by kernel_rfl) trivial ?_
                      exact hJ6 true h
                    · replace h := ite_f e28 h
                      refine WL_tk hE 3 [0, 5, 8, 81, 84] [] [] (st' := ⟨[(0, SS s1), (5, I64 (wi64 ((wi64 ((List.length s1 : Int) - (2 : Int))) - (List.length v1 : Int)))), (8, U64 v3.1), (81, BB false), (84, BB (decide ((32 : Int) ≤ v3.1)))], [], []⟩) (orc := []) (ob := []) (by kernel_rfl) trivial ?_
                      refine WL_join (α := Bool) (fun z => runes_thing_j10 k v3 s1 v1 z = some (rz1, rz2)) (fun t10 => ⟨[(0, SS s1), (5, I64 (wi64 ((wi64 ((List.length s1 : Int) - (2 : Int))) - (List.length v1 : Int)))), (8, U64 v3.1), (81, BB false), (87, BB t10)], [], []⟩) 3 ?_ (fun hJ10 => ?_)
                      · rintro t10 h
                        unfold runes_thing_j10 at h
                        refine WL_all hE [0, 5, 8, 88] [] [] (st' := ⟨[(0, SS s1), (5, I64 (wi64 ((wi64 ((List.length s1 : Int) - (2 : Int))) - (List.length v1 : Int)))), (8, U64 v3.1), (88, BB t10)], [], []⟩) (orc := []) (ob := []) (by kernel_rfl) trivial ?_
                        exact hJ6 t10 h
                      refine WL_split (fun g => ⟨[(0, SS s1), (5, I64 (wi64 ((wi64 ((List.length s1 : Int) - (2 : Int))) - (List.length v1 : Int)))), (8, U64 v3.1), (81, BB false), (84, BB g)], [], []⟩) (b := decide ((32 : Int) ≤ v3.1)) (fun e29 => ?_) (fun e29 => ?_)
                      · rw [and_t e29] at h
                        refine WL_all hE [0, 5, 8, 81, 87] [] [] (st' := ⟨[(0, SS s1), (5, I64 (wi64 ((wi64 ((List.length s1 : Int) - (2 : Int))) - (List.length v1 : Int)))), (8, U64 v3.1), (81, BB false), (87, BB (decide (v3.1 ≤ (126 : Int))))], [], []⟩) (orc := []) (ob := []) (by kernel_rfl) trivial ?_
                        exact hJ10 (decide (v3.1 ≤ (126 : Int))) h
                      · rw [and_f e29] at h
                        refine WL_all hE [0, 5, 8, 81, 87] [] [] (st' := ⟨[(0, SS s1), (5, I64 (wi64 ((wi64 ((List.length s1 : Int) - (2 : Int))) - (List.length v1 : Int)))), (8, U64 v3.1), (81, BB false), (87, BB false)], [], []⟩) (orc := []) (ob := []) (by kernel_rfl) trivial ?_
                        exact hJ10 false h
                  refine WL_split (fun g => ⟨[(0, SS s1), (5, I64 (wi64 ((wi64 ((List.length s1 : Int) - (2 : Int))) - (List.length v1 : Int)))), (8, U64 v3.1), (75, BB g)], [], []⟩) (b := t4) (fun e30 => ?_) (fun e30 => ?_)
                  · replace h := ite_t e30 h
                    refine WL_all hE [0, 5, 8, 80] [] [] (st' := ⟨[(0, SS s1), (5, I64 (wi64 ((wi64 ((List.length s1 : Int) - (2 : Int))) - (List.length v1 : Int)))), (8, U64 v3.1), (80, BB true)], [], []⟩) (orc := []) (ob := []) (by kernel_rfl) trivial ?_
                    exact hJ5 true h
                  · replace h := ite_f e30 h
                    obtain ⟨v5, e31, h⟩ := bind_some h
                    refine WL_all hE [0, 5, 8, 80] [] [] (st' := ⟨[(0, SS s1), (5, I64 (wi64 ((wi64 ((List.length s1 : Int) - (2 : Int))) - (List.length v1 : Int)))), (8, U64 v3.1), (80, BB (!v5))], [], []⟩) (orc := [tB v5]) (ob := [unicode_utf8_ValidRune k (wi32 v3.1) = some v5]) (by kernel_rfl) ⟨e31, trivial⟩ ?_
                    exact hJ5 (!v5) h
                refine WL_split (fun g => ⟨[(0, SS s1), (5, I64 (wi64 ((wi64 ((List.length s1 : Int) - (2 : Int))) - (List.length v1 : Int)))), (8, U64 v3.1), (71, BB g)], [], []⟩) (b := !Option.isNone v3.2) (fun e32 => ?_) (fun e32 => ?_)
                · rw [or_t e32] at h
                  refine WL_all hE [0, 5, 8, 74] [] [] (st' := ⟨[(0, SS s1), (5, I64 (wi64 ((wi64 ((List.length s1 : Int) - (2 : Int))) - (List.length v1 : Int)))), (8, U64 v3.1), (74, BB true)], [], []⟩) (orc := []) (ob := []) (by kernel_rfl) trivial ?_
                  exact hJ4 true h
                · rw [or_f e32] at h
                  refine WL_all hE [0, 5, 8, 74] [] [] (st' := ⟨[(0, SS s1), (5, I64 (wi64 ((wi64 ((List.length s1 : Int) - (2 : Int))) - (List.length v1 : Int)))), (8, U64 v3.1), (74, BB (decide ((1114111 : Int) < v3.1)))], [], []⟩) (orc := []) (ob := []) (by kernel_rfl) trivial ?_
                  exact hJ4 (decide ((1114111 : Int) < v3.1)) h
              · replace h := ite_f e18 h
                refine W_skip ?_
                refine N_block ?_
                refine N_then ?_
                refine W_seq ?_
                refine W_region ?_
                refine WL_all hE [2, 3] [] [] (st' := ⟨[(2, SS ([] : List UInt8)), (3, I64 (0 : Int))], [], []⟩) (orc := []) (ob := []) (by kernel_rfl) trivial ?_
                refine N_then ?_
                refine W_ret ?_
                cases h
                exact N_end (.inl rfl) (by kernel_rfl)
        refine W_seq ?_
        refine W_region ?_
        refine WL_all hE [0, 5, 34, 35] [] [] (st' := ⟨[(0, SS s1), (5, I64 (wi64 ((wi64 ((List.length s1 : Int) - (2 : Int))) - (List.length v1 : Int)))), (34, U8 b2), (35, BB (b2 == (34 : Int)))], [], []⟩) (orc := []) (ob := []) (by kernel_rfl) trivial ?_
        refine N_then ?_
        refine W_cond (b := b2 == (34 : Int)) (by kernel_rfl) (fun e33 => ?_) (fun e33 => ?_)
        · replace h := ite_t e33 h
          refine W_skip ?_
          exact hJ10 (b2 == (34 : Int)) h
        · replace h := ite_f e33 h
          refine W_region ?_
          refine WL_all hE [0, 5, 34, 35] [] [] (st' := ⟨[(0, SS s1), (5, I64 (wi64 ((wi64 ((List.length s1 : Int) - (2 : Int))) - (List.length v1 : Int)))), (34, U8 b2), (35, BB (b2 == (92 : Int)))], [], []⟩) (orc := []) (ob := []) (by kernel_rfl) trivial ?_
          exact hJ10 (b2 == (92 : Int)) h

def B_strings_Builder_Len_i1 (k : Nat) : FnB (List (Int)) Int where
  n := 8
  S := fun z => ⟨[(0, .ptr 8 0)], [(8, .cells [.selfp 8, .row 9] 59)], [(9, ⟨5, (.int .u8), (z)⟩)]⟩
  S' := fun z y => ⟨[], [(8, .cells [.selfp 8, .row 9] 59)], [(9, ⟨5, (.int .u8), (z)⟩)]⟩
  rs := fun z y => [I64 (y)]
  rel := fun z y => strings_Builder_Len_i1 k (z) = some y
noncomputable def E_strings_Builder_Len_i1 (k : Nat) : Env := ⟨Tryd.prog, Gu, 8, []⟩
theorem b_strings_Builder_Len_i1 (k : Nat) : BC Tryd.prog Gu 48 (B_strings_Builder_Len_i1 k) := by
  refine bc_of (fn := Tryd.f48) Tryd.func48 (by kernel_rfl) rfl Tryd.ntmps48 ?_
  rintro cx hP hn hG l1 y0 h
  have hE : EnvOK (E_strings_Builder_Len_i1 k) cx := (EnvOK.nil hP hn hG)
  replace h : strings_Builder_Len_i1 k l1 = some y0 := h
  unfold strings_Builder_Len_i1 at h
  refine W_seq ?_
  refine W_region ?_
  refine WL_all hE [0] [8] [9] (st' := ⟨[(0, .ptr 8 0)], [(8, .cells [.selfp 8, .row 9] 59)], [(9, ⟨5, (.int .u8), l1⟩)]⟩) (orc := []) (ob := []) (by kernel_rfl) trivial ?_
  refine N_then ?_
  refine W_seq ?_
  refine W_region ?_
  refine WL_all hE [0, 2] [8] [9] (st' := ⟨[(0, .ptr 8 0), (2, I64 (List.length l1 : Int))], [(8, .cells [.selfp 8, .row 9] 59)], [(9, ⟨5, (.int .u8), l1⟩)]⟩) (orc := []) (ob := []) (by kernel_rfl) trivial ?_
  refine N_then ?_
  refine W_ret ?_
  replace h := Option.some.inj h
  subst h
  exact N_endB hE.P [8] [9] (.inl rfl) (by kernel_rfl) (by kernel_rfl)

def C_runes_Plain (k : Nat) : FnC := ⟨true, 3, [], fun | [⟨.str, s1⟩], [⟨.str, rz1⟩, ⟨(.int .i64), rz2⟩, ⟨(.int .i64), rz3⟩] => runes_Plain k s1 = some (rz1, rz2, rz3) | _, _ => False⟩
noncomputable def E_runes_Plain (k : Nat) : Env := ⟨Tryd.prog, Gu, 63, [(45, C_strings_HasPrefix k), (46, C_runes_thing k), (43, C_runes_quote k)]⟩
theorem c_runes_Plain (k : Nat) : Contract Tryd.prog Gu 29 (C_runes_Plain k) := by
  refine contract_of Gu_stable (fn := Tryd.f29) Tryd.func29 (by kernel_rfl) rfl ?_ ?_
  · intro xs rs h
    unfold C_runes_Plain at h
    simp only at h
    split at h
    · exact ⟨by show 1 ≤ _; rw [Tryd.ntmps29]; decide, rfl, fun _ u hu => by simp at hu; (rcases hu with rfl | rfl | rfl) <;> rfl⟩
    · exact h.elim
  · intro w0 M xs rs hG h
    unfold C_runes_Plain at h
    simp only at h
    split at h
    case h_2 => exact h.elim
    rename_i s1 rz1 rz2 rz3
    change List UInt8 at s1
    change List UInt8 at rz1
    change Int at rz2
    change Int at rz3
    have hE : EnvOK (E_runes_Plain k) ⟨Tryd.prog, Tryd.f29.ntmps, w0, M, fun _ => False, fun _ => undef⟩ := (EnvOK.cons (c_strings_HasPrefix k) (EnvOK.cons (c_runes_thing k) (EnvOK.cons (c_runes_quote k) (EnvOK.nil rfl Tryd.ntmps29 hG))))
    unfold runes_Plain at h
    refine W_seq ?_
    refine W_region ?_
    refine WL_all hE [0] [] [] (st' := ⟨[(0, SS s1)], [], []⟩) (orc := []) (ob := []) (by kernel_rfl) trivial ?_
    refine N_then ?_
    refine W_seq ?_
    refine W_seq ?_
    refine W_region ?_
    refine WL_all hE [0, 11] [] [] (st' := ⟨[(0, SS s1), (11, BB (decide ((1048576 : Int) < (List.length s1 : Int))))], [], []⟩) (orc := []) (ob := []) (by kernel_rfl) trivial ?_
    refine N_then ?_
    refine W_cond (b := decide ((1048576 : Int) < (List.length s1 : Int))) (by kernel_rfl) (fun e1 => ?_) (fun e1 => ?_)
    · replace h := ite_t e1 h
      refine W_seq ?_
      refine W_region ?_
      refine WL_all hE [2, 3, 4] [] [] (st' := ⟨[(2, SS ([] : List UInt8)), (3, I64 (0 : Int)), (4, I64 (3 : Int))], [], []⟩) (orc := []) (ob := []) (by kernel_rfl) trivial ?_
      refine N_then ?_
      refine W_ret ?_
      refine N_then_ret ?_
      cases h
      exact N_end (.inl rfl) (by kernel_rfl)
    · replace h := ite_f e1 h
      refine W_skip ?_
      refine N_then ?_
      refine W_seq ?_
      refine W_seq ?_
      refine W_region ?_
      obtain ⟨v1, e2, h⟩ := bind_some h
      refine WL_all hE [0, 14] [] [] (st' := ⟨[(0, SS s1), (14, BB (!v1))], [], []⟩) (orc := [tB v1]) (ob := [strings_HasPrefix k s1 ([34] : List UInt8) = some v1]) (by kernel_rfl) ⟨e2, trivial⟩ ?_
      refine N_then ?_
      refine W_cond (b := !v1) (by kernel_rfl) (fun e3 => ?_) (fun e3 => ?_)
      · replace h := ite_t e3 h
        refine W_seq ?_
        refine W_region ?_
        refine WL_all hE [2, 3, 4] [] [] (st' := ⟨[(2, SS ([] : List UInt8)), (3, I64 (0 : Int)), (4, I64 (10 : Int))], [], []⟩) (orc := []) (ob := []) (by kernel_rfl) trivial ?_
        refine N_then ?_
        refine W_ret ?_
        refine N_then_ret ?_
        cases h
        exact N_end (.inl rfl) (by kernel_rfl)
      · replace h := ite_f e3 h
        refine W_skip ?_
        refine N_then ?_
        refine W_seq ?_
        refine W_region ?_
        refine WL_all hE [0, 5] [5] [1000005] (st' := ⟨[(0, SS s1), (5, .ptr 5 0)], [(5, .cells [.selfp 5, .row 1000005] 59)], [(1000005, ⟨5, (.int .u8), ([] : List (Int))⟩)]⟩) (orc := []) (ob := []) (by kernel_rfl) trivial ?_
        refine N_then ?_
        refine W_seq ?_
        refine W_region ?_
        refine WL_all hE [0, 5, 6] [5] [1000005] (st' := ⟨[(0, SS s1), (5, .ptr 5 0), (6, I64 (1 : Int))], [(5, .cells [.selfp 5, .row 1000005] 59)], [(1000005, ⟨5, (.int .u8), ([] : List (Int))⟩)]⟩) (orc := []) (ob := []) (by kernel_rfl) trivial ?_
        refine N_then ?_
        refine W_seq ?_
        refine W_block ?_
        refine W_loop (α := (Int × List (Int))) (fun n z => runes_Plain_l1 k s1 n z.1 z.2 = some (rz1, rz2, rz3)) (fun z => ⟨[(0, SS s1), (5, .ptr 5 0), (6, I64 (z.1))], [(5, .cells [.selfp 5, .row 1000005] 59)], [(1000005, ⟨5, (.int .u8), (z.2)⟩)]⟩) ?_ (k := k) (x := ((1 : Int), ([] : List (Int)))) h
        clear h
        rintro fuel1 ⟨at1, t1⟩ h
        cases fuel1 with
        | zero => exact absurd (show none = some _ from h) (by simp)
        | succ fuel1 =>
          have h : runes_Plain_b1 k s1 (runes_Plain_l1 k s1 fuel1) at1 t1 = some (rz1, rz2, rz3) := h
          unfold runes_Plain_b1 at h
          refine W_seq ?_
          refine W_seq ?_
          refine W_region ?_
          refine WL_tk hE 5 [0, 5, 6, 19] [5] [1000005] (st' := ⟨[(0, SS s1), (5, .ptr 5 0), (6, I64 at1), (19, BB (decide (at1 < (List.length s1 : Int))))], [(5, .cells [.selfp 5, .row 1000005] 59)], [(1000005, ⟨5, (.int .u8), t1⟩)]⟩) (orc := []) (ob := []) (by kernel_rfl) trivial ?_
          refine WL_join (α := Bool) (fun z => runes_Plain_j1 k s1 at1 t1 (runes_Plain_l1 k s1 fuel1) z = some (rz1, rz2, rz3)) (fun t2 => ⟨[(0, SS s1), (5, .ptr 5 0), (6, I64 at1), (24, BB t2)], [(5, .cells [.selfp 5, .row 1000005] 59)], [(1000005, ⟨5, (.int .u8), t1⟩)]⟩) 5 ?_ (fun hJ1 => ?_)
          · rintro t2 h
            unfold runes_Plain_j1 at h
            refine WL_nil ?_
            refine N_then ?_
            refine W_cond (b := t2) (by kernel_rfl) (fun e4 => ?_) (fun e4 => ?_)
            · replace h := ite_t e4 h
              refine W_skip ?_
              refine N_then ?_
              refine W_block ?_
              refine W_seq ?_
              refine W_region ?_
              obtain ⟨s2, e5, h⟩ := bind_some h
              obtain ⟨v2, e6, h⟩ := bind_some h
              refine WL_all hE [0, 5, 6, 7, 8] [5] [1000005] (st' := ⟨[(0, SS s1), (5, .ptr 5 0), (6, I64 at1), (7, SS v2.1), (8, I64 v2.2)], [(5, .cells [.selfp 5, .row 1000005] 59)], [(1000005, ⟨5, (.int .u8), t1⟩)]⟩) (orc := [tS s2, tS v2.1, tI64 v2.2]) (ob := [sub? s1 at1 (s1.length : Int) = some s2, runes_thing k s2 = some ((v2).1, (v2).2)]) (by kernel_rfl) ⟨e5, e6, trivial⟩ ?_
              refine N_then ?_
              refine W_seq ?_
              refine W_seq ?_
              refine W_region ?_
              refine WL_all hE [0, 5, 6, 7, 8, 33] [5] [1000005] (st' := ⟨[(0, SS s1), (5, .ptr 5 0), (6, I64 at1), (7, SS v2.1), (8, I64 v2.2), (33, BB (v2.2 == (0 : Int)))], [(5, .cells [.selfp 5, .row 1000005] 59)], [(1000005, ⟨5, (.int .u8), t1⟩)]⟩) (orc := []) (ob := []) (by kernel_rfl) trivial ?_
              refine N_then ?_
              refine W_cond (b := v2.2 == (0 : Int)) (by kernel_rfl) (fun e7 => ?_) (fun e7 => ?_)
              · replace h := ite_t e7 h
                refine W_seq ?_
                refine W_region ?_
                refine WL_all hE [2, 3, 4] [] [] (st' := ⟨[(2, SS ([] : List UInt8)), (3, I64 at1), (4, I64 (10 : Int))], [], []⟩) (orc := []) (ob := []) (by kernel_rfl) trivial ?_
                refine N_then ?_
                refine W_ret ?_
                refine N_then_ret ?_
                refine N_block_ret ?_
                refine N_then_ret ?_
                refine N_block_ret ?_
                refine N_then_ret ?_
                cases h
                exact N_end (.inl rfl) (by kernel_rfl)
              · replace h := ite_f e7 h
                refine W_skip ?_
                refine N_then ?_
                refine W_seq ?_
                refine W_region ?_
                refine WL_tk hE 1 [0, 5, 6, 8, 35] [5] [1000005] (st' := ⟨[(0, SS s1), (5, .ptr 5 0), (6, I64 at1), (8, I64 v2.2), (35, SS v2.1)], [(5, .cells [.selfp 5, .row 1000005] 59)], [(1000005, ⟨5, (.int .u8), t1⟩)]⟩) (orc := []) (ob := []) (by kernel_rfl) trivial ?_
                obtain ⟨v3, e8, h⟩ := bind_some h
                refine WL_callB hE (b_strings_Builder_WriteString_i1 k) (v2.1, t1) v3 e8 (ρ := [(5, 19), (1000005, 20)]) (ρ' := [(19, 5), (20, 1000005)]) (n := 19) (by kernel_rfl) [0, 5, 6, 8] [5] [1000005] (by kernel_rfl) (by kernel_rfl) (st' := ⟨[(0, SS s1), (5, .ptr 5 0), (6, I64 at1), (8, I64 v2.2)], [(5, .cells [.selfp 5, .row 1000005] 59)], [(1000005, ⟨5, (.int .u8), v3.2.2⟩)]⟩) (by kernel_rfl) ?_
                refine WL_nil ?_
                refine N_then ?_
                refine W_region ?_
                refine WL_all hE [0, 5, 6] [5] [1000005] (st' := ⟨[(0, SS s1), (5, .ptr 5 0), (6, I64 (wi64 (at1 + v2.2)))], [(5, .cells [.selfp 5, .row 1000005] 59)], [(1000005, ⟨5, (.int .u8), v3.2.2⟩)]⟩) (orc := []) (ob := []) (by kernel_rfl) trivial ?_
                refine N_block ?_
                exact N_round (wi64 (at1 + v2.2), v3.2.2) (Nat.lt_succ_self _) h
            · replace h := ite_f e4 h
              refine W_exit ?_
              refine N_then_exit ?_
              refine N_then_exit ?_
              refine N_block_exit ?_
              refine N_then ?_
              refine W_seq ?_
              refine W_block ?_
              refine W_seq ?_
              refine W_region ?_
              refine WL_all hE [0, 5, 6, 40] [5] [1000005] (st' := ⟨[(0, SS s1), (5, .ptr 5 0), (6, I64 at1), (40, BB (decide ((List.length s1 : Int) ≤ at1)))], [(5, .cells [.selfp 5, .row 1000005] 59)], [(1000005, ⟨5, (.int .u8), t1⟩)]⟩) (orc := []) (ob := []) (by kernel_rfl) trivial ?_
              refine N_then ?_
              refine W_cond (b := decide ((List.length s1 : Int) ≤ at1)) (by kernel_rfl) (fun e9 => ?_) (fun e9 => ?_)
              · replace h := ite_t e9 h
                refine W_seq ?_
                refine W_region ?_
                refine WL_all hE [2, 3, 4] [] [] (st' := ⟨[(2, SS ([] : List UInt8)), (3, I64 at1), (4, I64 (10 : Int))], [], []⟩) (orc := []) (ob := []) (by kernel_rfl) trivial ?_
                refine N_then ?_
                refine W_ret ?_
                refine N_block_ret ?_
                refine N_then_ret ?_
                cases h
                exact N_end (.inl rfl) (by kernel_rfl)
              · replace h := ite_f e9 h
                refine W_seq ?_
                refine W_region ?_
                refine WL_all hE [0, 5, 6, 46] [5] [1000005] (st' := ⟨[(0, SS s1), (5, .ptr 5 0), (6, I64 at1), (46, BB (decide ((wi64 (at1 + (1 : Int))) < (List.length s1 : Int))))], [(5, .cells [.selfp 5, .row 1000005] 59)], [(1000005, ⟨5, (.int .u8), t1⟩)]⟩) (orc := []) (ob := []) (by kernel_rfl) trivial ?_
                refine N_then ?_
                refine W_cond (b := decide ((wi64 (at1 + (1 : Int))) < (List.length s1 : Int))) (by kernel_rfl) (fun e10 => ?_) (fun e10 => ?_)
                · replace h := ite_t e10 h
                  refine W_seq ?_
                  refine W_region ?_
                  refine WL_all hE [2, 3, 4] [] [] (st' := ⟨[(2, SS ([] : List UInt8)), (3, I64 (wi64 (at1 + (1 : Int)))), (4, I64 (10 : Int))], [], []⟩) (orc := []) (ob := []) (by kernel_rfl) trivial ?_
                  refine N_then ?_
                  refine W_ret ?_
                  refine N_block_ret ?_
                  refine N_then_ret ?_
                  cases h
                  exact N_end (.inl rfl) (by kernel_rfl)
                · replace h := ite_f e10 h
                  refine W_seq ?_
                  refine W_region ?_
                  obtain ⟨v4, e11, h⟩ := bind_some h
                  refine WL_callB hE (b_strings_Builder_Len_i1 k) t1 v4 e11 (ρ := [(5, 8), (1000005, 9)]) (ρ' := [(8, 5), (9, 1000005)]) (n := 8) (by kernel_rfl) [0, 5, 55] [5] [1000005] (by kernel_rfl) (by kernel_rfl) (st' := ⟨[(0, SS s1), (5, .ptr 5 0), (55, I64 v4)], [(5, .cells [.selfp 5, .row 1000005] 59)], [(1000005, ⟨5, (.int .u8), t1⟩)]⟩) (by kernel_rfl) ?_
                  refine WL_all hE [0, 5, 54] [5] [1000005] (st' := ⟨[(0, SS s1), (5, .ptr 5 0), (54, BB (decide ((65536 : Int) < v4)))], [(5, .cells [.selfp 5, .row 1000005] 59)], [(1000005, ⟨5, (.int .u8), t1⟩)]⟩) (orc := []) (ob := []) (by kernel_rfl) trivial ?_
                  refine N_then ?_
                  refine W_cond (b := decide ((65536 : Int) < v4)) (by kernel_rfl) (fun e12 => ?_) (fun e12 => ?_)
                  · replace h := ite_t e12 h
                    refine W_seq ?_
                    refine W_region ?_
                    refine WL_all hE [2, 3, 4] [] [] (st' := ⟨[(2, SS ([] : List UInt8)), (3, I64 (0 : Int)), (4, I64 (3 : Int))], [], []⟩) (orc := []) (ob := []) (by kernel_rfl) trivial ?_
                    refine N_then ?_
                    refine W_ret ?_
                    refine N_block_ret ?_
                    refine N_then_ret ?_
                    cases h
                    exact N_end (.inl rfl) (by kernel_rfl)
                  · replace h := ite_f e12 h
                    refine W_seq ?_
                    refine W_region ?_
                    obtain ⟨v5, e13, h⟩ := bind_some h
                    refine WL_callB hE (eb_bld_StringK k) t1 v5 e13 (ρ := [(5, 14), (1000005, 15)]) (ρ' := [(14, 5)]) (n := 14) (by kernel_rfl) [0, 5, 58] [5] [] (by kernel_rfl) (by kernel_rfl) (st' := ⟨[(0, SS s1), (5, .ptr 5 0), (58, SS v5)], [(5, .raw (BldF t1))], []⟩) (by kernel_rfl) ?_
                    obtain ⟨v6, e14, h⟩ := bind_some h
                    refine WL_all hE [5, 57] [5] [] (st' := ⟨[(5, .ptr 5 0), (57, BB (!(v6 == s1)))], [(5, .raw (BldF t1))], []⟩) (orc := [tS v6]) (ob := [runes_quote k v5 = some v6]) (by kernel_rfl) ⟨e14, trivial⟩ ?_
                    refine N_then ?_
                    refine W_cond (b := !(v6 == s1)) (by kernel_rfl) (fun e15 => ?_) (fun e15 => ?_)
                    · replace h := ite_t e15 h
                      refine W_seq ?_
                      refine W_region ?_
                      refine WL_all hE [2, 3, 4] [] [] (st' := ⟨[(2, SS ([] : List UInt8)), (3, I64 (0 : Int)), (4, I64 (10 : Int))], [], []⟩) (orc := []) (ob := []) (by kernel_rfl) trivial ?_
                      refine N_then ?_
                      refine W_ret ?_
                      refine N_block_ret ?_
                      refine N_then_ret ?_
                      cases h
                      exact N_end (.inl rfl) (by kernel_rfl)
                    · replace h := ite_f e15 h
                      refine W_skip ?_
                      refine N_block ?_
                      refine N_then ?_
                      refine W_seq ?_
                      refine W_region ?_
                      obtain ⟨v7, e16, h⟩ := bind_some h
                      refine WL_callB hE (eb_bld_StringR k) t1 v7 e16 (ρ := [(5, 14)]) (ρ' := [(14, 5)]) (n := 14) (by kernel_rfl) [62] [] [] (by kernel_rfl) (by kernel_rfl) (st' := ⟨[(62, SS v7)], [], []⟩) (by kernel_rfl) ?_
                      refine WL_all hE [2, 3, 4] [] [] (st' := ⟨[(2, SS v7), (3, I64 (0 : Int)), (4, I64 (0 : Int))], [], []⟩) (orc := []) (ob := []) (by kernel_rfl) trivial ?_
                      refine N_then ?_
                      refine W_ret ?_
                      cases h
                      exact N_end (.inl rfl) (by kernel_rfl)
          refine WL_split (fun g => ⟨[(0, SS s1), (5, .ptr 5 0), (6, I64 at1), (19, BB g)], [(5, .cells [.selfp 5, .row 1000005] 59)], [(1000005, ⟨5, (.int .u8), t1⟩)]⟩) (b := decide (at1 < (List.length s1 : Int))) (fun e17 => ?_) (fun e17 => ?_)
          · replace h := ite_t e17 h
            obtain ⟨b1, e18, h⟩ := bind_some h
            refine WL_all hE [0, 5, 6, 24] [5] [1000005] (st' := ⟨[(0, SS s1), (5, .ptr 5 0), (6, I64 at1), (24, BB (b1 != (34 : Int)))], [(5, .cells [.selfp 5, .row 1000005] 59)], [(1000005, ⟨5, (.int .u8), t1⟩)]⟩) (orc := [tU8 b1]) (ob := [byteAt s1 at1 = some b1]) (by kernel_rfl) ⟨e18, trivial⟩ ?_
            exact hJ1 (b1 != (34 : Int)) h
          · replace h := ite_f e17 h
            refine WL_all hE [0, 5, 6, 24] [5] [1000005] (st' := ⟨[(0, SS s1), (5, .ptr 5 0), (6, I64 at1), (24, BB false)], [(5, .cells [.selfp 5, .row 1000005] 59)], [(1000005, ⟨5, (.int .u8), t1⟩)]⟩) (orc := []) (ob := []) (by kernel_rfl) trivial ?_
            exact hJ1 false h

def C_r01_worth (k : Nat) : FnC := ⟨true, 1, [], fun | [⟨(.int .u8), b1⟩], [⟨(.int .i64), rz⟩] => r01_worth k b1 = some rz | _, _ => False⟩
noncomputable def E_r01_worth (k : Nat) : Env := ⟨Tryd.prog, Gu, 24, []⟩
theorem c_r01_worth (k : Nat) : Contract Tryd.prog Gu 63 (C_r01_worth k) := by
  refine contract_of Gu_stable (fn := Tryd.f63) Tryd.func63 (by kernel_rfl) rfl ?_ ?_
  · intro xs rs h
    unfold C_r01_worth at h
    simp only at h
    split at h
    · exact ⟨by show 1 ≤ _; rw [Tryd.ntmps63]; decide, rfl, fun _ u hu => by simp at hu; (rcases hu with rfl) <;> rfl⟩
    · exact h.elim
  · intro w0 M xs rs hG h
    unfold C_r01_worth at h
    simp only at h
    split at h
    case h_2 => exact h.elim
    rename_i b1 rz
    change Int at b1
    change Int at rz
    have hE : EnvOK (E_r01_worth k) ⟨Tryd.prog, Tryd.f63.ntmps, w0, M, fun _ => False, fun _ => undef⟩ := (EnvOK.nil rfl Tryd.ntmps63 hG)
    unfold r01_worth at h
    refine W_seq ?_
    refine W_region ?_
    refine WL_all hE [0] [] [] (st' := ⟨[(0, U8 b1)], [], []⟩) (orc := []) (ob := []) (by kernel_rfl) trivial ?_
    refine N_then ?_
    refine W_seq ?_
    refine W_block ?_
    refine W_seq ?_
    refine W_region ?_
    refine WL_tk hE 3 [0, 6] [] [] (st' := ⟨[(0, U8 b1), (6, BB (decide ((48 : Int) ≤ b1)))], [], []⟩) (orc := []) (ob := []) (by kernel_rfl) trivial ?_
    refine WL_join (α := Bool) (fun z => r01_worth_j1 b1 z = some rz) (fun t1 => ⟨[(0, U8 b1), (9, BB t1)], [], []⟩) 3 ?_ (fun hJ1 => ?_)
    · rintro t1 h
      unfold r01_worth_j1 at h
      refine WL_all hE [0, 3] [] [] (st' := ⟨[(0, U8 b1), (3, BB t1)], [], []⟩) (orc := []) (ob := []) (by kernel_rfl) trivial ?_
      refine N_then ?_
      refine W_cond (b := t1) (by kernel_rfl) (fun e1 => ?_) (fun e1 => ?_)
      · replace h := ite_t e1 h
        refine W_seq ?_
        refine W_region ?_
        refine WL_all hE [2] [] [] (st' := ⟨[(2, I64 (wi64 (wu8 (b1 - (48 : Int)))))], [], []⟩) (orc := []) (ob := []) (by kernel_rfl) trivial ?_
        refine N_then ?_
        refine W_ret ?_
        refine N_block_ret ?_
        refine N_then_ret ?_
        cases h
        exact N_end (.inl rfl) (by kernel_rfl)
      · replace h := ite_f e1 h
        refine W_seq ?_
        refine W_region ?_
        refine WL_tk hE 3 [0, 16] [] [] (st' := ⟨[(0, U8 b1), (16, BB (decide ((97 : Int) ≤ b1)))], [], []⟩) (orc := []) (ob := []) (by kernel_rfl) trivial ?_
        refine WL_join (α := Bool) (fun z => r01_worth_j2 b1 z = some rz) (fun t2 => ⟨[(0, U8 b1), (19, BB t2)], [], []⟩) 3 ?_ (fun hJ2 => ?_)
        · rintro t2 h
          unfold r01_worth_j2 at h
          refine WL_all hE [0, 13] [] [] (st' := ⟨[(0, U8 b1), (13, BB t2)], [], []⟩) (orc := []) (ob := []) (by kernel_rfl) trivial ?_
          refine N_then ?_
          refine W_cond (b := t2) (by kernel_rfl) (fun e2 => ?_) (fun e2 => ?_)
          · replace h := ite_t e2 h
            refine W_seq ?_
            refine W_region ?_
            refine WL_all hE [2] [] [] (st' := ⟨[(2, I64 (wi64 ((wi64 (wu8 (b1 - (97 : Int)))) + (10 : Int))))], [], []⟩) (orc := []) (ob := []) (by kernel_rfl) trivial ?_
            refine N_then ?_
            refine W_ret ?_
            refine N_block_ret ?_
            refine N_then_ret ?_
            cases h
            exact N_end (.inl rfl) (by kernel_rfl)
          · replace h := ite_f e2 h
            refine W_skip ?_
            refine N_block ?_
            refine N_then ?_
            refine W_seq ?_
            refine W_region ?_
            refine WL_all hE [2] [] [] (st' := ⟨[(2, I64 (-1 : Int))], [], []⟩) (orc := []) (ob := []) (by kernel_rfl) trivial ?_
            refine N_then ?_
            refine W_ret ?_
            cases h
            exact N_end (.inl rfl) (by kernel_rfl)
        refine WL_split (fun g => ⟨[(0, U8 b1), (16, BB g)], [], []⟩) (b := decide ((97 : Int) ≤ b1)) (fun e3 => ?_) (fun e3 => ?_)
        · rw [and_t e3] at h
          refine WL_all hE [0, 19] [] [] (st' := ⟨[(0, U8 b1), (19, BB (decide (b1 ≤ (102 : Int))))], [], []⟩) (orc := []) (ob := []) (by kernel_rfl) trivial ?_
          exact hJ2 (decide (b1 ≤ (102 : Int))) h
        · rw [and_f e3] at h
          refine WL_all hE [0, 19] [] [] (st' := ⟨[(0, U8 b1), (19, BB false)], [], []⟩) (orc := []) (ob := []) (by kernel_rfl) trivial ?_
          exact hJ2 false h
    refine WL_split (fun g => ⟨[(0, U8 b1), (6, BB g)], [], []⟩) (b := decide ((48 : Int) ≤ b1)) (fun e4 => ?_) (fun e4 => ?_)
    · rw [and_t e4] at h
      refine WL_all hE [0, 9] [] [] (st' := ⟨[(0, U8 b1), (9, BB (decide (b1 ≤ (57 : Int))))], [], []⟩) (orc := []) (ob := []) (by kernel_rfl) trivial ?_
      exact hJ1 (decide (b1 ≤ (57 : Int))) h
    · rw [and_f e4] at h
      refine WL_all hE [0, 9] [] [] (st' := ⟨[(0, U8 b1), (9, BB false)], [], []⟩) (orc := []) (ob := []) (by kernel_rfl) trivial ?_
      exact hJ1 false h

def C_r01_one (k : Nat) : FnC := ⟨false, 1, [], fun | [⟨(.int .i32), r1⟩], [⟨(.sl (.int .u8)), rz⟩] => r01_one k r1 = some rz | _, _ => False⟩
noncomputable def E_r01_one (k : Nat) : Env := ⟨Tryd.prog, Gu, 60, [(53, C_r01_Rune k)]⟩
theorem c_r01_one (k : Nat) : Contract Tryd.prog Gu 41 (C_r01_one k) := by
  refine contract_of Gu_stable (fn := Tryd.f41) Tryd.func41 (by kernel_rfl) rfl ?_ ?_
  · intro xs rs h
    unfold C_r01_one at h
    simp only at h
    split at h
    · exact ⟨by show 1 ≤ _; rw [Tryd.ntmps41]; decide, rfl, fun hf => by cases hf⟩
    · exact h.elim
  · intro w0 M xs rs hG h
    unfold C_r01_one at h
    simp only at h
    split at h
    case h_2 => exact h.elim
    rename_i r1 rz
    change Int at r1
    change List (Int) at rz
    have hE : EnvOK (E_r01_one k) ⟨Tryd.prog, Tryd.f41.ntmps, w0, M, fun _ => False, fun _ => undef⟩ := (EnvOK.cons (c_r01_Rune k) (EnvOK.nil rfl Tryd.ntmps41 hG))
    unfold r01_one at h
    refine W_seq ?_
    refine W_region ?_
    refine WL_all hE [0] [] [] (st' := ⟨[(0, I32 r1)], [], []⟩) (orc := []) (ob := []) (by kernel_rfl) trivial ?_
    refine N_then ?_
    refine W_join (α := Int) (fun z => r01_one_j1 z = some rz) (fun r2 => ⟨[(0, I32 r2)], [], []⟩) ?_ (fun hJ1 => ?_)
    · rintro r2 h
      unfold r01_one_j1 at h
      refine W_seq ?_
      refine W_block ?_
      refine W_seq ?_
      refine W_region ?_
      refine WL_all hE [0, 6] [] [] (st' := ⟨[(0, I32 r2), (6, BB (decide (r2 < (128 : Int))))], [], []⟩) (orc := []) (ob := []) (by kernel_rfl) trivial ?_
      refine N_then ?_
      refine W_cond (b := decide (r2 < (128 : Int))) (by kernel_rfl) (fun e1 => ?_) (fun e1 => ?_)
      · replace h := ite_t e1 h
        refine W_seq ?_
        refine W_region ?_
        refine WL_all hE [2] [] [11] (st' := ⟨[(2, .row 11)], [], [(11, ⟨5, (.int .u8), ([wu8 r2] : List (Int))⟩)]⟩) (orc := []) (ob := []) (by kernel_rfl) trivial ?_
        refine N_then ?_
        refine W_ret ?_
        refine N_block_ret ?_
        refine N_then_ret ?_
        cases h
        exact N_end (.inl rfl) (by kernel_rfl)
      · replace h := ite_f e1 h
        refine W_seq ?_
        refine W_region ?_
        refine WL_all hE [0, 12] [] [] (st' := ⟨[(0, I32 r2), (12, BB (decide (r2 < (2048 : Int))))], [], []⟩) (orc := []) (ob := []) (by kernel_rfl) trivial ?_
        refine N_then ?_
        refine W_cond (b := decide (r2 < (2048 : Int))) (by kernel_rfl) (fun e2 => ?_) (fun e2 => ?_)
        · replace h := ite_t e2 h
          refine W_seq ?_
          refine W_region ?_
          obtain ⟨_, e3, h⟩ := bind_some h
          replace e3 := chk_some e3
          obtain ⟨_, e4, h⟩ := bind_some h
          replace e4 := chk_some e4
          refine WL_all hE [2] [] [23] (st' := ⟨[(2, .row 23)], [], [(23, ⟨5, (.int .u8), ([wu8 (wi32 ((192 : Int) + (wi32 (Int.tdiv r2 (64 : Int))))), wu8 (wi32 ((128 : Int) + (Int.tmod r2 (64 : Int))))] : List (Int))⟩)]⟩) (orc := []) (ob := [(64 : Int) ≠ 0, (64 : Int) ≠ 0]) (by kernel_rfl) ⟨e3, e4, trivial⟩ ?_
          refine N_then ?_
          refine W_ret ?_
          refine N_block_ret ?_
          refine N_then_ret ?_
          cases h
          exact N_end (.inl rfl) (by kernel_rfl)
        · replace h := ite_f e2 h
          refine W_seq ?_
          refine W_region ?_
          refine WL_all hE [0, 24] [] [] (st' := ⟨[(0, I32 r2), (24, BB (decide (r2 < (65536 : Int))))], [], []⟩) (orc := []) (ob := []) (by kernel_rfl) trivial ?_
          refine N_then ?_
          refine W_cond (b := decide (r2 < (65536 : Int))) (by kernel_rfl) (fun e5 => ?_) (fun e5 => ?_)
          · replace h := ite_t e5 h
            refine W_seq ?_
            refine W_region ?_
            obtain ⟨_, e6, h⟩ := bind_some h
            replace e6 := chk_some e6
            obtain ⟨_, e7, h⟩ := bind_some h
            replace e7 := chk_some e7
            obtain ⟨_, e8, h⟩ := bind_some h
            replace e8 := chk_some e8
            obtain ⟨_, e9, h⟩ := bind_some h
            replace e9 := chk_some e9
            refine WL_all hE [2] [] [40] (st' := ⟨[(2, .row 40)], [], [(40, ⟨5, (.int .u8), ([wu8 (wi32 ((224 : Int) + (wi32 (Int.tdiv r2 (4096 : Int))))), wu8 (wi32 ((128 : Int) + (Int.tmod (wi32 (Int.tdiv r2 (64 : Int))) (64 : Int)))), wu8 (wi32 ((128 : Int) + (Int.tmod r2 (64 : Int))))] : List (Int))⟩)]⟩) (orc := []) (ob := [(4096 : Int) ≠ 0, (64 : Int) ≠ 0, (64 : Int) ≠ 0, (64 : Int) ≠ 0]) (by kernel_rfl) ⟨e6, e7, e8, e9, trivial⟩ ?_
            refine N_then ?_
            refine W_ret ?_
            refine N_block_ret ?_
            refine N_then_ret ?_
            cases h
            exact N_end (.inl rfl) (by kernel_rfl)
          · replace h := ite_f e5 h
            refine W_skip ?_
            refine N_block ?_
            refine N_then ?_
            refine W_seq ?_
            refine W_region ?_
            obtain ⟨_, e10, h⟩ := bind_some h
            replace e10 := chk_some e10
            obtain ⟨_, e11, h⟩ := bind_some h
            replace e11 := chk_some e11
            obtain ⟨_, e12, h⟩ := bind_some h
            replace e12 := chk_some e12
            obtain ⟨_, e13, h⟩ := bind_some h
            replace e13 := chk_some e13
            obtain ⟨_, e14, h⟩ := bind_some h
            replace e14 := chk_some e14
            obtain ⟨_, e15, h⟩ := bind_some h
            replace e15 := chk_some e15
            refine WL_all hE [2] [] [59] (st' := ⟨[(2, .row 59)], [], [(59, ⟨5, (.int .u8), ([wu8 (wi32 ((240 : Int) + (wi32 (Int.tdiv r2 (262144 : Int))))), wu8 (wi32 ((128 : Int) + (Int.tmod (wi32 (Int.tdiv r2 (4096 : Int))) (64 : Int)))), wu8 (wi32 ((128 : Int) + (Int.tmod (wi32 (Int.tdiv r2 (64 : Int))) (64 : Int)))), wu8 (wi32 ((128 : Int) + (Int.tmod r2 (64 : Int))))] : List (Int))⟩)]⟩) (orc := []) (ob := [(262144 : Int) ≠ 0, (4096 : Int) ≠ 0, (64 : Int) ≠ 0, (64 : Int) ≠ 0, (64 : Int) ≠ 0, (64 : Int) ≠ 0]) (by kernel_rfl) ⟨e10, e11, e12, e13, e14, e15, trivial⟩ ?_
            refine N_then ?_
            refine W_ret ?_
            cases h
            exact N_end (.inl rfl) (by kernel_rfl)
    refine W_seq ?_
    refine W_region ?_
    obtain ⟨v1, e16, h⟩ := bind_some h
    refine WL_all hE [0, 5] [] [] (st' := ⟨[(0, I32 r1), (5, BB (!v1))], [], []⟩) (orc := [tB v1]) (ob := [r01_Rune k r1 = some v1]) (by kernel_rfl) ⟨e16, trivial⟩ ?_
    refine N_then ?_
    refine W_cond (b := !v1) (by kernel_rfl) (fun e17 => ?_) (fun e17 => ?_)
    · replace h := ite_t e17 h
      refine W_region ?_
      refine WL_all hE [0] [] [] (st' := ⟨[(0, I32 (65533 : Int))], [], []⟩) (orc := []) (ob := []) (by kernel_rfl) trivial ?_
      exact hJ1 (65533 : Int) h
    · replace h := ite_f e17 h
      refine W_skip ?_
      refine N.norm (st' := ⟨[(0, I32 r1)], [], []⟩) (ks := [0]) (bs := []) (rs := []) ?_ (by kernel_rfl)
      exact hJ1 r1 h

def C_r01_thing (k : Nat) : FnC := ⟨false, 2, [], fun | [⟨.str, s1⟩, ⟨(.int .i64), at1⟩], [⟨(.sl (.int .u8)), rz1⟩, ⟨(.int .i64), rz2⟩] => r01_thing k s1 at1 = some (rz1, rz2) | _, _ => False⟩
noncomputable def E_r01_thing (k : Nat) : Env := ⟨Tryd.prog, Gu, 161, [(63, C_r01_worth k), (41, C_r01_one k), (64, C_r01_number k), (53, C_r01_Rune k)]⟩
theorem c_r01_thing (k : Nat) : Contract Tryd.prog Gu 50 (C_r01_thing k) := by
  refine contract_of Gu_stable (fn := Tryd.f50) Tryd.func50 (by kernel_rfl) rfl ?_ ?_
  · intro xs rs h
    unfold C_r01_thing at h
    simp only at h
    split at h
    · exact ⟨by show 2 ≤ _; rw [Tryd.ntmps50]; decide, rfl, fun hf => by cases hf⟩
    · exact h.elim
  · intro w0 M xs rs hG h
    unfold C_r01_thing at h
    simp only at h
    split at h
    case h_2 => exact h.elim
    rename_i s1 at1 rz1 rz2
    change List UInt8 at s1
    change Int at at1
    change List (Int) at rz1
    change Int at rz2
    have hE : EnvOK (E_r01_thing k) ⟨Tryd.prog, Tryd.f50.ntmps, w0, M, fun _ => False, fun _ => undef⟩ := (EnvOK.cons (c_r01_worth k) (EnvOK.cons (c_r01_one k) (EnvOK.cons (c_r01_number k) (EnvOK.cons (c_r01_Rune k) (EnvOK.nil rfl Tryd.ntmps50 hG)))))
    unfold r01_thing at h
    refine W_seq ?_
    refine W_region ?_
    refine WL_all hE [0, 1] [] [] (st' := ⟨[(0, SS s1), (1, I64 at1)], [], []⟩) (orc := []) (ob := []) (by kernel_rfl) trivial ?_
    refine N_then ?_
    refine W_seq ?_
    refine W_region ?_
    obtain ⟨b1, e1, h⟩ := bind_some h
    refine WL_all hE [0, 1, 6] [] [] (st' := ⟨[(0, SS s1), (1, I64 at1), (6, U8 b1)], [], []⟩) (orc := [tU8 b1]) (ob := [byteAt s1 at1 = some b1]) (by kernel_rfl) ⟨e1, trivial⟩ ?_
    refine N_then ?_
    refine W_seq ?_
    refine W_seq ?_
    refine W_region ?_
    refine WL_all hE [0, 1, 6, 13] [] [] (st' := ⟨[(0, SS s1), (1, I64 at1), (6, U8 b1), (13, BB (b1 != (92 : Int)))], [], []⟩) (orc := []) (ob := []) (by kernel_rfl) trivial ?_
    refine N_then ?_
    refine W_cond (b := b1 != (92 : Int)) (by kernel_rfl) (fun e2 => ?_) (fun e2 => ?_)
    · replace h := ite_t e2 h
      refine W_seq ?_
      refine W_seq ?_
      refine W_region ?_
      refine WL_tk hE 3 [6, 16] [] [] (st' := ⟨[(6, U8 b1), (16, BB (decide ((32 : Int) ≤ b1)))], [], []⟩) (orc := []) (ob := []) (by kernel_rfl) trivial ?_
      refine WL_join (α := Bool) (fun z => r01_thing_j1 b1 z = some (rz1, rz2)) (fun t1 => ⟨[(6, U8 b1), (19, BB t1)], [], []⟩) 3 ?_ (fun hJ1 => ?_)
      · rintro t1 h
        unfold r01_thing_j1 at h
        refine WL_tk hE 1 [6, 20] [] [] (st' := ⟨[(6, U8 b1), (20, BB t1)], [], []⟩) (orc := []) (ob := []) (by kernel_rfl) trivial ?_
        refine WL_join (α := Bool) (fun z => r01_thing_j2 b1 z = some (rz1, rz2)) (fun t2 => ⟨[(6, U8 b1), (23, BB t2)], [], []⟩) 3 ?_ (fun hJ2 => ?_)
        · rintro t2 h
          unfold r01_thing_j2 at h
          refine WL_nil ?_
          refine N_then ?_
          refine W_cond (b := t2) (by kernel_rfl) (fun e3 => ?_) (fun e3 => ?_)
          · replace h := ite_t e3 h
            refine W_seq ?_
            refine W_region ?_
            refine WL_all hE [4, 5] [] [25] (st' := ⟨[(4, .row 25), (5, I64 (1 : Int))], [], [(25, ⟨5, (.int .u8), ([b1] : List (Int))⟩)]⟩) (orc := []) (ob := []) (by kernel_rfl) trivial ?_
            refine N_then ?_
            refine W_ret ?_
            refine N_then_ret ?_
            refine N_then_ret ?_
            cases h
            exact N_end (.inl rfl) (by kernel_rfl)
          · replace h := ite_f e3 h
            refine W_skip ?_
            refine N_then ?_
            refine W_seq ?_
            refine W_region ?_
            refine WL_all hE [4, 5] [] [4] (st' := ⟨[(4, .row 4), (5, I64 (0 : Int))], [], [(4, ⟨5, (.int .u8), ([] : List (Int))⟩)]⟩) (orc := []) (ob := []) (by kernel_rfl) trivial ?_
            refine N_then ?_
            refine W_ret ?_
            refine N_then_ret ?_
            cases h
            exact N_end (.inl rfl) (by kernel_rfl)
        refine WL_split (fun g => ⟨[(6, U8 b1), (20, BB g)], [], []⟩) (b := t1) (fun e4 => ?_) (fun e4 => ?_)
        · rw [and_t e4] at h
          refine WL_all hE [6, 23] [] [] (st' := ⟨[(6, U8 b1), (23, BB (b1 != (34 : Int)))], [], []⟩) (orc := []) (ob := []) (by kernel_rfl) trivial ?_
          exact hJ2 (b1 != (34 : Int)) h
        · rw [and_f e4] at h
          refine WL_all hE [6, 23] [] [] (st' := ⟨[(6, U8 b1), (23, BB false)], [], []⟩) (orc := []) (ob := []) (by kernel_rfl) trivial ?_
          exact hJ2 false h
      refine WL_split (fun g => ⟨[(6, U8 b1), (16, BB g)], [], []⟩) (b := decide ((32 : Int) ≤ b1)) (fun e5 => ?_) (fun e5 => ?_)
      · rw [and_t e5] at h
        refine WL_all hE [6, 19] [] [] (st' := ⟨[(6, U8 b1), (19, BB (decide (b1 ≤ (126 : Int))))], [], []⟩) (orc := []) (ob := []) (by kernel_rfl) trivial ?_
        exact hJ1 (decide (b1 ≤ (126 : Int))) h
      · rw [and_f e5] at h
        refine WL_all hE [6, 19] [] [] (st' := ⟨[(6, U8 b1), (19, BB false)], [], []⟩) (orc := []) (ob := []) (by kernel_rfl) trivial ?_
        exact hJ1 false h
    · replace h := ite_f e2 h
      refine W_skip ?_
      refine N_then ?_
      refine W_seq ?_
      refine W_seq ?_
      refine W_region ?_
      refine WL_all hE [0, 1, 30] [] [] (st' := ⟨[(0, SS s1), (1, I64 at1), (30, BB (decide ((List.length s1 : Int) ≤ (wi64 (at1 + (1 : Int))))))], [], []⟩) (orc := []) (ob := []) (by kernel_rfl) trivial ?_
      refine N_then ?_
      refine W_cond (b := decide ((List.length s1 : Int) ≤ (wi64 (at1 + (1 : Int))))) (by kernel_rfl) (fun e6 => ?_) (fun e6 => ?_)
      · replace h := ite_t e6 h
        refine W_seq ?_
        refine W_region ?_
        refine WL_all hE [4, 5] [] [4] (st' := ⟨[(4, .row 4), (5, I64 (0 : Int))], [], [(4, ⟨5, (.int .u8), ([] : List (Int))⟩)]⟩) (orc := []) (ob := []) (by kernel_rfl) trivial ?_
        refine N_then ?_
        refine W_ret ?_
        refine N_then_ret ?_
        cases h
        exact N_end (.inl rfl) (by kernel_rfl)
      · replace h := ite_f e6 h
        refine W_skip ?_
        refine N_then ?_
        refine W_join (α := Unit) (fun _ => r01_thing_j3 = some (rz1, rz2)) (fun _ => ⟨[], [], []⟩) ?_ (fun hJ3 => ?_)
        · rintro _ h
          unfold r01_thing_j3 at h
          refine W_seq ?_
          refine W_region ?_
          refine WL_all hE [4, 5] [] [4] (st' := ⟨[(4, .row 4), (5, I64 (0 : Int))], [], [(4, ⟨5, (.int .u8), ([] : List (Int))⟩)]⟩) (orc := []) (ob := []) (by kernel_rfl) trivial ?_
          refine N_then ?_
          refine W_ret ?_
          cases h
          exact N_end (.inl rfl) (by kernel_rfl)
        refine W_seq ?_
        refine W_region ?_
        obtain ⟨b2, e7, h⟩ := bind_some h
        refine WL_all hE [0, 1, 34] [] [] (st' := ⟨[(0, SS s1), (1, I64 at1), (34, U8 b2)], [], []⟩) (orc := [tU8 b2]) (ob := [byteAt s1 (wi64 (at1 + (1 : Int))) = some b2]) (by kernel_rfl) ⟨e7, trivial⟩ ?_
        refine N_then ?_
        refine W_block ?_
        refine W_join (α := Bool) (fun z => r01_thing_j4 k s1 at1 b2 z = some (rz1, rz2)) (fun t3 => ⟨[(0, SS s1), (1, I64 at1), (34, U8 b2), (35, BB t3)], [], []⟩) ?_ (fun hJ15 => ?_)
        · rintro t3 h
          unfold r01_thing_j4 at h
          refine W_cond (b := t3) (by kernel_rfl) (fun e8 => ?_) (fun e8 => ?_)
          · replace h := ite_t e8 h
            refine W_seq ?_
            refine W_region ?_
            obtain ⟨b3, e9, h⟩ := bind_some h
            refine WL_all hE [4, 5] [] [42] (st' := ⟨[(4, .row 42), (5, I64 (2 : Int))], [], [(42, ⟨5, (.int .u8), ([b3] : List (Int))⟩)]⟩) (orc := [tU8 b3]) (ob := [byteAt s1 (wi64 (at1 + (1 : Int))) = some b3]) (by kernel_rfl) ⟨e9, trivial⟩ ?_
            refine N_then ?_
            refine W_ret ?_
            refine N_block_ret ?_
            refine N_then_ret ?_
            cases h
            exact N_end (.inl rfl) (by kernel_rfl)
          · replace h := ite_f e8 h
            refine W_seq ?_
            refine W_region ?_
            refine WL_all hE [0, 1, 34, 43] [] [] (st' := ⟨[(0, SS s1), (1, I64 at1), (34, U8 b2), (43, BB (b2 == (120 : Int)))], [], []⟩) (orc := []) (ob := []) (by kernel_rfl) trivial ?_
            refine N_then ?_
            refine W_cond (b := b2 == (120 : Int)) (by kernel_rfl) (fun e10 => ?_) (fun e10 => ?_)
            · replace h := ite_t e10 h
              refine W_seq ?_
              refine W_region ?_
              refine WL_tk hE 6 [0, 1, 50] [] [] (st' := ⟨[(0, SS s1), (1, I64 at1), (50, BB (decide ((wi64 (at1 + (3 : Int))) < (List.length s1 : Int))))], [], []⟩) (orc := []) (ob := []) (by kernel_rfl) trivial ?_
              refine WL_join (α := Bool) (fun z => r01_thing_j5 k s1 at1 z = some (rz1, rz2)) (fun t4 => ⟨[(0, SS s1), (1, I64 at1), (57, BB t4)], [], []⟩) 7 ?_ (fun hJ5 => ?_)
              · rintro t4 h
                unfold r01_thing_j5 at h
                refine WL_tk hE 1 [0, 1, 58] [] [] (st' := ⟨[(0, SS s1), (1, I64 at1), (58, BB t4)], [], []⟩) (orc := []) (ob := []) (by kernel_rfl) trivial ?_
                refine WL_join (α := Bool) (fun z => r01_thing_j6 k s1 at1 z = some (rz1, rz2)) (fun t5 => ⟨[(0, SS s1), (1, I64 at1), (65, BB t5)], [], []⟩) 7 ?_ (fun hJ6 => ?_)
                · rintro t5 h
                  unfold r01_thing_j6 at h
                  refine WL_nil ?_
                  refine N_then ?_
                  refine W_cond (b := t5) (by kernel_rfl) (fun e11 => ?_) (fun e11 => ?_)
                  · replace h := ite_t e11 h
                    refine W_seq ?_
                    obtain ⟨b4, e12, h⟩ := bind_some h
                    obtain ⟨v1, e13, h⟩ := bind_some h
                    obtain ⟨b5, e14, h⟩ := bind_some h
                    obtain ⟨v2, e15, h⟩ := bind_some h
                    refine W_tailQ hE 13 [78] [] [] (by kernel_rfl) (by kernel_rfl) (st' := ⟨[(78, U8 (wu8 (wi64 ((wi64 ((16 : Int) * v1)) + v2))))], [], []⟩) (orc := [tU8 b4, tI64 v1, tU8 b5, tI64 v2]) (ob := [byteAt s1 (wi64 (at1 + (2 : Int))) = some b4, r01_worth k b4 = some v1, byteAt s1 (wi64 (at1 + (3 : Int))) = some b5, r01_worth k b5 = some v2]) (by kernel_rfl) ⟨e12, e13, e14, e15, trivial⟩ ?_
                    refine WL_all hE [4, 5] [] [79] (st' := ⟨[(4, .row 79), (5, I64 (4 : Int))], [], [(79, ⟨5, (.int .u8), ([wu8 (wi64 ((wi64 ((16 : Int) * v1)) + v2))] : List (Int))⟩)]⟩) (orc := []) (ob := []) (by kernel_rfl) trivial ?_
                    refine N_then ?_
                    refine W_ret ?_
                    refine N_block_ret ?_
                    refine N_then_ret ?_
                    cases h
                    exact N_end (.inl rfl) (by kernel_rfl)
                  · replace h := ite_f e11 h
                    refine W_skip ?_
                    refine N_block ?_
                    refine N.norm (st' := ⟨[], [], []⟩) (ks := []) (bs := []) (rs := []) ?_ (by kernel_rfl)
                    exact hJ3 () h
                refine WL_split (fun g => ⟨[(0, SS s1), (1, I64 at1), (58, BB g)], [], []⟩) (b := t4) (fun e16 => ?_) (fun e16 => ?_)
                · replace h := ite_t e16 h
                  obtain ⟨b6, e17, h⟩ := bind_some h
                  obtain ⟨v3, e18, h⟩ := bind_some h
                  refine WL_all hE [0, 1, 65] [] [] (st' := ⟨[(0, SS s1), (1, I64 at1), (65, BB (decide ((0 : Int) ≤ v3)))], [], []⟩) (orc := [tU8 b6, tI64 v3]) (ob := [byteAt s1 (wi64 (at1 + (3 : Int))) = some b6, r01_worth k b6 = some v3]) (by kernel_rfl) ⟨e17, e18, trivial⟩ ?_
                  exact hJ6 (decide ((0 : Int) ≤ v3)) h
                · replace h := ite_f e16 h
                  refine WL_all hE [0, 1, 65] [] [] (st' := ⟨[(0, SS s1), (1, I64 at1), (65, BB false)], [], []⟩) (orc := []) (ob := []) (by kernel_rfl) trivial ?_
                  exact hJ6 false h
              refine WL_split (fun g => ⟨[(0, SS s1), (1, I64 at1), (50, BB g)], [], []⟩) (b := decide ((wi64 (at1 + (3 : Int))) < (List.length s1 : Int))) (fun e19 => ?_) (fun e19 => ?_)
              · replace h := ite_t e19 h
                obtain ⟨b7, e20, h⟩ := bind_some h
                obtain ⟨v4, e21, h⟩ := bind_some h
                refine WL_all hE [0, 1, 57] [] [] (st' := ⟨[(0, SS s1), (1, I64 at1), (57, BB (decide ((8 : Int) ≤ v4)))], [], []⟩) (orc := [tU8 b7, tI64 v4]) (ob := [byteAt s1 (wi64 (at1 + (2 : Int))) = some b7, r01_worth k b7 = some v4]) (by kernel_rfl) ⟨e20, e21, trivial⟩ ?_
                exact hJ5 (decide ((8 : Int) ≤ v4)) h
              · replace h := ite_f e19 h
                refine WL_all hE [0, 1, 57] [] [] (st' := ⟨[(0, SS s1), (1, I64 at1), (57, BB false)], [], []⟩) (orc := []) (ob := []) (by kernel_rfl) trivial ?_
                exact hJ5 false h
            · replace h := ite_f e10 h
              refine W_seq ?_
              refine W_region ?_
              refine WL_all hE [0, 1, 80] [] [] (st' := ⟨[(0, SS s1), (1, I64 at1), (80, BB (b2 == (117 : Int)))], [], []⟩) (orc := []) (ob := []) (by kernel_rfl) trivial ?_
              refine N_then ?_
              refine W_cond (b := b2 == (117 : Int)) (by kernel_rfl) (fun e22 => ?_) (fun e22 => ?_)
              · replace h := ite_t e22 h
                refine W_seq ?_
                refine W_region ?_
                refine WL_all hE [0, 1, 7] [] [] (st' := ⟨[(0, SS s1), (1, I64 at1), (7, I64 (wi64 (at1 + (2 : Int))))], [], []⟩) (orc := []) (ob := []) (by kernel_rfl) trivial ?_
                refine N_then ?_
                refine W_seq ?_
                refine W_region ?_
                refine WL_all hE [0, 1, 7, 8] [] [] (st' := ⟨[(0, SS s1), (1, I64 at1), (7, I64 (wi64 (at1 + (2 : Int)))), (8, I64 (0 : Int))], [], []⟩) (orc := []) (ob := []) (by kernel_rfl) trivial ?_
                refine N_then ?_
                refine W_seq ?_
                refine W_block ?_
                refine W_loop (α := (Int × Int)) (fun n z => r01_thing_l1 k s1 at1 n z.1 z.2 = some (rz1, rz2)) (fun z => ⟨[(0, SS s1), (1, I64 at1), (7, I64 (z.1)), (8, I64 (z.2))], [], []⟩) ?_ (k := k) (x := (wi64 (at1 + (2 : Int)), (0 : Int))) h
                clear h
                rintro fuel1 ⟨k1, r1⟩ h
                cases fuel1 with
                | zero => exact absurd (show none = some _ from h) (by simp)
                | succ fuel1 =>
                  have h : r01_thing_b1 k s1 at1 (r01_thing_l1 k s1 at1 fuel1) k1 r1 = some (rz1, rz2) := h
                  unfold r01_thing_b1 at h
                  refine W_seq ?_
                  refine W_seq ?_
                  refine W_region ?_
                  refine WL_tk hE 5 [0, 1, 7, 8, 88] [] [] (st' := ⟨[(0, SS s1), (1, I64 at1), (7, I64 k1), (8, I64 r1), (88, BB (decide (k1 < (List.length s1 : Int))))], [], []⟩) (orc := []) (ob := []) (by kernel_rfl) trivial ?_
                  refine WL_join (α := Bool) (fun z => r01_thing_j7 k s1 k1 (r01_thing_l1 k s1 at1 fuel1) r1 at1 z = some (rz1, rz2)) (fun t6 => ⟨[(0, SS s1), (1, I64 at1), (7, I64 k1), (8, I64 r1), (94, BB t6)], [], []⟩) 6 ?_ (fun hJ7 => ?_)
                  · rintro t6 h
                    unfold r01_thing_j7 at h
                    refine WL_tk hE 1 [0, 1, 7, 8, 95] [] [] (st' := ⟨[(0, SS s1), (1, I64 at1), (7, I64 k1), (8, I64 r1), (95, BB t6)], [], []⟩) (orc := []) (ob := []) (by kernel_rfl) trivial ?_
                    refine WL_join (α := Bool) (fun z => r01_thing_j8 k s1 k1 (r01_thing_l1 k s1 at1 fuel1) r1 at1 z = some (rz1, rz2)) (fun t7 => ⟨[(0, SS s1), (1, I64 at1), (7, I64 k1), (8, I64 r1), (100, BB t7)], [], []⟩) 5 ?_ (fun hJ8 => ?_)
                    · rintro t7 h
                      unfold r01_thing_j8 at h
                      refine WL_nil ?_
                      refine N_then ?_
                      refine W_cond (b := t7) (by kernel_rfl) (fun e23 => ?_) (fun e23 => ?_)
                      · replace h := ite_t e23 h
                        refine W_skip ?_
                        refine N_then ?_
                        refine W_block ?_
                        refine W_seq ?_
                        refine W_region ?_
                        obtain ⟨b8, e24, h⟩ := bind_some h
                        obtain ⟨v5, e25, h⟩ := bind_some h
                        refine WL_all hE [0, 1, 7, 8] [] [] (st' := ⟨[(0, SS s1), (1, I64 at1), (7, I64 k1), (8, I64 (wi64 ((wi64 ((16 : Int) * r1)) + v5)))], [], []⟩) (orc := [tU8 b8, tI64 v5]) (ob := [byteAt s1 k1 = some b8, r01_worth k b8 = some v5]) (by kernel_rfl) ⟨e24, e25, trivial⟩ ?_
                        refine N_then ?_
                        refine W_region ?_
                        refine WL_all hE [0, 1, 7, 8] [] [] (st' := ⟨[(0, SS s1), (1, I64 at1), (7, I64 (wi64 (k1 + (1 : Int)))), (8, I64 (wi64 ((wi64 ((16 : Int) * r1)) + v5)))], [], []⟩) (orc := []) (ob := []) (by kernel_rfl) trivial ?_
                        refine N_block ?_
                        exact N_round (wi64 (k1 + (1 : Int)), wi64 ((wi64 ((16 : Int) * r1)) + v5)) (Nat.lt_succ_self _) h
                      · replace h := ite_f e23 h
                        refine W_exit ?_
                        refine N_then_exit ?_
                        refine N_then_exit ?_
                        refine N_block_exit ?_
                        refine N_then ?_
                        refine W_seq ?_
                        refine W_seq ?_
                        refine W_draw (by kernel_rfl) (by kernel_rfl) ?_
                        refine WD_tk hE 5 [0, 1, 7, 8, 114] [] [] (st' := ⟨[(0, SS s1), (1, I64 at1), (7, I64 k1), (8, I64 r1), (114, BB (k1 == (wi64 (at1 + (2 : Int)))))], [], []⟩) (orc := []) (ob := []) (by kernel_rfl) trivial ?_
                        refine WD_join (α := Bool) (fun z => r01_thing_j9 k r1 k1 at1 s1 z = some (rz1, rz2)) (fun t8 => ⟨[(0, SS s1), (1, I64 at1), (7, I64 k1), (8, I64 r1), (119, BB t8)], [], []⟩) 5 ?_ (fun KK hJ9 => ?_)
                        · rintro t8 h
                          unfold r01_thing_j9 at h
                          refine WD_tk hE 1 [0, 1, 7, 8, 120] [] [] (st' := ⟨[(0, SS s1), (1, I64 at1), (7, I64 k1), (8, I64 r1), (120, BB t8)], [], []⟩) (orc := []) (ob := []) (by kernel_rfl) trivial ?_
                          refine WD_join (α := Bool) (fun z => r01_thing_j10 k r1 k1 at1 s1 z = some (rz1, rz2)) (fun t9 => ⟨[(0, SS s1), (1, I64 at1), (7, I64 k1), (8, I64 r1), (125, BB t9)], [], []⟩) 5 ?_ (fun KK hJ10 => ?_)
                          · rintro t9 h
                            unfold r01_thing_j10 at h
                            refine WD_tk hE 1 [0, 1, 7, 8, 126] [] [] (st' := ⟨[(0, SS s1), (1, I64 at1), (7, I64 k1), (8, I64 r1), (126, BB t9)], [], []⟩) (orc := []) (ob := []) (by kernel_rfl) trivial ?_
                            refine WD_join (α := Bool) (fun z => r01_thing_j11 k r1 k1 at1 s1 z = some (rz1, rz2)) (fun t10 => ⟨[(0, SS s1), (1, I64 at1), (7, I64 k1), (8, I64 r1), (129, BB t10)], [], []⟩) 3 ?_ (fun KK hJ11 => ?_)
                            · rintro t10 h
                              unfold r01_thing_j11 at h
                              refine WD_tk hE 1 [0, 1, 7, 8, 130] [] [] (st' := ⟨[(0, SS s1), (1, I64 at1), (7, I64 k1), (8, I64 r1), (130, BB t10)], [], []⟩) (orc := []) (ob := []) (by kernel_rfl) trivial ?_
                              refine WD_join (α := Bool) (fun z => r01_thing_j12 k r1 k1 at1 s1 z = some (rz1, rz2)) (fun t11 => ⟨[(0, SS s1), (1, I64 at1), (7, I64 k1), (8, I64 r1), (135, BB t11)], [], []⟩) 5 ?_ (fun KK hJ12 => ?_)
                              · rintro t11 h
                                unfold r01_thing_j12 at h
                                refine WD_tk hE 1 [0, 1, 7, 8, 136] [] [] (st' := ⟨[(0, SS s1), (1, I64 at1), (7, I64 k1), (8, I64 r1), (136, BB t11)], [], []⟩) (orc := []) (ob := []) (by kernel_rfl) trivial ?_
                                refine WD_join (α := Bool) (fun z => r01_thing_j13 k r1 k1 at1 z = some (rz1, rz2)) (fun t12 => ⟨[(1, I64 at1), (7, I64 k1), (8, I64 r1), (145, BB t12)], [], []⟩) 9 ?_ (fun KK hJ13 => ?_)
                                · rintro t12 h
                                  unfold r01_thing_j13 at h
                                  refine WD_tk hE 1 [1, 7, 8, 146] [] [] (st' := ⟨[(1, I64 at1), (7, I64 k1), (8, I64 r1), (146, BB t12)], [], []⟩) (orc := []) (ob := []) (by kernel_rfl) trivial ?_
                                  refine WD_join (α := Bool) (fun z => r01_thing_j14 k r1 k1 at1 z = some (rz1, rz2)) (fun t13 => ⟨[(1, I64 at1), (7, I64 k1), (8, I64 r1), (153, BB t13)], [], []⟩) 7 ?_ (fun KK hJ14 => ?_)
                                  · rintro t13 h
                                    unfold r01_thing_j14 at h
                                    refine WD_nil ?_
                                    refine N_then ?_
                                    refine W_cond (b := t13) (by kernel_rfl) (fun e26 => ?_) (fun e26 => ?_)
                                    · replace h := ite_t e26 h
                                      refine W_seq ?_
                                      refine W_region ?_
                                      refine WL_all hE [4, 5] [] [4] (st' := ⟨[(4, .row 4), (5, I64 (0 : Int))], [], [(4, ⟨5, (.int .u8), ([] : List (Int))⟩)]⟩) (orc := []) (ob := []) (by kernel_rfl) trivial ?_
                                      refine N_then ?_
                                      refine W_ret ?_
                                      refine N_then_ret ?_
                                      refine N_block_ret ?_
                                      refine N_then_ret ?_
                                      cases h
                                      exact N_end (.inl rfl) (by kernel_rfl)
                                    · replace h := ite_f e26 h
                                      refine W_skip ?_
                                      refine N_then ?_
                                      refine W_seq ?_
                                      refine W_region ?_
                                      obtain ⟨v6, e27, h⟩ := bind_some h
                                      refine WL_all hE [4, 5] [] [] (st' := ⟨[(4, .val (.sl (.int .u8)) v6), (5, I64 (wi64 ((wi64 (k1 + (1 : Int))) - at1)))], [], []⟩) (orc := [⟨(.sl (.int .u8)), v6⟩]) (ob := [r01_one k (wi32 r1) = some v6]) (by kernel_rfl) ⟨e27, trivial⟩ ?_
                                      refine N_then ?_
                                      refine W_ret ?_
                                      refine N_block_ret ?_
                                      refine N_then_ret ?_
                                      cases h
                                      exact N_end (.inl rfl) (by kernel_rfl)
                                  refine WDK_split (fun g => ⟨[(1, I64 at1), (7, I64 k1), (8, I64 r1), (146, BB g)], [], []⟩) (b := t12) (fun e28 => ?_) (fun e28 => ?_)
                                  · replace h := ite_t e28 h
                                    refine WDK_all hE [1, 7, 8, 153] [] [] (st' := ⟨[(1, I64 at1), (7, I64 k1), (8, I64 r1), (153, BB true)], [], []⟩) (orc := []) (ob := []) (by kernel_rfl) trivial ?_
                                    exact hJ14 true h
                                  · replace h := ite_f e28 h
                                    refine WDK_tk hE 3 [1, 7, 8, 146, 149] [] [] (st' := ⟨[(1, I64 at1), (7, I64 k1), (8, I64 r1), (146, BB false), (149, BB (decide ((32 : Int) ≤ r1)))], [], []⟩) (orc := []) (ob := []) (by kernel_rfl) trivial ?_
                                    refine WDK_join (α := Bool) (fun z => r01_thing_j15 k r1 k1 at1 z = some (rz1, rz2)) (fun t14 => ⟨[(1, I64 at1), (7, I64 k1), (8, I64 r1), (146, BB false), (152, BB t14)], [], []⟩) 3 ?_ (fun KK hJ15 => ?_)
                                    · rintro t14 h
                                      unfold r01_thing_j15 at h
                                      refine WDK_all hE [1, 7, 8, 153] [] [] (st' := ⟨[(1, I64 at1), (7, I64 k1), (8, I64 r1), (153, BB t14)], [], []⟩) (orc := []) (ob := []) (by kernel_rfl) trivial ?_
                                      exact hJ14 t14 h
                                    refine WDK_split (fun g => ⟨[(1, I64 at1), (7, I64 k1), (8, I64 r1), (146, BB false), (149, BB g)], [], []⟩) (b := decide ((32 : Int) ≤ r1)) (fun e29 => ?_) (fun e29 => ?_)
                                    · rw [and_t e29] at h
                                      refine WDK_all hE [1, 7, 8, 146, 152] [] [] (st' := ⟨[(1, I64 at1), (7, I64 k1), (8, I64 r1), (146, BB false), (152, BB (decide (r1 ≤ (126 : Int))))], [], []⟩) (orc := []) (ob := []) (by kernel_rfl) trivial ?_
                                      exact hJ15 (decide (r1 ≤ (126 : Int))) h
                                    · rw [and_f e29] at h
                                      refine WDK_all hE [1, 7, 8, 146, 152] [] [] (st' := ⟨[(1, I64 at1), (7, I64 k1), (8, I64 r1), (146, BB false), (152, BB false)], [], []⟩) (orc := []) (ob := []) (by kernel_rfl) trivial ?_
                                      exact hJ15 false h
                                refine WDK_split (fun g => ⟨[(0, SS s1), (1, I64 at1), (7, I64 k1), (8, I64 r1), (136, BB g)], [], []⟩) (b := t11) (fun e30 => ?_) (fun e30 => ?_)
                                · replace h := ite_t e30 h
                                  refine WDK_all hE [1, 7, 8, 145] [] [] (st' := ⟨[(1, I64 at1), (7, I64 k1), (8, I64 r1), (145, BB true)], [], []⟩) (orc := []) (ob := []) (by kernel_rfl) trivial ?_
                                  exact hJ13 true h
                                · replace h := ite_f e30 h
                                  obtain ⟨v7, e31, h⟩ := bind_some h
                                  obtain ⟨s2, e32, h⟩ := bind_some h
                                  refine WDK_all hE [1, 7, 8, 145] [] [] (st' := ⟨[(1, I64 at1), (7, I64 k1), (8, I64 r1), (145, BB (!(v7 == s2)))], [], []⟩) (orc := [tS v7, tS s2]) (ob := [r01_number k r1 = some v7, sub? s1 (wi64 (at1 + (2 : Int))) k1 = some s2]) (by kernel_rfl) ⟨e31, e32, trivial⟩ ?_
                                  exact hJ13 (!(v7 == s2)) h
                              refine WDK_split (fun g => ⟨[(0, SS s1), (1, I64 at1), (7, I64 k1), (8, I64 r1), (130, BB g)], [], []⟩) (b := t10) (fun e33 => ?_) (fun e33 => ?_)
                              · replace h := ite_t e33 h
                                refine WDK_all hE [0, 1, 7, 8, 135] [] [] (st' := ⟨[(0, SS s1), (1, I64 at1), (7, I64 k1), (8, I64 r1), (135, BB true)], [], []⟩) (orc := []) (ob := []) (by kernel_rfl) trivial ?_
                                exact hJ12 true h
                              · replace h := ite_f e33 h
                                obtain ⟨v8, e34, h⟩ := bind_some h
                                refine WDK_all hE [0, 1, 7, 8, 135] [] [] (st' := ⟨[(0, SS s1), (1, I64 at1), (7, I64 k1), (8, I64 r1), (135, BB (!v8))], [], []⟩) (orc := [tB v8]) (ob := [r01_Rune k (wi32 r1) = some v8]) (by kernel_rfl) ⟨e34, trivial⟩ ?_
                                exact hJ12 (!v8) h
                            refine WDK_split (fun g => ⟨[(0, SS s1), (1, I64 at1), (7, I64 k1), (8, I64 r1), (126, BB g)], [], []⟩) (b := t9) (fun e35 => ?_) (fun e35 => ?_)
                            · rw [or_t e35] at h
                              refine WDK_all hE [0, 1, 7, 8, 129] [] [] (st' := ⟨[(0, SS s1), (1, I64 at1), (7, I64 k1), (8, I64 r1), (129, BB true)], [], []⟩) (orc := []) (ob := []) (by kernel_rfl) trivial ?_
                              exact hJ11 true h
                            · rw [or_f e35] at h
                              refine WDK_all hE [0, 1, 7, 8, 129] [] [] (st' := ⟨[(0, SS s1), (1, I64 at1), (7, I64 k1), (8, I64 r1), (129, BB (decide ((1114111 : Int) < r1)))], [], []⟩) (orc := []) (ob := []) (by kernel_rfl) trivial ?_
                              exact hJ11 (decide ((1114111 : Int) < r1)) h
                          refine WDK_split (fun g => ⟨[(0, SS s1), (1, I64 at1), (7, I64 k1), (8, I64 r1), (120, BB g)], [], []⟩) (b := t8) (fun e36 => ?_) (fun e36 => ?_)
                          · replace h := ite_t e36 h
                            refine WDK_all hE [0, 1, 7, 8, 125] [] [] (st' := ⟨[(0, SS s1), (1, I64 at1), (7, I64 k1), (8, I64 r1), (125, BB true)], [], []⟩) (orc := []) (ob := []) (by kernel_rfl) trivial ?_
                            exact hJ10 true h
                          · replace h := ite_f e36 h
                            obtain ⟨b9, e37, h⟩ := bind_some h
                            refine WDK_all hE [0, 1, 7, 8, 125] [] [] (st' := ⟨[(0, SS s1), (1, I64 at1), (7, I64 k1), (8, I64 r1), (125, BB (b9 != (59 : Int)))], [], []⟩) (orc := [tU8 b9]) (ob := [byteAt s1 k1 = some b9]) (by kernel_rfl) ⟨e37, trivial⟩ ?_
                            exact hJ10 (b9 != (59 : Int)) h
                        refine WDK_split (fun g => ⟨[(0, SS s1), (1, I64 at1), (7, I64 k1), (8, I64 r1), (114, BB g)], [], []⟩) (b := k1 == (wi64 (at1 + (2 : Int)))) (fun e38 => ?_) (fun e38 => ?_)
                        · rw [or_t e38] at h
                          refine WDK_all hE [0, 1, 7, 8, 119] [] [] (st' := ⟨[(0, SS s1), (1, I64 at1), (7, I64 k1), (8, I64 r1), (119, BB true)], [], []⟩) (orc := []) (ob := []) (by kernel_rfl) trivial ?_
                          exact hJ9 true h
                        · rw [or_f e38] at h
                          refine WDK_all hE [0, 1, 7, 8, 119] [] [] (st' := ⟨[(0, SS s1), (1, I64 at1), (7, I64 k1), (8, I64 r1), (119, BB (decide ((List.length s1 : Int) ≤ k1)))], [], []⟩) (orc := []) (ob := []) (by kernel_rfl) trivial ?_
                          exact hJ9 (decide ((List.length s1 : Int) ≤ k1)) h
                    refine WL_split (fun g => ⟨[(0, SS s1), (1, I64 at1), (7, I64 k1), (8, I64 r1), (95, BB g)], [], []⟩) (b := t6) (fun e39 => ?_) (fun e39 => ?_)
                    · rw [and_t e39] at h
                      refine WL_all hE [0, 1, 7, 8, 100] [] [] (st' := ⟨[(0, SS s1), (1, I64 at1), (7, I64 k1), (8, I64 r1), (100, BB (decide ((wi64 (k1 - at1)) < (9 : Int))))], [], []⟩) (orc := []) (ob := []) (by kernel_rfl) trivial ?_
                      exact hJ8 (decide ((wi64 (k1 - at1)) < (9 : Int))) h
                    · rw [and_f e39] at h
                      refine WL_all hE [0, 1, 7, 8, 100] [] [] (st' := ⟨[(0, SS s1), (1, I64 at1), (7, I64 k1), (8, I64 r1), (100, BB false)], [], []⟩) (orc := []) (ob := []) (by kernel_rfl) trivial ?_
                      exact hJ8 false h
                  refine WL_split (fun g => ⟨[(0, SS s1), (1, I64 at1), (7, I64 k1), (8, I64 r1), (88, BB g)], [], []⟩) (b := decide (k1 < (List.length s1 : Int))) (fun e40 => ?_) (fun e40 => ?_)
                  · replace h := ite_t e40 h
                    obtain ⟨b10, e41, h⟩ := bind_some h
                    obtain ⟨v9, e42, h⟩ := bind_some h
                    refine WL_all hE [0, 1, 7, 8, 94] [] [] (st' := ⟨[(0, SS s1), (1, I64 at1), (7, I64 k1), (8, I64 r1), (94, BB (decide ((0 : Int) ≤ v9)))], [], []⟩) (orc := [tU8 b10, tI64 v9]) (ob := [byteAt s1 k1 = some b10, r01_worth k b10 = some v9]) (by kernel_rfl) ⟨e41, e42, trivial⟩ ?_
                    exact hJ7 (decide ((0 : Int) ≤ v9)) h
                  · replace h := ite_f e40 h
                    refine WL_all hE [0, 1, 7, 8, 94] [] [] (st' := ⟨[(0, SS s1), (1, I64 at1), (7, I64 k1), (8, I64 r1), (94, BB false)], [], []⟩) (orc := []) (ob := []) (by kernel_rfl) trivial ?_
                    exact hJ7 false h
              · replace h := ite_f e22 h
                refine W_skip ?_
                refine N_block ?_
                refine N.norm (st' := ⟨[], [], []⟩) (ks := []) (bs := []) (rs := []) ?_ (by kernel_rfl)
                exact hJ3 () h
        refine W_seq ?_
        refine W_region ?_
        refine WL_all hE [0, 1, 34, 35] [] [] (st' := ⟨[(0, SS s1), (1, I64 at1), (34, U8 b2), (35, BB (b2 == (34 : Int)))], [], []⟩) (orc := []) (ob := []) (by kernel_rfl) trivial ?_
        refine N_then ?_
        refine W_cond (b := b2 == (34 : Int)) (by kernel_rfl) (fun e43 => ?_) (fun e43 => ?_)
        · replace h := ite_t e43 h
          refine W_skip ?_
          exact hJ15 (b2 == (34 : Int)) h
        · replace h := ite_f e43 h
          refine W_region ?_
          refine WL_all hE [0, 1, 34, 35] [] [] (st' := ⟨[(0, SS s1), (1, I64 at1), (34, U8 b2), (35, BB (b2 == (92 : Int)))], [], []⟩) (orc := []) (ob := []) (by kernel_rfl) trivial ?_
          exact hJ15 (b2 == (92 : Int)) h

def C_r01_Plain (k : Nat) : FnC := ⟨true, 3, [], fun | [⟨.str, s1⟩], [⟨.str, rz1⟩, ⟨(.int .i64), rz2⟩, ⟨(.int .i64), rz3⟩] => r01_Plain k s1 = some (rz1, rz2, rz3) | _, _ => False⟩
noncomputable def E_r01_Plain (k : Nat) : Env := ⟨Tryd.prog, Gu, 66, [(50, C_r01_thing k), (44, C_r01_quote k)]⟩
theorem c_r01_Plain (k : Nat) : Contract Tryd.prog Gu 30 (C_r01_Plain k) := by
  refine contract_of Gu_stable (fn := Tryd.f30) Tryd.func30 (by kernel_rfl) rfl ?_ ?_
  · intro xs rs h
    unfold C_r01_Plain at h
    simp only at h
    split at h
    · exact ⟨by show 1 ≤ _; rw [Tryd.ntmps30]; decide, rfl, fun _ u hu => by simp at hu; (rcases hu with rfl | rfl | rfl) <;> rfl⟩
    · exact h.elim
  · intro w0 M xs rs hG h
    unfold C_r01_Plain at h
    simp only at h
    split at h
    case h_2 => exact h.elim
    rename_i s1 rz1 rz2 rz3
    change List UInt8 at s1
    change List UInt8 at rz1
    change Int at rz2
    change Int at rz3
    have hE : EnvOK (E_r01_Plain k) ⟨Tryd.prog, Tryd.f30.ntmps, w0, M, fun _ => False, fun _ => undef⟩ := (EnvOK.cons (c_r01_thing k) (EnvOK.cons (c_r01_quote k) (EnvOK.nil rfl Tryd.ntmps30 hG)))
    unfold r01_Plain at h
    refine W_seq ?_
    refine W_region ?_
    refine WL_all hE [0] [] [] (st' := ⟨[(0, SS s1)], [], []⟩) (orc := []) (ob := []) (by kernel_rfl) trivial ?_
    refine N_then ?_
    refine W_seq ?_
    refine W_seq ?_
    refine W_region ?_
    refine WL_all hE [0, 11] [] [] (st' := ⟨[(0, SS s1), (11, BB (decide ((1048576 : Int) < (List.length s1 : Int))))], [], []⟩) (orc := []) (ob := []) (by kernel_rfl) trivial ?_
    refine N_then ?_
    refine W_cond (b := decide ((1048576 : Int) < (List.length s1 : Int))) (by kernel_rfl) (fun e1 => ?_) (fun e1 => ?_)
    · replace h := ite_t e1 h
      refine W_seq ?_
      refine W_region ?_
      refine WL_all hE [2, 3, 4] [] [] (st' := ⟨[(2, SS ([] : List UInt8)), (3, I64 (0 : Int)), (4, I64 (3 : Int))], [], []⟩) (orc := []) (ob := []) (by kernel_rfl) trivial ?_
      refine N_then ?_
      refine W_ret ?_
      refine N_then_ret ?_
      cases h
      exact N_end (.inl rfl) (by kernel_rfl)
    · replace h := ite_f e1 h
      refine W_skip ?_
      refine N_then ?_
      refine W_seq ?_
      refine W_seq ?_
      refine W_region ?_
      refine WL_tk hE 3 [0, 14] [] [] (st' := ⟨[(0, SS s1), (14, BB (s1 == ([] : List UInt8)))], [], []⟩) (orc := []) (ob := []) (by kernel_rfl) trivial ?_
      refine WL_join (α := Bool) (fun z => r01_Plain_j1 k s1 z = some (rz1, rz2, rz3)) (fun t1 => ⟨[(0, SS s1), (18, BB t1)], [], []⟩) 4 ?_ (fun hJ1 => ?_)
      · rintro t1 h
        unfold r01_Plain_j1 at h
        refine WL_nil ?_
        refine N_then ?_
        refine W_cond (b := t1) (by kernel_rfl) (fun e2 => ?_) (fun e2 => ?_)
        · replace h := ite_t e2 h
          refine W_seq ?_
          refine W_region ?_
          refine WL_all hE [2, 3, 4] [] [] (st' := ⟨[(2, SS ([] : List UInt8)), (3, I64 (0 : Int)), (4, I64 (10 : Int))], [], []⟩) (orc := []) (ob := []) (by kernel_rfl) trivial ?_
          refine N_then ?_
          refine W_ret ?_
          refine N_then_ret ?_
          cases h
          exact N_end (.inl rfl) (by kernel_rfl)
        · replace h := ite_f e2 h
          refine W_skip ?_
          refine N_then ?_
          refine W_seq ?_
          refine W_region ?_
          refine WL_all hE [0, 5] [] [5] (st' := ⟨[(0, SS s1), (5, .row 5)], [], [(5, ⟨5, (.int .u8), ([] : List (Int))⟩)]⟩) (orc := []) (ob := []) (by kernel_rfl) trivial ?_
          refine N_then ?_
          refine W_seq ?_
          refine W_region ?_
          refine WL_all hE [0, 5, 6] [] [5] (st' := ⟨[(0, SS s1), (5, .row 5), (6, I64 (1 : Int))], [], [(5, ⟨5, (.int .u8), ([] : List (Int))⟩)]⟩) (orc := []) (ob := []) (by kernel_rfl) trivial ?_
          refine N_then ?_
          refine W_seq ?_
          refine W_block ?_
          refine W_loop (α := (Int × List (Int))) (fun n z => r01_Plain_l1 k s1 n z.1 z.2 = some (rz1, rz2, rz3)) (fun z => ⟨[(0, SS s1), (5, .row 5), (6, I64 (z.1))], [], [(5, ⟨5, (.int .u8), (z.2)⟩)]⟩) ?_ (k := k) (x := ((1 : Int), ([] : List (Int)))) h
          clear h
          rintro fuel1 ⟨at1, out1⟩ h
          cases fuel1 with
          | zero => exact absurd (show none = some _ from h) (by simp)
          | succ fuel1 =>
            have h : r01_Plain_b1 k s1 (r01_Plain_l1 k s1 fuel1) at1 out1 = some (rz1, rz2, rz3) := h
            unfold r01_Plain_b1 at h
            refine W_seq ?_
            refine W_seq ?_
            refine W_region ?_
            refine WL_tk hE 5 [0, 5, 6, 23] [] [5] (st' := ⟨[(0, SS s1), (5, .row 5), (6, I64 at1), (23, BB (decide (at1 < (List.length s1 : Int))))], [], [(5, ⟨5, (.int .u8), out1⟩)]⟩) (orc := []) (ob := []) (by kernel_rfl) trivial ?_
            refine WL_join (α := Bool) (fun z => r01_Plain_j2 k s1 at1 out1 (r01_Plain_l1 k s1 fuel1) z = some (rz1, rz2, rz3)) (fun t2 => ⟨[(0, SS s1), (5, .row 5), (6, I64 at1), (28, BB t2)], [], [(5, ⟨5, (.int .u8), out1⟩)]⟩) 5 ?_ (fun hJ2 => ?_)
            · rintro t2 h
              unfold r01_Plain_j2 at h
              refine WL_nil ?_
              refine N_then ?_
              refine W_cond (b := t2) (by kernel_rfl) (fun e3 => ?_) (fun e3 => ?_)
              · replace h := ite_t e3 h
                refine W_skip ?_
                refine N_then ?_
                refine W_block ?_
                refine W_seq ?_
                refine W_region ?_
                obtain ⟨v1, e4, h⟩ := bind_some h
                refine WL_all hE [0, 5, 6, 7, 8] [] [5] (st' := ⟨[(0, SS s1), (5, .row 5), (6, I64 at1), (7, .val (.sl (.int .u8)) v1.1), (8, I64 v1.2)], [], [(5, ⟨5, (.int .u8), out1⟩)]⟩) (orc := [⟨(.sl (.int .u8)), v1.1⟩, tI64 v1.2]) (ob := [r01_thing k s1 at1 = some ((v1).1, (v1).2)]) (by kernel_rfl) ⟨e4, trivial⟩ ?_
                refine N_then ?_
                refine W_seq ?_
                refine W_seq ?_
                refine W_region ?_
                refine WL_all hE [0, 5, 6, 7, 8, 36] [] [5] (st' := ⟨[(0, SS s1), (5, .row 5), (6, I64 at1), (7, .val (.sl (.int .u8)) v1.1), (8, I64 v1.2), (36, BB (v1.2 == (0 : Int)))], [], [(5, ⟨5, (.int .u8), out1⟩)]⟩) (orc := []) (ob := []) (by kernel_rfl) trivial ?_
                refine N_then ?_
                refine W_cond (b := v1.2 == (0 : Int)) (by kernel_rfl) (fun e5 => ?_) (fun e5 => ?_)
                · replace h := ite_t e5 h
                  refine W_seq ?_
                  refine W_region ?_
                  refine WL_all hE [2, 3, 4] [] [] (st' := ⟨[(2, SS ([] : List UInt8)), (3, I64 at1), (4, I64 (10 : Int))], [], []⟩) (orc := []) (ob := []) (by kernel_rfl) trivial ?_
                  refine N_then ?_
                  refine W_ret ?_
                  refine N_then_ret ?_
                  refine N_block_ret ?_
                  refine N_then_ret ?_
                  refine N_block_ret ?_
                  refine N_then_ret ?_
                  cases h
                  exact N_end (.inl rfl) (by kernel_rfl)
                · replace h := ite_f e5 h
                  refine W_skip ?_
                  refine N_then ?_
                  refine W_seq ?_
                  refine W_region ?_
                  obtain ⟨_, e6, h⟩ := bind_some h
                  replace e6 := chk_some e6
                  refine WL_all hE [0, 5, 6, 8] [] [5] (st' := ⟨[(0, SS s1), (5, .row 5), (6, I64 at1), (8, I64 v1.2)], [], [(5, ⟨5, (.int .u8), out1 ++ v1.1⟩)]⟩) (orc := []) (ob := [List.length out1 + List.length v1.1 ≤ lim]) (by kernel_rfl) ⟨e6, trivial⟩ ?_
                  refine N_then ?_
                  refine W_region ?_
                  refine WL_all hE [0, 5, 6] [] [5] (st' := ⟨[(0, SS s1), (5, .row 5), (6, I64 (wi64 (at1 + v1.2)))], [], [(5, ⟨5, (.int .u8), out1 ++ v1.1⟩)]⟩) (orc := []) (ob := []) (by kernel_rfl) trivial ?_
                  refine N_block ?_
                  exact N_round (wi64 (at1 + v1.2), out1 ++ v1.1) (Nat.lt_succ_self _) h
              · replace h := ite_f e3 h
                refine W_exit ?_
                refine N_then_exit ?_
                refine N_then_exit ?_
                refine N_block_exit ?_
                refine N_then ?_
                refine W_seq ?_
                refine W_seq ?_
                refine W_region ?_
                refine WL_all hE [0, 5, 6, 47] [] [5] (st' := ⟨[(0, SS s1), (5, .row 5), (6, I64 at1), (47, BB (decide ((List.length s1 : Int) ≤ at1)))], [], [(5, ⟨5, (.int .u8), out1⟩)]⟩) (orc := []) (ob := []) (by kernel_rfl) trivial ?_
                refine N_then ?_
                refine W_cond (b := decide ((List.length s1 : Int) ≤ at1)) (by kernel_rfl) (fun e7 => ?_) (fun e7 => ?_)
                · replace h := ite_t e7 h
                  refine W_seq ?_
                  refine W_region ?_
                  refine WL_all hE [2, 3, 4] [] [] (st' := ⟨[(2, SS ([] : List UInt8)), (3, I64 at1), (4, I64 (10 : Int))], [], []⟩) (orc := []) (ob := []) (by kernel_rfl) trivial ?_
                  refine N_then ?_
                  refine W_ret ?_
                  refine N_then_ret ?_
                  cases h
                  exact N_end (.inl rfl) (by kernel_rfl)
                · replace h := ite_f e7 h
                  refine W_skip ?_
                  refine N_then ?_
                  refine W_seq ?_
                  refine W_seq ?_
                  refine W_region ?_
                  refine WL_all hE [0, 5, 6, 53] [] [5] (st' := ⟨[(0, SS s1), (5, .row 5), (6, I64 at1), (53, BB (decide ((wi64 (at1 + (1 : Int))) < (List.length s1 : Int))))], [], [(5, ⟨5, (.int .u8), out1⟩)]⟩) (orc := []) (ob := []) (by kernel_rfl) trivial ?_
                  refine N_then ?_
                  refine W_cond (b := decide ((wi64 (at1 + (1 : Int))) < (List.length s1 : Int))) (by kernel_rfl) (fun e8 => ?_) (fun e8 => ?_)
                  · replace h := ite_t e8 h
                    refine W_seq ?_
                    refine W_region ?_
                    refine WL_all hE [2, 3, 4] [] [] (st' := ⟨[(2, SS ([] : List UInt8)), (3, I64 (wi64 (at1 + (1 : Int)))), (4, I64 (10 : Int))], [], []⟩) (orc := []) (ob := []) (by kernel_rfl) trivial ?_
                    refine N_then ?_
                    refine W_ret ?_
                    refine N_then_ret ?_
                    cases h
                    exact N_end (.inl rfl) (by kernel_rfl)
                  · replace h := ite_f e8 h
                    refine W_skip ?_
                    refine N_then ?_
                    refine W_seq ?_
                    refine W_seq ?_
                    refine W_region ?_
                    refine WL_all hE [0, 5, 58] [] [5] (st' := ⟨[(0, SS s1), (5, .row 5), (58, BB (decide ((65536 : Int) < (List.length out1 : Int))))], [], [(5, ⟨5, (.int .u8), out1⟩)]⟩) (orc := []) (ob := []) (by kernel_rfl) trivial ?_
                    refine N_then ?_
                    refine W_cond (b := decide ((65536 : Int) < (List.length out1 : Int))) (by kernel_rfl) (fun e9 => ?_) (fun e9 => ?_)
                    · replace h := ite_t e9 h
                      refine W_seq ?_
                      refine W_region ?_
                      refine WL_all hE [2, 3, 4] [] [] (st' := ⟨[(2, SS ([] : List UInt8)), (3, I64 (0 : Int)), (4, I64 (3 : Int))], [], []⟩) (orc := []) (ob := []) (by kernel_rfl) trivial ?_
                      refine N_then ?_
                      refine W_ret ?_
                      refine N_then_ret ?_
                      cases h
                      exact N_end (.inl rfl) (by kernel_rfl)
                    · replace h := ite_f e9 h
                      refine W_skip ?_
                      refine N_then ?_
                      refine W_seq ?_
                      refine W_seq ?_
                      refine W_region ?_
                      obtain ⟨v2, e10, h⟩ := bind_some h
                      refine WL_all hE [5, 63] [] [5] (st' := ⟨[(5, .row 5), (63, BB (!(v2 == s1)))], [], [(5, ⟨5, (.int .u8), out1⟩)]⟩) (orc := [tS v2]) (ob := [r01_quote k (bytesStr out1) = some v2]) (by kernel_rfl) ⟨e10, trivial⟩ ?_
                      refine N_then ?_
                      refine W_cond (b := !(v2 == s1)) (by kernel_rfl) (fun e11 => ?_) (fun e11 => ?_)
                      · replace h := ite_t e11 h
                        refine W_seq ?_
                        refine W_region ?_
                        refine WL_all hE [2, 3, 4] [] [] (st' := ⟨[(2, SS ([] : List UInt8)), (3, I64 (0 : Int)), (4, I64 (10 : Int))], [], []⟩) (orc := []) (ob := []) (by kernel_rfl) trivial ?_
                        refine N_then ?_
                        refine W_ret ?_
                        refine N_then_ret ?_
                        cases h
                        exact N_end (.inl rfl) (by kernel_rfl)
                      · replace h := ite_f e11 h
                        refine W_skip ?_
                        refine N_then ?_
                        refine W_seq ?_
                        refine W_region ?_
                        refine WL_all hE [2, 3, 4] [] [] (st' := ⟨[(2, SS (bytesStr out1)), (3, I64 (0 : Int)), (4, I64 (0 : Int))], [], []⟩) (orc := []) (ob := []) (by kernel_rfl) trivial ?_
                        refine N_then ?_
                        refine W_ret ?_
                        cases h
                        exact N_end (.inl rfl) (by kernel_rfl)
            refine WL_split (fun g => ⟨[(0, SS s1), (5, .row 5), (6, I64 at1), (23, BB g)], [], [(5, ⟨5, (.int .u8), out1⟩)]⟩) (b := decide (at1 < (List.length s1 : Int))) (fun e12 => ?_) (fun e12 => ?_)
            · replace h := ite_t e12 h
              obtain ⟨b1, e13, h⟩ := bind_some h
              refine WL_all hE [0, 5, 6, 28] [] [5] (st' := ⟨[(0, SS s1), (5, .row 5), (6, I64 at1), (28, BB (b1 != (34 : Int)))], [], [(5, ⟨5, (.int .u8), out1⟩)]⟩) (orc := [tU8 b1]) (ob := [byteAt s1 at1 = some b1]) (by kernel_rfl) ⟨e13, trivial⟩ ?_
              exact hJ2 (b1 != (34 : Int)) h
            · replace h := ite_f e12 h
              refine WL_all hE [0, 5, 6, 28] [] [5] (st' := ⟨[(0, SS s1), (5, .row 5), (6, I64 at1), (28, BB false)], [], [(5, ⟨5, (.int .u8), out1⟩)]⟩) (orc := []) (ob := []) (by kernel_rfl) trivial ?_
              exact hJ2 false h
      refine WL_split (fun g => ⟨[(0, SS s1), (14, BB g)], [], []⟩) (b := s1 == ([] : List UInt8)) (fun e14 => ?_) (fun e14 => ?_)
      · replace h := ite_t e14 h
        refine WL_all hE [0, 18] [] [] (st' := ⟨[(0, SS s1), (18, BB true)], [], []⟩) (orc := []) (ob := []) (by kernel_rfl) trivial ?_
        exact hJ1 true h
      · replace h := ite_f e14 h
        obtain ⟨b2, e15, h⟩ := bind_some h
        refine WL_all hE [0, 18] [] [] (st' := ⟨[(0, SS s1), (18, BB (b2 != (34 : Int)))], [], []⟩) (orc := [tU8 b2]) (ob := [byteAt s1 (0 : Int) = some b2]) (by kernel_rfl) ⟨e15, trivial⟩ ?_
        exact hJ1 (b2 != (34 : Int)) h

def C_runes_Text (k : Nat) : FnC := ⟨true, 1, [], fun | [⟨(.sl (.int .i32)), l1⟩], [⟨.str, rz⟩] => runes_Text k l1 = some rz | _, _ => False⟩
noncomputable def E_runes_Text (k : Nat) : Env := ⟨Tryd.prog, Gu, 5, []⟩
theorem c_runes_Text (k : Nat) : Contract Tryd.prog Gu 26 (C_runes_Text k) := by
  refine contract_of Gu_stable (fn := Tryd.f26) Tryd.func26 (by kernel_rfl) rfl ?_ ?_
  · intro xs rs h
    unfold C_runes_Text at h
    simp only at h
    split at h
    · exact ⟨by show 1 ≤ _; rw [Tryd.ntmps26]; decide, rfl, fun _ u hu => by simp at hu; (rcases hu with rfl) <;> rfl⟩
    · exact h.elim
  · intro w0 M xs rs hG h
    unfold C_runes_Text at h
    simp only at h
    split at h
    case h_2 => exact h.elim
    rename_i l1 rz
    change List (Int) at l1
    change List UInt8 at rz
    have hE : EnvOK (E_runes_Text k) ⟨Tryd.prog, Tryd.f26.ntmps, w0, M, fun _ => False, fun _ => undef⟩ := (EnvOK.nil rfl Tryd.ntmps26 hG)
    unfold runes_Text at h
    refine W_seq ?_
    refine W_region ?_
    refine WL_all hE [0] [] [] (st' := ⟨[(0, .val (.sl (.int .i32)) l1)], [], []⟩) (orc := []) (ob := []) (by kernel_rfl) trivial ?_
    refine N_then ?_
    refine W_seq ?_
    refine W_region ?_
    obtain ⟨_, e1, h⟩ := bind_some h
    replace e1 := chk_some e1
    refine WL_all hE [2] [] [] (st' := ⟨[(2, SS (runesStr l1))], [], []⟩) (orc := []) (ob := [List.length (runesStr l1) ≤ lim]) (by kernel_rfl) ⟨e1, trivial⟩ ?_
    refine N_then ?_
    refine W_ret ?_
    cases h
    exact N_end (.inl rfl) (by kernel_rfl)

def C_r01_Text (k : Nat) : FnC := ⟨true, 1, [], fun | [⟨(.sl (.int .i32)), l1⟩], [⟨.str, rz⟩] => r01_Text k l1 = some rz | _, _ => False⟩
noncomputable def E_r01_Text (k : Nat) : Env := ⟨Tryd.prog, Gu, 22, [(41, C_r01_one k)]⟩
theorem c_r01_Text (k : Nat) : Contract Tryd.prog Gu 31 (C_r01_Text k) := by
  refine contract_of Gu_stable (fn := Tryd.f31) Tryd.func31 (by kernel_rfl) rfl ?_ ?_
  · intro xs rs h
    unfold C_r01_Text at h
    simp only at h
    split at h
    · exact ⟨by show 1 ≤ _; rw [Tryd.ntmps31]; decide, rfl, fun _ u hu => by simp at hu; (rcases hu with rfl) <;> rfl⟩
    · exact h.elim
  · intro w0 M xs rs hG h
    unfold C_r01_Text at h
    simp only at h
    split at h
    case h_2 => exact h.elim
    rename_i l1 rz
    change List (Int) at l1
    change List UInt8 at rz
    have hE : EnvOK (E_r01_Text k) ⟨Tryd.prog, Tryd.f31.ntmps, w0, M, fun _ => False, fun _ => undef⟩ := (EnvOK.cons (c_r01_one k) (EnvOK.nil rfl Tryd.ntmps31 hG))
    unfold r01_Text at h
    refine W_seq ?_
    refine W_region ?_
    refine WL_all hE [0] [] [] (st' := ⟨[(0, .val (.sl (.int .i32)) l1)], [], []⟩) (orc := []) (ob := []) (by kernel_rfl) trivial ?_
    refine N_then ?_
    refine W_seq ?_
    refine W_region ?_
    refine WL_all hE [0, 3] [] [3] (st' := ⟨[(0, .val (.sl (.int .i32)) l1), (3, .row 3)], [], [(3, ⟨5, (.int .u8), ([] : List (Int))⟩)]⟩) (orc := []) (ob := []) (by kernel_rfl) trivial ?_
    refine N_then ?_
    refine W_seq ?_
    refine W_seq ?_
    refine W_region ?_
    refine WL_all hE [0, 3, 4] [] [3] (st' := ⟨[(0, .val (.sl (.int .i32)) l1), (3, .row 3), (4, I64 (0 : Int))], [], [(3, ⟨5, (.int .u8), ([] : List (Int))⟩)]⟩) (orc := []) (ob := []) (by kernel_rfl) trivial ?_
    refine N_then ?_
    refine W_block ?_
    refine W_loop (α := (Int × List (Int))) (fun n z => r01_Text_l1 k l1 n z.1 z.2 = some rz) (fun z => ⟨[(0, .val (.sl (.int .i32)) l1), (3, .row 3), (4, I64 (z.1))], [], [(3, ⟨5, (.int .u8), (z.2)⟩)]⟩) ?_ (k := k) (x := ((0 : Int), ([] : List (Int)))) h
    clear h
    rintro fuel1 ⟨i1, out1⟩ h
    cases fuel1 with
    | zero => exact absurd (show none = some _ from h) (by simp)
    | succ fuel1 =>
      have h : r01_Text_b1 k l1 (r01_Text_l1 k l1 fuel1) i1 out1 = some rz := h
      unfold r01_Text_b1 at h
      refine W_seq ?_
      refine W_seq ?_
      refine W_region ?_
      refine WL_all hE [0, 3, 4, 9] [] [3] (st' := ⟨[(0, .val (.sl (.int .i32)) l1), (3, .row 3), (4, I64 i1), (9, BB (decide (i1 < (List.length l1 : Int))))], [], [(3, ⟨5, (.int .u8), out1⟩)]⟩) (orc := []) (ob := []) (by kernel_rfl) trivial ?_
      refine N_then ?_
      refine W_cond (b := decide (i1 < (List.length l1 : Int))) (by kernel_rfl) (fun e1 => ?_) (fun e1 => ?_)
      · replace h := ite_t e1 h
        refine W_skip ?_
        refine N_then ?_
        refine W_seq ?_
        refine W_block ?_
        refine W_seq ?_
        refine W_region ?_
        obtain ⟨x1, e2, h⟩ := bind_some h
        obtain ⟨v1, e3, h⟩ := bind_some h
        refine WL_all hE [0, 3, 4, 5] [] [3] (st' := ⟨[(0, .val (.sl (.int .i32)) l1), (3, .row 3), (4, I64 i1), (5, .val (.sl (.int .u8)) v1)], [], [(3, ⟨5, (.int .u8), out1⟩)]⟩) (orc := [tI32 x1, ⟨(.sl (.int .u8)), v1⟩]) (ob := [at? l1 i1 = some x1, r01_one k x1 = some v1]) (by kernel_rfl) ⟨e2, e3, trivial⟩ ?_
        refine N_then ?_
        refine W_region ?_
        obtain ⟨_, e4, h⟩ := bind_some h
        replace e4 := chk_some e4
        refine WL_all hE [0, 3, 4] [] [3] (st' := ⟨[(0, .val (.sl (.int .i32)) l1), (3, .row 3), (4, I64 i1)], [], [(3, ⟨5, (.int .u8), out1 ++ v1⟩)]⟩) (orc := []) (ob := [List.length out1 + List.length v1 ≤ lim]) (by kernel_rfl) ⟨e4, trivial⟩ ?_
        refine N_block ?_
        refine N_then ?_
        refine W_region ?_
        refine WL_all hE [0, 3, 4] [] [3] (st' := ⟨[(0, .val (.sl (.int .i32)) l1), (3, .row 3), (4, I64 (wi64 (i1 + (1 : Int))))], [], [(3, ⟨5, (.int .u8), out1 ++ v1⟩)]⟩) (orc := []) (ob := []) (by kernel_rfl) trivial ?_
        exact N_round (wi64 (i1 + (1 : Int)), out1 ++ v1) (Nat.lt_succ_self _) h
      · replace h := ite_f e1 h
        refine W_exit ?_
        refine N_then_exit ?_
        refine N_then_exit ?_
        refine N_block_exit ?_
        refine N_then ?_
        refine W_seq ?_
        refine W_region ?_
        refine WL_all hE [2] [] [] (st' := ⟨[(2, SS (bytesStr out1))], [], []⟩) (orc := []) (ob := []) (by kernel_rfl) trivial ?_
        refine N_then ?_
        refine W_ret ?_
        cases h
        exact N_end (.inl rfl) (by kernel_rfl)

def B_runes_Pieces_c1_i1 (k : Nat) : FnB ((Int × Int × Int × Bool × Unit) × List ((Int × Int × Int × Bool × Unit))) (Bool × List ((Int × Int × Int × Bool × Unit))) where
  n := 8
  S := fun z => ⟨[(0, .val (.pair (.int .i32) (.pair (.int .i64) (.pair (.int .i64) (.pair .bool .unit)))) (z.1)), (1, .ptr 8 0)], [(8, .cells [.row 9] 24)], [(9, ⟨35, (.pair (.int .i32) (.pair (.int .i64) (.pair (.int .i64) (.pair .bool .unit)))), (z.2)⟩)]⟩
  S' := fun z y => ⟨[], [(8, .cells [.row 9] 24)], [(9, ⟨35, (.pair (.int .i32) (.pair (.int .i64) (.pair (.int .i64) (.pair .bool .unit)))), (y.2)⟩)]⟩
  rs := fun z y => [BB (y.1)]
  rel := fun z y => runes_Pieces_c1_i1 k (z.1) (z.2) = some y
noncomputable def E_runes_Pieces_c1_i1 (k : Nat) : Env := ⟨Tryd.prog, Gu, 8, []⟩
theorem b_runes_Pieces_c1_i1 (k : Nat) : BC Tryd.prog Gu 37 (B_runes_Pieces_c1_i1 k) := by
  refine bc_of (fn := Tryd.f37) Tryd.func37 (by kernel_rfl) rfl Tryd.ntmps37 ?_
  rintro cx hP hn hG ⟨p1, l1⟩ y0 h
  have hE : EnvOK (E_runes_Pieces_c1_i1 k) cx := (EnvOK.nil hP hn hG)
  replace h : runes_Pieces_c1_i1 k p1 l1 = some y0 := h
  unfold runes_Pieces_c1_i1 at h
  refine W_seq ?_
  refine W_region ?_
  refine WL_all hE [1, 2] [2, 8] [9] (st' := ⟨[(1, .ptr 8 0), (2, .ptr 2 0)], [(2, .cells [I32 p1.1, I64 p1.2.1, I64 p1.2.2.1, BB p1.2.2.2.1] 35), (8, .cells [.row 9] 24)], [(9, ⟨35, (.pair (.int .i32) (.pair (.int .i64) (.pair (.int .i64) (.pair .bool .unit)))), l1⟩)]⟩) (orc := []) (ob := []) (by kernel_rfl) trivial ?_
  refine N_then ?_
  refine W_seq ?_
  refine W_region ?_
  obtain ⟨_, e1, h⟩ := bind_some h
  replace e1 := chk_some e1
  refine WL_all hE [1] [8] [9] (st' := ⟨[(1, .ptr 8 0)], [(8, .cells [.row 9] 24)], [(9, ⟨35, (.pair (.int .i32) (.pair (.int .i64) (.pair (.int .i64) (.pair .bool .unit)))), l1 ++ ([(p1.1, p1.2.1, p1.2.2.1, p1.2.2.2.1, ())] : List ((Int × Int × Int × Bool × Unit)))⟩)]⟩) (orc := []) (ob := [List.length l1 + List.length ([(p1.1, p1.2.1, p1.2.2.1, p1.2.2.2.1, ())] : List ((Int × Int × Int × Bool × Unit))) ≤ lim]) (by kernel_rfl) ⟨e1, trivial⟩ ?_
  refine N_then ?_
  refine W_seq ?_
  refine W_region ?_
  refine WL_all hE [1, 3] [8] [9] (st' := ⟨[(1, .ptr 8 0), (3, BB true)], [(8, .cells [.row 9] 24)], [(9, ⟨35, (.pair (.int .i32) (.pair (.int .i64) (.pair (.int .i64) (.pair .bool .unit)))), l1 ++ ([(p1.1, p1.2.1, p1.2.2.1, p1.2.2.2.1, ())] : List ((Int × Int × Int × Bool × Unit)))⟩)]⟩) (orc := []) (ob := []) (by kernel_rfl) trivial ?_
  refine N_then ?_
  refine W_ret ?_
  replace h := Option.some.inj h
  subst h
  exact N_endB hE.P [8] [9] (.inl rfl) (by kernel_rfl) (by kernel_rfl)

def B_runes_each_i1 (k : Nat) : FnB (List UInt8 × List ((Int × Int × Int × Bool × Unit))) (List ((Int × Int × Int × Bool × Unit))) where
  n := 37
  S := fun z => ⟨[(0, SS (z.1)), (1, .clos 37 [37])], [(37, .cells [.row 38] 24)], [(38, ⟨35, (.pair (.int .i32) (.pair (.int .i64) (.pair (.int .i64) (.pair .bool .unit)))), (z.2)⟩)]⟩
  S' := fun z y => ⟨[], [(37, .cells [.row 38] 24)], [(38, ⟨35, (.pair (.int .i32) (.pair (.int .i64) (.pair (.int .i64) (.pair .bool .unit)))), (y)⟩)]⟩
  rs := fun z y => []
  rel := fun z y => runes_each_i1 k (z.1) (z.2) = some y
noncomputable def E_runes_each_i1 (k : Nat) : Env := ⟨Tryd.prog, Gu, 37, [(52, C_unicode_utf8_RuneLen k), (25, C_unicode_utf8_DecodeRuneInString k)]⟩
theorem b_runes_each_i1 (k : Nat) : BC Tryd.prog Gu 36 (B_runes_each_i1 k) := by
  refine bc_of (fn := Tryd.f36) Tryd.func36 (by kernel_rfl) rfl Tryd.ntmps36 ?_
  rintro cx hP hn hG ⟨s1, l1⟩ y0 h
  have hE : EnvOK (E_runes_each_i1 k) cx := (EnvOK.cons (c_unicode_utf8_RuneLen k) (EnvOK.cons (e_unicode_utf8_DecodeRuneInString k) (EnvOK.nil hP hn hG)))
  replace h : runes_each_i1 k s1 l1 = some y0 := h
  unfold runes_each_i1 at h
  refine W_seq ?_
  refine W_region ?_
  refine WL_all hE [0, 1, 10] [10, 37] [38] (st' := ⟨[(0, SS s1), (1, .clos 37 [37]), (10, .iter 10)], [(10, .iter s1 0), (37, .cells [.row 38] 24)], [(38, ⟨35, (.pair (.int .i32) (.pair (.int .i64) (.pair (.int .i64) (.pair .bool .unit)))), l1⟩)]⟩) (orc := []) (ob := []) (by kernel_rfl) trivial ?_
  refine N_then ?_
  refine W_block ?_
  refine W_loop (α := (Nat × List ((Int × Int × Int × Bool × Unit)))) (fun n z => runes_each_i1_l1 k s1 n z.1 z.2 = some y0) (fun z => ⟨[(0, SS s1), (1, .clos 37 [37]), (10, .iter 10)], [(10, .iter s1 (z.1)), (37, .cells [.row 38] 24)], [(38, ⟨35, (.pair (.int .i32) (.pair (.int .i64) (.pair (.int .i64) (.pair .bool .unit)))), (z.2)⟩)]⟩) ?_ (k := k) (x := (0, l1)) h
  clear h
  rintro fuel1 ⟨pos1, t2⟩ h
  cases fuel1 with
  | zero => exact absurd (show none = some _ from h) (by simp)
  | succ fuel1 =>
    have h : runes_each_i1_b1 k s1 (runes_each_i1_l1 k s1 fuel1) pos1 t2 = some y0 := h
    unfold runes_each_i1_b1 at h
    refine W_seq ?_
    refine W_region ?_
    rcases Bool.eq_false_or_eq_true (decide (pos1 < List.length s1)) with e1 | e1
    · replace h := ite_t e1 h
      refine WL_tk hE 1 [0, 1, 10, 11] [10, 37] [38] (st' := ⟨[(0, SS s1), (1, .clos 37 [37]), (10, .iter 10), (11, .tup [tB true, tI64 (pos1 : Int), tI32 (runeAt s1 pos1)])], [(10, .iter s1 (pos1 + widthAt s1 pos1)), (37, .cells [.row 38] 24)], [(38, ⟨35, (.pair (.int .i32) (.pair (.int .i64) (.pair (.int .i64) (.pair .bool .unit)))), t2⟩)]⟩) (orc := [tB true]) (ob := [pos1 < List.length s1]) (by kernel_rfl) ⟨of_decide_eq_true e1, trivial⟩ ?_
      refine WL_all hE [0, 1, 10, 11, 12] [10, 37] [38] (st' := ⟨[(0, SS s1), (1, .clos 37 [37]), (10, .iter 10), (11, .tup [tB true, tI64 (pos1 : Int), tI32 (runeAt s1 pos1)]), (12, BB true)], [(10, .iter s1 (pos1 + widthAt s1 pos1)), (37, .cells [.row 38] 24)], [(38, ⟨35, (.pair (.int .i32) (.pair (.int .i64) (.pair (.int .i64) (.pair .bool .unit)))), t2⟩)]⟩) (orc := []) (ob := []) (by kernel_rfl) trivial ?_
      refine N_then ?_
      refine W_seq ?_
      refine W_cond_true (by kernel_rfl) ?_
      refine W_skip ?_
      refine N_then ?_
      refine W_block ?_
      refine W_seq ?_
      refine W_region ?_
      refine WL_all hE [0, 1, 4, 5, 10] [10, 37] [38] (st' := ⟨[(0, SS s1), (1, .clos 37 [37]), (4, I64 (pos1 : Int)), (5, I32 (runeAt s1 pos1)), (10, .iter 10)], [(10, .iter s1 (pos1 + widthAt s1 pos1)), (37, .cells [.row 38] 24)], [(38, ⟨35, (.pair (.int .i32) (.pair (.int .i64) (.pair (.int .i64) (.pair .bool .unit)))), t2⟩)]⟩) (orc := []) (ob := []) (by kernel_rfl) trivial ?_
      refine N_then ?_
      refine W_seq ?_
      refine W_region ?_
      obtain ⟨v1, e2, h⟩ := bind_some h
      refine WL_all hE [0, 1, 4, 5, 6, 10] [6, 10, 37] [38] (st' := ⟨[(0, SS s1), (1, .clos 37 [37]), (4, I64 (pos1 : Int)), (5, I32 (runeAt s1 pos1)), (6, .ptr 6 0), (10, .iter 10)], [(6, .cells [I32 (runeAt s1 pos1), I64 (pos1 : Int), I64 v1, BB false] 35), (10, .iter s1 (pos1 + widthAt s1 pos1)), (37, .cells [.row 38] 24)], [(38, ⟨35, (.pair (.int .i32) (.pair (.int .i64) (.pair (.int .i64) (.pair .bool .unit)))), t2⟩)]⟩) (orc := [tI64 v1]) (ob := [unicode_utf8_RuneLen k (runeAt s1 pos1) = some v1]) (by kernel_rfl) ⟨e2, trivial⟩ ?_
      refine N_then ?_
      refine W_join (α := (Int × Bool)) (fun z => runes_each_i1_j1 k s1 pos1 t2 (runes_each_i1_l1 k s1 fuel1) z.1 z.2 = some y0) (fun z => ⟨[(0, SS s1), (1, .clos 37 [37]), (6, .ptr 6 0), (10, .iter 10)], [(6, .cells [I32 (runeAt s1 pos1), I64 (pos1 : Int), I64 (z.1), BB (z.2)] 35), (10, .iter s1 (pos1 + widthAt s1 pos1)), (37, .cells [.row 38] 24)], [(38, ⟨35, (.pair (.int .i32) (.pair (.int .i64) (.pair (.int .i64) (.pair .bool .unit)))), t2⟩)]⟩) ?_ (fun hJ1 => ?_)
      · rintro ⟨p1, p2⟩ h
        unfold runes_each_i1_j1 at h
        refine W_seq ?_
        refine W_region ?_
        refine WL_tk hE 2 [0, 1, 10, 33, 34] [10, 37] [38] (st' := ⟨[(0, SS s1), (1, .clos 37 [37]), (10, .iter 10), (33, .clos 37 [37]), (34, .val (.pair (.int .i32) (.pair (.int .i64) (.pair (.int .i64) (.pair .bool .unit)))) (runeAt s1 pos1, (pos1 : Int), p1, p2, ()))], [(10, .iter s1 (pos1 + widthAt s1 pos1)), (37, .cells [.row 38] 24)], [(38, ⟨35, (.pair (.int .i32) (.pair (.int .i64) (.pair (.int .i64) (.pair .bool .unit)))), t2⟩)]⟩) (orc := []) (ob := []) (by kernel_rfl) trivial ?_
        obtain ⟨v2, e3, h⟩ := bind_some h
        refine WL_callB hE (b_runes_Pieces_c1_i1 k) ((runeAt s1 pos1, (pos1 : Int), p1, p2, ()), t2) v2 e3 (ρ := [(37, 8), (38, 9)]) (ρ' := [(8, 37), (9, 38)]) (n := 8) (by kernel_rfl) [0, 1, 10, 35] [10, 37] [38] (by kernel_rfl) (by kernel_rfl) (st' := ⟨[(0, SS s1), (1, .clos 37 [37]), (10, .iter 10), (35, BB v2.1)], [(10, .iter s1 (pos1 + widthAt s1 pos1)), (37, .cells [.row 38] 24)], [(38, ⟨35, (.pair (.int .i32) (.pair (.int .i64) (.pair (.int .i64) (.pair .bool .unit)))), v2.2⟩)]⟩) (by kernel_rfl) ?_
        refine WL_all hE [0, 1, 10, 36] [10, 37] [38] (st' := ⟨[(0, SS s1), (1, .clos 37 [37]), (10, .iter 10), (36, BB (!v2.1))], [(10, .iter s1 (pos1 + widthAt s1 pos1)), (37, .cells [.row 38] 24)], [(38, ⟨35, (.pair (.int .i32) (.pair (.int .i64) (.pair (.int .i64) (.pair .bool .unit)))), v2.2⟩)]⟩) (orc := []) (ob := []) (by kernel_rfl) trivial ?_
        refine N_then ?_
        refine W_cond (b := !v2.1) (by kernel_rfl) (fun e4 => ?_) (fun e4 => ?_)
        · replace h := ite_t e4 h
          refine W_ret ?_
          refine N_block_ret ?_
          refine N_then_ret ?_
          refine N_block_ret ?_
          replace h := Option.some.inj h
          subst h
          refine N.norm (st' := ⟨[(1, .clos 37 [37])], [(37, .cells [.row 38] 24)], [(38, ⟨35, (.pair (.int .i32) (.pair (.int .i64) (.pair (.int .i64) (.pair .bool .unit)))), v2.2⟩)]⟩) (ks := [1]) (bs := [37]) (rs := [38]) ?_ (by kernel_rfl)
          exact N_endB hE.P [37] [38] (.inl rfl) (by kernel_rfl) (by kernel_rfl)
        · replace h := ite_f e4 h
          refine W_skip ?_
          refine N_block ?_
          refine N.norm (st' := ⟨[(0, SS s1), (1, .clos 37 [37]), (10, .iter 10)], [(10, .iter s1 (pos1 + widthAt s1 pos1)), (37, .cells [.row 38] 24)], [(38, ⟨35, (.pair (.int .i32) (.pair (.int .i64) (.pair (.int .i64) (.pair .bool .unit)))), v2.2⟩)]⟩) (ks := [0, 1, 10]) (bs := [10, 37]) (rs := [38]) ?_ (by kernel_rfl)
          exact N_round ((pos1 + widthAt s1 pos1), v2.2) (Nat.lt_succ_self _) h
      refine W_seq ?_
      refine W_region ?_
      refine WL_all hE [0, 1, 4, 6, 10, 21] [6, 10, 37] [38] (st' := ⟨[(0, SS s1), (1, .clos 37 [37]), (4, I64 (pos1 : Int)), (6, .ptr 6 0), (10, .iter 10), (21, BB ((runeAt s1 pos1) == (65533 : Int)))], [(6, .cells [I32 (runeAt s1 pos1), I64 (pos1 : Int), I64 v1, BB false] 35), (10, .iter s1 (pos1 + widthAt s1 pos1)), (37, .cells [.row 38] 24)], [(38, ⟨35, (.pair (.int .i32) (.pair (.int .i64) (.pair (.int .i64) (.pair .bool .unit)))), t2⟩)]⟩) (orc := []) (ob := []) (by kernel_rfl) trivial ?_
      refine N_then ?_
      refine W_cond (b := (runeAt s1 pos1) == (65533 : Int)) (by kernel_rfl) (fun e5 => ?_) (fun e5 => ?_)
      · replace h := ite_t e5 h
        refine W_seq ?_
        refine W_region ?_
        obtain ⟨s2, e6, h⟩ := bind_some h
        obtain ⟨v3, e7, h⟩ := bind_some h
        refine WL_all hE [0, 1, 6, 8, 10] [6, 10, 37] [38] (st' := ⟨[(0, SS s1), (1, .clos 37 [37]), (6, .ptr 6 0), (8, I64 v3.2), (10, .iter 10)], [(6, .cells [I32 (runeAt s1 pos1), I64 (pos1 : Int), I64 v1, BB false] 35), (10, .iter s1 (pos1 + widthAt s1 pos1)), (37, .cells [.row 38] 24)], [(38, ⟨35, (.pair (.int .i32) (.pair (.int .i64) (.pair (.int .i64) (.pair .bool .unit)))), t2⟩)]⟩) (orc := [tS s2, tI32 v3.1, tI64 v3.2]) (ob := [sub? s1 (pos1 : Int) (s1.length : Int) = some s2, utf8_DecodeRuneInString k s2 = some ((v3).1, (v3).2)]) (by kernel_rfl) ⟨e6, e7, trivial⟩ ?_
        refine N_then ?_
        refine W_seq ?_
        refine W_region ?_
        refine WL_all hE [0, 1, 6, 10, 30] [6, 10, 37] [38] (st' := ⟨[(0, SS s1), (1, .clos 37 [37]), (6, .ptr 6 0), (10, .iter 10), (30, BB (v3.2 == (1 : Int)))], [(6, .cells [I32 (runeAt s1 pos1), I64 (pos1 : Int), I64 v1, BB false] 35), (10, .iter s1 (pos1 + widthAt s1 pos1)), (37, .cells [.row 38] 24)], [(38, ⟨35, (.pair (.int .i32) (.pair (.int .i64) (.pair (.int .i64) (.pair .bool .unit)))), t2⟩)]⟩) (orc := []) (ob := []) (by kernel_rfl) trivial ?_
        refine N_then ?_
        refine W_cond (b := v3.2 == (1 : Int)) (by kernel_rfl) (fun e8 => ?_) (fun e8 => ?_)
        · replace h := ite_t e8 h
          refine W_region ?_
          refine WL_all hE [0, 1, 6, 10] [6, 10, 37] [38] (st' := ⟨[(0, SS s1), (1, .clos 37 [37]), (6, .ptr 6 0), (10, .iter 10)], [(6, .cells [I32 (runeAt s1 pos1), I64 (pos1 : Int), I64 (1 : Int), BB true] 35), (10, .iter s1 (pos1 + widthAt s1 pos1)), (37, .cells [.row 38] 24)], [(38, ⟨35, (.pair (.int .i32) (.pair (.int .i64) (.pair (.int .i64) (.pair .bool .unit)))), t2⟩)]⟩) (orc := []) (ob := []) (by kernel_rfl) trivial ?_
          exact hJ1 ((1 : Int), true) h
        · replace h := ite_f e8 h
          refine W_skip ?_
          refine N.norm (st' := ⟨[(0, SS s1), (1, .clos 37 [37]), (6, .ptr 6 0), (10, .iter 10)], [(6, .cells [I32 (runeAt s1 pos1), I64 (pos1 : Int), I64 v1, BB false] 35), (10, .iter s1 (pos1 + widthAt s1 pos1)), (37, .cells [.row 38] 24)], [(38, ⟨35, (.pair (.int .i32) (.pair (.int .i64) (.pair (.int .i64) (.pair .bool .unit)))), t2⟩)]⟩) (ks := [0, 1, 6, 10]) (bs := [6, 10, 37]) (rs := [38]) ?_ (by kernel_rfl)
          exact hJ1 (v1, false) h
      · replace h := ite_f e5 h
        refine W_skip ?_
        refine N.norm (st' := ⟨[(0, SS s1), (1, .clos 37 [37]), (6, .ptr 6 0), (10, .iter 10)], [(6, .cells [I32 (runeAt s1 pos1), I64 (pos1 : Int), I64 v1, BB false] 35), (10, .iter s1 (pos1 + widthAt s1 pos1)), (37, .cells [.row 38] 24)], [(38, ⟨35, (.pair (.int .i32) (.pair (.int .i64) (.pair (.int .i64) (.pair .bool .unit)))), t2⟩)]⟩) (ks := [0, 1, 6, 10]) (bs := [6, 10, 37]) (rs := [38]) ?_ (by kernel_rfl)
        exact hJ1 (v1, false) h
    · replace h := ite_f e1 h
      refine WL_tk hE 1 [0, 1, 10, 11] [10, 37] [38] (st' := ⟨[(0, SS s1), (1, .clos 37 [37]), (10, .iter 10), (11, .tup [tB false])], [(10, .iter s1 pos1), (37, .cells [.row 38] 24)], [(38, ⟨35, (.pair (.int .i32) (.pair (.int .i64) (.pair (.int .i64) (.pair .bool .unit)))), t2⟩)]⟩) (orc := [tB false]) (ob := [List.length s1 ≤ pos1]) (by kernel_rfl) ⟨Nat.le_of_not_lt (of_decide_eq_false e1), trivial⟩ ?_
      refine WL_all hE [0, 1, 10, 11, 12] [10, 37] [38] (st' := ⟨[(0, SS s1), (1, .clos 37 [37]), (10, .iter 10), (11, .tup [tB false]), (12, BB false)], [(10, .iter s1 pos1), (37, .cells [.row 38] 24)], [(38, ⟨35, (.pair (.int .i32) (.pair (.int .i64) (.pair (.int .i64) (.pair .bool .unit)))), t2⟩)]⟩) (orc := []) (ob := []) (by kernel_rfl) trivial ?_
      refine N_then ?_
      refine W_seq ?_
      refine W_cond_false (by kernel_rfl) ?_
      refine W_exit ?_
      refine N_then_exit ?_
      refine N_then_exit ?_
      refine N_block_exit ?_
      replace h := Option.some.inj h
      subst h
      refine N.norm (st' := ⟨[(1, .clos 37 [37])], [(37, .cells [.row 38] 24)], [(38, ⟨35, (.pair (.int .i32) (.pair (.int .i64) (.pair (.int .i64) (.pair .bool .unit)))), t2⟩)]⟩) (ks := [1]) (bs := [37]) (rs := [38]) ?_ (by kernel_rfl)
      exact N_endB hE.P [37] [38] (.inr rfl) (by kernel_rfl) (by kernel_rfl)

def C_runes_Pieces (k : Nat) : FnC := ⟨false, 2, [], fun | [⟨.str, s1⟩], [⟨(.sl (.pair (.int .i32) (.pair (.int .i64) (.pair (.int .i64) (.pair .bool .unit))))), rz1⟩, ⟨(.int .i64), rz2⟩] => runes_Pieces k s1 = some (rz1, rz2) | _, _ => False⟩
noncomputable def E_runes_Pieces (k : Nat) : Env := ⟨Tryd.prog, Gu, 15, [(35, C_runes_long k)]⟩
theorem c_runes_Pieces (k : Nat) : Contract Tryd.prog Gu 13 (C_runes_Pieces k) := by
  refine contract_of Gu_stable (fn := Tryd.f13) Tryd.func13 (by kernel_rfl) rfl ?_ ?_
  · intro xs rs h
    unfold C_runes_Pieces at h
    simp only at h
    split at h
    · exact ⟨by show 1 ≤ _; rw [Tryd.ntmps13]; decide, rfl, fun hf => by cases hf⟩
    · exact h.elim
  · intro w0 M xs rs hG h
    unfold C_runes_Pieces at h
    simp only at h
    split at h
    case h_2 => exact h.elim
    rename_i s1 rz1 rz2
    change List UInt8 at s1
    change List ((Int × Int × Int × Bool × Unit)) at rz1
    change Int at rz2
    have hE : EnvOK (E_runes_Pieces k) ⟨Tryd.prog, Tryd.f13.ntmps, w0, M, fun _ => False, fun _ => undef⟩ := (EnvOK.cons (c_runes_long k) (EnvOK.nil rfl Tryd.ntmps13 hG))
    unfold runes_Pieces at h
    refine W_seq ?_
    refine W_region ?_
    refine WL_all hE [0] [] [] (st' := ⟨[(0, SS s1)], [], []⟩) (orc := []) (ob := []) (by kernel_rfl) trivial ?_
    refine N_then ?_
    refine W_seq ?_
    refine W_seq ?_
    refine W_region ?_
    obtain ⟨v1, e1, h⟩ := bind_some h
    refine WL_all hE [0, 4] [] [] (st' := ⟨[(0, SS s1), (4, I64 v1)], [], []⟩) (orc := [tI64 v1]) (ob := [runes_long k s1 = some v1]) (by kernel_rfl) ⟨e1, trivial⟩ ?_
    refine N_then ?_
    refine W_seq ?_
    refine W_region ?_
    refine WL_all hE [0, 4, 9] [] [] (st' := ⟨[(0, SS s1), (4, I64 v1), (9, BB (v1 != (0 : Int)))], [], []⟩) (orc := []) (ob := []) (by kernel_rfl) trivial ?_
    refine N_then ?_
    refine W_cond (b := v1 != (0 : Int)) (by kernel_rfl) (fun e2 => ?_) (fun e2 => ?_)
    · replace h := ite_t e2 h
      refine W_seq ?_
      refine W_region ?_
      refine WL_all hE [2, 3] [] [2] (st' := ⟨[(2, .row 2), (3, I64 v1)], [], [(2, ⟨35, (.pair (.int .i32) (.pair (.int .i64) (.pair (.int .i64) (.pair .bool .unit)))), ([] : List ((Int × Int × Int × Bool × Unit)))⟩)]⟩) (orc := []) (ob := []) (by kernel_rfl) trivial ?_
      refine N_then ?_
      refine W_ret ?_
      refine N_then_ret ?_
      cases h
      exact N_end (.inl rfl) (by kernel_rfl)
    · replace h := ite_f e2 h
      refine W_skip ?_
      refine N_then ?_
      refine W_seq ?_
      refine W_region ?_
      refine WL_all hE [0, 5] [5] [1000005] (st' := ⟨[(0, SS s1), (5, .ptr 5 0)], [(5, .cells [.row 1000005] 24)], [(1000005, ⟨35, (.pair (.int .i32) (.pair (.int .i64) (.pair (.int .i64) (.pair .bool .unit)))), ([] : List ((Int × Int × Int × Bool × Unit)))⟩)]⟩) (orc := []) (ob := []) (by kernel_rfl) trivial ?_
      refine N_then ?_
      refine W_seq ?_
      refine W_region ?_
      refine WL_tk hE 2 [5, 11, 12] [5] [1000005] (st' := ⟨[(5, .ptr 5 0), (11, SS s1), (12, .clos 37 [5])], [(5, .cells [.row 1000005] 24)], [(1000005, ⟨35, (.pair (.int .i32) (.pair (.int .i64) (.pair (.int .i64) (.pair .bool .unit)))), ([] : List ((Int × Int × Int × Bool × Unit)))⟩)]⟩) (orc := []) (ob := []) (by kernel_rfl) trivial ?_
      obtain ⟨v2, e3, h⟩ := bind_some h
      refine WL_callB hE (b_runes_each_i1 k) (s1, ([] : List ((Int × Int × Int × Bool × Unit)))) v2 e3 (ρ := [(5, 37), (1000005, 38)]) (ρ' := [(37, 5), (38, 1000005)]) (n := 37) (by kernel_rfl) [5] [5] [1000005] (by kernel_rfl) (by kernel_rfl) (st' := ⟨[(5, .ptr 5 0)], [(5, .cells [.row 1000005] 24)], [(1000005, ⟨35, (.pair (.int .i32) (.pair (.int .i64) (.pair (.int .i64) (.pair .bool .unit)))), v2⟩)]⟩) (by kernel_rfl) ?_
      refine WL_nil ?_
      refine N_then ?_
      refine W_seq ?_
      refine W_region ?_
      refine WL_all hE [2, 3] [] [1000005] (st' := ⟨[(2, .row 1000005), (3, I64 (0 : Int))], [], [(1000005, ⟨35, (.pair (.int .i32) (.pair (.int .i64) (.pair (.int .i64) (.pair .bool .unit)))), v2⟩)]⟩) (orc := []) (ob := []) (by kernel_rfl) trivial ?_
      refine N_then ?_
      refine W_ret ?_
      cases h
      exact N_end (.inl rfl) (by kernel_rfl)

def C_runes_Less (k : Nat) : FnC := ⟨true, 1, [], fun | [⟨.str, a1⟩, ⟨.str, b1⟩], [⟨.bool, rz⟩] => runes_Less k a1 b1 = some rz | _, _ => False⟩
noncomputable def E_runes_Less (k : Nat) : Env := ⟨Tryd.prog, Gu, 69, [(25, C_unicode_utf8_DecodeRuneInString k)]⟩
theorem c_runes_Less (k : Nat) : Contract Tryd.prog Gu 10 (C_runes_Less k) := by
  refine contract_of Gu_stable (fn := Tryd.f10) Tryd.func10 (by kernel_rfl) rfl ?_ ?_
  · intro xs rs h
    unfold C_runes_Less at h
    simp only at h
    split at h
    · exact ⟨by show 2 ≤ _; rw [Tryd.ntmps10]; decide, rfl, fun _ u hu => by simp at hu; (rcases hu with rfl) <;> rfl⟩
    · exact h.elim
  · intro w0 M xs rs hG h
    unfold C_runes_Less at h
    simp only at h
    split at h
    case h_2 => exact h.elim
    rename_i a1 b1 rz
    change List UInt8 at a1
    change List UInt8 at b1
    change Bool at rz
    have hE : EnvOK (E_runes_Less k) ⟨Tryd.prog, Tryd.f10.ntmps, w0, M, fun _ => False, fun _ => undef⟩ := (EnvOK.cons (e_unicode_utf8_DecodeRuneInString k) (EnvOK.nil rfl Tryd.ntmps10 hG))
    unfold runes_Less at h
    refine W_seq ?_
    refine W_region ?_
    refine WL_all hE [0, 1] [] [] (st' := ⟨[(0, SS a1), (1, SS b1)], [], []⟩) (orc := []) (ob := []) (by kernel_rfl) trivial ?_
    refine N_then ?_
    refine W_seq ?_
    refine W_block ?_
    refine W_loop (α := (List UInt8 × List UInt8)) (fun n z => runes_Less_l1 k n z.1 z.2 = some rz) (fun z => ⟨[(0, SS (z.1)), (1, SS (z.2))], [], []⟩) ?_ (k := k) (x := (a1, b1)) h
    clear h
    rintro fuel1 ⟨a2, b2⟩ h
    cases fuel1 with
    | zero => exact absurd (show none = some _ from h) (by simp)
    | succ fuel1 =>
      have h : runes_Less_b1 k (runes_Less_l1 k fuel1) a2 b2 = some rz := h
      unfold runes_Less_b1 at h
      refine W_seq ?_
      refine W_seq ?_
      refine W_region ?_
      refine WL_tk hE 3 [0, 1, 13] [] [] (st' := ⟨[(0, SS a2), (1, SS b2), (13, BB (!(a2 == ([] : List UInt8))))], [], []⟩) (orc := []) (ob := []) (by kernel_rfl) trivial ?_
      refine WL_join (α := Bool) (fun z => runes_Less_j1 k a2 b2 (runes_Less_l1 k fuel1) z = some rz) (fun t1 => ⟨[(0, SS a2), (1, SS b2), (16, BB t1)], [], []⟩) 3 ?_ (fun hJ1 => ?_)
      · rintro t1 h
        unfold runes_Less_j1 at h
        refine WL_nil ?_
        refine N_then ?_
        refine W_cond (b := t1) (by kernel_rfl) (fun e1 => ?_) (fun e1 => ?_)
        · replace h := ite_t e1 h
          refine W_skip ?_
          refine N_then ?_
          refine W_block ?_
          refine W_seq ?_
          refine W_region ?_
          obtain ⟨v1, e2, h⟩ := bind_some h
          refine WL_all hE [0, 1, 5, 6] [] [] (st' := ⟨[(0, SS a2), (1, SS b2), (5, I32 v1.1), (6, I64 v1.2)], [], []⟩) (orc := [tI32 v1.1, tI64 v1.2]) (ob := [utf8_DecodeRuneInString k a2 = some ((v1).1, (v1).2)]) (by kernel_rfl) ⟨e2, trivial⟩ ?_
          refine N_then ?_
          refine W_seq ?_
          refine W_region ?_
          obtain ⟨v2, e3, h⟩ := bind_some h
          refine WL_all hE [0, 1, 5, 6, 7, 8] [] [] (st' := ⟨[(0, SS a2), (1, SS b2), (5, I32 v1.1), (6, I64 v1.2), (7, I32 v2.1), (8, I64 v2.2)], [], []⟩) (orc := [tI32 v2.1, tI64 v2.2]) (ob := [utf8_DecodeRuneInString k b2 = some ((v2).1, (v2).2)]) (by kernel_rfl) ⟨e3, trivial⟩ ?_
          refine N_then ?_
          refine W_seq ?_
          refine W_region ?_
          refine WL_all hE [0, 1, 5, 6, 7, 8, 9, 10] [] [] (st' := ⟨[(0, SS a2), (1, SS b2), (5, I32 v1.1), (6, I64 v1.2), (7, I32 v2.1), (8, I64 v2.2), (9, I64 (wi64 v1.1)), (10, I64 (wi64 v2.1))], [], []⟩) (orc := []) (ob := []) (by kernel_rfl) trivial ?_
          refine N_then ?_
          refine W_join (α := Int) (fun z => runes_Less_j2 b2 a2 v1 v2 (runes_Less_l1 k fuel1) z = some rz) (fun x1 => ⟨[(0, SS a2), (1, SS b2), (6, I64 v1.2), (7, I32 v2.1), (8, I64 v2.2), (9, I64 x1), (10, I64 (wi64 v2.1))], [], []⟩) ?_ (fun hJ4 => ?_)
          · rintro x1 h
            unfold runes_Less_j2 at h
            refine W_join (α := Int) (fun z => runes_Less_j3 x1 a2 v1 b2 v2 (runes_Less_l1 k fuel1) z = some rz) (fun y1 => ⟨[(0, SS a2), (1, SS b2), (6, I64 v1.2), (8, I64 v2.2), (9, I64 x1), (10, I64 y1)], [], []⟩) ?_ (fun hJ3 => ?_)
            · rintro y1 h
              unfold runes_Less_j3 at h
              refine W_seq ?_
              refine W_seq ?_
              refine W_region ?_
              refine WL_all hE [0, 1, 6, 8, 9, 10, 53] [] [] (st' := ⟨[(0, SS a2), (1, SS b2), (6, I64 v1.2), (8, I64 v2.2), (9, I64 x1), (10, I64 y1), (53, BB (x1 != y1))], [], []⟩) (orc := []) (ob := []) (by kernel_rfl) trivial ?_
              refine N_then ?_
              refine W_cond (b := x1 != y1) (by kernel_rfl) (fun e4 => ?_) (fun e4 => ?_)
              · replace h := ite_t e4 h
                refine W_seq ?_
                refine W_region ?_
                refine WL_all hE [4] [] [] (st' := ⟨[(4, BB (decide (x1 < y1)))], [], []⟩) (orc := []) (ob := []) (by kernel_rfl) trivial ?_
                refine N_then ?_
                refine W_ret ?_
                refine N_then_ret ?_
                refine N_block_ret ?_
                refine N_then_ret ?_
                refine N_block_ret ?_
                refine N_then_ret ?_
                cases h
                exact N_end (.inl rfl) (by kernel_rfl)
              · replace h := ite_f e4 h
                refine W_skip ?_
                refine N_then ?_
                refine W_draw (by kernel_rfl) (by kernel_rfl) ?_
                obtain ⟨s1, e5, h⟩ := bind_some h
                obtain ⟨s2, e6, h⟩ := bind_some h
                refine WD_all hE [0, 1] [] [] (st' := ⟨[(0, SS s1), (1, SS s2)], [], []⟩) (orc := [tS s1, tS s2]) (ob := [sub? a2 v1.2 (a2.length : Int) = some s1, sub? b2 v2.2 (b2.length : Int) = some s2]) (by kernel_rfl) ⟨e5, e6, trivial⟩ ?_
                refine N_block ?_
                exact N_round (s1, s2) (Nat.lt_succ_self _) h
            refine W_seq ?_
            refine W_region ?_
            refine WL_tk hE 3 [0, 1, 6, 8, 9, 10, 43] [] [] (st' := ⟨[(0, SS a2), (1, SS b2), (6, I64 v1.2), (8, I64 v2.2), (9, I64 x1), (10, I64 (wi64 v2.1)), (43, BB (v2.1 == (65533 : Int)))], [], []⟩) (orc := []) (ob := []) (by kernel_rfl) trivial ?_
            refine WL_join (α := Bool) (fun z => runes_Less_j4 b2 x1 a2 v1 v2 (runes_Less_l1 k fuel1) z = some rz) (fun t2 => ⟨[(0, SS a2), (1, SS b2), (6, I64 v1.2), (8, I64 v2.2), (9, I64 x1), (10, I64 (wi64 v2.1)), (46, BB t2)], [], []⟩) 3 ?_ (fun hJ4 => ?_)
            · rintro t2 h
              unfold runes_Less_j4 at h
              refine WL_nil ?_
              refine N_then ?_
              refine W_cond (b := t2) (by kernel_rfl) (fun e7 => ?_) (fun e7 => ?_)
              · replace h := ite_t e7 h
                refine W_region ?_
                obtain ⟨b3, e8, h⟩ := bind_some h
                refine WL_all hE [0, 1, 6, 8, 9, 10] [] [] (st' := ⟨[(0, SS a2), (1, SS b2), (6, I64 v1.2), (8, I64 v2.2), (9, I64 x1), (10, I64 (wi64 ((1114112 : Int) + (wi64 b3))))], [], []⟩) (orc := [tU8 b3]) (ob := [byteAt b2 (0 : Int) = some b3]) (by kernel_rfl) ⟨e8, trivial⟩ ?_
                exact hJ3 (wi64 ((1114112 : Int) + (wi64 b3))) h
              · replace h := ite_f e7 h
                refine W_skip ?_
                refine N.norm (st' := ⟨[(0, SS a2), (1, SS b2), (6, I64 v1.2), (8, I64 v2.2), (9, I64 x1), (10, I64 (wi64 v2.1))], [], []⟩) (ks := [0, 1, 6, 8, 9, 10]) (bs := []) (rs := []) ?_ (by kernel_rfl)
                exact hJ3 (wi64 v2.1) h
            refine WL_split (fun g => ⟨[(0, SS a2), (1, SS b2), (6, I64 v1.2), (8, I64 v2.2), (9, I64 x1), (10, I64 (wi64 v2.1)), (43, BB g)], [], []⟩) (b := v2.1 == (65533 : Int)) (fun e9 => ?_) (fun e9 => ?_)
            · rw [and_t e9] at h
              refine WL_all hE [0, 1, 6, 8, 9, 10, 46] [] [] (st' := ⟨[(0, SS a2), (1, SS b2), (6, I64 v1.2), (8, I64 v2.2), (9, I64 x1), (10, I64 (wi64 v2.1)), (46, BB (v2.2 == (1 : Int)))], [], []⟩) (orc := []) (ob := []) (by kernel_rfl) trivial ?_
              exact hJ4 (v2.2 == (1 : Int)) h
            · rw [and_f e9] at h
              refine WL_all hE [0, 1, 6, 8, 9, 10, 46] [] [] (st' := ⟨[(0, SS a2), (1, SS b2), (6, I64 v1.2), (8, I64 v2.2), (9, I64 x1), (10, I64 (wi64 v2.1)), (46, BB false)], [], []⟩) (orc := []) (ob := []) (by kernel_rfl) trivial ?_
              exact hJ4 false h
          refine W_seq ?_
          refine W_region ?_
          refine WL_tk hE 3 [0, 1, 6, 7, 8, 9, 10, 33] [] [] (st' := ⟨[(0, SS a2), (1, SS b2), (6, I64 v1.2), (7, I32 v2.1), (8, I64 v2.2), (9, I64 (wi64 v1.1)), (10, I64 (wi64 v2.1)), (33, BB (v1.1 == (65533 : Int)))], [], []⟩) (orc := []) (ob := []) (by kernel_rfl) trivial ?_
          refine WL_join (α := Bool) (fun z => runes_Less_j5 a2 b2 v1 v2 (runes_Less_l1 k fuel1) z = some rz) (fun t3 => ⟨[(0, SS a2), (1, SS b2), (6, I64 v1.2), (7, I32 v2.1), (8, I64 v2.2), (9, I64 (wi64 v1.1)), (10, I64 (wi64 v2.1)), (36, BB t3)], [], []⟩) 3 ?_ (fun hJ5 => ?_)
          · rintro t3 h
            unfold runes_Less_j5 at h
            refine WL_nil ?_
            refine N_then ?_
            refine W_cond (b := t3) (by kernel_rfl) (fun e10 => ?_) (fun e10 => ?_)
            · replace h := ite_t e10 h
              refine W_region ?_
              obtain ⟨b4, e11, h⟩ := bind_some h
              refine WL_all hE [0, 1, 6, 7, 8, 9, 10] [] [] (st' := ⟨[(0, SS a2), (1, SS b2), (6, I64 v1.2), (7, I32 v2.1), (8, I64 v2.2), (9, I64 (wi64 ((1114112 : Int) + (wi64 b4)))), (10, I64 (wi64 v2.1))], [], []⟩) (orc := [tU8 b4]) (ob := [byteAt a2 (0 : Int) = some b4]) (by kernel_rfl) ⟨e11, trivial⟩ ?_
              exact hJ4 (wi64 ((1114112 : Int) + (wi64 b4))) h
            · replace h := ite_f e10 h
              refine W_skip ?_
              refine N.norm (st' := ⟨[(0, SS a2), (1, SS b2), (6, I64 v1.2), (7, I32 v2.1), (8, I64 v2.2), (9, I64 (wi64 v1.1)), (10, I64 (wi64 v2.1))], [], []⟩) (ks := [0, 1, 6, 7, 8, 9, 10]) (bs := []) (rs := []) ?_ (by kernel_rfl)
              exact hJ4 (wi64 v1.1) h
          refine WL_split (fun g => ⟨[(0, SS a2), (1, SS b2), (6, I64 v1.2), (7, I32 v2.1), (8, I64 v2.2), (9, I64 (wi64 v1.1)), (10, I64 (wi64 v2.1)), (33, BB g)], [], []⟩) (b := v1.1 == (65533 : Int)) (fun e12 => ?_) (fun e12 => ?_)
          · rw [and_t e12] at h
            refine WL_all hE [0, 1, 6, 7, 8, 9, 10, 36] [] [] (st' := ⟨[(0, SS a2), (1, SS b2), (6, I64 v1.2), (7, I32 v2.1), (8, I64 v2.2), (9, I64 (wi64 v1.1)), (10, I64 (wi64 v2.1)), (36, BB (v1.2 == (1 : Int)))], [], []⟩) (orc := []) (ob := []) (by kernel_rfl) trivial ?_
            exact hJ5 (v1.2 == (1 : Int)) h
          · rw [and_f e12] at h
            refine WL_all hE [0, 1, 6, 7, 8, 9, 10, 36] [] [] (st' := ⟨[(0, SS a2), (1, SS b2), (6, I64 v1.2), (7, I32 v2.1), (8, I64 v2.2), (9, I64 (wi64 v1.1)), (10, I64 (wi64 v2.1)), (36, BB false)], [], []⟩) (orc := []) (ob := []) (by kernel_rfl) trivial ?_
            exact hJ5 false h
        · replace h := ite_f e1 h
          refine W_exit ?_
          refine N_then_exit ?_
          refine N_then_exit ?_
          refine N_block_exit ?_
          refine N_then ?_
          refine W_seq ?_
          refine W_region ?_
          refine WL_tk hE 3 [1, 65] [] [] (st' := ⟨[(1, SS b2), (65, BB (a2 == ([] : List UInt8)))], [], []⟩) (orc := []) (ob := []) (by kernel_rfl) trivial ?_
          refine WL_join (α := Bool) (fun z => runes_Less_j6 z = some rz) (fun t4 => ⟨[(68, BB t4)], [], []⟩) 3 ?_ (fun hJ6 => ?_)
          · rintro t4 h
            unfold runes_Less_j6 at h
            refine WL_all hE [4] [] [] (st' := ⟨[(4, BB t4)], [], []⟩) (orc := []) (ob := []) (by kernel_rfl) trivial ?_
            refine N_then ?_
            refine W_ret ?_
            cases h
            exact N_end (.inl rfl) (by kernel_rfl)
          refine WL_split (fun g => ⟨[(1, SS b2), (65, BB g)], [], []⟩) (b := a2 == ([] : List UInt8)) (fun e13 => ?_) (fun e13 => ?_)
          · rw [and_t e13] at h
            refine WL_all hE [68] [] [] (st' := ⟨[(68, BB (!(b2 == ([] : List UInt8))))], [], []⟩) (orc := []) (ob := []) (by kernel_rfl) trivial ?_
            exact hJ6 (!(b2 == ([] : List UInt8))) h
          · rw [and_f e13] at h
            refine WL_all hE [68] [] [] (st' := ⟨[(68, BB false)], [], []⟩) (orc := []) (ob := []) (by kernel_rfl) trivial ?_
            exact hJ6 false h
      refine WL_split (fun g => ⟨[(0, SS a2), (1, SS b2), (13, BB g)], [], []⟩) (b := !(a2 == ([] : List UInt8))) (fun e14 => ?_) (fun e14 => ?_)
      · rw [and_t e14] at h
        refine WL_all hE [0, 1, 16] [] [] (st' := ⟨[(0, SS a2), (1, SS b2), (16, BB (!(b2 == ([] : List UInt8))))], [], []⟩) (orc := []) (ob := []) (by kernel_rfl) trivial ?_
        exact hJ1 (!(b2 == ([] : List UInt8))) h
      · rw [and_f e14] at h
        refine WL_all hE [0, 1, 16] [] [] (st' := ⟨[(0, SS a2), (1, SS b2), (16, BB false)], [], []⟩) (orc := []) (ob := []) (by kernel_rfl) trivial ?_
        exact hJ1 false h

def C_l01_alive (k : Nat) : FnC := ⟨true, 1, [], fun | [], [⟨.bool, rz⟩] => l01_alive k = some rz | _, _ => False⟩
noncomputable def E_l01_alive (k : Nat) : Env := ⟨Tryd.prog, Gu, 50, [(13, C_runes_Pieces k), (27, C_runes_Quote k), (10, C_runes_Less k), (26, C_runes_Text k)]⟩
theorem c_l01_alive (k : Nat) : Contract Tryd.prog Gu 24 (C_l01_alive k) := by
  refine contract_of Gu_stable (fn := Tryd.f24) Tryd.func24 (by kernel_rfl) rfl ?_ ?_
  · intro xs rs h
    unfold C_l01_alive at h
    simp only at h
    split at h
    · exact ⟨by show 0 ≤ _; rw [Tryd.ntmps24]; decide, rfl, fun _ u hu => by simp at hu; (rcases hu with rfl) <;> rfl⟩
    · exact h.elim
  · intro w0 M xs rs hG h
    unfold C_l01_alive at h
    simp only at h
    split at h
    case h_2 => exact h.elim
    rename_i rz
    change Bool at rz
    have hE : EnvOK (E_l01_alive k) ⟨Tryd.prog, Tryd.f24.ntmps, w0, M, fun _ => False, fun _ => undef⟩ := (EnvOK.cons (c_runes_Pieces k) (EnvOK.cons (c_runes_Quote k) (EnvOK.cons (c_runes_Less k) (EnvOK.cons (c_runes_Text k) (EnvOK.nil rfl Tryd.ntmps24 hG)))))
    unfold l01_alive at h
    refine W_seq ?_
    refine W_region ?_
    refine WL_all hE [] [] [] (st' := ⟨[], [], []⟩) (orc := []) (ob := []) (by kernel_rfl) trivial ?_
    refine N_then ?_
    refine W_seq ?_
    refine W_region ?_
    obtain ⟨v1, e1, h⟩ := bind_some h
    refine WL_all hE [1, 2] [] [] (st' := ⟨[(1, .val (.sl (.pair (.int .i32) (.pair (.int .i64) (.pair (.int .i64) (.pair .bool .unit))))) v1.1), (2, I64 v1.2)], [], []⟩) (orc := [⟨(.sl (.pair (.int .i32) (.pair (.int .i64) (.pair (.int .i64) (.pair .bool .unit))))), v1.1⟩, tI64 v1.2]) (ob := [runes_Pieces k ([97, 255] : List UInt8) = some ((v1).1, (v1).2)]) (by kernel_rfl) ⟨e1, trivial⟩ ?_
    refine N_then ?_
    refine W_seq ?_
    refine W_region ?_
    obtain ⟨v2, e2, h⟩ := bind_some h
    refine WL_all hE [1, 2, 3, 4] [] [] (st' := ⟨[(1, .val (.sl (.pair (.int .i32) (.pair (.int .i64) (.pair (.int .i64) (.pair .bool .unit))))) v1.1), (2, I64 v1.2), (3, SS v2.1), (4, I64 v2.2)], [], []⟩) (orc := [tS v2.1, tI64 v2.2]) (ob := [runes_Quote k ([97, 255] : List UInt8) = some ((v2).1, (v2).2)]) (by kernel_rfl) ⟨e2, trivial⟩ ?_
    refine N_then ?_
    refine W_seq ?_
    refine W_region ?_
    refine WL_tk hE 3 [1, 3, 4, 15] [] [] (st' := ⟨[(1, .val (.sl (.pair (.int .i32) (.pair (.int .i64) (.pair (.int .i64) (.pair .bool .unit))))) v1.1), (3, SS v2.1), (4, I64 v2.2), (15, BB (v1.2 == (0 : Int)))], [], []⟩) (orc := []) (ob := []) (by kernel_rfl) trivial ?_
    refine WL_join (α := Bool) (fun z => l01_alive_j1 k v1 v2 z = some rz) (fun t1 => ⟨[(1, .val (.sl (.pair (.int .i32) (.pair (.int .i64) (.pair (.int .i64) (.pair .bool .unit))))) v1.1), (3, SS v2.1), (4, I64 v2.2), (19, BB t1)], [], []⟩) 4 ?_ (fun hJ1 => ?_)
    · rintro t1 h
      unfold l01_alive_j1 at h
      refine WL_tk hE 1 [1, 3, 4, 20] [] [] (st' := ⟨[(1, .val (.sl (.pair (.int .i32) (.pair (.int .i64) (.pair (.int .i64) (.pair .bool .unit))))) v1.1), (3, SS v2.1), (4, I64 v2.2), (20, BB t1)], [], []⟩) (orc := []) (ob := []) (by kernel_rfl) trivial ?_
      refine WL_join (α := Bool) (fun z => l01_alive_j2 k v1 v2 z = some rz) (fun t2 => ⟨[(1, .val (.sl (.pair (.int .i32) (.pair (.int .i64) (.pair (.int .i64) (.pair .bool .unit))))) v1.1), (3, SS v2.1), (4, I64 v2.2), (26, BB t2)], [], []⟩) 6 ?_ (fun hJ2 => ?_)
      · rintro t2 h
        unfold l01_alive_j2 at h
        refine WL_tk hE 1 [1, 3, 4, 27] [] [] (st' := ⟨[(1, .val (.sl (.pair (.int .i32) (.pair (.int .i64) (.pair (.int .i64) (.pair .bool .unit))))) v1.1), (3, SS v2.1), (4, I64 v2.2), (27, BB t2)], [], []⟩) (orc := []) (ob := []) (by kernel_rfl) trivial ?_
        refine WL_join (α := Bool) (fun z => l01_alive_j3 k v2 z = some rz) (fun t3 => ⟨[(3, SS v2.1), (4, I64 v2.2), (33, BB t3)], [], []⟩) 6 ?_ (fun hJ3 => ?_)
        · rintro t3 h
          unfold l01_alive_j3 at h
          refine WL_tk hE 1 [3, 4, 34] [] [] (st' := ⟨[(3, SS v2.1), (4, I64 v2.2), (34, BB t3)], [], []⟩) (orc := []) (ob := []) (by kernel_rfl) trivial ?_
          refine WL_join (α := Bool) (fun z => l01_alive_j4 k v2 z = some rz) (fun t4 => ⟨[(3, SS v2.1), (37, BB t4)], [], []⟩) 3 ?_ (fun hJ4 => ?_)
          · rintro t4 h
            unfold l01_alive_j4 at h
            refine WL_tk hE 1 [3, 38] [] [] (st' := ⟨[(3, SS v2.1), (38, BB t4)], [], []⟩) (orc := []) (ob := []) (by kernel_rfl) trivial ?_
            refine WL_join (α := Bool) (fun z => l01_alive_j5 k z = some rz) (fun t5 => ⟨[(41, BB t5)], [], []⟩) 3 ?_ (fun hJ5 => ?_)
            · rintro t5 h
              unfold l01_alive_j5 at h
              refine WL_tk hE 1 [42] [] [] (st' := ⟨[(42, BB t5)], [], []⟩) (orc := []) (ob := []) (by kernel_rfl) trivial ?_
              refine WL_join (α := Bool) (fun z => l01_alive_j6 k z = some rz) (fun t6 => ⟨[(46, BB t6)], [], []⟩) 4 ?_ (fun hJ6 => ?_)
              · rintro t6 h
                unfold l01_alive_j6 at h
                refine WL_tk hE 1 [47] [] [] (st' := ⟨[(47, BB t6)], [], []⟩) (orc := []) (ob := []) (by kernel_rfl) trivial ?_
                refine WL_join (α := Bool) (fun z => l01_alive_j7 z = some rz) (fun t7 => ⟨[(49, BB t7)], [], []⟩) 2 ?_ (fun hJ7 => ?_)
                · rintro t7 h
                  unfold l01_alive_j7 at h
                  refine WL_all hE [0] [] [] (st' := ⟨[(0, BB t7)], [], []⟩) (orc := []) (ob := []) (by kernel_rfl) trivial ?_
                  refine N_then ?_
                  refine W_ret ?_
                  cases h
                  exact N_end (.inl rfl) (by kernel_rfl)
                refine WL_split (fun g => ⟨[(47, BB g)], [], []⟩) (b := t6) (fun e3 => ?_) (fun e3 => ?_)
                · replace h := ite_t e3 h
                  obtain ⟨v3, e4, h⟩ := bind_some h
                  refine WL_all hE [49] [] [] (st' := ⟨[(49, BB v3)], [], []⟩) (orc := [tB v3]) (ob := [runes_Less k ([97] : List UInt8) ([98] : List UInt8) = some v3]) (by kernel_rfl) ⟨e4, trivial⟩ ?_
                  exact hJ7 v3 h
                · replace h := ite_f e3 h
                  refine WL_all hE [49] [] [] (st' := ⟨[(49, BB false)], [], []⟩) (orc := []) (ob := []) (by kernel_rfl) trivial ?_
                  exact hJ7 false h
              refine WL_split (fun g => ⟨[(42, BB g)], [], []⟩) (b := t5) (fun e5 => ?_) (fun e5 => ?_)
              · replace h := ite_t e5 h
                obtain ⟨v4, e6, h⟩ := bind_some h
                refine WL_all hE [46] [] [] (st' := ⟨[(46, BB (v4 == ([97] : List UInt8)))], [], []⟩) (orc := [tS v4]) (ob := [runes_Text k ([(97 : Int)] : List (Int)) = some v4]) (by kernel_rfl) ⟨e6, trivial⟩ ?_
                exact hJ6 (v4 == ([97] : List UInt8)) h
              · replace h := ite_f e5 h
                refine WL_all hE [46] [] [] (st' := ⟨[(46, BB false)], [], []⟩) (orc := []) (ob := []) (by kernel_rfl) trivial ?_
                exact hJ6 false h
            refine WL_split (fun g => ⟨[(3, SS v2.1), (38, BB g)], [], []⟩) (b := t4) (fun e7 => ?_) (fun e7 => ?_)
            · rw [and_t e7] at h
              refine WL_all hE [41] [] [] (st' := ⟨[(41, BB (v2.1 == ([34, 97, 92, 120, 102, 102, 34] : List UInt8)))], [], []⟩) (orc := []) (ob := []) (by kernel_rfl) trivial ?_
              exact hJ5 (v2.1 == ([34, 97, 92, 120, 102, 102, 34] : List UInt8)) h
            · rw [and_f e7] at h
              refine WL_all hE [41] [] [] (st' := ⟨[(41, BB false)], [], []⟩) (orc := []) (ob := []) (by kernel_rfl) trivial ?_
              exact hJ5 false h
          refine WL_split (fun g => ⟨[(3, SS v2.1), (4, I64 v2.2), (34, BB g)], [], []⟩) (b := t3) (fun e8 => ?_) (fun e8 => ?_)
          · rw [and_t e8] at h
            refine WL_all hE [3, 37] [] [] (st' := ⟨[(3, SS v2.1), (37, BB (v2.2 == (0 : Int)))], [], []⟩) (orc := []) (ob := []) (by kernel_rfl) trivial ?_
            exact hJ4 (v2.2 == (0 : Int)) h
          · rw [and_f e8] at h
            refine WL_all hE [3, 37] [] [] (st' := ⟨[(3, SS v2.1), (37, BB false)], [], []⟩) (orc := []) (ob := []) (by kernel_rfl) trivial ?_
            exact hJ4 false h
        refine WL_split (fun g => ⟨[(1, .val (.sl (.pair (.int .i32) (.pair (.int .i64) (.pair (.int .i64) (.pair .bool .unit))))) v1.1), (3, SS v2.1), (4, I64 v2.2), (27, BB g)], [], []⟩) (b := t2) (fun e9 => ?_) (fun e9 => ?_)
        · replace h := ite_t e9 h
          obtain ⟨x1, e10, h⟩ := bind_some h
          refine WL_all hE [3, 4, 33] [] [] (st' := ⟨[(3, SS v2.1), (4, I64 v2.2), (33, BB ((eqInt x1.1 (65533 : Int)) && ((eqInt x1.2.1 (1 : Int)) && ((eqInt x1.2.2.1 (1 : Int)) && ((eqBool x1.2.2.2.1 true) && (true))))))], [], []⟩) (orc := [⟨(.pair (.int .i32) (.pair (.int .i64) (.pair (.int .i64) (.pair .bool .unit)))), x1⟩]) (ob := [at? v1.1 (1 : Int) = some x1]) (by kernel_rfl) ⟨e10, trivial⟩ ?_
          exact hJ3 ((eqInt x1.1 (65533 : Int)) && ((eqInt x1.2.1 (1 : Int)) && ((eqInt x1.2.2.1 (1 : Int)) && ((eqBool x1.2.2.2.1 true) && (true))))) h
        · replace h := ite_f e9 h
          refine WL_all hE [3, 4, 33] [] [] (st' := ⟨[(3, SS v2.1), (4, I64 v2.2), (33, BB false)], [], []⟩) (orc := []) (ob := []) (by kernel_rfl) trivial ?_
          exact hJ3 false h
      refine WL_split (fun g => ⟨[(1, .val (.sl (.pair (.int .i32) (.pair (.int .i64) (.pair (.int .i64) (.pair .bool .unit))))) v1.1), (3, SS v2.1), (4, I64 v2.2), (20, BB g)], [], []⟩) (b := t1) (fun e11 => ?_) (fun e11 => ?_)
      · replace h := ite_t e11 h
        obtain ⟨x2, e12, h⟩ := bind_some h
        refine WL_all hE [1, 3, 4, 26] [] [] (st' := ⟨[(1, .val (.sl (.pair (.int .i32) (.pair (.int .i64) (.pair (.int .i64) (.pair .bool .unit))))) v1.1), (3, SS v2.1), (4, I64 v2.2), (26, BB ((eqInt x2.1 (97 : Int)) && ((eqInt x2.2.1 (0 : Int)) && ((eqInt x2.2.2.1 (1 : Int)) && ((eqBool x2.2.2.2.1 false) && (true))))))], [], []⟩) (orc := [⟨(.pair (.int .i32) (.pair (.int .i64) (.pair (.int .i64) (.pair .bool .unit)))), x2⟩]) (ob := [at? v1.1 (0 : Int) = some x2]) (by kernel_rfl) ⟨e12, trivial⟩ ?_
        exact hJ2 ((eqInt x2.1 (97 : Int)) && ((eqInt x2.2.1 (0 : Int)) && ((eqInt x2.2.2.1 (1 : Int)) && ((eqBool x2.2.2.2.1 false) && (true))))) h
      · replace h := ite_f e11 h
        refine WL_all hE [1, 3, 4, 26] [] [] (st' := ⟨[(1, .val (.sl (.pair (.int .i32) (.pair (.int .i64) (.pair (.int .i64) (.pair .bool .unit))))) v1.1), (3, SS v2.1), (4, I64 v2.2), (26, BB false)], [], []⟩) (orc := []) (ob := []) (by kernel_rfl) trivial ?_
        exact hJ2 false h
    refine WL_split (fun g => ⟨[(1, .val (.sl (.pair (.int .i32) (.pair (.int .i64) (.pair (.int .i64) (.pair .bool .unit))))) v1.1), (3, SS v2.1), (4, I64 v2.2), (15, BB g)], [], []⟩) (b := v1.2 == (0 : Int)) (fun e13 => ?_) (fun e13 => ?_)
    · rw [and_t e13] at h
      refine WL_all hE [1, 3, 4, 19] [] [] (st' := ⟨[(1, .val (.sl (.pair (.int .i32) (.pair (.int .i64) (.pair (.int .i64) (.pair .bool .unit))))) v1.1), (3, SS v2.1), (4, I64 v2.2), (19, BB ((List.length v1.1 : Int) == (2 : Int)))], [], []⟩) (orc := []) (ob := []) (by kernel_rfl) trivial ?_
      exact hJ1 ((List.length v1.1 : Int) == (2 : Int)) h
    · rw [and_f e13] at h
      refine WL_all hE [1, 3, 4, 19] [] [] (st' := ⟨[(1, .val (.sl (.pair (.int .i32) (.pair (.int .i64) (.pair (.int .i64) (.pair .bool .unit))))) v1.1), (3, SS v2.1), (4, I64 v2.2), (19, BB false)], [], []⟩) (orc := []) (ob := []) (by kernel_rfl) trivial ?_
      exact hJ1 false h

end Go.Ev
