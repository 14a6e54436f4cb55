/- The layouts of library functions at this program, as the kit's own tool wrote them. -/
import Derived.Test.YtmelekiophkpiaaDoorProg
import Derived.Shelf.Strings.Repeat
import Derived.Shelf.Slices.Reverse
import Derived.KernelRfl
import Derived.Test.YtmelekiophkpiaaDoorME3
import Derived.WalkKit
import Derived.Lib.Strings
import Derived.Lib.Walk
import Derived.Lib.Builder
import Derived.Lib.UnsafeStr
import Derived.Laws.Externs
import Derived.Shelf.RegionOpenPlain
namespace Go.Ev
open Go Go.Proofs Go.Shelf
set_option maxRecDepth 100000
def Llays105_ren : Go.Shelf.Ren := ⟨fun | 105 => 17 | 212 => 23 | 99 => 24 | 165 => 25 | 166 => 16 | 170 => 26 | 169 => 18 | 263 => 31 | 264 => 32 | 206 => 33 | 240 => 22 | 241 => 34 | 276 => 30 | 277 => 40 | n => n, fun | 9 => 9 | 3 => 3 | 4 => 4 | 20 => 20 | 0 => 0 | 46 => 66 | 109 => 67 | 5 => 5 | 72 => 52 | 76 => 56 | 51 => 60 | 146 => 78 | 53 => 80 | 148 => 81 | 70 => 49 | 37 => 50 | 75 => 55 | 127 => 72 | 164 => 76 | 80 => 59 | n => n, fun | n => n⟩
theorem Llays105 : Go.Proofs.Lays.n105 Tryd.prog Llays105_ren := {
  mixed := by kernel_rfl
  f99 := Tryd.func24.trans (congrArg some (by kernel_rfl))
  f105 := Tryd.func17.trans (congrArg some (by kernel_rfl))
  f165 := Tryd.func25.trans (congrArg some (by kernel_rfl))
  f166 := Tryd.func16.trans (congrArg some (by kernel_rfl))
  f169 := Tryd.func18.trans (congrArg some (by kernel_rfl))
  f170 := Tryd.func26.trans (congrArg some (by kernel_rfl))
  f206 := Tryd.func33.trans (congrArg some (by kernel_rfl))
  f212 := Tryd.func23.trans (congrArg some (by kernel_rfl))
  f240 := Tryd.func22.trans (congrArg some (by kernel_rfl))
  f241 := Tryd.func34.trans (congrArg some (by kernel_rfl))
  f263 := Tryd.func31.trans (congrArg some (by kernel_rfl))
  f264 := Tryd.func32.trans (congrArg some (by kernel_rfl))
  f276 := Tryd.func30.trans (congrArg some (by kernel_rfl))
  f277 := Tryd.func40.trans (congrArg some (by kernel_rfl))
  t0 := Tryd.underlying0
  a0 := Tryd.isAgg0
  z0 := Tryd.sizeOf0
  v0 := Tryd.zeroValue0
  t3 := Tryd.underlying3
  a3 := Tryd.isAgg3
  z3 := Tryd.sizeOf3
  v3 := Tryd.zeroValue3
  t4 := Tryd.underlying4
  a4 := Tryd.isAgg4
  z4 := Tryd.sizeOf4
  v4 := Tryd.zeroValue4
  t5 := Tryd.underlying5
  a5 := Tryd.isAgg5
  z5 := Tryd.sizeOf5
  v5 := Tryd.zeroValue5
  t9 := Tryd.underlying9
  a9 := Tryd.isAgg9
  z9 := Tryd.sizeOf9
  v9 := Tryd.zeroValue9
  t20 := Tryd.underlying20
  a20 := Tryd.isAgg20
  z20 := Tryd.sizeOf20
  v20 := Tryd.zeroValue20
  t37 := Tryd.underlying50
  a37 := Tryd.isAgg50
  z37 := Tryd.sizeOf50
  v37 := Tryd.zeroValue50
  t46 := Tryd.underlying66
  a46 := Tryd.isAgg66
  z46 := Tryd.sizeOf66
  v46 := Tryd.zeroValue66
  t51 := Tryd.underlying60
  a51 := Tryd.isAgg60
  z51 := Tryd.sizeOf60
  v51 := Tryd.zeroValue60
  t53 := Tryd.underlying80
  a53 := Tryd.isAgg80
  z53 := Tryd.sizeOf80
  v53 := Tryd.zeroValue80
  t70 := Tryd.underlying49
  a70 := Tryd.isAgg49
  z70 := Tryd.sizeOf49
  v70 := Tryd.zeroValue49
  t72 := Tryd.underlying52
  a72 := Tryd.isAgg52
  z72 := Tryd.sizeOf52
  v72 := Tryd.zeroValue52
  t75 := Tryd.underlying55
  a75 := Tryd.isAgg55
  z75 := Tryd.sizeOf55
  v75 := Tryd.zeroValue55
  t76 := Tryd.underlying56
  a76 := Tryd.isAgg56
  z76 := Tryd.sizeOf56
  v76 := Tryd.zeroValue56
  t109 := Tryd.underlying67
  a109 := Tryd.isAgg67
  z109 := Tryd.sizeOf67
  v109 := Tryd.zeroValue67
  t127 := Tryd.underlying72
  a127 := Tryd.isAgg72
  z127 := Tryd.sizeOf72
  v127 := Tryd.zeroValue72
  t146 := Tryd.underlying78
  a146 := Tryd.isAgg78
  z146 := Tryd.sizeOf78
  v146 := Tryd.zeroValue78
  t148 := Tryd.underlying81
  a148 := Tryd.isAgg81
  z148 := Tryd.sizeOf81
  v148 := Tryd.zeroValue81
  t164 := Tryd.underlying76
  a164 := Tryd.isAgg76
  z164 := Tryd.sizeOf76
  v164 := Tryd.zeroValue76 }
theorem LBuilder_Extra_105 : Builder.Extra Tryd.prog Llays105_ren := {
  sizeBuilder := by kernel_rfl
  liesBuilder := by kernel_rfl
  t5 := Tryd.underlying5
  a5 := Tryd.isAgg5
  z5 := Tryd.sizeOf5
  v5 := Tryd.zeroValue5
  infoByte := by kernel_rfl
  cellsByte := by kernel_rfl
  sizeByte := by kernel_rfl
  neB5 := by decide }
def Llays112_ren : Go.Shelf.Ren := ⟨fun | 112 => 20 | n => n, fun | 28 => 31 | 3 => 3 | 4 => 4 | 0 => 0 | n => n, fun | n => n⟩
theorem Llays112 : Go.Proofs.Lays.n112 Tryd.prog Llays112_ren := {
  mixed := by kernel_rfl
  f112 := Tryd.func20.trans (congrArg some (by kernel_rfl))
  t0 := Tryd.underlying0
  a0 := Tryd.isAgg0
  z0 := Tryd.sizeOf0
  v0 := Tryd.zeroValue0
  t3 := Tryd.underlying3
  a3 := Tryd.isAgg3
  z3 := Tryd.sizeOf3
  v3 := Tryd.zeroValue3
  t4 := Tryd.underlying4
  a4 := Tryd.isAgg4
  z4 := Tryd.sizeOf4
  v4 := Tryd.zeroValue4
  t28 := Tryd.underlying31
  a28 := Tryd.isAgg31
  z28 := Tryd.sizeOf31
  v28 := Tryd.zeroValue31 }
end Go.Ev

namespace Go.Ev
open Go Go.Proofs Go.Shelf Go.RowKit
set_option maxRecDepth 100000

def Gn : World → Prop := fun _ => True
theorem Gn_stable : ∀ w w', Frame w w' (fun _ => False) → Gn w → Gn w' := fun _ _ _ _ => trivial

/-- strings.Repeat -/
def strings_Repeat (_k : Nat) (s : List UInt8) (n : Int) : Option (List UInt8) := if 0 ≤ n ∧ n ≤ 9223372036854775807 ∧ s.length * n.toNat ≤ 140737488355328 then some (Lib.repeatL s n.toNat) else none
def C_strings_Repeat (k : Nat) : FnC := ⟨true, 1, [], fun | [⟨.str, s⟩, ⟨.int .i64, n⟩], [⟨.str, r⟩] => strings_Repeat k s n = some r | _, _ => False⟩
theorem c_strings_Repeat {G : World → Prop} (k : Nat) : Contract Tryd.prog G 17 (C_strings_Repeat k) where
  enters := enters_of Tryd.func17 (by kernel_rfl) rfl
  shape := fun xs rs h => by
    unfold C_strings_Repeat at h
    simp only at h
    split at h
    · exact ⟨rfl, fun _ u hu => by simp at hu; rcases hu with rfl; rfl⟩
    · exact h.elim
  calls := fun w M vs xs rs _ hM h hv => by
    unfold C_strings_Repeat at h
    simp only at h
    split at h
    case h_2 => exact h.elim
    rename_i s n r
    change List UInt8 at s
    change Int at n
    change List UInt8 at r
    match vs, hv with
    | [v, u], ⟨hv, hu, _⟩ =>
      have hs : v = .string ⟨s.toArray⟩ := by
        have := (show rep w M .str [v] s from hv).1
        simpa using this
      have hn : u = .int .i64 n := by
        have : [u] = [.int .i64 n] := hu
        simpa using this
      subst hs
      subst hn
      unfold strings_Repeat at h
      split at h
      case isFalse => cases h
      rename_i hc
      obtain ⟨h0, h1, h2⟩ := hc
      obtain ⟨c, rfl⟩ : ∃ c : Nat, n = (c : Int) := ⟨n.toNat, by omega⟩
      rw [Int.toNat_natCast] at h h2
      cases h
      refine (Any.strings_Repeat Llays105 LBuilder_Extra_105 ⟨s.toArray⟩ c w (by omega) h2).mono ?_
      rintro e w' ⟨rfl, hb⟩
      refine ⟨_, rfl, ?_, Ext.of_below hb⟩
      show rep w' M .str [_] (Lib.repeatL s c)
      refine ⟨rfl, ?_⟩
      have hl : (Lib.repeatL s c).length = c * s.length := by rw [Lib.repeatL_length]
      show (Lib.repeatL s c).length ≤ maxLen
      rw [hl, Nat.mul_comm]
      exact Nat.le_trans h2 (by decide)

theorem heap_mapBlk (w : World) (g b : Nat) (f : Array Value → Array Value) : (Go.Sort.mapBlock w g f).heap[b]? = if g = b then (w.heap[b]?).map (Go.Sort.onCells f) else w.heap[b]? := by
  unfold Go.Sort.mapBlock
  exact Array.getElem?_modify
/-- slices.Reverse at []int -/
theorem ic_slices_Reverse_int {G : World → Prop} : IC Tryd.prog G 20 3 (.int .i64) (fun xs ys => ys = xs.reverse) where
  enters := enters_of Tryd.func20 (by kernel_rfl) rfl
  calls := by
    rintro w M v xs ys cells _ rfl hown hL
    change List Int at xs
    have hcs : cells = xs.map (Value.int .i64) := by
      clear hown
      induction xs generalizing cells with
      | nil => exact hL
      | cons x xs ih =>
        obtain ⟨c1, c2, e, h1, h2⟩ := hL
        have h1' : c1 = [.int .i64 x] := h1
        rw [e, h1', ih c2 h2]
        rfl
    have hrep : ∀ zs : List Int, repL (rep w M (.int .i64)) (zs.map (Value.int .i64)) zs := by
      intro zs
      induction zs with
      | nil => rfl
      | cons z zs ih => exact ⟨[_], zs.map (Value.int .i64), rfl, rfl, ih⟩
    rcases hown.2 with ⟨hv, hz⟩ | ⟨g, cap, cur, hv, hb0, hh, hle, hmax, hcur, htk⟩
    · have hx : xs = [] := List.length_eq_zero_iff.1 hz
      subst hx
      subst hv
      refine (Any.slices_Reverse_int_empty Llays112 none 0 w).mono ?_
      rintro e w' ⟨rfl, rfl⟩
      exact ⟨_, cells, rfl, ⟨rfl, rfl, rfl, Nat.le_refl _⟩, fun _ _ _ => rfl, hown, hL⟩
    · subst hv
      have hsz : xs.length ≤ cur.size := by rw [hcur]; show List.length xs ≤ cap * 1; rw [Nat.mul_one]; exact hle
      have htk' : cur.toList.take xs.length = xs.map (Value.int .i64) := by
        rw [← hcs, ← htk]
        show _ = cur.toList.take (xs.length * 1)
        rw [Nat.mul_one]
      have hget : ∀ j (hj : j < xs.length), cur[j]? = some (Value.int .i64 xs[j]) := by
        intro j hj
        have : (cur.toList.take xs.length)[j]? = some (Value.int .i64 xs[j]) := by rw [htk']; simp [hj]
        rw [List.getElem?_take_of_lt hj] at this
        simpa using this
      have hH : Go.Sort.Holds (Value.int .i64) w g 0 xs.toArray := by
        intro j hj
        have hj' : j < xs.length := by simpa using hj
        rw [Nat.zero_add]
        refine ⟨?_, ?_⟩
        · rw [cell_in hh, hget j hj']
          simp [hj']
        · simp [World.frozen?, hh]
      refine (Any.slices_Reverse_int Llays112 g 0 cap xs w hH (Nat.le_trans hle hmax)).mono ?_
      rintro e w' ⟨rfl, n, rfl⟩
      have hgl := heap_some_lt hh
      have hheap : (Go.Sort.putRow (Value.int .i64) (Sort.ahead w n) g 0 xs.reverse.toArray).heap[g]? = some (.cells (Go.Sort.putCells (Value.int .i64) 0 xs.reverse.toArray cur) 3 (0, 0)) := by
        unfold Go.Sort.putRow
        rw [heap_mapBlk, if_pos rfl]
        have : (Sort.ahead w n).heap[g]? = some (.cells cur 3 (0, 0)) := hh
        rw [this]
        rfl
      have hlr : List.length (α := Int) xs.reverse = List.length (α := Int) xs := List.length_reverse
      have hrl : Value.slice (some ⟨g, 0, none⟩) xs.length cap = Value.slice (some ⟨g, 0, none⟩) (List.length (α := Int) xs.reverse) cap := by rw [hlr]
      have hle2 : List.length (α := Int) xs.reverse ≤ cap := by rw [hlr]; exact hle
      refine ⟨_, xs.reverse.map (Value.int .i64), rfl, ⟨rfl, rfl, rfl, ?_⟩, ?_, ⟨?_, .inr ⟨g, cap, Go.Sort.putCells (Value.int .i64) 0 xs.reverse.toArray cur, hrl, hb0, hheap, hle2, hmax, ?_, ?_⟩⟩, hrep _⟩
      · show w.heap.size ≤ _
        rw [Go.Sort.size_putRow]
        exact Nat.le_refl _
      · intro b hb hne
        have hbg : b ≠ g := fun e => hne (by rw [e]; rfl)
        unfold Go.Sort.putRow
        rw [heap_mapBlk, if_neg hbg.symm]
        rfl
      · rw [List.length_map]
        show _ = List.length (α := Int) xs.reverse * 1
        rw [Nat.mul_one]
      · rw [← hcur]
        simp [Go.Sort.putCells]
      · have key : ∀ (zs : List Int), zs.length ≤ cur.size → (Go.Sort.putCells (Value.int .i64) 0 zs.toArray cur).toList.take zs.length = zs.map (Value.int .i64) := by
          intro zs hz
          apply List.ext_getElem?
          intro j
          by_cases hj : j < zs.length
          · have hj2 : j < cur.size := by omega
            rw [List.getElem?_take_of_lt hj]
            simp [Go.Sort.putCells, hj, hj2]
          · rw [List.getElem?_eq_none (by simp; omega), List.getElem?_eq_none (by simp; omega)]
        have := key (List.reverse (α := Int) xs) (by rw [List.length_reverse]; exact hsz)
        show (Go.Sort.putCells (Value.int .i64) 0 xs.reverse.toArray cur).toList.take (List.length (α := Int) xs.reverse * 1) = _
        rw [Nat.mul_one]
        exact this
end Go.Ev

namespace Go.Ev
open Go Go.Proofs Go.RowKit
set_option maxRecDepth 100000
set_option maxHeartbeats 1000000

theorem bld_size : (Tryd.prog.info? 52).map (·.size) = some 2 := by kernel_rfl
theorem bld_lies : liesAt Tryd.prog Tryd.prog.depth 52 (2 / Tryd.prog.cellsOf 52) 0 52 1 = true := by kernel_rfl

theorem copyCheck_used (b : Nat) (w : World) (h0 : w.cell? ⟨b, 0, none⟩ = some (.pointer (some ⟨b, 0, none⟩))) :
    Calls Tryd.prog 22 #[.pointer (some ⟨b, 0, none⟩)] w fun e w' => e = .returned (.tuple #[]) ∧ w' = w := by
  obtain ⟨j, hj, _⟩ := Option.map_eq_some_iff.1 bld_size
  go_enter Tryd.func22, Tryd.ntmps22
  go_wp2
  rw [Lib.run_neq_ptr_same w _ Tryd.underlying49 hj]
  go_wp2
  go_end0
  exact ⟨rfl, rfl⟩

theorem copyCheck_fresh (b : Nat) (w : World) (h0 : w.cell? ⟨b, 0, none⟩ = some (.pointer none)) (hsh : w.shape? b = some (52, 2)) (hfz : w.frozen? ⟨b, 0, none⟩ = false) :
    Calls Tryd.prog 22 #[.pointer (some ⟨b, 0, none⟩)] w fun e w' => e = .returned (.tuple #[]) ∧ w' = w.setCell ⟨b, 0, none⟩ (.pointer (some ⟨b, 0, none⟩)) := by
  obtain ⟨j, hj, hjs⟩ := Option.map_eq_some_iff.1 bld_size
  go_enter Tryd.func22, Tryd.ntmps22
  go_wp2
  rw [Lib.run_to_unsafe w ⟨b, 0, none⟩ Tryd.underlying49 Tryd.underlying76 hj (by rw [hjs]; decide) hsh (Nat.zero_lt_succ 1)]
  simp only [Result.andThen]
  rw [Oper.upon_value]
  go_wp2
  rw [run_callFunc_extern Tryd.func30 (by kernel_rfl) (by kernel_rfl) (by kernel_rfl) (e := Extern.AbiNoEscape.same) (by kernel_rfl)]
  rw [Lib.run_noEscape]
  simp only [Result.andThen]
  rw [Oper.upon_value]
  go_wp2
  rw [Lib.run_from_unsafe w ⟨b, 0, none⟩ Tryd.underlying76 Tryd.underlying49 hj hsh bld_lies]
  simp only [Result.andThen]
  rw [Oper.upon_value]
  go_wp2
  go_end0
  exact ⟨rfl, rfl⟩

theorem u8_cells : Tryd.prog.cellsOf 5 = 1 := by kernel_rfl
theorem bldString_row (b g cap : Nat) (p : Value) (cur : Array Value) (l : List UInt8) (w : World) (h0 : l ≠ []) (hb : w.heap[b]? = some (.cells #[p, .slice (some ⟨g, 0, none⟩) l.length cap] 52 (0, 0)))
    (hg : w.heap[g]? = some (.cells cur 5 (0, 0))) (hnc : l.length ≤ cap) (hcm : cap ≤ maxLen) (hcs : cur.size = cap) (hl : ∀ (j : Nat) (x : UInt8), l[j]? = some x → cur[j]? = some (Value.int .u8 (x.toNat : Int))) :
    Calls Tryd.prog 18 #[.pointer (some ⟨b, 0, none⟩)] w fun e w' => e = .returned (.string ⟨l.toArray⟩) ∧ w' = w.drew.freeze ⟨g, 0, none⟩ l.length := by
  have hl0 : 0 < l.length := List.length_pos_iff.2 h0
  have c1 : w.drew.cell? ⟨b, 1, none⟩ = some (.slice (some ⟨g, 0, none⟩) l.length cap) := by
    have : w.drew.heap[b]? = some (.cells #[p, .slice (some ⟨g, 0, none⟩) l.length cap] 52 (0, 0)) := hb
    rw [Lib.cell_of_heap this]; rfl
  have k1 : (Builtin.unsafeSliceData_ #[50] 72 #[.slice (some ⟨g, 0, none⟩) l.length cap]).run Tryd.prog w.drew = .ok (.pointer (some ⟨g, 0, none⟩)) w.drew :=
    Lib.run_unsafeSliceData_row _ _ _ _ _ _ (by omega)
  have k2 : (Builtin.unsafeString_ #[72, 3] 9 #[.pointer (some ⟨g, 0, none⟩), .int .i64 l.length]).run Tryd.prog w.drew = .ok (.string ⟨l.toArray⟩) (w.drew.freeze ⟨g, 0, none⟩ l.length) := by
    have hg' : w.drew.heap[g]? = some (.cells cur 5 (0, 0)) := hg
    refine Lib.run_unsafeString_row w.drew 72 3 9 5 Tryd.underlying72 u8_cells g cur.size (by simp [World.shape?, hg']) l h0 (by omega) (by unfold maxLen at hcm; omega) ?_
    intro j x hx
    have ea : (⟨g, 0, none⟩ : Addr).add j = ⟨g, 0 + j, none⟩ := by unfold Addr.add; split <;> simp_all
    rw [ea, Lib.cell_of_heap hg', Nat.zero_add]
    exact hl j x hx
  have mixed : Tryd.prog.follows .mixedOrders = true := by kernel_rfl
  go_enter Tryd.func18, Tryd.ntmps18
  go_wp2
  go_region_o
  all_goals (go_wp2; go_ret; exact ⟨rfl, rfl⟩)

theorem bldString_nil (b : Nat) (p : Value) (w : World) (hb : w.heap[b]? = some (.cells #[p, .slice none 0 0] 52 (0, 0))) :
    Calls Tryd.prog 18 #[.pointer (some ⟨b, 0, none⟩)] w fun e w' => e = .returned (.string ⟨#[]⟩) ∧ Below w.heap.size w w' := by
  have c1 : w.drew.cell? ⟨b, 1, none⟩ = some (.slice none 0 0) := by
    have : w.drew.heap[b]? = some (.cells #[p, .slice none 0 0] 52 (0, 0)) := hb
    rw [Lib.cell_of_heap this]; rfl
  have k1 : (Builtin.unsafeSliceData_ #[50] 72 #[.slice none 0 0]).run Tryd.prog w.drew = .ok (.pointer none) w.drew := rfl
  have k2 := Lib.run_unsafeString_none (P := Tryd.prog) (w := w.drew) 72 3 9
  have k3 : (ByteArray.empty) = ⟨#[]⟩ := rfl
  have mixed : Tryd.prog.follows .mixedOrders = true := by kernel_rfl
  go_enter Tryd.func18, Tryd.ntmps18
  go_wp2
  go_region_o
  all_goals (go_wp2; go_ret; exact ⟨rfl, (Below.refl _ w).drew⟩)

theorem bldString_room (b g cap : Nat) (p : Value) (w : World) (hc : cap ≠ 0) (hb : w.heap[b]? = some (.cells #[p, .slice (some ⟨g, 0, none⟩) 0 cap] 52 (0, 0))) :
    Calls Tryd.prog 18 #[.pointer (some ⟨b, 0, none⟩)] w fun e w' => e = .returned (.string ⟨#[]⟩) ∧ Below w.heap.size w w' := by
  have c1 : w.drew.cell? ⟨b, 1, none⟩ = some (.slice (some ⟨g, 0, none⟩) 0 cap) := by
    have : w.drew.heap[b]? = some (.cells #[p, .slice (some ⟨g, 0, none⟩) 0 cap] 52 (0, 0)) := hb
    rw [Lib.cell_of_heap this]; rfl
  have k1 : (Builtin.unsafeSliceData_ #[50] 72 #[.slice (some ⟨g, 0, none⟩) 0 cap]).run Tryd.prog w.drew = .ok (.pointer (some ⟨g, 0, none⟩)) w.drew :=
    Lib.run_unsafeSliceData_row _ _ _ _ _ _ hc
  have k2 := Lib.run_unsafeString_none (P := Tryd.prog) (w := w.drew) 72 3 9
  have mixed : Tryd.prog.follows .mixedOrders = true := by kernel_rfl
  go_enter Tryd.func18, Tryd.ntmps18
  go_wp2
  go_region_o
  all_goals (go_wp2; go_ret; exact ⟨rfl, (Below.refl _ w).drew⟩)

theorem bldString_noroom (b g : Nat) (p : Value) (cur : Array Value) (w : World) (hb : w.heap[b]? = some (.cells #[p, .slice (some ⟨g, 0, none⟩) 0 0] 52 (0, 0))) (hg : w.heap[g]? = some (.cells cur 5 (0, 0))) :
    Calls Tryd.prog 18 #[.pointer (some ⟨b, 0, none⟩)] w fun e w' => e = .returned (.string ⟨#[]⟩) ∧ Below w.heap.size w w' := by
  have hbl : b < w.heap.size := (Array.getElem?_eq_some_iff.1 hb).1
  have hb1 : w.drew.heap[b]? = some (.cells #[p, .slice (some ⟨g, 0, none⟩) 0 0] 52 (0, 0)) := hb
  have hg1 : w.drew.heap[g]? = some (.cells cur 5 (0, 0)) := hg
  have c1 : w.drew.cell? ⟨b, 1, none⟩ = some (.slice (some ⟨g, 0, none⟩) 0 0) := by
    rw [Lib.cell_of_heap hb1]; rfl
  have c2 : (w.drew.alloc (.view ⟨g, 0, none⟩ 5)).cell? ⟨b, 1, none⟩ = some (.slice (some ⟨g, 0, none⟩) 0 0) := by
    rw [World.cell?_of_block (w := w.drew) (Below.heap_alloc w.drew _ b hbl)]; exact c1
  have k1 : (Builtin.unsafeSliceData_ #[50] 72 #[.slice (some ⟨g, 0, none⟩) 0 0]).run Tryd.prog w.drew = .ok (.pointer (some ⟨w.drew.heap.size, 0, none⟩)) (w.drew.alloc (.view ⟨g, 0, none⟩ 5)) :=
    Lib.run_unsafeSliceData_zero w.drew _ _ _ Tryd.underlying72 _ _ (5, cur.size) (by simp [World.shape?, hg1])
  have k2 := Lib.run_unsafeString_none (P := Tryd.prog) (w := w.drew.alloc (.view ⟨g, 0, none⟩ 5)) 72 3 9
  have k3 := Lib.run_unsafeString_none (P := Tryd.prog) (w := (w.alloc (.view ⟨g, 0, none⟩ 5)).drew) 72 3 9
  have c3 : w.cell? ⟨b, 1, none⟩ = some (.slice (some ⟨g, 0, none⟩) 0 0) := c1
  have mixed : Tryd.prog.follows .mixedOrders = true := by kernel_rfl
  have hw : Below w.heap.size w (w.drew.alloc (.view ⟨g, 0, none⟩ 5)) := ⟨rfl, rfl, rfl, by simp, fun k hk => Below.heap_alloc w.drew _ k hk⟩
  go_enter Tryd.func18, Tryd.ntmps18
  go_wp2
  go_region_o
  all_goals (go_wp2; go_ret; exact ⟨rfl, hw⟩)
/-! The builder. -/
def bld_copyCheck (_k : Nat) (_l : List Int) : Option Unit := some ()
def bld_String (_k : Nat) (l : List Int) : Option (List UInt8) := if bytesEl (bytesStr l) = l then some (bytesStr l) else none
/-! The builder's functions. -/
def B_bld_copyCheck (k : Nat) : FnB (List Int) Unit where
  n := 20
  S := fun z => ⟨[(0, .ptr 20 0)], [(20, .cells [.selfp 20, .row 21] 52)], [(21, ⟨5, .int .u8, z⟩)]⟩
  S' := fun z _ => ⟨[], [(20, .cells [.selfp 20, .row 21] 52)], [(21, ⟨5, .int .u8, z⟩)]⟩
  rs := fun _ _ => []
  rel := fun z y => bld_copyCheck k z = some y
def B_bld_String (k : Nat) : FnB (List Int) (List UInt8) where
  n := 14
  S := fun z => ⟨[(0, .ptr 14 0)], [(14, .cells [.selfp 14, .row 15] 52)], [(15, ⟨5, .int .u8, z⟩)]⟩
  S' := fun _ _ => ⟨[], [], []⟩
  rs := fun _ y => [SS y]
  rel := fun z y => bld_String k z = some y

theorem one_arg {n : Nat} {vs : List Value} {v : Value} (h1 : vs.length = 1) (h : (vs.toArray ++ Array.replicate (n - vs.toArray.size) undef)[0]? = some v) : vs = [v] := by
  match vs, h1 with
  | [u], _ =>
    rw [Array.getElem?_append_left (by simp)] at h
    simpa using h
theorem setCell_heap {w : World} {b i : Nat} {cs : Array Value} {t : TypeId} (h : w.heap[b]? = some (.cells cs t (0, 0))) (v : Value) : (w.setCell ⟨b, i, none⟩ v).heap[b]? = some (.cells (cs.setIfInBounds i v) t (0, 0)) := by
  simp [World.setCell, Array.getElem?_modify, h]
theorem setCell_far {w : World} {b i k : Nat} (v : Value) (h : k ≠ b) : (w.setCell ⟨b, i, none⟩ v).heap[k]? = w.heap[k]? := by
  simp [World.setCell, Array.getElem?_modify, Ne.symm h]

theorem b_bld_copyCheck {G : World → Prop} (k : Nat) : BC Tryd.prog G 22 (B_bld_copyCheck k) where
  enters := enters_of Tryd.func22 (by kernel_rfl) rfl
  calls := by
    rintro cx hP hn hG z y hr vs w hlen ⟨m, hm⟩
    obtain ⟨v, hv0, g, hg1, rfl⟩ := hm.slots 0 (.ptr 20 0) List.mem_cons_self
    have hvs := one_arg (n := 20) hlen hv0
    subst hvs
    have hbx : (20, BX.cells [.selfp 20, .row 21] 52) ∈ ((B_bld_copyCheck k).S z).bx := List.mem_cons_self
    obtain ⟨g', e1, hplace, cells, e3, e4⟩ := hm.boxes _ _ hbx
    have : g' = g := by rw [hg1] at e1; cases e1; rfl
    subst this
    obtain ⟨p, u, hcs, h1, h2⟩ : ∃ p u, cells.toList = [p, u] ∧ (p = .pointer none ∨ p = m 20) ∧ u = m 21 := by
      match hc : cells.toList, e4 with
      | [p, u], ⟨h1, h2, _⟩ => exact ⟨p, u, rfl, h1, h2⟩
    have hcs' : cells = #[p, u] := Array.ext' (by rw [hcs])
    subst hcs'
    have hc0 : w.cell? ⟨g', 0, none⟩ = some p := by rw [cell_in e3]; rfl
    have hids : ∀ i, i ∈ St.ids ((B_bld_copyCheck k).S' z y) ↔ i ∈ St.ids ((B_bld_copyCheck k).S z) := fun i => Iff.rfl
    have hweak : ∀ {w'}, Rm cx m ((B_bld_copyCheck k).S z) ([Value.pointer (some ⟨g', 0, none⟩)].toArray ++ Array.replicate ((B_bld_copyCheck k).n - [Value.pointer (some ⟨g', 0, none⟩)].toArray.size) undef) w' → Rm cx m ((B_bld_copyCheck k).S' z y) ([Value.pointer (some ⟨g', 0, none⟩)].toArray ++ Array.replicate ((B_bld_copyCheck k).n - [Value.pointer (some ⟨g', 0, none⟩)].toArray.size) undef) w' :=
      fun h => h.weaken (fun i sv hi => by cases hi) (fun p hp => hp) (fun p hp => hp) h.keys
    rcases h1 with h1 | h1
    · subst h1
      refine (copyCheck_fresh g' w hc0 (by simp [World.shape?, e3]) (by simp [World.frozen?, e3])).mono ?_
      rintro e w' ⟨rfl, rfl⟩
      refine ⟨_, m, _, rfl, hweak ?_, trivial⟩
      have hheap : (w.setCell ⟨g', 0, none⟩ (.pointer (some ⟨g', 0, none⟩))).heap[g']? = some (.cells #[.pointer (some ⟨g', 0, none⟩), u] 52 (0, 0)) := setCell_heap (i := 0) e3 _
      have hn : Touch m w 20 (w.setCell ⟨g', 0, none⟩ (.pointer (some ⟨g', 0, none⟩))) := ⟨⟨rfl, rfl, rfl, by simp [World.setCell]⟩, fun b hb hne => setCell_far _ (fun e => hne (by rw [hg1, e]; rfl))⟩
      have := hm.setBox (c := BX.cells [.selfp 20, .row 21] 52) hbx hn (g := g') hg1 ⟨_, hheap, .inr hg1.symm, h2, trivial⟩
      exact this
    · refine (copyCheck_used g' w (by rw [hc0, h1, hg1])).mono ?_
      rintro e w' ⟨rfl, rfl⟩
      exact ⟨_, m, _, rfl, hweak hm, trivial⟩

theorem freeze_far {w : World} {b n k : Nat} (h : k ≠ b) : (w.freeze ⟨b, 0, none⟩ n).heap[k]? = w.heap[k]? := by
  unfold World.freeze
  split
  · rfl
  · simp [Array.getElem?_modify, Ne.symm h]
theorem freeze_size {w : World} {b n : Nat} : (w.freeze ⟨b, 0, none⟩ n).heap.size = w.heap.size ∧ (w.freeze ⟨b, 0, none⟩ n).os = w.os ∧ (w.freeze ⟨b, 0, none⟩ n).tape = w.tape ∧ (w.freeze ⟨b, 0, none⟩ n).output = w.output := by
  unfold World.freeze
  split <;> simp

theorem b_bld_String {G : World → Prop} (k : Nat) : BC Tryd.prog G 18 (B_bld_String k) where
  enters := enters_of Tryd.func18 (by kernel_rfl) rfl
  calls := by
    rintro cx hP hn hG z y hr vs w hlen ⟨m, hm⟩
    obtain ⟨v, hv0, g, hg1, rfl⟩ := hm.slots 0 (.ptr 14 0) List.mem_cons_self
    have hvs := one_arg (n := 14) hlen hv0
    subst hvs
    have hbx : (14, BX.cells [.selfp 14, .row 15] 52) ∈ ((B_bld_String k).S z).bx := List.mem_cons_self
    obtain ⟨g', e1, hplace, cells, e3, e4⟩ := hm.boxes _ _ hbx
    have : g' = g := by rw [hg1] at e1; cases e1; rfl
    subst this
    obtain ⟨p, u, hcs, h1, h2⟩ : ∃ p u, cells.toList = [p, u] ∧ (p = .pointer none ∨ p = m 14) ∧ u = m 15 := by
      match hc : cells.toList, e4 with
      | [p, u], ⟨h1, h2, _⟩ => exact ⟨p, u, rfl, h1, h2⟩
    have hcs' : cells = #[p, u] := Array.ext' (by rw [hcs])
    subst hcs'
    have hrw : (15, (⟨5, .int .u8, z⟩ : RowC)) ∈ ((B_bld_String k).S z).rw := List.mem_cons_self
    obtain ⟨rc, hown, hout, hL⟩ := hm.rows _ _ hrw
    have hL' : rc = z.map (Value.int .u8) := repL_ints hL
    have hr : bld_String k z = some y := hr
    unfold bld_String at hr
    split at hr
    case isFalse => cases hr
    rename_i hz
    cases hr
    have done : ∀ {w' : World} {T : Array Value}, T.size = cx.n → Frame cx.w0 w' cx.X → Rm cx m ((B_bld_String k).S' z (bytesStr z)) T w' := fun hT hf =>
      { size := hT, frame := hf, outer := hm.outer, slots := (fun i sv hi => by cases hi), boxes := (fun i c hi => by cases hi), rows := (fun i c hi => by cases hi), apart := (fun i j hi => by cases hi), keys := List.nodup_nil, fixed := (fun i c hi => by cases hi) }
    have fr : ∀ {w' : World}, Below w.heap.size w w' → Frame cx.w0 w' cx.X := fun hb => hm.frame.step ⟨hb.os, hb.tape, hb.output, hb.size⟩ fun b hb' _ => hb.block b (Nat.lt_of_lt_of_le hb' hm.frame.size)
    have hlen0 : (bytesStr z).length = z.length := by simp [bytesStr]
    have hstr : ∀ (w' : World) (M : Nat → Prop), repS w' M m (.string ⟨#[]⟩) (SS (bytesStr [])) := fun w' M => (repV_str (w := w') (M := M)).2 ⟨rfl, by decide⟩
    have hstr2 : z.length ≤ maxLen → ∀ (w' : World) (M : Nat → Prop), repS w' M m (.string ⟨(bytesStr z).toArray⟩) (SS (bytesStr z)) := fun hm w' M => (repV_str (w := w') (M := M)).2 ⟨rfl, by rw [hlen0]; exact hm⟩
    rcases hown.2 with ⟨hv, hn0⟩ | ⟨gb, cap, cur, hv, _, hh, hle, hmax, hsz, htk⟩
    · rw [h2, hv] at e3
      have hz0 : z = [] := List.eq_nil_of_length_eq_zero hn0
      refine (bldString_nil g' p w e3).mono ?_
      rintro e w' ⟨rfl, hb⟩
      subst hz0
      exact ⟨_, m, _, rfl, done hm.size (fr hb), hstr _ _⟩
    · have hle : z.length ≤ cap := hle
      have hsz : cur.size = cap := hsz.trans (Nat.mul_one cap)
      have htk : cur.toList.take z.length = rc := (congrArg (fun n => List.take n cur.toList) (Nat.mul_one z.length).symm).trans htk
      rw [h2, hv] at e3
      by_cases hz0 : z = []
      · subst hz0
        by_cases hc0 : cap = 0
        · subst hc0
          refine (bldString_noroom g' gb p cur w e3 hh).mono ?_
          rintro e w' ⟨rfl, hb⟩
          exact ⟨_, m, _, rfl, done hm.size (fr hb), hstr _ _⟩
        · refine (bldString_room g' gb cap p w hc0 e3).mono ?_
          rintro e w' ⟨rfl, hb⟩
          exact ⟨_, m, _, rfl, done hm.size (fr hb), hstr _ _⟩
      · have hne : bytesStr z ≠ [] := by
          intro e
          have := congrArg List.length e
          rw [hlen0] at this
          exact hz0 (List.eq_nil_of_length_eq_zero this)
        have e3' : w.heap[g']? = some (.cells #[p, .slice (some ⟨gb, 0, none⟩) (bytesStr z).length cap] 52 (0, 0)) := by rw [hlen0]; exact e3
        refine (bldString_row g' gb cap p cur (bytesStr z) w hne e3' hh (by rw [hlen0]; exact hle) hmax hsz ?_).mono ?_
        · intro j x hx
          have hj : j < z.length := by rw [← hlen0]; exact (List.getElem?_eq_some_iff.1 hx).1
          have h5 : (bytesEl (bytesStr z))[j]? = some (x.toNat : Int) := by unfold bytesEl; rw [List.getElem?_map, hx]; rfl
          rw [hz] at h5
          have h6 : rc[j]? = some (Value.int .u8 (x.toNat : Int)) := by rw [hL', List.getElem?_map, h5]; rfl
          rw [← htk, List.getElem?_take, if_pos hj] at h6
          rw [← Array.getElem?_toList]
          exact h6
        · rintro e w' ⟨rfl, rfl⟩
          obtain ⟨f1, f2, f3, f4⟩ := freeze_size (w := w.drew) (b := gb) (n := (bytesStr z).length)
          have hgb := hout gb (by rw [hv]; rfl)
          refine ⟨_, m, _, rfl, done hm.size (hm.frame.step ⟨f2, f3, f4, by rw [f1]; exact Nat.le_refl _⟩ fun b hb' hX => ?_), hstr2 (Nat.le_trans hle hmax) _ _⟩
          refine freeze_far (w := w.drew) ?_
          rintro rfl
          rcases hgb with hgb | hgb
          · omega
          · exact hX hgb
end Go.Ev
