/- The builder's small functions: its check of itself, its text: walks and contracts, under whatever condition. -/
import Derived.Test.YtgkgdfmldioddaaGreatDoorProg
import Derived.Test.YtgkgdfmldioddaaGreatDoorMM4
import Derived.WalkKit
import Derived.KernelRfl
import Derived.Lib.Strings
import Derived.Lib.Walk
import Derived.Lib.Builder
import Derived.Lib.UnsafeStr
import Derived.Laws.Externs
import Derived.Shelf.RegionOpenPlain
import Derived.Test.YtgkgdfmldioddaaGreatDoorMM6
import Derived.Shelf.SlicesE.Reverse
import Derived.Shelf.SlicesQ.Reverse
import Derived.Sort.MapsRangeIn
import Derived.RangeFuncStops
import Derived.RangeFuncBox
import Derived.RangeFuncNested
import Derived.RangeFuncBound
import Derived.RangeFuncCalls
import Derived.RangeFuncLeaves
import Derived.OwnWalkIn
import Derived.TacticsInMore
import Derived.LoopNIn
import Derived.LoopIn
import Derived.Maps.AppendAt
import Derived.Shelf.SlSortCmp.WholeK
import Derived.Shelf.SlSortCmp.NoneTotal
set_option linter.unusedSectionVars false
set_option linter.unusedVariables false
set_option linter.unusedSimpArgs false
namespace Go.Ev
open Go Go.Proofs Go.RowKit
set_option maxRecDepth 100000
set_option maxHeartbeats 1000000
theorem bld_size : (Tryz.prog.info? 111).map (·.size) = some 2 := by kernel_rfl
theorem bld_lies : liesAt Tryz.prog Tryz.prog.depth 111 (2 / Tryz.prog.cellsOf 111) 0 111 1 = true := by kernel_rfl
theorem copyCheck_used (b : Nat) (w : World) (h0 : w.cell? ⟨b, 0, none⟩ = some (.pointer (some ⟨b, 0, none⟩))) :
  Calls Tryz.prog 80 #[.pointer (some ⟨b, 0, none⟩)] w fun e w' => e = .returned (.tuple #[]) /\ w' = w := by
 obtain ⟨j, hj, _⟩ := Option.map_eq_some_iff.1 bld_size
 go_enter Tryz.func80, Tryz.ntmps80
 go_wp2
 rw [Lib.run_neq_ptr_same w _ Tryz.underlying108 hj]
 go_wp2
 go_end0
 exact ⟨rfl, rfl⟩
theorem copyCheck_fresh (b : Nat) (w : World) (h0 : w.cell? ⟨b, 0, none⟩ = some (.pointer none)) (hsh : w.shape? b = some (111, 2)) (hfz : w.frozen? ⟨b, 0, none⟩ = false) :
  Calls Tryz.prog 80 #[.pointer (some ⟨b, 0, none⟩)] w fun e w' => e = .returned (.tuple #[]) /\ w' = w.setCell ⟨b, 0, none⟩ (.pointer (some ⟨b, 0, none⟩)) := by
 obtain ⟨j, hj, hjs⟩ := Option.map_eq_some_iff.1 bld_size
 go_enter Tryz.func80, Tryz.ntmps80
 go_wp2
 rw [Lib.run_to_unsafe w ⟨b, 0, none⟩ Tryz.underlying108 Tryz.underlying186 hj (by rw [hjs]; decide) hsh (Nat.zero_lt_succ 1)]
 simp only [Result.andThen]
 rw [Oper.upon_value]
 go_wp2
 rw [run_callFunc_extern Tryz.func108 (by kernel_rfl) (by kernel_rfl) (by kernel_rfl) (e := Extern.AbiNoEscape.same) (by kernel_rfl)]
 rw [Lib.run_noEscape]
 simp only [Result.andThen]
 rw [Oper.upon_value]
 go_wp2
 rw [Lib.run_from_unsafe w ⟨b, 0, none⟩ Tryz.underlying186 Tryz.underlying108 hj hsh bld_lies]
 simp only [Result.andThen]
 rw [Oper.upon_value]
 go_wp2
 go_end0
 exact ⟨rfl, rfl⟩
theorem u8_cells : Tryz.prog.cellsOf 5 = 1 := by kernel_rfl
theorem bldString_row (b g cap : Nat) (p : Value) (cur : Array Value) (l : List UInt8) (w : World) (h0 : l ≠ []) (hb : w.heap[b]? = some (.cells #[p, .slice (some ⟨g, 0, none⟩) l.length cap] 111 (0, 0)))
  (hg : w.heap[g]? = some (.cells cur 5 (0, 0))) (hnc : l.length <= cap) (hcm : cap <= maxLen) (hcs : cur.size = cap) (hl : ∀ (j : Nat) (x : UInt8), l[j]? = some x -> cur[j]? = some (Value.int .u8 (x.toNat : Int))) :
  Calls Tryz.prog 56 #[.pointer (some ⟨b, 0, none⟩)] w fun e w' => e = .returned (.string ⟨l.toArray⟩) /\ w' = w.drew.freeze ⟨g, 0, none⟩ l.length := by
 have hl0 : 0 < l.length := List.length_pos_iff.2 h0
 have c1 : w.drew.cell? ⟨b, 1, none⟩ = some (.slice (some ⟨g, 0, none⟩) l.length cap) := by
  have : w.drew.heap[b]? = some (.cells #[p, .slice (some ⟨g, 0, none⟩) l.length cap] 111 (0, 0)) := hb
  rw [Lib.cell_of_heap this]; rfl
 have k1 : (Builtin.unsafeSliceData_ #[109] 159 #[.slice (some ⟨g, 0, none⟩) l.length cap]).run Tryz.prog w.drew = .ok (.pointer (some ⟨g, 0, none⟩)) w.drew :=
  Lib.run_unsafeSliceData_row _ _ _ _ _ _ (by omega)
 have k2 : (Builtin.unsafeString_ #[159, 3] 9 #[.pointer (some ⟨g, 0, none⟩), .int .i64 l.length]).run Tryz.prog w.drew = .ok (.string ⟨l.toArray⟩) (w.drew.freeze ⟨g, 0, none⟩ l.length) := by
  have hg' : w.drew.heap[g]? = some (.cells cur 5 (0, 0)) := hg
  refine Lib.run_unsafeString_row w.drew 159 3 9 5 Tryz.underlying159 u8_cells g cur.size (by simp [World.shape?, hg']) l h0 (by omega) (by unfold maxLen at hcm; omega) ?_
  intro j x hx
  have ea : (⟨g, 0, none⟩ : Addr).add j = ⟨g, 0 + j, none⟩ := by unfold Addr.add; split <;> simp_all
  rw [ea, Lib.cell_of_heap hg', Nat.zero_add]
  exact hl j x hx
 have mixed : Tryz.prog.follows .mixedOrders = true := by kernel_rfl
 go_enter Tryz.func56, Tryz.ntmps56
 go_wp2
 go_region_o
 all_goals (go_wp2; go_ret; exact ⟨rfl, rfl⟩)
theorem bldString_nil (b : Nat) (p : Value) (w : World) (hb : w.heap[b]? = some (.cells #[p, .slice none 0 0] 111 (0, 0))) :
  Calls Tryz.prog 56 #[.pointer (some ⟨b, 0, none⟩)] w fun e w' => e = .returned (.string ⟨#[]⟩) /\ Below w.heap.size w w' := by
 have c1 : w.drew.cell? ⟨b, 1, none⟩ = some (.slice none 0 0) := by
  have : w.drew.heap[b]? = some (.cells #[p, .slice none 0 0] 111 (0, 0)) := hb
  rw [Lib.cell_of_heap this]; rfl
 have k1 : (Builtin.unsafeSliceData_ #[109] 159 #[.slice none 0 0]).run Tryz.prog w.drew = .ok (.pointer none) w.drew := rfl
 have k2 := Lib.run_unsafeString_none (P := Tryz.prog) (w := w.drew) 159 3 9
 have k3 : (ByteArray.empty) = ⟨#[]⟩ := rfl
 have mixed : Tryz.prog.follows .mixedOrders = true := by kernel_rfl
 go_enter Tryz.func56, Tryz.ntmps56
 go_wp2
 go_region_o
 all_goals (go_wp2; go_ret; exact ⟨rfl, (Below.refl _ w).drew⟩)
theorem bldString_room (b g cap : Nat) (p : Value) (w : World) (hc : cap ≠ 0) (hb : w.heap[b]? = some (.cells #[p, .slice (some ⟨g, 0, none⟩) 0 cap] 111 (0, 0))) :
  Calls Tryz.prog 56 #[.pointer (some ⟨b, 0, none⟩)] w fun e w' => e = .returned (.string ⟨#[]⟩) /\ Below w.heap.size w w' := by
 have c1 : w.drew.cell? ⟨b, 1, none⟩ = some (.slice (some ⟨g, 0, none⟩) 0 cap) := by
  have : w.drew.heap[b]? = some (.cells #[p, .slice (some ⟨g, 0, none⟩) 0 cap] 111 (0, 0)) := hb
  rw [Lib.cell_of_heap this]; rfl
 have k1 : (Builtin.unsafeSliceData_ #[109] 159 #[.slice (some ⟨g, 0, none⟩) 0 cap]).run Tryz.prog w.drew = .ok (.pointer (some ⟨g, 0, none⟩)) w.drew :=
  Lib.run_unsafeSliceData_row _ _ _ _ _ _ hc
 have k2 := Lib.run_unsafeString_none (P := Tryz.prog) (w := w.drew) 159 3 9
 have mixed : Tryz.prog.follows .mixedOrders = true := by kernel_rfl
 go_enter Tryz.func56, Tryz.ntmps56
 go_wp2
 go_region_o
 all_goals (go_wp2; go_ret; exact ⟨rfl, (Below.refl _ w).drew⟩)
theorem bldString_noroom (b g : Nat) (p : Value) (cur : Array Value) (w : World) (hb : w.heap[b]? = some (.cells #[p, .slice (some ⟨g, 0, none⟩) 0 0] 111 (0, 0))) (hg : w.heap[g]? = some (.cells cur 5 (0, 0))) :
  Calls Tryz.prog 56 #[.pointer (some ⟨b, 0, none⟩)] w fun e w' => e = .returned (.string ⟨#[]⟩) /\ Below w.heap.size w w' := by
 have hbl : b < w.heap.size := (Array.getElem?_eq_some_iff.1 hb).1
 have hb1 : w.drew.heap[b]? = some (.cells #[p, .slice (some ⟨g, 0, none⟩) 0 0] 111 (0, 0)) := hb
 have hg1 : w.drew.heap[g]? = some (.cells cur 5 (0, 0)) := hg
 have c1 : w.drew.cell? ⟨b, 1, none⟩ = some (.slice (some ⟨g, 0, none⟩) 0 0) := by
  rw [Lib.cell_of_heap hb1]; rfl
 have c2 : (w.drew.alloc (.view ⟨g, 0, none⟩ 5)).cell? ⟨b, 1, none⟩ = some (.slice (some ⟨g, 0, none⟩) 0 0) := by
  rw [World.cell?_of_block (w := w.drew) (Below.heap_alloc w.drew _ b hbl)]; exact c1
 have k1 : (Builtin.unsafeSliceData_ #[109] 159 #[.slice (some ⟨g, 0, none⟩) 0 0]).run Tryz.prog w.drew = .ok (.pointer (some ⟨w.drew.heap.size, 0, none⟩)) (w.drew.alloc (.view ⟨g, 0, none⟩ 5)) :=
  Lib.run_unsafeSliceData_zero w.drew _ _ _ Tryz.underlying159 _ _ (5, cur.size) (by simp [World.shape?, hg1])
 have k2 := Lib.run_unsafeString_none (P := Tryz.prog) (w := w.drew.alloc (.view ⟨g, 0, none⟩ 5)) 159 3 9
 have k3 := Lib.run_unsafeString_none (P := Tryz.prog) (w := (w.alloc (.view ⟨g, 0, none⟩ 5)).drew) 159 3 9
 have c3 : w.cell? ⟨b, 1, none⟩ = some (.slice (some ⟨g, 0, none⟩) 0 0) := c1
 have mixed : Tryz.prog.follows .mixedOrders = true := by kernel_rfl
 have hw : Below w.heap.size w (w.drew.alloc (.view ⟨g, 0, none⟩ 5)) := ⟨rfl, rfl, rfl, by simp, fun k hk => Below.heap_alloc w.drew _ k hk⟩
 go_enter Tryz.func56, Tryz.ntmps56
 go_wp2
 go_region_o
 all_goals (go_wp2; go_ret; exact ⟨rfl, hw⟩)
/-! The builder's functions. -/
def B_bld_copyCheck (k : Nat) : FnB (List Int) Unit where
 n := 20
 S := fun z => ⟨[(0, .ptr 20 0)], [(20, .cells [.selfp 20, .row 21] 111)], [(21, ⟨5, .int .u8, z⟩)]⟩
 S' := fun z _ => ⟨[], [(20, .cells [.selfp 20, .row 21] 111)], [(21, ⟨5, .int .u8, z⟩)]⟩
 rs := fun _ _ => []
 rel := fun z y => bld_copyCheck k z = some y
def B_bld_String (k : Nat) : FnB (List Int) (List UInt8) where
 n := 14
 S := fun z => ⟨[(0, .ptr 14 0)], [(14, .cells [.selfp 14, .row 15] 111)], [(15, ⟨5, .int .u8, z⟩)]⟩
 S' := fun _ _ => ⟨[], [], []⟩
 rs := fun _ y => [SS y]
 rel := fun z y => bld_String k z = some y
theorem one_arg {n : Nat} {vs : List Value} {v : Value} (h1 : vs.length = 1) (h : (vs.toArray ++ Array.replicate (n - vs.toArray.size) undef)[0]? = some v) : vs = [v] := by
 match vs, h1 with
 | [u], _ =>
  rw [Array.getElem?_append_left (by simp)] at h
  simpa using h
theorem setCell_heap {w : World} {b i : Nat} {cs : Array Value} {t : TypeId} (h : w.heap[b]? = some (.cells cs t (0, 0))) (v : Value) : (w.setCell ⟨b, i, none⟩ v).heap[b]? = some (.cells (cs.setIfInBounds i v) t (0, 0)) := by
 simp [World.setCell, Array.getElem?_modify, h]
theorem setCell_far {w : World} {b i k : Nat} (v : Value) (h : k ≠ b) : (w.setCell ⟨b, i, none⟩ v).heap[k]? = w.heap[k]? := by
 simp [World.setCell, Array.getElem?_modify, Ne.symm h]
theorem b_bld_copyCheck {G : World -> Prop} (k : Nat) : BC Tryz.prog G 80 (B_bld_copyCheck k) where
 enters := enters_of Tryz.func80 (by kernel_rfl) rfl
 calls := by
  rintro cx hP hn hG z y hr vs w hlen ⟨m, hm⟩
  obtain ⟨v, hv0, g, hg1, rfl⟩ := hm.slots 0 (.ptr 20 0) List.mem_cons_self
  have hvs := one_arg (n := 20) hlen hv0
  subst hvs
  have hbx : (20, BX.cells [.selfp 20, .row 21] 111) ∈ ((B_bld_copyCheck k).S z).bx := List.mem_cons_self
  obtain ⟨g', e1, hplace, cells, e3, e4⟩ := hm.boxes _ _ hbx
  have : g' = g := by rw [hg1] at e1; cases e1; rfl
  subst this
  obtain ⟨p, u, hcs, h1, h2⟩ : ∃ p u, cells.toList = [p, u] /\ (p = .pointer none \/ p = m 20) /\ u = m 21 := by
   match hc : cells.toList, e4 with
   | [p, u], ⟨h1, h2, _⟩ => exact ⟨p, u, rfl, h1, h2⟩
  have hcs' : cells = #[p, u] := Array.ext' (by rw [hcs])
  subst hcs'
  have hc0 : w.cell? ⟨g', 0, none⟩ = some p := by rw [cell_in e3]; rfl
  have hids : ∀ i, i ∈ St.ids ((B_bld_copyCheck k).S' z y) ↔ i ∈ St.ids ((B_bld_copyCheck k).S z) := fun i => Iff.rfl
  have hweak : ∀ {w'}, Rm cx m ((B_bld_copyCheck k).S z) ([Value.pointer (some ⟨g', 0, none⟩)].toArray ++ Array.replicate ((B_bld_copyCheck k).n - [Value.pointer (some ⟨g', 0, none⟩)].toArray.size) undef) w' -> Rm cx m ((B_bld_copyCheck k).S' z y) ([Value.pointer (some ⟨g', 0, none⟩)].toArray ++ Array.replicate ((B_bld_copyCheck k).n - [Value.pointer (some ⟨g', 0, none⟩)].toArray.size) undef) w' :=
   fun h => h.weaken (fun i sv hi => by cases hi) (fun p hp => hp) (fun p hp => hp) h.keys
  rcases h1 with h1 | h1
  ·subst h1
   refine (copyCheck_fresh g' w hc0 (by simp [World.shape?, e3]) (by simp [World.frozen?, e3])).mono ?_
   rintro e w' ⟨rfl, rfl⟩
   refine ⟨_, m, _, rfl, hweak ?_, trivial⟩
   have hheap : (w.setCell ⟨g', 0, none⟩ (.pointer (some ⟨g', 0, none⟩))).heap[g']? = some (.cells #[.pointer (some ⟨g', 0, none⟩), u] 111 (0, 0)) := setCell_heap (i := 0) e3 _
   have hn : Touch m w 20 (w.setCell ⟨g', 0, none⟩ (.pointer (some ⟨g', 0, none⟩))) := ⟨⟨rfl, rfl, rfl, by simp [World.setCell], fun h => False.elim h⟩, fun b hb hne => setCell_far _ (fun e => hne (by rw [hg1, e]; rfl))⟩
   have := hm.setBox (c := BX.cells [.selfp 20, .row 21] 111) hbx hn (g := g') hg1 ⟨_, hheap, .inr hg1.symm, h2, trivial⟩
   exact this
  ·refine (copyCheck_used g' w (by rw [hc0, h1, hg1])).mono ?_
   rintro e w' ⟨rfl, rfl⟩
   exact ⟨_, m, _, rfl, hweak hm, trivial⟩
theorem freeze_far {w : World} {b n k : Nat} (h : k ≠ b) : (w.freeze ⟨b, 0, none⟩ n).heap[k]? = w.heap[k]? := by
 unfold World.freeze
 split
 ·rfl
 ·simp [Array.getElem?_modify, Ne.symm h]
theorem freeze_size {w : World} {b n : Nat} : (w.freeze ⟨b, 0, none⟩ n).heap.size = w.heap.size /\ (w.freeze ⟨b, 0, none⟩ n).os = w.os /\ (w.freeze ⟨b, 0, none⟩ n).tape = w.tape /\ (w.freeze ⟨b, 0, none⟩ n).output = w.output := by
 unfold World.freeze
 split <;> simp
theorem b_bld_String {G : World -> Prop} (k : Nat) : BC Tryz.prog G 56 (B_bld_String k) where
 enters := enters_of Tryz.func56 (by kernel_rfl) rfl
 calls := by
  rintro cx hP hn hG z y hr vs w hlen ⟨m, hm⟩
  obtain ⟨v, hv0, g, hg1, rfl⟩ := hm.slots 0 (.ptr 14 0) List.mem_cons_self
  have hvs := one_arg (n := 14) hlen hv0
  subst hvs
  have hbx : (14, BX.cells [.selfp 14, .row 15] 111) ∈ ((B_bld_String k).S z).bx := List.mem_cons_self
  obtain ⟨g', e1, hplace, cells, e3, e4⟩ := hm.boxes _ _ hbx
  have : g' = g := by rw [hg1] at e1; cases e1; rfl
  subst this
  obtain ⟨p, u, hcs, h1, h2⟩ : ∃ p u, cells.toList = [p, u] /\ (p = .pointer none \/ p = m 14) /\ u = m 15 := by
   match hc : cells.toList, e4 with
   | [p, u], ⟨h1, h2, _⟩ => exact ⟨p, u, rfl, h1, h2⟩
  have hcs' : cells = #[p, u] := Array.ext' (by rw [hcs])
  subst hcs'
  have hrw : (15, (⟨5, .int .u8, z⟩ : RowC)) ∈ ((B_bld_String k).S z).rw := List.mem_cons_self
  obtain ⟨rc, hown, hout, hL⟩ := hm.rows _ _ hrw
  have hL' : rc = z.map (Value.int .u8) := repL_ints hL
  have hr : bld_String k z = some y := hr
  unfold bld_String at hr
  split at hr
  case isFalse => cases hr
  rename_i hz
  cases hr
  have done : ∀ {w' : World} {T : Array Value}, T.size = cx.n -> Frame cx.w0 w' cx.X -> Rm cx m ((B_bld_String k).S' z (bytesStr z)) T w' := fun hT hf =>
   {size := hT, frame := hf, outer := hm.outer, slots := (fun i sv hi => by cases hi), boxes := (fun i c hi => by cases hi), rows := (fun i c hi => by cases hi), apart := (fun i j hi => by cases hi), keys := List.nodup_nil, fixed := (fun i c hi => by cases hi), kept := (fun i c hi => by cases hi) }
  have fr : ∀ {w' : World}, Below w.heap.size w w' -> Frame cx.w0 w' cx.X := fun hb => hm.frame.step ⟨hb.os, hb.tape, hb.output, hb.size, fun h => False.elim h⟩ fun b hb' _ => hb.block b (Nat.lt_of_lt_of_le hb' hm.frame.size)
  have hlen0 : (bytesStr z).length = z.length := by simp [bytesStr]
  have hstr : ∀ (w' : World) (M : Nat -> Prop), repS w' M m (.string ⟨#[]⟩) (SS (bytesStr [])) := fun w' M => (repV_str (w := w') (M := M)).2 ⟨rfl, by decide⟩
  have hstr2 : z.length <= maxLen -> ∀ (w' : World) (M : Nat -> Prop), repS w' M m (.string ⟨(bytesStr z).toArray⟩) (SS (bytesStr z)) := fun hm w' M => (repV_str (w := w') (M := M)).2 ⟨rfl, by rw [hlen0]; exact hm⟩
  rcases hown.2 with ⟨hv, hn0⟩ | ⟨gb, cap, cur, hv, _, hh, hle, hmax, hsz, htk⟩
  ·rw [h2, hv] at e3
   have hz0 : z = [] := List.eq_nil_of_length_eq_zero hn0
   refine (bldString_nil g' p w e3).mono ?_
   rintro e w' ⟨rfl, hb⟩
   subst hz0
   exact ⟨_, m, _, rfl, done hm.size (fr hb), hstr _ _⟩
  ·have hle : z.length <= cap := hle
   have hsz : cur.size = cap := hsz.trans (Nat.mul_one cap)
   have htk : cur.toList.take z.length = rc := (congrArg (fun n => List.take n cur.toList) (Nat.mul_one z.length).symm).trans htk
   rw [h2, hv] at e3
   by_cases hz0 : z = []
   ·subst hz0
    by_cases hc0 : cap = 0
    ·subst hc0
     refine (bldString_noroom g' gb p cur w e3 hh).mono ?_
     rintro e w' ⟨rfl, hb⟩
     exact ⟨_, m, _, rfl, done hm.size (fr hb), hstr _ _⟩
    ·refine (bldString_room g' gb cap p w hc0 e3).mono ?_
     rintro e w' ⟨rfl, hb⟩
     exact ⟨_, m, _, rfl, done hm.size (fr hb), hstr _ _⟩
   ·have hne : bytesStr z ≠ [] := by
     intro e
     have := congrArg List.length e
     rw [hlen0] at this
     exact hz0 (List.eq_nil_of_length_eq_zero this)
    have e3' : w.heap[g']? = some (.cells #[p, .slice (some ⟨gb, 0, none⟩) (bytesStr z).length cap] 111 (0, 0)) := by rw [hlen0]; exact e3
    refine (bldString_row g' gb cap p cur (bytesStr z) w hne e3' hh (by rw [hlen0]; exact hle) hmax hsz ?_).mono ?_
    ·intro j x hx
     have hj : j < z.length := by rw [<- hlen0]; exact (List.getElem?_eq_some_iff.1 hx).1
     have h5 : (bytesEl (bytesStr z))[j]? = some (x.toNat : Int) := by unfold bytesEl; rw [List.getElem?_map, hx]; rfl
     rw [hz] at h5
     have h6 : rc[j]? = some (Value.int .u8 (x.toNat : Int)) := by rw [hL', List.getElem?_map, h5]; rfl
     rw [<- htk, List.getElem?_take, if_pos hj] at h6
     rw [<- Array.getElem?_toList]
     exact h6
    ·rintro e w' ⟨rfl, rfl⟩
     obtain ⟨f1, f2, f3, f4⟩ := freeze_size (w := w.drew) (b := gb) (n := (bytesStr z).length)
     have hgb := hout gb (by rw [hv]; rfl)
     refine ⟨_, m, _, rfl, done hm.size (hm.frame.step ⟨f2, f3, f4, by rw [f1]; exact Nat.le_refl _, fun h => False.elim h⟩ fun b hb' hX => ?_), hstr2 (Nat.le_trans hle hmax) _ _⟩
     refine freeze_far (w := w.drew) ?_
     rintro rfl
     rcases hgb with hgb | hgb
     ·omega
     ·exact hX hgb
end Go.Ev
namespace Go.Ev
open Go
variable [Dr]
def Gn : World -> Prop := fun _ => True
theorem Gn_stable : ∀ w w', Frame w w' (fun _ => False) -> Gn w -> Gn w' := fun _ _ _ _ => trivial
end Go.Ev
namespace Go.Ev
open Go Go.Proofs Go.Shelf Go.RowKit
open Go.Sort (flatK HoldsK putRowK)
set_option maxRecDepth 100000
def repC (w : World) (M : Nat -> Prop) (t : Ty) : List (List Value) -> List t.el -> Prop
 | [], [] => True
 | c :: d, x :: xs => rep w M t c x /\ repC w M t d xs
 | _, _ => False
theorem repC_of {w : World} {M : Nat -> Prop} {t : Ty} : ∀ {cells : List Value} {xs : List t.el}, repL (rep w M t) cells xs -> ∃ d : List (List Value), d.flatten = cells /\ repC w M t d xs
 | cells, [], h => ⟨[], by rw [show cells = [] from h]; rfl, trivial⟩
 | cells, x :: xs, ⟨c1, c2, e, h1, h2⟩ => by
  obtain ⟨d, hd, hr⟩ := repC_of h2
  exact ⟨c1 :: d, by rw [List.flatten_cons, hd, e], h1, hr⟩
theorem repC_to {w : World} {M : Nat -> Prop} {t : Ty} : ∀ {d : List (List Value)} {xs : List t.el}, repC w M t d xs -> repL (rep w M t) d.flatten xs
 | [], [], _ => rfl
 | [], _ :: _, h => h.elim
 | _ :: _, [], h => h.elim
 | c :: d, x :: xs, ⟨h1, h2⟩ => ⟨c, d.flatten, rfl, h1, repC_to h2⟩
theorem repC_app {w : World} {M : Nat -> Prop} {t : Ty} : ∀ {d e : List (List Value)} {xs ys : List t.el}, repC w M t d xs -> repC w M t e ys -> repC w M t (d ++ e) (xs ++ ys)
 | [], _, [], _, _, h => h
 | [], _, _ :: _, _, h, _ => h.elim
 | _ :: _, _, [], _, h, _ => h.elim
 | _ :: _, _, _ :: _, _, ⟨h1, h2⟩, h => ⟨h1, repC_app h2 h⟩
theorem repC_rev {w : World} {M : Nat -> Prop} {t : Ty} : ∀ {d : List (List Value)} {xs : List t.el}, repC w M t d xs -> repC w M t d.reverse xs.reverse
 | [], [], _ => trivial
 | [], _ :: _, h => h.elim
 | _ :: _, [], h => h.elim
 | c :: d, x :: xs, ⟨h1, h2⟩ => by
  rw [List.reverse_cons, List.reverse_cons]
  exact repC_app (repC_rev h2) ⟨h1, trivial⟩
theorem repC_len {w : World} {M : Nat -> Prop} {t : Ty} : ∀ {d : List (List Value)} {xs : List t.el}, repC w M t d xs -> d.length = xs.length /\ ∀ c ∈ d, c.length = t.cells /\ ∀ v ∈ c, v.oneCell' = true
 | [], [], _ => ⟨rfl, fun c h => by cases h⟩
 | [], _ :: _, h => h.elim
 | _ :: _, [], h => h.elim
 | c :: d, x :: xs, ⟨h1, h2⟩ => by
  obtain ⟨k1, k2⟩ := repC_len h2
  refine ⟨by simp [k1], fun c' hc => ?_⟩
  rcases List.mem_cons.1 hc with rfl | hc
  ·exact ⟨rep_length t h1, rep_oneCell t h1⟩
  ·exact k2 c' hc
def encC (k : Nat) (c : List Value) : List Value := if c.length = k /\ (c.all fun v => v.oneCell') = true then c else List.replicate k (.int .i64 0)
theorem encC_len (k : Nat) (c : List Value) : (encC k c).length = k := by
 unfold encC
 split
 ·rename_i h; exact h.1
 ·simp
theorem encC_one (k : Nat) (c : List Value) : ∀ v ∈ encC k c, v.oneCell' = true := by
 unfold encC
 split
 ·rename_i h; exact List.all_eq_true.1 h.2
 ·intro v hv
  rw [List.eq_of_mem_replicate hv]
  rfl
theorem encC_eq {k : Nat} {c : List Value} (h : c.length = k) (h1 : ∀ v ∈ c, v.oneCell' = true) : encC k c = c := if_pos ⟨h, List.all_eq_true.2 h1⟩
theorem flat_get {k : Nat} : ∀ {d : List (List Value)}, (∀ c ∈ d, c.length = k) -> ∀ t, t < d.length * k -> d.flatten[t]? = ((d[t / k]?).getD [])[t % k]?
 | [], _, t, h => by simp at h
 | c :: d, hd, t, h => by
  have hc := hd c List.mem_cons_self
  have hk : 0 < k := by
   rcases Nat.eq_zero_or_pos k with h0 | h0
   ·subst h0; simp at h
   ·exact h0
  rw [List.flatten_cons]
  by_cases ht : t < k
  ·rw [List.getElem?_append_left (by omega), Nat.div_eq_of_lt ht, Nat.mod_eq_of_lt ht]
   rfl
  ·have e1 : t / k = (t - k) / k + 1 := by rw [<- Nat.add_div_right _ hk]; congr 1; omega
   have e2 : t % k = (t - k) % k := by rw [<- Nat.add_mod_right (t - k) k]; congr 1; omega
   rw [List.getElem?_append_right (by omega), hc, flat_get (fun c hc => hd c (List.mem_cons_of_mem _ hc)) (t - k) (by rw [List.length_cons, Nat.succ_mul] at h; omega), e1, e2]
   rfl
theorem flat_eq {k : Nat} {d : List (List Value)} (hd : ∀ c ∈ d, c.length = k /\ ∀ v ∈ c, v.oneCell' = true) : flatK (encC k) k d.toArray = d.flatten.toArray := by
 have hl : d.flatten.length = d.length * k := by
  induction d with
  | nil => simp
  | cons c d ih =>
   rw [List.flatten_cons, List.length_append, (hd c List.mem_cons_self).1, ih fun c hc => hd c (List.mem_cons_of_mem _ hc), List.length_cons, Nat.succ_mul]
   omega
 apply Array.ext'
 apply List.ext_getElem?
 intro t
 by_cases ht : t < d.length * k
 ·have hg := flat_get (fun c hc => (hd c hc).1) t ht
  have hk : 0 < k := by
   rcases Nat.eq_zero_or_pos k with h0 | h0
   ·subst h0; simp at ht
   ·exact h0
  have hq : t / k < d.length := Nat.div_lt_of_lt_mul (by rw [Nat.mul_comm]; exact ht)
  have hr : t % k < k := Nat.mod_lt _ hk
  have hm := hd d[t / k] (List.getElem_mem hq)
  rw [show (d.flatten.toArray).toList = d.flatten from rfl, hg, Array.getElem?_toList]
  unfold flatK
  rw [Array.getElem?_map, Array.getElem?_range]
  have : t < d.toArray.size * k := by simpa using ht
  rw [if_pos this]
  simp only [Option.map_some]
  rw [List.getElem?_eq_getElem hq, Option.getD_some]
  have e1 : d.toArray[t / k]! = d[t / k] := by simp [hq]
  rw [e1, encC_eq hm.1 hm.2, List.getElem?_eq_getElem (by rw [hm.1]; exact hr)]
  simp [hm.1, hr]
 ·rw [List.getElem?_eq_none (by simp [flatK]; omega), List.getElem?_eq_none (by simpa [hl] using ht)]
theorem heap_mapB (w : World) (g b : Nat) (f : Array Value -> Array Value) : (Go.Sort.mapBlock w g f).heap[b]? = if g = b then (w.heap[b]?).map (Go.Sort.onCells f) else w.heap[b]? := by
 unfold Go.Sort.mapBlock
 exact Array.getElem?_modify
theorem turned_ok {w : World} {M : Nat -> Prop} {t : Ty} {e g cap n : Nat} {xs : List t.el} {cells : List Value} {d : List (List Value)} (hp : 0 < t.cells) (hown : w.ownsRow 0 e t.cells (.slice (some ⟨g, 0, none⟩) xs.length cap) xs.length cells) (hd : d.flatten = cells) (hr : repC w M t d xs) :
  ∃ u cells', (Ending.returned (.tuple #[])) = .returned u /\ Same w (Go.Sort.putRow id (Sort.ahead w n) g 0 d.reverse.flatten.toArray) /\ (∀ b, b < w.heap.size -> blk (.slice (some ⟨g, 0, none⟩) xs.length cap) ≠ some b -> (Go.Sort.putRow id (Sort.ahead w n) g 0 d.reverse.flatten.toArray).heap[b]? = w.heap[b]?) /\
   (Go.Sort.putRow id (Sort.ahead w n) g 0 d.reverse.flatten.toArray).ownsRow 0 e t.cells (.slice (some ⟨g, 0, none⟩) xs.length cap) (List.length xs.reverse) cells' /\ repL (rep w M t) cells' xs.reverse := by
 rcases hown.2 with ⟨hv, _⟩ | ⟨g', cap', cur, hv, hb0, hh, hle, hmax, hcur, htk⟩
 ·cases hv
 cases hv
 have hrev := repC_to (repC_rev hr)
 have hlen : d.reverse.flatten.length = xs.length * t.cells := by
  rw [repL_length (fun _ _ => rep_length t) _ _ hrev, List.length_reverse]
 have hsz : xs.length * t.cells <= cur.size := by rw [hcur]; exact Nat.mul_le_mul_right _ hle
 have hheap : (Go.Sort.putRow id (Sort.ahead w n) g 0 d.reverse.flatten.toArray).heap[g]? = some (.cells (Go.Sort.putCells id 0 d.reverse.flatten.toArray cur) e (0, 0)) := by
  unfold Go.Sort.putRow
  rw [heap_mapB, if_pos rfl]
  have : (Sort.ahead w n).heap[g]? = some (.cells cur e (0, 0)) := hh
  rw [this]
  rfl
 refine ⟨_, d.reverse.flatten, rfl, ⟨rfl, rfl, rfl, ?_, fun _ => Nat.le_add_right _ _⟩, ?_, ⟨?_, .inr ⟨g, cap, Go.Sort.putCells id 0 d.reverse.flatten.toArray cur, by rw [List.length_reverse], hb0, hheap, by rw [List.length_reverse]; exact hle, hmax, ?_, ?_⟩⟩, hrev⟩
 ·show w.heap.size <= _
  rw [Go.Sort.size_putRow]
  exact Nat.le_refl _
 ·intro b hb hne
  have hbg : b ≠ g := fun e => hne (by rw [e]; rfl)
  unfold Go.Sort.putRow
  rw [heap_mapB, if_neg hbg.symm]
  rfl
 ·rw [hlen, List.length_reverse]
 ·rw [<- hcur]
  simp [Go.Sort.putCells]
 ·rw [List.length_reverse]
  apply List.ext_getElem?
  intro j
  by_cases hj : j < xs.length * t.cells
  ·have hj2 : j < cur.size := by omega
   have hj3 : j < d.reverse.flatten.length := by omega
   rw [List.getElem?_take_of_lt hj, Array.getElem?_toList]
   unfold Go.Sort.putCells
   rw [Array.getElem?_mapIdx, Array.getElem?_eq_getElem hj2, Option.map_some, if_pos ⟨Nat.zero_le _, by simpa using hj3⟩, List.getElem?_eq_getElem hj3]
   simp only [Nat.sub_zero, id]
   rw [getElem!_pos _ j (by simpa using hj3)]
   simp
  ·rw [List.getElem?_eq_none (by simp; omega), List.getElem?_eq_none (by omega)]
theorem held {w : World} {M : Nat -> Prop} {t : Ty} {e g cap : Nat} {xs : List t.el} {cells : List Value} (hown : w.ownsRow 0 e t.cells (.slice (some ⟨g, 0, none⟩) xs.length cap) xs.length cells) : Go.Sort.Holds id w g 0 cells.toArray := by
 rcases hown.2 with ⟨hv, _⟩ | ⟨g', cap', cur, hv, hb0, hh, hle, hmax, hcur, htk⟩
 ·cases hv
 cases hv
 intro j hj
 have hj' : j < cells.length := by simpa using hj
 rw [Nat.zero_add]
 refine ⟨?_, by simp [World.frozen?, hh]⟩
 have h1 := hown.cells (g := g) rfl j cells[j] (List.getElem?_eq_getElem hj')
 rw [add_mk, Nat.zero_add] at h1
 rw [h1, getElem!_pos _ j hj]
 rfl
theorem ic_revK {P : Program} {G : World -> Prop} {ρ : Ren} (L : SlLaysE0.n35 P ρ) {f e : Nat} {t : Ty} (hf : ρ.f 35 = f) (he : ρ.t 23 = e) (hp : Nat.blt 0 t.cells = true) (aE : ∀ w, (isAgg e).run P w = .ok true w) (zE : ∀ w, (Go.sizeOf e).run P w = .ok t.cells w)
  (hen : ∀ args w, (callFunc f args).run P w = .ok (.enter f args) w) : IC P G f e t (fun xs ys => ys = xs.reverse) where
 enters := hen
 calls := by
  rintro w M v xs ys cells _ rfl hown hL
  subst hf
  subst he
  rcases hown.2 with ⟨hv, hz⟩ | ⟨g, cap, cur, hv, hb0, hh, hle, hmax, hcur, htk⟩
  ·have hx : xs = [] := List.length_eq_zero_iff.1 hz
   subst hx
   subst hv
   refine (AnyQ.slices_Reverse_empty L none 0 w).mono ?_
   rintro e w' ⟨rfl, rfl⟩
   exact ⟨_, cells, rfl, ⟨rfl, rfl, rfl, Nat.le_refl _, fun _ => Nat.le_refl _⟩, fun _ _ _ => rfl, hown, hL⟩
  ·subst hv
   obtain ⟨d, hd, hr⟩ := repC_of hL
   obtain ⟨hl, hc⟩ := repC_len hr
   have hH : HoldsK (encC t.cells) t.cells w g 0 d.toArray := by
    show Go.Sort.Holds id w g 0 (flatK (encC t.cells) t.cells d.toArray)
    rw [flat_eq hc, hd]
    exact held (M := M) hown
   have := AnyQ.slices_Reverse L t.cells aE zE (encC t.cells) (encC_len _) (encC_one _) g 0 cap d.toArray w hH (by simp [hl]; exact Nat.le_trans hle hmax)
   rw [show d.toArray.size = xs.length from by simp [hl]] at this
   refine this.mono ?_
   rintro e w' ⟨rfl, n, rfl⟩
   have e1 : putRowK (encC t.cells) t.cells (Sort.ahead w n) g 0 d.toArray.reverse = Go.Sort.putRow id (Sort.ahead w n) g 0 d.reverse.flatten.toArray := by
    unfold putRowK
    rw [show d.toArray.reverse = d.reverse.toArray from by simp, flat_eq fun c hcm => hc c (List.mem_reverse.1 hcm)]
   rw [e1]
   exact turned_ok (blt_true hp) hown hd hr
def encV (v : Value) : Value := if v.oneCell' = true then v else .int .i64 0
theorem encV_eq {v : Value} (h : v.oneCell' = true) : encV v = v := if_pos h
theorem encV_one (v : Value) : (encV v).oneCell' = true := by
 unfold encV
 split
 ·assumption
 ·rfl
theorem single {d : List (List Value)} (h : ∀ c ∈ d, c.length = 1) : d.reverse.flatten = d.flatten.reverse := by
 induction d with
 | nil => rfl
 | cons c d ih =>
  obtain ⟨v, rfl⟩ := List.length_eq_one_iff.1 (h c List.mem_cons_self)
  rw [List.reverse_cons, List.flatten_append, ih fun c hc => h c (List.mem_cons_of_mem _ hc)]
  simp
theorem ic_rev1 {P : Program} {G : World -> Prop} {ρ : Ren} (L : SlLaysE.n35 P ρ) {f e : Nat} {t : Ty} (hf : ρ.f 35 = f) (hp : Nat.beq t.cells 1 = true)
  (hen : ∀ args w, (callFunc f args).run P w = .ok (.enter f args) w) : IC P G f e t (fun xs ys => ys = xs.reverse) where
 enters := hen
 calls := by
  rintro w M v xs ys cells _ rfl hown hL
  subst hf
  have hp := Nat.eq_of_beq_eq_true hp
  rcases hown.2 with ⟨hv, hz⟩ | ⟨g, cap, cur, hv, hb0, hh, hle, hmax, hcur, htk⟩
  ·have hx : xs = [] := List.length_eq_zero_iff.1 hz
   subst hx
   subst hv
   refine (AnyE.slices_Reverse_empty L none 0 w).mono ?_
   rintro e w' ⟨rfl, rfl⟩
   exact ⟨_, cells, rfl, ⟨rfl, rfl, rfl, Nat.le_refl _, fun _ => Nat.le_refl _⟩, fun _ _ _ => rfl, hown, hL⟩
  ·subst hv
   obtain ⟨d, hd, hr⟩ := repC_of hL
   obtain ⟨hl, hc⟩ := repC_len hr
   have h1 : ∀ c ∈ d, c.length = 1 := fun c hm => by rw [(hc c hm).1, hp]
   have hone : ∀ v ∈ cells, v.oneCell' = true := fun v hv => by
    rw [<- hd] at hv
    obtain ⟨c, hcm, hvc⟩ := List.mem_flatten.1 hv
    exact (hc c hcm).2 v hvc
   have hlc : cells.length = xs.length := by rw [hown.1, hp, Nat.mul_one]
   have hld : Go.Sort.Holds id w g 0 cells.toArray := held (M := M) hown
   have hH : Go.Sort.Holds encV w g 0 cells.toArray := fun j hj => by
    obtain ⟨a1, a2⟩ := hld j hj
    refine ⟨?_, a2⟩
    rw [a1, encV_eq]
    ·rfl
    ·rw [getElem!_pos _ j hj]; exact hone _ (by simp)
   have := AnyE.slices_Reverse L encV encV_one g 0 cap cells w hH (by rw [hlc]; exact Nat.le_trans hle hmax)
   rw [hlc] at this
   refine this.mono ?_
   rintro e' w' ⟨rfl, n, rfl⟩
   have e1 : Go.Sort.putRow encV (Sort.ahead w n) g 0 cells.reverse.toArray = Go.Sort.putRow id (Sort.ahead w n) g 0 d.reverse.flatten.toArray := by
    rw [single h1, hd]
    unfold Go.Sort.putRow Go.Sort.putCells
    congr 1
    funext c
    congr 1
    funext k x
    split
    ·rename_i hk
     have hk2 : k - 0 < cells.reverse.toArray.size := by omega
     rw [encV_eq]
     ·rfl
     ·rw [getElem!_pos cells.reverse.toArray (k - 0) hk2]
      exact hone _ (List.mem_reverse.1 (by simp))
    ·rfl
   rw [e1]
   exact turned_ok (by omega) hown hd hr
end Go.Ev
namespace Go.Ev
open Go Go.Proofs Go.Shelf Go.RowKit
set_option maxRecDepth 100000
def R_Rev_int : Ren := ⟨fun | 35 => 57 | n => n, fun | 22 => 62 | 23 => 3 | 3 => 3 | 4 => 4 | 0 => 0 | n => n, fun | n => n⟩
theorem L_Rev_int : SlLaysE.n35 Tryz.prog R_Rev_int := {
 mixed := by kernel_rfl
 f35 := ⟨Tryz.f57.name, by kernel_rfl, Tryz.func57.trans (congrArg some (by kernel_rfl))⟩
 t0 := Tryz.underlying0
 a0 := Tryz.isAgg0
 z0 := Tryz.sizeOf0
 v0 := Tryz.zeroValue0
 t3 := Tryz.underlying3
 a3 := Tryz.isAgg3
 z3 := Tryz.sizeOf3
 v3 := Tryz.zeroValue3
 t4 := Tryz.underlying4
 a4 := Tryz.isAgg4
 z4 := Tryz.sizeOf4
 v4 := Tryz.zeroValue4
 t22 := Tryz.underlying62
 a22 := Tryz.isAgg62
 z22 := Tryz.sizeOf62
 v22 := Tryz.zeroValue62
 a23 := Tryz.isAgg3
 z23 := Tryz.sizeOf3 }
noncomputable def pi_Rev_int {G : World -> Prop} : PI Tryz.prog G := ⟨57, 3, (.int .i64), List.reverse, ic_rev1 L_Rev_int rfl (by kernel_rfl) (enters_of Tryz.func57 (by kernel_rfl) rfl)⟩
def R_Rev_rune : Ren := ⟨fun | 35 => 140 | n => n, fun | 22 => 50 | 23 => 21 | 3 => 3 | 4 => 4 | 0 => 0 | n => n, fun | n => n⟩
theorem L_Rev_rune : SlLaysE.n35 Tryz.prog R_Rev_rune := {
 mixed := by kernel_rfl
 f35 := ⟨Tryz.f140.name, by kernel_rfl, Tryz.func140.trans (congrArg some (by kernel_rfl))⟩
 t0 := Tryz.underlying0
 a0 := Tryz.isAgg0
 z0 := Tryz.sizeOf0
 v0 := Tryz.zeroValue0
 t3 := Tryz.underlying3
 a3 := Tryz.isAgg3
 z3 := Tryz.sizeOf3
 v3 := Tryz.zeroValue3
 t4 := Tryz.underlying4
 a4 := Tryz.isAgg4
 z4 := Tryz.sizeOf4
 v4 := Tryz.zeroValue4
 t22 := Tryz.underlying50
 a22 := Tryz.isAgg50
 z22 := Tryz.sizeOf50
 v22 := Tryz.zeroValue50
 a23 := Tryz.isAgg21
 z23 := Tryz.sizeOf21 }
noncomputable def pi_Rev_rune {G : World -> Prop} : PI Tryz.prog G := ⟨140, 21, (.int .i32), List.reverse, ic_rev1 L_Rev_rune rfl (by kernel_rfl) (enters_of Tryz.func140 (by kernel_rfl) rfl)⟩
def R_Rev_Slot : Ren := ⟨fun | 35 => 173 | n => n, fun | 22 => 86 | 23 => 166 | 3 => 3 | 4 => 4 | 0 => 0 | n => n, fun | n => n⟩
theorem L_Rev_Slot : SlLaysE0.n35 Tryz.prog R_Rev_Slot := {
 mixed := by kernel_rfl
 f35 := ⟨Tryz.f173.name, by kernel_rfl, Tryz.func173.trans (congrArg some (by kernel_rfl))⟩
 t0 := Tryz.underlying0
 a0 := Tryz.isAgg0
 z0 := Tryz.sizeOf0
 v0 := Tryz.zeroValue0
 t3 := Tryz.underlying3
 a3 := Tryz.isAgg3
 z3 := Tryz.sizeOf3
 v3 := Tryz.zeroValue3
 t4 := Tryz.underlying4
 a4 := Tryz.isAgg4
 z4 := Tryz.sizeOf4
 v4 := Tryz.zeroValue4
 t22 := Tryz.underlying86
 a22 := Tryz.isAgg86
 z22 := Tryz.sizeOf86
 v22 := Tryz.zeroValue86 }
noncomputable def pi_Rev_Slot {G : World -> Prop} : PI Tryz.prog G := ⟨173, 166, (.pair (.int .i32) (.pair (.int .u32) (.pair (.int .u32) .unit))), List.reverse, ic_revK L_Rev_Slot rfl rfl (by kernel_rfl) Tryz.isAgg166 Tryz.sizeOf166 (enters_of Tryz.func173 (by kernel_rfl) rfl)⟩
def R_Rev_Swap : Ren := ⟨fun | 35 => 174 | n => n, fun | 22 => 87 | 23 => 169 | 3 => 3 | 4 => 4 | 0 => 0 | n => n, fun | n => n⟩
theorem L_Rev_Swap : SlLaysE0.n35 Tryz.prog R_Rev_Swap := {
 mixed := by kernel_rfl
 f35 := ⟨Tryz.f174.name, by kernel_rfl, Tryz.func174.trans (congrArg some (by kernel_rfl))⟩
 t0 := Tryz.underlying0
 a0 := Tryz.isAgg0
 z0 := Tryz.sizeOf0
 v0 := Tryz.zeroValue0
 t3 := Tryz.underlying3
 a3 := Tryz.isAgg3
 z3 := Tryz.sizeOf3
 v3 := Tryz.zeroValue3
 t4 := Tryz.underlying4
 a4 := Tryz.isAgg4
 z4 := Tryz.sizeOf4
 v4 := Tryz.zeroValue4
 t22 := Tryz.underlying87
 a22 := Tryz.isAgg87
 z22 := Tryz.sizeOf87
 v22 := Tryz.zeroValue87 }
noncomputable def pi_Rev_Swap {G : World -> Prop} : PI Tryz.prog G := ⟨174, 169, (.pair (.int .i32) (.pair (.int .i64) (.pair (.int .u32) (.pair (.int .u32) .unit)))), List.reverse, ic_revK L_Rev_Swap rfl rfl (by kernel_rfl) Tryz.isAgg169 Tryz.sizeOf169 (enters_of Tryz.func174 (by kernel_rfl) rfl)⟩
end Go.Ev
namespace Go.Ev
open Go Go.Proofs
noncomputable def pb_bld_copyCheck {G : World -> Prop} (k : Nat) : PB Tryz.prog G (List Int) Unit := ⟨80, B_bld_copyCheck k, fun st => getH st [.rw 21 5 (.int .u8)], fun z => bld_copyCheck k z, b_bld_copyCheck k, fun _ _ h => h⟩
noncomputable def pb_bld_String {G : World -> Prop} (k : Nat) : PB Tryz.prog G (List Int) (List UInt8) := ⟨56, B_bld_String k, fun st => getH st [.rw 15 5 (.int .u8)], fun z => bld_String k z, b_bld_String k, fun _ _ h => h⟩
end Go.Ev
namespace Go.Ev
open Go Go.RowKit
open Go.ChangeMaps (setBlock)
structure Going (w : World) (b r : Nat) (es : Array MapEntry) (clock : Nat) (got : List MapEntry) : Prop where
 map : w.heap[b]? = some (.map es clock)
 born : ∀ e ∈ es.toList, e.born < clock
 nb : (es.toList.map (·.born)).Nodup
 it : w.heap[r]? = some (.mapIter (some b) clock (got.map (·.born)).toArray clock)
 mem : ∀ e ∈ got, e ∈ es.toList
 nd : (got.map (·.born)).Nodup
 cnt : got.length + (leftOf es (got.map (·.born)).toArray).size <= es.size
section
variable {P : Program} {w : World} {b r : Nat} {es : Array MapEntry} {clock : Nat} {got : List MapEntry}
theorem Going.ne (h : Going w b r es clock got) : b ≠ r := fun e => by
 have := h.map
 rw [e, h.it] at this
 cases this
theorem Going.walk (h : Going w b r es clock got) : ∃ o : Obj, w.heap[r]? = some o /\ o.isWalk = true := ⟨_, h.it, rfl⟩
theorem Going.left (h : Going w b r es clock got) : w.rangeLeft b r = (leftOf es (got.map (·.born)).toArray).size := by
 simp only [World.rangeLeft, h.map, h.it]
theorem Going.of_walks {w' : World} (h : Going w b r es clock got) (hk : KeepsWalks w w') : Going w' b r es clock got := by
 exact ⟨hk.same b _ h.map rfl, h.born, h.nb, hk.same r _ h.it rfl, h.mem, h.nd, h.cnt⟩
theorem Going.start {kt et t : TypeId} (ht : P.underlying t = some (.map kt et)) (hb : w.heap[b]? = some (.map es clock)) (hn : ∀ e ∈ es.toList, e.born < clock) (hd : (es.toList.map (·.born)).Nodup) :
  (Instr.range t (.map (some b))).run P w = .ok (.pointer (some ⟨w.heap.size, 0, none⟩)) (w.alloc (.mapIter (some b) clock #[] clock)) /\ Going (w.alloc (.mapIter (some b) clock #[] clock)) b w.heap.size es clock [] := by
 have hlt : b < w.heap.size := (Array.getElem?_eq_some_iff.1 hb).1
 refine ⟨run_range_map w t kt et b es clock ht hb, ⟨(Below.heap_alloc w _ b hlt).trans hb, hn, hd, World.alloc_heap_new w _, fun _ h => (by cases h), List.nodup_nil, ?_⟩⟩
 simp only [List.length_nil, Nat.zero_add]
 exact Array.size_filter_le ..
theorem Going.step (h : Going w b r es clock got) (ty : TypeId) :
  ((∀ e ∈ es.toList, e ∈ got) /\ (Instr.next (.pointer (some ⟨r, 0, none⟩)) false ty).run P w = .ok (.tuple #[.bool false]) w) \/
  ∃ e w2, (Instr.next (.pointer (some ⟨r, 0, none⟩)) false ty).run P w = .ok (.tuple #[.bool true, e.key, e.val]) w2 /\ Going w2 b r es clock (got ++ [e]) /\ got.length < es.size /\ w2.rangeLeft b r < w.rangeLeft b r /\ w.grownBy w2 (some r) /\ w2.heap.size = w.heap.size := by
 have h1 := h.it
 rcases run_next_at (P := P) w ty r b clock clock _ es clock h1 h.map h.born (Nat.le_refl _) with ⟨h0, hrun⟩ | ⟨e, he, w1, hal, hrun⟩
 ·refine .inl ⟨fun e he => ?_, hrun⟩
  have := all_seen es _ h0 e he
  have hm : e.born ∈ got.map (·.born) := by simpa using this
  obtain ⟨e', he', heq⟩ := List.mem_map.1 hm
  rw [<- born_inj h.nb (h.mem e' he') he heq]
  exact he'
 ·obtain ⟨hem, hes⟩ := mem_left he
  have hlt : r < w1.heap.size := by rcases hal with rfl | rfl <;> exact (Array.getElem?_eq_some_iff.1 h1).1
  have hb1 : w1.heap[b]? = some (.map es clock) := by rcases hal with rfl | rfl <;> exact h.map
  have hsh := left_shrinks es _ e he
  have hpush : (got.map (·.born)).toArray.push e.born = ((got ++ [e]).map (·.born)).toArray := by simp
  have g : Going (setBlock w1 r (.mapIter (some b) clock ((got.map (·.born)).toArray.push e.born) clock)) b r es clock (got ++ [e]) := by
   refine ⟨?_, h.born, h.nb, ?_, fun x hx => ?_, ?_, ?_⟩
   ·show (w1.heap.setIfInBounds r _)[b]? = _
    rw [Array.getElem?_setIfInBounds_ne (Ne.symm h.ne)]; exact hb1
   ·rw [hpush]
    show (w1.heap.setIfInBounds r _)[r]? = _
    rw [Array.getElem?_setIfInBounds_self_of_lt hlt]
   ·rcases List.mem_append.1 hx with hx | hx
    ·exact h.mem x hx
    ·simp at hx; subst hx; exact hem
   ·rw [List.map_append, List.nodup_append]
    refine ⟨h.nd, by simp, fun a ha c hc => ?_⟩
    simp at hc
    subst hc
    rintro rfl
    have : (got.map (·.born)).toArray.contains e.born = true := by simpa using ha
    rw [this] at hes; cases hes
   ·rw [<- hpush]
    have := h.cnt
    rw [List.length_append]
    simp only [List.length_cons, List.length_nil]
    omega
  refine .inr ⟨e, _, hrun, g, by have := h.cnt; omega, by rw [g.left, h.left, <- hpush]; exact hsh, ?_, ?_⟩
  ·rcases hal with rfl | rfl <;> exact ⟨rfl, rfl, rfl, by simp [setBlock], fun i _ hi => Array.getElem?_setIfInBounds_ne (fun e1 => hi (by rw [e1]))⟩
  ·rcases hal with rfl | rfl <;> simp [setBlock]
theorem Going.entry {e : MapEntry} (h : Going w b r es clock (got ++ [e])) : (Instr.entry (.pointer (some ⟨r, 0, none⟩))).run P w = .ok (.tuple #[e.key, e.val]) w := by
 have h1 := h.it
 have hpush : ((got ++ [e]).map (·.born)).toArray = (got.map (·.born)).toArray.push e.born := by simp
 rw [hpush] at h1
 exact run_entry_at w r b clock _ es clock e h1 h.map (h.mem e (by simp)) h.nb
theorem Going.all (h : Going w b r es clock got) (ha : ∀ e ∈ es.toList, e ∈ got) : got.Perm es.toList := by
 have of_map : ∀ l : List MapEntry, (l.map (·.born)).Nodup -> l.Nodup := fun l hl => (List.pairwise_map.1 hl).imp fun hne e => hne (by rw [e])
 have nd1 : got.Nodup := of_map _ h.nd
 have nd2 : es.toList.Nodup := of_map _ h.nb
 exact (List.perm_ext_iff_of_nodup nd1 nd2).2 fun e => ⟨h.mem e, ha e⟩
end
section
variable {F : Fence} {n : Nat} {P : Program} {w : World} {ops : Array Oper} {rest : List Oper} {o : Oper} {a : Act} {Q : Exit -> Act -> World -> Prop} {b r : Nat} {es : Array MapEntry} {clock : Nat} {got : List MapEntry}
theorem wpListIn_start (hg : o.guard = none) (m : Operand) (t kt et : TypeId) (hop : o.op = Op.range t m) (ht : P.underlying t = some (.map kt et)) (hm : a.eval m = .map (some b)) (hb : w.heap[b]? = some (.map es clock)) (hn : ∀ e ∈ es.toList, e.born < clock) (hd : (es.toList.map (·.born)).Nodup)
  (hK : ∀ w', Going w' b w.heap.size es clock [] -> w.grownBy w' none -> w'.heap.size = w.heap.size + 1 -> wpListIn F n P ops Q rest (a.put o.dst (.pointer (some ⟨w.heap.size, 0, none⟩))) w') :
  wpListIn F n P ops Q (o :: rest) a w := by
 refine wpListIn_plain hg fun K' hK' => ?_
 obtain ⟨hrun, hgo⟩ := Going.start (P := P) ht hb hn hd
 unfold Oper.wpIn
 refine ⟨?_, ?_⟩
 ·simp [Oper.about, hop]
 ·rw [Oper.semAt_plain F _ _ (by rw [hop]; intro c hc'; cases hc')]
  simp [execOp, hop, hm, hrun, Result.andThen]
  exact hK' _ _ (hK _ hgo (World.grownBy_alloc w _ none) (by simp))
theorem wpListIn_going (hg : o.guard = none) (it : Operand) (hop : o.op = Op.next it false) (hit : a.eval it = .pointer (some ⟨r, 0, none⟩)) (h : Going w b r es clock got)
  (hDone : (∀ e ∈ es.toList, e ∈ got) -> wpListIn F n P ops Q rest (a.put o.dst (.tuple #[.bool false])) w)
  (hMore : ∀ (e : MapEntry) (w2 : World), Going w2 b r es clock (got ++ [e]) -> got.length < es.size -> w2.rangeLeft b r < w.rangeLeft b r -> w.grownBy w2 (some r) -> w2.heap.size = w.heap.size -> (Instr.entry (.pointer (some ⟨r, 0, none⟩))).run P w2 = .ok (.tuple #[e.key, e.val]) w2 -> wpListIn F n P ops Q rest (a.put o.dst (.tuple #[.bool true, e.key, e.val])) w2) :
  wpListIn F n P ops Q (o :: rest) a w := by
 refine wpListIn_plain hg fun K' hK' => ?_
 unfold Oper.wpIn
 refine ⟨by simp [Oper.about, hop], ?_⟩
 rw [Oper.semAt_plain F _ _ (by rw [hop]; intro c hc'; cases hc')]
 rcases h.step (P := P) o.type with ⟨hl, hrun⟩ | ⟨e, w2, hrun, hgo, h1, h2, h3, h4⟩
 ·simp [execOp, hop, hit, hrun, Result.andThen]
  exact hK' _ _ (hDone hl)
 ·simp [execOp, hop, hit, hrun, Result.andThen]
  exact hK' _ _ (hMore e w2 hgo h1 h2 h3 h4 hgo.entry)
end
end Go.Ev
namespace Go.Ev
open Go Go.Proofs Go.RowKit Go.Shelf
attribute [local go_sem] Oper.semAt_some
def encP (p : Int × Int × Unit) : Value := .agg #[.int .i32 p.1, .int .i32 p.2.1]
def decP : Value -> Int × Int × Unit
 | .agg #[.int _ a, .int _ b] => (a, b, ())
 | _ => (0, 0, ())
theorem perm_of_enc {l m : List (Int × Int × Unit)} (h : (l.map encP).Perm (m.map encP)) : l.Perm m := by
 have := h.map decP
 rw [List.map_map, List.map_map] at this
 have e : decP ∘ encP = id := rfl
 rwa [e, List.map_id, List.map_id] at this
set_option maxRecDepth 100000 in
set_option maxHeartbeats 2000000 in
theorem keysP_stops (F : Fence) (n : Nat) (hF : F.fn 107) (hro : F.round = none) (hn : 1 <= n) (Bm b : Nat) (es : Array MapEntry) (clock : Nat) (ks : List (Int × Int × Unit)) (w : World) (hBm : Bm < w.heap.size) (hm : w.cell? ⟨Bm, 0, none⟩ = some (.map (some b)))
  (hb : w.heap[b]? = some (.map es clock)) (hborn : ∀ e ∈ es.toList, e.born < clock) (hnd : (es.toList.map (·.born)).Nodup) (hk : es.toList.map (·.key) = ks.map encP) :
  SeqStops F n Tryz.prog 107 #[.pointer (some ⟨Bm, 0, none⟩)] encP (fun ss => ss.Perm ks) (fun _ => True) es.size w := fun l J Jx W hW hJ hJx hY h0 => by
 have hbl : b < w.heap.size := (Array.getElem?_eq_some_iff.1 hb).1
 have hb' : W.heap[b]? = some (.map es clock) := (hW.block b hbl).trans hb
 have hm' : W.cell? ⟨Bm, 0, none⟩ = some (.map (some b)) := (hW.cell (p := ⟨Bm, 0, none⟩) hBm).trans hm
 refine callsIn_of_wp Tryz.func107 rfl hF ?_ hro
 simp only [Tryz.ntmps107, List.size_toArray, List.length_cons, List.length_nil, Nat.reduceAdd, Nat.reduceSub, Array.replicate_succ, Array.replicate_zero, List.push_toArray, List.append_toArray, List.nil_append, List.cons_append]
 gi_wp2_with (first
  | (gi_at_range; refine wpListIn_start rfl _ 145 _ _ rfl Tryz.underlying145 rfl hb' hborn hnd ?_; intro w0 hrg0 hg0 hs0)
  | gi_in)
 go_frame
 gi_loopw [3] (fun _ wr => ∃ (got : List MapEntry) (ss : List (Int × Int × Unit)), Going wr b W.heap.size es clock got /\ ss.map encP = got.map (·.key) /\ J ss wr)
  (fun _ wr => wr.rangeLeft b W.heap.size)
 case atStart =>
  exact ⟨[], [], hrg0, rfl, hJ [] W w0 none h0 hg0 (fun r e => by cases e)⟩
 case round =>
  obtain ⟨got, ss, hrg, hss, hJs⟩ := hrel
  gi_wp2_with (first
   | (gi_at_next; refine wpListIn_going rfl _ rfl rfl hrg ?_ ?_)
   | gi_in)
  ·intro hall
   gi_wp2
   go_end0
   refine ⟨⟨_, rfl⟩, .inl ⟨ss, ?_, hJs⟩⟩
   have h1 : (got.map (·.key)).Perm (es.toList.map (·.key)) := (hrg.all fun e he => hall e (by simpa using he)).map _
   rw [<- hss, hk] at h1
   exact perm_of_enc h1
  ·intro e w2 hrg2 hlt hdec hg2 hs2 hen
   obtain ⟨x, hx⟩ : ∃ x, e.key = encP x := by
    have : e.key ∈ es.toList.map (·.key) := List.mem_map.2 ⟨e, hrg2.mem e (by simp), rfl⟩
    rw [hk] at this
    obtain ⟨x, _, hx⟩ := List.mem_map.1 this
    exact ⟨x, hx.symm⟩
   rw [hx] at hen ⊢
   have hJ2 : J ss w2 := hJ ss wr w2 (some W.heap.size) hJs hg2 (fun r e => by cases e; exact ⟨Nat.le_refl _, hrg.walk⟩)
   have hlen : ss.length = got.length := by have := congrArg List.length hss; simpa using this
   have hJ3 : J ss (w2.alloc (.cells #[.int .i32 x.1, .int .i32 x.2.1] 54)) := hJ ss w2 _ none hJ2 (World.grownBy_alloc w2 _ none) (fun r e => by cases e)
   obtain ⟨fn, tmps, assign, body, hy, hR⟩ := hY ss x _ hJ3 (by omega)
   have hrg3 := hrg2.of_walks (KeepsWalks.alloc w2 (.cells #[.int .i32 x.1, .int .i32 x.2.1] 54))
   unfold encP at hen hy ⊢
   gi_wp2
   refine hR.mono ?_
   rintro e' W3 (⟨rfl, hJ4, hk4⟩ | ⟨rfl, hJx4⟩)
   ·gi_wp2
    have hrg4 := hrg3.of_walks hk4
    go_roundw
    case rel => exact ⟨got ++ [e], ss ++ [x], hrg4, by rw [List.map_append, List.map_append, hss]; simp [hx], hJ4⟩
    case measure => rw [hrg4.left, <- hrg2.left]; exact hdec
   ·gi_wp2
    refine bodyPost_ret (results_none rfl _ _ _) rfl ?_
    exact ⟨⟨_, rfl⟩, .inr ⟨ss ++ [x], trivial, hJx4⟩⟩
theorem infoP : (Tryz.prog.info? 54).map (fun i => (i.zero, i.size, i.bytes)) = some (some (.agg #[.int .i32 0, .int .i32 0]), 2, 8) := by kernel_rfl
def ce (p : Int × Int × Unit) : List Value := [.int .i32 p.1, .int .i32 p.2.1]
set_option maxRecDepth 100000 in
set_option maxHeartbeats 2000000 in
theorem appendSeqP (F : Fence) (n : Nat) (hF : F.fn 143) (hro : F.round = none) (hn : 2 <= n) (g : Nat) (lb : Array Value) (hFg : F.fn g) (eg : ∀ args w, (callFunc g args).run Tryz.prog w = .ok (.enter g args) w)
  (S Sp : List (Int × Int × Unit) -> Prop) (N : Nat) (hN : N <= maxLen) (hNb : N * 8 <= 140737488355328) (w : World) (hseq : SeqStops F (n - 1) Tryz.prog g lb encP S Sp N w) :
  CallsIn F n Tryz.prog 143 #[.slice none 0 0, .func (.func g) #[] lb] w fun e w' => ∃ (v : Value) (ss : List (Int × Int × Unit)), e = .returned v /\ S ss /\ w'.ownsRow w.heap.size 54 2 v ss.length (ss.flatMap ce) /\ Below w.heap.size w w' := by
 have h1 : 1 <= n := by omega
 obtain ⟨i0, hi, hz0, hz1, hz2⟩ := info_parts infoP
 refine callsIn_of_wp_marks Tryz.func143 rfl hF ?_ hro
 simp only [Tryz.ntmps143, List.size_toArray, List.length_cons, List.length_nil, Nat.reduceAdd, Nat.reduceSub, Array.replicate_succ, Array.replicate_zero, List.push_toArray, List.append_toArray, List.nil_append, List.cons_append]
 gi_wp2
 refine wpIn_rangeFunc_ownH hro h1 (gf := g) (lb := lb) rfl hFg eg (show SeqStopsK F (n - 1) Tryz.prog g lb (fun x => #[encP x]) KeepsWalks S Sp N w from hseq) walksK_t walksK_b ((Below.refl _ w).alloc (Nat.le_refl _) _) (fun _ => rfl)
  (fun pre W => (∃ v, Boxed W w.heap.size 90 v /\ W.ownsRow w.heap.size 54 2 v pre.length (pre.flatMap ce) /\ True) /\ Below w.heap.size w W)
  (fun _ _ _ => False)
  (OwnFrom.and (Own.from (holdsRow_own w.heap.size w.heap.size 90 54 2 (fun pre : List (Int × Int × Unit) => pre.length) (fun pre => pre.flatMap ce) (fun _ _ => True)) _) (ownFrom_below (Nat.le_refl _) (by simp)))
  (fun _ _ _ _ _ hs _ _ => hs)
  ⟨⟨.slice none 0 0, Boxed.new w _ _, World.ownsRow_nil _ _ _ _, trivial⟩, (Below.refl _ w).alloc (Nat.le_refl _) _⟩
  (fun x a' W => ∃ Bx, w.heap.size < Bx /\ W.heap[Bx]? = some (.cells #[.int .i32 x.1, .int .i32 x.2.1] 54 (0, 0)) /\
   a' = { tmps := #[.slice none 0 0, .func (.func g) #[] lb, .pointer (some ⟨w.heap.size, 0, none⟩), undef, .slice none 0 0, .pointer (some ⟨Bx, 0, none⟩), .func (.func g) #[] lb, encP x, undef, undef, undef, undef, undef], defers := [] })
  ?hAx ?assign ?body ?done ?stop
 case hAx =>
  rintro x a' _ X Y row ⟨Bx, h2, h3, h4⟩ hg hr
  refine ⟨Bx, h2, (hg.block Bx (Array.getElem?_eq_some_iff.1 h3).1 (fun e => ?_)).trans h3, h4⟩
  obtain ⟨_, o, ho, hc⟩ := hr Bx e.symm
  rw [h3] at ho; cases ho; cases hc
 case assign =>
  rintro l pre x W K ⟨⟨v, hv, hr, _⟩, hB⟩ hK
  unfold encP
  gi_wp2
  exact hK _ _ ((KeepsOthers.alloc _ _).from _) (KeepsWalks.alloc _ _) ⟨⟨v, hv.alloc _, hr.alloc _, trivial⟩, hB.alloc hB.size _⟩ ⟨W.heap.size, hv.lt, World.alloc_heap_new W _, rfl⟩
 case body =>
  rintro l pre x a' W hl ⟨r, hr⟩ ⟨⟨v, hv, hrow, _⟩, hB⟩ ⟨Bx, hBx, hx, rfl⟩ hlt
  have hvc := hv.cell
  have hx0 : W.cell? ⟨Bx, 0, none⟩ = some (.int .i32 x.1) := by simp [World.cell?, hx]
  have hx1 : W.cell? ⟨Bx, 1, none⟩ = some (.int .i32 x.2.1) := by simp [World.cell?, hx]
  have hnews : ∀ (j : Nat) (u : Value), (ce x)[j]? = some u -> (W.alloc (.cells #[.int .i32 x.1, .int .i32 x.2.1] 54)).cell? ((⟨W.heap.size, 0, none⟩ : Addr).add j) = some u := by
   intro j u hj
   have ea : (⟨W.heap.size, 0, none⟩ : Addr).add j = ⟨W.heap.size, 0 + j, none⟩ := by unfold Addr.add; split <;> simp_all
   rw [ea, Nat.zero_add]
   simp only [World.cell?, World.alloc_heap_new]
   unfold ce at hj
   match j, hj with
   | 0, hj => simpa using hj
   | 1, hj => simpa using hj
   | j + 2, hj => simp at hj
  gi_wp2_with (gi_at_builtin; refine wpListIn_append_own _ rfl _ _ 90 rfl w.heap.size 54 i0 (.agg #[.int .i32 0, .int .i32 0]) 2 8 Tryz.underlying90 hi hz0 hz1 hz2 rfl (by decide) _ _ _ rfl (hrow.alloc _) ⟨W.heap.size, 0, none⟩ 1 1 (ce x) rfl rfl hnews (by simp [ce, Value.oneCell']) (by omega) (by omega) (by have := hB.size; simp; omega) ?_; intro v' w1 hown' hgrow _; obtain ⟨g', cap', rfl⟩ := ownsRow_succ hown'; obtain ⟨hv1, hv2, hr2, hk2, hb2⟩ := hv.appended (by decide) hrow hB.size (Nat.le_refl _) hown' hgrow; have hc1 := hv1.cell; have hf1 := hv1.frozen)
  exact ⟨hk2.from _, ⟨hk2.size, fun j o hj ho => hk2.same j o hj (Obj.not_cells_of_walk ho)⟩, ⟨_, hv2, by rw [List.length_append, List.flatMap_append]; simpa using hr2, trivial⟩, hB.trans hb2⟩
 case done =>
  rintro D ss W hD hS ⟨⟨v, hv, hrow, _⟩, hB⟩ hK
  have hvc := hv.cell
  gi_wp2
  refine ⟨by simp, .inl ⟨_, _, rfl, run_takeDeferred hK, ?_⟩⟩
  exact ⟨_, results_tmp rfl _ _ _, v, ss, rfl, hS, ownsRow_putObj hrow _ hK rfl, hB.grown (grownBy_putObj' _ D _) hB.size (fun k e => by cases e; simp at hD; omega)⟩
 case stop =>
  rintro D c pre W _ _ h _
  exact h.elim
set_option maxHeartbeats 2000000 in
theorem collectP (F : Fence) (n : Nat) (hF : F.fn 105) (hF2 : F.fn 143) (hro : F.round = none) (hn : 3 <= n) (g : Nat) (lb : Array Value) (hFg : F.fn g) (eg : ∀ args w, (callFunc g args).run Tryz.prog w = .ok (.enter g args) w)
  (S Sp : List (Int × Int × Unit) -> Prop) (N : Nat) (hN : N <= maxLen) (hNb : N * 8 <= 140737488355328) (w : World) (hseq : SeqStops F (n - 1 - 1) Tryz.prog g lb encP S Sp N w) :
  CallsIn F n Tryz.prog 105 #[.func (.func g) #[] lb] w fun e w' => ∃ (v : Value) (ss : List (Int × Int × Unit)), e = .returned v /\ S ss /\ w'.ownsRow w.heap.size 54 2 v ss.length (ss.flatMap ce) /\ Below w.heap.size w w' := by
 have h1 : 1 <= n := by omega
 refine callsIn_of_wp Tryz.func105 rfl hF ?_ hro
 simp only [Tryz.ntmps105, List.size_toArray, List.length_cons, List.length_nil, Nat.reduceAdd, Nat.reduceSub, Array.replicate_succ, Array.replicate_zero, List.push_toArray, List.append_toArray, List.nil_append, List.cons_append]
 gi_wp2_with (gi_at_call 143; refine (appendSeqP F (n - 1) hF2 hro (by omega) g lb hFg eg S Sp N hN hNb _ hseq).mono ?_; rintro e w' ⟨v, ss, rfl, hS, hrow, hb⟩)
 go_ret
 exact ⟨v, ss, rfl, hS, hrow, hb⟩
end Go.Ev
namespace Go.Ev
open Go Go.Proofs Go.Shelf Go.RowKit
set_option maxRecDepth 100000
def R_Sort : Ren := ⟨fun | 6 => 106 | 14 => 144 | 15 => 145 | 20 => 177 | 21 => 178 | 22 => 179 | 23 => 180 | 24 => 181 | 25 => 182 | 26 => 183 | 27 => 184 | 28 => 185 | 29 => 186 | 46 => 201 | 47 => 202 | 48 => 203 | 49 => 204 | 50 => 205 | 57 => 219 | n => n, fun | 0 => 0 | 3 => 3 | 4 => 4 | 5 => 5 | 9 => 9 | 22 => 90 | 24 => 54 | 25 => 151 | 39 => 153 | 45 => 262 | 46 => 263 | 50 => 144 | 53 => 102 | 55 => 190 | 66 => 282 | 70 => 286 | 76 => 298 | 77 => 299 | n => n, fun | n => n⟩
theorem L_Sort : SlLaysF0.n6 Tryz.prog R_Sort := {
 mixed := by kernel_rfl
 f6 := ⟨Tryz.f106.name, by kernel_rfl, Tryz.func106.trans (congrArg some (by kernel_rfl))⟩
 f14 := ⟨Tryz.f144.name, by kernel_rfl, Tryz.func144.trans (congrArg some (by kernel_rfl))⟩
 f15 := Tryz.func145.trans (congrArg some (by kernel_rfl))
 f20 := ⟨Tryz.f177.name, by kernel_rfl, Tryz.func177.trans (congrArg some (by kernel_rfl))⟩
 f21 := ⟨Tryz.f178.name, by kernel_rfl, Tryz.func178.trans (congrArg some (by kernel_rfl))⟩
 f22 := ⟨Tryz.f179.name, by kernel_rfl, Tryz.func179.trans (congrArg some (by kernel_rfl))⟩
 f23 := ⟨Tryz.f180.name, by kernel_rfl, Tryz.func180.trans (congrArg some (by kernel_rfl))⟩
 f24 := ⟨Tryz.f181.name, by kernel_rfl, Tryz.func181.trans (congrArg some (by kernel_rfl))⟩
 f25 := ⟨Tryz.f182.name, by kernel_rfl, Tryz.func182.trans (congrArg some (by kernel_rfl))⟩
 f26 := ⟨Tryz.f183.name, by kernel_rfl, Tryz.func183.trans (congrArg some (by kernel_rfl))⟩
 f27 := ⟨Tryz.f184.name, by kernel_rfl, Tryz.func184.trans (congrArg some (by kernel_rfl))⟩
 f28 := Tryz.func185.trans (congrArg some (by kernel_rfl))
 f29 := Tryz.func186.trans (congrArg some (by kernel_rfl))
 f46 := ⟨Tryz.f201.name, by kernel_rfl, Tryz.func201.trans (congrArg some (by kernel_rfl))⟩
 f47 := Tryz.func202.trans (congrArg some (by kernel_rfl))
 f48 := Tryz.func203.trans (congrArg some (by kernel_rfl))
 f49 := ⟨Tryz.f204.name, by kernel_rfl, Tryz.func204.trans (congrArg some (by kernel_rfl))⟩
 f50 := ⟨Tryz.f205.name, by kernel_rfl, Tryz.func205.trans (congrArg some (by kernel_rfl))⟩
 f57 := ⟨Tryz.f219.name, by kernel_rfl, Tryz.func219.trans (congrArg some (by kernel_rfl))⟩
 t0 := Tryz.underlying0
 a0 := Tryz.isAgg0
 z0 := Tryz.sizeOf0
 v0 := Tryz.zeroValue0
 t3 := Tryz.underlying3
 a3 := Tryz.isAgg3
 z3 := Tryz.sizeOf3
 v3 := Tryz.zeroValue3
 t4 := Tryz.underlying4
 a4 := Tryz.isAgg4
 z4 := Tryz.sizeOf4
 v4 := Tryz.zeroValue4
 t5 := Tryz.underlying5
 a5 := Tryz.isAgg5
 z5 := Tryz.sizeOf5
 v5 := Tryz.zeroValue5
 t9 := Tryz.underlying9
 a9 := Tryz.isAgg9
 z9 := Tryz.sizeOf9
 v9 := Tryz.zeroValue9
 t22 := Tryz.underlying90
 a22 := Tryz.isAgg90
 z22 := Tryz.sizeOf90
 v22 := Tryz.zeroValue90
 t25 := Tryz.underlying151
 a25 := Tryz.isAgg151
 z25 := Tryz.sizeOf151
 v25 := Tryz.zeroValue151
 t39 := Tryz.underlying153
 a39 := Tryz.isAgg153
 z39 := Tryz.sizeOf153
 v39 := Tryz.zeroValue153
 t45 := Tryz.underlying262
 a45 := Tryz.isAgg262
 z45 := Tryz.sizeOf262
 v45 := Tryz.zeroValue262
 t46 := Tryz.underlying263
 a46 := Tryz.isAgg263
 z46 := Tryz.sizeOf263
 v46 := Tryz.zeroValue263
 t50 := Tryz.underlying144
 a50 := Tryz.isAgg144
 z50 := Tryz.sizeOf144
 v50 := Tryz.zeroValue144
 t53 := Tryz.underlying102
 a53 := Tryz.isAgg102
 z53 := Tryz.sizeOf102
 v53 := Tryz.zeroValue102
 t55 := Tryz.underlying190
 a55 := Tryz.isAgg190
 z55 := Tryz.sizeOf190
 v55 := Tryz.zeroValue190
 t66 := Tryz.underlying282
 a66 := Tryz.isAgg282
 z66 := Tryz.sizeOf282
 v66 := Tryz.zeroValue282
 t70 := Tryz.underlying286
 a70 := Tryz.isAgg286
 z70 := Tryz.sizeOf286
 v70 := Tryz.zeroValue286
 t76 := Tryz.underlying298
 a76 := Tryz.isAgg298
 z76 := Tryz.sizeOf298
 v76 := Tryz.zeroValue298
 t77 := Tryz.underlying299
 a77 := Tryz.isAgg299
 z77 := Tryz.sizeOf299
 v77 := Tryz.zeroValue299 }
end Go.Ev
namespace Go.Ev
open Go Go.Proofs Go.RowKit Go.Shelf Go.Sort
theorem flatK_eq {α : Type} [Inhabited α] {k : Nat} (enc : α -> List Value) (hk : ∀ x, (enc x).length = k) (d : Array α) : flatK enc k d = (d.toList.flatMap enc).toArray := by
 have hl : (d.toList.map enc).flatten.length = d.size * k := by
  rw [List.length_flatten, List.map_map]
  have : (List.length ∘ enc) = fun _ => k := funext hk
  have hsum : ∀ l : List α, (l.map fun _ => k).sum = l.length * k := fun l => by
   induction l with
   | nil => simp
   | cons a l ih => rw [List.map_cons, List.sum_cons, ih, List.length_cons, Nat.succ_mul, Nat.add_comm]
  rw [this, hsum]
  simp
 apply Array.ext'
 apply List.ext_getElem?
 intro t
 show _ = (d.toList.flatMap enc)[t]?
 rw [List.flatMap_def]
 by_cases ht : t < d.size * k
 ·have hk0 : 0 < k := by
   rcases Nat.eq_zero_or_pos k with h0 | h0
   ·subst h0; simp at ht
   ·exact h0
  have hq : t / k < d.size := Nat.div_lt_of_lt_mul (by rw [Nat.mul_comm]; exact ht)
  have hr : t % k < k := Nat.mod_lt _ hk0
  rw [flat_get (k := k) (fun c hc => by obtain ⟨x, _, rfl⟩ := List.mem_map.1 hc; exact hk x) t (by simpa using ht), Array.getElem?_toList]
  unfold flatK
  rw [Array.getElem?_map, Array.getElem?_range, if_pos ht]
  simp only [Option.map_some, List.getElem?_map, Array.getElem?_toList]
  rw [Array.getElem?_eq_getElem hq]
  simp only [Option.map_some, Option.getD_some]
  rw [getElem!_pos d _ hq, List.getElem?_eq_getElem (by rw [hk]; exact hr)]
  simp [hk, hr]
 ·rw [List.getElem?_eq_none (by simp [flatK]; omega), List.getElem?_eq_none (by rw [hl]; omega)]
section
variable {α : Type} [Inhabited α] {enc : α -> List Value} {w : World} {g cap n m : Nat} {cells : List Value} {base e : Nat} {os : Array Obj}
theorem row_holdsK (hk : ∀ x, (enc x).length = 2) {d : Array α} (hown : w.ownsRow base e 2 (.slice (some ⟨g, 0, none⟩) n cap) n (d.toList.flatMap enc)) : HoldsK enc 2 w g 0 d := by
 show Go.Sort.Holds id w g 0 (flatK enc 2 d)
 rw [flatK_eq enc hk]
 rcases hown.2 with ⟨hv, _⟩ | ⟨g', cap', cur, hv, hb0, hh, hle, hmax, hcur, htk⟩
 ·cases hv
 cases hv
 intro j hj
 have hj' : j < (d.toList.flatMap enc).length := by simpa using hj
 rw [Nat.zero_add]
 refine ⟨?_, by simp [World.frozen?, hh]⟩
 have h1 := hown.cells (g := g) rfl j _ (List.getElem?_eq_getElem hj')
 rw [add_mk, Nat.zero_add] at h1
 rw [h1, getElem!_pos _ j hj]
 rfl
theorem sorted_row (hk : ∀ x, (enc x).length = 2) {d : Array α} (hs : d.size = n) (hown : w.ownsRow base e 2 (.slice (some ⟨g, 0, none⟩) n cap) n cells) :
  (sortWorldK enc 2 w g 0 m d os).ownsRow base e 2 (.slice (some ⟨g, 0, none⟩) n cap) n (d.toList.flatMap enc) /\ (∀ j, j < w.heap.size -> j ≠ g -> (sortWorldK enc 2 w g 0 m d os).heap[j]? = w.heap[j]?) := by
 rcases hown.2 with ⟨hv, _⟩ | ⟨g', cap', cur, hv, hb0, hh, hle, hmax, hcur, htk⟩
 ·cases hv
 cases hv
 have hgl : g < w.heap.size := (Array.getElem?_eq_some_iff.1 hh).1
 have hlen : (d.toList.flatMap enc).length = n * 2 := by
  have := congrArg Array.size (flatK_eq enc hk d)
  rw [size_flatK, hs] at this
  simpa using this.symm
 have hrow : ∀ j, j < w.heap.size -> (sortWorldK enc 2 w g 0 m d os).heap[j]? = if g = j then (w.heap[j]?).map (Go.Sort.onCells (Go.Sort.putCells id 0 (flatK enc 2 d))) else w.heap[j]? := by
  intro j hj
  unfold sortWorldK
  rw [heap_grow_old _ _ (by simpa [putRowK, Go.Sort.size_putRow] using hj)]
  unfold putRowK Go.Sort.putRow
  rw [heap_mapB]
  rfl
 refine ⟨⟨hlen, .inr ⟨g, cap, _, rfl, hb0, by rw [hrow g hgl, if_pos rfl, hh]; rfl, hle, hmax, by simp [Go.Sort.putCells, hcur], ?_⟩⟩, fun j hj hne => by rw [hrow j hj, if_neg (fun e => hne e.symm)]⟩
 apply List.ext_getElem?
 intro j
 rw [flatK_eq enc hk]
 have hsz : n * 2 <= cur.size := by rw [hcur]; exact Nat.mul_le_mul_right _ hle
 by_cases hj : j < n * 2
 ·have hj2 : j < cur.size := by omega
  have hj3 : j < (d.toList.flatMap enc).length := by omega
  rw [List.getElem?_take_of_lt hj, Array.getElem?_toList]
  unfold Go.Sort.putCells
  rw [Array.getElem?_mapIdx, Array.getElem?_eq_getElem hj2, Option.map_some, if_pos ⟨Nat.zero_le _, by simpa using hj3⟩, List.getElem?_eq_getElem hj3]
  simp only [Nat.sub_zero, id]
  rw [getElem!_pos _ j (by simpa using hj3)]
  simp
 ·rw [List.getElem?_eq_none (by simp; omega), List.getElem?_eq_none (by omega)]
end
theorem sub_list {α : Type} {p : α -> Prop} : ∀ (l : List α), (∀ x ∈ l, p x) -> ∃ d : List {x // p x}, d.map (·.1) = l
 | [], _ => ⟨[], rfl⟩
 | x :: l, h => let ⟨d, hd⟩ := sub_list l fun y hy => h y (List.mem_cons_of_mem _ hy); ⟨⟨x, h x List.mem_cons_self⟩ :: d, by simp [hd]⟩
set_option maxRecDepth 100000 in
set_option maxHeartbeats 4000000 in
theorem sortedFuncP (Bm b : Nat) (es : Array MapEntry) (clock : Nat) (ks : List (Int × Int × Unit)) (w : World) (hBm : Bm < w.heap.size) (hm : w.cell? ⟨Bm, 0, none⟩ = some (.map (some b)))
  (hb : w.heap[b]? = some (.map es clock)) (hborn : ∀ e ∈ es.toList, e.born < clock) (hnd : (es.toList.map (·.born)).Nodup) (hk : es.toList.map (·.key) = ks.map encP) (hN : ks.length <= maxLen) (hNb : ks.length * 8 <= 140737488355328)
  (c : (Int × Int × Unit) -> (Int × Int × Unit) -> Option Int) (hgood : good c ks = true) (g : Nat) (cb : Array Value) (eg : ∀ args w, (callFunc g args).run Tryz.prog w = .ok (.enter g args) w)
  (hcmp : ∀ W : World, W.os = w.os -> W.tape = w.tape -> W.output = w.output -> w.heap.size <= W.heap.size -> (∀ j, j < w.heap.size -> W.heap[j]? = w.heap[j]?) -> ∀ x y n, c x y = some n ->
   Calls Tryz.prog g (#[encP x, encP y] ++ cb) W fun e W' => e = .returned (.int .i64 n) /\ ∃ q os, W' = grow (W.drewN q) os) :
  Calls Tryz.prog 75 #[.func (.func 107) #[] #[.pointer (some ⟨Bm, 0, none⟩)], .func (.func g) #[] cb] w fun e w' =>
   ∃ v, e = .returned v /\ w'.ownsRow w.heap.size 54 2 v ks.length ((isort (ltO c) ks).flatMap ce) /\ Below w.heap.size w w' := by
 have hes : es.size = ks.length := by
  have := congrArg List.length hk
  simpa using this
 obtain ⟨hparts, htot⟩ := good_parts hgood
 refine (callsIn_wide (n := 6)).1 ?_
 refine callsIn_of_wp Tryz.func75 rfl trivial ?_ rfl
 simp only [Tryz.ntmps75, List.size_toArray, List.length_cons, List.length_nil, Nat.reduceAdd, Nat.reduceSub, Array.replicate_succ, Array.replicate_zero, List.push_toArray, List.append_toArray, List.nil_append, List.cons_append]
 have hcol := collectP Fence.wide 5 trivial trivial rfl (by omega) 107 #[.pointer (some ⟨Bm, 0, none⟩)] trivial (enters_of Tryz.func107 (by kernel_rfl) rfl) (fun ss => ss.Perm ks) (fun _ => True) es.size (by omega) (by omega) w (keysP_stops Fence.wide 3 trivial rfl (by omega) Bm b es clock ks w hBm hm hb hborn hnd hk)
 gi_wp2_with (refine ⟨trivial, ?_⟩; gi_at_call 105; refine hcol.mono ?_; rintro e W ⟨v, ss, rfl, hS, hrow, hbelow⟩)
 have hlen : ss.length = ks.length := hS.length_eq
 obtain ⟨W', hsort, hrow', hb'⟩ : ∃ R : World -> Prop, Calls Tryz.prog 106 #[v, .func (.func g) #[] cb] W (fun e W' => e = .returned (.tuple #[]) /\ R W') /\
   (∀ W', R W' -> W'.ownsRow w.heap.size 54 2 v ks.length ((isort (ltO c) ks).flatMap ce)) /\ (∀ W', R W' -> Below w.heap.size w W') := by
  by_cases h0 : ss = []
  ·have hks : ks = [] := List.eq_nil_of_length_eq_zero (by rw [<- hlen, h0]; rfl)
   subst h0
   refine ⟨fun W' => W' = W, ?_, fun W' e => ?_, fun W' e => by rw [e]; exact hbelow⟩
   ·have hv : ∃ p cap, v = .slice p 0 cap := by
     rcases hrow.2 with ⟨hv, _⟩ | ⟨g', cap, cur, hv, _⟩
     ·exact ⟨none, 0, hv⟩
     ·exact ⟨_, cap, hv⟩
    obtain ⟨p, cap, rfl⟩ := hv
    exact AnyF.slices_SortFunc_none (P := Tryz.prog) (ρ := R_Sort) L_Sort p cap _ W
   ·rw [e, hks]
    exact hrow
  ·rcases hrow.2 with ⟨_, hz⟩ | ⟨g', cap, cur, hv, hbase, hgb, hle, hmax, hcur, htk⟩
   ·exact absurd (List.eq_nil_of_length_eq_zero hz) h0
   subst hv
   have hgl : g' < W.heap.size := (Array.getElem?_eq_some_iff.1 hgb).1
   obtain ⟨x0, hx0⟩ := List.exists_mem_of_ne_nil ss h0
   haveI : Inhabited {x // x ∈ ks} := ⟨⟨x0, hS.mem_iff.1 hx0⟩⟩
   obtain ⟨d, hd⟩ : ∃ d : Array {x // x ∈ ks}, d.toList.map (·.1) = ss := let ⟨l, hl⟩ := sub_list ss fun x hx => hS.mem_iff.1 hx; ⟨l.toArray, hl⟩
   have hds : d.size = ss.length := by have := congrArg List.length hd; simpa using this
   obtain ⟨enc, henc⟩ : ∃ enc : {x // x ∈ ks} -> List Value, enc = fun x => ce x.1 := ⟨_, rfl⟩
   have hek : ∀ x, (enc x).length = 2 := fun x => by rw [henc]; rfl
   have hfm : ∀ l : List {x // x ∈ ks}, l.flatMap enc = (l.map (·.1)).flatMap ce := fun l => by rw [henc, List.flatMap_map]
   obtain ⟨cf, hcf⟩ : ∃ cf : {x // x ∈ ks} -> {x // x ∈ ks} -> Int, cf = fun x y => (c x.1 y.1).getD 0 := ⟨_, rfl⟩
   have hcv : ∀ x y, c x.1 y.1 = some (cf x y) := fun x y => by
    obtain ⟨n, hn⟩ := htot x.1 x.2 y.1 y.2
    rw [hcf]; simp only [hn]; rfl
   have hlt : ∀ x y, ltOf cf x y = ltO c x.1 y.1 := fun x y => by unfold ltOf ltO; rw [hcv]
   have hO := hparts.swo hlt
   have hrow2 : W.ownsRow w.heap.size 54 2 (.slice (some ⟨g', 0, none⟩) ss.length cap) ss.length (d.toList.flatMap enc) := by rw [hfm, hd]; exact hrow
   have hH : HoldsK enc 2 W g' 0 d := row_holdsK hek hrow2
   have h1c : ∀ x, ∀ u ∈ enc x, u.oneCell' = true := fun x u hu => by rw [henc] at hu; simp [ce] at hu; rcases hu with rfl | rfl <;> rfl
   have hC : CmpLays Tryz.prog g cb enc 2 cf g' 0 d.size W := by
    intro m os dk hdk x y
    have hss := sorted_row (m := m) (os := os) hek (d := dk) (n := ss.length) (by omega) hrow
    have hrw : #[Value.agg (enc x).toArray, Value.agg (enc y).toArray] ++ cb = #[encP x.1, encP y.1] ++ cb := by rw [henc]; rfl
    rw [hrw]
    refine hcmp (sortWorldK enc 2 W g' 0 m dk os) hbelow.os hbelow.tape hbelow.output ?_ (fun j hj => ?_) x.1 y.1 _ (hcv x y)
    ·refine Nat.le_trans hbelow.size ?_
     unfold sortWorldK
     rw [size_grow]
     exact Nat.le_trans (by simp [putRowK, Go.Sort.size_putRow]) (Nat.le_add_right _ _)
    ·rw [hss.2 j (Nat.lt_of_lt_of_le hj hbelow.size) (by omega)]
     exact hbelow.block j hj
   have hsf := AnyQ.slices_SortFunc (P := Tryz.prog) (ρ := R_Sort) L_Sort 2 Tryz.isAgg54 Tryz.sizeOf54 enc hek h1c cf hO g cb g' 0 cap d W eg hC hH hgl (by omega)
   rw [hds] at hsf
   refine ⟨fun W' => ∃ d' : Array {x // x ∈ ks}, ∃ n os, d'.toList.map (·.1) = isort (ltO c) ks /\ d'.size = ss.length /\ W' = sortWorldK enc 2 W g' 0 n d' os, hsf.mono ?_, ?_, ?_⟩
   ·rintro e W' ⟨rfl, d', n, os, hp, hso, rfl⟩
    have hp' := permIn_perm (show PermIn 0 d.size d d' by rw [hds]; exact hp)
    have hso' := sortedIn_pairwise (show SortedIn (ltOf cf) 0 d'.size d' by rw [hp'.2, hds]; exact hso)
    refine ⟨rfl, d', n, os, isort_eq hparts (fun y hy => hy) ?_ ?_, by rw [hp'.2, hds], rfl⟩
    ·exact ((hp'.1.map (·.1)).trans (by rw [hd])).trans hS
    ·rw [List.pairwise_map]
     exact hso'.imp fun h => by rw [<- hlt]; exact h
   ·rintro W' ⟨d', n, os, he, hsz, rfl⟩
    have := (sorted_row (m := n) (os := os) hek (d := d') hsz hrow).1
    rw [hfm, he, hlen] at this
    rw [hlen]
    exact this
   ·rintro W' ⟨d', n, os, he, hsz, rfl⟩
    have h2 := (sorted_row (m := n) (os := os) hek (d := d') hsz hrow).2
    refine ⟨hbelow.os, hbelow.tape, hbelow.output, ?_, fun j hj => ?_⟩
    ·refine Nat.le_trans hbelow.size ?_
     unfold sortWorldK
     rw [size_grow]
     exact Nat.le_trans (by simp [putRowK, Go.Sort.size_putRow]) (Nat.le_add_right _ _)
    ·rw [h2 j (Nat.lt_of_lt_of_le hj hbelow.size) (by omega)]
     exact hbelow.block j hj
 have hsort' := (callsIn_wide (n := 5)).2 hsort
 gi_wp2_with (refine ⟨trivial, ?_⟩; gi_at_call 106; refine hsort'.mono ?_; rintro e W2 ⟨rfl, hR⟩)
 go_ret
 exact ⟨_, rfl, hrow' _ hR, hb' _ hR⟩
end Go.Ev
