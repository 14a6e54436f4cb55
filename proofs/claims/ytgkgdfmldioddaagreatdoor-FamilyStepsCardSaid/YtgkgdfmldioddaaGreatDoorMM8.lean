/- The builder's small functions: its check of itself, its text: walks and contracts, under whatever condition. -/
import Derived.Test.YtgkgdfmldioddaaGreatDoorProg
import Derived.Test.YtgkgdfmldioddaaGreatDoorMM4
import Derived.WalkKit
import Derived.KernelRfl
import Derived.Lib.Strings
import Derived.Lib.Walk
import Derived.Lib.Builder
import Derived.Lib.UnsafeStr
import Derived.Laws.Externs
import Derived.Shelf.RegionOpenPlain
import Derived.Test.YtgkgdfmldioddaaGreatDoorMM6
import Derived.Shelf.SlicesE.Reverse
import Derived.Shelf.SlicesQ.Reverse
import Derived.Shelf.Strings.Repeat
import Derived.Lib.DecodeN
import Derived.Test.YtgkgdfmldioddaaGreatDoorMM7
import Derived.Test.YtgkgdfmldioddaaGreatDoorTyA
set_option linter.unusedSectionVars false
set_option linter.unusedVariables false
set_option linter.unusedSimpArgs false
namespace Go.Ev
open Go Go.Proofs Go.RowKit
set_option maxRecDepth 100000
set_option maxHeartbeats 1000000
theorem bld_size : (Tryz.prog.info? 111).map (·.size) = some 2 := by kernel_rfl
theorem bld_lies : liesAt Tryz.prog Tryz.prog.depth 111 (2 / Tryz.prog.cellsOf 111) 0 111 1 = true := by kernel_rfl
theorem copyCheck_used (b : Nat) (w : World) (h0 : w.cell? ⟨b, 0, none⟩ = some (.pointer (some ⟨b, 0, none⟩))) :
  Calls Tryz.prog 80 #[.pointer (some ⟨b, 0, none⟩)] w fun e w' => e = .returned (.tuple #[]) /\ w' = w := by
 obtain ⟨j, hj, _⟩ := Option.map_eq_some_iff.1 bld_size
 go_enter Tryz.func80, Tryz.ntmps80
 go_wp2
 rw [Lib.run_neq_ptr_same w _ Tryz.underlying108 hj]
 go_wp2
 go_end0
 exact ⟨rfl, rfl⟩
theorem copyCheck_fresh (b : Nat) (w : World) (h0 : w.cell? ⟨b, 0, none⟩ = some (.pointer none)) (hsh : w.shape? b = some (111, 2)) (hfz : w.frozen? ⟨b, 0, none⟩ = false) :
  Calls Tryz.prog 80 #[.pointer (some ⟨b, 0, none⟩)] w fun e w' => e = .returned (.tuple #[]) /\ w' = w.setCell ⟨b, 0, none⟩ (.pointer (some ⟨b, 0, none⟩)) := by
 obtain ⟨j, hj, hjs⟩ := Option.map_eq_some_iff.1 bld_size
 go_enter Tryz.func80, Tryz.ntmps80
 go_wp2
 rw [Lib.run_to_unsafe w ⟨b, 0, none⟩ Tryz.underlying108 Tryz.underlying186 hj (by rw [hjs]; decide) hsh (Nat.zero_lt_succ 1)]
 simp only [Result.andThen]
 rw [Oper.upon_value]
 go_wp2
 rw [run_callFunc_extern Tryz.func108 (by kernel_rfl) (by kernel_rfl) (by kernel_rfl) (e := Extern.AbiNoEscape.same) (by kernel_rfl)]
 rw [Lib.run_noEscape]
 simp only [Result.andThen]
 rw [Oper.upon_value]
 go_wp2
 rw [Lib.run_from_unsafe w ⟨b, 0, none⟩ Tryz.underlying186 Tryz.underlying108 hj hsh bld_lies]
 simp only [Result.andThen]
 rw [Oper.upon_value]
 go_wp2
 go_end0
 exact ⟨rfl, rfl⟩
theorem u8_cells : Tryz.prog.cellsOf 5 = 1 := by kernel_rfl
theorem bldString_row (b g cap : Nat) (p : Value) (cur : Array Value) (l : List UInt8) (w : World) (h0 : l ≠ []) (hb : w.heap[b]? = some (.cells #[p, .slice (some ⟨g, 0, none⟩) l.length cap] 111 (0, 0)))
  (hg : w.heap[g]? = some (.cells cur 5 (0, 0))) (hnc : l.length <= cap) (hcm : cap <= maxLen) (hcs : cur.size = cap) (hl : ∀ (j : Nat) (x : UInt8), l[j]? = some x -> cur[j]? = some (Value.int .u8 (x.toNat : Int))) :
  Calls Tryz.prog 56 #[.pointer (some ⟨b, 0, none⟩)] w fun e w' => e = .returned (.string ⟨l.toArray⟩) /\ w' = w.drew.freeze ⟨g, 0, none⟩ l.length := by
 have hl0 : 0 < l.length := List.length_pos_iff.2 h0
 have c1 : w.drew.cell? ⟨b, 1, none⟩ = some (.slice (some ⟨g, 0, none⟩) l.length cap) := by
  have : w.drew.heap[b]? = some (.cells #[p, .slice (some ⟨g, 0, none⟩) l.length cap] 111 (0, 0)) := hb
  rw [Lib.cell_of_heap this]; rfl
 have k1 : (Builtin.unsafeSliceData_ #[109] 159 #[.slice (some ⟨g, 0, none⟩) l.length cap]).run Tryz.prog w.drew = .ok (.pointer (some ⟨g, 0, none⟩)) w.drew :=
  Lib.run_unsafeSliceData_row _ _ _ _ _ _ (by omega)
 have k2 : (Builtin.unsafeString_ #[159, 3] 9 #[.pointer (some ⟨g, 0, none⟩), .int .i64 l.length]).run Tryz.prog w.drew = .ok (.string ⟨l.toArray⟩) (w.drew.freeze ⟨g, 0, none⟩ l.length) := by
  have hg' : w.drew.heap[g]? = some (.cells cur 5 (0, 0)) := hg
  refine Lib.run_unsafeString_row w.drew 159 3 9 5 Tryz.underlying159 u8_cells g cur.size (by simp [World.shape?, hg']) l h0 (by omega) (by unfold maxLen at hcm; omega) ?_
  intro j x hx
  have ea : (⟨g, 0, none⟩ : Addr).add j = ⟨g, 0 + j, none⟩ := by unfold Addr.add; split <;> simp_all
  rw [ea, Lib.cell_of_heap hg', Nat.zero_add]
  exact hl j x hx
 have mixed : Tryz.prog.follows .mixedOrders = true := by kernel_rfl
 go_enter Tryz.func56, Tryz.ntmps56
 go_wp2
 go_region_o
 all_goals (go_wp2; go_ret; exact ⟨rfl, rfl⟩)
theorem bldString_nil (b : Nat) (p : Value) (w : World) (hb : w.heap[b]? = some (.cells #[p, .slice none 0 0] 111 (0, 0))) :
  Calls Tryz.prog 56 #[.pointer (some ⟨b, 0, none⟩)] w fun e w' => e = .returned (.string ⟨#[]⟩) /\ Below w.heap.size w w' := by
 have c1 : w.drew.cell? ⟨b, 1, none⟩ = some (.slice none 0 0) := by
  have : w.drew.heap[b]? = some (.cells #[p, .slice none 0 0] 111 (0, 0)) := hb
  rw [Lib.cell_of_heap this]; rfl
 have k1 : (Builtin.unsafeSliceData_ #[109] 159 #[.slice none 0 0]).run Tryz.prog w.drew = .ok (.pointer none) w.drew := rfl
 have k2 := Lib.run_unsafeString_none (P := Tryz.prog) (w := w.drew) 159 3 9
 have k3 : (ByteArray.empty) = ⟨#[]⟩ := rfl
 have mixed : Tryz.prog.follows .mixedOrders = true := by kernel_rfl
 go_enter Tryz.func56, Tryz.ntmps56
 go_wp2
 go_region_o
 all_goals (go_wp2; go_ret; exact ⟨rfl, (Below.refl _ w).drew⟩)
theorem bldString_room (b g cap : Nat) (p : Value) (w : World) (hc : cap ≠ 0) (hb : w.heap[b]? = some (.cells #[p, .slice (some ⟨g, 0, none⟩) 0 cap] 111 (0, 0))) :
  Calls Tryz.prog 56 #[.pointer (some ⟨b, 0, none⟩)] w fun e w' => e = .returned (.string ⟨#[]⟩) /\ Below w.heap.size w w' := by
 have c1 : w.drew.cell? ⟨b, 1, none⟩ = some (.slice (some ⟨g, 0, none⟩) 0 cap) := by
  have : w.drew.heap[b]? = some (.cells #[p, .slice (some ⟨g, 0, none⟩) 0 cap] 111 (0, 0)) := hb
  rw [Lib.cell_of_heap this]; rfl
 have k1 : (Builtin.unsafeSliceData_ #[109] 159 #[.slice (some ⟨g, 0, none⟩) 0 cap]).run Tryz.prog w.drew = .ok (.pointer (some ⟨g, 0, none⟩)) w.drew :=
  Lib.run_unsafeSliceData_row _ _ _ _ _ _ hc
 have k2 := Lib.run_unsafeString_none (P := Tryz.prog) (w := w.drew) 159 3 9
 have mixed : Tryz.prog.follows .mixedOrders = true := by kernel_rfl
 go_enter Tryz.func56, Tryz.ntmps56
 go_wp2
 go_region_o
 all_goals (go_wp2; go_ret; exact ⟨rfl, (Below.refl _ w).drew⟩)
theorem bldString_noroom (b g : Nat) (p : Value) (cur : Array Value) (w : World) (hb : w.heap[b]? = some (.cells #[p, .slice (some ⟨g, 0, none⟩) 0 0] 111 (0, 0))) (hg : w.heap[g]? = some (.cells cur 5 (0, 0))) :
  Calls Tryz.prog 56 #[.pointer (some ⟨b, 0, none⟩)] w fun e w' => e = .returned (.string ⟨#[]⟩) /\ Below w.heap.size w w' := by
 have hbl : b < w.heap.size := (Array.getElem?_eq_some_iff.1 hb).1
 have hb1 : w.drew.heap[b]? = some (.cells #[p, .slice (some ⟨g, 0, none⟩) 0 0] 111 (0, 0)) := hb
 have hg1 : w.drew.heap[g]? = some (.cells cur 5 (0, 0)) := hg
 have c1 : w.drew.cell? ⟨b, 1, none⟩ = some (.slice (some ⟨g, 0, none⟩) 0 0) := by
  rw [Lib.cell_of_heap hb1]; rfl
 have c2 : (w.drew.alloc (.view ⟨g, 0, none⟩ 5)).cell? ⟨b, 1, none⟩ = some (.slice (some ⟨g, 0, none⟩) 0 0) := by
  rw [World.cell?_of_block (w := w.drew) (Below.heap_alloc w.drew _ b hbl)]; exact c1
 have k1 : (Builtin.unsafeSliceData_ #[109] 159 #[.slice (some ⟨g, 0, none⟩) 0 0]).run Tryz.prog w.drew = .ok (.pointer (some ⟨w.drew.heap.size, 0, none⟩)) (w.drew.alloc (.view ⟨g, 0, none⟩ 5)) :=
  Lib.run_unsafeSliceData_zero w.drew _ _ _ Tryz.underlying159 _ _ (5, cur.size) (by simp [World.shape?, hg1])
 have k2 := Lib.run_unsafeString_none (P := Tryz.prog) (w := w.drew.alloc (.view ⟨g, 0, none⟩ 5)) 159 3 9
 have k3 := Lib.run_unsafeString_none (P := Tryz.prog) (w := (w.alloc (.view ⟨g, 0, none⟩ 5)).drew) 159 3 9
 have c3 : w.cell? ⟨b, 1, none⟩ = some (.slice (some ⟨g, 0, none⟩) 0 0) := c1
 have mixed : Tryz.prog.follows .mixedOrders = true := by kernel_rfl
 have hw : Below w.heap.size w (w.drew.alloc (.view ⟨g, 0, none⟩ 5)) := ⟨rfl, rfl, rfl, by simp, fun k hk => Below.heap_alloc w.drew _ k hk⟩
 go_enter Tryz.func56, Tryz.ntmps56
 go_wp2
 go_region_o
 all_goals (go_wp2; go_ret; exact ⟨rfl, hw⟩)
/-! The builder's functions. -/
def zhc (k : Nat) : FnB (List Int) Unit where
 n := 20
 S := fun z => ⟨[(0, .ptr 20 0)], [(20, .cells [.selfp 20, .row 21] 111)], [(21, ⟨5, .int .u8, z⟩)]⟩
 S' := fun z _ => ⟨[], [(20, .cells [.selfp 20, .row 21] 111)], [(21, ⟨5, .int .u8, z⟩)]⟩
 rs := fun _ _ => []
 rel := fun z y => bld_copyCheck k z = some y
def B_bld_String (k : Nat) : FnB (List Int) (List UInt8) where
 n := 14
 S := fun z => ⟨[(0, .ptr 14 0)], [(14, .cells [.selfp 14, .row 15] 111)], [(15, ⟨5, .int .u8, z⟩)]⟩
 S' := fun _ _ => ⟨[], [], []⟩
 rs := fun _ y => [SS y]
 rel := fun z y => bld_String k z = some y
theorem one_arg {n : Nat} {vs : List Value} {v : Value} (h1 : vs.length = 1) (h : (vs.toArray ++ Array.replicate (n - vs.toArray.size) undef)[0]? = some v) : vs = [v] := by
 match vs, h1 with
 | [u], _ =>
  rw [Array.getElem?_append_left (by simp)] at h
  simpa using h
theorem setCell_heap {w : World} {b i : Nat} {cs : Array Value} {t : TypeId} (h : w.heap[b]? = some (.cells cs t (0, 0))) (v : Value) : (w.setCell ⟨b, i, none⟩ v).heap[b]? = some (.cells (cs.setIfInBounds i v) t (0, 0)) := by
 simp [World.setCell, Array.getElem?_modify, h]
theorem setCell_far {w : World} {b i k : Nat} (v : Value) (h : k ≠ b) : (w.setCell ⟨b, i, none⟩ v).heap[k]? = w.heap[k]? := by
 simp [World.setCell, Array.getElem?_modify, Ne.symm h]
theorem b_bld_copyCheck {G : World -> Prop} (k : Nat) : BC Tryz.prog G 80 (zhc k) where
 enters := zbv Tryz.func80 (by kernel_rfl) rfl
 calls := by
  rintro cx hP hn hG z y hr vs w hlen ⟨m, hm⟩
  obtain ⟨v, hv0, g, hg1, rfl⟩ := hm.slots 0 (.ptr 20 0) List.mem_cons_self
  have hvs := one_arg (n := 20) hlen hv0
  subst hvs
  have hbx : (20, BX.cells [.selfp 20, .row 21] 111) ∈ ((zhc k).S z).bx := List.mem_cons_self
  obtain ⟨g', e1, hplace, cells, e3, e4⟩ := hm.boxes _ _ hbx
  have : g' = g := by rw [hg1] at e1; cases e1; rfl
  subst this
  obtain ⟨p, u, hcs, h1, h2⟩ : ∃ p u, cells.toList = [p, u] /\ (p = .pointer none \/ p = m 20) /\ u = m 21 := by
   match hc : cells.toList, e4 with
   | [p, u], ⟨h1, h2, _⟩ => exact ⟨p, u, rfl, h1, h2⟩
  have hcs' : cells = #[p, u] := Array.ext' (by rw [hcs])
  subst hcs'
  have hc0 : w.cell? ⟨g', 0, none⟩ = some p := by rw [cell_in e3]; rfl
  have hids : ∀ i, i ∈ St.ids ((zhc k).S' z y) ↔ i ∈ St.ids ((zhc k).S z) := fun i => Iff.rfl
  have hweak : ∀ {w'}, Rm cx m ((zhc k).S z) ([Value.pointer (some ⟨g', 0, none⟩)].toArray ++ Array.replicate ((zhc k).n - [Value.pointer (some ⟨g', 0, none⟩)].toArray.size) undef) w' -> Rm cx m ((zhc k).S' z y) ([Value.pointer (some ⟨g', 0, none⟩)].toArray ++ Array.replicate ((zhc k).n - [Value.pointer (some ⟨g', 0, none⟩)].toArray.size) undef) w' :=
   fun h => h.weaken (fun i sv hi => by cases hi) (fun p hp => hp) (fun p hp => hp) h.keys
  rcases h1 with h1 | h1
  ·subst h1
   refine (copyCheck_fresh g' w hc0 (by simp [World.shape?, e3]) (by simp [World.frozen?, e3])).mono ?_
   rintro e w' ⟨rfl, rfl⟩
   refine ⟨_, m, _, rfl, hweak ?_, trivial⟩
   have hheap : (w.setCell ⟨g', 0, none⟩ (.pointer (some ⟨g', 0, none⟩))).heap[g']? = some (.cells #[.pointer (some ⟨g', 0, none⟩), u] 111 (0, 0)) := setCell_heap (i := 0) e3 _
   have hn : Touch m w 20 (w.setCell ⟨g', 0, none⟩ (.pointer (some ⟨g', 0, none⟩))) := ⟨⟨rfl, rfl, rfl, by simp [World.setCell], fun h => False.elim h⟩, fun b hb hne => setCell_far _ (fun e => hne (by rw [hg1, e]; rfl))⟩
   have := hm.setBox (c := BX.cells [.selfp 20, .row 21] 111) hbx hn (g := g') hg1 ⟨_, hheap, .inr hg1.symm, h2, trivial⟩
   exact this
  ·refine (copyCheck_used g' w (by rw [hc0, h1, hg1])).mono ?_
   rintro e w' ⟨rfl, rfl⟩
   exact ⟨_, m, _, rfl, hweak hm, trivial⟩
theorem freeze_far {w : World} {b n k : Nat} (h : k ≠ b) : (w.freeze ⟨b, 0, none⟩ n).heap[k]? = w.heap[k]? := by
 unfold World.freeze
 split
 ·rfl
 ·simp [Array.getElem?_modify, Ne.symm h]
theorem freeze_size {w : World} {b n : Nat} : (w.freeze ⟨b, 0, none⟩ n).heap.size = w.heap.size /\ (w.freeze ⟨b, 0, none⟩ n).os = w.os /\ (w.freeze ⟨b, 0, none⟩ n).tape = w.tape /\ (w.freeze ⟨b, 0, none⟩ n).output = w.output := by
 unfold World.freeze
 split <;> simp
theorem b_bld_String {G : World -> Prop} (k : Nat) : BC Tryz.prog G 56 (B_bld_String k) where
 enters := zbv Tryz.func56 (by kernel_rfl) rfl
 calls := by
  rintro cx hP hn hG z y hr vs w hlen ⟨m, hm⟩
  obtain ⟨v, hv0, g, hg1, rfl⟩ := hm.slots 0 (.ptr 14 0) List.mem_cons_self
  have hvs := one_arg (n := 14) hlen hv0
  subst hvs
  have hbx : (14, BX.cells [.selfp 14, .row 15] 111) ∈ ((B_bld_String k).S z).bx := List.mem_cons_self
  obtain ⟨g', e1, hplace, cells, e3, e4⟩ := hm.boxes _ _ hbx
  have : g' = g := by rw [hg1] at e1; cases e1; rfl
  subst this
  obtain ⟨p, u, hcs, h1, h2⟩ : ∃ p u, cells.toList = [p, u] /\ (p = .pointer none \/ p = m 14) /\ u = m 15 := by
   match hc : cells.toList, e4 with
   | [p, u], ⟨h1, h2, _⟩ => exact ⟨p, u, rfl, h1, h2⟩
  have hcs' : cells = #[p, u] := Array.ext' (by rw [hcs])
  subst hcs'
  have hrw : (15, (⟨5, .int .u8, z⟩ : RowC)) ∈ ((B_bld_String k).S z).rw := List.mem_cons_self
  obtain ⟨rc, hown, hout, hL⟩ := hm.rows _ _ hrw
  have hL' : rc = z.map (Value.int .u8) := repL_ints hL
  have hr : bld_String k z = some y := hr
  unfold bld_String at hr
  split at hr
  case isFalse => cases hr
  rename_i hz
  cases hr
  have done : ∀ {w' : World} {T : Array Value}, T.size = cx.n -> Frame cx.w0 w' cx.X -> Rm cx m ((B_bld_String k).S' z (za8 z)) T w' := fun hT hf =>
   {size := hT, frame := hf, outer := hm.outer, slots := (fun i sv hi => by cases hi), boxes := (fun i c hi => by cases hi), rows := (fun i c hi => by cases hi), apart := (fun i j hi => by cases hi), keys := List.nodup_nil, fixed := (fun i c hi => by cases hi), kept := (fun i c hi => by cases hi) }
  have fr : ∀ {w' : World}, Below w.heap.size w w' -> Frame cx.w0 w' cx.X := fun hb => hm.frame.step ⟨hb.os, hb.tape, hb.output, hb.size, fun h => False.elim h⟩ fun b hb' _ => hb.block b (Nat.lt_of_lt_of_le hb' hm.frame.size)
  have hlen0 : (za8 z).length = z.length := by simp [za8]
  have hstr : ∀ (w' : World) (M : Nat -> Prop), repS w' M m (.string ⟨#[]⟩) (SS (za8 [])) := fun w' M => (za2 (w := w') (M := M)).2 ⟨rfl, by decide⟩
  have hstr2 : z.length <= maxLen -> ∀ (w' : World) (M : Nat -> Prop), repS w' M m (.string ⟨(za8 z).toArray⟩) (SS (za8 z)) := fun hm w' M => (za2 (w := w') (M := M)).2 ⟨rfl, by rw [hlen0]; exact hm⟩
  rcases hown.2 with ⟨hv, hn0⟩ | ⟨gb, cap, cur, hv, _, hh, hle, hmax, hsz, htk⟩
  ·rw [h2, hv] at e3
   have hz0 : z = [] := List.eq_nil_of_length_eq_zero hn0
   refine (bldString_nil g' p w e3).mono ?_
   rintro e w' ⟨rfl, hb⟩
   subst hz0
   exact ⟨_, m, _, rfl, done hm.size (fr hb), hstr _ _⟩
  ·have hle : z.length <= cap := hle
   have hsz : cur.size = cap := hsz.trans (Nat.mul_one cap)
   have htk : cur.toList.take z.length = rc := (congrArg (fun n => List.take n cur.toList) (Nat.mul_one z.length).symm).trans htk
   rw [h2, hv] at e3
   by_cases hz0 : z = []
   ·subst hz0
    by_cases hc0 : cap = 0
    ·subst hc0
     refine (bldString_noroom g' gb p cur w e3 hh).mono ?_
     rintro e w' ⟨rfl, hb⟩
     exact ⟨_, m, _, rfl, done hm.size (fr hb), hstr _ _⟩
    ·refine (bldString_room g' gb cap p w hc0 e3).mono ?_
     rintro e w' ⟨rfl, hb⟩
     exact ⟨_, m, _, rfl, done hm.size (fr hb), hstr _ _⟩
   ·have hne : za8 z ≠ [] := by
     intro e
     have := congrArg List.length e
     rw [hlen0] at this
     exact hz0 (List.eq_nil_of_length_eq_zero this)
    have e3' : w.heap[g']? = some (.cells #[p, .slice (some ⟨gb, 0, none⟩) (za8 z).length cap] 111 (0, 0)) := by rw [hlen0]; exact e3
    refine (bldString_row g' gb cap p cur (za8 z) w hne e3' hh (by rw [hlen0]; exact hle) hmax hsz ?_).mono ?_
    ·intro j x hx
     have hj : j < z.length := by rw [<- hlen0]; exact (List.getElem?_eq_some_iff.1 hx).1
     have h5 : (bytesEl (za8 z))[j]? = some (x.toNat : Int) := by unfold bytesEl; rw [List.getElem?_map, hx]; rfl
     rw [hz] at h5
     have h6 : rc[j]? = some (Value.int .u8 (x.toNat : Int)) := by rw [hL', List.getElem?_map, h5]; rfl
     rw [<- htk, List.getElem?_take, if_pos hj] at h6
     rw [<- Array.getElem?_toList]
     exact h6
    ·rintro e w' ⟨rfl, rfl⟩
     obtain ⟨f1, f2, f3, f4⟩ := freeze_size (w := w.drew) (b := gb) (n := (za8 z).length)
     have hgb := hout gb (by rw [hv]; rfl)
     refine ⟨_, m, _, rfl, done hm.size (hm.frame.step ⟨f2, f3, f4, by rw [f1]; exact Nat.le_refl _, fun h => False.elim h⟩ fun b hb' hX => ?_), hstr2 (Nat.le_trans hle hmax) _ _⟩
     refine freeze_far (w := w.drew) ?_
     rintro rfl
     rcases hgb with hgb | hgb
     ·omega
     ·exact hX hgb
end Go.Ev
namespace Go.Ev
open Go
variable [Dr]
end Go.Ev
namespace Go.Ev
open Go Go.Proofs Go.Shelf Go.RowKit
open Go.Sort (flatK HoldsK putRowK)
set_option maxRecDepth 100000
def repC (w : World) (M : Nat -> Prop) (t : Ty) : List (List Value) -> List t.el -> Prop
 | [], [] => True
 | c :: d, x :: xs => rep w M t c x /\ repC w M t d xs
 | _, _ => False
theorem repC_of {w : World} {M : Nat -> Prop} {t : Ty} : ∀ {cells : List Value} {xs : List t.el}, repL (rep w M t) cells xs -> ∃ d : List (List Value), d.flatten = cells /\ repC w M t d xs
 | cells, [], h => ⟨[], by rw [show cells = [] from h]; rfl, trivial⟩
 | cells, x :: xs, ⟨c1, c2, e, h1, h2⟩ => by
  obtain ⟨d, hd, hr⟩ := repC_of h2
  exact ⟨c1 :: d, by rw [List.flatten_cons, hd, e], h1, hr⟩
theorem repC_to {w : World} {M : Nat -> Prop} {t : Ty} : ∀ {d : List (List Value)} {xs : List t.el}, repC w M t d xs -> repL (rep w M t) d.flatten xs
 | [], [], _ => rfl
 | [], _ :: _, h => h.elim
 | _ :: _, [], h => h.elim
 | c :: d, x :: xs, ⟨h1, h2⟩ => ⟨c, d.flatten, rfl, h1, repC_to h2⟩
theorem repC_app {w : World} {M : Nat -> Prop} {t : Ty} : ∀ {d e : List (List Value)} {xs ys : List t.el}, repC w M t d xs -> repC w M t e ys -> repC w M t (d ++ e) (xs ++ ys)
 | [], _, [], _, _, h => h
 | [], _, _ :: _, _, h, _ => h.elim
 | _ :: _, _, [], _, h, _ => h.elim
 | _ :: _, _, _ :: _, _, ⟨h1, h2⟩, h => ⟨h1, repC_app h2 h⟩
theorem repC_rev {w : World} {M : Nat -> Prop} {t : Ty} : ∀ {d : List (List Value)} {xs : List t.el}, repC w M t d xs -> repC w M t d.reverse xs.reverse
 | [], [], _ => trivial
 | [], _ :: _, h => h.elim
 | _ :: _, [], h => h.elim
 | c :: d, x :: xs, ⟨h1, h2⟩ => by
  rw [List.reverse_cons, List.reverse_cons]
  exact repC_app (repC_rev h2) ⟨h1, trivial⟩
theorem repC_len {w : World} {M : Nat -> Prop} {t : Ty} : ∀ {d : List (List Value)} {xs : List t.el}, repC w M t d xs -> d.length = xs.length /\ ∀ c ∈ d, c.length = t.cells /\ ∀ v ∈ c, v.oneCell' = true
 | [], [], _ => ⟨rfl, fun c h => by cases h⟩
 | [], _ :: _, h => h.elim
 | _ :: _, [], h => h.elim
 | c :: d, x :: xs, ⟨h1, h2⟩ => by
  obtain ⟨k1, k2⟩ := repC_len h2
  refine ⟨by simp [k1], fun c' hc => ?_⟩
  rcases List.mem_cons.1 hc with rfl | hc
  ·exact ⟨zag t h1, zah t h1⟩
  ·exact k2 c' hc
def encC (k : Nat) (c : List Value) : List Value := if c.length = k /\ (c.all fun v => v.oneCell') = true then c else List.replicate k (.int .i64 0)
theorem encC_len (k : Nat) (c : List Value) : (encC k c).length = k := by
 unfold encC
 split
 ·rename_i h; exact h.1
 ·simp
theorem encC_one (k : Nat) (c : List Value) : ∀ v ∈ encC k c, v.oneCell' = true := by
 unfold encC
 split
 ·rename_i h; exact List.all_eq_true.1 h.2
 ·intro v hv
  rw [List.eq_of_mem_replicate hv]
  rfl
theorem encC_eq {k : Nat} {c : List Value} (h : c.length = k) (h1 : ∀ v ∈ c, v.oneCell' = true) : encC k c = c := if_pos ⟨h, List.all_eq_true.2 h1⟩
theorem flat_get {k : Nat} : ∀ {d : List (List Value)}, (∀ c ∈ d, c.length = k) -> ∀ t, t < d.length * k -> d.flatten[t]? = ((d[t / k]?).getD [])[t % k]?
 | [], _, t, h => by simp at h
 | c :: d, hd, t, h => by
  have hc := hd c List.mem_cons_self
  have hk : 0 < k := by
   rcases Nat.eq_zero_or_pos k with h0 | h0
   ·subst h0; simp at h
   ·exact h0
  rw [List.flatten_cons]
  by_cases ht : t < k
  ·rw [List.getElem?_append_left (by omega), Nat.div_eq_of_lt ht, Nat.mod_eq_of_lt ht]
   rfl
  ·have e1 : t / k = (t - k) / k + 1 := by rw [<- Nat.add_div_right _ hk]; congr 1; omega
   have e2 : t % k = (t - k) % k := by rw [<- Nat.add_mod_right (t - k) k]; congr 1; omega
   rw [List.getElem?_append_right (by omega), hc, flat_get (fun c hc => hd c (List.mem_cons_of_mem _ hc)) (t - k) (by rw [List.length_cons, Nat.succ_mul] at h; omega), e1, e2]
   rfl
theorem flat_eq {k : Nat} {d : List (List Value)} (hd : ∀ c ∈ d, c.length = k /\ ∀ v ∈ c, v.oneCell' = true) : flatK (encC k) k d.toArray = d.flatten.toArray := by
 have hl : d.flatten.length = d.length * k := by
  induction d with
  | nil => simp
  | cons c d ih =>
   rw [List.flatten_cons, List.length_append, (hd c List.mem_cons_self).1, ih fun c hc => hd c (List.mem_cons_of_mem _ hc), List.length_cons, Nat.succ_mul]
   omega
 apply Array.ext'
 apply List.ext_getElem?
 intro t
 by_cases ht : t < d.length * k
 ·have hg := flat_get (fun c hc => (hd c hc).1) t ht
  have hk : 0 < k := by
   rcases Nat.eq_zero_or_pos k with h0 | h0
   ·subst h0; simp at ht
   ·exact h0
  have hq : t / k < d.length := Nat.div_lt_of_lt_mul (by rw [Nat.mul_comm]; exact ht)
  have hr : t % k < k := Nat.mod_lt _ hk
  have hm := hd d[t / k] (List.getElem_mem hq)
  rw [show (d.flatten.toArray).toList = d.flatten from rfl, hg, Array.getElem?_toList]
  unfold flatK
  rw [Array.getElem?_map, Array.getElem?_range]
  have : t < d.toArray.size * k := by simpa using ht
  rw [if_pos this]
  simp only [Option.map_some]
  rw [List.getElem?_eq_getElem hq, Option.getD_some]
  have e1 : d.toArray[t / k]! = d[t / k] := by simp [hq]
  rw [e1, encC_eq hm.1 hm.2, List.getElem?_eq_getElem (by rw [hm.1]; exact hr)]
  simp [hm.1, hr]
 ·rw [List.getElem?_eq_none (by simp [flatK]; omega), List.getElem?_eq_none (by simpa [hl] using ht)]
theorem heap_mapB (w : World) (g b : Nat) (f : Array Value -> Array Value) : (Go.Sort.mapBlock w g f).heap[b]? = if g = b then (w.heap[b]?).map (Go.Sort.onCells f) else w.heap[b]? := by
 unfold Go.Sort.mapBlock
 exact Array.getElem?_modify
theorem turned_ok {w : World} {M : Nat -> Prop} {t : Ty} {e g cap n : Nat} {xs : List t.el} {cells : List Value} {d : List (List Value)} (hp : 0 < t.cells) (hown : w.ownsRow 0 e t.cells (.slice (some ⟨g, 0, none⟩) xs.length cap) xs.length cells) (hd : d.flatten = cells) (hr : repC w M t d xs) :
  ∃ u cells', (Ending.returned (.tuple #[])) = .returned u /\ Same w (Go.Sort.putRow id (Sort.ahead w n) g 0 d.reverse.flatten.toArray) /\ (∀ b, b < w.heap.size -> blk (.slice (some ⟨g, 0, none⟩) xs.length cap) ≠ some b -> (Go.Sort.putRow id (Sort.ahead w n) g 0 d.reverse.flatten.toArray).heap[b]? = w.heap[b]?) /\
   (Go.Sort.putRow id (Sort.ahead w n) g 0 d.reverse.flatten.toArray).ownsRow 0 e t.cells (.slice (some ⟨g, 0, none⟩) xs.length cap) (List.length xs.reverse) cells' /\ repL (rep w M t) cells' xs.reverse := by
 rcases hown.2 with ⟨hv, _⟩ | ⟨g', cap', cur, hv, hb0, hh, hle, hmax, hcur, htk⟩
 ·cases hv
 cases hv
 have hrev := repC_to (repC_rev hr)
 have hlen : d.reverse.flatten.length = xs.length * t.cells := by
  rw [zaf (fun _ _ => zag t) _ _ hrev, List.length_reverse]
 have hsz : xs.length * t.cells <= cur.size := by rw [hcur]; exact Nat.mul_le_mul_right _ hle
 have hheap : (Go.Sort.putRow id (Sort.ahead w n) g 0 d.reverse.flatten.toArray).heap[g]? = some (.cells (Go.Sort.putCells id 0 d.reverse.flatten.toArray cur) e (0, 0)) := by
  unfold Go.Sort.putRow
  rw [heap_mapB, if_pos rfl]
  have : (Sort.ahead w n).heap[g]? = some (.cells cur e (0, 0)) := hh
  rw [this]
  rfl
 refine ⟨_, d.reverse.flatten, rfl, ⟨rfl, rfl, rfl, ?_, fun _ => Nat.le_add_right _ _⟩, ?_, ⟨?_, .inr ⟨g, cap, Go.Sort.putCells id 0 d.reverse.flatten.toArray cur, by rw [List.length_reverse], hb0, hheap, by rw [List.length_reverse]; exact hle, hmax, ?_, ?_⟩⟩, hrev⟩
 ·show w.heap.size <= _
  rw [Go.Sort.size_putRow]
  exact Nat.le_refl _
 ·intro b hb hne
  have hbg : b ≠ g := fun e => hne (by rw [e]; rfl)
  unfold Go.Sort.putRow
  rw [heap_mapB, if_neg hbg.symm]
  rfl
 ·rw [hlen, List.length_reverse]
 ·rw [<- hcur]
  simp [Go.Sort.putCells]
 ·rw [List.length_reverse]
  apply List.ext_getElem?
  intro j
  by_cases hj : j < xs.length * t.cells
  ·have hj2 : j < cur.size := by omega
   have hj3 : j < d.reverse.flatten.length := by omega
   rw [List.getElem?_take_of_lt hj, Array.getElem?_toList]
   unfold Go.Sort.putCells
   rw [Array.getElem?_mapIdx, Array.getElem?_eq_getElem hj2, Option.map_some, if_pos ⟨Nat.zero_le _, by simpa using hj3⟩, List.getElem?_eq_getElem hj3]
   simp only [Nat.sub_zero, id]
   rw [getElem!_pos _ j (by simpa using hj3)]
   simp
  ·rw [List.getElem?_eq_none (by simp; omega), List.getElem?_eq_none (by omega)]
theorem held {w : World} {M : Nat -> Prop} {t : Ty} {e g cap : Nat} {xs : List t.el} {cells : List Value} (hown : w.ownsRow 0 e t.cells (.slice (some ⟨g, 0, none⟩) xs.length cap) xs.length cells) : Go.Sort.Holds id w g 0 cells.toArray := by
 rcases hown.2 with ⟨hv, _⟩ | ⟨g', cap', cur, hv, hb0, hh, hle, hmax, hcur, htk⟩
 ·cases hv
 cases hv
 intro j hj
 have hj' : j < cells.length := by simpa using hj
 rw [Nat.zero_add]
 refine ⟨?_, by simp [World.frozen?, hh]⟩
 have h1 := hown.cells (g := g) rfl j cells[j] (List.getElem?_eq_getElem hj')
 rw [add_mk, Nat.zero_add] at h1
 rw [h1, getElem!_pos _ j hj]
 rfl
theorem ic_revK {P : Program} {G : World -> Prop} {ρ : Ren} (L : SlLaysE0.n35 P ρ) {f e : Nat} {t : Ty} (hf : ρ.f 35 = f) (he : ρ.t 23 = e) (hp : Nat.blt 0 t.cells = true) (aE : ∀ w, (isAgg e).run P w = .ok true w) (zE : ∀ w, (Go.sizeOf e).run P w = .ok t.cells w)
  (hen : ∀ args w, (callFunc f args).run P w = .ok (.enter f args) w) : IC P G f e t (fun xs ys => ys = xs.reverse) where
 enters := hen
 calls := by
  rintro w M v xs ys cells _ rfl hown hL
  subst hf
  subst he
  rcases hown.2 with ⟨hv, hz⟩ | ⟨g, cap, cur, hv, hb0, hh, hle, hmax, hcur, htk⟩
  ·have hx : xs = [] := List.length_eq_zero_iff.1 hz
   subst hx
   subst hv
   refine (AnyQ.slices_Reverse_empty L none 0 w).mono ?_
   rintro e w' ⟨rfl, rfl⟩
   exact ⟨_, cells, rfl, ⟨rfl, rfl, rfl, Nat.le_refl _, fun _ => Nat.le_refl _⟩, fun _ _ _ => rfl, hown, hL⟩
  ·subst hv
   obtain ⟨d, hd, hr⟩ := repC_of hL
   obtain ⟨hl, hc⟩ := repC_len hr
   have hH : HoldsK (encC t.cells) t.cells w g 0 d.toArray := by
    show Go.Sort.Holds id w g 0 (flatK (encC t.cells) t.cells d.toArray)
    rw [flat_eq hc, hd]
    exact held (M := M) hown
   have := AnyQ.slices_Reverse L t.cells aE zE (encC t.cells) (encC_len _) (encC_one _) g 0 cap d.toArray w hH (by simp [hl]; exact Nat.le_trans hle hmax)
   rw [show d.toArray.size = xs.length from by simp [hl]] at this
   refine this.mono ?_
   rintro e w' ⟨rfl, n, rfl⟩
   have e1 : putRowK (encC t.cells) t.cells (Sort.ahead w n) g 0 d.toArray.reverse = Go.Sort.putRow id (Sort.ahead w n) g 0 d.reverse.flatten.toArray := by
    unfold putRowK
    rw [show d.toArray.reverse = d.reverse.toArray from by simp, flat_eq fun c hcm => hc c (List.mem_reverse.1 hcm)]
   rw [e1]
   exact turned_ok (zax hp) hown hd hr
def encV (v : Value) : Value := if v.oneCell' = true then v else .int .i64 0
theorem encV_eq {v : Value} (h : v.oneCell' = true) : encV v = v := if_pos h
theorem encV_one (v : Value) : (encV v).oneCell' = true := by
 unfold encV
 split
 ·assumption
 ·rfl
theorem single {d : List (List Value)} (h : ∀ c ∈ d, c.length = 1) : d.reverse.flatten = d.flatten.reverse := by
 induction d with
 | nil => rfl
 | cons c d ih =>
  obtain ⟨v, rfl⟩ := List.length_eq_one_iff.1 (h c List.mem_cons_self)
  rw [List.reverse_cons, List.flatten_append, ih fun c hc => h c (List.mem_cons_of_mem _ hc)]
  simp
theorem ic_rev1 {P : Program} {G : World -> Prop} {ρ : Ren} (L : SlLaysE.n35 P ρ) {f e : Nat} {t : Ty} (hf : ρ.f 35 = f) (hp : Nat.beq t.cells 1 = true)
  (hen : ∀ args w, (callFunc f args).run P w = .ok (.enter f args) w) : IC P G f e t (fun xs ys => ys = xs.reverse) where
 enters := hen
 calls := by
  rintro w M v xs ys cells _ rfl hown hL
  subst hf
  have hp := Nat.eq_of_beq_eq_true hp
  rcases hown.2 with ⟨hv, hz⟩ | ⟨g, cap, cur, hv, hb0, hh, hle, hmax, hcur, htk⟩
  ·have hx : xs = [] := List.length_eq_zero_iff.1 hz
   subst hx
   subst hv
   refine (AnyE.slices_Reverse_empty L none 0 w).mono ?_
   rintro e w' ⟨rfl, rfl⟩
   exact ⟨_, cells, rfl, ⟨rfl, rfl, rfl, Nat.le_refl _, fun _ => Nat.le_refl _⟩, fun _ _ _ => rfl, hown, hL⟩
  ·subst hv
   obtain ⟨d, hd, hr⟩ := repC_of hL
   obtain ⟨hl, hc⟩ := repC_len hr
   have h1 : ∀ c ∈ d, c.length = 1 := fun c hm => by rw [(hc c hm).1, hp]
   have hone : ∀ v ∈ cells, v.oneCell' = true := fun v hv => by
    rw [<- hd] at hv
    obtain ⟨c, hcm, hvc⟩ := List.mem_flatten.1 hv
    exact (hc c hcm).2 v hvc
   have hlc : cells.length = xs.length := by rw [hown.1, hp, Nat.mul_one]
   have hld : Go.Sort.Holds id w g 0 cells.toArray := held (M := M) hown
   have hH : Go.Sort.Holds encV w g 0 cells.toArray := fun j hj => by
    obtain ⟨a1, a2⟩ := hld j hj
    refine ⟨?_, a2⟩
    rw [a1, encV_eq]
    ·rfl
    ·rw [getElem!_pos _ j hj]; exact hone _ (by simp)
   have := AnyE.slices_Reverse L encV encV_one g 0 cap cells w hH (by rw [hlc]; exact Nat.le_trans hle hmax)
   rw [hlc] at this
   refine this.mono ?_
   rintro e' w' ⟨rfl, n, rfl⟩
   have e1 : Go.Sort.putRow encV (Sort.ahead w n) g 0 cells.reverse.toArray = Go.Sort.putRow id (Sort.ahead w n) g 0 d.reverse.flatten.toArray := by
    rw [single h1, hd]
    unfold Go.Sort.putRow Go.Sort.putCells
    congr 1
    funext c
    congr 1
    funext k x
    split
    ·rename_i hk
     have hk2 : k - 0 < cells.reverse.toArray.size := by omega
     rw [encV_eq]
     ·rfl
     ·rw [getElem!_pos cells.reverse.toArray (k - 0) hk2]
      exact hone _ (List.mem_reverse.1 (by simp))
    ·rfl
   rw [e1]
   exact turned_ok (by omega) hown hd hr
end Go.Ev
namespace Go.Ev
open Go Go.Proofs Go.Shelf Go.RowKit
set_option maxRecDepth 100000
def R_Rev_int : Ren := ⟨fun | 35 => 57 | n => n, fun | 22 => 62 | 23 => 3 | 3 => 3 | 4 => 4 | 0 => 0 | n => n, fun | n => n⟩
theorem L_Rev_int : SlLaysE.n35 Tryz.prog R_Rev_int := {
 mixed := by kernel_rfl
 f35 := ⟨Tryz.f57.name, by kernel_rfl, Tryz.func57.trans (congrArg some (by kernel_rfl))⟩
 t0 := Tryz.underlying0
 a0 := Tryz.isAgg0
 z0 := Tryz.sizeOf0
 v0 := Tryz.zeroValue0
 t3 := Tryz.underlying3
 a3 := Tryz.isAgg3
 z3 := Tryz.sizeOf3
 v3 := Tryz.zeroValue3
 t4 := Tryz.underlying4
 a4 := Tryz.isAgg4
 z4 := Tryz.sizeOf4
 v4 := Tryz.zeroValue4
 t22 := Tryz.underlying62
 a22 := Tryz.isAgg62
 z22 := Tryz.sizeOf62
 v22 := Tryz.zeroValue62
 a23 := Tryz.isAgg3
 z23 := Tryz.sizeOf3 }
noncomputable def pi_Rev_int {G : World -> Prop} : PI Tryz.prog G := ⟨57, 3, (.int .i64), List.reverse, ic_rev1 L_Rev_int rfl (by kernel_rfl) (zbv Tryz.func57 (by kernel_rfl) rfl)⟩
def R_Rev_rune : Ren := ⟨fun | 35 => 140 | n => n, fun | 22 => 50 | 23 => 21 | 3 => 3 | 4 => 4 | 0 => 0 | n => n, fun | n => n⟩
theorem L_Rev_rune : SlLaysE.n35 Tryz.prog R_Rev_rune := {
 mixed := by kernel_rfl
 f35 := ⟨Tryz.f140.name, by kernel_rfl, Tryz.func140.trans (congrArg some (by kernel_rfl))⟩
 t0 := Tryz.underlying0
 a0 := Tryz.isAgg0
 z0 := Tryz.sizeOf0
 v0 := Tryz.zeroValue0
 t3 := Tryz.underlying3
 a3 := Tryz.isAgg3
 z3 := Tryz.sizeOf3
 v3 := Tryz.zeroValue3
 t4 := Tryz.underlying4
 a4 := Tryz.isAgg4
 z4 := Tryz.sizeOf4
 v4 := Tryz.zeroValue4
 t22 := Tryz.underlying50
 a22 := Tryz.isAgg50
 z22 := Tryz.sizeOf50
 v22 := Tryz.zeroValue50
 a23 := Tryz.isAgg21
 z23 := Tryz.sizeOf21 }
noncomputable def pi_Rev_rune {G : World -> Prop} : PI Tryz.prog G := ⟨140, 21, (.int .i32), List.reverse, ic_rev1 L_Rev_rune rfl (by kernel_rfl) (zbv Tryz.func140 (by kernel_rfl) rfl)⟩
def R_Rev_Slot : Ren := ⟨fun | 35 => 173 | n => n, fun | 22 => 86 | 23 => 166 | 3 => 3 | 4 => 4 | 0 => 0 | n => n, fun | n => n⟩
theorem L_Rev_Slot : SlLaysE0.n35 Tryz.prog R_Rev_Slot := {
 mixed := by kernel_rfl
 f35 := ⟨Tryz.f173.name, by kernel_rfl, Tryz.func173.trans (congrArg some (by kernel_rfl))⟩
 t0 := Tryz.underlying0
 a0 := Tryz.isAgg0
 z0 := Tryz.sizeOf0
 v0 := Tryz.zeroValue0
 t3 := Tryz.underlying3
 a3 := Tryz.isAgg3
 z3 := Tryz.sizeOf3
 v3 := Tryz.zeroValue3
 t4 := Tryz.underlying4
 a4 := Tryz.isAgg4
 z4 := Tryz.sizeOf4
 v4 := Tryz.zeroValue4
 t22 := Tryz.underlying86
 a22 := Tryz.isAgg86
 z22 := Tryz.sizeOf86
 v22 := Tryz.zeroValue86 }
noncomputable def pi_Rev_Slot {G : World -> Prop} : PI Tryz.prog G := ⟨173, 166, (.pair (.int .i32) (.pair (.int .u32) (.pair (.int .u32) .unit))), List.reverse, ic_revK L_Rev_Slot rfl rfl (by kernel_rfl) Tryz.isAgg166 Tryz.sizeOf166 (zbv Tryz.func173 (by kernel_rfl) rfl)⟩
def R_Rev_Swap : Ren := ⟨fun | 35 => 174 | n => n, fun | 22 => 87 | 23 => 169 | 3 => 3 | 4 => 4 | 0 => 0 | n => n, fun | n => n⟩
theorem L_Rev_Swap : SlLaysE0.n35 Tryz.prog R_Rev_Swap := {
 mixed := by kernel_rfl
 f35 := ⟨Tryz.f174.name, by kernel_rfl, Tryz.func174.trans (congrArg some (by kernel_rfl))⟩
 t0 := Tryz.underlying0
 a0 := Tryz.isAgg0
 z0 := Tryz.sizeOf0
 v0 := Tryz.zeroValue0
 t3 := Tryz.underlying3
 a3 := Tryz.isAgg3
 z3 := Tryz.sizeOf3
 v3 := Tryz.zeroValue3
 t4 := Tryz.underlying4
 a4 := Tryz.isAgg4
 z4 := Tryz.sizeOf4
 v4 := Tryz.zeroValue4
 t22 := Tryz.underlying87
 a22 := Tryz.isAgg87
 z22 := Tryz.sizeOf87
 v22 := Tryz.zeroValue87 }
noncomputable def pi_Rev_Swap {G : World -> Prop} : PI Tryz.prog G := ⟨174, 169, (.pair (.int .i32) (.pair (.int .i64) (.pair (.int .u32) (.pair (.int .u32) .unit)))), List.reverse, ic_revK L_Rev_Swap rfl rfl (by kernel_rfl) Tryz.isAgg169 Tryz.sizeOf169 (zbv Tryz.func174 (by kernel_rfl) rfl)⟩
end Go.Ev
namespace Go.Ev
open Go Go.Proofs
noncomputable def pb_bld_copyCheck {G : World -> Prop} (k : Nat) : PB Tryz.prog G (List Int) Unit := ⟨80, zhc k, fun st => getH st [.rw 21 5 (.int .u8)], fun z => bld_copyCheck k z, b_bld_copyCheck k, fun _ _ h => h⟩
noncomputable def pb_bld_String {G : World -> Prop} (k : Nat) : PB Tryz.prog G (List Int) (List UInt8) := ⟨56, B_bld_String k, fun st => getH st [.rw 15 5 (.int .u8)], fun z => bld_String k z, b_bld_String k, fun _ _ h => h⟩
end Go.Ev
namespace Go.Ev
open Go Go.Proofs
noncomputable def zhd (k : Nat) : FnF := ⟨[.str], [.int .i32, .int .i64], [], fun s => utf8_DecodeRuneInString k s⟩
noncomputable def zhe (k : Nat) : PF Tryz.prog Gl := ⟨113, zhd k, ofC (c_unicode_utf8_DecodeRuneInString k) (zhd k) fun x y h => h⟩
end Go.Ev
namespace Go.Ev
open Go Go.Proofs Go.Shelf
set_option maxRecDepth 100000
def Llays105_ren : Go.Shelf.Ren := ⟨fun | 105 => 55 | 212 => 81 | 99 => 82 | 165 => 83 | 166 => 54 | 170 => 84 | 169 => 56 | 263 => 109 | 264 => 110 | 206 => 111 | 240 => 80 | 241 => 112 | 276 => 108 | 277 => 146 | n => n, fun | 9 => 9 | 3 => 3 | 4 => 4 | 20 => 20 | 0 => 0 | 46 => 153 | 109 => 154 | 5 => 5 | 72 => 111 | 76 => 115 | 51 => 102 | 146 => 188 | 53 => 190 | 148 => 191 | 70 => 108 | 37 => 109 | 75 => 114 | 127 => 159 | 164 => 186 | 80 => 118 | n => n, fun | n => n⟩
theorem Llays105 : Go.Proofs.Lays.n105 Tryz.prog Llays105_ren := {
 mixed := by kernel_rfl
 f99 := Tryz.func82.trans (congrArg some (by kernel_rfl))
 f105 := Tryz.func55.trans (congrArg some (by kernel_rfl))
 f165 := Tryz.func83.trans (congrArg some (by kernel_rfl))
 f166 := Tryz.func54.trans (congrArg some (by kernel_rfl))
 f169 := Tryz.func56.trans (congrArg some (by kernel_rfl))
 f170 := Tryz.func84.trans (congrArg some (by kernel_rfl))
 f206 := Tryz.func111.trans (congrArg some (by kernel_rfl))
 f212 := Tryz.func81.trans (congrArg some (by kernel_rfl))
 f240 := Tryz.func80.trans (congrArg some (by kernel_rfl))
 f241 := Tryz.func112.trans (congrArg some (by kernel_rfl))
 f263 := Tryz.func109.trans (congrArg some (by kernel_rfl))
 f264 := Tryz.func110.trans (congrArg some (by kernel_rfl))
 f276 := Tryz.func108.trans (congrArg some (by kernel_rfl))
 f277 := Tryz.func146.trans (congrArg some (by kernel_rfl))
 t0 := Tryz.underlying0
 a0 := Tryz.isAgg0
 z0 := Tryz.sizeOf0
 v0 := Tryz.zeroValue0
 t3 := Tryz.underlying3
 a3 := Tryz.isAgg3
 z3 := Tryz.sizeOf3
 v3 := Tryz.zeroValue3
 t4 := Tryz.underlying4
 a4 := Tryz.isAgg4
 z4 := Tryz.sizeOf4
 v4 := Tryz.zeroValue4
 t5 := Tryz.underlying5
 a5 := Tryz.isAgg5
 z5 := Tryz.sizeOf5
 v5 := Tryz.zeroValue5
 t9 := Tryz.underlying9
 a9 := Tryz.isAgg9
 z9 := Tryz.sizeOf9
 v9 := Tryz.zeroValue9
 t20 := Tryz.underlying20
 a20 := Tryz.isAgg20
 z20 := Tryz.sizeOf20
 v20 := Tryz.zeroValue20
 t37 := Tryz.underlying109
 a37 := Tryz.isAgg109
 z37 := Tryz.sizeOf109
 v37 := Tryz.zeroValue109
 t46 := Tryz.underlying153
 a46 := Tryz.isAgg153
 z46 := Tryz.sizeOf153
 v46 := Tryz.zeroValue153
 t51 := Tryz.underlying102
 a51 := Tryz.isAgg102
 z51 := Tryz.sizeOf102
 v51 := Tryz.zeroValue102
 t53 := Tryz.underlying190
 a53 := Tryz.isAgg190
 z53 := Tryz.sizeOf190
 v53 := Tryz.zeroValue190
 t70 := Tryz.underlying108
 a70 := Tryz.isAgg108
 z70 := Tryz.sizeOf108
 v70 := Tryz.zeroValue108
 t72 := Tryz.underlying111
 a72 := Tryz.isAgg111
 z72 := Tryz.sizeOf111
 v72 := Tryz.zeroValue111
 t75 := Tryz.underlying114
 a75 := Tryz.isAgg114
 z75 := Tryz.sizeOf114
 v75 := Tryz.zeroValue114
 t76 := Tryz.underlying115
 a76 := Tryz.isAgg115
 z76 := Tryz.sizeOf115
 v76 := Tryz.zeroValue115
 t109 := Tryz.underlying154
 a109 := Tryz.isAgg154
 z109 := Tryz.sizeOf154
 v109 := Tryz.zeroValue154
 t127 := Tryz.underlying159
 a127 := Tryz.isAgg159
 z127 := Tryz.sizeOf159
 v127 := Tryz.zeroValue159
 t146 := Tryz.underlying188
 a146 := Tryz.isAgg188
 z146 := Tryz.sizeOf188
 v146 := Tryz.zeroValue188
 t148 := Tryz.underlying191
 a148 := Tryz.isAgg191
 z148 := Tryz.sizeOf191
 v148 := Tryz.zeroValue191
 t164 := Tryz.underlying186
 a164 := Tryz.isAgg186
 z164 := Tryz.sizeOf186
 v164 := Tryz.zeroValue186 }
theorem LBuilder_Extra_105 : Builder.Extra Tryz.prog Llays105_ren := {
 sizeBuilder := by kernel_rfl
 liesBuilder := by kernel_rfl
 t5 := Tryz.underlying5
 a5 := Tryz.isAgg5
 z5 := Tryz.sizeOf5
 v5 := Tryz.zeroValue5
 infoByte := by kernel_rfl
 cellsByte := by kernel_rfl
 sizeByte := by kernel_rfl
 neB5 := by decide }
end Go.Ev
namespace Go.Ev
open Go Go.Proofs Go.Shelf Go.RowKit
set_option maxRecDepth 100000
def C_strings_Repeat (k : Nat) : FnC := ⟨true, 1, [], fun | [⟨.str, s⟩, ⟨.int .i64, n⟩], [⟨.str, r⟩] => strings_Repeat k s n = some r | _, _ => False⟩
theorem c_strings_Repeat {G : World -> Prop} (k : Nat) : Contract Tryz.prog G 55 (C_strings_Repeat k) where
 enters := zbv Tryz.func55 (by kernel_rfl) rfl
 shape := fun xs rs h => by
  unfold C_strings_Repeat at h
  simp only at h
  split at h
  ·exact ⟨rfl, fun _ u hu => by simp at hu; rcases hu with rfl; rfl⟩
  ·exact h.elim
 calls := fun w M vs xs rs _ hM h hv => by
  unfold C_strings_Repeat at h
  simp only at h
  split at h
  case h_2 => exact h.elim
  rename_i s n r
  change List UInt8 at s
  change Int at n
  change List UInt8 at r
  match vs, hv with
  | [v, u], ⟨hv, hu, _⟩ =>
   have hs : v = .string ⟨s.toArray⟩ := by
    have := (show rep w M .str [v] s from hv).1
    simpa using this
   have hn : u = .int .i64 n := by
    have : [u] = [.int .i64 n] := hu
    simpa using this
   subst hs
   subst hn
   unfold strings_Repeat at h
   split at h
   case isFalse => cases h
   rename_i hc
   obtain ⟨h0, h1, h2⟩ := hc
   obtain ⟨c, rfl⟩ : ∃ c : Nat, n = (c : Int) := ⟨n.toNat, by omega⟩
   rw [Int.toNat_natCast] at h h2
   cases h
   refine (Any.strings_Repeat Llays105 LBuilder_Extra_105 ⟨s.toArray⟩ c w (by omega) h2).mono ?_
   rintro e w' ⟨rfl, hb⟩
   refine ⟨_, rfl, ?_, Ext.of_below hb fun h => h.elim⟩
   show rep w' M .str [_] (Lib.repeatL s c)
   refine ⟨rfl, ?_⟩
   have hl : (Lib.repeatL s c).length = c * s.length := by rw [Lib.repeatL_length]
   show (Lib.repeatL s c).length <= maxLen
   rw [hl, Nat.mul_comm]
   exact Nat.le_trans h2 (by decide)
noncomputable def F_strings_Repeat (k : Nat) : FnF := ⟨[.str, .int .i64], [.str], [], fun x => strings_Repeat k x.1 x.2⟩
noncomputable def q_strings_Repeat (k : Nat) : PF Tryz.prog Gl := ⟨55, F_strings_Repeat k, ofC (c_strings_Repeat k) (F_strings_Repeat k) fun x y h => h⟩
end Go.Ev
namespace Go.Ev
open Go
set_option linter.unusedVariables false
def gb (s : List UInt8) (i : Nat) : Nat := (s.getD i 0).toNat
theorem gb_lt (s : List UInt8) (i : Nat) : gb s i < 256 := UInt8.toNat_lt _
def g (s : List UInt8) (i : Nat) : Nat × Nat := Lib.decodeN (s.length - i) (gb s i) (gb s (i + 1)) (gb s (i + 2)) (gb s (i + 3))
theorem decode_g (s : List UInt8) (i : Nat) : Utf8.decode ⟨s.toArray⟩ i = g s i := by
 rw [Lib.decode_at]
 have e : ∀ j, (ByteArray.get! ⟨s.toArray⟩ j).toNat = gb s j := by
  intro j
  unfold gb ByteArray.get!
  show (s.toArray[j]!).toNat = _
  by_cases hj : j < s.length
  ·simp [hj]
  ·simp [hj, List.getD_eq_getElem?_getD]
   rfl
 simp only [e]
 rfl
theorem g_size (s : List UInt8) (i : Nat) (h : i < s.length) : 1 <= (g s i).2 /\ i + (g s i).2 <= s.length /\ (g s i).2 <= 4 := by
 unfold g Lib.decodeN
 repeat' split
 all_goals simp only; omega
theorem runeAt_g (s : List UInt8) (p : Nat) : runeAt s p = ((g s p).1 : Int) := by
 unfold runeAt
 show ((Utf8.decode ⟨s.toArray⟩ p).1 : Int) = _
 rw [decode_g]
theorem widthAt_g (s : List UInt8) (p : Nat) : widthAt s p = (g s p).2 := by
 unfold widthAt
 show (Utf8.decode ⟨s.toArray⟩ p).2 = _
 rw [decode_g]
theorem wi64_of {x : Int} (h : -9223372036854775808 <= x /\ x < 9223372036854775808) : wi64 x = x := by
 unfold wi64 IntKind.wrap
 simp [IntKind.bits, IntKind.signed]
 omega
theorem zhf {n : Nat} (h : n < 9223372036854775807) : wi64 ((n : Int) + 1) = ((n + 1 : Nat) : Int) := by rw [wi64_of (by omega)]; omega
theorem chk_of {p : Prop} [Decidable p] (h : p) : chk p = some () := by unfold chk; rw [if_pos h]
theorem at_of {α : Type} {l : List α} {i : Nat} : at? l (i : Int) = l[i]? := by
 unfold at?
 rw [if_pos (by omega), Int.toNat_natCast]
theorem at_lt {α : Type} {l : List α} {i : Nat} (h : i < l.length) : at? l (i : Int) = some (l[i]'h) := by rw [at_of, List.getElem?_eq_getElem h]
theorem at_int {α : Type} {l : List α} {i : Int} (h0 : 0 <= i) (h : i < l.length) : at? l i = some (l[i.toNat]'(by omega)) := by
 unfold at?
 rw [if_pos h0, List.getElem?_eq_getElem]
theorem byteAt_of {s : List UInt8} {i : Nat} (h : i < s.length) : byteAt s (i : Int) = some ((s[i]'h).toNat : Int) := by
 unfold byteAt
 rw [at_lt h]
theorem sub_pre0 {α : Type} {s : List α} {b : Nat} (h : b <= s.length) : sub? s 0 (b : Int) = some (s.take b) := by
 unfold sub?
 rw [if_pos (by omega), Int.toNat_natCast]
 rfl
theorem sub_suf {α : Type} {s : List α} {p : Nat} (h : p <= s.length) : sub? s (p : Int) (s.length : Int) = some (s.drop p) := by
 unfold sub?
 rw [if_pos (by omega), Int.toNat_natCast, Int.toNat_natCast, List.take_length]
theorem str_of_el (x : List UInt8) : za8 (bytesEl x) = x := by
 unfold za8 bytesEl
 rw [List.map_map]
 have : ((fun n : Int => UInt8.ofNat n.toNat) ∘ fun b : UInt8 => (b.toNat : Int)) = id := by
  funext b
  simp
 rw [this, List.map_id]
theorem el_append (a b : List UInt8) : bytesEl a ++ bytesEl b = bytesEl (a ++ b) := by simp [bytesEl]
theorem el_len (a : List UInt8) : (bytesEl a).length = a.length := by simp [bytesEl]
end Go.Ev
namespace Go.Ev
open Go
set_option linter.unusedVariables false
def Tot {α : Type} (x : Option α) : Prop := ∃ v, x = some v
theorem zhg {α : Type} (v : α) : Tot (some v) := ⟨v, rfl⟩
theorem zhh {α β : Type} {x : Option α} {f : α -> Option β} (hx : Tot x) (hf : ∀ v, x = some v -> Tot (f v)) : Tot (Option.bind x f) := by
 obtain ⟨v, rfl⟩ := hx
 exact hf v rfl
theorem tot_ite {α : Type} {c : Bool} {a b : Option α} (h1 : c = true -> Tot a) (h2 : c = false -> Tot b) : Tot (if c then a else b) := by
 cases c with
 | true => rw [if_pos rfl]; exact h1 rfl
 | false => rw [if_neg (by simp)]; exact h2 rfl
theorem tot_dec {α : Type} {p : Prop} [Decidable p] {a b : Option α} (h1 : p -> Tot a) (h2 : ¬ p -> Tot b) : Tot (if decide p then a else b) :=
 tot_ite (fun h => h1 (of_decide_eq_true h)) (fun h => h2 (of_decide_eq_false h))
theorem tot_chk {p : Prop} [Decidable p] (h : p) : Tot (chk p) := ⟨(), chk_of h⟩
theorem tot_at {α : Type} {l : List α} {i : Nat} (h : i < l.length) : Tot (at? l (i : Int)) := ⟨_, at_lt h⟩
theorem tot_atI {α : Type} {l : List α} {i : Int} (h0 : 0 <= i) (h : i < l.length) : Tot (at? l i) := ⟨_, at_int h0 h⟩
theorem tot_loop {α β : Type} {L : Nat -> Int -> α -> Option β} {len : Nat} (hlen : len < 4611686018427387904) (I : Nat -> α -> Prop)
  (step : ∀ n i s, I i s -> i <= len -> (∀ s', i < len -> I (i + 1) s' -> Tot (L n (wi64 ((i : Int) + 1)) s')) -> Tot (L (n + 1) (i : Int) s)) : ∀ n i s, i <= len -> len - i < n -> I i s -> Tot (L n (i : Int) s) := by
 intro n
 induction n with
 | zero => intro i s _ h; omega
 | succ n ih =>
  intro i s h1 h2 h3
  refine step n i s h3 h1 fun s' hlt hI => ?_
  rw [zhf (by omega)]
  exact ih (i + 1) s' (by omega) (by omega) hI
theorem tot_loop0 {β : Type} {L : Nat -> Int -> Option β} {len : Nat} (hlen : len < 4611686018427387904)
  (step : ∀ n i, i <= len -> (i < len -> Tot (L n (wi64 ((i : Int) + 1)))) -> Tot (L (n + 1) (i : Int))) : ∀ n i, i <= len -> len - i < n -> Tot (L n (i : Int)) := by
 intro n
 induction n with
 | zero => intro i _ h; omega
 | succ n ih =>
  intro i h1 h2
  refine step n i h1 fun hlt => ?_
  rw [zhf (by omega)]
  exact ih (i + 1) (by omega) (by omega)
theorem asc_at {bs : List Bool} (hl : bs.length = 256) (b : UInt8) (k : Nat) : Tot (zb9 k bs (b.toNat : Int)) := by
 unfold zb9
 exact zhh (tot_at (by rw [hl]; exact UInt8.toNat_lt b)) fun v _ => zhg _
theorem trimR_tot {bs : List Bool} (hl : bs.length = 256) : ∀ n (s : List UInt8), s.length < n -> s.length < 4611686018427387904 -> ∃ v, zcc 80000 bs n s = some v /\ v.length <= s.length := by
 intro n
 induction n with
 | zero => intro s h; omega
 | succ n ih =>
  intro s h hs
  unfold zcc zcb zca
  by_cases h0 : 0 < s.length
  ·rw [if_pos (by simp only [decide_eq_true_eq]; omega), show wi64 ((s.length : Int) - 1) = ((s.length - 1 : Nat) : Int) by rw [wi64_of (by omega)]; omega, byteAt_of (by omega)]
   simp only [Option.bind_some]
   obtain ⟨v, hv⟩ := asc_at hl (s[s.length - 1]'(by omega)) 80000
   rw [hv]
   simp only [Option.bind_some]
   cases v with
   | false => exact ⟨s, rfl, Nat.le_refl _⟩
   | true =>
    rw [if_neg (by simp), sub_pre0 (by omega)]
    simp only [Option.bind_some]
    obtain ⟨v, h1, h2⟩ := ih (s.take (s.length - 1)) (by rw [List.length_take]; omega) (by rw [List.length_take]; omega)
    exact ⟨v, h1, Nat.le_trans h2 (by rw [List.length_take]; omega)⟩
  ·rw [if_neg (by simp only [decide_eq_true_eq]; omega)]
   exact ⟨s, rfl, Nat.le_refl _⟩
theorem trimL_tot {bs : List Bool} (hl : bs.length = 256) : ∀ n (s : List UInt8), s.length < n -> Tot (zcg 80000 bs n s) := by
 intro n
 induction n with
 | zero => intro s h; omega
 | succ n ih =>
  intro s h
  unfold zcg zcf zce
  by_cases h0 : 0 < s.length
  ·rw [if_pos (by simp only [decide_eq_true_eq]; omega), show (0 : Int) = ((0 : Nat) : Int) from rfl, byteAt_of h0]
   simp only [Option.bind_some]
   obtain ⟨v, hv⟩ := asc_at hl (s[0]'h0) 80000
   rw [hv]
   simp only [Option.bind_some]
   cases v with
   | false => exact zhg _
   | true =>
    rw [if_neg (by simp), show (1 : Int) = ((1 : Nat) : Int) from rfl, sub_suf (by omega)]
    simp only [Option.bind_some]
    exact ih _ (by rw [List.length_drop]; omega)
  ·rw [if_neg (by simp only [decide_eq_true_eq]; omega)]
   exact zhg _
theorem Trim_tot {cut : List UInt8} {bs : List Bool} (hm : zb8 80000 cut = some (bs, true)) (hl : bs.length = 256) (h1 : cut.length ≠ 1) (h0 : cut ≠ []) {s : List UInt8} (hs : s.length < 80000) : Tot (zck 80000 s cut) := by
 unfold zck strings_Trim_j1
 refine tot_ite (fun _ => zhg _) fun _ => ?_
 rw [if_neg (by simp only [beq_iff_eq]; omega)]
 unfold zcj
 rw [if_neg (by simp), hm]
 simp only [Option.bind_some, if_true]
 unfold zcd zch
 obtain ⟨v, h1, h2⟩ := trimR_tot hl 80000 s hs (by omega)
 rw [h1]
 simp only [Option.bind_some]
 exact zhh (trimL_tot hl 80000 v (by omega)) fun v _ => zhg _
def cutF : List UInt8 := [97, 98, 99, 100, 101, 102, 103, 104, 105, 106, 107, 108, 109, 110, 111, 112, 113, 114, 115, 116, 117, 118, 119, 120, 121, 122]
def cutR : List UInt8 := [97, 98, 99, 100, 101, 102, 103, 104, 105, 106, 107, 108, 109, 110, 111, 112, 113, 114, 115, 116, 117, 118, 119, 120, 121, 122, 48, 49, 50, 51, 52, 53, 54, 55, 56, 57, 45]
def ascOf (cut : List UInt8) : List Bool := (List.range 256).map fun i => cut.contains (UInt8.ofNat i)
theorem ascOf_len (cut : List UInt8) : (ascOf cut).length = 256 := by simp [ascOf]
set_option maxRecDepth 100000 in
theorem asc_F : zb8 80000 cutF = some (ascOf cutF, true) := by decide +kernel
set_option maxRecDepth 100000 in
theorem asc_R : zb8 80000 cutR = some (ascOf cutR, true) := by decide +kernel
theorem featNamed_tot (s : List UInt8) : ∃ b, zcm 80000 s = some b /\ (b = true -> s.length <= 32) := by
 unfold zcm
 by_cases h : s ≠ [] /\ s.length <= 32
 ·rw [show ((!(s == ([] : List UInt8))) && decide ((s.length : Int) <= 32)) = true by simp [h.1]; omega]
  unfold feature_named_j1
  rw [if_pos rfl]
  obtain ⟨v, hv⟩ := Trim_tot asc_F (ascOf_len _) (by simp [cutF]) (by simp [cutF]) (s := s) (by omega)
  rw [show ([97, 98, 99, 100, 101, 102, 103, 104, 105, 106, 107, 108, 109, 110, 111, 112, 113, 114, 115, 116, 117, 118, 119, 120, 121, 122] : List UInt8) = cutF from rfl, hv]
  exact ⟨_, rfl, fun _ => h.2⟩
 ·rw [show ((!(s == ([] : List UInt8))) && decide ((s.length : Int) <= 32)) = false by
   rw [Bool.eq_false_iff]
   intro q
   simp only [Bool.and_eq_true, Bool.not_eq_true', beq_eq_false_iff_ne, ne_eq, decide_eq_true_eq] at q
   exact h ⟨q.1, by omega⟩]
  exact ⟨false, rfl, fun q => by cases q⟩
theorem ruleNamed_tot (s : List UInt8) : Tot (rule_named 80000 s) := by
 unfold rule_named
 refine tot_dec (fun h => ?_) fun _ => zhg _
 refine zhh (Trim_tot asc_R (ascOf_len _) (by simp [cutR]) (by simp [cutR]) (by omega)) fun v _ => zhg _
theorem lettered_tot (k : Nat) (r : Int) : Tot (zcr k r) := by
 unfold zcr
 repeat' first
  | exact zhg _
  | (refine tot_ite (fun _ => ?_) fun _ => ?_)
  | (unfold zco)
  | (unfold zcn)
  | (unfold zcq)
  | (unfold zcp)
  | (unfold feature_lettered_j5)
theorem within_tot (k : Nat) (a : List (List UInt8) × List yT64 × Unit) (p m : Int) : Tot (zcs k a p m) := by
 unfold zcs
 exact zhh (tot_chk (by omega)) fun _ _ => zhg _
abbrev Alph : Type := List (List UInt8) × List yT64 × Unit
theorem featCheck_l2 (a : Alph) (h : a.2.1.length <= 128) : Tot (zcu 80000 a 80000 0 []) := by
 refine tot_loop (L := zcu 80000 a) (len := a.2.1.length) (by omega) (fun _ _ => True) ?_ 80000 0 [] (Nat.zero_le _) (by omega) trivial
 intro n i m _ hi go
 unfold zcu feature_Check_b2
 refine tot_dec (fun hlt => ?_) fun _ => zhg _
 have hlt : i < a.2.1.length := by omega
 refine zhh (tot_at hlt) fun x _ => zhh (lettered_tot _ _) fun v _ => ?_
 unfold feature_Check_j4
 have j5 : ∀ t, Tot (zct (zcu 80000 a n) (i : Int) m x t) := fun t => by
  unfold zct
  exact tot_ite (fun _ => zhg _) fun _ => go _ hlt trivial
 exact tot_ite (fun _ => j5 _) fun _ => zhh (within_tot _ _ _ _) fun _ _ => j5 _
theorem featCheck_l1 (a : Alph) (h1 : a.1.length <= 24) (h2 : a.2.1.length <= 128) : ∀ n i m, i <= a.1.length -> a.1.length - i < n -> ∃ e, zcv 80000 a n (i : Int) m = some e /\ (e = 0 -> ∀ x ∈ a.1.drop i, x.length <= 32) := by
 intro n
 induction n with
 | zero => intro i m _ h; omega
 | succ n ih =>
  intro i m hi hn
  unfold zcv feature_Check_b1
  by_cases hlt : i < a.1.length
  ·rw [if_pos (by simp only [decide_eq_true_eq]; omega), at_lt hlt]
   simp only [Option.bind_some]
   obtain ⟨b, hb, hb2⟩ := featNamed_tot (a.1[i]'hlt)
   rw [hb]
   simp only [Option.bind_some]
   unfold feature_Check_j3
   by_cases hc : ((!b) || ((mget (eqEl .str) m (a.1[i]'hlt)).getD false)) = true
   ·rw [if_pos hc]
    exact ⟨7, rfl, fun q => by cases q⟩
   ·rw [if_neg hc, zhf (by omega)]
    obtain ⟨e, he, hp⟩ := ih (i + 1) (mset (eqEl .str) m (a.1[i]'hlt) true) (by omega) (by omega)
    refine ⟨e, he, fun h0 x hx => ?_⟩
    rw [List.drop_eq_getElem_cons hlt] at hx
    rcases List.mem_cons.1 hx with rfl | hx
    ·refine hb2 ?_
     cases b with
     | true => rfl
     | false => simp at hc
    ·exact hp h0 x hx
  ·rw [if_neg (by simp only [decide_eq_true_eq]; omega)]
   obtain ⟨e, he⟩ := featCheck_l2 a h2
   exact ⟨e, he, fun _ x hx => by rw [List.drop_eq_nil_of_le (by omega)] at hx; cases hx⟩
theorem zhi (a : Alph) : ∃ e, zcw 80000 a = some e /\ (e = 0 -> a.1.length <= 24 /\ a.2.1.length <= 128 /\ ∀ x ∈ a.1, x.length <= 32) := by
 unfold zcw feature_Check_j1 feature_Check_j2
 by_cases hc : ((decide ((24 : Int) < (a.1.length : Int)) || decide ((a.2.1.length : Int) < 1)) || decide ((128 : Int) < (a.2.1.length : Int))) = true
 ·rw [if_pos hc]
  exact ⟨7, rfl, fun q => by cases q⟩
 ·rw [if_neg hc]
  simp only [Bool.or_eq_true, decide_eq_true_eq] at hc
  obtain ⟨e, he, hp⟩ := featCheck_l1 a (by omega) (by omega) 80000 0 [] (Nat.zero_le _) (by omega)
  exact ⟨e, he, fun h0 => ⟨by omega, by omega, hp h0⟩⟩
theorem indexOf_tot (l : List yT64) (hl : l.length <= 128) (r : Int) : ∃ v, zdd 80000 l (r, ()) = some v /\ v < (l.length : Int) := by
 unfold zdd
 have : ∀ n i, i <= l.length -> l.length - i < n -> ∃ v, zdc 80000 l (r, ()) n (i : Int) = some v /\ v < (l.length : Int) := by
  intro n
  induction n with
  | zero => intro i _ h; omega
  | succ n ih =>
   intro i h1 h2
   unfold zdc zdb feature_Of_c1
   by_cases hlt : i < l.length
   ·rw [if_pos (by simp only [decide_eq_true_eq]; omega), at_lt hlt]
    simp only [Option.bind_some]
    split
    ·exact ⟨_, rfl, by omega⟩
    ·rw [zhf (by omega)]
     exact ih (i + 1) (by omega) (by omega)
   ·rw [if_neg (by simp only [decide_eq_true_eq]; omega)]
    exact ⟨-1, rfl, by omega⟩
 exact this 80000 0 (Nat.zero_le _) (by omega)
theorem Of_tot (a : Alph) (r : Int) : Tot (feature_Of 80000 a r) := by
 unfold feature_Of
 obtain ⟨e, he, hp⟩ := zhi (a.1, a.2.1, ())
 rw [he]
 simp only [Option.bind_some]
 refine tot_ite (fun _ => zhg _) fun h => ?_
 have h0 : e = 0 := by simpa using h
 obtain ⟨_, h2, _⟩ := hp h0
 obtain ⟨v, hv, hlt⟩ := indexOf_tot a.2.1 h2 r
 rw [hv]
 simp only [Option.bind_some]
 exact tot_dec (fun _ => zhg _) fun hn => zhh (tot_atI (by omega) hlt) fun _ _ => zhg _
theorem letter_tot (a : Alph) (r : Int) : Tot (rule_letter 80000 a r) := by
 unfold rule_letter
 exact zhh (Of_tot _ _) fun _ _ => zhg _
theorem Text_l1_tot (a : Alph) (p m : Int) (h1 : a.1.length <= 24) (h2 : ∀ x ∈ a.1, x.length <= 32) : ∀ n i (acc : List UInt8), i <= a.1.length -> a.1.length - i < n -> acc.length <= 33 * i -> Tot (zdg 80000 a p m n (i : Int) (bytesEl acc)) := by
 intro n
 induction n with
 | zero => intro i acc _ h; omega
 | succ n ih =>
  intro i acc hi hn ha
  unfold zdg feature_Text_b1
  refine tot_dec (fun hlt => ?_) fun _ => ?_
  ·have hlt : i < a.1.length := by omega
   have hx := h2 _ (List.getElem_mem hlt)
   rw [at_lt hlt]
   simp only [Option.bind_some]
   have write : ∀ (c : UInt8), Tot (Option.bind (chk (([c] : List UInt8).length + (a.1[i]'hlt).length <= lim)) fun _ => Option.bind (zde 80000 (([c] : List UInt8) ++ (a.1[i]'hlt)) (bytesEl acc)) fun v3 => zdf (zdg 80000 a p m n) (i : Int) v3.2.2) := by
    intro c
    refine zhh (tot_chk (by unfold lim; simp; omega)) fun _ _ => ?_
    unfold zde bld_copyCheck
    simp only [Option.bind_some]
    rw [chk_of (by unfold lim; rw [el_len, el_len]; simp; omega)]
    simp only [Option.bind_some]
    unfold zdf
    rw [el_append, zhf (by omega)]
    exact ih (i + 1) _ (by omega) (by omega) (by simp; omega)
   refine zhh (tot_chk (by omega)) fun _ _ => tot_ite (fun _ => write 43) fun _ => zhh (tot_chk (by omega)) fun _ _ => tot_ite (fun _ => write 45) fun _ => ?_
   unfold zdf
   rw [zhf (by omega)]
   exact ih (i + 1) _ (by omega) (by omega) (by omega)
  ·unfold bld_String
   rw [str_of_el, if_pos rfl]
   exact zhg _
theorem Text_tot (a : Alph) (p m : Int) : Tot (feature_Text 80000 a p m) := by
 unfold feature_Text
 obtain ⟨e, he, hp⟩ := zhi (a.1, a.2.1, ())
 rw [he]
 simp only [Option.bind_some]
 refine tot_ite (fun _ => zhg _) fun h => ?_
 have h0 : e = 0 := by simpa using h
 obtain ⟨h1, _, h3⟩ := hp h0
 exact zhh (within_tot _ _ _ _) fun _ _ => tot_ite (fun _ => zhg _) fun _ => Text_l1_tot a p m h1 h3 80000 0 [] (Nat.zero_le _) (by have : a.1.length <= 24 := h1; omega) (by simp)
theorem class_tot (a : Alph) (p m : Int) : Tot (rule_class 80000 a p m) := by
 unfold rule_class
 exact zhh (Text_tot _ _ _) fun _ _ => zhg _
theorem either_tot (a : Alph) (r p m : Int) : Tot (rule_either 80000 a r p m) := by
 unfold rule_either
 exact tot_ite (fun _ => zhh (letter_tot _ _) fun _ _ => zhg _) fun _ => zhh (class_tot _ _ _) fun _ _ => zhg _
theorem swap_tot (a : Alph) (s : Int × Int × Int × Int × Unit) (n : Int) : Tot (rule_swap 80000 a s n) := by
 have j2 : ∀ t, Tot (zdh 80000 a s t) := fun t => by
  unfold zdh
  exact tot_ite (fun _ => zhg _) fun _ => zhh (either_tot _ _ _ _) fun _ _ => zhg _
 unfold rule_swap rule_swap_j1
 exact tot_ite (fun _ => j2 _) fun _ => tot_ite (fun _ => j2 _) fun _ => j2 _
end Go.Ev
namespace Go.Ev
open Go
set_option linter.unusedVariables false
theorem mget_mset {α β : Type} {eq : α -> α -> Bool} (he : ∀ x y, eq x y = true ↔ x = y) (k k' : α) (v : β) : ∀ l : List (α × β), (k' = k -> mget eq (mset eq l k v) k' = some v) /\ (k' ≠ k -> mget eq (mset eq l k v) k' = mget eq l k')
 | [] => by
  simp only [mset, mget]
  exact ⟨fun h => if_pos ((he _ _).2 h), fun h => if_neg (fun q => h ((he _ _).1 q))⟩
 | p :: l => by
  obtain ⟨i1, i2⟩ := mget_mset he k k' v l
  simp only [mset]
  by_cases h1 : eq k p.1 = true
  ·have e1 := (he _ _).1 h1
   rw [if_pos h1]
   simp only [mget]
   exact ⟨fun h => if_pos ((he _ _).2 h), fun h => by rw [if_neg (fun q => h ((he _ _).1 q)), if_neg (fun q => h (((he _ _).1 q).trans e1.symm))]⟩
  ·rw [if_neg h1]
   simp only [mget]
   by_cases h2 : eq k' p.1 = true
   ·have e2 := (he _ _).1 h2
    simp only [if_pos h2]
    exact ⟨fun h => absurd ((he _ _).2 (h.symm.trans e2)) h1, fun _ => trivial⟩
   ·simp only [if_neg h2]
    exact ⟨i1, i2⟩
theorem eqStr_iff (x y : List UInt8) : eqEl .str x y = true ↔ x = y := by
 show (x == y) = true ↔ _
 simp
theorem eqI32_iff (x y : Int) : eqEl (.int .i32) x y = true ↔ x = y := by
 show (x == y) = true ↔ _
 simp
def az (b : UInt8) : Bool := decide (97 <= b.toNat) && decide (b.toNat <= 122)
def nmF (s : List UInt8) : Bool := (decide (1 <= s.length) && decide (s.length <= 32)) && s.all az
theorem cutF_az (b : UInt8) : cutF.contains b = az b := by
 have key : ∀ n : Fin 256, cutF.contains (UInt8.ofNat n.1) = az (UInt8.ofNat n.1) := by decide +kernel
 have := key ⟨b.toNat, UInt8.toNat_lt b⟩
 simpa using this
theorem asc_val (cut : List UInt8) (k : Nat) (b : UInt8) : zb9 k (ascOf cut) (b.toNat : Int) = some (cut.contains b) := by
 unfold zb9
 rw [at_of]
 unfold ascOf
 rw [List.getElem?_map, List.getElem?_range (UInt8.toNat_lt b)]
 simp
theorem take_snoc {s : List UInt8} (h : 0 < s.length) : s = s.take (s.length - 1) ++ [s[s.length - 1]'(by omega)] := by
 have := List.take_succ_eq_append_getElem (l := s) (i := s.length - 1) (by omega)
 rw [<- this, List.take_of_length_le (by omega)]
theorem trimR_val (cut : List UInt8) : ∀ n (s : List UInt8), s.length < n -> s.length < 4611686018427387904 -> zcc 80000 (ascOf cut) n s = some (s.reverse.dropWhile cut.contains).reverse := by
 intro n
 induction n with
 | zero => intro s h; omega
 | succ n ih =>
  intro s h hs
  unfold zcc zcb zca
  by_cases h0 : 0 < s.length
  ·rw [if_pos (by simp only [decide_eq_true_eq]; omega), show wi64 ((s.length : Int) - 1) = ((s.length - 1 : Nat) : Int) by rw [wi64_of (by omega)]; omega, byteAt_of (by omega)]
   simp only [Option.bind_some]
   rw [asc_val]
   simp only [Option.bind_some]
   have hr : s.reverse = s[s.length - 1]'(by omega) :: (s.take (s.length - 1)).reverse := by
    conv => lhs; rw [take_snoc h0]
    simp
   cases hc : cut.contains (s[s.length - 1]'(by omega)) with
   | false =>
    rw [if_pos (by rfl), hr, List.dropWhile_cons, hc, if_neg (by simp), <- hr, List.reverse_reverse]
   | true =>
    rw [if_neg (by simp), sub_pre0 (by omega)]
    simp only [Option.bind_some]
    rw [ih (s.take (s.length - 1)) (by rw [List.length_take]; omega) (by rw [List.length_take]; omega), hr, List.dropWhile_cons, hc, if_pos rfl]
  ·rw [if_neg (by simp only [decide_eq_true_eq]; omega)]
   have : s = [] := List.length_eq_zero_iff.1 (by omega)
   subst this
   rfl
theorem trimL_val (cut : List UInt8) : ∀ n (s : List UInt8), s.length < n -> zcg 80000 (ascOf cut) n s = some (s.dropWhile cut.contains) := by
 intro n
 induction n with
 | zero => intro s h; omega
 | succ n ih =>
  intro s h
  unfold zcg zcf zce
  cases s with
  | nil => rfl
  | cons b r =>
   rw [if_pos (by simp only [decide_eq_true_eq, List.length_cons]; omega), show (0 : Int) = ((0 : Nat) : Int) from rfl, byteAt_of (by simp)]
   simp only [Option.bind_some, List.getElem_cons_zero]
   rw [asc_val]
   simp only [Option.bind_some]
   rw [List.dropWhile_cons]
   cases hc : cut.contains b with
   | false => rw [if_pos (by rfl), if_neg (by simp)]
   | true =>
    rw [if_neg (by simp), if_pos rfl, show (1 : Int) = ((1 : Nat) : Int) from rfl, sub_suf (by simp)]
    simp only [Option.bind_some]
    exact ih r (by simpa using h)
theorem dw_nil {p : UInt8 -> Bool} {l : List UInt8} : l.dropWhile p = [] ↔ l.all p = true := by
 induction l with
 | nil => simp
 | cons a l ih =>
  rw [List.dropWhile_cons, List.all_cons]
  cases h : p a with
  | true => rw [if_pos rfl, ih, Bool.true_and]
  | false => simp
theorem dw_head {p : UInt8 -> Bool} {l : List UInt8} {a : UInt8} {r : List UInt8} (h : l.dropWhile p = a :: r) : p a = false := by
 induction l with
 | nil => cases h
 | cons b l ih =>
  rw [List.dropWhile_cons] at h
  split at h
  ·exact ih h
  ·rename_i hb
   cases h
   simpa using hb
theorem Trim_empty {cut : List UInt8} (hm : zb8 80000 cut = some (ascOf cut, true)) (h1 : cut.length ≠ 1) (h0 : cut ≠ []) {s : List UInt8} (hs : s.length < 80000) : ∃ v, zck 80000 s cut = some v /\ (v == ([] : List UInt8)) = s.all cut.contains := by
 unfold zck strings_Trim_j1
 by_cases hsn : s = []
 ·subst hsn
  rw [if_pos (by simp)]
  exact ⟨[], rfl, rfl⟩
 ·rw [if_neg (by simp [hsn, h0]), if_neg (by simp only [beq_iff_eq]; omega)]
  unfold zcj
  rw [if_neg (by simp), hm]
  simp only [Option.bind_some, if_true]
  unfold zcd zch
  rw [trimR_val cut 80000 s hs (by omega)]
  simp only [Option.bind_some]
  have hlen : ((s.reverse.dropWhile cut.contains).reverse).length <= s.length := by
   rw [List.length_reverse]
   exact Nat.le_trans (List.Sublist.length_le (List.dropWhile_sublist _)) (by rw [List.length_reverse]; exact Nat.le_refl _)
  rw [trimL_val cut 80000 _ (by omega)]
  refine ⟨_, rfl, ?_⟩
  rw [Bool.eq_iff_iff, beq_iff_eq, dw_nil]
  constructor
  ·intro q
   cases hd : s.reverse.dropWhile cut.contains with
   | nil =>
    have := dw_nil.1 hd
    rwa [List.all_reverse] at this
   | cons a r =>
    have ha := dw_head hd
    rw [hd, List.all_reverse, List.all_cons, ha] at q
    cases q
  ·intro q
   have : s.reverse.dropWhile cut.contains = [] := dw_nil.2 (by rw [List.all_reverse]; exact q)
   rw [this]
   rfl
theorem featNamed_val (s : List UInt8) : zcm 80000 s = some (nmF s) := by
 unfold zcm
 by_cases h : s ≠ [] /\ s.length <= 32
 ·rw [show ((!(s == ([] : List UInt8))) && decide ((s.length : Int) <= 32)) = true by simp [h.1]; omega]
  unfold feature_named_j1
  rw [if_pos rfl]
  obtain ⟨v, hv, hv2⟩ := Trim_empty asc_F (by simp [cutF]) (by simp [cutF]) (s := s) (by omega)
  rw [show ([97, 98, 99, 100, 101, 102, 103, 104, 105, 106, 107, 108, 109, 110, 111, 112, 113, 114, 115, 116, 117, 118, 119, 120, 121, 122] : List UInt8) = cutF from rfl, hv]
  simp only [Option.bind_some]
  unfold zcl
  rw [hv2]
  have h1 : 1 <= s.length := by
   cases s with
   | nil => exact absurd rfl h.1
   | cons _ _ => simp
  unfold nmF
  rw [decide_eq_true h1, decide_eq_true h.2, Bool.and_true, Bool.true_and, show (cutF.contains : UInt8 -> Bool) = az from funext cutF_az]
 ·rw [show ((!(s == ([] : List UInt8))) && decide ((s.length : Int) <= 32)) = false by
   rw [Bool.eq_false_iff]
   intro q
   simp only [Bool.and_eq_true, Bool.not_eq_true', beq_eq_false_iff_ne, ne_eq, decide_eq_true_eq] at q
   exact h ⟨q.1, by omega⟩]
  show some false = _
  unfold nmF
  by_cases h1 : s = []
  ·subst h1; rfl
  ·rw [decide_eq_false (show ¬ s.length <= 32 from fun q => h ⟨h1, q⟩), Bool.and_false, Bool.false_and]
def ltB (r : Int) : Bool := ((decide (97 <= r) && decide (r <= 122)) || (decide (65 <= r) && decide (r <= 90))) || ((decide (161 <= r) && decide (r <= 1114111)) && (decide (r ≠ 65533) && (decide (r < 55296) || decide (57343 < r))))
theorem some_eq {α : Type} {x y : α} (h : x = y) : some x = some y := by rw [h]
theorem fdiv11 (r : Int) : (Int.fdiv r (2 ^ min ((11 : Int)).toNat 32) == (27 : Int)) = (decide (55296 <= r) && decide (r <= 57343)) := by
 have e : (2 : Int) ^ min ((11 : Int)).toNat 32 = 2048 := by decide
 rw [e, Int.fdiv_eq_ediv_of_nonneg _ (by omega), Bool.eq_iff_iff]
 simp
 omega
theorem lettered_val (k : Nat) (r : Int) : zcr k r = some (ltB r) := by
 unfold zcr zcq zcp zco zcn ltB
 rw [fdiv11, chk_of (by decide)]
 simp only [Option.bind_some]
 have e1 : decide (r < 161) = !decide (161 <= r) := by rw [Bool.eq_iff_iff]; simp
 have e2 : decide (1114111 < r) = !decide (r <= 1114111) := by rw [Bool.eq_iff_iff]; simp
 have e3 : decide (55296 <= r) = !decide (r < 55296) := by rw [Bool.eq_iff_iff]; simp
 have e4 : decide (r <= 57343) = !decide (57343 < r) := by rw [Bool.eq_iff_iff]; simp
 rw [e1, e2, e3, e4]
 cases decide (97 <= r) <;> cases decide (r <= 122) <;> cases decide (65 <= r) <;> cases decide (r <= 90) <;> cases h1 : decide (161 <= r) <;> cases h2 : decide (r <= 1114111) <;> cases h3 : decide (r < 55296) <;> cases h4 : decide (57343 < r) <;> (by_cases h5 : r = 65533 <;> simp [h5])
def wtP (p m : Int) : Nat := BitVec.toNat (BitVec.ofInt 32 p ||| BitVec.ofInt 32 m)
def wtB (n : Nat) (p m : Int) : Bool := decide (wtP p m < 2 ^ n) && decide (BitVec.toNat (BitVec.ofInt 32 p &&& BitVec.ofInt 32 m) = 0)
theorem wu32_of {x : Int} (h : 0 <= x /\ x < 4294967296) : wu32 x = x := by
 unfold wu32 IntKind.wrap
 simp [IntKind.bits, IntKind.signed]
 omega
theorem bv_lt (x : BitVec 32) : x.toNat < 4294967296 := x.isLt
theorem within_val (k : Nat) (a : Alph) (p m : Int) (h : a.1.length <= 24) : zcs k a p m = some (wtB a.1.length p m) := by
 unfold zcs feature_within_j1
 rw [chk_of (by omega)]
 simp only [Option.bind_some]
 have b1 := bv_lt (BitVec.ofInt 32 p ||| BitVec.ofInt 32 m)
 have b2 := bv_lt (BitVec.ofInt 32 p &&& BitVec.ofInt 32 m)
 rw [wu32_of (by omega), wu32_of (by omega)]
 refine some_eq ?_
 have e : (2 : Int) ^ min ((a.1.length : Int)).toNat 32 = ((2 ^ a.1.length : Nat) : Int) := by
  rw [Int.toNat_natCast, Nat.min_eq_left (by omega)]
  simp
 have hpos : 0 < 2 ^ a.1.length := Nat.two_pow_pos _
 rw [e]
 unfold wtB wtP
 rw [Int.fdiv_eq_ediv_of_nonneg _ (by omega), Bool.eq_iff_iff]
 simp only [Bool.and_eq_true, beq_iff_eq, decide_eq_true_eq]
 have e2 : ((BitVec.toNat (BitVec.ofInt 32 p ||| BitVec.ofInt 32 m) : Int) / ((2 ^ a.1.length : Nat) : Int)) = ((BitVec.toNat (BitVec.ofInt 32 p ||| BitVec.ofInt 32 m) / 2 ^ a.1.length : Nat) : Int) := rfl
 rw [e2]
 constructor
 ·rintro ⟨q1, q2⟩
  have q1' : BitVec.toNat (BitVec.ofInt 32 p ||| BitVec.ofInt 32 m) / 2 ^ a.1.length = 0 := by omega
  exact ⟨(Nat.div_eq_zero_iff_lt hpos).1 q1', by omega⟩
 ·rintro ⟨q1, q2⟩
  exact ⟨by rw [(Nat.div_eq_zero_iff_lt hpos).2 q1]; rfl, by omega⟩
def chkA (a : Alph) : Bool := ((decide (a.1.length <= 24) && (decide (1 <= a.2.1.length) && decide (a.2.1.length <= 128))) && (a.1.all nmF && decide a.1.Nodup)) && ((a.2.1.all fun l => ltB l.1 && wtB a.1.length l.2.1 l.2.2.1) && decide (a.2.1.map (·.1)).Nodup)
def memQ {β : Type} [DecidableEq β] (x : β) (l : List β) : Bool := decide (x ∈ l)
theorem memQ_t {β : Type} [DecidableEq β] {x : β} {l : List β} (h : x ∈ l) : memQ x l = true := decide_eq_true h
theorem memQ_f {β : Type} [DecidableEq β] {x : β} {l : List β} (h : ¬ x ∈ l) : memQ x l = false := decide_eq_false h
def fineFrom {α β : Type} [DecidableEq β] (key : α -> β) (fine : α -> Bool) : List α -> List α -> Bool
 | _, [] => true
 | seen, x :: xs => (fine x && !memQ (key x) (seen.map key)) && fineFrom key fine (seen ++ [x]) xs
theorem fineFrom_spec {α β : Type} [DecidableEq β] (key : α -> β) (fine : α -> Bool) : ∀ (xs seen : List α), (seen.map key).Nodup -> fineFrom key fine seen xs = (xs.all fine && decide ((seen ++ xs).map key).Nodup)
 | [], seen, h => by simp [fineFrom, h]
 | x :: xs, seen, h => by
  unfold fineFrom
  by_cases hm : key x ∈ seen.map key
  ·rw [memQ_t hm]
   have : ¬ ((seen ++ x :: xs).map key).Nodup := by
    intro q
    rw [List.map_append, List.nodup_append] at q
    exact q.2.2 _ hm _ (by simp) rfl
   rw [decide_eq_false this]
   simp
  ·rw [memQ_f hm]
   have hs : ((seen ++ [x]).map key).Nodup := by
    rw [List.map_append, List.nodup_append]
    refine ⟨h, by simp, fun a ha b hb => ?_⟩
    simp at hb
    subst hb
    exact fun e => hm (e ▸ ha)
   rw [fineFrom_spec key fine xs (seen ++ [x]) hs, List.append_assoc, List.all_cons]
   simp [Bool.and_assoc]
theorem chkA_eq {a : Alph} (h1 : a.1.length <= 24) (h2 : 1 <= a.2.1.length) (h3 : a.2.1.length <= 128) : chkA a = (fineFrom id nmF [] a.1 && fineFrom (·.1) (fun l => ltB l.1 && wtB a.1.length l.2.1 l.2.2.1) [] a.2.1) := by
 unfold chkA
 rw [fineFrom_spec id nmF a.1 [] (by simp), fineFrom_spec (·.1) _ a.2.1 [] (by simp), decide_eq_true h1, decide_eq_true h2, decide_eq_true h3]
 simp
theorem chkA_out {a : Alph} (h : ¬ (a.1.length <= 24 /\ 1 <= a.2.1.length /\ a.2.1.length <= 128)) : chkA a = false := by
 rw [Bool.eq_false_iff]
 intro q
 unfold chkA at q
 simp only [Bool.and_eq_true, decide_eq_true_eq] at q
 exact h ⟨q.1.1.1, q.1.1.2.1, q.1.1.2.2⟩
theorem fineFrom_cons {α β : Type} [DecidableEq β] (key : α -> β) (fine : α -> Bool) (seen : List α) (x : α) (xs : List α) : fineFrom key fine seen (x :: xs) = ((fine x && !memQ (key x) (seen.map key)) && fineFrom key fine (seen ++ [x]) xs) := rfl
theorem dec_same {β : Type} {r x : β} (l : List β) [Decidable (r ∈ l ++ [x])] (h : r = x) : true = decide (r ∈ l ++ [x]) := by rw [decide_eq_true (by rw [h]; simp)]
theorem dec_other {β : Type} {r x : β} (l : List β) [Decidable (r ∈ l)] [Decidable (r ∈ l ++ [x])] (h : r ≠ x) : decide (r ∈ l) = decide (r ∈ l ++ [x]) := by
 rw [Bool.eq_iff_iff, decide_eq_true_eq, decide_eq_true_eq, List.mem_append, List.mem_singleton]
 exact ⟨.inl, fun q => q.resolve_right h⟩
theorem fc_l2 (a : Alph) (h1 : a.1.length <= 24) (h : a.2.1.length <= 128) : ∀ n i (m : List (Int × Bool)), i <= a.2.1.length -> a.2.1.length - i < n -> (∀ r : Int, (mget (eqEl (.int .i32)) m r).getD false = decide (r ∈ (a.2.1.take i).map fun l => l.1)) ->
  zcu 80000 a n (i : Int) m = some (if fineFrom (·.1) (fun l => ltB l.1 && wtB a.1.length l.2.1 l.2.2.1) (a.2.1.take i) (a.2.1.drop i) then 0 else 7) := by
 intro n
 induction n with
 | zero => intro i m _ h; omega
 | succ n ih =>
  intro i m hi hn hm
  unfold zcu feature_Check_b2
  by_cases hlt : i < a.2.1.length
  ·rw [if_pos (by simp only [decide_eq_true_eq]; omega), at_lt hlt, List.drop_eq_getElem_cons hlt]
   simp only [Option.bind_some]
   rw [lettered_val, hm]
   simp only [Option.bind_some]
   rw [fineFrom_cons]
   unfold feature_Check_j4 zct
   have step : zcu 80000 a n (wi64 ((i : Int) + 1)) (mset (eqEl (.int .i32)) m (a.2.1[i]'hlt).1 true) = some (if fineFrom (·.1) (fun l => ltB l.1 && wtB a.1.length l.2.1 l.2.2.1) (a.2.1.take i ++ [a.2.1[i]'hlt]) (a.2.1.drop (i + 1)) then 0 else 7) := by
    rw [zhf (by omega), ih (i + 1) _ (by omega) (by omega), List.take_succ_eq_append_getElem hlt]
    intro r
    obtain ⟨q1, q2⟩ := mget_mset eqI32_iff (a.2.1[i]'hlt).1 r true m
    rw [List.take_succ_eq_append_getElem hlt, List.map_append]
    by_cases hr : r = (a.2.1[i]'hlt).1
    ·exact (congrArg (fun o : Option Bool => o.getD false) (q1 hr)).trans (dec_same _ hr)
    ·exact (congrArg (fun o : Option Bool => o.getD false) (q2 hr)).trans ((hm r).trans (dec_other _ hr))
   cases hb : ltB (a.2.1[i]'hlt).1 with
   | false => rfl
   | true =>
    by_cases hd : (a.2.1[i]'hlt).1 ∈ (a.2.1.take i).map fun l => l.1
    ·rw [decide_eq_true hd, memQ_t hd, if_pos (by simp)]
     simp
    ·rw [decide_eq_false hd, memQ_f hd, if_neg (by simp)]
     have hw : zcs 80000 (a.1, a.2.1, ()) (a.2.1[i]'hlt).2.1 (a.2.1[i]'hlt).2.2.1 = _ := within_val 80000 a _ _ h1
     rw [hw]
     simp only [Option.bind_some]
     cases hv : wtB a.1.length (a.2.1[i]'hlt).2.1 (a.2.1[i]'hlt).2.2.1 with
     | false => rfl
     | true =>
      rw [if_neg (by simp), step]
      simp
  ·rw [if_neg (by simp only [decide_eq_true_eq]; omega), List.drop_eq_nil_of_le (by omega)]
   rfl
theorem fc_l1 (a : Alph) (h1 : a.1.length <= 24) (h2 : a.2.1.length <= 128) : ∀ n i (m : List yT68), i <= a.1.length -> a.1.length - i < n -> (∀ r : List UInt8, (mget (eqEl .str) m r).getD false = decide (r ∈ (a.1.take i).map id)) ->
  zcv 80000 a n (i : Int) m = some (if fineFrom id nmF (a.1.take i) (a.1.drop i) && fineFrom (·.1) (fun l => ltB l.1 && wtB a.1.length l.2.1 l.2.2.1) [] a.2.1 then 0 else 7) := by
 intro n
 induction n with
 | zero => intro i m _ h; omega
 | succ n ih =>
  intro i m hi hn hm
  unfold zcv feature_Check_b1
  by_cases hlt : i < a.1.length
  ·rw [if_pos (by simp only [decide_eq_true_eq]; omega), at_lt hlt, List.drop_eq_getElem_cons hlt]
   simp only [Option.bind_some]
   rw [featNamed_val, hm]
   simp only [Option.bind_some]
   rw [fineFrom_cons]
   unfold feature_Check_j3
   cases hb : nmF (a.1[i]'hlt) with
   | false => rfl
   | true =>
    by_cases hd : (a.1[i]'hlt) ∈ (a.1.take i).map id
    ·rw [decide_eq_true hd, memQ_t (show id (a.1[i]'hlt) ∈ (a.1.take i).map id from hd)]
     rfl
    ·rw [decide_eq_false hd, memQ_f (show ¬ id (a.1[i]'hlt) ∈ (a.1.take i).map id from hd), if_neg (by simp), zhf (by omega), ih (i + 1) _ (by omega) (by omega), List.take_succ_eq_append_getElem hlt]
     ·simp
     ·intro r
      obtain ⟨q1, q2⟩ := mget_mset eqStr_iff (a.1[i]'hlt) r true m
      rw [List.take_succ_eq_append_getElem hlt, List.map_append]
      by_cases hr : r = a.1[i]'hlt
      ·exact (congrArg (fun o : Option Bool => o.getD false) (q1 hr)).trans (dec_same _ hr)
      ·exact (congrArg (fun o : Option Bool => o.getD false) (q2 hr)).trans ((hm r).trans (dec_other _ hr))
  ·rw [if_neg (by simp only [decide_eq_true_eq]; omega), List.drop_eq_nil_of_le (by omega)]
   have := fc_l2 a h1 h2 80000 0 [] (Nat.zero_le _) (by omega) (fun r => by simp [mget])
   simp only [List.take_zero, List.drop_zero] at this
   refine Eq.trans this ?_
   simp [fineFrom]
theorem featCheck_val (a : Alph) : zcw 80000 a = some (if chkA a then 0 else 7) := by
 unfold zcw feature_Check_j1 feature_Check_j2
 by_cases hc : a.1.length <= 24 /\ 1 <= a.2.1.length /\ a.2.1.length <= 128
 ·rw [if_neg (by simp only [Bool.or_eq_true, decide_eq_true_eq]; omega), chkA_eq hc.1 hc.2.1 hc.2.2]
  have := fc_l1 a hc.1 hc.2.2 80000 0 [] (Nat.zero_le _) (by omega) (fun r => by simp [mget])
  simp only [List.take_zero, List.drop_zero] at this
  exact this
 ·rw [if_pos (by simp only [Bool.or_eq_true, decide_eq_true_eq]; omega), chkA_out hc]
  rfl
end Go.Ev
namespace Go.Ev
open Go
set_option linter.unusedVariables false
abbrev Node : Type := Int × Int × Int × Int × List Int × Unit
abbrev Pat : Type := List Node × Unit
theorem containsB_tot (l : List Bool) (hl : l.length <= 1000) (v : Bool) : Tot (zdl 80000 l v) := by
 unfold zdl zdk
 refine zhh (tot_loop0 (L := zdj l v) (len := l.length) (by omega) ?_ 80000 0 (Nat.zero_le _) (by omega)) fun _ _ => zhg _
 intro n i hi go
 unfold zdj zdi
 exact tot_dec (fun h => zhh (tot_at (by omega)) fun _ _ => tot_ite (fun _ => zhg _) fun _ => go (by omega)) fun _ => zhg _
theorem count_set_true {l : List Bool} {i : Nat} (h : i < l.length) (hf : l[i] = false) : (l.set i true).count false + 1 = l.count false := by
 rw [List.count_set h, hf]
 have : 0 < l.count false := List.count_pos_iff.2 (hf ▸ List.getElem_mem h)
 simp
 omega
theorem tree_l2 (x : Node) (i : Nat) (p : Pat) (go : Int -> List Bool -> Option Bool) (hp : p.1.length <= 256) (hgo : ∀ t, t.length = p.1.length -> Tot (go (wi64 ((i : Int) + 1)) t)) :
  ∀ n j (t : List Bool), t.length = p.1.length -> t.count false < n -> j + t.count false <= 1000 -> Tot (zdn x (i : Int) p go n (j : Int) t) := by
 intro n
 induction n with
 | zero => intro j t _ h; omega
 | succ n ih =>
  intro j t ht hn hj
  unfold zdn pattern_tree_b2
  refine tot_dec (fun hlt => ?_) fun _ => hgo t ht
  refine zhh (tot_at (by omega)) fun y _ => ?_
  unfold pattern_tree_j5
  refine tot_ite (fun _ => ⟨false, rfl⟩) fun hc => ?_
  have hy : (i : Int) < y /\ y < (p.1.length : Int) := by
   simp only [Bool.or_eq_false_iff, decide_eq_false_iff_not] at hc
   omega
  obtain ⟨m, rfl⟩ : ∃ m : Nat, y = (m : Int) := ⟨y.toNat, by omega⟩
  have hm : m < t.length := by omega
  rw [at_lt hm]
  simp only [Option.bind_some]
  unfold zdm
  refine tot_ite (fun _ => zhg _) fun hf => ?_
  have hc := count_set_true hm hf
  rw [zhf (by omega), Int.toNat_natCast, at_lt hm]
  simp only [Option.bind_some]
  exact ih (j + 1) (t.set m true) (by rw [List.length_set]; exact ht) (by omega) (by omega)
theorem tree_tot (p : Pat) : ∃ b, zdu 80000 p = some b /\ (b = true -> p.1.length <= 256) := by
 unfold zdu
 by_cases hb : (decide ((p.1.length : Int) < 1) || decide ((256 : Int) < (p.1.length : Int))) = true
 ·rw [hb]
  exact ⟨false, rfl, fun q => by cases q⟩
 ·rw [Bool.eq_false_iff.2 hb]
  simp only [Bool.or_eq_true, decide_eq_true_eq] at hb
  have h1 : 1 <= p.1.length := by omega
  have h2 : p.1.length <= 256 := by omega
  have key : Tot (pattern_tree_j1 80000 p false) := by
   unfold pattern_tree_j1
   rw [if_neg (by simp)]
   refine zhh (tot_chk (by unfold lim; omega)) fun _ _ => ?_
   rw [Int.toNat_natCast]
   refine tot_loop (L := zdt 80000 p) (len := p.1.length) (by omega) (fun _ t => t.length = p.1.length) ?_ 80000 0 _ (Nat.zero_le _) (by omega) (by simp)
   intro n i t ht hi go
   unfold zdt pattern_tree_b1
   refine tot_dec (fun hlt => ?_) fun _ => ?_
   ·refine zhh (tot_at (by omega)) fun x _ => ?_
    have j4 : ∀ b, Tot (zdo 80000 x (i : Int) p (zdt 80000 p n) t b) := fun b => by
     unfold zdo
     refine tot_ite (fun _ => zhg _) fun _ => ?_
     have hcf : t.count false <= t.length := List.count_le_length
     exact tree_l2 x i p _ h2 (fun t' ht' => go t' (by omega) ht') 80000 0 t ht (by omega) (by omega)
    have j2 : Tot (zdp 80000 x (i : Int) p (zdt 80000 p n) t) := by
     unfold zdp pattern_tree_j3
     exact tot_ite (fun _ => j4 _) fun _ => j4 _
    have j10 : ∀ b, Tot (zdq 80000 x (i : Int) p (zdt 80000 p n) t b) := fun b => by
     unfold zdq
     exact tot_ite (fun _ => tot_ite (fun _ => zhg _) fun _ => j2) fun _ => zhg _
    have j9 : ∀ b, Tot (zdr 80000 x (i : Int) p (zdt 80000 p n) t b) := fun b => by
     unfold zdr
     exact tot_ite (fun _ => tot_ite (fun _ => zhg _) fun _ => j2) fun _ => tot_ite (fun _ => j10 _) fun _ => tot_ite (fun _ => j10 _) fun _ => tot_ite (fun _ => j10 _) fun _ => tot_ite (fun _ => j10 _) fun _ => j10 _
    have j8 : ∀ b, Tot (zds 80000 x (i : Int) p (zdt 80000 p n) t b) := fun b => by
     unfold zds
     exact tot_ite (fun _ => j2) fun _ => tot_ite (fun _ => j9 _) fun _ => j9 _
    exact tot_ite (fun _ => j8 _) fun _ => j8 _
   ·rw [show (1 : Int) = ((1 : Nat) : Int) from rfl, sub_suf (by omega)]
    simp only [Option.bind_some]
    exact zhh (containsB_tot _ (by rw [List.length_drop]; omega) _) fun _ _ => zhg _
  obtain ⟨b, hb'⟩ := key
  exact ⟨b, hb', fun _ => h2⟩
theorem patCheck_tot (a : Alph) (p : Pat) : Tot (zdx 80000 a p) := by
 unfold zdx
 obtain ⟨e, he, _⟩ := zhi (a.1, a.2.1, ())
 rw [he]
 simp only [Option.bind_some]
 refine tot_ite (fun _ => zhg _) fun _ => ?_
 obtain ⟨b, hb, h2⟩ := tree_tot (p.1, ())
 rw [hb]
 simp only [Option.bind_some]
 refine tot_ite (fun _ => zhg _) fun h => ?_
 have hl : p.1.length <= 256 := h2 (by simpa using h)
 refine tot_loop0 (L := zdw 80000 p a) (len := p.1.length) (by omega) ?_ 80000 0 (Nat.zero_le _) (by omega)
 intro n i hi go
 unfold zdw pattern_Check_b1 zdv
 exact tot_dec (fun hlt => zhh (tot_at (by omega)) fun x _ => tot_ite (fun _ => zhh (Of_tot _ _) fun _ _ => tot_ite (fun _ => zhg _) fun _ => go (by omega))
  fun _ => tot_ite (fun _ => zhh (Text_tot _ _ _) fun _ _ => tot_ite (fun _ => zhg _) fun _ => go (by omega)) fun _ => go (by omega)) fun _ => zhg _
abbrev Rul : Type := List UInt8 × List yT64 × List yT59 × Pat × Pat × Int × Bool × Unit
theorem ruleCheck_tot (a : Alph) (r : Rul) : Tot (rule_Check 80000 a r) := by
 unfold rule_Check
 obtain ⟨e, he, _⟩ := zhi (a.1, a.2.1, ())
 rw [he]
 simp only [Option.bind_some]
 refine tot_ite (fun _ => zhg _) fun _ => zhh (ruleNamed_tot _) fun v _ => ?_
 unfold rule_Check_j1 rule_Check_j2 rule_Check_j3 rule_Check_j4 rule_Check_j5
 refine tot_ite (fun _ => zhg _) fun hc => ?_
 simp only [Bool.or_eq_false_iff, decide_eq_false_iff_not] at hc
 have h1 : r.2.1.length <= 8 := by omega
 have h2 : r.2.2.1.length <= 8 := by omega
 have j6 : ∀ t, Tot (zdy t) := fun t => by
  unfold zdy
  exact tot_ite (fun _ => zhg _) fun _ => zhg _
 have l2 : Tot (zdz 80000 r a 80000 0) := by
  refine tot_loop0 (L := zdz 80000 r a) (len := r.2.2.1.length) (by omega) ?_ 80000 0 (Nat.zero_le _) (by omega)
  intro n i hi go
  unfold zdz rule_Check_b2
  exact tot_dec (fun hlt => zhh (tot_at (by omega)) fun x _ => zhh (swap_tot _ _ _) fun _ _ => tot_ite (fun _ => zhg _) fun _ => go (by omega))
   fun _ => zhh (patCheck_tot _ _) fun _ _ => tot_ite (fun _ => j6 _) fun _ => zhh (patCheck_tot _ _) fun _ _ => j6 _
 refine tot_loop0 (L := zd0 80000 r a) (len := r.2.1.length) (by omega) ?_ 80000 0 (Nat.zero_le _) (by omega)
 intro n i hi go
 unfold zd0 rule_Check_b1
 exact tot_dec (fun hlt => zhh (tot_at (by omega)) fun x _ => zhh (either_tot _ _ _ _) fun _ _ => tot_ite (fun _ => zhg _) fun _ => go (by omega)) fun _ => l2
theorem lawCheck_tot (a : Alph) (l : List Rul) : Tot (law_Check 80000 a l) := by
 unfold law_Check
 obtain ⟨e, he, _⟩ := zhi (a.1, a.2.1, ())
 rw [he]
 simp only [Option.bind_some]
 refine tot_ite (fun _ => zhg _) fun _ => tot_dec (fun _ => zhg _) fun hl => ?_
 refine tot_loop0 (L := zd1 80000 l a) (len := l.length) (by omega) ?_ 80000 0 (Nat.zero_le _) (by omega)
 intro n i hi go
 unfold zd1 law_Check_b1
 exact tot_dec (fun hlt => zhh (tot_at (by omega)) fun x _ => zhh (ruleCheck_tot _ _) fun _ _ => tot_ite (fun _ => zhg _) fun _ => go (by omega)) fun _ => zhg _
theorem g_small1 {s : List UInt8} {p : Nat} (h : p < s.length) (hr : (g s p).1 < 128) : (g s p).2 = 1 /\ gb s p = (g s p).1 := by
 have h0 := gb_lt s p; have h1 := gb_lt s (p + 1); have h2 := gb_lt s (p + 2); have h3 := gb_lt s (p + 3)
 revert hr
 unfold g Lib.decodeN
 repeat' split
 all_goals (dsimp only; intro hr; omega)
theorem c1_val (r : Int) : family_named_c1 80000 r = some (!((decide (97 <= r) && decide (r <= 122)) || ((decide (48 <= r) && decide (r <= 57)) || decide (r = 45)))) := by
 unfold family_named_c1 family_named_c1_j1 zcx family_named_c1_j3 family_named_c1_j4
 have key : ∀ x y : Bool, x = y -> (some x : Option Bool) = some y := fun x y h => by rw [h]
 by_cases h1 : (decide (r < 97) || decide ((122 : Int) < r)) = true
 ·rw [if_pos h1]
  refine key _ _ ?_
  rw [Bool.eq_iff_iff]
  simp only [Bool.or_eq_true, decide_eq_true_eq] at h1
  simp
  omega
 ·rw [if_neg h1]
  refine key _ _ ?_
  simp only [Bool.or_eq_true, decide_eq_true_eq] at h1
  rw [Bool.eq_iff_iff]
  simp
  omega
theorem named_l1 {s : List UInt8} (hs : s.length <= 32) : ∀ n p, p <= s.length -> s.length - p < n -> ∃ v, zcz 80000 s true n p = some v /\ (v < 0 -> ∀ j, p <= j -> j < s.length -> gb s j ≠ 10) := by
 intro n
 induction n with
 | zero => intro p _ h; omega
 | succ n ih =>
  intro p h1 h2
  unfold zcz zcy
  by_cases hp : p < s.length
  ·have hg := g_size s p hp
   rw [if_pos (decide_eq_true hp), c1_val, runeAt_g, widthAt_g]
   simp only [Option.bind_some]
   split
   ·exact ⟨(p : Int), rfl, fun q => by omega⟩
   ·rename_i hc
    obtain ⟨v, hv, hv2⟩ := ih (p + (g s p).2) hg.2.1 (by omega)
    refine ⟨v, hv, fun q j hj1 hj2 => ?_⟩
    have hr : (97 <= (g s p).1 /\ (g s p).1 <= 122) \/ (48 <= (g s p).1 /\ (g s p).1 <= 57) \/ (g s p).1 = 45 := by
     simp at hc
     omega
    obtain ⟨e1, e2⟩ := g_small1 hp (by omega)
    by_cases hj : j = p
    ·subst hj
     omega
    ·exact hv2 q j (by omega) hj2
  ·rw [if_neg (by simpa using hp)]
   exact ⟨-1, rfl, fun _ j hj1 hj2 => by omega⟩
theorem named_tot (s : List UInt8) : ∃ b, family_named 80000 s = some b /\ (b = true -> s.length <= 32 /\ ∀ j, j < s.length -> gb s j ≠ 10) := by
 unfold family_named
 by_cases h : ((!(s == ([] : List UInt8))) && decide ((s.length : Int) <= 32)) = true
 ·rw [h]
  have hs : s.length <= 32 := by
   simp only [Bool.and_eq_true, decide_eq_true_eq] at h
   omega
  unfold family_named_j1 zc2 zc1 zc0
  rw [if_pos rfl]
  obtain ⟨v, hv, hv2⟩ := named_l1 hs 80000 0 (Nat.zero_le _) (by omega)
  rw [hv]
  refine ⟨_, rfl, fun q => ⟨hs, fun j hj => hv2 ?_ j (Nat.zero_le _) hj⟩⟩
  simp at q
  omega
 ·rw [Bool.eq_false_iff.2 h]
  exact ⟨false, rfl, fun q => by cases q⟩
end Go.Ev
namespace Go.Ev
open Go
set_option linter.unusedVariables false
def Has {α : Type} (x : Option α) (P : α -> Prop) : Prop := ∃ v, x = some v /\ P v
theorem zhj {α : Type} {P : α -> Prop} {v : α} (h : P v) : Has (some v) P := ⟨v, rfl, h⟩
theorem zhk {α β : Type} {x : Option α} {f : α -> Option β} {Q : α -> Prop} {P : β -> Prop} (hx : Has x Q) (hf : ∀ v, Q v -> Has (f v) P) : Has (Option.bind x f) P := by
 obtain ⟨v, rfl, hv⟩ := hx
 exact hf v hv
theorem has_ite {α : Type} {P : α -> Prop} {c : Bool} {a b : Option α} (h1 : c = true -> Has a P) (h2 : c = false -> Has b P) : Has (if c then a else b) P := by
 cases c with
 | true => rw [if_pos rfl]; exact h1 rfl
 | false => rw [if_neg (by simp)]; exact h2 rfl
theorem has_dec {α : Type} {P : α -> Prop} {p : Prop} [Decidable p] {a b : Option α} (h1 : p -> Has a P) (h2 : ¬ p -> Has b P) : Has (if decide p then a else b) P :=
 has_ite (fun h => h1 (of_decide_eq_true h)) (fun h => h2 (of_decide_eq_false h))
theorem has_chk {β : Type} {p : Prop} [Decidable p] {f : Unit -> Option β} {P : β -> Prop} (h : p) (hf : Has (f ()) P) : Has (Option.bind (chk p) f) P := by
 rw [chk_of h]
 exact hf
theorem has_at {α β : Type} {l : List α} {i : Nat} {f : α -> Option β} {P : β -> Prop} (h : i < l.length) (hf : ∀ x, l[i]'h = x -> Has (f x) P) : Has (Option.bind (at? l (i : Int)) f) P := by
 rw [at_lt h]
 exact hf _ rfl
theorem has_atI {α β : Type} {l : List α} {i : Int} {f : α -> Option β} {P : β -> Prop} (h0 : 0 <= i) (h : i < l.length) (hf : ∀ x, x ∈ l -> Has (f x) P) : Has (Option.bind (at? l i) f) P := by
 rw [at_int h0 h]
 exact hf _ (List.getElem_mem _)
theorem has_mono {α : Type} {x : Option α} {P Q : α -> Prop} (h : Has x P) (hq : ∀ v, P v -> Q v) : Has x Q := by
 obtain ⟨v, e, hv⟩ := h
 exact ⟨v, e, hq v hv⟩
theorem has_tot {α : Type} {x : Option α} (h : Tot x) : Has x fun _ => True := by
 obtain ⟨v, e⟩ := h
 exact ⟨v, e, trivial⟩
abbrev Mp : Type := List (List Int × Option yT69)
abbrev Lt : Type := Int × Int × Int × Unit
abbrev Swp : Type := Int × Int × Int × Int × Unit
abbrev EndT : Type := List Node × List Int × List UInt8 × List Lt × List Swp × List Node × List Node × Int × Bool × Mp × List (List UInt8) × List Lt × List Bool × List Bool
abbrev RecT : Type := Int -> List Node -> List Int -> List UInt8 -> List Lt -> List Swp -> List Node -> List Node -> Int -> Bool -> Mp -> List (List UInt8) -> List Lt -> List Bool -> Option EndT
theorem big_lim : (1000000 : Int) <= (lim : Int) := by decide
theorem zhl : (1000000 : Nat) <= lim := by decide
def TreeOK (ns : List Node) : Prop := 1 <= ns.length /\ ns.length <= 1000 /\ ∀ i (h : i < ns.length), (∀ k ∈ (ns[i]'h).2.2.2.2.1, (i : Int) < k /\ k < (ns.length : Int)) /\ ((ns[i]'h).1 = 8 \/ (ns[i]'h).1 = 9 -> (ns[i]'h).2.2.2.2.1 ≠ []) /\ (ns[i]'h).2.2.2.2.1.length <= 1000
section ends
variable {c1 : List Node} {c2 : List Int} {c3 : List UInt8} {c4 : List Lt} {c5 : List Swp} {c6 c7 : List Node} {c8 : Int} {c9 : Bool} {m1 : Mp} {c10 : List (List UInt8)} {c11 : List Lt}
variable {L : Nat}
theorem is_tot (k : Nat) (x r p m : Int) (a : List UInt8) (b : List Lt) (c : List Swp) (d e : List Node) (f : Int) (g : Bool) (m1 : Mp) (h : List (List UInt8)) (i : List Lt) : Has (zeq k x r p m a b c d e f g m1 h i) fun _ => True := by
 unfold zeq
 exact has_ite (fun _ => zhj trivial) fun _ => zhj trivial
theorem ends_l1 (k : Nat) (x1 : Node) {l1 : List Bool} (hL : L <= 40000) (hc : c2.length + 1 = L) (hl : l1.length = L) : ∀ n (i : Nat) (t : List Bool), i + 1 <= L -> L - i < n -> t.length = L ->
  Has (zev k c2 l1 x1 c3 c4 c5 c6 c7 c8 c9 m1 c10 c11 c1 n (i : Int) t) fun v => ∃ o, v = (c1, c2, c3, c4, c5, c6, c7, c8, c9, m1, c10, c11, o, l1) /\ o.length = L := by
 intro n
 induction n with
 | zero => intro i t _ h; omega
 | succ n ih =>
  intro i t h1 h2 h3
  unfold zev zeu
  refine has_dec (fun hlt => ?_) fun _ => ?_
  ·refine has_at (by omega) fun x2 _ => ?_
   refine has_at (by omega) fun x3 _ => ?_
   have go : ∀ b, Has (zes t (i : Int) (zev k c2 l1 x1 c3 c4 c5 c6 c7 c8 c9 m1 c10 c11 c1 n) b) fun v => ∃ o, v = (c1, c2, c3, c4, c5, c6, c7, c8, c9, m1, c10, c11, o, l1) /\ o.length = L := by
    intro b
    unfold zes
    rw [zhf (by omega)]
    refine has_at (by omega) fun _ _ => ?_
    exact ih (i + 1) _ (by omega) (by omega) (by rw [List.length_set]; exact h3)
   refine has_ite (fun _ => ?_) fun _ => go _
   refine has_ite (fun _ => go _) fun _ => ?_
   exact zhk (is_tot ..) fun _ _ => go _
  ·unfold zer
   exact zhj ⟨t, rfl, h3⟩
theorem ends_l2 {x1 : Node} {rec1 : RecT} {l1 : List Bool} (hl : l1.length = L) (hk : x1.2.2.2.2.1.length <= 1000)
  (hr : ∀ x ∈ x1.2.2.2.2.1, ∀ l : List Bool, l.length = L -> Has (rec1 x c1 c2 c3 c4 c5 c6 c7 c8 c9 m1 c10 c11 l) fun v => ∃ o, v = (c1, c2, c3, c4, c5, c6, c7, c8, c9, m1, c10, c11, o, l) /\ o.length = L) :
  ∀ n (i : Nat) (t : List Bool), i <= x1.2.2.2.2.1.length -> x1.2.2.2.2.1.length - i < n -> t.length = L ->
  Has (zex x1 rec1 l1 n (i : Int) c1 c2 c3 c4 c5 c6 c7 c8 c9 m1 c10 c11 t) fun v => ∃ o, v = (c1, c2, c3, c4, c5, c6, c7, c8, c9, m1, c10, c11, o, l1) /\ o.length = L := by
 intro n
 induction n with
 | zero => intro i t _ h; omega
 | succ n ih =>
  intro i t h1 h2 h3
  unfold zex zew
  refine has_dec (fun hlt => ?_) fun _ => ?_
  ·refine has_at (by omega) fun x9 hx => ?_
   refine zhk (hr x9 (hx ▸ List.getElem_mem _) t h3) ?_
   rintro v ⟨o, rfl, ho⟩
   rw [zhf (by omega)]
   exact ih (i + 1) o (by omega) (by omega) ho
  ·unfold zer
   exact zhj ⟨t, rfl, h3⟩
theorem ends_l4 {v3 : EndT} {o l : List Bool} (hv : v3 = (c1, c2, c3, c4, c5, c6, c7, c8, c9, m1, c10, c11, o, l)) (hL : L <= 40000) (ho : o.length = L) {P : EndT -> Prop}
  (go3 : Int -> List Node -> List Int -> List UInt8 -> List Lt -> List Swp -> List Node -> List Node -> Int -> Bool -> Mp -> List (List UInt8) -> List Lt -> List Bool -> List Bool -> Option EndT) (t45 : Int)
  (hg : ∀ t : List Bool, t.length = L -> Has (go3 (wi64 (t45 + 1)) c1 c2 c3 c4 c5 c6 c7 c8 c9 m1 c10 c11 t l) P) :
  ∀ n (i : Nat) (t : List Bool), i <= L -> L - i < n -> t.length = L -> Has (ze0 v3 go3 t45 n (i : Int) t) P := by
 subst hv
 intro n
 induction n with
 | zero => intro i t _ h; omega
 | succ n ih =>
  intro i t h1 h2 h3
  unfold ze0 zez
  refine has_dec (fun hlt => ?_) fun _ => hg t h3
  have hlt' : i < L := by
   have : (i : Int) < (o.length : Int) := hlt
   omega
  refine has_at (l := o) (by omega) fun x11 _ => ?_
  refine has_at (by omega) fun x12 _ => ?_
  unfold zey
  refine has_at (by omega) fun _ _ => ?_
  rw [zhf (by omega)]
  exact ih (i + 1) _ (by omega) (by omega) (by rw [List.length_set]; exact h3)
theorem ends_l3 {k : Nat} {x1 : Node} {rec1 : RecT} {l1 : List Bool} (hL : L <= 40000) (hkk : L < k) (hl : l1.length = L) (hk : x1.2.2.2.2.1.length <= 1000)
  (hr : ∀ x ∈ x1.2.2.2.2.1, ∀ l : List Bool, l.length = L -> Has (rec1 x c1 c2 c3 c4 c5 c6 c7 c8 c9 m1 c10 c11 l) fun v => ∃ o, v = (c1, c2, c3, c4, c5, c6, c7, c8, c9, m1, c10, c11, o, l) /\ o.length = L) :
  ∀ n (i : Nat) (t : List Bool), i <= x1.2.2.2.2.1.length -> x1.2.2.2.2.1.length - i < n -> t.length = L ->
  Has (ze2 k x1 rec1 n (i : Int) c1 c2 c3 c4 c5 c6 c7 c8 c9 m1 c10 c11 t l1) fun v => ∃ o, v = (c1, c2, c3, c4, c5, c6, c7, c8, c9, m1, c10, c11, o, l1) /\ o.length = L := by
 intro n
 induction n with
 | zero => intro i t _ h; omega
 | succ n ih =>
  intro i t h1 h2 h3
  unfold ze2 ze1
  refine has_dec (fun hlt => ?_) fun _ => ?_
  ·refine has_at (by omega) fun x10 hx => ?_
   refine zhk (hr x10 (hx ▸ List.getElem_mem _) l1 hl) ?_
   rintro v ⟨o, rfl, ho⟩
   refine ends_l4 (c1 := c1) (c2 := c2) (c3 := c3) (c4 := c4) (c5 := c5) (c6 := c6) (c7 := c7) (c8 := c8) (c9 := c9) (m1 := m1) (c10 := c10) (c11 := c11) rfl hL ho _ _ (fun t' ht' => ?_) k 0 t (Nat.zero_le _) (by omega) h3
   rw [zhf (by omega)]
   exact ih (i + 1) t' (by omega) (by omega) ht'
  ·unfold zer
   exact zhj ⟨t, rfl, h3⟩
theorem ends_l5 {v4 : EndT} {o l : List Bool} (hv : v4 = (c1, c2, c3, c4, c5, c6, c7, c8, c9, m1, c10, c11, o, l)) (hL : L <= 40000) (hl : l.length = L) :
  ∀ n (i : Nat) (t : List Bool), i <= L -> L - i < n -> t.length = L -> Has (ze5 v4 n (i : Int) t) fun v => ∃ o, v = (c1, c2, c3, c4, c5, c6, c7, c8, c9, m1, c10, c11, o, l) /\ o.length = L := by
 subst hv
 intro n
 induction n with
 | zero => intro i t _ h; omega
 | succ n ih =>
  intro i t h1 h2 h3
  unfold ze5 ze4
  refine has_dec (fun hlt => ?_) fun _ => ?_
  ·have hlt' : i < L := by
    have : (i : Int) < (l.length : Int) := hlt
    omega
   refine has_at (l := l) (by omega) fun _ _ => ?_
   refine has_at (by omega) fun _ _ => ?_
   unfold ze3
   refine has_at (by omega) fun _ _ => ?_
   rw [zhf (by omega)]
   exact ih (i + 1) _ (by omega) (by omega) (by rw [List.length_set]; exact h3)
  ·unfold zer
   exact zhj ⟨t, rfl, h3⟩
abbrev Go6 : Type := Int -> Int -> Int -> Int -> List Int -> List Node -> List Int -> List UInt8 -> List Lt -> List Swp -> List Node -> List Node -> Int -> Bool -> Mp -> List (List UInt8) -> List Lt -> List Bool -> List Bool -> Option EndT
theorem ends_l7 {v5 : EndT} {o l0 l : List Bool} (hv : v5 = (c1, c2, c3, c4, c5, c6, c7, c8, c9, m1, c10, c11, o, l0)) (hL : L <= 40000) (ho : o.length = L) (go6 : Go6) (n1 n2 n3 n4 : Int) (n5 : List Int) {f0 : Nat}
  (hg : ∀ t : List Bool, t.length = L -> t.count false < f0 -> Has (go6 n1 n2 n3 n4 n5 c1 c2 c3 c4 c5 c6 c7 c8 c9 m1 c10 c11 t l) fun v => ∃ o, v = (c1, c2, c3, c4, c5, c6, c7, c8, c9, m1, c10, c11, o, l) /\ o.length = L) :
  ∀ n more (i : Nat) (t : List Bool), i <= L -> L - i < n -> t.length = L -> (t.count false <= f0 /\ (more = true -> t.count false < f0)) ->
   Has (ze9 v5 l go6 n1 n2 n3 n4 n5 n more (i : Int) t) fun v => ∃ o, v = (c1, c2, c3, c4, c5, c6, c7, c8, c9, m1, c10, c11, o, l) /\ o.length = L := by
 subst hv
 intro n
 induction n with
 | zero => intro more i t _ h; omega
 | succ n ih =>
  intro more i t h1 h2 h3 h4
  unfold ze9 ze8
  refine has_dec (fun hlt => ?_) fun _ => ?_
  ·have hlt' : i < L := by
    have : (i : Int) < (o.length : Int) := hlt
    omega
   refine has_at (l := o) (by omega) fun _ _ => ?_
   have no : Has (ze7 t (i : Int) (ze9 (c1, c2, c3, c4, c5, c6, c7, c8, c9, m1, c10, c11, o, l0) l go6 n1 n2 n3 n4 n5 n) more false) fun v => ∃ o, v = (c1, c2, c3, c4, c5, c6, c7, c8, c9, m1, c10, c11, o, l) /\ o.length = L := by
    unfold ze7 ze6
    rw [if_neg (by simp), zhf (by omega)]
    exact ih more (i + 1) t (by omega) (by omega) h3 h4
   refine has_ite (fun _ => ?_) fun _ => no
   refine has_at (by omega) fun x21 hx => ?_
   cases x21 with
   | true => exact no
   | false =>
    show Has (ze7 _ _ _ _ true) _
    unfold ze7 ze6
    rw [if_pos rfl]
    refine has_at (by omega) fun _ _ => ?_
    rw [zhf (by omega)]
    have hc := count_set_true (l := t) (i := i) (by omega) hx
    rw [Int.toNat_natCast]
    exact ih true (i + 1) _ (by omega) (by omega) (by rw [List.length_set]; exact h3) ⟨by omega, fun _ => by omega⟩
  ·refine has_ite (fun _ => ?_) fun hm => hg t h3 (h4.2 (by simpa using hm))
   unfold zer
   exact zhj ⟨t, rfl, h3⟩
theorem ends_l6 {k : Nat} {rec1 : RecT} {l1 : List Bool} (hL : L <= 40000) (hkk : L < k) (hl : l1.length = L) {n1 n2 n3 n4 x : Int} {n5 : List Int}
  (hr : ∀ l : List Bool, l.length = L -> Has (rec1 x c1 c2 c3 c4 c5 c6 c7 c8 c9 m1 c10 c11 l) fun v => ∃ o, v = (c1, c2, c3, c4, c5, c6, c7, c8, c9, m1, c10, c11, o, l) /\ o.length = L) :
  ∀ n (t : List Bool), t.count false < n -> t.length = L ->
  Has (zfb k rec1 n n1 n2 n3 n4 (x :: n5) c1 c2 c3 c4 c5 c6 c7 c8 c9 m1 c10 c11 t l1) fun v => ∃ o, v = (c1, c2, c3, c4, c5, c6, c7, c8, c9, m1, c10, c11, o, l1) /\ o.length = L := by
 intro n
 induction n with
 | zero => intro t h; omega
 | succ n ih =>
  intro t h2 h3
  unfold zfb zfa
  refine has_at (l := x :: n5) (i := 0) (by simp) fun y hy => ?_
  obtain rfl : x = y := hy
  refine zhk (hr t h3) ?_
  rintro v ⟨o, rfl, ho⟩
  refine ends_l7 (c1 := c1) (c2 := c2) (c3 := c3) (c4 := c4) (c5 := c5) (c6 := c6) (c7 := c7) (c8 := c8) (c9 := c9) (m1 := m1) (c10 := c10) (c11 := c11) rfl hL ho _ _ _ _ _ _ (f0 := t.count false) (fun t' ht' hc => ?_) k false 0 t (Nat.zero_le _) (by omega) h3 ⟨Nat.le_refl _, fun h => nomatch h⟩
  exact ih t' (by omega) ht'
theorem over_len {l1 : List Bool} (hl : l1.length = L) : (l1 ++ List.drop l1.length (List.replicate L false)).length = L := by
 rw [List.length_append, List.length_drop, List.length_replicate]
 omega
theorem ends_c1 (hT : TreeOK c1) (hL : L <= 40000) (hc : c2.length + 1 = L) : ∀ d k (at1 : Nat), at1 < c1.length -> c1.length - at1 <= d -> 60000 + d <= k -> ∀ l : List Bool, l.length = L ->
  Has (zfd k (at1 : Int) c1 c2 c3 c4 c5 c6 c7 c8 c9 m1 c10 c11 l) fun v => ∃ o, v = (c1, c2, c3, c4, c5, c6, c7, c8, c9, m1, c10, c11, o, l) /\ o.length = L := by
 intro d
 induction d with
 | zero => intro k at1 h1 h2; omega
 | succ d ih =>
  intro k at1 h1 h2 h3 l hl
  obtain ⟨k, rfl⟩ : ∃ m, k = m + 1 := ⟨k - 1, by omega⟩
  have hx := hT.2.2 at1 h1
  have hw : wi64 ((c2.length : Int) + 1) = (L : Int) := by rw [zhf (by omega), hc]
  have hbl := big_lim
  unfold zfd
  refine has_at h1 fun x1 hx1 => ?_
  rw [hx1] at hx
  have hr : ∀ x ∈ x1.2.2.2.2.1, ∀ l : List Bool, l.length = L -> Has (zfd k x c1 c2 c3 c4 c5 c6 c7 c8 c9 m1 c10 c11 l) fun v => ∃ o, v = (c1, c2, c3, c4, c5, c6, c7, c8, c9, m1, c10, c11, o, l) /\ o.length = L := by
   intro x hxm l hl
   have := hx.1 x hxm
   obtain ⟨m, rfl⟩ : ∃ m : Nat, x = (m : Int) := ⟨x.toNat, by omega⟩
   exact ih k m (by omega) (by omega) (by omega) l hl
  rw [hw]
  refine has_chk ⟨by omega, by omega, by omega⟩ ?_
  have hrep : (List.replicate ((L : Int)).toNat false).length = L := by simp
  have hj : ∀ b, Has (zfc k c2 l x1 c3 c4 c5 c6 c7 c8 c9 m1 c10 c11 c1 (zfd k) b) fun v => ∃ o, v = (c1, c2, c3, c4, c5, c6, c7, c8, c9, m1, c10, c11, o, l) /\ o.length = L := by
   intro b
   unfold zfc
   rw [hw]
   refine has_ite (fun _ => ends_l1 k x1 hL hc hl k 0 _ (by omega) (by omega) hrep) fun _ => ?_
   refine has_ite (fun _ => ?_) fun _ => ?_
   ·refine has_at (i := 0) (by omega) fun _ _ => ?_
    refine has_at (i := 0) (by omega) fun _ _ => ?_
    refine has_at (by omega) fun _ _ => ?_
    refine has_at (by rw [List.length_set]; omega) fun _ _ => ?_
    unfold zer
    exact zhj ⟨_, rfl, by rw [List.length_set, List.length_set]; exact hrep⟩
   refine has_ite (fun _ => ?_) fun _ => ?_
   ·refine has_chk (by omega) ?_
    rw [Int.toNat_natCast]
    exact ends_l2 hl hx.2.2 hr k 0 _ (Nat.zero_le _) (by have := hx.2.2; omega) (over_len hl)
   refine has_ite (fun _ => ?_) fun _ => ?_
   ·exact ends_l3 hL (by omega) hl hx.2.2 hr k 0 _ (Nat.zero_le _) (by have := hx.2.2; omega) hrep
   refine has_ite (fun h9 => ?_) fun _ => ?_
   ·have hne := hx.2.1 (Or.inr (by simpa using h9))
    have hp : 0 < x1.2.2.2.2.1.length := List.length_pos_iff.2 hne
    refine has_at (i := 0) hp fun x14 hx14 => ?_
    refine zhk (hr x14 (hx14 ▸ List.getElem_mem _) l hl) ?_
    rintro v ⟨o, rfl, ho⟩
    refine has_chk (by show o.length <= _; omega) ?_
    rw [Int.toNat_natCast]
    exact ends_l5 (c1 := c1) (c2 := c2) (c3 := c3) (c4 := c4) (c5 := c5) (c6 := c6) (c7 := c7) (c8 := c8) (c9 := c9) (m1 := m1) (c10 := c10) (c11 := c11) rfl hL hl k 0 _ (Nat.zero_le _) (by omega) (over_len ho)
   refine has_ite (fun h8 => ?_) fun _ => ?_
   ·have hne := hx.2.1 (Or.inl (by simpa using h8))
    obtain ⟨y, ys, hy⟩ := List.exists_cons_of_ne_nil hne
    refine has_chk (by omega) ?_
    rw [Int.toNat_natCast, hy]
    refine ends_l6 hL (by omega) hl (hr y (by rw [hy]; exact List.mem_cons_self)) k _ ?_ (over_len hl)
    have := List.count_le_length (a := false) (l := l ++ List.drop l.length (List.replicate L false))
    rw [over_len hl] at this
    omega
   ·unfold zer
    exact zhj ⟨_, rfl, hrep⟩
  refine has_ite (fun _ => ?_) fun _ => ?_
  ·refine has_chk (by omega) ?_
   unfold zer
   rw [Int.toNat_natCast]
   exact zhj ⟨_, rfl, over_len hl⟩
  ·exact has_ite (fun _ => hj _) fun _ => has_ite (fun _ => hj _) fun _ => hj _
theorem ends_ok (hT : TreeOK c1) (hL : c2.length + 1 = L) (hL2 : L <= 40000) {l : List Bool} (hl : l.length = L) :
  Has (zfe 80000 (c1, ()) c2 c3 c4 c5 c6 c7 c8 c9 m1 c10 c11 l) fun v => ∃ o, v = (c3, c4, c5, c6, c7, c8, c9, m1, c10, c11, o, l) /\ o.length = L := by
 unfold zfe
 refine zhk (ends_c1 hT hL2 hL 1000 80000 0 (by have := hT.1; omega) (by have := hT.2.1; omega) (by omega) l hl) ?_
 rintro v ⟨o, rfl, ho⟩
 exact zhj ⟨o, rfl, ho⟩
end ends
end Go.Ev
namespace Go.Ev
open Go
set_option linter.unusedVariables false
/-! What one letter over another one costs. -/
theorem byteAt_tot {t : List UInt8} {n : Int} (h0 : 0 <= n) (h : n < t.length) : Tot (byteAt t n) := by
 unfold byteAt
 rw [at_int h0 h]
 exact ⟨_, rfl⟩
theorem wu8_range (x : Int) : 0 <= wu8 x /\ wu8 x < 256 := by
 unfold wu8 IntKind.wrap
 simp [IntKind.bits, IntKind.signed]
 omega
theorem wu32_range (x : Int) : 0 <= wu32 x /\ wu32 x < 4294967296 := by
 unfold wu32 IntKind.wrap
 simp [IntKind.bits, IntKind.signed]
 omega
theorem and255 (x : BitVec 32) : 0 <= wu32 (BitVec.toNat (x &&& BitVec.ofInt 32 (255 : Int)) : Int) /\ wu32 (BitVec.toNat (x &&& BitVec.ofInt 32 (255 : Int)) : Int) < 256 := by
 have h : BitVec.toNat (x &&& BitVec.ofInt 32 (255 : Int)) <= 255 := by
  rw [BitVec.toNat_and]
  exact Nat.and_le_right
 rw [wu32_of (by omega)]
 omega
set_option maxRecDepth 100000 in
theorem ones_tot (k : Nat) (x : Int) (h0 : 0 <= x) (h : x < 4294967296) : ∃ v, zee k x = some v /\ 0 <= v /\ v < 256 := by
 unfold zee
 rw [chk_of (by omega)]
 simp only [Option.bind_some]
 have e : (2 : Int) ^ min ((24 : Int)).toNat 32 = 16777216 := by decide
 obtain ⟨b1, e1⟩ := byteAt_tot (t := ([0, 1, 1, 2, 1, 2, 2, 3, 1, 2, 2, 3, 2, 3, 3, 4, 1, 2, 2, 3, 2, 3, 3, 4, 2, 3, 3, 4, 3, 4, 4, 5, 1, 2, 2, 3, 2, 3, 3, 4, 2, 3, 3, 4, 3, 4, 4, 5, 2, 3, 3, 4, 3, 4, 4, 5, 3, 4, 4, 5, 4, 5, 5, 6, 1, 2, 2, 3, 2, 3, 3, 4, 2, 3, 3, 4, 3, 4, 4, 5, 2, 3, 3, 4, 3, 4, 4, 5, 3, 4, 4, 5, 4, 5, 5, 6, 2, 3, 3, 4, 3, 4, 4, 5, 3, 4, 4, 5, 4, 5, 5, 6, 3, 4, 4, 5, 4, 5, 5, 6, 4, 5, 5, 6, 5, 6, 6, 7, 1, 2, 2, 3, 2, 3, 3, 4, 2, 3, 3, 4, 3, 4, 4, 5, 2, 3, 3, 4, 3, 4, 4, 5, 3, 4, 4, 5, 4, 5, 5, 6, 2, 3, 3, 4, 3, 4, 4, 5, 3, 4, 4, 5, 4, 5, 5, 6, 3, 4, 4, 5, 4, 5, 5, 6, 4, 5, 5, 6, 5, 6, 6, 7, 2, 3, 3, 4, 3, 4, 4, 5, 3, 4, 4, 5, 4, 5, 5, 6, 3, 4, 4, 5, 4, 5, 5, 6, 4, 5, 5, 6, 5, 6, 6, 7, 3, 4, 4, 5, 4, 5, 5, 6, 4, 5, 5, 6, 5, 6, 6, 7, 4, 5, 5, 6, 5, 6, 6, 7, 5, 6, 6, 7, 6, 7, 7, 8] : List UInt8)) (n := Int.fdiv x (2 ^ min ((24 : Int)).toNat 32)) (by rw [e, Int.fdiv_eq_ediv_of_nonneg _ (by omega)]; omega) (by rw [e, Int.fdiv_eq_ediv_of_nonneg _ (by omega)]; show _ < (256 : Int); omega)
 rw [e1]
 simp only [Option.bind_some]
 rw [chk_of (by omega)]
 simp only [Option.bind_some]
 have key := fun y : BitVec 32 => byteAt_tot (t := ([0, 1, 1, 2, 1, 2, 2, 3, 1, 2, 2, 3, 2, 3, 3, 4, 1, 2, 2, 3, 2, 3, 3, 4, 2, 3, 3, 4, 3, 4, 4, 5, 1, 2, 2, 3, 2, 3, 3, 4, 2, 3, 3, 4, 3, 4, 4, 5, 2, 3, 3, 4, 3, 4, 4, 5, 3, 4, 4, 5, 4, 5, 5, 6, 1, 2, 2, 3, 2, 3, 3, 4, 2, 3, 3, 4, 3, 4, 4, 5, 2, 3, 3, 4, 3, 4, 4, 5, 3, 4, 4, 5, 4, 5, 5, 6, 2, 3, 3, 4, 3, 4, 4, 5, 3, 4, 4, 5, 4, 5, 5, 6, 3, 4, 4, 5, 4, 5, 5, 6, 4, 5, 5, 6, 5, 6, 6, 7, 1, 2, 2, 3, 2, 3, 3, 4, 2, 3, 3, 4, 3, 4, 4, 5, 2, 3, 3, 4, 3, 4, 4, 5, 3, 4, 4, 5, 4, 5, 5, 6, 2, 3, 3, 4, 3, 4, 4, 5, 3, 4, 4, 5, 4, 5, 5, 6, 3, 4, 4, 5, 4, 5, 5, 6, 4, 5, 5, 6, 5, 6, 6, 7, 2, 3, 3, 4, 3, 4, 4, 5, 3, 4, 4, 5, 4, 5, 5, 6, 3, 4, 4, 5, 4, 5, 5, 6, 4, 5, 5, 6, 5, 6, 6, 7, 3, 4, 4, 5, 4, 5, 5, 6, 4, 5, 5, 6, 5, 6, 6, 7, 4, 5, 5, 6, 5, 6, 6, 7, 5, 6, 6, 7, 6, 7, 7, 8] : List UInt8)) (n := wu32 (BitVec.toNat (y &&& BitVec.ofInt 32 (255 : Int)) : Int)) (and255 y).1 (and255 y).2
 obtain ⟨b2, e2⟩ := key (BitVec.ofInt 32 (Int.fdiv x (2 ^ min ((16 : Int)).toNat 32)))
 rw [e2]
 simp only [Option.bind_some]
 rw [chk_of (by omega)]
 simp only [Option.bind_some]
 obtain ⟨b3, e3⟩ := key (BitVec.ofInt 32 (Int.fdiv x (2 ^ min ((8 : Int)).toNat 32)))
 rw [e3]
 simp only [Option.bind_some]
 obtain ⟨b4, e4⟩ := key (BitVec.ofInt 32 x)
 rw [e4]
 have := wu8_range ((wu8 ((wu8 (b1 + b2)) + b3)) + b4)
 exact ⟨_, rfl, by rw [wi64_of (by omega)]; omega, by rw [wi64_of (by omega)]; omega⟩
/-! The least cost of two lists of letters; the first alignment. -/
/-! Square tables. -/
def Sq (C : List (List Int)) : Prop := C.length = 65 /\ ∀ r ∈ C, r.length = 65
def set2 (C : List (List Int)) (p q : Nat) (v : Int) : List (List Int) := C.set p ((C.getD p []).set q v)
theorem Sq.row {C : List (List Int)} (h : Sq C) {p : Nat} (hp : p < 65) : (C.getD p []).length = 65 /\ at? C (p : Int) = some (C.getD p []) := by
 have hp' : p < C.length := by rw [h.1]; exact hp
 have e : C.getD p [] = C[p]'hp' := by simp [List.getD_eq_getElem?_getD, hp']
 rw [e]
 exact ⟨h.2 _ (List.getElem_mem hp'), at_lt hp'⟩
theorem Sq.set {C : List (List Int)} (h : Sq C) {p q : Nat} (hp : p < 65) (v : Int) : Sq (set2 C p q v) := by
 unfold set2
 refine ⟨by rw [List.length_set]; exact h.1, fun r hr => ?_⟩
 rcases List.mem_or_eq_of_mem_set hr with hr | hr
 ·exact h.2 r hr
 ·rw [hr, List.length_set]; exact (h.row hp).1
/-! The table filled. -/
abbrev Blk : Type := List Int × List Int × List (List Int) × List (List Int) × Unit
variable {go2 : Int -> Blk -> Option Blk} {x y : List Int} {i k : Nat} {b : Blk}
end Go.Ev
namespace Go.Ev
open Go
set_option linter.unusedVariables false
theorem RuneLen_tot (k : Nat) (r : Int) : Tot (zea k r) := by
 unfold zea unicode_utf8_RuneLen_j1
 exact tot_dec (fun _ => zhg _) fun _ => tot_dec (fun _ => zhg _) fun _ => tot_dec (fun _ => zhg _) fun _ => tot_ite (fun _ => zhg _) fun _ => tot_dec (fun _ => zhg _) fun _ => tot_dec (fun _ => zhg _) fun _ => zhg _
theorem lim_big : (1000000 : Nat) <= lim := by decide
theorem ranks_l1 (a : Alph) (h : a.2.1.length <= 128) : ∀ n i (m : List (Int × Int)), i <= a.2.1.length -> a.2.1.length - i < n -> (∀ r : Int, (mget (eqEl (.int .i32)) m r).isSome = true -> r ∈ a.2.1.map (·.1)) ->
  ∃ m', word_ranks_l1 a n (i : Int) m = some (some m', 0) /\ ∀ r : Int, (mget (eqEl (.int .i32)) m' r).isSome = true -> r ∈ a.2.1.map (·.1) := by
 intro n
 induction n with
 | zero => intro i m _ h; omega
 | succ n ih =>
  intro i m hi hn hm
  unfold word_ranks_l1 word_ranks_b1
  by_cases h : i < a.2.1.length
  ·rw [if_pos (by simp only [decide_eq_true_eq]; omega), at_lt h]; simp only [Option.bind_some]
   rw [zhf (by omega)]
   refine ih (i + 1) _ (by omega) (by omega) fun r hr => ?_
   have := mget_mset eqI32_iff (a.2.1[i]'h).1 r (i : Int) m
   by_cases e : r = (a.2.1[i]'h).1
   ·rw [e]; exact List.mem_map.2 ⟨_, List.getElem_mem h, rfl⟩
   ·exact hm r ((congrArg Option.isSome (this.2 e)).symm.trans hr)
  ·rw [if_neg (by simp only [decide_eq_true_eq]; omega)]
   exact ⟨m, rfl, hm⟩
theorem chkA_len {a : Alph} (h : chkA a = true) : a.1.length <= 24 /\ 1 <= a.2.1.length /\ a.2.1.length <= 128 := by
 refine Classical.byContradiction fun hn => ?_
 rw [chkA_out hn] at h
 cases h
end Go.Ev
namespace Go.Ev
open Go
set_option linter.unusedVariables false
theorem containsB_any (l : List Bool) (hl : l.length <= 70000) (v : Bool) : Tot (zdl 80000 l v) := by
 unfold zdl zdk
 refine zhh (tot_loop0 (L := zdj l v) (len := l.length) (by omega) ?_ 80000 0 (Nat.zero_le _) (by omega)) fun _ _ => zhg _
 intro n i hi go
 unfold zdj zdi
 exact tot_dec (fun h => zhh (tot_at (by omega)) fun _ _ => tot_ite (fun _ => zhg _) fun _ => go (by omega)) fun _ => zhg _
section lies
variable {c1 : List UInt8} {c2 : List Lt} {c3 : List Swp} {c4 c5 : List Node} {c6 : Int} {c7 : Bool} {m1 : Mp} {c8 : List (List UInt8)} {c9 : List Lt}
theorem lies_l2 {l1 : List Int} (hl : l1.length <= 39000) (hL : TreeOK c4) (hR : TreeOK c5) {at1 : Nat} (ha : at1 + c2.length <= l1.length) :
  ∀ n (i : Nat) (t : List Bool), i <= l1.length + 1 -> l1.length + 1 - i < n -> t.length = l1.length + 1 -> Has (zff 80000 l1 c4 c1 c2 c3 c5 c6 c7 m1 c8 c9 (at1 : Int) n (i : Int) t) fun v => ∃ b, v = (b, c1, c2, c3, c4, c5, c6, c7, m1, c8, c9) := by
 have hw : wi64 ((l1.length : Int) + 1) = ((l1.length + 1 : Nat) : Int) := zhf (by omega)
 intro n
 induction n with
 | zero => intro i t _ h; omega
 | succ n ih =>
  intro i t h1 h2 h3
  unfold zff rule_maker_lies_i1_b2
  rw [hw, Int.toNat_natCast, List.length_replicate]
  refine has_dec (fun hlt => ?_) fun _ => ?_
  ·refine has_at (by omega) fun _ _ => ?_
   rw [zhf (by omega)]
   exact ih (i + 1) _ (by omega) (by omega) (by rw [List.length_set]; exact h3)
  ·refine zhk (ends_ok hL rfl (by omega) h3) ?_
   rintro v ⟨o, rfl, ho⟩
   refine has_at (l := o) (by omega) fun _ _ => ?_
   refine has_ite (fun _ => zhj ⟨false, rfl⟩) fun _ => ?_
   have hw2 : wi64 ((at1 : Int) + (c2.length : Int)) = ((at1 + c2.length : Nat) : Int) := by rw [wi64_of (by omega)]; omega
   rw [hw2]
   refine has_at (l := List.replicate t.length false) (by rw [List.length_replicate]; omega) fun _ _ => ?_
   refine zhk (ends_ok (c1 := c5) (c2 := l1) (L := l1.length + 1) hR rfl (by omega) (l := List.set (List.replicate t.length false) ((at1 + c2.length : Nat) : Int).toNat true) (by rw [List.length_set, List.length_replicate]; exact h3)) ?_
   rintro v ⟨o2, rfl, ho2⟩
   refine zhk (has_tot (containsB_any o2 (by omega) true)) fun b _ => ?_
   exact zhj ⟨b, rfl⟩
theorem lies_l1 {l1 : List Int} (hl : l1.length <= 39000) (hL : TreeOK c4) (hR : TreeOK c5) (ht : c2.length <= 8) {at1 : Nat} (ha : at1 + c2.length <= l1.length) :
  ∀ n (i : Nat), i <= c2.length -> c2.length - i < n -> Has (zfg 80000 c2 l1 (at1 : Int) c1 c3 c4 c5 c6 c7 m1 c8 c9 n (i : Int)) fun v => ∃ b, v = (b, c1, c2, c3, c4, c5, c6, c7, m1, c8, c9) := by
 have hbl := big_lim
 have hw : wi64 ((l1.length : Int) + 1) = ((l1.length + 1 : Nat) : Int) := zhf (by omega)
 intro n
 induction n with
 | zero => intro i _ h; omega
 | succ n ih =>
  intro i h1 h2
  unfold zfg rule_maker_lies_i1_b1
  refine has_dec (fun hlt => ?_) fun _ => ?_
  ·refine has_at (by omega) fun x1 _ => ?_
   rw [show wi64 ((at1 : Int) + (i : Int)) = ((at1 + i : Nat) : Int) by rw [wi64_of (by omega)]; omega]
   refine has_at (by omega) fun x2 _ => ?_
   refine zhk (is_tot ..) fun b _ => ?_
   refine has_ite (fun _ => zhj ⟨false, rfl⟩) fun _ => ?_
   rw [zhf (by omega)]
   exact ih (i + 1) (by omega) (by omega)
  ·rw [hw]
   refine has_chk ⟨by omega, by omega, by omega⟩ ?_
   exact lies_l2 hl hL hR ha 80000 0 _ (Nat.zero_le _) (by omega) (by simp)
theorem lies_ok {l1 : List Int} (hl : l1.length <= 39000) (hL : TreeOK c4) (hR : TreeOK c5) (ht : c2.length <= 8) {at1 : Nat} (ha : at1 <= 100000) :
  Has (zfh 80000 l1 (at1 : Int) c1 c2 c3 c4 c5 c6 c7 m1 c8 c9) fun v => ∃ b, v = (b, c1, c2, c3, c4, c5, c6, c7, m1, c8, c9) /\ (b = true -> at1 + c2.length <= l1.length) := by
 unfold zfh
 rw [show wi64 ((at1 : Int) + (c2.length : Int)) = ((at1 + c2.length : Nat) : Int) by rw [wi64_of (by omega)]; omega]
 refine has_dec (fun _ => zhj ⟨false, rfl, fun h => nomatch h⟩) fun h => ?_
 have hh : at1 + c2.length <= l1.length := by omega
 exact has_mono (lies_l1 hl hL hR ht hh 80000 0 (Nat.zero_le _) (by omega)) fun v ⟨b, e⟩ => ⟨b, e, fun _ => hh⟩
end lies
theorem gb_dropF (s : List UInt8) (p i : Nat) : gb (s.drop p) i = gb s (p + i) := by
 unfold gb
 simp [List.getD_eq_getElem?_getD]
theorem g_dropF (s : List UInt8) (p i : Nat) : g (s.drop p) i = g s (p + i) := by
 unfold g
 simp only [gb_dropF, List.length_drop, <- Nat.add_assoc, Nat.sub_sub]
theorem decodeGo_dropF {s : List UInt8} {p : Nat} (h : p < s.length) : Lib.decodeGo ⟨(s.drop p).toArray⟩ = g s p := by
 unfold Lib.decodeGo
 rw [if_neg (by simp [ByteArray.size]; omega), decode_g, g_dropF]
 rfl
theorem decode_size {w : List UInt8} (h : w ≠ []) : ∃ r n : Nat, utf8_DecodeRuneInString 80000 w = some ((r : Int), (n : Int)) /\ 1 <= n /\ n <= w.length := by
 have hp : 0 < w.length := List.length_pos_iff.2 h
 refine ⟨(Lib.decodeGo ⟨w.toArray⟩).1, (Lib.decodeGo ⟨w.toArray⟩).2, rfl, ?_⟩
 have e : Lib.decodeGo ⟨w.toArray⟩ = g w 0 := by simpa using decodeGo_dropF (s := w) (p := 0) hp
 rw [e]
 have := g_size w 0 hp
 omega
theorem letters_l1 (a : Alph) : ∀ n (w : List UInt8) (out : List Int), out.length <= 256 -> 257 - out.length < n -> Has (zeh 80000 a n w out) fun v => v.1.length <= 256 := by
 have hbl := zhl
 intro n
 induction n with
 | zero => intro w out _ h; omega
 | succ n ih =>
  intro w out h1 h2
  unfold zeh rule_letters_b1
  refine has_ite (fun hne => ?_) fun _ => zhj h1
  have hne' : w ≠ [] := by rintro rfl; simp at hne
  obtain ⟨r, m, e, hm, hm2⟩ := decode_size hne'
  rw [e, Option.bind_some]
  unfold rule_letters_j1
  refine has_ite (fun _ => zhj (Nat.zero_le _)) fun _ => ?_
  refine zhk (has_tot (letter_tot _ _)) fun v _ => ?_
  refine has_ite (fun _ => zhj (Nat.zero_le _)) fun _ => ?_
  refine has_ite (fun _ => zhj (Nat.zero_le _)) fun h256 => ?_
  have hl : out.length ≠ 256 := by
   intro q
   simp [q] at h256
  refine has_chk (by simp only [List.length_cons, List.length_nil]; omega) ?_
  rw [sub_suf hm2, Option.bind_some]
  exact ih _ _ (by simp only [List.length_append, List.length_cons, List.length_nil]; omega) (by simp only [List.length_append, List.length_cons, List.length_nil]; omega)
theorem letters_ok (a : Alph) (w : List UInt8) : Has (rule_letters 80000 a w) fun v => v.1.length <= 256 := by
 unfold rule_letters
 exact letters_l1 a 80000 w [] (Nat.zero_le _) (by simp)
theorem letters_i1_l1 (a : Alph) : ∀ n (w : List UInt8) (out : List Int), out.length <= 256 -> 257 - out.length < n -> Has (zfj 80000 a n w out) fun v => v.2.length <= 256 := by
 have hbl := zhl
 intro n
 induction n with
 | zero => intro w out _ h; omega
 | succ n ih =>
  intro w out h1 h2
  unfold zfj rule_letters_i1_b1
  refine has_ite (fun hne => ?_) fun _ => zhj h1
  have hne' : w ≠ [] := by rintro rfl; simp at hne
  obtain ⟨r, m, e, hm, hm2⟩ := decode_size hne'
  rw [e, Option.bind_some]
  unfold rule_letters_i1_j1
  refine has_ite (fun _ => zhj (Nat.zero_le _)) fun _ => ?_
  refine zhk (has_tot (letter_tot _ _)) fun v _ => ?_
  refine has_ite (fun _ => zhj (Nat.zero_le _)) fun _ => ?_
  refine has_ite (fun _ => zhj (Nat.zero_le _)) fun h256 => ?_
  have hl : out.length ≠ 256 := by
   intro q
   simp [q] at h256
  refine has_chk (by simp only [List.length_cons, List.length_nil]; omega) ?_
  rw [sub_suf hm2, Option.bind_some]
  exact ih _ _ (by simp only [List.length_append, List.length_cons, List.length_nil]; omega) (by simp only [List.length_append, List.length_cons, List.length_nil]; omega)
theorem letters_i1_ok (a : Alph) (w : List UInt8) : Has (zfk 80000 a w) fun v => v.2.length <= 256 := by
 unfold zfk
 exact letters_i1_l1 a 80000 w [] (Nat.zero_le _) (by simp)
theorem Class_l1 (a : Alph) (p m : Int) (h : a.2.1.length <= 128) : ∀ n (i : Nat) (out : List Int), i <= a.2.1.length -> a.2.1.length - i < n -> out.length <= i -> Has (zej 80000 a p m n (i : Int) out) fun v => v.1.length <= 128 := by
 have hbl := zhl
 intro n
 induction n with
 | zero => intro i out _ h; omega
 | succ n ih =>
  intro i out h1 h2 h3
  unfold zej feature_Class_b1
  refine has_dec (fun hlt => ?_) fun _ => zhj (by show out.length <= 128; omega)
  refine has_at (by omega) fun x1 _ => ?_
  unfold feature_like feature_like_j1 zei
  rw [Option.bind_some, zhf (by omega)]
  refine has_ite (fun _ => ?_) fun _ => ih (i + 1) _ (by omega) (by omega) (by omega)
  refine has_chk (by simp only [List.length_cons, List.length_nil]; omega) ?_
  exact ih (i + 1) _ (by omega) (by omega) (by simp only [List.length_append, List.length_cons, List.length_nil]; omega)
theorem Class_ok (a : Alph) (p m : Int) : Has (feature_Class 80000 a p m) fun v => v.1.length <= 128 := by
 unfold feature_Class
 obtain ⟨e, he, hf⟩ := zhi (a.1, a.2.1, ())
 rw [he, Option.bind_some]
 refine has_ite (fun _ => zhj (Nat.zero_le _)) fun h0 => ?_
 have hl := (hf (by simpa using h0)).2.1
 refine zhk (has_tot (within_tot ..)) fun v _ => ?_
 refine has_ite (fun _ => zhj (Nat.zero_le _)) fun _ => ?_
 exact Class_l1 a p m hl 80000 0 [] (Nat.zero_le _) (by have : a.2.1.length <= 128 := hl; omega) (Nat.zero_le _)
theorem ready_c1 (p m : Int) (c1 : List (List UInt8)) (c2 : List Lt) (c3 : List UInt8) (c4 : List Lt) (c5 : List Swp) (c6 c7 : List Node) (c8 : Int) (c9 : Bool) (m1 : Mp) : Has (zel 80000 p m c1 c2 c3 c4 c5 c6 c7 c8 c9 m1) fun _ => True := by
 unfold zel
 refine zhk (Class_ok _ _ _) fun v1 hv => ?_
 have : ∀ n (i : Nat) (s : List (Int × Bool)), i <= v1.1.length -> v1.1.length - i < n -> Has (zek v1 m1 p m n (i : Int) s) fun _ => True := by
  intro n
  induction n with
  | zero => intro i s _ h; omega
  | succ n ih =>
   intro i s h1 h2
   unfold zek rule_ready_c1_i1_b1
   refine has_dec (fun hlt => ?_) fun _ => zhj trivial
   refine has_at (by omega) fun x1 _ => ?_
   rw [zhf (by omega)]
   exact ih (i + 1) _ (by omega) (by omega)
 exact this 80000 0 [] (Nat.zero_le _) (by omega)
abbrev RdyT : Type := List (List UInt8) × List Lt × Mp × List UInt8 × List Lt × List Swp × List Node × List Node × Int × Bool
theorem ready_l3 {x2 : Pat} (hx : x2.1.length <= 1000) {a4 : List (List UInt8)} {a5 : List Lt} {t10 : List UInt8} {t11 : List Lt} {t12 : List Swp} {t13 t14 : List Node} {t15 : Int} {t16 : Bool}
  {go2 : Int -> List (List UInt8) -> List Lt -> Mp -> List UInt8 -> List Lt -> List Swp -> List Node -> List Node -> Int -> Bool -> List Pat -> Option RdyT} {t9 : Int} {t17 : List Pat} {P : RdyT -> Prop}
  (hg : ∀ m : Mp, Has (go2 (wi64 (t9 + 1)) a4 a5 m t10 t11 t12 t13 t14 t15 t16 t17) P) :
  ∀ n (i : Nat) (m : Mp), i <= x2.1.length -> x2.1.length - i < n -> Has (zem 80000 x2 a4 a5 t10 t11 t12 t13 t14 t15 t16 go2 t9 t17 n (i : Int) m) P := by
 intro n
 induction n with
 | zero => intro i s _ h; omega
 | succ n ih =>
  intro i m h1 h2
  unfold zem rule_ready_i1_b3
  refine has_dec (fun hlt => ?_) fun _ => hg m
  refine has_at (by omega) fun x3 _ => ?_
  refine zhk (ready_c1 ..) fun v2 _ => ?_
  rw [zhf (by omega)]
  exact ih (i + 1) _ (by omega) (by omega)
theorem ready_l2 {r : Rul} (hl : r.2.2.2.1.1.length <= 1000) (hr : r.2.2.2.2.1.1.length <= 1000) {a4 : List (List UInt8)} {a5 : List Lt} {t10 : List UInt8} {t11 : List Lt} {t12 : List Swp} {t13 t14 : List Node} {t15 : Int} {t16 : Bool} :
  ∀ n (i : Nat) (m : Mp), i <= 2 -> 2 - i < n -> Has (zen 80000 r n (i : Int) a4 a5 m t10 t11 t12 t13 t14 t15 t16 [(r.2.2.2.1.1, ()), (r.2.2.2.2.1.1, ())]) fun v => ∃ m, v = (a4, a5, m, t10, t11, t12, t13, t14, t15, t16) := by
 intro n
 induction n with
 | zero => intro i s _ h; omega
 | succ n ih =>
  intro i m h1 h2
  unfold zen rule_ready_i1_b2
  refine has_dec (fun hlt => ?_) fun _ => zhj ⟨m, rfl⟩
  have hlt' : i < 2 := by simp only [List.length_cons, List.length_nil] at hlt; omega
  refine has_at (by simp only [List.length_cons, List.length_nil]; omega) fun x2 hx => ?_
  have hx2 : x2.1.length <= 1000 := by
   have hm : x2 ∈ [(r.2.2.2.1.1, ()), (r.2.2.2.2.1.1, ())] := hx ▸ List.getElem_mem _
   simp only [List.mem_cons, List.not_mem_nil, or_false] at hm
   rcases hm with rfl | rfl
   ·exact hl
   ·exact hr
  refine ready_l3 hx2 (fun m' => ?_) 80000 0 m (Nat.zero_le _) (by omega)
  rw [zhf (by omega)]
  exact ih (i + 1) m' (by omega) (by omega)
theorem ready_ok (a : Alph) {r : Rul} (ht : r.2.1.length <= 8) (hl : r.2.2.2.1.1.length <= 1000) (hr : r.2.2.2.2.1.1.length <= 1000) :
  Has (zep 80000 a r) fun v => ∃ m, v = (a.1, a.2.1, m, r.1, r.2.1, r.2.2.1, r.2.2.2.1.1, r.2.2.2.2.1.1, r.2.2.2.2.2.1, r.2.2.2.2.2.2.1) := by
 unfold zep
 have : ∀ n (i : Nat) (m : Mp), i <= r.2.1.length -> r.2.1.length - i < n -> Has (zeo 80000 r a n (i : Int) m) fun v => ∃ m, v = (a.1, a.2.1, m, r.1, r.2.1, r.2.2.1, r.2.2.2.1.1, r.2.2.2.2.1.1, r.2.2.2.2.2.1, r.2.2.2.2.2.2.1) := by
  intro n
  induction n with
  | zero => intro i s _ h; omega
  | succ n ih =>
   intro i m h1 h2
   unfold zeo rule_ready_i1_b1
   refine has_dec (fun hlt => ?_) fun _ => ready_l2 hl hr 80000 0 m (Nat.zero_le _) (by omega)
   refine has_at (by omega) fun x1 _ => ?_
   refine zhk (ready_c1 ..) fun v _ => ?_
   rw [zhf (by omega)]
   exact ih (i + 1) _ (by omega) (by omega)
 exact this 80000 0 [] (Nat.zero_le _) (by omega)
end Go.Ev
namespace Go.Ev
open Go
set_option linter.unusedVariables false
def kidsOf (ns : List Node) (n : Nat) : List Int := (ns.take n).flatMap fun x => x.2.2.2.2.1
def TreeU (ns : List Node) : Prop := TreeOK ns /\ ns.length <= 256 /\ (kidsOf ns ns.length).Nodup
def NodeF (ns : List Node) (i : Nat) : Prop := ∀ (h : i < ns.length), (∀ k ∈ (ns[i]'h).2.2.2.2.1, (i : Int) < k /\ k < (ns.length : Int)) /\ ((ns[i]'h).1 = 8 \/ (ns[i]'h).1 = 9 -> (ns[i]'h).2.2.2.2.1.length = 1)
structure Seen (N : Nat) (V : List Int) (t : List Bool) : Prop where
 len : t.length = N
 nd : V.Nodup
 flag : ∀ k ∈ V, 0 <= k /\ t[k.toNat]? = some true
 count : V.length + t.count false = N
theorem Seen.add {N : Nat} {V : List Int} {t : List Bool} (h : Seen N V t) {m : Nat} (hm : m < t.length) (hf : t[m]'hm = false) : Seen N (V ++ [(m : Int)]) (t.set m true) := by
 have hn : ((m : Nat) : Int) ∉ V := fun q => by
  have := (h.flag _ q).2
  rw [Int.toNat_natCast, List.getElem?_eq_getElem hm, hf] at this
  cases this
 refine ⟨by rw [List.length_set]; exact h.len, ?_, ?_, ?_⟩
 ·rw [List.nodup_append]
  exact ⟨h.nd, by simp, fun a ha b hb e => by simp at hb; exact hn (by rw [<- hb, <- e]; exact ha)⟩
 ·intro k hk
  rcases List.mem_append.1 hk with hk | hk
  ·have := h.flag k hk
   refine ⟨this.1, ?_⟩
   rw [List.getElem?_set]
   by_cases e : m = k.toNat
   ·rw [if_pos e, if_pos hm]
   ·rw [if_neg e]; exact this.2
  ·simp at hk
   subst hk
   exact ⟨by omega, by rw [Int.toNat_natCast, List.getElem?_set_self hm]⟩
 ·have := count_set_true hm hf
  have := h.count
  simp only [List.length_append, List.length_cons, List.length_nil]
  omega
theorem kidsOf_succ {ns : List Node} {i : Nat} (h : i < ns.length) : kidsOf ns (i + 1) = kidsOf ns i ++ (ns[i]'h).2.2.2.2.1 := by
 unfold kidsOf
 rw [List.take_succ_eq_append_getElem h, List.flatMap_append]
 simp
theorem treeU_l2 {p : Pat} {i : Nat} (hi : i < p.1.length) {x : Node} (hx : p.1[i]'hi = x) (hN : p.1.length <= 256) {go : Int -> List Bool -> Option Bool} {Q : Bool -> Prop} (hQ : Q false)
  (hg : ∀ t, Seen p.1.length (kidsOf p.1 (i + 1)) t -> (∀ k ∈ x.2.2.2.2.1, (i : Int) < k /\ k < (p.1.length : Int)) -> Has (go (wi64 ((i : Int) + 1)) t) Q) :
  ∀ n (j : Nat) (t : List Bool), j <= x.2.2.2.2.1.length -> t.count false < n -> Seen p.1.length (kidsOf p.1 i ++ x.2.2.2.2.1.take j) t -> (∀ k ∈ x.2.2.2.2.1.take j, (i : Int) < k /\ k < (p.1.length : Int)) ->
   Has (zdn x (i : Int) p go n (j : Int) t) Q := by
 intro n
 induction n with
 | zero => intro j t _ h; omega
 | succ n ih =>
  intro j t h1 h2 h3 h4
  have hc := h3.count
  simp only [List.length_append, List.length_take] at hc
  unfold zdn pattern_tree_b2
  refine has_dec (fun hlt => ?_) fun hnl => ?_
  ·have hj : j < x.2.2.2.2.1.length := by omega
   refine has_at hj fun y hy => ?_
   unfold pattern_tree_j5 zdm
   refine has_ite (fun _ => has_ite (fun _ => zhj hQ) fun q => nomatch q) fun hb => ?_
   simp only [Bool.or_eq_false_iff, decide_eq_false_iff_not] at hb
   obtain ⟨m, rfl⟩ : ∃ m : Nat, y = (m : Int) := ⟨y.toNat, by omega⟩
   have hm : m < t.length := by have := h3.len; omega
   refine has_at hm fun f hf => ?_
   refine has_ite (fun _ => zhj hQ) fun hff => ?_
   refine has_at hm fun _ _ => ?_
   subst hff
   rw [zhf (by omega), Int.toNat_natCast]
   have ht : x.2.2.2.2.1.take (j + 1) = x.2.2.2.2.1.take j ++ [(m : Int)] := by rw [List.take_succ_eq_append_getElem hj, hy]
   have hcs := count_set_true hm hf
   refine ih (j + 1) (t.set m true) hj (by omega) (by rw [ht, <- List.append_assoc]; exact h3.add hm hf) ?_
   intro k hk
   rw [ht] at hk
   rcases List.mem_append.1 hk with hk | hk
   ·exact h4 k hk
   ·simp at hk
    omega
  ·have hj : j = x.2.2.2.2.1.length := by omega
   subst hj
   rw [List.take_length] at h3 h4
   refine hg t ?_ h4
   rw [kidsOf_succ hi, hx]
   exact h3
theorem tree_U (p : Pat) : Has (zdu 80000 p) fun b => b = true -> TreeU p.1 := by
 unfold zdu
 by_cases hb : (decide ((p.1.length : Int) < 1) || decide ((256 : Int) < (p.1.length : Int))) = true
 ·rw [hb]
  exact ⟨false, rfl, fun q => by cases q⟩
 ·rw [Bool.eq_false_iff.2 hb]
  simp only [Bool.or_eq_true, decide_eq_true_eq] at hb
  have h1 : 1 <= p.1.length := by omega
  have h2 : p.1.length <= 256 := by omega
  have hbl := big_lim
  unfold pattern_tree_j1
  rw [if_neg (by simp)]
  refine has_chk ⟨by omega, by omega, by omega⟩ ?_
  rw [Int.toNat_natCast]
  have main : ∀ n (i : Nat) (t : List Bool), i <= p.1.length -> p.1.length - i < n -> Seen p.1.length (kidsOf p.1 i) t -> (∀ j, j < i -> NodeF p.1 j) -> Has (zdt 80000 p n (i : Int) t) fun b => b = true -> TreeU p.1 := by
   intro n
   induction n with
   | zero => intro i t _ h; omega
   | succ n ih =>
    intro i t hi hn hs hF
    have hNc := hs.count
    unfold zdt pattern_tree_b1
    refine has_dec (fun hlt => ?_) fun hnl => ?_
    ·have hi' : i < p.1.length := by omega
     refine has_at hi' fun x hx => ?_
     have j4 : (x.1 = 8 \/ x.1 = 9 -> x.2.2.2.2.1.length = 1) -> ∀ b, Has (zdo 80000 x (i : Int) p (zdt 80000 p n) t b) fun b => b = true -> TreeU p.1 := fun hk b => by
      unfold zdo
      refine has_ite (fun _ => zhj fun q => nomatch q) fun _ => ?_
      have hcf : t.count false <= t.length := List.count_le_length
      have hsl := hs.len
      refine treeU_l2 hi' hx h2 (fun q => nomatch q) (fun t' ht' hr => ?_) 80000 0 t (Nat.zero_le _) (by omega) (by simpa using hs) (by simp)
      rw [zhf (by omega)]
      refine ih (i + 1) t' hi' (by omega) ht' fun j hj => ?_
      by_cases e : j = i
      ·subst e
       intro hh
       rw [hx]
       exact ⟨hr, hk⟩
      ·exact hF j (by omega)
     have j2 : (x.1 = 8 \/ x.1 = 9 -> x.2.2.2.2.1.length = 1) -> Has (zdp 80000 x (i : Int) p (zdt 80000 p n) t) fun b => b = true -> TreeU p.1 := fun hk => by
      unfold zdp pattern_tree_j3
      exact has_ite (fun _ => j4 hk _) fun _ => j4 hk _
     have j10 : ∀ c : Int, c ≠ 8 -> c ≠ 9 -> Has (zdq 80000 x (i : Int) p (zdt 80000 p n) t (x.1 == c)) fun b => b = true -> TreeU p.1 := fun c h8 h9 => by
      unfold zdq
      refine has_ite (fun e => has_ite (fun _ => zhj fun q => nomatch q) fun _ => j2 fun q => ?_) fun _ => zhj fun q => nomatch q
      have : x.1 = c := by simpa using e
      omega
     have j9 : ∀ c : Int, Has (zdr 80000 x (i : Int) p (zdt 80000 p n) t (x.1 == c)) fun b => b = true -> TreeU p.1 := fun c => by
      unfold zdr
      refine has_ite (fun _ => has_ite (fun _ => zhj fun q => nomatch q) fun hl => j2 fun _ => ?_) fun _ => ?_
      ·have : ¬ ((x.2.2.2.2.1.length : Int) ≠ 1) := by simpa using hl
       omega
      ·exact has_ite (fun _ => j10 1 (by decide) (by decide)) fun _ => has_ite (fun _ => j10 2 (by decide) (by decide)) fun _ => has_ite (fun _ => j10 3 (by decide) (by decide)) fun _ => has_ite (fun _ => j10 4 (by decide) (by decide)) fun _ => j10 5 (by decide) (by decide)
     have j8 : ∀ c : Int, c ≠ 8 -> c ≠ 9 -> Has (zds 80000 x (i : Int) p (zdt 80000 p n) t (x.1 == c)) fun b => b = true -> TreeU p.1 := fun c h8 h9 => by
      unfold zds
      refine has_ite (fun e => j2 fun q => ?_) fun _ => has_ite (fun _ => j9 8) fun _ => j9 9
      have : x.1 = c := by simpa using e
      omega
     exact has_ite (fun _ => j8 6 (by decide) (by decide)) fun _ => j8 7 (by decide) (by decide)
    ·have hi' : i = p.1.length := by omega
     subst hi'
     have hsl := hs.len
     rw [show (1 : Int) = ((1 : Nat) : Int) from rfl, sub_suf (by omega), Option.bind_some]
     refine zhk (has_tot (containsB_tot _ (by rw [List.length_drop]; omega) _)) fun b _ => zhj fun _ => ?_
     have hkl : ∀ (j : Nat) (h : j < p.1.length), (p.1[j]'h).2.2.2.2.1.length <= 1000 := by
      intro j h
      have hle : (p.1[j]'h).2.2.2.2.1.length <= (kidsOf p.1 p.1.length).length := by
       unfold kidsOf
       rw [List.take_length]
       have hm : p.1[j]'h ∈ p.1 := List.getElem_mem _
       generalize p.1[j]'h = y at hm
       generalize p.1 = l at hm
       induction l with
       | nil => cases hm
       | cons z l ih2 =>
        rw [List.flatMap_cons, List.length_append]
        rcases List.mem_cons.1 hm with rfl | hm
        ·omega
        ·have := ih2 hm
         omega
      omega
     refine ⟨⟨h1, by omega, fun j h => ?_⟩, h2, hs.nd⟩
     have := hF j h h
     refine ⟨this.1, fun q => ?_, hkl j h⟩
     have := this.2 q
     intro e
     rw [e] at this
     cases this
  refine main 80000 0 _ (Nat.zero_le _) (by omega) ?_ (fun j hj => by omega)
  refine ⟨by simp, by simp [kidsOf], by simp [kidsOf], ?_⟩
  simp [kidsOf, List.count_replicate]
theorem patCheck_U (a : Alph) (p : Pat) : Has (zdx 80000 a p) fun e => e = 0 -> TreeU p.1 /\ zdu 80000 (p.1, ()) = some true := by
 unfold zdx
 obtain ⟨e, he, _⟩ := zhi (a.1, a.2.1, ())
 rw [he, Option.bind_some]
 refine has_ite (fun h => zhj fun q => ?_) fun _ => ?_
 ·subst q
  simp at h
 obtain ⟨b, eb, hb⟩ := tree_U (p.1, ())
 rw [eb, Option.bind_some]
 refine has_ite (fun _ => zhj fun q => nomatch q) fun h => ?_
 have hbt : b = true := by simpa using h
 have hT : TreeU p.1 := hb hbt
 have hl := hT.2.1
 have : Tot (zdw 80000 p a 80000 0) := by
  refine tot_loop0 (L := zdw 80000 p a) (len := p.1.length) (by omega) ?_ 80000 0 (Nat.zero_le _) (by omega)
  intro n i hi go
  unfold zdw pattern_Check_b1 zdv
  exact tot_dec (fun hlt => zhh (tot_at (by omega)) fun x _ => tot_ite (fun _ => zhh (Of_tot _ _) fun _ _ => tot_ite (fun _ => zhg _) fun _ => go (by omega))
   fun _ => tot_ite (fun _ => zhh (Text_tot _ _ _) fun _ _ => tot_ite (fun _ => zhg _) fun _ => go (by omega)) fun _ => go (by omega)) fun _ => zhg _
 exact has_mono (has_tot this) fun _ _ _ => ⟨hT, by rw [hbt]⟩
theorem swap_U (a : Alph) (s : Swp) (n : Int) : Has (rule_swap 80000 a s n) fun b => b = true -> s.1 = 0 -> 0 <= s.2.1 /\ s.2.1 < n := by
 unfold rule_swap rule_swap_j1 zdh
 refine has_ite (fun _ => ?_) fun _ => ?_
 ·rw [if_pos rfl]
  exact zhj fun q => nomatch q
 refine has_ite (fun h0 => ?_) fun h0 => ?_
 ·unfold rule_swap_j4 rule_swap_j3 zdh
  refine has_ite (fun _ => zhj fun q => nomatch q) fun hc => ?_
  simp only [Bool.or_eq_false_iff, decide_eq_false_iff_not] at hc
  refine zhk (has_tot (either_tot ..)) fun b _ => zhj fun _ _ => ?_
  omega
 ·unfold rule_swap_j3 zdh
  rw [if_neg (by simp)]
  refine zhk (has_tot (either_tot ..)) fun b _ => zhj fun _ q => ?_
  rw [q] at h0
  cases h0
structure RuleOK (a : Alph) (r : Rul) : Prop where
 alph : chkA a = true
 target : r.2.1.length <= 8
 into : r.2.2.1.length <= 8
 from_ : ∀ s ∈ r.2.2.1, s.1 = 0 -> 0 <= s.2.1 /\ s.2.1 < (r.2.1.length : Int)
 left : TreeU r.2.2.2.1.1
 right : TreeU r.2.2.2.2.1.1
 leftT : zdu 80000 (r.2.2.2.1.1, ()) = some true
 rightT : zdu 80000 (r.2.2.2.2.1.1, ()) = some true
theorem ruleCheck_U (a : Alph) (r : Rul) : Has (rule_Check 80000 a r) fun e => e = 0 -> RuleOK a r := by
 unfold rule_Check
 rw [show zcw 80000 ((a.1, a.2.1, ()) : Alph) = some (if chkA a then 0 else 7) from featCheck_val a, Option.bind_some]
 refine has_ite (fun h => zhj fun q => ?_) fun h => ?_
 ·rw [q] at h
  cases h
 have ha : chkA a = true := by
  cases hq : chkA a with
  | true => rfl
  | false => rw [hq] at h; cases h
 refine zhk (has_tot (ruleNamed_tot _)) fun v _ => ?_
 unfold rule_Check_j1 rule_Check_j2 rule_Check_j3 rule_Check_j4 rule_Check_j5
 refine has_ite (fun _ => zhj fun q => nomatch q) fun hc => ?_
 simp only [Bool.or_eq_false_iff, decide_eq_false_iff_not] at hc
 have h1 : r.2.1.length <= 8 := by omega
 have h2 : r.2.2.1.length <= 8 := by omega
 have l2 : ∀ n (i : Nat), i <= r.2.2.1.length -> r.2.2.1.length - i < n -> (∀ s ∈ r.2.2.1.take i, s.1 = 0 -> 0 <= s.2.1 /\ s.2.1 < (r.2.1.length : Int)) -> Has (zdz 80000 r a n (i : Int)) fun e => e = 0 -> RuleOK a r := by
  intro n
  induction n with
  | zero => intro i _ h; omega
  | succ n ih =>
   intro i hi hn hF
   unfold zdz rule_Check_b2
   refine has_dec (fun hlt => ?_) fun hnl => ?_
   ·have hi' : i < r.2.2.1.length := by omega
    refine has_at hi' fun x hx => ?_
    refine zhk (swap_U _ _ _) fun b hb => ?_
    refine has_ite (fun _ => zhj fun q => nomatch q) fun hbt => ?_
    rw [zhf (by omega)]
    refine ih (i + 1) hi' (by omega) fun s hs => ?_
    rw [List.take_succ_eq_append_getElem hi', hx] at hs
    rcases List.mem_append.1 hs with hs | hs
    ·exact hF s hs
    ·simp only [List.mem_cons, List.not_mem_nil, or_false] at hs
     subst hs
     exact hb (by simpa using hbt)
   ·have : i = r.2.2.1.length := by omega
    subst this
    rw [List.take_length] at hF
    refine zhk (patCheck_U a (r.2.2.2.1.1, ())) fun v5 h5 => ?_
    unfold zdy
    refine has_ite (fun _ => ?_) fun e5 => ?_
    ·rw [if_pos rfl]
     exact zhj fun q => nomatch q
    refine zhk (patCheck_U a (r.2.2.2.2.1.1, ())) fun v6 h6 => ?_
    refine has_ite (fun _ => zhj fun q => nomatch q) fun e6 => zhj fun _ => ?_
    exact ⟨ha, h1, h2, hF, (h5 (by simpa using e5)).1, (h6 (by simpa using e6)).1, (h5 (by simpa using e5)).2, (h6 (by simpa using e6)).2⟩
 have l1 : ∀ n (i : Nat), i <= r.2.1.length -> r.2.1.length - i < n -> Has (zd0 80000 r a n (i : Int)) fun e => e = 0 -> RuleOK a r := by
  intro n
  induction n with
  | zero => intro i _ h; omega
  | succ n ih =>
   intro i hi hn
   unfold zd0 rule_Check_b1
   refine has_dec (fun hlt => ?_) fun _ => l2 80000 0 (Nat.zero_le _) (by omega) (by simp)
   refine has_at (by omega) fun x hx => ?_
   refine zhk (has_tot (either_tot ..)) fun b _ => ?_
   refine has_ite (fun _ => zhj fun q => nomatch q) fun _ => ?_
   rw [zhf (by omega)]
   exact ih (i + 1) (by omega) (by omega)
 exact l1 80000 0 (Nat.zero_le _) (by omega)
/-! A word's places, and what is wrong with laws and a word. -/
theorem places_l1 {v2 : List Int × Int} {r1 : Rul} (hv : v2.1.length <= 256) {t2 : List (List UInt8)} {t3 : List Lt} {t4 : List UInt8} {t5 : List Lt} {t6 : List Swp} {t7 t8 : List Node} {t9 : Int} {t10 : Bool} (hL : TreeOK t7) (hR : TreeOK t8) (h5 : t5.length <= 8) (m : Mp) :
  ∀ n (i : Nat) (out : List (Int × Int × Unit)), i <= v2.1.length + 1 -> v2.1.length + 1 - i < n -> out.length <= i -> Has (zfi 80000 v2 r1 n (i : Int) t2 t3 t4 t5 t6 t7 t8 t9 t10 m out) fun _ => True := by
 have hbl := zhl
 intro n
 induction n with
 | zero => intro i out _ h; omega
 | succ n ih =>
  intro i out h1 h2 h3
  unfold zfi rule_Places_b1
  rw [zhf (by omega)]
  refine has_dec (fun hlt => ?_) fun _ => zhj trivial
  refine zhk (lies_ok (by omega) hL hR h5 (by omega)) ?_
  rintro v ⟨b, rfl, _⟩
  unfold rule_Places_j1
  rw [zhf (by omega)]
  refine has_ite (fun _ => ?_) fun _ => ih (i + 1) _ (by omega) (by omega) (by omega)
  refine has_chk (by simp only [List.length_cons, List.length_nil]; omega) ?_
  exact ih (i + 1) _ (by omega) (by omega) (by simp only [List.length_append, List.length_cons, List.length_nil]; omega)
theorem places_ok (a : Alph) (r : Rul) (w : List UInt8) : Has (rule_Places 80000 a r w) fun _ => True := by
 unfold rule_Places
 refine zhk (ruleCheck_U a r) fun v1 hv => ?_
 refine has_ite (fun _ => zhj trivial) fun h0 => ?_
 have hR := hv (by simpa using h0)
 refine zhk (letters_ok a w) fun v2 hv2 => ?_
 refine has_ite (fun _ => zhj trivial) fun _ => ?_
 refine zhk (ready_ok a hR.target hR.left.1.2.1 hR.right.1.2.1) ?_
 rintro v ⟨m, rfl⟩
 exact places_l1 hv2 hR.left.1 hR.right.1 hR.target m 80000 0 [] (Nat.zero_le _) (by omega) (Nat.zero_le _)
theorem worded_ok (a : Alph) (ha : chkA a = true) (w : List UInt8) : Has (law_worded 80000 a w) fun _ => True := by
 unfold law_worded law_nothing
 have hl := chkA_len ha
 refine zhk (Q := fun _ => True) ?_ fun v _ => zhk (places_ok a v w) fun _ _ => zhj trivial
 exact has_at (i := 0) (by show 0 < a.2.1.length; omega) fun x _ => zhj trivial
end Go.Ev
namespace Go.Ev
open Go
set_option linter.unusedVariables false
theorem unlike_tot (k : Nat) (x y : Lt) : Tot (zef k x y) := by
 unfold zef
 obtain ⟨v, e, _⟩ := ones_tot k _ (wu32_range (BitVec.toNat (BitVec.ofInt 32 (wu32 (BitVec.toNat (BitVec.ofInt 32 x.2.1 ^^^ BitVec.ofInt 32 y.2.1))) ||| BitVec.ofInt 32 (wu32 (BitVec.toNat (BitVec.ofInt 32 x.2.2.1 ^^^ BitVec.ofInt 32 y.2.2.1)))) : Int)).1 (wu32_range _).2
 rw [e]
 exact ⟨v, rfl⟩
theorem minf_l1 {x1 : List Lt} (c : Lt × Unit) (hl : x1.length <= 128) : ∀ n (i : Nat) (m1 m2 m3 : Int), i <= x1.length -> x1.length - i < n -> Has (zft 80000 x1 c n (i : Int) m1 m2 m3) fun _ => True := by
 intro n
 induction n with
 | zero => intro i _ _ _ _ h; omega
 | succ n ih =>
  intro i m1 m2 m3 h1 h2
  unfold zft zfs
  refine has_dec (fun hlt => ?_) fun _ => zhj trivial
  refine has_at (by omega) fun x3 _ => ?_
  unfold feature_Near_c1 zfr
  rw [zhf (by omega)]
  refine zhk (Q := fun _ => True) (zhk (has_tot (unlike_tot ..)) fun _ _ => zhk (has_tot (unlike_tot ..)) fun _ _ => zhj trivial) fun v _ => ?_
  exact has_dec (fun _ => ih (i + 1) _ _ _ (by omega) (by omega)) fun _ => ih (i + 1) _ _ _ (by omega) (by omega)
theorem near_ok (a : Alph) (ha : chkA a = true) (r p m : Int) : Has (feature_Near 80000 a r p m) fun _ => True := by
 have hl := chkA_len ha
 unfold feature_Near
 refine zhk (has_tot (Of_tot ..)) fun v1 _ => ?_
 refine has_ite (fun _ => zhj trivial) fun _ => ?_
 refine zhk (has_tot (within_tot ..)) fun v2 _ => ?_
 refine has_ite (fun _ => zhj trivial) fun _ => ?_
 refine zhk (Q := fun _ => True) ?_ fun _ _ => zhj trivial
 unfold zfu
 refine has_dec (fun h => by omega) fun _ => ?_
 exact has_at (i := 0) (by omega) fun x _ => minf_l1 _ hl.2.2 80000 1 _ _ _ hl.2.1 (by omega)
theorem into_l1 {c3 : List Swp} {found : List Int} {c8 : List (List UInt8)} {c9 : List Lt} (ha : chkA (c8, c9, ()) = true) (h8 : c3.length <= 8) (hf : ∀ s ∈ c3, s.1 = 0 -> 0 <= s.2.1 /\ s.2.1 < (found.length : Int)) :
  ∀ n (i : Nat) (out : List Int), i <= c3.length -> c3.length - i < n -> out.length <= i -> Has (zfw 80000 c3 found c8 c9 n (i : Int) out) fun o => o.length <= 8 := by
 have hbl := zhl
 intro n
 induction n with
 | zero => intro i _ _ h; omega
 | succ n ih =>
  intro i out h1 h2 h3
  unfold zfw rule_maker_into_i1_b1
  refine has_dec (fun hlt => ?_) fun _ => zhj (by omega)
  refine has_at (by omega) fun x1 hx => ?_
  unfold zfv
  rw [zhf (by omega)]
  refine has_ite (fun _ => ?_) fun h0 => ?_
  ·refine has_chk (by simp only [List.length_cons, List.length_nil]; omega) ?_
   exact ih (i + 1) _ (by omega) (by omega) (by simp only [List.length_append, List.length_cons, List.length_nil]; omega)
  ·have hx0 := hf x1 (hx ▸ List.getElem_mem _) (by simpa using h0)
   refine has_atI hx0.1 hx0.2 fun x2 _ => ?_
   unfold rule_ready_c2
   refine zhk (Q := fun _ => True) (zhk (near_ok _ ha ..) fun _ _ => zhj trivial) fun v _ => ?_
   refine has_chk (by simp only [List.length_cons, List.length_nil]; omega) ?_
   exact ih (i + 1) _ (by omega) (by omega) (by simp only [List.length_append, List.length_cons, List.length_nil]; omega)
theorem into_ok {c3 : List Swp} {found : List Int} {c8 : List (List UInt8)} {c9 : List Lt} (ha : chkA (c8, c9, ()) = true) (h8 : c3.length <= 8) (hf : ∀ s ∈ c3, s.1 = 0 -> 0 <= s.2.1 /\ s.2.1 < (found.length : Int))
  (c1 : List UInt8) (c2 : List Lt) (c4 c5 : List Node) (c6 : Int) (c7 : Bool) (m1 : Mp) : Has (zfx 80000 found c1 c2 c3 c4 c5 c6 c7 m1 c8 c9) fun o => o.length <= 8 := by
 unfold zfx
 exact into_l1 ha h8 hf 80000 0 [] (Nat.zero_le _) (by omega) (Nat.zero_le _)
theorem encL_le (x : Int) : (Utf8.encode x).data.toList.length <= 4 := by
 rw [Array.length_toList]
 exact encode_size_le x
theorem runesStr_le (xs : List Int) : (za9 xs).length <= 4 * xs.length := by
 have := foldl_size_le xs ByteArray.empty
 unfold za9 runesBytes
 rw [Array.length_toList]
 rw [show ByteArray.empty.size = 0 from rfl, Nat.zero_add] at this
 exact this
theorem strRunes_le (s : List UInt8) : (zba s).length <= s.length := by
 have : ∀ n i, (runesAt s n i).length <= n := by
  intro n
  induction n with
  | zero => intro i; exact Nat.le_refl _
  | succ n ih =>
   intro i
   unfold runesAt
   split
   ·have := ih (i + (Utf8.decode (bytesOf s) i).2)
    simp only [List.length_cons]
    omega
   ·exact Nat.zero_le _
 exact this _ _
theorem count_l1 {s : List UInt8} (hs : s.length <= 70000) : ∀ n p (c : Nat), p <= s.length -> s.length - p < n -> c <= p -> Has (zfp s n (c : Int) p) fun v => ∃ m : Nat, v = (m : Int) /\ m <= 70000 := by
 intro n
 induction n with
 | zero => intro p c _ h; omega
 | succ n ih =>
  intro p c h1 h2 h3
  unfold zfp zfo
  refine has_dec (fun hlt => ?_) fun _ => zhj ⟨c, rfl, by omega⟩
  have := g_size s p hlt
  rw [zhf (by omega), widthAt_g]
  exact ih _ (c + 1) (by omega) (by omega) (by omega)
theorem count_ok {s : List UInt8} (hs : s.length <= 70000) : Has (zfq 80000 s) fun v => ∃ m : Nat, v = (m : Int) /\ m <= 70000 := by
 unfold zfq
 exact count_l1 hs 80000 0 0 (Nat.zero_le _) (by omega) (Nat.le_refl _)
abbrev Sets : Type := List yT48
def Fr (n i : Nat) (S : Sets) : Prop := S.length = n + 2 /\ ∃ j w, i <= j /\ j <= n + 1 /\ w.length <= 40 * j /\ S[j]? = some (some (some [(w, true)])) /\ ∀ j', i <= j' -> j' <= n + 1 -> j' ≠ j -> S[j']? = some (some (some []))
theorem o2at_of {S : Sets} {i : Nat} {y : Option yT62} (h : S[i]? = some (some y)) : o2at S (i : Int) = some y := by
 unfold o2at
 rw [Int.toNat_natCast, h]
theorem o2ps_of {S : Sets} {i : Nat} {y : List yT68} (h : S[i]? = some (some (some y))) : o2ps S (i : Int) = some y := by
 unfold o2ps
 rw [Int.toNat_natCast, h]
theorem get_set_ne {S : Sets} {i j : Nat} {x} (h : i ≠ j) : (S.set i x)[j]? = S[j]? := by rw [List.getElem?_set, if_neg h]
theorem Fr.take {n i : Nat} {S : Sets} (h : Fr n i S) (hi : i <= n + 1) : ∃ l, S[i]? = some (some (some l)) /\ ((l = [] /\ Fr n (i + 1) (S.set i none)) \/
  ∃ w : List UInt8, l = [(w, true)] /\ w.length <= 40 * i /\ ∀ tu, i < tu -> tu <= n + 1 -> o2at (S.set i none) (tu : Int) = some (some []) /\ o2ps (S.set i none) (tu : Int) = some [] /\ (S.set i none).length = n + 2 /\
   ∀ more : List UInt8, more.length <= 40 * tu -> Fr n (i + 1) ((S.set i none).set tu (some (some [(more, true)])))) := by
 obtain ⟨hl, j, w, h1, h2, h3, h4, h5⟩ := h
 by_cases e : j = i
 ·subst e
  refine ⟨[(w, true)], h4, .inr ⟨w, rfl, h3, fun tu ht1 ht2 => ?_⟩⟩
  have q : (S.set j none)[tu]? = some (some (some [])) := by rw [get_set_ne (by omega)]; exact h5 tu (by omega) ht2 (by omega)
  refine ⟨o2at_of q, o2ps_of q, by rw [List.length_set]; exact hl, fun more hm => ⟨by rw [List.length_set, List.length_set]; exact hl, tu, more, ht1, ht2, hm, ?_, ?_⟩⟩
  ·rw [List.getElem?_set_self (by rw [List.length_set]; omega)]
  ·intro j' a b c
   rw [get_set_ne (Ne.symm c), get_set_ne (by omega)]
   exact h5 j' (by omega) b (by omega)
 ·refine ⟨[], h5 i (Nat.le_refl _) hi (Ne.symm e), .inl ⟨rfl, by rw [List.length_set]; exact hl, j, w, by omega, h2, h3, by rw [get_set_ne (Ne.symm e)]; exact h4, ?_⟩⟩
  intro j' a b c
  rw [get_set_ne (by omega)]
  exact h5 j' (by omega) b c
theorem Fr.first {n : Nat} {S : Sets} (hl : S.length = n + 2) (h : ∀ j, j < n + 2 -> S[j]? = some (some (some []))) : Fr n 0 (S.set 0 (some (some [(([] : List UInt8), true)]))) := by
 refine ⟨by rw [List.length_set]; exact hl, 0, [], Nat.le_refl _, by omega, Nat.zero_le _, by rw [List.getElem?_set_self (by omega)], fun j' a b c => ?_⟩
 rw [get_set_ne (Ne.symm c)]
 exact h j' (by omega)
abbrev RunT : Type := Int × List UInt8 × List Lt × List Swp × List Node × List Node × Int × Bool × Mp × List (List UInt8) × List Lt × List (List UInt8)
def RunP (v : RunT) : Prop := (v.1 = 0 -> v.2.2.2.2.2.2.2.2.2.2.2.length = 1) /\ v.2.2.2.2.2.2.2.2.2.2.2.length <= 1 /\ ∀ w ∈ v.2.2.2.2.2.2.2.2.2.2.2, w.length <= 20000
theorem RunP.err {e : Int} (he : e ≠ 0) {a b c d f g h i j k} : RunP (e, a, b, c, d, f, g, h, i, j, k, []) := ⟨fun q => absurd q he, Nat.zero_le _, fun w hw => by cases hw⟩
end Go.Ev
namespace Go.Ev
open Go
set_option linter.unusedVariables false
theorem mcase1_nil {α β : Type} {a : Option β} {f : α -> Option β} : mcase1 [] a f = a := rfl
theorem mcase1_one {α β : Type} {p : α} {a : Option β} {f : α -> Option β} : mcase1 [p] a f = f p := rfl
theorem sub_mid {α : Type} {s : List α} {a b : Nat} (h : a <= b) (hb : b <= s.length) : ∃ r, sub? s (a : Int) (b : Int) = some r /\ r.length = b - a := by
 refine ⟨_, if_pos ⟨by omega, by omega, by omega⟩, ?_⟩
 rw [Int.toNat_natCast, Int.toNat_natCast, List.length_drop, List.length_take]
 omega
theorem wadd {a b : Nat} (h : a + b < 1000000) : wi64 ((a : Int) + (b : Int)) = ((a + b : Nat) : Int) := by rw [wi64_of (by omega)]; omega
def Left (N i : Nat) (S : Sets) (l : List yT68) : Prop :=
 (l = [] /\ Fr N (i + 1) S) \/ ∃ w : List UInt8, l = [(w, true)] /\ w.length <= 40 * i /\ ∀ tu, i < tu -> tu <= N + 1 -> o2at S (tu : Int) = some (some []) /\ o2ps S (tu : Int) = some [] /\ S.length = N + 2 /\
  ∀ more : List UInt8, more.length <= 40 * tu -> Fr N (i + 1) (S.set tu (some (some [(more, true)])))
section all
variable {l1 : List Int} {N : Nat} {c1 : List UInt8} {c2 : List Lt} {c3 : List Swp} {c4 c5 : List Node} {c6 : Int} {c7 : Bool} {m1 : Mp} {c8 : List (List UInt8)} {c9 : List Lt} {tk : List Bool}
abbrev AllT : Type := List UInt8 × List Lt × List Swp × List Node × List Node × Int × Bool × Mp × List (List UInt8) × List Lt × List Bool
abbrev Go26 : Type := Int -> Sets -> List UInt8 -> List Lt -> List Swp -> List Node -> List Node -> Int -> Bool -> Mp -> List (List UInt8) -> List Lt -> List Bool -> Option RunT
theorem all_l1 (hN : l1.length = N) (h256 : N <= 256) (hL : TreeOK c4) (hR : TreeOK c5) (h8 : c2.length <= 8) : ∀ n (i : Nat) (t : List Bool), N + 1 - i < n -> i <= 1000 -> t.length = N + 1 -> (∀ j : Nat, t[j]? = some true -> j + c2.length <= N) ->
  Has (zfm 80000 l1 n (i : Int) c1 c2 c3 c4 c5 c6 c7 m1 c8 c9 t) fun v => ∃ t, v = (c1, c2, c3, c4, c5, c6, c7, m1, c8, c9, t) /\ t.length = N + 1 /\ ∀ j : Nat, t[j]? = some true -> j + c2.length <= N := by
 intro n
 induction n with
 | zero => intro i t h; omega
 | succ n ih =>
  intro i t h1 h2 h3 h4
  unfold zfm rule_maker_all_i1_b1
  refine has_dec (fun hle => ?_) fun _ => zhj ⟨t, rfl, h3, h4⟩
  refine zhk (lies_ok (by omega) hL hR h8 (by omega)) ?_
  rintro v ⟨b, rfl, hb⟩
  refine has_ite (fun hbt => ?_) fun _ => ?_
  ·refine has_at (by omega) fun _ _ => ?_
   have hb' := hb hbt
   obtain ⟨m, hm, hm8⟩ : ∃ m : Nat, wi64 ((i : Int) + (mxI 0 (wi64 ((c2.length : Int) - 1)))) = (m : Int) /\ i <= m /\ m <= i + 8 := by
    refine ⟨i + (c2.length - 1), ?_, by omega, by omega⟩
    rw [wi64_of (x := (c2.length : Int) - 1) (by omega)]
    unfold mxI
    split
    ·rw [wi64_of (by omega)]; omega
    ·rw [wi64_of (by omega)]; omega
   unfold zfl
   show Has (zfm 80000 l1 n (wi64 ((wi64 ((i : Int) + (mxI 0 (wi64 ((c2.length : Int) - 1))))) + 1)) c1 c2 c3 c4 c5 c6 c7 m1 c8 c9 (t.set ((i : Int)).toNat true)) _
   rw [hm, zhf (by omega), Int.toNat_natCast]
   refine ih (m + 1) _ (by omega) (by omega) (by rw [List.length_set]; exact h3) fun j hj => ?_
   by_cases e : i = j
   ·subst e; omega
   ·rw [List.getElem?_set, if_neg e] at hj
    exact h4 j hj
  ·unfold zfl
   rw [zhf (by omega)]
   exact ih (i + 1) t (by omega) (by omega) h3 h4
theorem run6_l3 (hN : l1.length = N) (h256 : N <= 256) {v1 : AllT} (h8 : v1.2.1.length <= 8) (ha : chkA (c8, c9, ()) = true) (h3 : c3.length <= 8) (hf : ∀ s ∈ c3, s.1 = 0 -> 0 <= s.2.1 /\ s.2.1 < (v1.2.1.length : Int))
  (ht : tk.length = N + 1) (hti : ∀ j : Nat, tk[j]? = some true -> j + v1.2.1.length <= N) {go2 : Go26} {i : Nat} (hi : i <= N)
  (hgo : ∀ S', Fr N (i + 1) S' -> Has (go2 (wi64 ((i : Int) + 1)) S' c1 c2 c3 c4 c5 c6 c7 m1 c8 c9 tk) RunP) :
  ∀ n S l at1, Left N i S l -> Has (zf4 80000 go2 (i : Int) c1 c2 c3 c4 c5 c6 c7 m1 c8 c9 tk l1 v1 false (n + 2) S l at1) RunP := by
 have hbl := zhl
 intro n S l at1 hl
 have fin : ∀ S' p, Fr N (i + 1) S' -> Has (zf4 80000 go2 (i : Int) c1 c2 c3 c4 c5 c6 c7 m1 c8 c9 tk l1 v1 false (n + 1) S' [] p) RunP := fun S' p h => by
  unfold zf4 zf3
  rw [mcase1_nil]
  exact hgo S' h
 unfold zf4 zf3
 rcases hl with ⟨rfl, hS⟩ | ⟨w, rfl, hw, hS⟩
 ·rw [mcase1_nil]
  exact hgo S hS
 rw [mcase1_one]
 refine zhk (count_ok (s := w) (by omega)) ?_
 rintro v2 ⟨m, rfl, hm⟩
 refine has_dec (fun _ => zhj (RunP.err (by decide))) fun _ => ?_
 refine zhk (Q := fun b => tk[i]? = some b) ?_ fun v3 hv3 => ?_
 ·unfold rule_maker_all_c1
  exact has_at (by omega) fun x hx => zhj (by rw [List.getElem?_eq_getElem (by omega), hx])
 have put : ∀ (more : List UInt8) (tu : Nat), i < tu -> tu <= N + 1 -> more.length <= 40 * tu -> ∀ (F : Sets -> Option RunT), (∀ S', Fr N (i + 1) S' -> Has (F S') RunP) ->
   Has (Option.bind (chk (0 <= (tu : Int) /\ (tu : Int) < (S.length : Int))) fun _ => Option.bind (o2at S (tu : Int)) fun q6 => Option.bind (o2ps S (tu : Int)) fun q7 => F (List.set S ((tu : Int)).toNat (some (some (mset (eqEl .str) q7 more true))))) RunP := by
  intro more tu h1 h2 h3 F hF
  obtain ⟨e1, e2, e3, e4⟩ := hS tu h1 h2
  refine has_chk ⟨by omega, by omega⟩ ?_
  rw [e1, Option.bind_some, e2, Option.bind_some, Int.toNat_natCast]
  exact hF _ (e4 more h3)
 have one : wi64 ((i : Int) + 1) = ((i + 1 : Nat) : Int) := zhf (by omega)
 have j4 : ∀ (more : List UInt8) (tu : Nat), v3 = true -> i < tu -> tu <= N + 1 -> more.length <= 40 * tu -> Has (zf1 S (i : Int) l1 (w, true) (zf4 80000 go2 (i : Int) c1 c2 c3 c4 c5 c6 c7 m1 c8 c9 tk l1 v1 false (n + 1)) v3 false more (tu : Int)) RunP := by
  intro more tu h0 h1 h2 h3
  subst h0
  unfold zf1
  refine put more tu h1 h2 h3 (fun S' => zf0 (i : Int) l1 (w, true) _ true false S') fun S' hS' => ?_
  unfold zf0 zfz
  exact has_ite (fun q => nomatch q) fun _ => fin S' _ hS'
 have hv4 : ∀ v4 : List Int, v4.length <= 8 -> (w ++ za9 v4).length <= 40 * i + 32 := fun v4 h => by
  have := runesStr_le v4
  rw [List.length_append]
  omega
 refine has_ite (fun hb => ?_) fun hb => ?_
 ·have hik := hti i (by rw [hv3, hb])
  rw [wadd (by omega)]
  obtain ⟨s1, es, hs⟩ := sub_mid (s := l1) (a := i) (b := i + v1.2.1.length) (by omega) (by omega)
  rw [es, Option.bind_some]
  refine zhk (into_ok ha h3 (by rw [hs]; intro s hsm h0; have := hf s hsm h0; omega) ..) fun v4 hv => ?_
  have := hv4 v4 hv
  have hr := runesStr_le v4
  refine has_chk (by omega) ?_
  rw [List.length_append] at this
  refine has_chk (by show w.length + _ <= _; omega) ?_
  refine has_ite (fun hk => ?_) fun hk => ?_
  ·have hk0 : v1.2.1.length = 0 := by simpa using hk
   have j5 : ∀ more : List UInt8, more.length <= 40 * (i + 1) -> Has (zf2 S (i : Int) l1 (w, true) (zf4 80000 go2 (i : Int) c1 c2 c3 c4 c5 c6 c7 m1 c8 c9 tk l1 v1 false (n + 1)) v3 false v1 more) RunP := by
    intro more hm
    unfold zf2
    rw [wadd (by omega), zhf (by omega)]
    exact j4 more _ hb (by omega) (by omega) (by omega)
   refine has_dec (fun hlt => ?_) fun _ => ?_
   ·refine has_at (by omega) fun x2 _ => ?_
    have he := encL_le x2
    have hle : (w ++ za9 v4).length <= 40 * i + 32 := hv4 v4 hv
    refine has_chk (by show (w ++ za9 v4).length + _ <= _; omega) ?_
    exact j5 _ (by rw [List.length_append]; show (w ++ za9 v4).length + _ <= _; omega)
   ·exact j5 _ (by have hle : (w ++ za9 v4).length <= 40 * i + 32 := hv4 v4 hv; show (w ++ za9 v4).length <= _; omega)
  ·have hk0 : v1.2.1.length ≠ 0 := by
    intro q
    rw [q] at hk
    simp at hk
   exact j4 _ _ hb (by omega) (by omega) (by have hle : (w ++ za9 v4).length <= 40 * i + 32 := hv4 v4 hv; show (w ++ za9 v4).length <= _; omega)
 ·subst hb
  unfold zf0 zfz
  refine has_ite (fun _ => ?_) fun q => nomatch q
  have j3 : ∀ more : List UInt8, more.length <= 40 * (i + 1) -> Has (zfy (i : Int) S (zf4 80000 go2 (i : Int) c1 c2 c3 c4 c5 c6 c7 m1 c8 c9 tk l1 v1 false (n + 1)) (w, true) more) RunP := by
   intro more hm
   unfold zfy
   rw [one]
   exact put more (i + 1) (by omega) (by omega) hm (fun S' => zf4 80000 go2 (i : Int) c1 c2 c3 c4 c5 c6 c7 m1 c8 c9 tk l1 v1 false (n + 1) S' [] [(w, true)]) fun S' hS' => fin S' _ hS'
  refine has_dec (fun hlt => ?_) fun _ => j3 w (by omega)
  refine has_at (by omega) fun x1 _ => ?_
  have he := encL_le x1
  refine has_chk (by show w.length + _ <= _; omega) ?_
  exact j3 _ (by rw [List.length_append]; show w.length + _ <= _; omega)
theorem run6_l4 : ∀ n (w : List UInt8) at1, w.length <= 20000 -> Has (zf6 80000 c1 c2 c3 c4 c5 c6 c7 m1 c8 c9 (n + 2) [(w, true)] at1 []) RunP := by
 intro n w at1 hw
 unfold zf6 zf5
 rw [mcase1_one]
 refine zhk (count_ok (s := w) (by omega)) ?_
 rintro v2 ⟨m, rfl, hm⟩
 refine has_dec (fun _ => zhj (RunP.err (by decide))) fun _ => ?_
 refine has_chk (by have := zhl; simp only [List.length_cons, List.length_nil]; omega) ?_
 unfold zf6 zf5
 rw [mcase1_nil]
 refine zhj ⟨fun _ => rfl, Nat.le_refl _, fun x hx => ?_⟩
 simp at hx
 rw [hx]
 exact hw
theorem run6_l2 (hN : l1.length = N) (h256 : N <= 256) {v1 : AllT} (h8 : v1.2.1.length <= 8) (ha : chkA (c8, c9, ()) = true) (h3 : c3.length <= 8) (hf : ∀ s ∈ c3, s.1 = 0 -> 0 <= s.2.1 /\ s.2.1 < (v1.2.1.length : Int))
  (ht : tk.length = N + 1) (hti : ∀ j : Nat, tk[j]? = some true -> j + v1.2.1.length <= N) :
  ∀ n (i : Nat) (S : Sets), i <= N + 1 -> N + 1 - i < n -> Fr N i S -> Has (zf8 80000 l1 v1 false n (i : Int) S c1 c2 c3 c4 c5 c6 c7 m1 c8 c9 tk) RunP := by
 intro n
 induction n with
 | zero => intro i S _ h; omega
 | succ n ih =>
  intro i S h1 h2 hS
  have hSl := hS.1
  obtain ⟨l, hl, hc⟩ := hS.take h1
  have hl1 : l.length <= 1 := by
   rcases hc with ⟨rfl, _⟩ | ⟨w, rfl, _⟩ <;> simp
  unfold zf8 zf7
  rw [zhf (by omega)]
  refine has_dec (fun hlt => ?_) fun hnl => ?_
  ·refine has_chk ⟨by omega, by omega⟩ ?_
   rw [o2at_of hl, Option.bind_some]
   refine has_dec (fun q => absurd q (by show ¬ (1024 : Int) < (l.length : Int); omega)) fun _ => ?_
   refine has_chk ⟨by omega, by omega⟩ ?_
   rw [Int.toNat_natCast]
   refine run6_l3 hN h256 h8 ha h3 hf ht hti (by omega) (fun S' hS' => ?_) 79998 (S.set i none) l [] hc
   rw [zhf (by omega)]
   exact ih (i + 1) S' (by omega) (by omega) hS'
  ·obtain rfl : i = N + 1 := by omega
   rw [hN]
   refine has_chk ⟨by omega, by omega⟩ ?_
   rw [o2at_of hl, Option.bind_some]
   refine has_dec (fun q => absurd q (by show ¬ (1024 : Int) < (l.length : Int); omega)) fun _ => ?_
   rcases hc with ⟨rfl, hF⟩ | ⟨w, rfl, hw, _⟩
   ·obtain ⟨_, j, _, a, b, _⟩ := hF
    omega
   ·exact run6_l4 79998 w [] (by omega)
theorem run6_l1 (hN : l1.length = N) (h256 : N <= 256) {v1 : AllT} (h8 : v1.2.1.length <= 8) (ha : chkA (v1.2.2.2.2.2.2.2.2.1, v1.2.2.2.2.2.2.2.2.2.1, ()) = true) (h3 : v1.2.2.1.length <= 8) (hf : ∀ s ∈ v1.2.2.1, s.1 = 0 -> 0 <= s.2.1 /\ s.2.1 < (v1.2.1.length : Int))
  (ht : v1.2.2.2.2.2.2.2.2.2.2.length = N + 1) (hti : ∀ j : Nat, v1.2.2.2.2.2.2.2.2.2.2[j]? = some true -> j + v1.2.1.length <= N) :
  ∀ n (i : Nat) (S : Sets), i <= N + 2 -> N + 2 - i < n -> S.length = N + 2 -> (∀ j, j < i -> S[j]? = some (some (some []))) -> Has (zga 80000 l1 v1 false n (i : Int) S) RunP := by
 intro n
 induction n with
 | zero => intro i S _ h; omega
 | succ n ih =>
  intro i S h1 h2 h4 h5
  unfold zga zf9
  have hw : (List.map some (List.replicate (wi64 ((l1.length : Int) + 2)).toNat (none : Option yT62))).length = N + 2 := by
   rw [List.length_map, List.length_replicate, wi64_of (by omega)]
   omega
  rw [hw]
  refine has_dec (fun hlt => ?_) fun hnl => ?_
  ·refine has_chk ⟨by omega, by omega⟩ ?_
   refine has_chk ⟨by omega, by omega⟩ ?_
   rw [zhf (by omega), Int.toNat_natCast]
   refine ih (i + 1) _ (by omega) (by omega) (by rw [List.length_set]; exact h4) fun j hj => ?_
   by_cases e : i = j
   ·subst e
    rw [List.getElem?_set_self (by omega)]
   ·rw [get_set_ne e]
    exact h5 j (by omega)
  ·refine has_chk ⟨by omega, by omega⟩ ?_
   have h0 := h5 0 (by omega)
   rw [show (0 : Int) = ((0 : Nat) : Int) from rfl, o2at_of h0, Option.bind_some, o2ps_of h0, Option.bind_some, Int.toNat_natCast]
   exact run6_l2 hN h256 h8 ha h3 hf ht hti 80000 0 _ (by omega) (by omega) (Fr.first h4 fun j hj => h5 j (by omega))
theorem run6_ok (h256 : l1.length <= 256) (hL : TreeOK c4) (hR : TreeOK c5) (h8 : c2.length <= 8) (ha : chkA (c8, c9, ()) = true) (h3 : c3.length <= 8) (hf : ∀ s ∈ c3, s.1 = 0 -> 0 <= s.2.1 /\ s.2.1 < (c2.length : Int)) :
  Has (zgb 80000 l1 false c1 c2 c3 c4 c5 c6 c7 m1 c8 c9) RunP := by
 have hbl := big_lim
 unfold zgb zfn
 rw [zhf (by omega)]
 refine zhk (Q := fun v => ∃ t, v = (c1, c2, c3, c4, c5, c6, c7, m1, c8, c9, t) /\ t.length = l1.length + 1 /\ ∀ j : Nat, t[j]? = some true -> j + c2.length <= l1.length) ?_ ?_
 ·refine has_chk ⟨by omega, by omega, by omega⟩ ?_
  refine all_l1 rfl h256 hL hR h8 80000 0 _ (by omega) (by omega) (by simp) fun j hj => ?_
  rw [Int.toNat_natCast, List.getElem?_replicate] at hj
  split at hj
  ·cases hj
  ·cases hj
 ·rintro v ⟨t, rfl, ht, hti⟩
  have hw : wi64 ((l1.length : Int) + 2) = ((l1.length + 2 : Nat) : Int) := by rw [wi64_of (by omega)]; omega
  rw [hw]
  refine has_chk (by omega) ?_
  refine has_chk ⟨by omega, by omega, by omega⟩ ?_
  exact run6_l1 (v1 := (c1, c2, c3, c4, c5, c6, c7, m1, c8, c9, t)) rfl h256 h8 ha h3 hf ht hti 80000 0 _ (Nat.zero_le _) (by omega) (by rw [List.length_map, List.length_replicate, Int.toNat_natCast]) (fun j hj => by omega)
end all
end Go.Ev
namespace Go.Ev
open Go
set_option linter.unusedVariables false
section right
variable {l1 : List Int} {N : Nat} {c1 : List UInt8} {c2 : List Lt} {c3 : List Swp} {c4 c5 : List Node} {c6 : Int} {c7 : Bool} {m1 : Mp} {c8 : List (List UInt8)} {c9 : List Lt}
abbrev Go27 : Type := Int -> Sets -> List Int -> List UInt8 -> List Lt -> List Swp -> List Node -> List Node -> Int -> Bool -> Mp -> List (List UInt8) -> List Lt -> Option RunT
theorem right_ok {made : List UInt8} (hm : made.length <= 20000) (hN : l1.length <= 256) (hL : TreeOK c4) (hR : TreeOK c5) (h8 : c2.length <= 8) {i : Nat} (hi : i <= l1.length) :
  Has (zgd 80000 made (i : Int) c1 c2 c3 c4 c5 c6 c7 m1 c8 c9 l1) fun v => ∃ b, v = (b, c1, c2, c3, c4, c5, c6, c7, m1, c8, c9) /\ (b = true -> i + c2.length <= l1.length) := by
 have hbl := zhl
 have hs := strRunes_le made
 unfold zgd
 refine has_chk (by omega) ?_
 rw [sub_suf hi, Option.bind_some]
 have hd : (l1.drop i).length = l1.length - i := List.length_drop
 refine has_chk (by omega) ?_
 refine zhk (lies_ok (by rw [List.length_append]; omega) hL hR h8 (by omega)) ?_
 rintro v ⟨b, rfl, hb⟩
 refine zhj ⟨b, rfl, fun q => ?_⟩
 have := hb q
 rw [List.length_append] at this
 omega
theorem run7_l3 (hN : l1.length = N) (h256 : N <= 256) (hL : TreeOK c4) (hR : TreeOK c5) (h8 : c2.length <= 8) (ha : chkA (c8, c9, ()) = true) (h3 : c3.length <= 8) (hf : ∀ s ∈ c3, s.1 = 0 -> 0 <= s.2.1 /\ s.2.1 < (c2.length : Int))
  {go2 : Go27} {i : Nat} (hi : i <= N)
  (hgo : ∀ S', Fr N (i + 1) S' -> Has (go2 (wi64 ((i : Int) + 1)) S' l1 c1 c2 c3 c4 c5 c6 c7 m1 c8 c9) RunP) :
  ∀ n S l at1, Left N i S l -> Has (zgk 80000 go2 (i : Int) l1 l1 c2 false (n + 2) S l at1 c1 c2 c3 c4 c5 c6 c7 m1 c8 c9) RunP := by
 have hbl := zhl
 intro n S l at1 hl
 have fin : ∀ S' p, Fr N (i + 1) S' -> Has (zgk 80000 go2 (i : Int) l1 l1 c2 false (n + 1) S' [] p c1 c2 c3 c4 c5 c6 c7 m1 c8 c9) RunP := fun S' p h => by
  unfold zgk zgj
  rw [mcase1_nil]
  exact hgo S' h
 unfold zgk zgj
 rcases hl with ⟨rfl, hS⟩ | ⟨w, rfl, hw, hS⟩
 ·rw [mcase1_nil]
  exact hgo S hS
 rw [mcase1_one]
 refine zhk (count_ok (s := w) (by omega)) ?_
 rintro v2 ⟨m, rfl, hm⟩
 refine has_dec (fun _ => zhj (RunP.err (by decide))) fun _ => ?_
 refine zhk (right_ok (made := w) (by omega) (by omega) hL hR h8 (by omega)) ?_
 rintro v ⟨b, rfl, hbk⟩
 have put : ∀ (more : List UInt8) (tu : Nat), i < tu -> tu <= N + 1 -> more.length <= 40 * tu -> ∀ (F : Sets -> Option RunT), (∀ S', Fr N (i + 1) S' -> Has (F S') RunP) ->
   Has (Option.bind (chk (0 <= (tu : Int) /\ (tu : Int) < (S.length : Int))) fun _ => Option.bind (o2at S (tu : Int)) fun q6 => Option.bind (o2ps S (tu : Int)) fun q7 => F (List.set S ((tu : Int)).toNat (some (some (mset (eqEl .str) q7 more true))))) RunP := by
  intro more tu h1 h2 h3 F hF
  obtain ⟨e1, e2, e3, e4⟩ := hS tu h1 h2
  refine has_chk ⟨by omega, by omega⟩ ?_
  rw [e1, Option.bind_some, e2, Option.bind_some, Int.toNat_natCast]
  exact hF _ (e4 more h3)
 have one : wi64 ((i : Int) + 1) = ((i + 1 : Nat) : Int) := zhf (by omega)
 have j4 : ∀ (more : List UInt8) (tu : Nat), b = true -> i < tu -> tu <= N + 1 -> more.length <= 40 * tu -> Has (zgh S (i : Int) l1 (w, true) (zgk 80000 go2 (i : Int) l1 l1 c2 false (n + 1)) (b, c1, c2, c3, c4, c5, c6, c7, m1, c8, c9) false more (tu : Int)) RunP := by
  intro more tu h0 h1 h2 h3
  subst h0
  unfold zgh
  refine put more tu h1 h2 h3 (fun S' => zgg (i : Int) l1 (w, true) _ (true, c1, c2, c3, c4, c5, c6, c7, m1, c8, c9) false S') fun S' hS' => ?_
  unfold zgg zgf
  exact has_ite (fun q => nomatch q) fun _ => fin S' _ hS'
 have hv4 : ∀ v4 : List Int, v4.length <= 8 -> (w ++ za9 v4).length <= 40 * i + 32 := fun v4 h => by
  have := runesStr_le v4
  rw [List.length_append]
  omega
 refine has_ite (fun hb => ?_) fun hb => ?_
 ·have hik := hbk hb
  rw [wadd (by omega)]
  obtain ⟨s1, es, hs⟩ := sub_mid (s := l1) (a := i) (b := i + c2.length) (by omega) (by omega)
  rw [es, Option.bind_some]
  refine zhk (into_ok ha h3 (by rw [hs]; intro s hsm h0; have := hf s hsm h0; omega) ..) fun v4 hv => ?_
  have := hv4 v4 hv
  have hr := runesStr_le v4
  refine has_chk (by omega) ?_
  rw [List.length_append] at this
  refine has_chk (by show w.length + _ <= _; omega) ?_
  refine has_ite (fun hk => ?_) fun hk => ?_
  ·have hk0 : c2.length = 0 := by simpa using hk
   have j5 : ∀ more : List UInt8, more.length <= 40 * (i + 1) -> Has (zgi S (i : Int) l1 (w, true) (zgk 80000 go2 (i : Int) l1 l1 c2 false (n + 1)) (b, c1, c2, c3, c4, c5, c6, c7, m1, c8, c9) false c2 more) RunP := by
    intro more hm
    unfold zgi
    rw [wadd (by omega), zhf (by omega)]
    exact j4 more _ hb (by omega) (by omega) (by omega)
   refine has_dec (fun hlt => ?_) fun _ => ?_
   ·refine has_at (by omega) fun x2 _ => ?_
    have he := encL_le x2
    have hle : (w ++ za9 v4).length <= 40 * i + 32 := hv4 v4 hv
    refine has_chk (by show (w ++ za9 v4).length + _ <= _; omega) ?_
    exact j5 _ (by rw [List.length_append]; show (w ++ za9 v4).length + _ <= _; omega)
   ·exact j5 _ (by have hle : (w ++ za9 v4).length <= 40 * i + 32 := hv4 v4 hv; show (w ++ za9 v4).length <= _; omega)
  ·have hk0 : c2.length ≠ 0 := by
    intro q
    rw [q] at hk
    simp at hk
   exact j4 _ _ hb (by omega) (by omega) (by have hle : (w ++ za9 v4).length <= 40 * i + 32 := hv4 v4 hv; show (w ++ za9 v4).length <= _; omega)
 ·have hb' : b = false := hb
  subst hb'
  unfold zgg zgf
  refine has_ite (fun _ => ?_) fun q => nomatch q
  have j3 : ∀ more : List UInt8, more.length <= 40 * (i + 1) -> Has (zge (i : Int) S (zgk 80000 go2 (i : Int) l1 l1 c2 false (n + 1)) (w, true) (false, c1, c2, c3, c4, c5, c6, c7, m1, c8, c9) more) RunP := by
   intro more hm
   unfold zge
   rw [one]
   exact put more (i + 1) (by omega) (by omega) hm (fun S' => zgk 80000 go2 (i : Int) l1 l1 c2 false (n + 1) S' [] [(w, true)] c1 c2 c3 c4 c5 c6 c7 m1 c8 c9) fun S' hS' => fin S' _ hS'
  refine has_dec (fun hlt => ?_) fun _ => j3 w (by omega)
  refine has_at (by omega) fun x1 _ => ?_
  have he := encL_le x1
  refine has_chk (by show w.length + _ <= _; omega) ?_
  exact j3 _ (by rw [List.length_append]; show w.length + _ <= _; omega)
theorem run7_l4 : ∀ n (w : List UInt8) at1, w.length <= 20000 -> Has (zgm 80000 c1 c2 c3 c4 c5 c6 c7 m1 c8 c9 (n + 2) [(w, true)] at1 []) RunP := by
 intro n w at1 hw
 unfold zgm zgl
 rw [mcase1_one]
 refine zhk (count_ok (s := w) (by omega)) ?_
 rintro v2 ⟨m, rfl, hm⟩
 refine has_dec (fun _ => zhj (RunP.err (by decide))) fun _ => ?_
 refine has_chk (by have := zhl; simp only [List.length_cons, List.length_nil]; omega) ?_
 unfold zgm zgl
 rw [mcase1_nil]
 refine zhj ⟨fun _ => rfl, Nat.le_refl _, fun x hx => ?_⟩
 simp at hx
 rw [hx]
 exact hw
theorem run7_l2 (hN : l1.length = N) (h256 : N <= 256) (hL : TreeOK c4) (hR : TreeOK c5) (h8 : c2.length <= 8) (ha : chkA (c8, c9, ()) = true) (h3 : c3.length <= 8) (hf : ∀ s ∈ c3, s.1 = 0 -> 0 <= s.2.1 /\ s.2.1 < (c2.length : Int)) :
  ∀ n (i : Nat) (S : Sets), i <= N + 1 -> N + 1 - i < n -> Fr N i S -> Has (zgo 80000 l1 c2 false n (i : Int) S l1 c1 c2 c3 c4 c5 c6 c7 m1 c8 c9) RunP := by
 intro n
 induction n with
 | zero => intro i S _ h; omega
 | succ n ih =>
  intro i S h1 h2 hS
  have hSl := hS.1
  obtain ⟨l, hl, hc⟩ := hS.take h1
  have hl1 : l.length <= 1 := by
   rcases hc with ⟨rfl, _⟩ | ⟨w, rfl, _⟩ <;> simp
  unfold zgo zgn
  rw [zhf (by omega)]
  refine has_dec (fun hlt => ?_) fun hnl => ?_
  ·refine has_chk ⟨by omega, by omega⟩ ?_
   rw [o2at_of hl, Option.bind_some]
   refine has_dec (fun q => absurd q (by show ¬ (1024 : Int) < (l.length : Int); omega)) fun _ => ?_
   refine has_chk ⟨by omega, by omega⟩ ?_
   rw [Int.toNat_natCast]
   refine run7_l3 hN h256 hL hR h8 ha h3 hf (by omega) (fun S' hS' => ?_) 79998 (S.set i none) l [] hc
   rw [zhf (by omega)]
   exact ih (i + 1) S' (by omega) (by omega) hS'
  ·obtain rfl : i = N + 1 := by omega
   rw [hN]
   refine has_chk ⟨by omega, by omega⟩ ?_
   rw [o2at_of hl, Option.bind_some]
   refine has_dec (fun q => absurd q (by show ¬ (1024 : Int) < (l.length : Int); omega)) fun _ => ?_
   rcases hc with ⟨rfl, hF⟩ | ⟨w, rfl, hw, _⟩
   ·obtain ⟨_, j, _, a, b, _⟩ := hF
    omega
   ·exact run7_l4 79998 w [] (by omega)
theorem run7_ok (h256 : l1.length <= 256) (hL : TreeOK c4) (hR : TreeOK c5) (h8 : c2.length <= 8) (ha : chkA (c8, c9, ()) = true) (h3 : c3.length <= 8) (hf : ∀ s ∈ c3, s.1 = 0 -> 0 <= s.2.1 /\ s.2.1 < (c2.length : Int)) :
  Has (zgr 80000 l1 false c1 c2 c3 c4 c5 c6 c7 m1 c8 c9) RunP := by
 have hbl := big_lim
 unfold zgr zgc
 rw [Option.bind_some]
 have hw : wi64 ((l1.length : Int) + 2) = ((l1.length + 2 : Nat) : Int) := by rw [wi64_of (by omega)]; omega
 rw [hw]
 refine has_chk (by omega) ?_
 refine has_chk ⟨by omega, by omega, by omega⟩ ?_
 have main : ∀ n (i : Nat) (S : Sets), i <= l1.length + 2 -> l1.length + 2 - i < n -> S.length = l1.length + 2 -> (∀ j, j < i -> S[j]? = some (some (some []))) -> Has (zgq 80000 l1 c2 false l1 c1 c3 c4 c5 c6 c7 m1 c8 c9 n (i : Int) S) RunP := by
  intro n
  induction n with
  | zero => intro i S _ h; omega
  | succ n ih =>
   intro i S h1 h2 h4 h5
   unfold zgq zgp
   have hw2 : (List.map some (List.replicate (wi64 ((l1.length : Int) + 2)).toNat (none : Option yT62))).length = l1.length + 2 := by
    rw [List.length_map, List.length_replicate, hw, Int.toNat_natCast]
   rw [hw2]
   refine has_dec (fun hlt => ?_) fun hnl => ?_
   ·refine has_chk ⟨by omega, by omega⟩ ?_
    refine has_chk ⟨by omega, by omega⟩ ?_
    rw [zhf (by omega), Int.toNat_natCast]
    refine ih (i + 1) _ (by omega) (by omega) (by rw [List.length_set]; exact h4) fun j hj => ?_
    by_cases e : i = j
    ·subst e
     rw [List.getElem?_set_self (by omega)]
    ·rw [get_set_ne e]
     exact h5 j (by omega)
   ·refine has_chk ⟨by omega, by omega⟩ ?_
    have h0 := h5 0 (by omega)
    rw [show (0 : Int) = ((0 : Nat) : Int) from rfl, o2at_of h0, Option.bind_some, o2ps_of h0, Option.bind_some, Int.toNat_natCast]
    exact run7_l2 rfl h256 hL hR h8 ha h3 hf 80000 0 _ (by omega) (by omega) (Fr.first h4 fun j hj => h5 j (by omega))
 exact main 80000 0 _ (Nat.zero_le _) (by omega) (by rw [List.length_map, List.length_replicate, Int.toNat_natCast]) (fun j hj => by omega)
end right
end Go.Ev
