/- The layouts of library functions at this program, as the kit's own tool wrote them. -/
import Derived.Test.YtciikbiapmbocaaDoorProg
import Derived.Shelf.Unicode.DecodeAny
import Derived.KernelRfl
import Derived.Test.YtciikbiapmbocaaDoorME3
import Derived.Lib.LaidU8
import Derived.WalkKit
import Derived.Lib.Strings
import Derived.Lib.Walk
import Derived.Lib.Builder
import Derived.Lib.UnsafeStr
import Derived.Laws.Externs
import Derived.Shelf.RegionOpenPlain
import Derived.Lib.LaidTab
import Derived.Shelf.Pu.Clone
import Derived.Lib.IfaceEq
namespace Go.Ev
open Go Go.Proofs Go.Shelf
set_option maxRecDepth 100000
def Llays197_ren : Go.Shelf.Ren := ⟨fun | 197 => 25 | 260 => 42 | n => n, fun | 9 => 9 | 21 => 21 | 3 => 3 | 4 => 4 | 5 => 5 | 105 => 40 | 119 => 73 | 0 => 0 | 46 => 74 | 139 => 77 | 138 => 76 | n => n, fun | 3 => 0 | 4 => 1 | n => n⟩
theorem Llays197 : Go.Proofs.Lays.n197 Tryd.prog Llays197_ren := {
  mixed := by kernel_rfl
  f197 := Tryd.func25.trans (congrArg some (by kernel_rfl))
  f260 := Tryd.func42.trans (congrArg some (by kernel_rfl))
  t0 := Tryd.underlying0
  a0 := Tryd.isAgg0
  z0 := Tryd.sizeOf0
  v0 := Tryd.zeroValue0
  t3 := Tryd.underlying3
  a3 := Tryd.isAgg3
  z3 := Tryd.sizeOf3
  v3 := Tryd.zeroValue3
  t4 := Tryd.underlying4
  a4 := Tryd.isAgg4
  z4 := Tryd.sizeOf4
  v4 := Tryd.zeroValue4
  t5 := Tryd.underlying5
  a5 := Tryd.isAgg5
  z5 := Tryd.sizeOf5
  v5 := Tryd.zeroValue5
  t9 := Tryd.underlying9
  a9 := Tryd.isAgg9
  z9 := Tryd.sizeOf9
  v9 := Tryd.zeroValue9
  t21 := Tryd.underlying21
  a21 := Tryd.isAgg21
  z21 := Tryd.sizeOf21
  v21 := Tryd.zeroValue21
  t46 := Tryd.underlying74
  a46 := Tryd.isAgg74
  z46 := Tryd.sizeOf74
  v46 := Tryd.zeroValue74
  t105 := Tryd.underlying40
  a105 := Tryd.isAgg40
  z105 := Tryd.sizeOf40
  v105 := Tryd.zeroValue40
  t119 := Tryd.underlying73
  a119 := Tryd.isAgg73
  z119 := Tryd.sizeOf73
  t138 := Tryd.underlying76
  a138 := Tryd.isAgg76
  z138 := Tryd.sizeOf76
  v138 := Tryd.zeroValue76
  t139 := Tryd.underlying77
  a139 := Tryd.isAgg77
  z139 := Tryd.sizeOf77
  v139 := Tryd.zeroValue77
  g3 := by kernel_rfl
  g4 := by kernel_rfl }
def Llays260_ren : Go.Shelf.Ren := ⟨fun | 260 => 42 | n => n, fun | 9 => 9 | 21 => 21 | 3 => 3 | 4 => 4 | 5 => 5 | 119 => 73 | 0 => 0 | 46 => 74 | 139 => 77 | 138 => 76 | n => n, fun | 3 => 0 | 4 => 1 | n => n⟩
theorem Llays260 : Go.Proofs.Lays.n260 Tryd.prog Llays260_ren := {
  mixed := by kernel_rfl
  f260 := Tryd.func42.trans (congrArg some (by kernel_rfl))
  t0 := Tryd.underlying0
  a0 := Tryd.isAgg0
  z0 := Tryd.sizeOf0
  v0 := Tryd.zeroValue0
  t3 := Tryd.underlying3
  a3 := Tryd.isAgg3
  z3 := Tryd.sizeOf3
  v3 := Tryd.zeroValue3
  t4 := Tryd.underlying4
  a4 := Tryd.isAgg4
  z4 := Tryd.sizeOf4
  v4 := Tryd.zeroValue4
  t5 := Tryd.underlying5
  a5 := Tryd.isAgg5
  z5 := Tryd.sizeOf5
  v5 := Tryd.zeroValue5
  t9 := Tryd.underlying9
  a9 := Tryd.isAgg9
  z9 := Tryd.sizeOf9
  v9 := Tryd.zeroValue9
  t21 := Tryd.underlying21
  a21 := Tryd.isAgg21
  z21 := Tryd.sizeOf21
  v21 := Tryd.zeroValue21
  t46 := Tryd.underlying74
  a46 := Tryd.isAgg74
  z46 := Tryd.sizeOf74
  v46 := Tryd.zeroValue74
  t119 := Tryd.underlying73
  a119 := Tryd.isAgg73
  z119 := Tryd.sizeOf73
  t138 := Tryd.underlying76
  a138 := Tryd.isAgg76
  z138 := Tryd.sizeOf76
  v138 := Tryd.zeroValue76
  t139 := Tryd.underlying77
  a139 := Tryd.isAgg77
  z139 := Tryd.sizeOf77
  v139 := Tryd.zeroValue77
  g3 := by kernel_rfl
  g4 := by kernel_rfl }
end Go.Ev

namespace Go.Ev
open Go
/-- unicode/utf8.DecodeRuneInString -/
def utf8_DecodeRuneInString (_k : Nat) (s : List UInt8) : Option (Int × Int) := some (((Lib.decodeGo ⟨s.toArray⟩).1 : Int), ((Lib.decodeGo ⟨s.toArray⟩).2 : Int))
/-- math/bits.TrailingZeros, at sixteen alone. -/
def math_bits_TrailingZeros (_k : Nat) (x : Int) : Option Int := if x = 16 then some 4 else none
/-! The builder. -/
def bld_copyCheck (_k : Nat) (_l : List Int) : Option Unit := some ()
def bld_String (_k : Nat) (l : List Int) : Option (List UInt8) := if bytesEl (bytesStr l) = l then some (bytesStr l) else none
end Go.Ev

namespace Go.Ev
open Go Go.Proofs Go.Shelf
set_option maxRecDepth 100000

def Gl : World → Prop := fun w => Lib.Utf8Tabs 0 1 w ∧ (0 < w.heap.size ∧ 1 < w.heap.size)
theorem cell_lt {w : World} {p : Addr} {v : Value} (h : w.cell? p = some v) : p.block < w.heap.size := by
  refine Nat.lt_of_not_le fun hn => ?_
  have : w.heap[p.block]? = none := Array.getElem?_eq_none hn
  simp [World.cell?, this] at h
theorem Gl_of {w : World} (h : Lib.Utf8Tabs 0 1 w) : Gl w :=
  ⟨h, cell_lt (h.1 0 (by decide)), cell_lt (h.2 0 (by decide)).1⟩
theorem Gl_stable : ∀ w w', Frame w w' (fun _ => False) → Gl w → Gl w' := by
  rintro w w' hf ⟨⟨h1, h2⟩, b1, b2⟩
  have k1 : ∀ c, w'.cell? ⟨0, c, none⟩ = w.cell? ⟨0, c, none⟩ := fun c => World.cell?_of_block (w := w) (hf.block _ b1 id)
  have k2 : ∀ c, w'.cell? ⟨1, c, none⟩ = w.cell? ⟨1, c, none⟩ := fun c => World.cell?_of_block (w := w) (hf.block _ b2 id)
  refine ⟨⟨fun c hc => by rw [k1]; exact h1 c hc, fun i hi => by rw [k2, k2]; exact h2 i hi⟩, Nat.lt_of_lt_of_le b1 hf.size, Nat.lt_of_lt_of_le b2 hf.size⟩

def C_unicode_utf8_DecodeRuneInString (k : Nat) : FnC := ⟨true, 2, [], fun | [⟨.str, s⟩], [⟨.int .i32, r⟩, ⟨.int .i64, n⟩] => utf8_DecodeRuneInString k s = some (r, n) | _, _ => False⟩
theorem c_unicode_utf8_DecodeRuneInString (k : Nat) : Contract Tryd.prog Gl 25 (C_unicode_utf8_DecodeRuneInString k) where
  enters := enters_of Tryd.func25 (by kernel_rfl) rfl
  shape := fun xs rs h => by
    unfold C_unicode_utf8_DecodeRuneInString at h
    simp only at h
    split at h
    · exact ⟨rfl, fun _ u hu => by simp at hu; (rcases hu with rfl | rfl) <;> rfl⟩
    · exact h.elim
  calls := fun w M vs xs rs hG hM h hv => by
    unfold C_unicode_utf8_DecodeRuneInString at h
    simp only at h
    split at h
    case h_2 => exact h.elim
    rename_i s r n
    match vs, hv with
    | [v], ⟨hv, _⟩ =>
      have hs : v = .string ⟨s.toArray⟩ := by
        have := (show rep w M .str [v] s from hv).1
        simpa using this
      subst hs
      refine (Any.utf8_DecodeRuneInString Llays197 ⟨s.toArray⟩ w hG.1).mono ?_
      rintro e w' ⟨rfl, hb⟩
      cases h
      exact ⟨_, rfl, ⟨[_, _], rfl, rfl, rfl, trivial⟩, Ext.of_below hb⟩

theorem u8x : U8Extra Tryd.prog Llays260_ren := ⟨by kernel_rfl, by kernel_rfl, by kernel_rfl, by kernel_rfl, by kernel_rfl, by kernel_rfl, by kernel_rfl⟩
theorem Gl_of_reads {w : World} (h3 : Lib.VarReads Tryd.prog w "unicode/utf8.first" Lib.firstData) (h4 : Lib.VarReads Tryd.prog w "unicode/utf8.acceptRanges" Lib.acceptData) : Gl w :=
  Gl_of (utf8Tabs_of_reads Llays260 u8x h3 h4)
end Go.Ev

namespace Go.Ev
open Go Go.Proofs Go.RowKit
set_option maxRecDepth 100000
set_option maxHeartbeats 1000000

theorem bld_size : (Tryd.prog.info? 59).map (·.size) = some 2 := by kernel_rfl
theorem bld_lies : liesAt Tryd.prog Tryd.prog.depth 59 (2 / Tryd.prog.cellsOf 59) 0 59 1 = true := by kernel_rfl

theorem copyCheck_used (b : Nat) (w : World) (h0 : w.cell? ⟨b, 0, none⟩ = some (.pointer (some ⟨b, 0, none⟩))) :
    Calls Tryd.prog 62 #[.pointer (some ⟨b, 0, none⟩)] w fun e w' => e = .returned (.tuple #[]) ∧ w' = w := by
  obtain ⟨j, hj, _⟩ := Option.map_eq_some_iff.1 bld_size
  go_enter Tryd.func62, Tryd.ntmps62
  go_wp2
  rw [Lib.run_neq_ptr_same w _ Tryd.underlying57 hj]
  go_wp2
  go_end0
  exact ⟨rfl, rfl⟩

theorem copyCheck_fresh (b : Nat) (w : World) (h0 : w.cell? ⟨b, 0, none⟩ = some (.pointer none)) (hsh : w.shape? b = some (59, 2)) (hfz : w.frozen? ⟨b, 0, none⟩ = false) :
    Calls Tryd.prog 62 #[.pointer (some ⟨b, 0, none⟩)] w fun e w' => e = .returned (.tuple #[]) ∧ w' = w.setCell ⟨b, 0, none⟩ (.pointer (some ⟨b, 0, none⟩)) := by
  obtain ⟨j, hj, hjs⟩ := Option.map_eq_some_iff.1 bld_size
  go_enter Tryd.func62, Tryd.ntmps62
  go_wp2
  rw [Lib.run_to_unsafe w ⟨b, 0, none⟩ Tryd.underlying57 Tryd.underlying98 hj (by rw [hjs]; decide) hsh (Nat.zero_lt_succ 1)]
  simp only [Result.andThen]
  rw [Oper.upon_value]
  go_wp2
  rw [run_callFunc_extern Tryd.func75 (by kernel_rfl) (by kernel_rfl) (by kernel_rfl) (e := Extern.AbiNoEscape.same) (by kernel_rfl)]
  rw [Lib.run_noEscape]
  simp only [Result.andThen]
  rw [Oper.upon_value]
  go_wp2
  rw [Lib.run_from_unsafe w ⟨b, 0, none⟩ Tryd.underlying98 Tryd.underlying57 hj hsh bld_lies]
  simp only [Result.andThen]
  rw [Oper.upon_value]
  go_wp2
  go_end0
  exact ⟨rfl, rfl⟩

theorem tz16 (w : World) (h : w.cell? ⟨7, 15, none⟩ = some (.int .u8 4)) :
    Calls Tryd.prog 98 #[.int .u64 16] w fun e w' => e = .returned (.int .i64 4) ∧ w' = w := by
  have e : (IntKind.u64.wrap (bits BinOp.and IntKind.u64 16 (IntKind.u64.wrap (-16)) * 285870213051353865) / 288230376151711744) = 15 := by decide +kernel
  have e' : (15 : Int).toNat = 15 := rfl
  have h' : w.cell? ⟨7, (IntKind.u64.wrap (bits BinOp.and IntKind.u64 16 (IntKind.u64.wrap (-16)) * 285870213051353865) / 288230376151711744).toNat, none⟩ = some (.int .u8 4) := by rw [e]; exact h
  go_enter Tryd.func98, Tryd.ntmps98
  go_wp2
  all_goals go_wp2
  go_ret
  exact ⟨rfl, rfl⟩

theorem u8_cells : Tryd.prog.cellsOf 5 = 1 := by kernel_rfl
theorem bldString_row (b g cap : Nat) (p : Value) (cur : Array Value) (l : List UInt8) (w : World) (h0 : l ≠ []) (hb : w.heap[b]? = some (.cells #[p, .slice (some ⟨g, 0, none⟩) l.length cap] 59 (0, 0)))
    (hg : w.heap[g]? = some (.cells cur 5 (0, 0))) (hnc : l.length ≤ cap) (hcm : cap ≤ maxLen) (hcs : cur.size = cap) (hl : ∀ (j : Nat) (x : UInt8), l[j]? = some x → cur[j]? = some (Value.int .u8 (x.toNat : Int))) :
    Calls Tryd.prog 49 #[.pointer (some ⟨b, 0, none⟩)] w fun e w' => e = .returned (.string ⟨l.toArray⟩) ∧ w' = w.drew.freeze ⟨g, 0, none⟩ l.length := by
  have hl0 : 0 < l.length := List.length_pos_iff.2 h0
  have c1 : w.drew.cell? ⟨b, 1, none⟩ = some (.slice (some ⟨g, 0, none⟩) l.length cap) := by
    have : w.drew.heap[b]? = some (.cells #[p, .slice (some ⟨g, 0, none⟩) l.length cap] 59 (0, 0)) := hb
    rw [Lib.cell_of_heap this]; rfl
  have k1 : (Builtin.unsafeSliceData_ #[54] 84 #[.slice (some ⟨g, 0, none⟩) l.length cap]).run Tryd.prog w.drew = .ok (.pointer (some ⟨g, 0, none⟩)) w.drew :=
    Lib.run_unsafeSliceData_row _ _ _ _ _ _ (by omega)
  have k2 : (Builtin.unsafeString_ #[84, 3] 9 #[.pointer (some ⟨g, 0, none⟩), .int .i64 l.length]).run Tryd.prog w.drew = .ok (.string ⟨l.toArray⟩) (w.drew.freeze ⟨g, 0, none⟩ l.length) := by
    have hg' : w.drew.heap[g]? = some (.cells cur 5 (0, 0)) := hg
    refine Lib.run_unsafeString_row w.drew 84 3 9 5 Tryd.underlying84 u8_cells g cur.size (by simp [World.shape?, hg']) l h0 (by omega) (by unfold maxLen at hcm; omega) ?_
    intro j x hx
    have ea : (⟨g, 0, none⟩ : Addr).add j = ⟨g, 0 + j, none⟩ := by unfold Addr.add; split <;> simp_all
    rw [ea, Lib.cell_of_heap hg', Nat.zero_add]
    exact hl j x hx
  have mixed : Tryd.prog.follows .mixedOrders = true := by kernel_rfl
  go_enter Tryd.func49, Tryd.ntmps49
  go_wp2
  go_region_o
  all_goals (go_wp2; go_ret; exact ⟨rfl, rfl⟩)

theorem bldString_nil (b : Nat) (p : Value) (w : World) (hb : w.heap[b]? = some (.cells #[p, .slice none 0 0] 59 (0, 0))) :
    Calls Tryd.prog 49 #[.pointer (some ⟨b, 0, none⟩)] w fun e w' => e = .returned (.string ⟨#[]⟩) ∧ Below w.heap.size w w' := by
  have c1 : w.drew.cell? ⟨b, 1, none⟩ = some (.slice none 0 0) := by
    have : w.drew.heap[b]? = some (.cells #[p, .slice none 0 0] 59 (0, 0)) := hb
    rw [Lib.cell_of_heap this]; rfl
  have k1 : (Builtin.unsafeSliceData_ #[54] 84 #[.slice none 0 0]).run Tryd.prog w.drew = .ok (.pointer none) w.drew := rfl
  have k2 := Lib.run_unsafeString_none (P := Tryd.prog) (w := w.drew) 84 3 9
  have k3 : (ByteArray.empty) = ⟨#[]⟩ := rfl
  have mixed : Tryd.prog.follows .mixedOrders = true := by kernel_rfl
  go_enter Tryd.func49, Tryd.ntmps49
  go_wp2
  go_region_o
  all_goals (go_wp2; go_ret; exact ⟨rfl, (Below.refl _ w).drew⟩)

theorem bldString_room (b g cap : Nat) (p : Value) (w : World) (hc : cap ≠ 0) (hb : w.heap[b]? = some (.cells #[p, .slice (some ⟨g, 0, none⟩) 0 cap] 59 (0, 0))) :
    Calls Tryd.prog 49 #[.pointer (some ⟨b, 0, none⟩)] w fun e w' => e = .returned (.string ⟨#[]⟩) ∧ Below w.heap.size w w' := by
  have c1 : w.drew.cell? ⟨b, 1, none⟩ = some (.slice (some ⟨g, 0, none⟩) 0 cap) := by
    have : w.drew.heap[b]? = some (.cells #[p, .slice (some ⟨g, 0, none⟩) 0 cap] 59 (0, 0)) := hb
    rw [Lib.cell_of_heap this]; rfl
  have k1 : (Builtin.unsafeSliceData_ #[54] 84 #[.slice (some ⟨g, 0, none⟩) 0 cap]).run Tryd.prog w.drew = .ok (.pointer (some ⟨g, 0, none⟩)) w.drew :=
    Lib.run_unsafeSliceData_row _ _ _ _ _ _ hc
  have k2 := Lib.run_unsafeString_none (P := Tryd.prog) (w := w.drew) 84 3 9
  have mixed : Tryd.prog.follows .mixedOrders = true := by kernel_rfl
  go_enter Tryd.func49, Tryd.ntmps49
  go_wp2
  go_region_o
  all_goals (go_wp2; go_ret; exact ⟨rfl, (Below.refl _ w).drew⟩)

theorem bldString_noroom (b g : Nat) (p : Value) (cur : Array Value) (w : World) (hb : w.heap[b]? = some (.cells #[p, .slice (some ⟨g, 0, none⟩) 0 0] 59 (0, 0))) (hg : w.heap[g]? = some (.cells cur 5 (0, 0))) :
    Calls Tryd.prog 49 #[.pointer (some ⟨b, 0, none⟩)] w fun e w' => e = .returned (.string ⟨#[]⟩) ∧ Below w.heap.size w w' := by
  have hbl : b < w.heap.size := (Array.getElem?_eq_some_iff.1 hb).1
  have hb1 : w.drew.heap[b]? = some (.cells #[p, .slice (some ⟨g, 0, none⟩) 0 0] 59 (0, 0)) := hb
  have hg1 : w.drew.heap[g]? = some (.cells cur 5 (0, 0)) := hg
  have c1 : w.drew.cell? ⟨b, 1, none⟩ = some (.slice (some ⟨g, 0, none⟩) 0 0) := by
    rw [Lib.cell_of_heap hb1]; rfl
  have c2 : (w.drew.alloc (.view ⟨g, 0, none⟩ 5)).cell? ⟨b, 1, none⟩ = some (.slice (some ⟨g, 0, none⟩) 0 0) := by
    rw [World.cell?_of_block (w := w.drew) (Below.heap_alloc w.drew _ b hbl)]; exact c1
  have k1 : (Builtin.unsafeSliceData_ #[54] 84 #[.slice (some ⟨g, 0, none⟩) 0 0]).run Tryd.prog w.drew = .ok (.pointer (some ⟨w.drew.heap.size, 0, none⟩)) (w.drew.alloc (.view ⟨g, 0, none⟩ 5)) :=
    Lib.run_unsafeSliceData_zero w.drew _ _ _ Tryd.underlying84 _ _ (5, cur.size) (by simp [World.shape?, hg1])
  have k2 := Lib.run_unsafeString_none (P := Tryd.prog) (w := w.drew.alloc (.view ⟨g, 0, none⟩ 5)) 84 3 9
  have k3 := Lib.run_unsafeString_none (P := Tryd.prog) (w := (w.alloc (.view ⟨g, 0, none⟩ 5)).drew) 84 3 9
  have c3 : w.cell? ⟨b, 1, none⟩ = some (.slice (some ⟨g, 0, none⟩) 0 0) := c1
  have mixed : Tryd.prog.follows .mixedOrders = true := by kernel_rfl
  have hw : Below w.heap.size w (w.drew.alloc (.view ⟨g, 0, none⟩ 5)) := ⟨rfl, rfl, rfl, by simp, fun k hk => Below.heap_alloc w.drew _ k hk⟩
  go_enter Tryd.func49, Tryd.ntmps49
  go_wp2
  go_region_o
  all_goals (go_wp2; go_ret; exact ⟨rfl, hw⟩)
end Go.Ev

namespace Go.Ev
open Go Go.Proofs Go.RowKit
set_option maxRecDepth 100000

def deB : List Int := [0, 1, 56, 2, 57, 49, 28, 3, 61, 58, 42, 50, 38, 29, 17, 4, 62, 47, 59, 36, 45, 43, 51, 22, 53, 39, 33, 30, 24, 18, 12, 5, 63, 55, 48, 27, 60, 41, 37, 16, 46, 35, 44, 21, 52, 32, 23, 11, 54, 26, 40, 15, 34, 20, 31, 10, 25, 14, 19, 9, 13, 8, 7, 6]
def Gt : World → Prop := fun w => Gl w ∧ (w.cell? ⟨7, 15, none⟩ = some (.int .u8 4) ∧ 7 < w.heap.size)
theorem Gt_Gl : ∀ w, Gt w → Gl w := fun _ h => h.1
theorem Gt_stable : ∀ w w', Frame w w' (fun _ => False) → Gt w → Gt w' := by
  rintro w w' hf ⟨h1, h2, h3⟩
  refine ⟨Gl_stable w w' hf h1, ?_, Nat.lt_of_lt_of_le h3 hf.size⟩
  rw [World.cell?_of_block (w := w) (hf.block _ h3 id)]
  exact h2
theorem Gt_of {w : World} (h : Gl w) (hr : Lib.VarReads Tryd.prog w "math/bits.deBruijn64tab" (Lib.tabData .u8 deB)) : Gt w := by
  have hc : w.cell? ⟨7, 15, none⟩ = some (.int .u8 4) := by
    obtain ⟨g, t, cs, fuel, p, hg, hty, hvar, hd⟩ := hr
    obtain rfl := Option.some.inj ((show Tryd.prog.globalNamed "math/bits.deBruijn64tab" = some 7 by kernel_rfl).symm.trans hg)
    obtain rfl := Option.some.inj ((show (Tryd.prog.globals[7]?).map (·.type) = some 128 by kernel_rfl).symm.trans hty)
    have hcs := Lib.cells_of_tab Tryd.underlying128 Tryd.underlying5 (by kernel_rfl) (by kernel_rfl) hd
    have := World.var?_cell hg hvar 15
    rw [this, ← Array.getElem?_toList, hcs]
    rfl
  exact ⟨h, hc, cell_lt hc⟩

theorem d_unicode_utf8_DecodeRuneInString (k : Nat) : Contract Tryd.prog Gt 25 (C_unicode_utf8_DecodeRuneInString k) := (c_unicode_utf8_DecodeRuneInString k).weaken Gt_Gl

/-- math/bits.TrailingZeros, at sixteen alone. -/
def C_math_bits_TrailingZeros (k : Nat) : FnC := ⟨true, 1, [], fun | [⟨.int .u64, x⟩], [⟨.int .i64, r⟩] => math_bits_TrailingZeros k x = some r | _, _ => False⟩
theorem d_math_bits_TrailingZeros (k : Nat) : Contract Tryd.prog Gt 98 (C_math_bits_TrailingZeros k) where
  enters := enters_of Tryd.func98 (by kernel_rfl) rfl
  shape := fun xs rs h => by
    unfold C_math_bits_TrailingZeros at h
    simp only at h
    split at h
    · exact ⟨rfl, fun _ u hu => by simp at hu; subst hu; rfl⟩
    · exact h.elim
  calls := fun w M vs xs rs hG hM h hv => by
    unfold C_math_bits_TrailingZeros at h
    simp only at h
    split at h
    case h_2 => exact h.elim
    rename_i x r
    match vs, hv with
    | [v], ⟨hv, _⟩ =>
      have hs : [v] = [Value.int .u64 x] := hv
      simp only [List.cons.injEq, and_true] at hs
      subst hs
      unfold math_bits_TrailingZeros at h
      split at h
      · rename_i hx
        subst hx
        cases h
        refine (tz16 w hG.2.1).mono ?_
        rintro e w' ⟨rfl, rfl⟩
        exact ⟨_, rfl, rfl, Ext.refl _⟩
      · cases h

/-! The builder's functions. -/
def B_bld_copyCheck (k : Nat) : FnB (List Int) Unit where
  n := 20
  S := fun z => ⟨[(0, .ptr 20 0)], [(20, .cells [.selfp 20, .row 21] 59)], [(21, ⟨5, .int .u8, z⟩)]⟩
  S' := fun z _ => ⟨[], [(20, .cells [.selfp 20, .row 21] 59)], [(21, ⟨5, .int .u8, z⟩)]⟩
  rs := fun _ _ => []
  rel := fun z y => bld_copyCheck k z = some y
def B_bld_String (k : Nat) : FnB (List Int) (List UInt8) where
  n := 14
  S := fun z => ⟨[(0, .ptr 14 0)], [(14, .cells [.selfp 14, .row 15] 59)], [(15, ⟨5, .int .u8, z⟩)]⟩
  S' := fun _ _ => ⟨[], [], []⟩
  rs := fun _ y => [SS y]
  rel := fun z y => bld_String k z = some y

theorem one_arg {n : Nat} {vs : List Value} {v : Value} (h1 : vs.length = 1) (h : (vs.toArray ++ Array.replicate (n - vs.toArray.size) undef)[0]? = some v) : vs = [v] := by
  match vs, h1 with
  | [u], _ =>
    rw [Array.getElem?_append_left (by simp)] at h
    simpa using h
theorem setCell_heap {w : World} {b i : Nat} {cs : Array Value} {t : TypeId} (h : w.heap[b]? = some (.cells cs t (0, 0))) (v : Value) : (w.setCell ⟨b, i, none⟩ v).heap[b]? = some (.cells (cs.setIfInBounds i v) t (0, 0)) := by
  simp [World.setCell, Array.getElem?_modify, h]
theorem setCell_far {w : World} {b i k : Nat} (v : Value) (h : k ≠ b) : (w.setCell ⟨b, i, none⟩ v).heap[k]? = w.heap[k]? := by
  simp [World.setCell, Array.getElem?_modify, Ne.symm h]

theorem b_bld_copyCheck (k : Nat) : BC Tryd.prog Gt 62 (B_bld_copyCheck k) where
  enters := enters_of Tryd.func62 (by kernel_rfl) rfl
  calls := by
    rintro cx hP hn hG z y hr vs w hlen ⟨m, hm⟩
    obtain ⟨v, hv0, g, hg1, rfl⟩ := hm.slots 0 (.ptr 20 0) List.mem_cons_self
    have hvs := one_arg (n := 20) hlen hv0
    subst hvs
    have hbx : (20, BX.cells [.selfp 20, .row 21] 59) ∈ ((B_bld_copyCheck k).S z).bx := List.mem_cons_self
    obtain ⟨g', e1, hplace, cells, e3, e4⟩ := hm.boxes _ _ hbx
    have : g' = g := by rw [hg1] at e1; cases e1; rfl
    subst this
    obtain ⟨p, u, hcs, h1, h2⟩ : ∃ p u, cells.toList = [p, u] ∧ (p = .pointer none ∨ p = m 20) ∧ u = m 21 := by
      match hc : cells.toList, e4 with
      | [p, u], ⟨h1, h2, _⟩ => exact ⟨p, u, rfl, h1, h2⟩
    have hcs' : cells = #[p, u] := Array.ext' (by rw [hcs])
    subst hcs'
    have hc0 : w.cell? ⟨g', 0, none⟩ = some p := by rw [cell_in e3]; rfl
    have hids : ∀ i, i ∈ St.ids ((B_bld_copyCheck k).S' z y) ↔ i ∈ St.ids ((B_bld_copyCheck k).S z) := fun i => Iff.rfl
    have hweak : ∀ {w'}, Rm cx m ((B_bld_copyCheck k).S z) ([Value.pointer (some ⟨g', 0, none⟩)].toArray ++ Array.replicate ((B_bld_copyCheck k).n - [Value.pointer (some ⟨g', 0, none⟩)].toArray.size) undef) w' → Rm cx m ((B_bld_copyCheck k).S' z y) ([Value.pointer (some ⟨g', 0, none⟩)].toArray ++ Array.replicate ((B_bld_copyCheck k).n - [Value.pointer (some ⟨g', 0, none⟩)].toArray.size) undef) w' :=
      fun h => h.weaken (fun i sv hi => by cases hi) (fun p hp => hp) (fun p hp => hp) h.keys
    rcases h1 with h1 | h1
    · subst h1
      refine (copyCheck_fresh g' w hc0 (by simp [World.shape?, e3]) (by simp [World.frozen?, e3])).mono ?_
      rintro e w' ⟨rfl, rfl⟩
      refine ⟨_, m, _, rfl, hweak ?_, trivial⟩
      have hheap : (w.setCell ⟨g', 0, none⟩ (.pointer (some ⟨g', 0, none⟩))).heap[g']? = some (.cells #[.pointer (some ⟨g', 0, none⟩), u] 59 (0, 0)) := setCell_heap (i := 0) e3 _
      have hn : Touch m w 20 (w.setCell ⟨g', 0, none⟩ (.pointer (some ⟨g', 0, none⟩))) := ⟨⟨rfl, rfl, rfl, by simp [World.setCell]⟩, fun b hb hne => setCell_far _ (fun e => hne (by rw [hg1, e]; rfl))⟩
      have := hm.setBox (c := BX.cells [.selfp 20, .row 21] 59) hbx hn (g := g') hg1 ⟨_, hheap, .inr hg1.symm, h2, trivial⟩
      exact this
    · refine (copyCheck_used g' w (by rw [hc0, h1, hg1])).mono ?_
      rintro e w' ⟨rfl, rfl⟩
      exact ⟨_, m, _, rfl, hweak hm, trivial⟩

theorem freeze_far {w : World} {b n k : Nat} (h : k ≠ b) : (w.freeze ⟨b, 0, none⟩ n).heap[k]? = w.heap[k]? := by
  unfold World.freeze
  split
  · rfl
  · simp [Array.getElem?_modify, Ne.symm h]
theorem freeze_size {w : World} {b n : Nat} : (w.freeze ⟨b, 0, none⟩ n).heap.size = w.heap.size ∧ (w.freeze ⟨b, 0, none⟩ n).os = w.os ∧ (w.freeze ⟨b, 0, none⟩ n).tape = w.tape ∧ (w.freeze ⟨b, 0, none⟩ n).output = w.output := by
  unfold World.freeze
  split <;> simp

theorem b_bld_String (k : Nat) : BC Tryd.prog Gt 49 (B_bld_String k) where
  enters := enters_of Tryd.func49 (by kernel_rfl) rfl
  calls := by
    rintro cx hP hn hG z y hr vs w hlen ⟨m, hm⟩
    obtain ⟨v, hv0, g, hg1, rfl⟩ := hm.slots 0 (.ptr 14 0) List.mem_cons_self
    have hvs := one_arg (n := 14) hlen hv0
    subst hvs
    have hbx : (14, BX.cells [.selfp 14, .row 15] 59) ∈ ((B_bld_String k).S z).bx := List.mem_cons_self
    obtain ⟨g', e1, hplace, cells, e3, e4⟩ := hm.boxes _ _ hbx
    have : g' = g := by rw [hg1] at e1; cases e1; rfl
    subst this
    obtain ⟨p, u, hcs, h1, h2⟩ : ∃ p u, cells.toList = [p, u] ∧ (p = .pointer none ∨ p = m 14) ∧ u = m 15 := by
      match hc : cells.toList, e4 with
      | [p, u], ⟨h1, h2, _⟩ => exact ⟨p, u, rfl, h1, h2⟩
    have hcs' : cells = #[p, u] := Array.ext' (by rw [hcs])
    subst hcs'
    have hrw : (15, (⟨5, .int .u8, z⟩ : RowC)) ∈ ((B_bld_String k).S z).rw := List.mem_cons_self
    obtain ⟨rc, hown, hout, hL⟩ := hm.rows _ _ hrw
    have hL' : rc = z.map (Value.int .u8) := repL_ints hL
    have hr : bld_String k z = some y := hr
    unfold bld_String at hr
    split at hr
    case isFalse => cases hr
    rename_i hz
    cases hr
    have done : ∀ {w' : World} {T : Array Value}, T.size = cx.n → Frame cx.w0 w' cx.X → Rm cx m ((B_bld_String k).S' z (bytesStr z)) T w' := fun hT hf =>
      { size := hT, frame := hf, outer := hm.outer, slots := (fun i sv hi => by cases hi), boxes := (fun i c hi => by cases hi), rows := (fun i c hi => by cases hi), apart := (fun i j hi => by cases hi), keys := List.nodup_nil, fixed := (fun i c hi => by cases hi) }
    have fr : ∀ {w' : World}, Below w.heap.size w w' → Frame cx.w0 w' cx.X := fun hb => hm.frame.step ⟨hb.os, hb.tape, hb.output, hb.size⟩ fun b hb' _ => hb.block b (Nat.lt_of_lt_of_le hb' hm.frame.size)
    have hlen0 : (bytesStr z).length = z.length := by simp [bytesStr]
    have hstr : ∀ (w' : World) (M : Nat → Prop), repS w' M m (.string ⟨#[]⟩) (SS (bytesStr [])) := fun w' M => (repV_str (w := w') (M := M)).2 ⟨rfl, by decide⟩
    have hstr2 : z.length ≤ maxLen → ∀ (w' : World) (M : Nat → Prop), repS w' M m (.string ⟨(bytesStr z).toArray⟩) (SS (bytesStr z)) := fun hm w' M => (repV_str (w := w') (M := M)).2 ⟨rfl, by rw [hlen0]; exact hm⟩
    rcases hown.2 with ⟨hv, hn0⟩ | ⟨gb, cap, cur, hv, _, hh, hle, hmax, hsz, htk⟩
    · rw [h2, hv] at e3
      have hz0 : z = [] := List.eq_nil_of_length_eq_zero hn0
      refine (bldString_nil g' p w e3).mono ?_
      rintro e w' ⟨rfl, hb⟩
      subst hz0
      exact ⟨_, m, _, rfl, done hm.size (fr hb), hstr _ _⟩
    · have hle : z.length ≤ cap := hle
      have hsz : cur.size = cap := hsz.trans (Nat.mul_one cap)
      have htk : cur.toList.take z.length = rc := (congrArg (fun n => List.take n cur.toList) (Nat.mul_one z.length).symm).trans htk
      rw [h2, hv] at e3
      by_cases hz0 : z = []
      · subst hz0
        by_cases hc0 : cap = 0
        · subst hc0
          refine (bldString_noroom g' gb p cur w e3 hh).mono ?_
          rintro e w' ⟨rfl, hb⟩
          exact ⟨_, m, _, rfl, done hm.size (fr hb), hstr _ _⟩
        · refine (bldString_room g' gb cap p w hc0 e3).mono ?_
          rintro e w' ⟨rfl, hb⟩
          exact ⟨_, m, _, rfl, done hm.size (fr hb), hstr _ _⟩
      · have hne : bytesStr z ≠ [] := by
          intro e
          have := congrArg List.length e
          rw [hlen0] at this
          exact hz0 (List.eq_nil_of_length_eq_zero this)
        have e3' : w.heap[g']? = some (.cells #[p, .slice (some ⟨gb, 0, none⟩) (bytesStr z).length cap] 59 (0, 0)) := by rw [hlen0]; exact e3
        refine (bldString_row g' gb cap p cur (bytesStr z) w hne e3' hh (by rw [hlen0]; exact hle) hmax hsz ?_).mono ?_
        · intro j x hx
          have hj : j < z.length := by rw [← hlen0]; exact (List.getElem?_eq_some_iff.1 hx).1
          have h5 : (bytesEl (bytesStr z))[j]? = some (x.toNat : Int) := by unfold bytesEl; rw [List.getElem?_map, hx]; rfl
          rw [hz] at h5
          have h6 : rc[j]? = some (Value.int .u8 (x.toNat : Int)) := by rw [hL', List.getElem?_map, h5]; rfl
          rw [← htk, List.getElem?_take, if_pos hj] at h6
          rw [← Array.getElem?_toList]
          exact h6
        · rintro e w' ⟨rfl, rfl⟩
          obtain ⟨f1, f2, f3, f4⟩ := freeze_size (w := w.drew) (b := gb) (n := (bytesStr z).length)
          have hgb := hout gb (by rw [hv]; rfl)
          refine ⟨_, m, _, rfl, done hm.size (hm.frame.step ⟨f2, f3, f4, by rw [f1]; exact Nat.le_refl _⟩ fun b hb' hX => ?_), hstr2 (Nat.le_trans hle hmax) _ _⟩
          refine freeze_far (w := w.drew) ?_
          rintro rfl
          rcases hgb with hgb | hgb
          · omega
          · exact hX hgb
end Go.Ev

namespace Go.Ev
open Go Go.Proofs Go.RowKit
set_option maxRecDepth 100000

theorem bldString_rowF (b g cap : Nat) (p : Value) (cur : Array Value) (fz : Nat × Nat) (l : List UInt8) (w : World) (h0 : l ≠ []) (hb : w.heap[b]? = some (.cells #[p, .slice (some ⟨g, 0, none⟩) l.length cap] 59 (0, 0)))
    (hg : w.heap[g]? = some (.cells cur 5 fz)) (hnc : l.length ≤ cap) (hcm : cap ≤ maxLen) (hcs : cur.size = cap) (hl : ∀ (j : Nat) (x : UInt8), l[j]? = some x → cur[j]? = some (Value.int .u8 (x.toNat : Int))) :
    Calls Tryd.prog 49 #[.pointer (some ⟨b, 0, none⟩)] w fun e w' => e = .returned (.string ⟨l.toArray⟩) ∧ w' = w.drew.freeze ⟨g, 0, none⟩ l.length := by
  have hl0 : 0 < l.length := List.length_pos_iff.2 h0
  have c1 : w.drew.cell? ⟨b, 1, none⟩ = some (.slice (some ⟨g, 0, none⟩) l.length cap) := by
    have : w.drew.heap[b]? = some (.cells #[p, .slice (some ⟨g, 0, none⟩) l.length cap] 59 (0, 0)) := hb
    rw [Lib.cell_of_heap this]; rfl
  have k1 : (Builtin.unsafeSliceData_ #[54] 84 #[.slice (some ⟨g, 0, none⟩) l.length cap]).run Tryd.prog w.drew = .ok (.pointer (some ⟨g, 0, none⟩)) w.drew :=
    Lib.run_unsafeSliceData_row _ _ _ _ _ _ (by omega)
  have k2 : (Builtin.unsafeString_ #[84, 3] 9 #[.pointer (some ⟨g, 0, none⟩), .int .i64 l.length]).run Tryd.prog w.drew = .ok (.string ⟨l.toArray⟩) (w.drew.freeze ⟨g, 0, none⟩ l.length) := by
    have hg' : w.drew.heap[g]? = some (.cells cur 5 fz) := hg
    refine Lib.run_unsafeString_row w.drew 84 3 9 5 Tryd.underlying84 u8_cells g cur.size (by simp [World.shape?, hg']) l h0 (by omega) (by unfold maxLen at hcm; omega) ?_
    intro j x hx
    have ea : (⟨g, 0, none⟩ : Addr).add j = ⟨g, 0 + j, none⟩ := by unfold Addr.add; split <;> simp_all
    rw [ea, Lib.cell_of_heap hg', Nat.zero_add]
    exact hl j x hx
  have mixed : Tryd.prog.follows .mixedOrders = true := by kernel_rfl
  go_enter Tryd.func49, Tryd.ntmps49
  go_wp2
  go_region_o
  all_goals (go_wp2; go_ret; exact ⟨rfl, rfl⟩)

theorem bldString_noroomF (b g : Nat) (p : Value) (cur : Array Value) (fz : Nat × Nat) (w : World) (hb : w.heap[b]? = some (.cells #[p, .slice (some ⟨g, 0, none⟩) 0 0] 59 (0, 0))) (hg : w.heap[g]? = some (.cells cur 5 fz)) :
    Calls Tryd.prog 49 #[.pointer (some ⟨b, 0, none⟩)] w fun e w' => e = .returned (.string ⟨#[]⟩) ∧ Below w.heap.size w w' := by
  have hbl : b < w.heap.size := (Array.getElem?_eq_some_iff.1 hb).1
  have hb1 : w.drew.heap[b]? = some (.cells #[p, .slice (some ⟨g, 0, none⟩) 0 0] 59 (0, 0)) := hb
  have hg1 : w.drew.heap[g]? = some (.cells cur 5 fz) := hg
  have c1 : w.drew.cell? ⟨b, 1, none⟩ = some (.slice (some ⟨g, 0, none⟩) 0 0) := by
    rw [Lib.cell_of_heap hb1]; rfl
  have c2 : (w.drew.alloc (.view ⟨g, 0, none⟩ 5)).cell? ⟨b, 1, none⟩ = some (.slice (some ⟨g, 0, none⟩) 0 0) := by
    rw [World.cell?_of_block (w := w.drew) (Below.heap_alloc w.drew _ b hbl)]; exact c1
  have k1 : (Builtin.unsafeSliceData_ #[54] 84 #[.slice (some ⟨g, 0, none⟩) 0 0]).run Tryd.prog w.drew = .ok (.pointer (some ⟨w.drew.heap.size, 0, none⟩)) (w.drew.alloc (.view ⟨g, 0, none⟩ 5)) :=
    Lib.run_unsafeSliceData_zero w.drew _ _ _ Tryd.underlying84 _ _ (5, cur.size) (by simp [World.shape?, hg1])
  have k2 := Lib.run_unsafeString_none (P := Tryd.prog) (w := w.drew.alloc (.view ⟨g, 0, none⟩ 5)) 84 3 9
  have k3 := Lib.run_unsafeString_none (P := Tryd.prog) (w := (w.alloc (.view ⟨g, 0, none⟩ 5)).drew) 84 3 9
  have c3 : w.cell? ⟨b, 1, none⟩ = some (.slice (some ⟨g, 0, none⟩) 0 0) := c1
  have mixed : Tryd.prog.follows .mixedOrders = true := by kernel_rfl
  have hw : Below w.heap.size w (w.drew.alloc (.view ⟨g, 0, none⟩ 5)) := ⟨rfl, rfl, rfl, by simp, fun k hk => Below.heap_alloc w.drew _ k hk⟩
  go_enter Tryd.func49, Tryd.ntmps49
  go_wp2
  go_region_o
  all_goals (go_wp2; go_ret; exact ⟨rfl, hw⟩)
/-- A builder that holds these bytes and is written no more. -/
def BldF (z : List Int) (w : World) (M : Nat → Prop) (g : Nat) : Prop :=
  ∃ p u, w.heap[g]? = some (.cells #[p, u] 59 (0, 0)) ∧ (p = .pointer none ∨ p = .pointer (some ⟨g, 0, none⟩)) ∧
    ((u = .slice none 0 0 ∧ z = []) ∨ ∃ gb cap cur fz, u = .slice (some ⟨gb, 0, none⟩) z.length cap ∧ w.heap[gb]? = some (.cells cur 5 fz) ∧ (z = [] ∨ fz = (0, z.length)) ∧ z.length ≤ cap ∧ cap ≤ maxLen ∧ cur.size = cap ∧
      cur.toList.take z.length = z.map (Value.int .u8) ∧ ¬ M gb ∧ gb ≠ g)

def B_bld_StringR (k : Nat) : FnB (List Int) (List UInt8) where
  n := 14
  S := fun z => ⟨[(0, .ptr 14 0)], [(14, .raw (BldF z))], []⟩
  S' := fun z _ => ⟨[], [(14, .raw (BldF z))], []⟩
  rs := fun _ y => [SS y]
  rel := fun z y => bld_String k z = some y
def B_bld_StringK (k : Nat) : FnB (List Int) (List UInt8) where
  n := 14
  S := fun z => ⟨[(0, .ptr 14 0)], [(14, .cells [.selfp 14, .row 15] 59)], [(15, ⟨5, .int .u8, z⟩)]⟩
  S' := fun z _ => ⟨[], [(14, .raw (BldF z))], []⟩
  rs := fun _ y => [SS y]
  rel := fun z y => bld_String k z = some y

theorem BldF.ext {z : List Int} {w w' : World} {M M' : Nat → Prop} {g : Nat} (h : BldF z w M g) (a1 : ∀ b, b < w.heap.size → ¬ M b → w'.heap[b]? = w.heap[b]?) (a2 : ∀ b, b < w.heap.size → M' b → M b) (a3 : w'.heap[g]? = w.heap[g]?) : BldF z w' M' g := by
  obtain ⟨p, u, h1, h2, h3⟩ := h
  refine ⟨p, u, by rw [a3]; exact h1, h2, h3.imp id ?_⟩
  rintro ⟨gb, cap, cur, fz, e1, e2, e9, e3, e4, e5, e6, e7, e8⟩
  have hlt := heap_some_lt e2
  exact ⟨gb, cap, cur, fz, e1, by rw [a1 gb hlt e7]; exact e2, e9, e3, e4, e5, e6, fun hc => e7 (a2 gb hlt hc), e8⟩

theorem BldF.lt {z : List Int} {w : World} {M : Nat → Prop} {g : Nat} (h : BldF z w M g) : g < w.heap.size := by
  obtain ⟨p, u, q, _⟩ := h
  exact heap_some_lt q
theorem freeze_row {w : World} {gb n : Nat} {cur : Array Value} {t : TypeId} {fz : Nat × Nat} (hn : n ≠ 0) (hf : fz = (0, 0) ∨ fz = (0, n)) (h : w.heap[gb]? = some (.cells cur t fz)) : (w.freeze ⟨gb, 0, none⟩ n).heap[gb]? = some (.cells cur t (0, n)) := by
  unfold World.freeze
  rw [if_neg hn]
  rcases hf with rfl | rfl
  · simp [Array.getElem?_modify, h]
  · simp only [Array.getElem?_modify, h, if_true, Option.map_some, Option.some.injEq, Obj.cells.injEq, true_and]
    split
    · simp
    · simp

/-- The text of a builder that is written no more. -/
theorem bldString_R (g : Nat) (z : List Int) (w : World) (M : Nat → Prop) (h : BldF z w M g) (hz : bytesEl (bytesStr z) = z) :
    Calls Tryd.prog 49 #[.pointer (some ⟨g, 0, none⟩)] w fun e w' => e = .returned (.string ⟨(bytesStr z).toArray⟩) ∧ z.length ≤ maxLen ∧ Below w.heap.size w w' := by
  obtain ⟨p, u, e3, h2, h3⟩ := h
  have hlen0 : (bytesStr z).length = z.length := by simp [bytesStr]
  rcases h3 with ⟨rfl, rfl⟩ | ⟨gb, cap, cur, fz, rfl, hh, hfz, hle, hmax, hsz, htk, hM, hg⟩
  · refine (bldString_nil g p w e3).mono ?_
    rintro e w' ⟨rfl, hb⟩
    exact ⟨rfl, by decide, hb⟩
  · by_cases hz0 : z = []
    · subst hz0
      by_cases hc0 : cap = 0
      · subst hc0
        refine (bldString_noroomF g gb p cur fz w e3 hh).mono ?_
        rintro e w' ⟨rfl, hb⟩
        exact ⟨rfl, by decide, hb⟩
      · refine (bldString_room g gb cap p w hc0 e3).mono ?_
        rintro e w' ⟨rfl, hb⟩
        exact ⟨rfl, by decide, hb⟩
    · have hne : bytesStr z ≠ [] := by
        intro e
        have := congrArg List.length e
        rw [hlen0] at this
        exact hz0 (List.eq_nil_of_length_eq_zero this)
      have e3' : w.heap[g]? = some (.cells #[p, .slice (some ⟨gb, 0, none⟩) (bytesStr z).length cap] 59 (0, 0)) := by rw [hlen0]; exact e3
      refine (bldString_rowF g gb cap p cur fz (bytesStr z) w hne e3' hh (by rw [hlen0]; exact hle) hmax hsz ?_).mono ?_
      · intro j x hx
        have hj : j < z.length := by rw [← hlen0]; exact (List.getElem?_eq_some_iff.1 hx).1
        have h5 : (bytesEl (bytesStr z))[j]? = some (x.toNat : Int) := by unfold bytesEl; rw [List.getElem?_map, hx]; rfl
        rw [hz] at h5
        have h6 : (cur.toList.take z.length)[j]? = some (Value.int .u8 (x.toNat : Int)) := by rw [htk, List.getElem?_map, h5]; rfl
        rw [List.getElem?_take, if_pos hj] at h6
        rw [← Array.getElem?_toList]
        exact h6
      · rintro e w' ⟨rfl, rfl⟩
        rw [hlen0]
        have hfz := hfz.resolve_left hz0
        obtain ⟨f1, f2, f3, f4⟩ := freeze_size (w := w.drew) (b := gb) (n := z.length)
        refine ⟨rfl, Nat.le_trans hle hmax, f2, f3, f4, by rw [f1]; exact Nat.le_refl _, fun b _ => ?_⟩
        by_cases hb : b = gb
        · subst hb
          have hn0 : z.length ≠ 0 := fun e => hz0 (List.eq_nil_of_length_eq_zero e)
          rw [freeze_row (w := w.drew) hn0 (.inr hfz) (show w.drew.heap[b]? = _ from hh), hh, hfz]
        · exact freeze_far (w := w.drew) hb

theorem b_bld_StringR (k : Nat) : BC Tryd.prog Gt 49 (B_bld_StringR k) where
  enters := enters_of Tryd.func49 (by kernel_rfl) rfl
  calls := by
    rintro cx hP hn hG z y hr vs w hlen ⟨m, hm⟩
    obtain ⟨v, hv0, g, hg1, rfl⟩ := hm.slots 0 (.ptr 14 0) List.mem_cons_self
    have hvs := one_arg (n := 14) hlen hv0
    subst hvs
    have hbx : (14, BX.raw (BldF z)) ∈ ((B_bld_StringR k).S z).bx := List.mem_cons_self
    obtain ⟨g', e1, hplace, ho, hf⟩ := hm.boxes _ _ hbx
    have : g' = g := by rw [hg1] at e1; cases e1; rfl
    subst this
    have hB := hf w (Mut cx m ((B_bld_StringR k).S z).ids) (fun _ _ _ => rfl) (fun _ _ h => h) rfl
    have hr : bld_String k z = some y := hr
    unfold bld_String at hr
    split at hr
    case isFalse => cases hr
    rename_i hz
    cases hr
    refine (bldString_R g' z w _ hB hz).mono ?_
    rintro e w' ⟨rfl, hzl, hb⟩
    have hfr : Frame cx.w0 w' cx.X := hm.frame.step ⟨hb.os, hb.tape, hb.output, hb.size⟩ fun b hb' _ => hb.block b (Nat.lt_of_lt_of_le hb' hm.frame.size)
    have hB' : BldF z w' (Mut cx m ((B_bld_StringR k).S z).ids) g' := hB.ext (fun b hb' _ => hb.block b hb') (fun _ _ h => h) (hb.block g' hB.lt)
    have done : ∀ {T : Array Value}, T.size = cx.n → Rm cx m ((B_bld_StringR k).S' z (bytesStr z)) T w' := fun hT =>
      { size := hT, frame := hfr, outer := hm.outer, slots := (fun i sv hi => by cases hi), keys := hm.keys
        boxes := by
          intro b c hbc
          have : (b, c) = (14, BX.raw (BldF z)) := by simpa [B_bld_StringR] using hbc
          cases this
          exact ⟨g', hg1, hplace, (by obtain ⟨p, u, q, _⟩ := hB'; exact ⟨_, q⟩), fun w2 M2 a1 a2 a3 => hB'.ext a1 a2 a3⟩
        rows := (fun i c hi => by cases hi), apart := hm.apart, fixed := hm.fixed }
    exact ⟨_, m, _, rfl, done hm.size, (repV_str (w := w') (M := Mut cx m ((B_bld_StringR k).S' z (bytesStr z)).ids)).2 ⟨rfl, by simp [bytesStr]; exact hzl⟩⟩

theorem b_bld_StringK (k : Nat) : BC Tryd.prog Gt 49 (B_bld_StringK k) where
  enters := enters_of Tryd.func49 (by kernel_rfl) rfl
  calls := by
    rintro cx hP hn hG z y hr vs w hlen ⟨m, hm⟩
    obtain ⟨v, hv0, g, hg1, rfl⟩ := hm.slots 0 (.ptr 14 0) List.mem_cons_self
    have hvs := one_arg (n := 14) hlen hv0
    subst hvs
    have hbx : (14, BX.cells [.selfp 14, .row 15] 59) ∈ ((B_bld_StringK k).S z).bx := List.mem_cons_self
    obtain ⟨g', e1, hplace, cells, e3, e4⟩ := hm.boxes _ _ hbx
    have : g' = g := by rw [hg1] at e1; cases e1; rfl
    subst this
    obtain ⟨p, u, hcs, h1, h2⟩ : ∃ p u, cells.toList = [p, u] ∧ (p = .pointer none ∨ p = m 14) ∧ u = m 15 := by
      match hc : cells.toList, e4 with
      | [p, u], ⟨h1, h2, _⟩ => exact ⟨p, u, rfl, h1, h2⟩
    have hcs' : cells = #[p, u] := Array.ext' (by rw [hcs])
    subst hcs'
    have hrw : (15, (⟨5, .int .u8, z⟩ : RowC)) ∈ ((B_bld_StringK k).S z).rw := List.mem_cons_self
    obtain ⟨rc, hown, hout, hL⟩ := hm.rows _ _ hrw
    have hL' : rc = z.map (Value.int .u8) := repL_ints hL
    have hr : bld_String k z = some y := hr
    unfold bld_String at hr
    split at hr
    case isFalse => cases hr
    rename_i hz
    cases hr
    rw [hg1] at h1
    have hids : ∀ b, Mut cx m ((B_bld_StringK k).S' z (bytesStr z)).ids b → cx.A b ∨ b = g' := by
      rintro b (h | ⟨i, hi, hb⟩)
      · exact .inl h
      · have : i = 14 := by simpa [B_bld_StringK, St.ids] using hi
        subst this
        rw [hg1] at hb
        exact .inr (Option.some.inj hb).symm
    have done : ∀ {w' : World} {T : Array Value}, T.size = cx.n → Frame cx.w0 w' cx.X → BldF z w' (Mut cx m ((B_bld_StringK k).S' z (bytesStr z)).ids) g' → Rm cx m ((B_bld_StringK k).S' z (bytesStr z)) T w' := fun hT hf hB' =>
      { size := hT, frame := hf, outer := hm.outer, slots := (fun i sv hi => by cases hi), rows := (fun i c hi => by cases hi), keys := by simp [B_bld_StringK, St.ids]
        boxes := by
          intro b c hbc
          have : (b, c) = (14, BX.raw (BldF z)) := by simpa [B_bld_StringK] using hbc
          cases this
          exact ⟨g', hg1, hplace, (by obtain ⟨p, u, q, _⟩ := hB'; exact ⟨_, q⟩), fun w2 M2 a1 a2 a3 => hB'.ext a1 a2 a3⟩
        apart := fun i j hi hj hne => by
          have h1 : i = 14 := by simpa [B_bld_StringK, St.ids] using hi
          have h2 : j = 14 := by simpa [B_bld_StringK, St.ids] using hj
          exact absurd (h1.trans h2.symm) hne
        fixed := fun b c hbc hb => by
          have : (b, c) = (14, BX.raw (BldF z)) := by simpa [B_bld_StringK] using hbc
          cases this
          exact hm.fixed 14 _ hbx hb }
    have fr : ∀ {w' : World}, Below w.heap.size w w' → Frame cx.w0 w' cx.X := fun hb => hm.frame.step ⟨hb.os, hb.tape, hb.output, hb.size⟩ fun b hb' _ => hb.block b (Nat.lt_of_lt_of_le hb' hm.frame.size)
    have hlen0 : (bytesStr z).length = z.length := by simp [bytesStr]
    have hstr : ∀ (w' : World) (M : Nat → Prop), repS w' M m (.string ⟨#[]⟩) (SS (bytesStr [])) := fun w' M => (repV_str (w := w') (M := M)).2 ⟨rfl, by decide⟩
    have hstr2 : z.length ≤ maxLen → ∀ (w' : World) (M : Nat → Prop), repS w' M m (.string ⟨(bytesStr z).toArray⟩) (SS (bytesStr z)) := fun hm w' M => (repV_str (w := w') (M := M)).2 ⟨rfl, by rw [hlen0]; exact hm⟩
    rcases hown.2 with ⟨hv, hn0⟩ | ⟨gb, cap, cur, hv, _, hh, hle, hmax, hsz, htk⟩
    · rw [h2, hv] at e3
      have hz0 : z = [] := List.eq_nil_of_length_eq_zero hn0
      refine (bldString_nil g' p w e3).mono ?_
      rintro e w' ⟨rfl, hb⟩
      subst hz0
      refine ⟨_, m, _, rfl, done hm.size (fr hb) ⟨p, _, ?_, h1, .inl ⟨rfl, rfl⟩⟩, hstr _ _⟩
      rw [hb.block g' (heap_some_lt e3)]
      exact e3
    · have hle : z.length ≤ cap := hle
      have hsz : cur.size = cap := hsz.trans (Nat.mul_one cap)
      have htk : cur.toList.take z.length = rc := (congrArg (fun n => List.take n cur.toList) (Nat.mul_one z.length).symm).trans htk
      rw [h2, hv] at e3
      have hgb := hout gb (by rw [hv]; rfl)
      have hne' : gb ≠ g' := by
        rintro rfl
        exact hm.apart 14 15 (by simp [B_bld_StringK, St.ids]) (by simp [B_bld_StringK, St.ids]) (by decide) gb (by rw [hg1]; rfl) (by rw [hv]; rfl)
      have hnM : ¬ Mut cx m ((B_bld_StringK k).S' z (bytesStr z)).ids gb := by
        intro hc
        rcases hids gb hc with hA | e
        · obtain ⟨o1, o2⟩ := hm.outer gb hA
          rcases hgb with h | h
          · omega
          · exact o2 h
        · exact hne' e
      have mk : ∀ {w' : World} {fz : Nat × Nat}, w'.heap[g']? = w.heap[g']? → w'.heap[gb]? = some (.cells cur 5 fz) → (z = [] ∨ fz = (0, z.length)) → BldF z w' (Mut cx m ((B_bld_StringK k).S' z (bytesStr z)).ids) g' := fun q1 q2 q3 =>
        ⟨p, _, by rw [q1]; exact e3, h1, .inr ⟨gb, cap, cur, _, rfl, q2, q3, hle, hmax, hsz, by rw [htk, hL'], hnM, hne'⟩⟩
      by_cases hz0 : z = []
      · subst hz0
        by_cases hc0 : cap = 0
        · subst hc0
          refine (bldString_noroom g' gb p cur w e3 hh).mono ?_
          rintro e w' ⟨rfl, hb⟩
          exact ⟨_, m, _, rfl, done hm.size (fr hb) (mk (hb.block _ (heap_some_lt e3)) (by rw [hb.block _ (heap_some_lt hh)]; exact hh) (.inl rfl)), hstr _ _⟩
        · refine (bldString_room g' gb cap p w hc0 e3).mono ?_
          rintro e w' ⟨rfl, hb⟩
          exact ⟨_, m, _, rfl, done hm.size (fr hb) (mk (hb.block _ (heap_some_lt e3)) (by rw [hb.block _ (heap_some_lt hh)]; exact hh) (.inl rfl)), hstr _ _⟩
      · have hne : bytesStr z ≠ [] := by
          intro e
          have := congrArg List.length e
          rw [hlen0] at this
          exact hz0 (List.eq_nil_of_length_eq_zero this)
        have e3' : w.heap[g']? = some (.cells #[p, .slice (some ⟨gb, 0, none⟩) (bytesStr z).length cap] 59 (0, 0)) := by rw [hlen0]; exact e3
        refine (bldString_row g' gb cap p cur (bytesStr z) w hne e3' hh (by rw [hlen0]; exact hle) hmax hsz ?_).mono ?_
        · intro j x hx
          have hj : j < z.length := by rw [← hlen0]; exact (List.getElem?_eq_some_iff.1 hx).1
          have h5 : (bytesEl (bytesStr z))[j]? = some (x.toNat : Int) := by unfold bytesEl; rw [List.getElem?_map, hx]; rfl
          rw [hz] at h5
          have h6 : rc[j]? = some (Value.int .u8 (x.toNat : Int)) := by rw [hL', List.getElem?_map, h5]; rfl
          rw [← htk, List.getElem?_take, if_pos hj] at h6
          rw [← Array.getElem?_toList]
          exact h6
        · rintro e w' ⟨rfl, rfl⟩
          rw [hlen0]
          have hn0 : z.length ≠ 0 := fun e => hz0 (List.eq_nil_of_length_eq_zero e)
          obtain ⟨f1, f2, f3, f4⟩ := freeze_size (w := w.drew) (b := gb) (n := z.length)
          refine ⟨_, m, _, rfl, done hm.size (hm.frame.step ⟨f2, f3, f4, by rw [f1]; exact Nat.le_refl _⟩ fun b hb' hX => ?_) (mk (freeze_far (w := w.drew) (Ne.symm hne')) (freeze_row (w := w.drew) hn0 (.inl rfl) hh) (.inr rfl)), hstr2 (Nat.le_trans hle hmax) _ _⟩
          refine freeze_far (w := w.drew) ?_
          rintro rfl
          rcases hgb with hgb | hgb
          · omega
          · exact hX hgb
end Go.Ev

namespace Go.Ev
open Go Go.Proofs Go.RowKit Go.Shelf
set_option maxRecDepth 100000

/-- The variables that hold the package's own errors hold something. -/
def ErrVar (w : World) (g : Nat) : Prop := ∃ ev, w.cell? ⟨g, 0, none⟩ = some ev ∧ (ev = .nilIface ∨ ∃ te pe, ev = .iface te pe)
def Gu : World → Prop := fun w => Gt w ∧ ErrVar w 2 ∧ ErrVar w 3
theorem Gu_Gt : ∀ w, Gu w → Gt w := fun _ h => h.1
theorem ErrVar.frame {w w' : World} {g : Nat} (hf : Frame w w' (fun _ => False)) (h : ErrVar w g) : ErrVar w' g := by
  obtain ⟨ev, h1, h2⟩ := h
  exact ⟨ev, by rw [World.cell?_of_block (w := w) (hf.block _ (cell_lt h1) id)]; exact h1, h2⟩
theorem Gu_stable : ∀ w w', Frame w w' (fun _ => False) → Gu w → Gu w' := fun w w' hf h => ⟨Gt_stable w w' hf h.1, h.2.1.frame hf, h.2.2.frame hf⟩

def cloneRen : Go.Shelf.Ren := ⟨fun _ => 91, fun | 0 => 0 | 3 => 3 | 4 => 4 | 5 => 5 | 9 => 9 | 37 => 54 | 47 => 84 | n => n, fun n => n⟩
theorem cloneLays : LaysPu.n25 Tryd.prog cloneRen := {
  mixed := by kernel_rfl
  f25 := Tryd.func91.trans (congrArg some (by kernel_rfl))
  t0 := Tryd.underlying0
  a0 := Tryd.isAgg0
  z0 := Tryd.sizeOf0
  v0 := Tryd.zeroValue0
  i0 := by kernel_rfl
  t3 := Tryd.underlying3
  a3 := Tryd.isAgg3
  z3 := Tryd.sizeOf3
  v3 := Tryd.zeroValue3
  i3 := by kernel_rfl
  t4 := Tryd.underlying4
  a4 := Tryd.isAgg4
  z4 := Tryd.sizeOf4
  v4 := Tryd.zeroValue4
  i4 := by kernel_rfl
  t5 := Tryd.underlying5
  a5 := Tryd.isAgg5
  z5 := Tryd.sizeOf5
  v5 := Tryd.zeroValue5
  i5 := by kernel_rfl
  t9 := Tryd.underlying9
  a9 := Tryd.isAgg9
  z9 := Tryd.sizeOf9
  v9 := Tryd.zeroValue9
  i9 := by kernel_rfl
  t37 := Tryd.underlying54
  a37 := Tryd.isAgg54
  z37 := Tryd.sizeOf54
  v37 := Tryd.zeroValue54
  i37 := by kernel_rfl
  t47 := Tryd.underlying84
  a47 := Tryd.isAgg84
  z47 := Tryd.sizeOf84
  v47 := Tryd.zeroValue84
  i47 := by kernel_rfl }
theorem clone_walk (s : ByteArray) (w : World) (hlim : s.size ≤ 281474976710656) : Calls Tryd.prog 91 #[.string s] w fun e w' => e = .returned (.string s) ∧ Below w.heap.size w w' :=
  AnyPu.stringslite_Clone cloneLays s w hlim

set_option maxHeartbeats 4000000 in
theorem syntaxErr_walk (fn s : ByteArray) (w : World) (hlim : s.size ≤ 281474976710656) (hv : ErrVar w 2) :
    Calls Tryd.prog 82 #[.string fn, .string s] w fun e w' => ∃ a, e = .returned (.pointer a) ∧ Below w.heap.size w w' := by
  have mixed : Tryd.prog.follows .mixedOrders = true := by kernel_rfl
  obtain ⟨ev, hv, hev⟩ := hv
  have e25 : ∀ args w, (callFunc 91 args).run Tryd.prog w = .ok (.enter 91 args) w := enters_of Tryd.func91 (by kernel_rfl) rfl
  rcases hev with rfl | ⟨te, pe, rfl⟩
  all_goals (
    have hG : 2 < w.heap.size := cell_lt hv
    have hvd : w.drew.cell? ⟨2, 0, none⟩ = some _ := hv
    go_enter Tryd.func82, Tryd.ntmps82
    go_wp2
    go_region_with_o (
        go_at_fn 91
        refine (clone_walk s _ hlim).mono ?_
        rintro e w2 ⟨rfl, hbel⟩
        have hv2 : w2.cell? ⟨2, 0, none⟩ = some _ := (hbel.cell (show (⟨2, 0, none⟩ : Addr).block < w.drew.heap.size from hG)).trans hvd)
    all_goals (
      go_wp2
      go_ret
      have hs2 : w.heap.size ≤ w2.heap.size := hbel.size
      exact ⟨_, rfl, ((Below.drew (Below.refl _ w)).trans hbel).alloc hs2 _⟩))
set_option maxHeartbeats 4000000 in
theorem rangeErr_walk (fn s : ByteArray) (w : World) (hlim : s.size ≤ 281474976710656) (hv : ErrVar w 3) :
    Calls Tryd.prog 83 #[.string fn, .string s] w fun e w' => ∃ a, e = .returned (.pointer a) ∧ Below w.heap.size w w' := by
  have mixed : Tryd.prog.follows .mixedOrders = true := by kernel_rfl
  obtain ⟨ev, hv, hev⟩ := hv
  have e25 : ∀ args w, (callFunc 91 args).run Tryd.prog w = .ok (.enter 91 args) w := enters_of Tryd.func91 (by kernel_rfl) rfl
  rcases hev with rfl | ⟨te, pe, rfl⟩
  all_goals (
    have hG : 3 < w.heap.size := cell_lt hv
    have hvd : w.drew.cell? ⟨3, 0, none⟩ = some _ := hv
    go_enter Tryd.func83, Tryd.ntmps83
    go_wp2
    go_region_with_o (
        go_at_fn 91
        refine (clone_walk s _ hlim).mono ?_
        rintro e w2 ⟨rfl, hbel⟩
        have hv2 : w2.cell? ⟨3, 0, none⟩ = some _ := (hbel.cell (show (⟨3, 0, none⟩ : Addr).block < w.drew.heap.size from hG)).trans hvd)
    all_goals (
      go_wp2
      go_ret
      have hs2 : w.heap.size ≤ w2.heap.size := hbel.size
      exact ⟨_, rfl, ((Below.drew (Below.refl _ w)).trans hbel).alloc hs2 _⟩))

set_option maxHeartbeats 4000000 in
theorem toErr_walk2 (fn s : ByteArray) (base bits : Int) (w : World) (hlim : s.size ≤ 281474976710656) (hv : ErrVar w 2) :
    Calls Tryd.prog 74 #[.string fn, .string s, .int .i64 base, .int .i64 bits, .iface 101 (.int .i64 2)] w fun e w' => ∃ a, e = .returned (.iface 103 (.pointer a)) ∧ Below w.heap.size w w' := by
  have mixed : Tryd.prog.follows .mixedOrders = true := by kernel_rfl
  have e21 : ∀ args w, (callFunc 82 args).run Tryd.prog w = .ok (.enter 82 args) w := enters_of Tryd.func82 (by kernel_rfl) rfl
  have heq : ∀ W, (binOp .eql 63 (.iface 101 (.int .i64 2)) (.iface 101 (.int .i64 2))).run Tryd.prog W = .ok (.bool true) W := fun W => Lib.run_eql_iface_int W 2 2 Tryd.underlying63 (by kernel_rfl) Tryd.underlying101
  go_enter Tryd.func74, Tryd.ntmps74
  go_wp2_with (go_at_fn 82; refine (syntaxErr_walk fn s _ hlim hv).mono ?_)
  rintro e w2 ⟨N, rfl, h3⟩
  go_wp2
  go_ret
  exact ⟨N, rfl, h3⟩
set_option maxHeartbeats 4000000 in
theorem toErr_walk1 (fn s : ByteArray) (base bits : Int) (w : World) (hlim : s.size ≤ 281474976710656) (hv : ErrVar w 3) :
    Calls Tryd.prog 74 #[.string fn, .string s, .int .i64 base, .int .i64 bits, .iface 101 (.int .i64 1)] w fun e w' => ∃ a, e = .returned (.iface 103 (.pointer a)) ∧ Below w.heap.size w w' := by
  have mixed : Tryd.prog.follows .mixedOrders = true := by kernel_rfl
  have e21 : ∀ args w, (callFunc 83 args).run Tryd.prog w = .ok (.enter 83 args) w := enters_of Tryd.func83 (by kernel_rfl) rfl
  have h12 : ∀ W, (binOp .eql 63 (.iface 101 (.int .i64 1)) (.iface 101 (.int .i64 2))).run Tryd.prog W = .ok (.bool false) W := fun W => Lib.run_eql_iface_int W 1 2 Tryd.underlying63 (by kernel_rfl) Tryd.underlying101
  have h11 : ∀ W, (binOp .eql 63 (.iface 101 (.int .i64 1)) (.iface 101 (.int .i64 1))).run Tryd.prog W = .ok (.bool true) W := fun W => Lib.run_eql_iface_int W 1 1 Tryd.underlying63 (by kernel_rfl) Tryd.underlying101
  go_enter Tryd.func74, Tryd.ntmps74
  go_wp2_with (go_at_fn 83; refine (rangeErr_walk fn s _ hlim hv).mono ?_)
  rintro e w2 ⟨N, rfl, h3⟩
  go_wp2
  go_ret
  exact ⟨N, rfl, h3⟩

def strconv_toError (k : Nat) (fn s : List UInt8) (base bits : Int) (e : Option (Option (Nat × Int))) : Option (Option (Option (Nat × Int))) :=
  if List.length s ≤ lim ∧ (e = some (some (101, 2)) ∨ e = some (some (101, 1))) then some (some none) else none
def C_strconv_toError (k : Nat) : FnC := ⟨false, 1, [], fun | [⟨.str, fn⟩, ⟨.str, s⟩, ⟨.int .i64, base⟩, ⟨.int .i64, bits⟩, ⟨.err, e⟩], [⟨.err, r⟩] => strconv_toError k fn s base bits e = some r | _, _ => False⟩
theorem e_strconv_toError (k : Nat) : Contract Tryd.prog Gu 74 (C_strconv_toError k) where
  enters := enters_of Tryd.func74 (by kernel_rfl) rfl
  shape := fun xs rs h => by
    unfold C_strconv_toError at h
    simp only at h
    split at h
    · exact ⟨rfl, fun hf => by cases hf⟩
    · exact h.elim
  calls := fun w M vs xs rs hG hM h hv => by
    unfold C_strconv_toError at h
    simp only at h
    split at h
    case h_2 => exact h.elim
    rename_i fn s base bits e r
    match vs, hv with
    | [v0, v1, v2, v3, v4], ⟨h0, h1, h2, h3, h4, _⟩ =>
      obtain ⟨rfl, _⟩ := repV_str.1 h0
      obtain ⟨rfl, hs⟩ := repV_str.1 h1
      obtain rfl := repV_int.1 h2
      obtain rfl := repV_int.1 h3
      have h4 := (repV_plain (t := .err) rfl).1 h4
      unfold strconv_toError at h
      split at h
      case isFalse => cases h
      rename_i he
      cases h
      obtain ⟨hl, he⟩ := he
      have hsz : (ByteArray.mk s.toArray).size ≤ 281474976710656 := by
        have e1 : (ByteArray.mk s.toArray).size = List.length s := List.size_toArray
        have hm : lim ≤ 281474976710656 := by decide
        exact Nat.le_trans (Nat.le_of_eq e1) (Nat.le_trans hl hm)
      have fin : ∀ (n : Int), e = some (some (101, n)) → v4 = .iface 101 (.int .i64 n) := by
        intro n hn
        rcases h4 with ⟨q, _⟩ | ⟨q, _⟩ | ⟨u, n', q, q2⟩
        · rw [hn] at q; cases q
        · rw [hn] at q; cases q
        · rw [hn] at q; cases q; simpa using q2
      rcases he with he | he
      · rw [fin 2 he]
        refine (toErr_walk2 ⟨fn.toArray⟩ ⟨s.toArray⟩ base bits w hsz hG.2.1).mono ?_
        rintro e w' ⟨a, rfl, hb⟩
        exact ⟨_, rfl, (repV_plain (t := .err) rfl).2 (.inr (.inl ⟨rfl, _, _, rfl⟩)), Ext.of_below hb⟩
      · rw [fin 1 he]
        refine (toErr_walk1 ⟨fn.toArray⟩ ⟨s.toArray⟩ base bits w hsz hG.2.2).mono ?_
        rintro e w' ⟨a, rfl, hb⟩
        exact ⟨_, rfl, (repV_plain (t := .err) rfl).2 (.inr (.inl ⟨rfl, _, _, rfl⟩)), Ext.of_below hb⟩

/-! The contracts under the longer condition. -/
theorem e_unicode_utf8_DecodeRuneInString (k : Nat) : Contract Tryd.prog Gu 25 (C_unicode_utf8_DecodeRuneInString k) := (d_unicode_utf8_DecodeRuneInString k).weaken Gu_Gt
theorem e_math_bits_TrailingZeros (k : Nat) : Contract Tryd.prog Gu 98 (C_math_bits_TrailingZeros k) := (d_math_bits_TrailingZeros k).weaken Gu_Gt
theorem eb_bld_copyCheck (k : Nat) : BC Tryd.prog Gu 62 (B_bld_copyCheck k) := (b_bld_copyCheck k).weaken Gu_Gt
theorem eb_bld_StringK (k : Nat) : BC Tryd.prog Gu 49 (B_bld_StringK k) := (b_bld_StringK k).weaken Gu_Gt
theorem eb_bld_StringR (k : Nat) : BC Tryd.prog Gu 49 (B_bld_StringR k) := (b_bld_StringR k).weaken Gu_Gt
end Go.Ev

namespace Go.Ev
open Go Go.Proofs Go.RowKit
set_option maxRecDepth 100000

theorem trod_iface {P : Program} {H : Type} {enc : TypeId × Value → H} {w : World} {base : Nat} {spare : Nat → Bool} {held : Bool} {t : TypeId} {ms : Array (String × TypeId)} (hu : P.underlying t = some (.interface ms)) :
    ∀ {fuel : Nat} {cs : List Value} {r : DataW H × List MemPlace}, DataW.trod enc P w base spare held fuel t cs = some r → cs = [.nilIface] ∨ ∃ u v, cs = [.iface u v] := by
  intro fuel cs r h
  cases fuel with
  | zero => cases h
  | succ n =>
    unfold DataW.trod at h
    rw [hu] at h
    split at h <;> first
      | (rename_i e; cases e; done)
      | exact .inl rfl
      | exact .inr ⟨_, _, rfl⟩
      | (cases h; done)
theorem ErrVar_of {P : Program} {w : World} {name : String} {g t : Nat} {ms : Array (String × TypeId)} {d : DataW Unit} (hn : P.globalNamed name = some g) (hy : (P.globals[g]?).map (·.type) = some t) (hu : P.underlying t = some (.interface ms)) (h : Lib.VarReads P w name d) : ErrVar w g := by
  obtain ⟨g', t', cs, fuel, p, hg, hty, hvar, hd⟩ := h
  obtain rfl := Option.some.inj (hn.symm.trans hg)
  obtain rfl := Option.some.inj (hy.symm.trans hty)
  have hc := World.var?_cell hg hvar 0
  rw [← Array.getElem?_toList] at hc
  rcases trod_iface hu hd with e | ⟨u, v, e⟩
  · exact ⟨_, by rw [hc, e]; rfl, .inl rfl⟩
  · exact ⟨_, by rw [hc, e]; rfl, .inr ⟨u, v, rfl⟩⟩
theorem Gu_of {w : World} {d d' : DataW Unit} (h : Gt w) (h1 : Lib.VarReads Tryd.prog w "strconv.ErrSyntax" d) (h2 : Lib.VarReads Tryd.prog w "strconv.ErrRange" d') : Gu w :=
  ⟨h, ErrVar_of (by kernel_rfl) (by kernel_rfl) Tryd.underlying63 h1, ErrVar_of (by kernel_rfl) (by kernel_rfl) Tryd.underlying63 h2⟩
end Go.Ev
