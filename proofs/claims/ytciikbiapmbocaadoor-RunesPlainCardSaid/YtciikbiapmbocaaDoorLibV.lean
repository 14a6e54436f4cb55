/- Contracts of library functions under the longer condition: the builder's, the trailing zeros of sixteen. -/
import Derived.Test.YtciikbiapmbocaaDoorLibT
import Derived.Test.YtciikbiapmbocaaDoorLibU
import Derived.Test.YtciikbiapmbocaaDoorEvW
import Derived.Lib.LaidTab
namespace Go.Ev
open Go Go.Proofs Go.RowKit
set_option maxRecDepth 100000

def deB : List Int := [0, 1, 56, 2, 57, 49, 28, 3, 61, 58, 42, 50, 38, 29, 17, 4, 62, 47, 59, 36, 45, 43, 51, 22, 53, 39, 33, 30, 24, 18, 12, 5, 63, 55, 48, 27, 60, 41, 37, 16, 46, 35, 44, 21, 52, 32, 23, 11, 54, 26, 40, 15, 34, 20, 31, 10, 25, 14, 19, 9, 13, 8, 7, 6]
def Gt : World → Prop := fun w => Gl w ∧ (w.cell? ⟨7, 15, none⟩ = some (.int .u8 4) ∧ 7 < w.heap.size)
theorem Gt_Gl : ∀ w, Gt w → Gl w := fun _ h => h.1
theorem Gt_stable : ∀ w w', Frame w w' (fun _ => False) → Gt w → Gt w' := by
  rintro w w' hf ⟨h1, h2, h3⟩
  refine ⟨Gl_stable w w' hf h1, ?_, Nat.lt_of_lt_of_le h3 hf.size⟩
  rw [World.cell?_of_block (w := w) (hf.block _ h3 id)]
  exact h2
theorem Gt_of {w : World} (h : Gl w) (hr : Lib.VarReads Tryd.prog w "math/bits.deBruijn64tab" (Lib.tabData .u8 deB)) : Gt w := by
  have hc : w.cell? ⟨7, 15, none⟩ = some (.int .u8 4) := by
    obtain ⟨g, t, cs, fuel, p, hg, hty, hvar, hd⟩ := hr
    obtain rfl := Option.some.inj ((show Tryd.prog.globalNamed "math/bits.deBruijn64tab" = some 7 by kernel_rfl).symm.trans hg)
    obtain rfl := Option.some.inj ((show (Tryd.prog.globals[7]?).map (·.type) = some 128 by kernel_rfl).symm.trans hty)
    have hcs := Lib.cells_of_tab Tryd.underlying128 Tryd.underlying5 (by kernel_rfl) (by kernel_rfl) hd
    have := World.var?_cell hg hvar 15
    rw [this, ← Array.getElem?_toList, hcs]
    rfl
  exact ⟨h, hc, cell_lt hc⟩

theorem d_unicode_utf8_DecodeRuneInString (k : Nat) : Contract Tryd.prog Gt 25 (C_unicode_utf8_DecodeRuneInString k) := (c_unicode_utf8_DecodeRuneInString k).weaken Gt_Gl

/-- math/bits.TrailingZeros, at sixteen alone. -/
def C_math_bits_TrailingZeros (k : Nat) : FnC := ⟨true, 1, [], fun | [⟨.int .u64, x⟩], [⟨.int .i64, r⟩] => math_bits_TrailingZeros k x = some r | _, _ => False⟩
theorem d_math_bits_TrailingZeros (k : Nat) : Contract Tryd.prog Gt 98 (C_math_bits_TrailingZeros k) where
  enters := enters_of Tryd.func98 (by kernel_rfl) rfl
  shape := fun xs rs h => by
    unfold C_math_bits_TrailingZeros at h
    simp only at h
    split at h
    · exact ⟨rfl, fun _ u hu => by simp at hu; subst hu; rfl⟩
    · exact h.elim
  calls := fun w M vs xs rs hG hM h hv => by
    unfold C_math_bits_TrailingZeros at h
    simp only at h
    split at h
    case h_2 => exact h.elim
    rename_i x r
    match vs, hv with
    | [v], ⟨hv, _⟩ =>
      have hs : [v] = [Value.int .u64 x] := hv
      simp only [List.cons.injEq, and_true] at hs
      subst hs
      unfold math_bits_TrailingZeros at h
      split at h
      · rename_i hx
        subst hx
        cases h
        refine (tz16 w hG.2.1).mono ?_
        rintro e w' ⟨rfl, rfl⟩
        exact ⟨_, rfl, rfl, Ext.refl _⟩
      · cases h

/-! The builder's functions. -/
def B_bld_copyCheck (k : Nat) : FnB (List Int) Unit where
  n := 20
  S := fun z => ⟨[(0, .ptr 20 0)], [(20, .cells [.selfp 20, .row 21] 59)], [(21, ⟨5, .int .u8, z⟩)]⟩
  S' := fun z _ => ⟨[], [(20, .cells [.selfp 20, .row 21] 59)], [(21, ⟨5, .int .u8, z⟩)]⟩
  rs := fun _ _ => []
  rel := fun z y => bld_copyCheck k z = some y
def B_bld_String (k : Nat) : FnB (List Int) (List UInt8) where
  n := 14
  S := fun z => ⟨[(0, .ptr 14 0)], [(14, .cells [.selfp 14, .row 15] 59)], [(15, ⟨5, .int .u8, z⟩)]⟩
  S' := fun _ _ => ⟨[], [], []⟩
  rs := fun _ y => [SS y]
  rel := fun z y => bld_String k z = some y

theorem one_arg {n : Nat} {vs : List Value} {v : Value} (h1 : vs.length = 1) (h : (vs.toArray ++ Array.replicate (n - vs.toArray.size) undef)[0]? = some v) : vs = [v] := by
  match vs, h1 with
  | [u], _ =>
    rw [Array.getElem?_append_left (by simp)] at h
    simpa using h
theorem setCell_heap {w : World} {b i : Nat} {cs : Array Value} {t : TypeId} (h : w.heap[b]? = some (.cells cs t (0, 0))) (v : Value) : (w.setCell ⟨b, i, none⟩ v).heap[b]? = some (.cells (cs.setIfInBounds i v) t (0, 0)) := by
  simp [World.setCell, Array.getElem?_modify, h]
theorem setCell_far {w : World} {b i k : Nat} (v : Value) (h : k ≠ b) : (w.setCell ⟨b, i, none⟩ v).heap[k]? = w.heap[k]? := by
  simp [World.setCell, Array.getElem?_modify, Ne.symm h]

theorem b_bld_copyCheck (k : Nat) : BC Tryd.prog Gt 62 (B_bld_copyCheck k) where
  enters := enters_of Tryd.func62 (by kernel_rfl) rfl
  calls := by
    rintro cx hP hn hG z y hr vs w hlen ⟨m, hm⟩
    obtain ⟨v, hv0, g, hg1, rfl⟩ := hm.slots 0 (.ptr 20 0) List.mem_cons_self
    have hvs := one_arg (n := 20) hlen hv0
    subst hvs
    have hbx : (20, BX.cells [.selfp 20, .row 21] 59) ∈ ((B_bld_copyCheck k).S z).bx := List.mem_cons_self
    obtain ⟨g', e1, hplace, cells, e3, e4⟩ := hm.boxes _ _ hbx
    have : g' = g := by rw [hg1] at e1; cases e1; rfl
    subst this
    obtain ⟨p, u, hcs, h1, h2⟩ : ∃ p u, cells.toList = [p, u] ∧ (p = .pointer none ∨ p = m 20) ∧ u = m 21 := by
      match hc : cells.toList, e4 with
      | [p, u], ⟨h1, h2, _⟩ => exact ⟨p, u, rfl, h1, h2⟩
    have hcs' : cells = #[p, u] := Array.ext' (by rw [hcs])
    subst hcs'
    have hc0 : w.cell? ⟨g', 0, none⟩ = some p := by rw [cell_in e3]; rfl
    have hids : ∀ i, i ∈ St.ids ((B_bld_copyCheck k).S' z y) ↔ i ∈ St.ids ((B_bld_copyCheck k).S z) := fun i => Iff.rfl
    have hweak : ∀ {w'}, Rm cx m ((B_bld_copyCheck k).S z) ([Value.pointer (some ⟨g', 0, none⟩)].toArray ++ Array.replicate ((B_bld_copyCheck k).n - [Value.pointer (some ⟨g', 0, none⟩)].toArray.size) undef) w' → Rm cx m ((B_bld_copyCheck k).S' z y) ([Value.pointer (some ⟨g', 0, none⟩)].toArray ++ Array.replicate ((B_bld_copyCheck k).n - [Value.pointer (some ⟨g', 0, none⟩)].toArray.size) undef) w' :=
      fun h => h.weaken (fun i sv hi => by cases hi) (fun p hp => hp) (fun p hp => hp) h.keys
    rcases h1 with h1 | h1
    · subst h1
      refine (copyCheck_fresh g' w hc0 (by simp [World.shape?, e3]) (by simp [World.frozen?, e3])).mono ?_
      rintro e w' ⟨rfl, rfl⟩
      refine ⟨_, m, _, rfl, hweak ?_, trivial⟩
      have hheap : (w.setCell ⟨g', 0, none⟩ (.pointer (some ⟨g', 0, none⟩))).heap[g']? = some (.cells #[.pointer (some ⟨g', 0, none⟩), u] 59 (0, 0)) := setCell_heap (i := 0) e3 _
      have hn : Touch m w 20 (w.setCell ⟨g', 0, none⟩ (.pointer (some ⟨g', 0, none⟩))) := ⟨⟨rfl, rfl, rfl, by simp [World.setCell]⟩, fun b hb hne => setCell_far _ (fun e => hne (by rw [hg1, e]; rfl))⟩
      have := hm.setBox (c := BX.cells [.selfp 20, .row 21] 59) hbx hn (g := g') hg1 ⟨_, hheap, .inr hg1.symm, h2, trivial⟩
      exact this
    · refine (copyCheck_used g' w (by rw [hc0, h1, hg1])).mono ?_
      rintro e w' ⟨rfl, rfl⟩
      exact ⟨_, m, _, rfl, hweak hm, trivial⟩

theorem freeze_far {w : World} {b n k : Nat} (h : k ≠ b) : (w.freeze ⟨b, 0, none⟩ n).heap[k]? = w.heap[k]? := by
  unfold World.freeze
  split
  · rfl
  · simp [Array.getElem?_modify, Ne.symm h]
theorem freeze_size {w : World} {b n : Nat} : (w.freeze ⟨b, 0, none⟩ n).heap.size = w.heap.size ∧ (w.freeze ⟨b, 0, none⟩ n).os = w.os ∧ (w.freeze ⟨b, 0, none⟩ n).tape = w.tape ∧ (w.freeze ⟨b, 0, none⟩ n).output = w.output := by
  unfold World.freeze
  split <;> simp

theorem b_bld_String (k : Nat) : BC Tryd.prog Gt 49 (B_bld_String k) where
  enters := enters_of Tryd.func49 (by kernel_rfl) rfl
  calls := by
    rintro cx hP hn hG z y hr vs w hlen ⟨m, hm⟩
    obtain ⟨v, hv0, g, hg1, rfl⟩ := hm.slots 0 (.ptr 14 0) List.mem_cons_self
    have hvs := one_arg (n := 14) hlen hv0
    subst hvs
    have hbx : (14, BX.cells [.selfp 14, .row 15] 59) ∈ ((B_bld_String k).S z).bx := List.mem_cons_self
    obtain ⟨g', e1, hplace, cells, e3, e4⟩ := hm.boxes _ _ hbx
    have : g' = g := by rw [hg1] at e1; cases e1; rfl
    subst this
    obtain ⟨p, u, hcs, h1, h2⟩ : ∃ p u, cells.toList = [p, u] ∧ (p = .pointer none ∨ p = m 14) ∧ u = m 15 := by
      match hc : cells.toList, e4 with
      | [p, u], ⟨h1, h2, _⟩ => exact ⟨p, u, rfl, h1, h2⟩
    have hcs' : cells = #[p, u] := Array.ext' (by rw [hcs])
    subst hcs'
    have hrw : (15, (⟨5, .int .u8, z⟩ : RowC)) ∈ ((B_bld_String k).S z).rw := List.mem_cons_self
    obtain ⟨rc, hown, hout, hL⟩ := hm.rows _ _ hrw
    have hL' : rc = z.map (Value.int .u8) := repL_ints hL
    have hr : bld_String k z = some y := hr
    unfold bld_String at hr
    split at hr
    case isFalse => cases hr
    rename_i hz
    cases hr
    have done : ∀ {w' : World} {T : Array Value}, T.size = cx.n → Frame cx.w0 w' cx.X → Rm cx m ((B_bld_String k).S' z (bytesStr z)) T w' := fun hT hf =>
      { size := hT, frame := hf, outer := hm.outer, slots := (fun i sv hi => by cases hi), boxes := (fun i c hi => by cases hi), rows := (fun i c hi => by cases hi), apart := (fun i j hi => by cases hi), keys := List.nodup_nil, fixed := (fun i c hi => by cases hi) }
    have fr : ∀ {w' : World}, Below w.heap.size w w' → Frame cx.w0 w' cx.X := fun hb => hm.frame.step ⟨hb.os, hb.tape, hb.output, hb.size⟩ fun b hb' _ => hb.block b (Nat.lt_of_lt_of_le hb' hm.frame.size)
    have hlen0 : (bytesStr z).length = z.length := by simp [bytesStr]
    have hstr : ∀ (w' : World) (M : Nat → Prop), repS w' M m (.string ⟨#[]⟩) (SS (bytesStr [])) := fun w' M => (repV_str (w := w') (M := M)).2 ⟨rfl, by decide⟩
    have hstr2 : z.length ≤ maxLen → ∀ (w' : World) (M : Nat → Prop), repS w' M m (.string ⟨(bytesStr z).toArray⟩) (SS (bytesStr z)) := fun hm w' M => (repV_str (w := w') (M := M)).2 ⟨rfl, by rw [hlen0]; exact hm⟩
    rcases hown.2 with ⟨hv, hn0⟩ | ⟨gb, cap, cur, hv, _, hh, hle, hmax, hsz, htk⟩
    · rw [h2, hv] at e3
      have hz0 : z = [] := List.eq_nil_of_length_eq_zero hn0
      refine (bldString_nil g' p w e3).mono ?_
      rintro e w' ⟨rfl, hb⟩
      subst hz0
      exact ⟨_, m, _, rfl, done hm.size (fr hb), hstr _ _⟩
    · have hle : z.length ≤ cap := hle
      have hsz : cur.size = cap := hsz.trans (Nat.mul_one cap)
      have htk : cur.toList.take z.length = rc := (congrArg (fun n => List.take n cur.toList) (Nat.mul_one z.length).symm).trans htk
      rw [h2, hv] at e3
      by_cases hz0 : z = []
      · subst hz0
        by_cases hc0 : cap = 0
        · subst hc0
          refine (bldString_noroom g' gb p cur w e3 hh).mono ?_
          rintro e w' ⟨rfl, hb⟩
          exact ⟨_, m, _, rfl, done hm.size (fr hb), hstr _ _⟩
        · refine (bldString_room g' gb cap p w hc0 e3).mono ?_
          rintro e w' ⟨rfl, hb⟩
          exact ⟨_, m, _, rfl, done hm.size (fr hb), hstr _ _⟩
      · have hne : bytesStr z ≠ [] := by
          intro e
          have := congrArg List.length e
          rw [hlen0] at this
          exact hz0 (List.eq_nil_of_length_eq_zero this)
        have e3' : w.heap[g']? = some (.cells #[p, .slice (some ⟨gb, 0, none⟩) (bytesStr z).length cap] 59 (0, 0)) := by rw [hlen0]; exact e3
        refine (bldString_row g' gb cap p cur (bytesStr z) w hne e3' hh (by rw [hlen0]; exact hle) hmax hsz ?_).mono ?_
        · intro j x hx
          have hj : j < z.length := by rw [← hlen0]; exact (List.getElem?_eq_some_iff.1 hx).1
          have h5 : (bytesEl (bytesStr z))[j]? = some (x.toNat : Int) := by unfold bytesEl; rw [List.getElem?_map, hx]; rfl
          rw [hz] at h5
          have h6 : rc[j]? = some (Value.int .u8 (x.toNat : Int)) := by rw [hL', List.getElem?_map, h5]; rfl
          rw [← htk, List.getElem?_take, if_pos hj] at h6
          rw [← Array.getElem?_toList]
          exact h6
        · rintro e w' ⟨rfl, rfl⟩
          obtain ⟨f1, f2, f3, f4⟩ := freeze_size (w := w.drew) (b := gb) (n := (bytesStr z).length)
          have hgb := hout gb (by rw [hv]; rfl)
          refine ⟨_, m, _, rfl, done hm.size (hm.frame.step ⟨f2, f3, f4, by rw [f1]; exact Nat.le_refl _⟩ fun b hb' hX => ?_), hstr2 (Nat.le_trans hle hmax) _ _⟩
          refine freeze_far (w := w.drew) ?_
          rintro rfl
          rcases hgb with hgb | hgb
          · omega
          · exact hX hgb
end Go.Ev
