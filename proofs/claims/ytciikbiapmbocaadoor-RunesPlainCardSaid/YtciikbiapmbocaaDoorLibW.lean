/- The builder, once its text has been asked for: it is only asked again. -/
import Derived.Test.YtciikbiapmbocaaDoorLibV
namespace Go.Ev
open Go Go.Proofs Go.RowKit
set_option maxRecDepth 100000

theorem bldString_rowF (b g cap : Nat) (p : Value) (cur : Array Value) (fz : Nat × Nat) (l : List UInt8) (w : World) (h0 : l ≠ []) (hb : w.heap[b]? = some (.cells #[p, .slice (some ⟨g, 0, none⟩) l.length cap] 59 (0, 0)))
    (hg : w.heap[g]? = some (.cells cur 5 fz)) (hnc : l.length ≤ cap) (hcm : cap ≤ maxLen) (hcs : cur.size = cap) (hl : ∀ (j : Nat) (x : UInt8), l[j]? = some x → cur[j]? = some (Value.int .u8 (x.toNat : Int))) :
    Calls Tryd.prog 49 #[.pointer (some ⟨b, 0, none⟩)] w fun e w' => e = .returned (.string ⟨l.toArray⟩) ∧ w' = w.drew.freeze ⟨g, 0, none⟩ l.length := by
  have hl0 : 0 < l.length := List.length_pos_iff.2 h0
  have c1 : w.drew.cell? ⟨b, 1, none⟩ = some (.slice (some ⟨g, 0, none⟩) l.length cap) := by
    have : w.drew.heap[b]? = some (.cells #[p, .slice (some ⟨g, 0, none⟩) l.length cap] 59 (0, 0)) := hb
    rw [Lib.cell_of_heap this]; rfl
  have k1 : (Builtin.unsafeSliceData_ #[54] 84 #[.slice (some ⟨g, 0, none⟩) l.length cap]).run Tryd.prog w.drew = .ok (.pointer (some ⟨g, 0, none⟩)) w.drew :=
    Lib.run_unsafeSliceData_row _ _ _ _ _ _ (by omega)
  have k2 : (Builtin.unsafeString_ #[84, 3] 9 #[.pointer (some ⟨g, 0, none⟩), .int .i64 l.length]).run Tryd.prog w.drew = .ok (.string ⟨l.toArray⟩) (w.drew.freeze ⟨g, 0, none⟩ l.length) := by
    have hg' : w.drew.heap[g]? = some (.cells cur 5 fz) := hg
    refine Lib.run_unsafeString_row w.drew 84 3 9 5 Tryd.underlying84 u8_cells g cur.size (by simp [World.shape?, hg']) l h0 (by omega) (by unfold maxLen at hcm; omega) ?_
    intro j x hx
    have ea : (⟨g, 0, none⟩ : Addr).add j = ⟨g, 0 + j, none⟩ := by unfold Addr.add; split <;> simp_all
    rw [ea, Lib.cell_of_heap hg', Nat.zero_add]
    exact hl j x hx
  have mixed : Tryd.prog.follows .mixedOrders = true := by kernel_rfl
  go_enter Tryd.func49, Tryd.ntmps49
  go_wp2
  go_region_o
  all_goals (go_wp2; go_ret; exact ⟨rfl, rfl⟩)

theorem bldString_noroomF (b g : Nat) (p : Value) (cur : Array Value) (fz : Nat × Nat) (w : World) (hb : w.heap[b]? = some (.cells #[p, .slice (some ⟨g, 0, none⟩) 0 0] 59 (0, 0))) (hg : w.heap[g]? = some (.cells cur 5 fz)) :
    Calls Tryd.prog 49 #[.pointer (some ⟨b, 0, none⟩)] w fun e w' => e = .returned (.string ⟨#[]⟩) ∧ Below w.heap.size w w' := by
  have hbl : b < w.heap.size := (Array.getElem?_eq_some_iff.1 hb).1
  have hb1 : w.drew.heap[b]? = some (.cells #[p, .slice (some ⟨g, 0, none⟩) 0 0] 59 (0, 0)) := hb
  have hg1 : w.drew.heap[g]? = some (.cells cur 5 fz) := hg
  have c1 : w.drew.cell? ⟨b, 1, none⟩ = some (.slice (some ⟨g, 0, none⟩) 0 0) := by
    rw [Lib.cell_of_heap hb1]; rfl
  have c2 : (w.drew.alloc (.view ⟨g, 0, none⟩ 5)).cell? ⟨b, 1, none⟩ = some (.slice (some ⟨g, 0, none⟩) 0 0) := by
    rw [World.cell?_of_block (w := w.drew) (Below.heap_alloc w.drew _ b hbl)]; exact c1
  have k1 : (Builtin.unsafeSliceData_ #[54] 84 #[.slice (some ⟨g, 0, none⟩) 0 0]).run Tryd.prog w.drew = .ok (.pointer (some ⟨w.drew.heap.size, 0, none⟩)) (w.drew.alloc (.view ⟨g, 0, none⟩ 5)) :=
    Lib.run_unsafeSliceData_zero w.drew _ _ _ Tryd.underlying84 _ _ (5, cur.size) (by simp [World.shape?, hg1])
  have k2 := Lib.run_unsafeString_none (P := Tryd.prog) (w := w.drew.alloc (.view ⟨g, 0, none⟩ 5)) 84 3 9
  have k3 := Lib.run_unsafeString_none (P := Tryd.prog) (w := (w.alloc (.view ⟨g, 0, none⟩ 5)).drew) 84 3 9
  have c3 : w.cell? ⟨b, 1, none⟩ = some (.slice (some ⟨g, 0, none⟩) 0 0) := c1
  have mixed : Tryd.prog.follows .mixedOrders = true := by kernel_rfl
  have hw : Below w.heap.size w (w.drew.alloc (.view ⟨g, 0, none⟩ 5)) := ⟨rfl, rfl, rfl, by simp, fun k hk => Below.heap_alloc w.drew _ k hk⟩
  go_enter Tryd.func49, Tryd.ntmps49
  go_wp2
  go_region_o
  all_goals (go_wp2; go_ret; exact ⟨rfl, hw⟩)
/-- A builder that holds these bytes and is written no more. -/
def BldF (z : List Int) (w : World) (M : Nat → Prop) (g : Nat) : Prop :=
  ∃ p u, w.heap[g]? = some (.cells #[p, u] 59 (0, 0)) ∧ (p = .pointer none ∨ p = .pointer (some ⟨g, 0, none⟩)) ∧
    ((u = .slice none 0 0 ∧ z = []) ∨ ∃ gb cap cur fz, u = .slice (some ⟨gb, 0, none⟩) z.length cap ∧ w.heap[gb]? = some (.cells cur 5 fz) ∧ (z = [] ∨ fz = (0, z.length)) ∧ z.length ≤ cap ∧ cap ≤ maxLen ∧ cur.size = cap ∧
      cur.toList.take z.length = z.map (Value.int .u8) ∧ ¬ M gb ∧ gb ≠ g)

def B_bld_StringR (k : Nat) : FnB (List Int) (List UInt8) where
  n := 14
  S := fun z => ⟨[(0, .ptr 14 0)], [(14, .raw (BldF z))], []⟩
  S' := fun z _ => ⟨[], [(14, .raw (BldF z))], []⟩
  rs := fun _ y => [SS y]
  rel := fun z y => bld_String k z = some y
def B_bld_StringK (k : Nat) : FnB (List Int) (List UInt8) where
  n := 14
  S := fun z => ⟨[(0, .ptr 14 0)], [(14, .cells [.selfp 14, .row 15] 59)], [(15, ⟨5, .int .u8, z⟩)]⟩
  S' := fun z _ => ⟨[], [(14, .raw (BldF z))], []⟩
  rs := fun _ y => [SS y]
  rel := fun z y => bld_String k z = some y

theorem BldF.ext {z : List Int} {w w' : World} {M M' : Nat → Prop} {g : Nat} (h : BldF z w M g) (a1 : ∀ b, b < w.heap.size → ¬ M b → w'.heap[b]? = w.heap[b]?) (a2 : ∀ b, b < w.heap.size → M' b → M b) (a3 : w'.heap[g]? = w.heap[g]?) : BldF z w' M' g := by
  obtain ⟨p, u, h1, h2, h3⟩ := h
  refine ⟨p, u, by rw [a3]; exact h1, h2, h3.imp id ?_⟩
  rintro ⟨gb, cap, cur, fz, e1, e2, e9, e3, e4, e5, e6, e7, e8⟩
  have hlt := heap_some_lt e2
  exact ⟨gb, cap, cur, fz, e1, by rw [a1 gb hlt e7]; exact e2, e9, e3, e4, e5, e6, fun hc => e7 (a2 gb hlt hc), e8⟩

theorem BldF.lt {z : List Int} {w : World} {M : Nat → Prop} {g : Nat} (h : BldF z w M g) : g < w.heap.size := by
  obtain ⟨p, u, q, _⟩ := h
  exact heap_some_lt q
theorem freeze_row {w : World} {gb n : Nat} {cur : Array Value} {t : TypeId} {fz : Nat × Nat} (hn : n ≠ 0) (hf : fz = (0, 0) ∨ fz = (0, n)) (h : w.heap[gb]? = some (.cells cur t fz)) : (w.freeze ⟨gb, 0, none⟩ n).heap[gb]? = some (.cells cur t (0, n)) := by
  unfold World.freeze
  rw [if_neg hn]
  rcases hf with rfl | rfl
  · simp [Array.getElem?_modify, h]
  · simp only [Array.getElem?_modify, h, if_true, Option.map_some, Option.some.injEq, Obj.cells.injEq, true_and]
    split
    · simp
    · simp

/-- The text of a builder that is written no more. -/
theorem bldString_R (g : Nat) (z : List Int) (w : World) (M : Nat → Prop) (h : BldF z w M g) (hz : bytesEl (bytesStr z) = z) :
    Calls Tryd.prog 49 #[.pointer (some ⟨g, 0, none⟩)] w fun e w' => e = .returned (.string ⟨(bytesStr z).toArray⟩) ∧ z.length ≤ maxLen ∧ Below w.heap.size w w' := by
  obtain ⟨p, u, e3, h2, h3⟩ := h
  have hlen0 : (bytesStr z).length = z.length := by simp [bytesStr]
  rcases h3 with ⟨rfl, rfl⟩ | ⟨gb, cap, cur, fz, rfl, hh, hfz, hle, hmax, hsz, htk, hM, hg⟩
  · refine (bldString_nil g p w e3).mono ?_
    rintro e w' ⟨rfl, hb⟩
    exact ⟨rfl, by decide, hb⟩
  · by_cases hz0 : z = []
    · subst hz0
      by_cases hc0 : cap = 0
      · subst hc0
        refine (bldString_noroomF g gb p cur fz w e3 hh).mono ?_
        rintro e w' ⟨rfl, hb⟩
        exact ⟨rfl, by decide, hb⟩
      · refine (bldString_room g gb cap p w hc0 e3).mono ?_
        rintro e w' ⟨rfl, hb⟩
        exact ⟨rfl, by decide, hb⟩
    · have hne : bytesStr z ≠ [] := by
        intro e
        have := congrArg List.length e
        rw [hlen0] at this
        exact hz0 (List.eq_nil_of_length_eq_zero this)
      have e3' : w.heap[g]? = some (.cells #[p, .slice (some ⟨gb, 0, none⟩) (bytesStr z).length cap] 59 (0, 0)) := by rw [hlen0]; exact e3
      refine (bldString_rowF g gb cap p cur fz (bytesStr z) w hne e3' hh (by rw [hlen0]; exact hle) hmax hsz ?_).mono ?_
      · intro j x hx
        have hj : j < z.length := by rw [← hlen0]; exact (List.getElem?_eq_some_iff.1 hx).1
        have h5 : (bytesEl (bytesStr z))[j]? = some (x.toNat : Int) := by unfold bytesEl; rw [List.getElem?_map, hx]; rfl
        rw [hz] at h5
        have h6 : (cur.toList.take z.length)[j]? = some (Value.int .u8 (x.toNat : Int)) := by rw [htk, List.getElem?_map, h5]; rfl
        rw [List.getElem?_take, if_pos hj] at h6
        rw [← Array.getElem?_toList]
        exact h6
      · rintro e w' ⟨rfl, rfl⟩
        rw [hlen0]
        have hfz := hfz.resolve_left hz0
        obtain ⟨f1, f2, f3, f4⟩ := freeze_size (w := w.drew) (b := gb) (n := z.length)
        refine ⟨rfl, Nat.le_trans hle hmax, f2, f3, f4, by rw [f1]; exact Nat.le_refl _, fun b _ => ?_⟩
        by_cases hb : b = gb
        · subst hb
          have hn0 : z.length ≠ 0 := fun e => hz0 (List.eq_nil_of_length_eq_zero e)
          rw [freeze_row (w := w.drew) hn0 (.inr hfz) (show w.drew.heap[b]? = _ from hh), hh, hfz]
        · exact freeze_far (w := w.drew) hb

theorem b_bld_StringR (k : Nat) : BC Tryd.prog Gt 49 (B_bld_StringR k) where
  enters := enters_of Tryd.func49 (by kernel_rfl) rfl
  calls := by
    rintro cx hP hn hG z y hr vs w hlen ⟨m, hm⟩
    obtain ⟨v, hv0, g, hg1, rfl⟩ := hm.slots 0 (.ptr 14 0) List.mem_cons_self
    have hvs := one_arg (n := 14) hlen hv0
    subst hvs
    have hbx : (14, BX.raw (BldF z)) ∈ ((B_bld_StringR k).S z).bx := List.mem_cons_self
    obtain ⟨g', e1, hplace, ho, hf⟩ := hm.boxes _ _ hbx
    have : g' = g := by rw [hg1] at e1; cases e1; rfl
    subst this
    have hB := hf w (Mut cx m ((B_bld_StringR k).S z).ids) (fun _ _ _ => rfl) (fun _ _ h => h) rfl
    have hr : bld_String k z = some y := hr
    unfold bld_String at hr
    split at hr
    case isFalse => cases hr
    rename_i hz
    cases hr
    refine (bldString_R g' z w _ hB hz).mono ?_
    rintro e w' ⟨rfl, hzl, hb⟩
    have hfr : Frame cx.w0 w' cx.X := hm.frame.step ⟨hb.os, hb.tape, hb.output, hb.size⟩ fun b hb' _ => hb.block b (Nat.lt_of_lt_of_le hb' hm.frame.size)
    have hB' : BldF z w' (Mut cx m ((B_bld_StringR k).S z).ids) g' := hB.ext (fun b hb' _ => hb.block b hb') (fun _ _ h => h) (hb.block g' hB.lt)
    have done : ∀ {T : Array Value}, T.size = cx.n → Rm cx m ((B_bld_StringR k).S' z (bytesStr z)) T w' := fun hT =>
      { size := hT, frame := hfr, outer := hm.outer, slots := (fun i sv hi => by cases hi), keys := hm.keys
        boxes := by
          intro b c hbc
          have : (b, c) = (14, BX.raw (BldF z)) := by simpa [B_bld_StringR] using hbc
          cases this
          exact ⟨g', hg1, hplace, (by obtain ⟨p, u, q, _⟩ := hB'; exact ⟨_, q⟩), fun w2 M2 a1 a2 a3 => hB'.ext a1 a2 a3⟩
        rows := (fun i c hi => by cases hi), apart := hm.apart, fixed := hm.fixed }
    exact ⟨_, m, _, rfl, done hm.size, (repV_str (w := w') (M := Mut cx m ((B_bld_StringR k).S' z (bytesStr z)).ids)).2 ⟨rfl, by simp [bytesStr]; exact hzl⟩⟩

theorem b_bld_StringK (k : Nat) : BC Tryd.prog Gt 49 (B_bld_StringK k) where
  enters := enters_of Tryd.func49 (by kernel_rfl) rfl
  calls := by
    rintro cx hP hn hG z y hr vs w hlen ⟨m, hm⟩
    obtain ⟨v, hv0, g, hg1, rfl⟩ := hm.slots 0 (.ptr 14 0) List.mem_cons_self
    have hvs := one_arg (n := 14) hlen hv0
    subst hvs
    have hbx : (14, BX.cells [.selfp 14, .row 15] 59) ∈ ((B_bld_StringK k).S z).bx := List.mem_cons_self
    obtain ⟨g', e1, hplace, cells, e3, e4⟩ := hm.boxes _ _ hbx
    have : g' = g := by rw [hg1] at e1; cases e1; rfl
    subst this
    obtain ⟨p, u, hcs, h1, h2⟩ : ∃ p u, cells.toList = [p, u] ∧ (p = .pointer none ∨ p = m 14) ∧ u = m 15 := by
      match hc : cells.toList, e4 with
      | [p, u], ⟨h1, h2, _⟩ => exact ⟨p, u, rfl, h1, h2⟩
    have hcs' : cells = #[p, u] := Array.ext' (by rw [hcs])
    subst hcs'
    have hrw : (15, (⟨5, .int .u8, z⟩ : RowC)) ∈ ((B_bld_StringK k).S z).rw := List.mem_cons_self
    obtain ⟨rc, hown, hout, hL⟩ := hm.rows _ _ hrw
    have hL' : rc = z.map (Value.int .u8) := repL_ints hL
    have hr : bld_String k z = some y := hr
    unfold bld_String at hr
    split at hr
    case isFalse => cases hr
    rename_i hz
    cases hr
    rw [hg1] at h1
    have hids : ∀ b, Mut cx m ((B_bld_StringK k).S' z (bytesStr z)).ids b → cx.A b ∨ b = g' := by
      rintro b (h | ⟨i, hi, hb⟩)
      · exact .inl h
      · have : i = 14 := by simpa [B_bld_StringK, St.ids] using hi
        subst this
        rw [hg1] at hb
        exact .inr (Option.some.inj hb).symm
    have done : ∀ {w' : World} {T : Array Value}, T.size = cx.n → Frame cx.w0 w' cx.X → BldF z w' (Mut cx m ((B_bld_StringK k).S' z (bytesStr z)).ids) g' → Rm cx m ((B_bld_StringK k).S' z (bytesStr z)) T w' := fun hT hf hB' =>
      { size := hT, frame := hf, outer := hm.outer, slots := (fun i sv hi => by cases hi), rows := (fun i c hi => by cases hi), keys := by simp [B_bld_StringK, St.ids]
        boxes := by
          intro b c hbc
          have : (b, c) = (14, BX.raw (BldF z)) := by simpa [B_bld_StringK] using hbc
          cases this
          exact ⟨g', hg1, hplace, (by obtain ⟨p, u, q, _⟩ := hB'; exact ⟨_, q⟩), fun w2 M2 a1 a2 a3 => hB'.ext a1 a2 a3⟩
        apart := fun i j hi hj hne => by
          have h1 : i = 14 := by simpa [B_bld_StringK, St.ids] using hi
          have h2 : j = 14 := by simpa [B_bld_StringK, St.ids] using hj
          exact absurd (h1.trans h2.symm) hne
        fixed := fun b c hbc hb => by
          have : (b, c) = (14, BX.raw (BldF z)) := by simpa [B_bld_StringK] using hbc
          cases this
          exact hm.fixed 14 _ hbx hb }
    have fr : ∀ {w' : World}, Below w.heap.size w w' → Frame cx.w0 w' cx.X := fun hb => hm.frame.step ⟨hb.os, hb.tape, hb.output, hb.size⟩ fun b hb' _ => hb.block b (Nat.lt_of_lt_of_le hb' hm.frame.size)
    have hlen0 : (bytesStr z).length = z.length := by simp [bytesStr]
    have hstr : ∀ (w' : World) (M : Nat → Prop), repS w' M m (.string ⟨#[]⟩) (SS (bytesStr [])) := fun w' M => (repV_str (w := w') (M := M)).2 ⟨rfl, by decide⟩
    have hstr2 : z.length ≤ maxLen → ∀ (w' : World) (M : Nat → Prop), repS w' M m (.string ⟨(bytesStr z).toArray⟩) (SS (bytesStr z)) := fun hm w' M => (repV_str (w := w') (M := M)).2 ⟨rfl, by rw [hlen0]; exact hm⟩
    rcases hown.2 with ⟨hv, hn0⟩ | ⟨gb, cap, cur, hv, _, hh, hle, hmax, hsz, htk⟩
    · rw [h2, hv] at e3
      have hz0 : z = [] := List.eq_nil_of_length_eq_zero hn0
      refine (bldString_nil g' p w e3).mono ?_
      rintro e w' ⟨rfl, hb⟩
      subst hz0
      refine ⟨_, m, _, rfl, done hm.size (fr hb) ⟨p, _, ?_, h1, .inl ⟨rfl, rfl⟩⟩, hstr _ _⟩
      rw [hb.block g' (heap_some_lt e3)]
      exact e3
    · have hle : z.length ≤ cap := hle
      have hsz : cur.size = cap := hsz.trans (Nat.mul_one cap)
      have htk : cur.toList.take z.length = rc := (congrArg (fun n => List.take n cur.toList) (Nat.mul_one z.length).symm).trans htk
      rw [h2, hv] at e3
      have hgb := hout gb (by rw [hv]; rfl)
      have hne' : gb ≠ g' := by
        rintro rfl
        exact hm.apart 14 15 (by simp [B_bld_StringK, St.ids]) (by simp [B_bld_StringK, St.ids]) (by decide) gb (by rw [hg1]; rfl) (by rw [hv]; rfl)
      have hnM : ¬ Mut cx m ((B_bld_StringK k).S' z (bytesStr z)).ids gb := by
        intro hc
        rcases hids gb hc with hA | e
        · obtain ⟨o1, o2⟩ := hm.outer gb hA
          rcases hgb with h | h
          · omega
          · exact o2 h
        · exact hne' e
      have mk : ∀ {w' : World} {fz : Nat × Nat}, w'.heap[g']? = w.heap[g']? → w'.heap[gb]? = some (.cells cur 5 fz) → (z = [] ∨ fz = (0, z.length)) → BldF z w' (Mut cx m ((B_bld_StringK k).S' z (bytesStr z)).ids) g' := fun q1 q2 q3 =>
        ⟨p, _, by rw [q1]; exact e3, h1, .inr ⟨gb, cap, cur, _, rfl, q2, q3, hle, hmax, hsz, by rw [htk, hL'], hnM, hne'⟩⟩
      by_cases hz0 : z = []
      · subst hz0
        by_cases hc0 : cap = 0
        · subst hc0
          refine (bldString_noroom g' gb p cur w e3 hh).mono ?_
          rintro e w' ⟨rfl, hb⟩
          exact ⟨_, m, _, rfl, done hm.size (fr hb) (mk (hb.block _ (heap_some_lt e3)) (by rw [hb.block _ (heap_some_lt hh)]; exact hh) (.inl rfl)), hstr _ _⟩
        · refine (bldString_room g' gb cap p w hc0 e3).mono ?_
          rintro e w' ⟨rfl, hb⟩
          exact ⟨_, m, _, rfl, done hm.size (fr hb) (mk (hb.block _ (heap_some_lt e3)) (by rw [hb.block _ (heap_some_lt hh)]; exact hh) (.inl rfl)), hstr _ _⟩
      · have hne : bytesStr z ≠ [] := by
          intro e
          have := congrArg List.length e
          rw [hlen0] at this
          exact hz0 (List.eq_nil_of_length_eq_zero this)
        have e3' : w.heap[g']? = some (.cells #[p, .slice (some ⟨gb, 0, none⟩) (bytesStr z).length cap] 59 (0, 0)) := by rw [hlen0]; exact e3
        refine (bldString_row g' gb cap p cur (bytesStr z) w hne e3' hh (by rw [hlen0]; exact hle) hmax hsz ?_).mono ?_
        · intro j x hx
          have hj : j < z.length := by rw [← hlen0]; exact (List.getElem?_eq_some_iff.1 hx).1
          have h5 : (bytesEl (bytesStr z))[j]? = some (x.toNat : Int) := by unfold bytesEl; rw [List.getElem?_map, hx]; rfl
          rw [hz] at h5
          have h6 : rc[j]? = some (Value.int .u8 (x.toNat : Int)) := by rw [hL', List.getElem?_map, h5]; rfl
          rw [← htk, List.getElem?_take, if_pos hj] at h6
          rw [← Array.getElem?_toList]
          exact h6
        · rintro e w' ⟨rfl, rfl⟩
          rw [hlen0]
          have hn0 : z.length ≠ 0 := fun e => hz0 (List.eq_nil_of_length_eq_zero e)
          obtain ⟨f1, f2, f3, f4⟩ := freeze_size (w := w.drew) (b := gb) (n := z.length)
          refine ⟨_, m, _, rfl, done hm.size (hm.frame.step ⟨f2, f3, f4, by rw [f1]; exact Nat.le_refl _⟩ fun b hb' hX => ?_) (mk (freeze_far (w := w.drew) (Ne.symm hne')) (freeze_row (w := w.drew) hn0 (.inl rfl) hh) (.inr rfl)), hstr2 (Nat.le_trans hle hmax) _ _⟩
          refine freeze_far (w := w.drew) ?_
          rintro rfl
          rcases hgb with hgb | hgb
          · omega
          · exact hX hgb
end Go.Ev
