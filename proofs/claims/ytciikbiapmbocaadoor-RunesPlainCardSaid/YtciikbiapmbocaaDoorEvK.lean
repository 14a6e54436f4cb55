/- A store is right. -/
import Derived.Test.YtciikbiapmbocaaDoorEvJ
namespace Go.Ev
open Go Go.RowKit
variable {cx : Cx} {m : Nat → Value} {st : St} {T : Array Value} {w w' : World}

theorem repSs_ext {M M' : Nat → Prop} (hw : ∀ b, b < w.heap.size → ¬ M b → w'.heap[b]? = w.heap[b]?) (hM : ∀ b, b < w.heap.size → M' b → M b) {c : List Value} {l : List SV} (h : repSs w M m c l) : repSs w' M' m c l := by
  have := repSs_map (f := id) (fun v s hh => repS_ext (m := m) hw hM hh) h
  simpa using this

theorem evStore_sound (h : Rm cx m st T w) {t : TypeId} {x y : Operand} {orc orc' : List TV} {st' : St} {ob : List Prop} (hev : evStore cx.P st t x y orc = some (st', orc', ob)) (hob : allP ob) :
    ∃ w', (Instr.storeAt t (Act.eval ⟨T, []⟩ x) (Act.eval ⟨T, []⟩ y)).run cx.P w = .ok () w' ∧ Rm cx m st' T w' := by
  unfold evStore at hev
  split at hev
  · rename_i b off u s hx ht hy
    obtain ⟨g, hg1, hg2⟩ := getSV_sound h hx
    split at hev
    · rename_i c e l hc hl hrow
      cases hb : Nat.ble (off + u.cells) c.length with
      | false => rw [hb] at hev; cases hev
      | true =>
        rw [hb] at hev
        cases hev
        have hle := Nat.le_of_ble_eq_true hb
        have hcm := look_mem hc
        obtain ⟨g', e1, _, cells, e3, e4⟩ := h.boxes b _ hcm
        have : g' = g := by rw [hg1] at e1; cases e1; rfl
        subst this
        have hri : b ∈ st.ids := List.mem_append.2 (.inl (List.mem_map.2 ⟨_, hcm, rfl⟩))
        have hclen := repSs_length e4
        have hrow' : ∀ r, s = .row r → (m r).oneCell' = true := by
          rintro r rfl
          simp only [evStore.rowOK] at hrow
          obtain ⟨c', hc'⟩ := Option.isSome_iff_exists.1 hrow
          exact row_one h (look_mem hc')
        obtain ⟨k1, k2, k3⟩ := cellsSV_sound hrow' (getSV_sound h hy) hl
        have hfit : off + u.cells ≤ cells.size := by rw [← Array.length_toList, hclen]; exact hle
        have hrun := store_run (P := cx.P) ht e3 k3 hfit k2
        refine ⟨_, by rw [hg2]; exact hrun, ?_⟩
        have hn : Touch m w b (w.setRow g' (cells.toList.take off ++ (Act.eval ⟨T, []⟩ y).cells.toList ++ cells.toList.drop (off + u.cells)).toArray) :=
          ⟨same_setRow _ _ _, fun k hk hne => setRow_other _ _ _ _ (fun e => hne (by rw [hg1, e]; rfl))⟩
        obtain ⟨hids, _⟩ := setBox_ids hcm h.keys (.cells (c.take off ++ l ++ c.drop (off + u.cells)) e)
        obtain ⟨q1, q2⟩ := Rm.touch_keeps (cx := cx) hri hn hids
        refine h.setBox hcm hn (g := g') hg1 ⟨_, setRow_heap _ _ _ _ _ _ e3, ?_⟩
        simp only []
        exact repSs_append (repSs_append (repSs_ext q1 q2 (repSs_split off e4).1) (repSs_ext q1 q2 k1)) (repSs_ext q1 q2 (repSs_split (off + u.cells) e4).2)
    · cases hev
  · rename_i r i off sz u t' z hx ht hy
    obtain ⟨g, n, cap, hg1, hg2⟩ := getSV_sound h hx
    split at hev
    · rename_i c v orc2 hc
      split at hev
      · rename_i x0 hv hsz hb
        split at hev
        · rename_i x1 hx1
          cases hev
          obtain ⟨h0, h1, h2⟩ := at?_some hob.1
          have hcm := look_mem hc
          obtain ⟨cells, hown, hout, hL⟩ := h.rows r c hcm
          have hri : r ∈ st.ids := List.mem_append.2 (.inr (List.mem_map.2 ⟨_, hcm, rfl⟩))
          have hsz' := Nat.eq_of_beq_eq_true hsz
          subst hsz'
          obtain rfl := Ty.eq_of_beq hb
          have hval : repV w (Mut cx m st.ids) (Act.eval ⟨T, []⟩ y) t' z := getSV_sound h hy
          have hvc := repV_cells hval
          have hvl := rep_length t' hvc
          have hvs : (Act.eval ⟨T, []⟩ y).cells.size = t'.cells := by rw [← hvl]; simp
          rcases hown.2 with ⟨hn, _⟩ | ⟨g', cap', cur, hn, hb0, hh, hle, hmax, hcur, htk⟩
          · rw [hg1] at hn; cases hn
          · have : g' = g := by rw [hg1] at hn; cases hn; rfl
            subst this
            obtain ⟨c1, c2, c3, rfl, hl, hr, hset⟩ := repL_set hL h2
            obtain ⟨d1, d2, d3, rfl, hdl, hdl2, hr2⟩ := setT_rep (v := ⟨t', z⟩) hvc c.t hr hx1
            obtain ⟨rest, hrest⟩ : ∃ rest, cur.toList = (c1 ++ (d1 ++ d2 ++ d3) ++ c3) ++ rest := ⟨cur.toList.drop (c.xs.length * c.t.cells), by rw [← htk, List.take_append_drop]⟩
            have hN : (c1 ++ (d1 ++ d2 ++ d3) ++ c3).length = c.xs.length * c.t.cells := hown.1
            have ho : i.toNat * c.t.cells + off = (c1 ++ d1).length := by rw [List.length_append, hl, hdl]
            have hlen : cur.toList.length = (c1 ++ d1).length + d2.length + (d3 ++ c3 ++ rest).length := by rw [hrest]; simp only [List.length_append]; omega
            have hfit : i.toNat * c.t.cells + off + t'.cells ≤ cur.size := by
              rw [← Array.length_toList, hlen, ho, ← hvl, hdl2]
              omega
            have hrun := store_run (P := cx.P) ht hh hvs hfit (rep_oneCell t' hvc)
            have etk : cur.toList.take (i.toNat * c.t.cells + off) = c1 ++ d1 := by
              rw [hrest, ho]
              have : c1 ++ (d1 ++ d2 ++ d3) ++ c3 ++ rest = (c1 ++ d1) ++ (d2 ++ d3 ++ c3 ++ rest) := by simp
              rw [this, List.take_left]
            have edr : cur.toList.drop (i.toNat * c.t.cells + off + t'.cells) = d3 ++ c3 ++ rest := by
              rw [hrest, ho, ← hvl, ← hdl2, ← List.length_append]
              have : c1 ++ (d1 ++ d2 ++ d3) ++ c3 ++ rest = (c1 ++ d1 ++ d2) ++ (d3 ++ c3 ++ rest) := by simp
              rw [this, List.drop_left]
            rw [etk, edr] at hrun
            refine ⟨_, by rw [hg2]; exact hrun, ?_⟩
            have hnt : Touch m w r (w.setRow g' (c1 ++ d1 ++ (Act.eval ⟨T, []⟩ y).cells.toList ++ (d3 ++ c3 ++ rest)).toArray) :=
              ⟨same_setRow _ _ _, fun k hk hne => setRow_other _ _ _ _ (fun e => hne (by rw [hg1, e]; rfl))⟩
            obtain ⟨hids, _⟩ := setRow_ids hcm h.keys { c with xs := c.xs.set i.toNat x1 }
            obtain ⟨q1, q2⟩ := Rm.touch_keeps (cx := cx) hri hnt hids
            have hnew := hset _ _ hr2
            have hshape : c1 ++ d1 ++ (Act.eval ⟨T, []⟩ y).cells.toList ++ (d3 ++ c3 ++ rest) = (c1 ++ (d1 ++ (Act.eval ⟨T, []⟩ y).cells.toList ++ d3) ++ c3) ++ rest := by simp
            have hl2 : (c1 ++ (d1 ++ (Act.eval ⟨T, []⟩ y).cells.toList ++ d3) ++ c3).length = c.xs.length * c.t.cells := by
              rw [← hN]; simp only [List.length_append, hdl2]
            refine h.setRow hcm hnt (cells := c1 ++ (d1 ++ (Act.eval ⟨T, []⟩ y).cells.toList ++ d3) ++ c3) ?_ (repL_mono (fun _ _ => rep_ext q1 q2 c.t) hnew)
            refine ⟨by simp only [List.length_set]; exact hl2, .inr ⟨g', cap', _, by rw [hn]; simp only [List.length_set], hb0, setRow_heap _ _ _ _ _ _ hh, by simp only [List.length_set]; exact hle, hmax, ?_, ?_⟩⟩
            · rw [List.size_toArray, hshape, List.length_append, hl2, ← hcur, ← Array.length_toList, hrest, List.length_append, hN]
            · simp only [List.length_set]
              rw [hshape, ← hl2, List.take_left]
        · cases hev
      · cases hev
    · cases hev
  · rename_i b p u t' z hx ht hy0
    have hy := hy0
    obtain ⟨g, hg1, hg2⟩ := getSV_sound h hx
    split at hev
    · rename_i tb x0 e hb
      split at hev
      · rename_i yn orc2 ob2 hbe hp
        cases hev
        obtain rfl := Ty.eq_of_beq hbe
        have hcm := look_mem hb
        obtain ⟨g', e1, _, cells, e3, e4⟩ := h.boxes b _ hcm
        have : g' = g := by rw [hg1] at e1; cases e1; rfl
        subst this
        have hri : b ∈ st.ids := List.mem_append.2 (.inl (List.mem_map.2 ⟨_, hcm, rfl⟩))
        have hval : repV w (Mut cx m st.ids) (Act.eval ⟨T, []⟩ y) t' z := getSV_sound h hy
        have hvc := repV_cells hval
        have hvl := rep_length t' hvc
        have hvs : (Act.eval ⟨T, []⟩ y).cells.size = t'.cells := by rw [← hvl]; simp
        obtain ⟨c1, c2, c3, hcs, hl, hl2, hr⟩ := setP_rep (z := ⟨t', z⟩) hvc p tb e4 hp hob
        have hfit : poff p + t'.cells ≤ cells.size := by
          rw [← Array.length_toList, hcs]; simp only [List.length_append]; omega
        have hrun := store_run (P := cx.P) ht e3 hvs hfit (rep_oneCell t' hvc)
        have etk : cells.toList.take (poff p) = c1 := by rw [hcs, ← hl, List.append_assoc, List.take_left]
        have edr : cells.toList.drop (poff p + t'.cells) = c3 := by
          rw [hcs, ← hl, ← hvl, ← hl2, ← List.length_append, List.drop_left]
        rw [etk, edr] at hrun
        refine ⟨_, by rw [hg2]; exact hrun, ?_⟩
        have hn : Touch m w b (w.setRow g' (c1 ++ (Act.eval ⟨T, []⟩ y).cells.toList ++ c3).toArray) :=
          ⟨same_setRow _ _ _, fun k hk hne => setRow_other _ _ _ _ (fun e => hne (by rw [hg1, e]; rfl))⟩
        obtain ⟨hids, _⟩ := setBox_ids hcm h.keys (.blk tb yn e)
        obtain ⟨q1, q2⟩ := Rm.touch_keeps (cx := cx) hri hn hids
        refine h.setBox hcm hn (g := g') hg1 ⟨_, setRow_heap _ _ _ _ _ _ e3, ?_⟩
        simp only []
        exact rep_ext q1 q2 tb hr
      · cases hev
    · cases hev
  · cases hev

/-- A map written. -/
def evUp (P : Program) (st : St) (t : TypeId) (x k v : Operand) : Option St :=
  match getSV st x, P.underlying t, getTV st k, getTV st v with
  | some (.iter b), some (.map kt et), some ky, some vl => match look st.bx b, ty P kt, ty P et with
    | some (.mp ku vu ps), some ku', some vu' => match ky.as ku, vl.as vu, ku'.beq ku && vu'.beq vu && ku.flat && eqOK P 16 kt with
      | some y, some z, true => some (st.setBox b (.mp ku vu (mset (eqEl ku) ps y z)))
      | _, _, _ => none
    | _, _, _ => none
  | _, _, _, _ => none
theorem evUp_sound (h : Rm cx m st T w) {t : TypeId} {x k v : Operand} {st' : St} (hev : evUp cx.P st t x k v = some st') :
    ∃ w', (Instr.mapUpdate t (Act.eval ⟨T, []⟩ x) (Act.eval ⟨T, []⟩ k) (Act.eval ⟨T, []⟩ v)).run cx.P w = .ok () w' ∧ Rm cx m st' T w' := by
  unfold evUp at hev
  split at hev
  · rename_i b kt et ky vl hx hmt hk hv
    split at hev
    · rename_i ku vu ps ku' vu' hb hku hvu
      split at hev
      · rename_i y z hy hz hh
        cases hev
        simp only [Bool.and_eq_true] at hh
        obtain ⟨⟨⟨hh1, hh2⟩, hh3⟩, hh4⟩ := hh
        obtain rfl := Ty.eq_of_beq hh1
        obtain rfl := Ty.eq_of_beq hh2
        have ey := TV.as_some hy
        subst ey
        have ez := TV.as_some hz
        subst ez
        have hbm := look_mem hb
        obtain ⟨g, e1, _, es, clock, h1, h2, h3, h4⟩ := h.boxes b _ hbm
        have e1 : m b = .map (some g) := e1
        have hxv : Act.eval ⟨T, []⟩ x = .map (some g) := by have : Act.eval ⟨T, []⟩ x = m b := getSV_sound h hx; rw [this, e1]
        obtain ⟨es', clock', hrun, r1, r2, r3⟩ := run_mapUpdate (d := dep) (d' := 16) hmt hku hh4 (by decide) hh3 (getTV_sound h hk) (getTV_sound h hv) h1 h2 h3 h4
        have hn : Touch m w b { w with heap := w.heap.setIfInBounds g (.map es' clock') } :=
          ⟨⟨rfl, rfl, rfl, by simp⟩, fun k _ hne => by
            show (w.heap.setIfInBounds g _)[k]? = _
            rw [Array.getElem?_setIfInBounds_ne]
            intro e
            exact hne (by rw [e1, e]; rfl)⟩
        rw [hxv]
        refine ⟨_, hrun, h.setBox hbm hn (g := g) e1 ?_⟩
        have hbi : b ∈ st.ids := List.mem_append.2 (.inl (List.mem_map.2 ⟨_, hbm, rfl⟩))
        obtain ⟨kk1, kk2⟩ := Rm.touch_keeps (cx := cx) hbi hn (ids := (st.setBox b (.mp ku' vu' (mset (eqEl ku') ps y z))).ids) (setBox_ids hbm h.keys _).1
        refine ⟨es', clock', ?_, r1, r2, repM_mono (fun _ _ h => repV_ext kk1 kk2 h) (fun _ _ h => repV_ext kk1 kk2 h) r3⟩
        show (w.heap.setIfInBounds g _)[g]? = _
        rw [Array.getElem?_setIfInBounds_self_of_lt (heap_some_lt h1)]
      · cases hev
    · cases hev
  · cases hev

end Go.Ev
