/- A store is right. -/
import Derived.Test.YtciikbiapmbocaaDoorEvJ
namespace Go.Ev
open Go Go.RowKit
variable {cx : Cx} {m : Nat → Value} {st : St} {T : Array Value} {w w' : World}

theorem repL_set {M : Nat → Prop} {t : Ty} : ∀ {xs : List t.el} {cs : List Value} {i : Nat} {x : t.el}, repL (rep w M t) cs xs → xs[i]? = some x →
    ∃ c1 c2 c3, cs = c1 ++ c2 ++ c3 ∧ c1.length = i * t.cells ∧ rep w M t c2 x ∧ ∀ c2' x', rep w M t c2' x' → repL (rep w M t) (c1 ++ c2' ++ c3) (xs.set i x')
  | [], _, _, _, _, h => by simp at h
  | y :: ys, cs, 0, x, ⟨c1, c2, e, h1, h2⟩, h => by
    simp at h
    subst h
    exact ⟨[], c1, c2, by simpa using e, by simp, h1, fun c2' x' h' => ⟨c2', c2, by simp, h', h2⟩⟩
  | y :: ys, cs, i + 1, x, ⟨c1, c2, e, h1, h2⟩, h => by
    obtain ⟨d1, d2, d3, hd, hl, hr, hs⟩ := repL_set h2 (by simpa using h)
    refine ⟨c1 ++ d1, d2, d3, by rw [e, hd]; simp, ?_, hr, fun c2' x' h' => ⟨c1, d1 ++ c2' ++ d3, by simp, h1, hs c2' x' h'⟩⟩
    rw [List.length_append, rep_length t h1, hl, Nat.succ_mul, Nat.add_comm]

theorem repSs_ext {M M' : Nat → Prop} (hw : ∀ b, b < w.heap.size → ¬ M b → w'.heap[b]? = w.heap[b]?) (hM : ∀ b, b < w.heap.size → M' b → M b) {c : List Value} {l : List SV} (h : repSs w M m c l) : repSs w' M' m c l := by
  have := repSs_map (f := id) (fun v s hh => repS_ext (m := m) hw hM hh) h
  simpa using this

theorem evStore_sound (h : Rm cx m st T w) {t : TypeId} {x y : Operand} {orc orc' : List TV} {st' : St} {ob : List Prop} (hev : evStore cx.P st t x y orc = some (st', orc', ob)) (hob : allP ob) :
    ∃ w', (Instr.storeAt t (Act.eval ⟨T, []⟩ x) (Act.eval ⟨T, []⟩ y)).run cx.P w = .ok () w' ∧ Rm cx m st' T w' := by
  unfold evStore at hev
  split at hev
  · rename_i b off u s hx ht hy
    obtain ⟨g, hg1, hg2⟩ := getSV_sound h hx
    split at hev
    · rename_i c e l hc hl hrow
      cases hb : Nat.ble (off + u.cells) c.length with
      | false => rw [hb] at hev; cases hev
      | true =>
        rw [hb] at hev
        cases hev
        have hle := Nat.le_of_ble_eq_true hb
        have hcm := look_mem hc
        obtain ⟨g', e1, _, cells, e3, e4⟩ := h.boxes b _ hcm
        have : g' = g := by rw [hg1] at e1; cases e1; rfl
        subst this
        have hri : b ∈ st.ids := List.mem_append.2 (.inl (List.mem_map.2 ⟨_, hcm, rfl⟩))
        have hclen := repSs_length e4
        have hrow' : ∀ r, s = .row r → (m r).oneCell' = true := by
          rintro r rfl
          simp only [evStore.rowOK] at hrow
          obtain ⟨c', hc'⟩ := Option.isSome_iff_exists.1 hrow
          exact row_one h (look_mem hc')
        obtain ⟨k1, k2, k3⟩ := cellsSV_sound hrow' (getSV_sound h hy) hl
        have hfit : off + u.cells ≤ cells.size := by rw [← Array.length_toList, hclen]; exact hle
        have hrun := store_run (P := cx.P) ht e3 k3 hfit k2
        refine ⟨_, by rw [hg2]; exact hrun, ?_⟩
        have hn : Touch m w b (w.setRow g' (cells.toList.take off ++ (Act.eval ⟨T, []⟩ y).cells.toList ++ cells.toList.drop (off + u.cells)).toArray) :=
          ⟨same_setRow _ _ _, fun k hk hne => setRow_other _ _ _ _ (fun e => hne (by rw [hg1, e]; rfl))⟩
        obtain ⟨hids, _⟩ := setBox_ids hcm h.keys (.cells (c.take off ++ l ++ c.drop (off + u.cells)) e)
        obtain ⟨q1, q2⟩ := Rm.touch_keeps (cx := cx) hri hn hids
        refine h.setBox hcm hn (g := g') hg1 ⟨_, setRow_heap _ _ _ _ _ _ e3, ?_⟩
        simp only []
        exact repSs_append (repSs_append (repSs_ext q1 q2 (repSs_split off e4).1) (repSs_ext q1 q2 k1)) (repSs_ext q1 q2 (repSs_split (off + u.cells) e4).2)
    · cases hev
  · rename_i r i off sz u t' z hx ht hy
    obtain ⟨g, n, cap, hg1, hg2⟩ := getSV_sound h hx
    split at hev
    · rename_i c v orc2 hc
      split at hev
      · rename_i x0 hv hsz hb
        split at hev
        · rename_i x1 hx1
          cases hev
          obtain ⟨h0, h1, h2⟩ := at?_some hob.1
          have hcm := look_mem hc
          obtain ⟨cells, hown, hout, hL⟩ := h.rows r c hcm
          have hri : r ∈ st.ids := List.mem_append.2 (.inr (List.mem_map.2 ⟨_, hcm, rfl⟩))
          have hsz' := Nat.eq_of_beq_eq_true hsz
          subst hsz'
          obtain rfl := Ty.eq_of_beq hb
          have hval : repV w (Mut cx m st.ids) (Act.eval ⟨T, []⟩ y) t' z := getSV_sound h hy
          have hvc := repV_cells hval
          have hvl := rep_length t' hvc
          have hvs : (Act.eval ⟨T, []⟩ y).cells.size = t'.cells := by rw [← hvl]; simp
          rcases hown.2 with ⟨hn, _⟩ | ⟨g', cap', cur, hn, hb0, hh, hle, hmax, hcur, htk⟩
          · rw [hg1] at hn; cases hn
          · have : g' = g := by rw [hg1] at hn; cases hn; rfl
            subst this
            obtain ⟨c1, c2, c3, rfl, hl, hr, hset⟩ := repL_set hL h2
            obtain ⟨d1, d2, d3, rfl, hdl, hdl2, hr2⟩ := setT_rep (v := ⟨t', z⟩) hvc c.t hr hx1
            obtain ⟨rest, hrest⟩ : ∃ rest, cur.toList = (c1 ++ (d1 ++ d2 ++ d3) ++ c3) ++ rest := ⟨cur.toList.drop (c.xs.length * c.t.cells), by rw [← htk, List.take_append_drop]⟩
            have hN : (c1 ++ (d1 ++ d2 ++ d3) ++ c3).length = c.xs.length * c.t.cells := hown.1
            have ho : i.toNat * c.t.cells + off = (c1 ++ d1).length := by rw [List.length_append, hl, hdl]
            have hlen : cur.toList.length = (c1 ++ d1).length + d2.length + (d3 ++ c3 ++ rest).length := by rw [hrest]; simp only [List.length_append]; omega
            have hfit : i.toNat * c.t.cells + off + t'.cells ≤ cur.size := by
              rw [← Array.length_toList, hlen, ho, ← hvl, hdl2]
              omega
            have hrun := store_run (P := cx.P) ht hh hvs hfit (rep_oneCell t' hvc)
            have etk : cur.toList.take (i.toNat * c.t.cells + off) = c1 ++ d1 := by
              rw [hrest, ho]
              have : c1 ++ (d1 ++ d2 ++ d3) ++ c3 ++ rest = (c1 ++ d1) ++ (d2 ++ d3 ++ c3 ++ rest) := by simp
              rw [this, List.take_left]
            have edr : cur.toList.drop (i.toNat * c.t.cells + off + t'.cells) = d3 ++ c3 ++ rest := by
              rw [hrest, ho, ← hvl, ← hdl2, ← List.length_append]
              have : c1 ++ (d1 ++ d2 ++ d3) ++ c3 ++ rest = (c1 ++ d1 ++ d2) ++ (d3 ++ c3 ++ rest) := by simp
              rw [this, List.drop_left]
            rw [etk, edr] at hrun
            refine ⟨_, by rw [hg2]; exact hrun, ?_⟩
            have hnt : Touch m w r (w.setRow g' (c1 ++ d1 ++ (Act.eval ⟨T, []⟩ y).cells.toList ++ (d3 ++ c3 ++ rest)).toArray) :=
              ⟨same_setRow _ _ _, fun k hk hne => setRow_other _ _ _ _ (fun e => hne (by rw [hg1, e]; rfl))⟩
            obtain ⟨hids, _⟩ := setRow_ids hcm h.keys { c with xs := c.xs.set i.toNat x1 }
            obtain ⟨q1, q2⟩ := Rm.touch_keeps (cx := cx) hri hnt hids
            have hnew := hset _ _ hr2
            have hshape : c1 ++ d1 ++ (Act.eval ⟨T, []⟩ y).cells.toList ++ (d3 ++ c3 ++ rest) = (c1 ++ (d1 ++ (Act.eval ⟨T, []⟩ y).cells.toList ++ d3) ++ c3) ++ rest := by simp
            have hl2 : (c1 ++ (d1 ++ (Act.eval ⟨T, []⟩ y).cells.toList ++ d3) ++ c3).length = c.xs.length * c.t.cells := by
              rw [← hN]; simp only [List.length_append, hdl2]
            refine h.setRow hcm hnt (cells := c1 ++ (d1 ++ (Act.eval ⟨T, []⟩ y).cells.toList ++ d3) ++ c3) ?_ (repL_mono (fun _ _ => rep_ext q1 q2 c.t) hnew)
            refine ⟨by simp only [List.length_set]; exact hl2, .inr ⟨g', cap', _, by rw [hn]; simp only [List.length_set], hb0, setRow_heap _ _ _ _ _ _ hh, by simp only [List.length_set]; exact hle, hmax, ?_, ?_⟩⟩
            · rw [List.size_toArray, hshape, List.length_append, hl2, ← hcur, ← Array.length_toList, hrest, List.length_append, hN]
            · simp only [List.length_set]
              rw [hshape, ← hl2, List.take_left]
        · cases hev
      · cases hev
    · cases hev
  · cases hev

end Go.Ev
