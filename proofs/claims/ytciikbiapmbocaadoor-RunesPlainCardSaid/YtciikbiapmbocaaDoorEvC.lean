/- How the evaluator's state outlives the changes of a world. -/
import Derived.Test.YtciikbiapmbocaaDoorEvB
namespace Go.Ev
open Go Go.RowKit

variable {cx : Cx} {m : Nat → Value} {st : St} {T : Array Value} {w w' : World}

theorem Frame.refl (w : World) (X : Nat → Prop) : Frame w w X := ⟨rfl, rfl, rfl, Nat.le_refl _, fun _ _ _ => rfl⟩

/-- The streams stand and no block has gone. -/
structure Same (w w' : World) : Prop where
  os : w'.os = w.os
  tape : w'.tape = w.tape
  output : w'.output = w.output
  size : w.heap.size ≤ w'.heap.size

/-- A world that has grown: all that was there is as it was. -/
structure Ext (w w' : World) : Prop extends Same w w' where
  block : ∀ b, b < w.heap.size → w'.heap[b]? = w.heap[b]?

theorem Ext.refl (w : World) : Ext w w := { os := rfl, tape := rfl, output := rfl, size := Nat.le_refl _, block := fun _ _ => rfl }
theorem Ext.of_below {w w' : World} (h : Below w.heap.size w w') : Ext w w' := { os := h.os, tape := h.tape, output := h.output, size := h.size, block := h.block }
theorem Ext.below {w w' : World} (h : Ext w w') : Below w.heap.size w w' := ⟨h.os, h.tape, h.output, h.size, h.block⟩
theorem Ext.trans {a b c : World} (h : Ext a b) (k : Ext b c) : Ext a c := Ext.of_below (h.below.trans (k.below.mono h.size))
theorem Ext.drew {w w' : World} (h : Ext w w') : Ext w w'.drew := Ext.of_below h.below.drew

theorem Frame.step (h : Frame cx.w0 w cx.X) (hs : Same w w') (hb : ∀ b, b < cx.w0.heap.size → ¬ cx.X b → w'.heap[b]? = w.heap[b]?) : Frame cx.w0 w' cx.X :=
  ⟨hs.os.trans h.os, hs.tape.trans h.tape, hs.output.trans h.output, Nat.le_trans h.size hs.size, fun b h1 h2 => (hb b h1 h2).trans (h.block b h1 h2)⟩

/-- A slot is written. -/
theorem Rm.put (h : Rm cx m st T w) {d : Nat} (hd : d < cx.n) {v : Value} {s : SV} (hv : repS w (Mut cx m st.ids) m v s) : Rm cx m (st.put d s) (T.setIfInBounds d v) w :=
  { h with
    size := by rw [Array.size_setIfInBounds]; exact h.size
    slots := fun i sv hi => by
      rcases List.mem_cons.1 hi with hi | hi
      · cases hi
        exact ⟨v, by rw [Array.getElem?_setIfInBounds_self_of_lt (by rw [h.size]; exact hd)], hv⟩
      · obtain ⟨hi, hne⟩ := mem_del.1 hi
        obtain ⟨v', h1, h2⟩ := h.slots i sv hi
        exact ⟨v', by rw [Array.getElem?_setIfInBounds_ne (fun e => hne e.symm)]; exact h1, h2⟩ }

theorem Rm.lt (h : Rm cx m st T w) {i g : Nat} (hi : i ∈ st.ids) (hg : blk (m i) = some g) : g < w.heap.size ∧ (cx.w0.heap.size ≤ g ∨ cx.X g) := by
  rcases List.mem_append.1 hi with hi | hi
  · obtain ⟨⟨b, c⟩, hp, rfl⟩ := List.mem_map.1 hi
    obtain ⟨g', h1, h2, h3⟩ := h.boxes b c hp
    dsimp only at hg
    rw [h1, mval_blk] at hg
    cases hg
    exact ⟨objOK_lt h3, h2⟩
  · obtain ⟨⟨r, c⟩, hp, rfl⟩ := List.mem_map.1 hi
    obtain ⟨cells, h1, h2, _⟩ := h.rows r c hp
    refine ⟨?_, h2 g hg⟩
    rcases h1.2 with ⟨hv, _⟩ | ⟨g', cap, cur, hv, _, hh, _⟩
    · dsimp only at hg; rw [hv] at hg; cases hg
    · dsimp only at hg
      rw [hv] at hg
      cases hg
      rcases Nat.lt_or_ge g' w.heap.size with h | h
      · exact h
      · rw [Array.getElem?_eq_none h] at hh; cases hh

theorem Rm.mut_lt (h : Rm cx m st T w) {b : Nat} (hb : Mut cx m st.ids b) : b < w.heap.size := by
  rcases hb with hb | ⟨i, hi, hg⟩
  · exact Nat.lt_of_lt_of_le (h.outer b hb).1 h.frame.size
  · exact (h.lt hi hg).1

/-- The world grows. -/
theorem Rm.ext (h : Rm cx m st T w) (he : Ext w w') : Rm cx m st T w' := by
  have h1 : ∀ b, b < w.heap.size → ¬ Mut cx m st.ids b → w'.heap[b]? = w.heap[b]? := fun b hb _ => he.block b hb
  have h2 : ∀ b, b < w.heap.size → Mut cx m st.ids b → Mut cx m st.ids b := fun _ _ h => h
  exact { h with
    frame := h.frame.step he.toSame fun b hb _ => he.block b (Nat.lt_of_lt_of_le hb h.frame.size)
    slots := fun i sv hi => let ⟨v, ha, hb⟩ := h.slots i sv hi; ⟨v, ha, repS_ext h1 h2 hb⟩
    boxes := fun b c hb => by
      obtain ⟨g, e1, e2, e3⟩ := h.boxes b c hb
      exact ⟨g, e1, e2, objOK_ext (he.block g (objOK_lt e3)) h1 h2 e3⟩
    rows := fun r c hr => by
      obtain ⟨cells, e1, e2, e3⟩ := h.rows r c hr
      refine ⟨cells, e1.kept (row := none) ⟨he.os, he.tape, he.output, he.size, fun k hk _ => he.block k hk⟩ ?_, e2, repL_mono (fun _ _ => rep_ext h1 h2 c.t) e3⟩
      cases hv : (m r).ownBlock
      · exact .inl rfl
      · exact .inr (by simp) }

theorem ownBlock_blk {v : Value} {b : Nat} (h : v.ownBlock = some b) : blk v = some b := by
  cases v with
  | slice a n c => cases a with
    | none => simp [Value.ownBlock] at h
    | some a => simpa [Value.ownBlock, blk] using h
  | _ => simp [Value.ownBlock] at h

theorem scrub_ids (st : St) (r : Nat) : ∀ i, i ∈ (st.scrub r).ids ↔ i ∈ st.ids ∧ i ≠ r := by
  intro i
  simp only [St.ids, St.scrub, List.map_map, List.mem_append, List.mem_map, Function.comp]
  constructor
  · rintro (⟨⟨b, c⟩, hp, rfl⟩ | ⟨⟨b, c⟩, hp, rfl⟩)
    · obtain ⟨h1, h2⟩ := mem_del.1 hp; exact ⟨.inl ⟨_, h1, rfl⟩, h2⟩
    · obtain ⟨h1, h2⟩ := mem_del.1 hp; exact ⟨.inr ⟨_, h1, rfl⟩, h2⟩
  · rintro ⟨⟨⟨b, c⟩, hp, rfl⟩ | ⟨⟨b, c⟩, hp, rfl⟩, hne⟩
    · exact .inl ⟨(b, c), mem_del.2 ⟨hp, hne⟩, rfl⟩
    · exact .inr ⟨(b, c), mem_del.2 ⟨hp, hne⟩, rfl⟩

theorem scrub_nodup {st : St} (h : st.ids.Nodup) (r : Nat) : (st.scrub r).ids.Nodup := by
  have e : (st.scrub r).ids = st.ids.filter (fun k => !Nat.beq k r) := by
    have hm : ((del st.bx r).map fun p => (p.1, p.2.map (SV.scrub r))).map (·.1) = (del st.bx r).map (·.1) := by simp [List.map_map, Function.comp_def]
    show ((del st.bx r).map fun p => (p.1, p.2.map (SV.scrub r))).map (·.1) ++ (del st.rw r).map (·.1) = _
    rw [hm, del_keys, del_keys, ← List.filter_append]
    rfl
  rw [e]
  exact h.filter _

/-- The place of r is new, or the old one of r: all the rest of the state stands, in the new world. -/
structure Renew (cx : Cx) (m : Nat → Value) (st : St) (w : World) (r : Nat) (u : Value) (w' : World) : Prop where
  same : Same w w'
  block : ∀ b, b < w.heap.size → ¬ (r ∈ st.ids ∧ blk (m r) = some b) → w'.heap[b]? = w.heap[b]?
  place : ∀ g, blk u = some g → (r ∈ st.ids ∧ blk (m r) = some g) ∨ (w.heap.size ≤ g ∧ g < w'.heap.size)

theorem Renew.keeps {r : Nat} {u : Value} (hn : Renew cx m st w r u w') : ∀ b, b < w.heap.size → ¬ Mut cx m st.ids b → w'.heap[b]? = w.heap[b]? :=
  fun b hb hm => hn.block b hb fun ⟨h1, h2⟩ => hm (.inr ⟨r, h1, h2⟩)
theorem Renew.mut {r : Nat} {u : Value} {ids : List Nat} (hids : ∀ i, i ∈ ids → i = r ∨ i ∈ st.ids) (hn : Renew cx m st w r u w') :
    ∀ b, b < w.heap.size → Mut cx (upd m r u) ids b → Mut cx m st.ids b := by
  rintro b hb (h | ⟨i, hi, hg⟩)
  · exact .inl h
  · by_cases e : i = r
    · subst e
      rw [upd_same] at hg
      rcases hn.place b hg with h | h
      · exact .inr ⟨i, h.1, h.2⟩
      · omega
    · rw [upd_other _ _ e] at hg
      exact .inr ⟨i, (hids i hi).resolve_left e, hg⟩

theorem Rm.renew_frame (h : Rm cx m st T w) {r : Nat} {u : Value} (hn : Renew cx m st w r u w') : Frame cx.w0 w' cx.X :=
  h.frame.step hn.same fun b hb hX => hn.block b (Nat.lt_of_lt_of_le hb h.frame.size) fun ⟨h1, h2⟩ => by
    rcases (h.lt h1 h2).2 with h3 | h3
    · omega
    · exact hX h3

theorem Rm.renew_slots (h : Rm cx m st T w) {r : Nat} {u : Value} {ids : List Nat} (hids : ∀ i, i ∈ ids → i = r ∨ i ∈ st.ids) (hn : Renew cx m st w r u w') :
    ∀ i sv, (i, sv) ∈ (st.scrub r).sl → ∃ v, T[i]? = some v ∧ repS w' (Mut cx (upd m r u) ids) (upd m r u) v sv := by
  intro i sv hi
  obtain ⟨⟨j, s⟩, hp, he⟩ := List.mem_map.1 hi
  cases he
  obtain ⟨v, h1, h2⟩ := h.slots j s hp
  exact ⟨v, h1, repS_scrub r u (repS_ext hn.keeps (hn.mut hids) h2 : repS w' (Mut cx (upd m r u) ids) m v s)⟩

theorem Rm.renew_boxes (h : Rm cx m st T w) {r : Nat} {u : Value} {ids : List Nat} (hids : ∀ i, i ∈ ids → i = r ∨ i ∈ st.ids) (hn : Renew cx m st w r u w') :
    ∀ b c, (b, c) ∈ (st.scrub r).bx → ∃ g, upd m r u b = mval g c ∧ (cx.w0.heap.size ≤ g ∨ cx.X g) ∧ objOK w' (Mut cx (upd m r u) ids) (upd m r u) g c := by
  intro b c hb
  obtain ⟨⟨j, s⟩, hp, he⟩ := List.mem_map.1 hb
  cases he
  obtain ⟨hp, hne⟩ := mem_del.1 hp
  obtain ⟨g, e1, e2, e3⟩ := h.boxes j s hp
  have hj : j ∈ st.ids := List.mem_append.2 (.inl (List.mem_map.2 ⟨_, hp, rfl⟩))
  have hg : blk (m j) = some g := by rw [e1, mval_blk]
  have hsame := hn.block g (h.lt hj hg).1 fun ⟨h1, h2⟩ => h.apart r j h1 hj (fun e => hne e.symm) g h2 hg
  exact ⟨g, by rw [upd_other _ _ hne, mval_map]; exact e1, e2, objOK_map hn.keeps (hn.mut hids) hsame (fun v s hh => repS_scrub r u (repS_ext hn.keeps (hn.mut hids) hh : repS w' (Mut cx (upd m r u) ids) m v s)) e3⟩

theorem Rm.renew_rows (h : Rm cx m st T w) {r : Nat} {u : Value} {ids : List Nat} (hids : ∀ i, i ∈ ids → i = r ∨ i ∈ st.ids) (hn : Renew cx m st w r u w') :
    ∀ b c, (b, c) ∈ (st.scrub r).rw → ∃ cells, w'.ownsRow 0 c.e c.t.cells (upd m r u b) c.xs.length cells ∧ (∀ g, blk (upd m r u b) = some g → cx.w0.heap.size ≤ g ∨ cx.X g) ∧
      repL (rep w' (Mut cx (upd m r u) ids) c.t) cells c.xs := by
  intro b c hb
  obtain ⟨hp, hne⟩ := mem_del.1 hb
  obtain ⟨cells, e1, e2, e3⟩ := h.rows b c hp
  have hj : b ∈ st.ids := List.mem_append.2 (.inr (List.mem_map.2 ⟨_, hp, rfl⟩))
  rw [upd_other _ _ hne]
  refine ⟨cells, ⟨e1.1, ?_⟩, e2, repL_mono (fun _ _ => rep_ext hn.keeps (hn.mut hids) c.t) e3⟩
  rcases e1.2 with hh | ⟨g, cap, cur, hv, hb0, hh, rest⟩
  · exact .inl hh
  · have hg : blk (m b) = some g := by rw [hv]; rfl
    exact .inr ⟨g, cap, cur, hv, hb0, by rw [hn.block g (h.lt hj hg).1 fun ⟨h1, h2⟩ => h.apart r b h1 hj (fun e => hne e.symm) g h2 hg]; exact hh, rest⟩

theorem Rm.renew_apart (h : Rm cx m st T w) {r : Nat} {u : Value} {ids : List Nat} (hids : ∀ i, i ∈ ids → i = r ∨ i ∈ st.ids) (hn : Renew cx m st w r u w') :
    ∀ i j, i ∈ ids → j ∈ ids → i ≠ j → ∀ g, blk (upd m r u i) = some g → blk (upd m r u j) ≠ some g := by
  intro i j hi hj hij g hgi hgj
  by_cases ei : i = r
  · subst ei
    rw [upd_same] at hgi
    rw [upd_other _ _ (fun e => hij e.symm)] at hgj
    have hj' := (hids j hj).resolve_left (fun e => hij e.symm)
    rcases hn.place g hgi with ⟨h1, h2⟩ | ⟨h1, _⟩
    · exact h.apart i j h1 hj' hij g h2 hgj
    · have := (h.lt hj' hgj).1; omega
  · rw [upd_other _ _ ei] at hgi
    have hi' := (hids i hi).resolve_left ei
    by_cases ej : j = r
    · subst ej
      rw [upd_same] at hgj
      rcases hn.place g hgj with ⟨h1, h2⟩ | ⟨h1, _⟩
      · exact h.apart i j hi' h1 hij g hgi h2
      · have := (h.lt hi' hgi).1; omega
    · rw [upd_other _ _ ej] at hgj
      exact h.apart i j hi' ((hids j hj).resolve_left ej) hij g hgi hgj

def St.addBox (st : St) (r : Nat) (c : BX) : St := { st.scrub r with bx := (r, c) :: (st.scrub r).bx }
def St.addRow (st : St) (r : Nat) (c : RowC) : St := { st.scrub r with rw := (r, c) :: (st.scrub r).rw }

theorem addBox_ids (st : St) (r : Nat) (c : BX) : (st.addBox r c).ids = r :: (st.scrub r).ids := rfl
theorem addRow_mem (st : St) (r : Nat) (c : RowC) : ∀ i, i ∈ (st.addRow r c).ids ↔ i = r ∨ i ∈ (st.scrub r).ids := by
  intro i
  simp only [St.ids, St.addRow, List.map_cons, List.mem_append, List.mem_cons]
  constructor
  · rintro (h | h | h)
    · exact .inr (.inl h)
    · exact .inl h
    · exact .inr (.inr h)
  · rintro (h | h | h)
    · exact .inr (.inl h)
    · exact .inl h
    · exact .inr (.inr h)

theorem Rm.fixed_scrub (h : Rm cx m st T w) {r : Nat} {u : Value} {b : Nat} {c : BX} (hb : (b, c) ∈ (st.scrub r).bx) (hle : cx.n ≤ b) : upd m r u b = cx.m0 b := by
  obtain ⟨⟨b', c'⟩, hp, he⟩ := List.mem_map.1 hb
  cases he
  obtain ⟨h1, h2⟩ := mem_del.1 hp
  rw [upd_other _ _ h2]
  exact h.fixed _ _ h1 hle

theorem Rm.addBox (h : Rm cx m st T w) {r : Nat} (hr : r < cx.n) {g : Nat} {c : BX} (hn : Renew cx m st w r (mval g c) w')
    (hg : cx.w0.heap.size ≤ g ∨ cx.X g) (hc : objOK w' (Mut cx (upd m r (mval g c)) (st.addBox r c).ids) (upd m r (mval g c)) g c) :
    Rm cx (upd m r (mval g c)) (st.addBox r c) T w' := by
  have hids : ∀ i, i ∈ (st.addBox r c).ids → i = r ∨ i ∈ st.ids := by
    intro i hi
    rw [addBox_ids] at hi
    rcases List.mem_cons.1 hi with hi | hi
    · exact .inl hi
    · exact .inr ((scrub_ids st r i).1 hi).1
  refine { size := h.size, frame := h.renew_frame hn, outer := h.outer, slots := h.renew_slots hids hn, boxes := ?_, rows := h.renew_rows hids hn, apart := h.renew_apart hids hn, keys := ?_, fixed := ?_ }
  · intro b c' hb
    rcases List.mem_cons.1 hb with hb | hb
    · cases hb
      exact ⟨g, upd_same _ _ _, hg, hc⟩
    · exact h.renew_boxes hids hn b c' hb
  · rw [addBox_ids]
    exact List.nodup_cons.2 ⟨fun hh => ((scrub_ids st r r).1 hh).2 rfl, scrub_nodup h.keys r⟩
  · intro b c' hb hle
    rcases List.mem_cons.1 hb with hb | hb
    · cases hb; omega
    · exact h.fixed_scrub hb hle

theorem Rm.addRow (h : Rm cx m st T w) {r : Nat} {u : Value} (hn : Renew cx m st w r u w') {cells : List Value} {c : RowC}
    (hg : ∀ g, blk u = some g → cx.w0.heap.size ≤ g ∨ cx.X g) (hh : w'.ownsRow 0 c.e c.t.cells u c.xs.length cells)
    (hc : repL (rep w' (Mut cx (upd m r u) (st.addRow r c).ids) c.t) cells c.xs) :
    Rm cx (upd m r u) (st.addRow r c) T w' := by
  have hids : ∀ i, i ∈ (st.addRow r c).ids → i = r ∨ i ∈ st.ids := by
    intro i hi
    rcases (addRow_mem st r c i).1 hi with hi | hi
    · exact .inl hi
    · exact .inr ((scrub_ids st r i).1 hi).1
  refine { size := h.size, frame := h.renew_frame hn, outer := h.outer, slots := h.renew_slots hids hn, boxes := h.renew_boxes hids hn, rows := ?_, apart := h.renew_apart hids hn, keys := ?_, fixed := fun b c' hb hle => h.fixed_scrub hb hle }
  · intro b c' hb
    rcases List.mem_cons.1 hb with hb | hb
    · cases hb
      rw [upd_same]
      exact ⟨cells, hh, hg, hc⟩
    · exact h.renew_rows hids hn b c' hb
  · have hp : (st.addRow r c).ids.Perm (r :: (st.scrub r).ids) := by
      show ((st.scrub r).bx.map (·.1) ++ r :: (st.scrub r).rw.map (·.1)).Perm _
      exact List.perm_middle
    exact hp.nodup_iff.2 (List.nodup_cons.2 ⟨fun hh => ((scrub_ids st r r).1 hh).2 rfl, scrub_nodup h.keys r⟩)

/-- New memory for r. -/
theorem Renew.fresh (h : Rm cx m st T w) (r : Nat) (u : Value) (he : Ext w w') (hu : ∀ g, blk u = some g → w.heap.size ≤ g ∧ g < w'.heap.size) : Renew cx m st w r u w' :=
  ⟨he.toSame, fun b hb _ => he.block b hb, fun g hg => .inr (hu g hg)⟩

end Go.Ev
