/- Contents that change in place; parts of a state; owned slices that are given up. -/
import Derived.Test.YtciikbiapmbocaaDoorEvC
namespace Go.Ev
open Go Go.RowKit

variable {cx : Cx} {m : Nat → Value} {st : St} {T : Array Value} {w w' : World}

theorem mut_mono {ids ids' : List Nat} (h : ∀ i, i ∈ ids' → i ∈ ids) {b : Nat} (hb : Mut cx m ids' b) : Mut cx m ids b := by
  rcases hb with hb | ⟨i, hi, hg⟩
  · exact .inl hb
  · exact .inr ⟨i, h i hi, hg⟩

def St.setBox (st : St) (r : Nat) (c : BX) : St := { st with bx := (r, c) :: del st.bx r }
def St.setRow (st : St) (r : Nat) (c : RowC) : St := { st with rw := (r, c) :: del st.rw r }

theorem del_nodup {l : List (Nat × BX)} {k : List Nat} (h : (l.map (·.1) ++ k).Nodup) (r : Nat) : ((del l r).map (·.1) ++ k).Nodup := by
  rw [del_keys]
  exact h.sublist (List.Sublist.append List.filter_sublist (List.Sublist.refl _))

theorem setBox_ids {r : Nat} {c0 : BX} (hr : (r, c0) ∈ st.bx) (hk : st.ids.Nodup) (c : BX) : (∀ i, i ∈ (st.setBox r c).ids ↔ i ∈ st.ids) ∧ (st.setBox r c).ids.Nodup := by
  have hmem : ∀ i, i ∈ (st.setBox r c).ids ↔ i ∈ st.ids := by
    intro i
    simp only [St.ids, St.setBox, List.map_cons, List.mem_append, List.mem_cons, List.mem_map]
    constructor
    · rintro ((h | ⟨⟨b, s⟩, hp, rfl⟩) | h)
      · exact .inl ⟨(r, c0), hr, h.symm⟩
      · exact .inl ⟨_, (mem_del.1 hp).1, rfl⟩
      · exact .inr h
    · rintro (⟨⟨b, s⟩, hp, rfl⟩ | h)
      · by_cases e : b = r
        · exact .inl (.inl e)
        · exact .inl (.inr ⟨(b, s), mem_del.2 ⟨hp, e⟩, rfl⟩)
      · exact .inr h
  refine ⟨hmem, ?_⟩
  show (r :: ((del st.bx r).map (·.1) ++ st.rw.map (·.1))).Nodup
  refine List.nodup_cons.2 ⟨fun hh => ?_, del_nodup hk r⟩
  rcases List.mem_append.1 hh with hh | hh
  · obtain ⟨⟨b, s⟩, hp, e⟩ := List.mem_map.1 hh
    exact (mem_del.1 hp).2 e
  · exact (List.nodup_append.1 hk).2.2 r (List.mem_map.2 ⟨_, hr, rfl⟩) r hh rfl

theorem setRow_ids {r : Nat} {c0 : RowC} (hr : (r, c0) ∈ st.rw) (hk : st.ids.Nodup) (c : RowC) : (∀ i, i ∈ (st.setRow r c).ids ↔ i ∈ st.ids) ∧ (st.setRow r c).ids.Nodup := by
  have hmem : ∀ i, i ∈ (st.setRow r c).ids ↔ i ∈ st.ids := by
    intro i
    simp only [St.ids, St.setRow, List.map_cons, List.mem_append, List.mem_cons, List.mem_map]
    constructor
    · rintro (h | h | ⟨⟨b, s⟩, hp, rfl⟩)
      · exact .inl h
      · exact .inr ⟨(r, c0), hr, h.symm⟩
      · exact .inr ⟨_, (mem_del.1 hp).1, rfl⟩
    · rintro (h | ⟨⟨b, s⟩, hp, rfl⟩)
      · exact .inl h
      · by_cases e : b = r
        · exact .inr (.inl e)
        · exact .inr (.inr ⟨(b, s), mem_del.2 ⟨hp, e⟩, rfl⟩)
  refine ⟨hmem, ?_⟩
  have hp : (st.setRow r c).ids.Perm (r :: (st.bx.map (·.1) ++ (del st.rw r).map (·.1))) := by
    show (st.bx.map (·.1) ++ r :: (del st.rw r).map (·.1)).Perm _
    exact List.perm_middle
  refine hp.nodup_iff.2 (List.nodup_cons.2 ⟨fun hh => ?_, ?_⟩)
  · rcases List.mem_append.1 hh with hh | hh
    · exact (List.nodup_append.1 hk).2.2 r hh r (List.mem_map.2 ⟨_, hr, rfl⟩) rfl
    · obtain ⟨⟨b, s⟩, hp, e⟩ := List.mem_map.1 hh
      exact (mem_del.1 hp).2 e
  · rw [del_keys]
    exact hk.sublist (List.Sublist.append (List.Sublist.refl _) List.filter_sublist)

/-- Only the block of r has been written. -/
structure Touch (m : Nat → Value) (w : World) (r : Nat) (w' : World) : Prop where
  same : Same w w'
  block : ∀ b, b < w.heap.size → blk (m r) ≠ some b → w'.heap[b]? = w.heap[b]?

theorem Rm.touch_keeps {r : Nat} (hr : r ∈ st.ids) (hn : Touch m w r w') {ids : List Nat} (hids : ∀ i, i ∈ ids ↔ i ∈ st.ids) :
    (∀ b, b < w.heap.size → ¬ Mut cx m st.ids b → w'.heap[b]? = w.heap[b]?) ∧ (∀ b, b < w.heap.size → Mut cx m ids b → Mut cx m st.ids b) :=
  ⟨fun b hb hm => hn.block b hb fun e => hm (.inr ⟨r, hr, e⟩), fun _ _ h => mut_mono (fun i hi => (hids i).1 hi) h⟩

theorem Rm.touch_frame (h : Rm cx m st T w) {r : Nat} (hr : r ∈ st.ids) (hn : Touch m w r w') : Frame cx.w0 w' cx.X :=
  h.frame.step hn.same fun b hb hX => hn.block b (Nat.lt_of_lt_of_le hb h.frame.size) fun e => by
    rcases (h.lt hr e).2 with h3 | h3
    · omega
    · exact hX h3

theorem Rm.touch_other (h : Rm cx m st T w) {r : Nat} (hr : r ∈ st.ids) (hn : Touch m w r w') {j g : Nat} (hj : j ∈ st.ids) (hne : j ≠ r) (hg : blk (m j) = some g) : w'.heap[g]? = w.heap[g]? :=
  hn.block g (h.lt hj hg).1 fun e => h.apart r j hr hj (fun e => hne e.symm) g e hg

theorem Rm.touch_boxes (h : Rm cx m st T w) {r : Nat} (hr : r ∈ st.ids) (hn : Touch m w r w') {ids : List Nat} (hids : ∀ i, i ∈ ids ↔ i ∈ st.ids) {b : Nat} {c : BX} (hb : (b, c) ∈ st.bx) (hne : b ≠ r) :
    ∃ g, m b = mval g c ∧ (cx.w0.heap.size ≤ g ∨ cx.X g) ∧ objOK w' (Mut cx m ids) m g c := by
  obtain ⟨k1, k2⟩ := Rm.touch_keeps (cx := cx) hr hn hids
  obtain ⟨g, e1, e2, e3⟩ := h.boxes b c hb
  have hj : b ∈ st.ids := List.mem_append.2 (.inl (List.mem_map.2 ⟨_, hb, rfl⟩))
  have hg : blk (m b) = some g := by rw [e1, mval_blk]
  exact ⟨g, e1, e2, objOK_ext (h.touch_other hr hn hj hne hg) k1 k2 e3⟩

theorem Rm.touch_rows (h : Rm cx m st T w) {r : Nat} (hr : r ∈ st.ids) (hn : Touch m w r w') {ids : List Nat} (hids : ∀ i, i ∈ ids ↔ i ∈ st.ids) {b : Nat} {c : RowC} (hb : (b, c) ∈ st.rw) (hne : b ≠ r) :
    ∃ cells, w'.ownsRow 0 c.e c.t.cells (m b) c.xs.length cells ∧ (∀ g, blk (m b) = some g → cx.w0.heap.size ≤ g ∨ cx.X g) ∧ repL (rep w' (Mut cx m ids) c.t) cells c.xs := by
  obtain ⟨k1, k2⟩ := Rm.touch_keeps (cx := cx) hr hn hids
  obtain ⟨cells, e1, e2, e3⟩ := h.rows b c hb
  have hj : b ∈ st.ids := List.mem_append.2 (.inr (List.mem_map.2 ⟨_, hb, rfl⟩))
  refine ⟨cells, ⟨e1.1, ?_⟩, e2, repL_mono (fun _ _ => rep_ext k1 k2 c.t) e3⟩
  rcases e1.2 with hh | ⟨g, cap, cur, hv, hb0, hh, rest⟩
  · exact .inl hh
  · have hg : blk (m b) = some g := by rw [hv]; rfl
    exact .inr ⟨g, cap, cur, hv, hb0, by rw [h.touch_other hr hn hj hne hg]; exact hh, rest⟩

theorem Rm.touch_slots (h : Rm cx m st T w) {r : Nat} (hr : r ∈ st.ids) (hn : Touch m w r w') {ids : List Nat} (hids : ∀ i, i ∈ ids ↔ i ∈ st.ids) :
    ∀ i sv, (i, sv) ∈ st.sl → ∃ v, T[i]? = some v ∧ repS w' (Mut cx m ids) m v sv := fun i sv hi => by
  obtain ⟨k1, k2⟩ := Rm.touch_keeps (cx := cx) hr hn hids
  obtain ⟨v, h1, h2⟩ := h.slots i sv hi
  exact ⟨v, h1, repS_ext k1 k2 h2⟩

theorem Rm.setBox (h : Rm cx m st T w) {r : Nat} {c0 c : BX} (hr : (r, c0) ∈ st.bx) (hn : Touch m w r w') {g : Nat}
    (hm : m r = mval g c) (hc : objOK w' (Mut cx m (st.setBox r c).ids) m g c) : Rm cx m (st.setBox r c) T w' := by
  obtain ⟨hids, hnd⟩ := setBox_ids hr h.keys c
  have hri : r ∈ st.ids := List.mem_append.2 (.inl (List.mem_map.2 ⟨_, hr, rfl⟩))
  refine { size := h.size, frame := h.touch_frame hri hn, outer := h.outer, slots := h.touch_slots hri hn hids, boxes := ?_, rows := ?_, apart := ?_, keys := hnd, fixed := ?_ }
  · intro b c' hb
    rcases List.mem_cons.1 hb with hb | hb
    · cases hb
      obtain ⟨g', e1, e2, _⟩ := h.boxes r c0 hr
      have : g = g' := by
        have h1 := mval_blk g c
        have h2 := mval_blk g' c0
        rw [← hm, e1, h2] at h1
        exact (Option.some.inj h1).symm
      subst this
      exact ⟨g, hm, e2, hc⟩
    · obtain ⟨h1, h2⟩ := mem_del.1 hb
      exact h.touch_boxes hri hn hids h1 h2
  · intro b c' hb
    refine h.touch_rows hri hn hids hb ?_
    rintro rfl
    exact (List.nodup_append.1 h.keys).2.2 b (List.mem_map.2 ⟨_, hr, rfl⟩) b (List.mem_map.2 ⟨_, hb, rfl⟩) rfl
  · exact fun i j hi hj => h.apart i j ((hids i).1 hi) ((hids j).1 hj)
  · intro b c' hb hle
    rcases List.mem_cons.1 hb with hb | hb
    · cases hb; exact h.fixed _ _ hr hle
    · exact h.fixed _ _ (mem_del.1 hb).1 hle

theorem Rm.setRow (h : Rm cx m st T w) {r : Nat} {c0 c : RowC} (hr : (r, c0) ∈ st.rw) (hn : Touch m w r w') {cells : List Value}
    (hh : w'.ownsRow 0 c.e c.t.cells (m r) c.xs.length cells) (hc : repL (rep w' (Mut cx m (st.setRow r c).ids) c.t) cells c.xs) : Rm cx m (st.setRow r c) T w' := by
  obtain ⟨hids, hnd⟩ := setRow_ids hr h.keys c
  have hri : r ∈ st.ids := List.mem_append.2 (.inr (List.mem_map.2 ⟨_, hr, rfl⟩))
  refine { size := h.size, frame := h.touch_frame hri hn, outer := h.outer, slots := h.touch_slots hri hn hids, boxes := ?_, rows := ?_, apart := ?_, keys := hnd, fixed := h.fixed }
  · intro b c' hb
    refine h.touch_boxes hri hn hids hb ?_
    rintro rfl
    exact (List.nodup_append.1 h.keys).2.2 b (List.mem_map.2 ⟨_, hb, rfl⟩) b (List.mem_map.2 ⟨_, hr, rfl⟩) rfl
  · intro b c' hb
    rcases List.mem_cons.1 hb with hb | hb
    · cases hb
      obtain ⟨_, _, e2, _⟩ := h.rows r c0 hr
      exact ⟨cells, hh, e2, hc⟩
    · obtain ⟨h1, h2⟩ := mem_del.1 hb
      exact h.touch_rows hri hn hids h1 h2
  · exact fun i j hi hj => h.apart i j ((hids i).1 hi) ((hids j).1 hj)

/-- A state that says less. -/
theorem Rm.weaken (h : Rm cx m st T w) {st' : St} (hs : ∀ i sv, (i, sv) ∈ st'.sl → (i, sv) ∈ st.sl) (hb : ∀ p, p ∈ st'.bx → p ∈ st.bx) (hr : ∀ p, p ∈ st'.rw → p ∈ st.rw) (hnd : st'.ids.Nodup) : Rm cx m st' T w := by
  have hids : ∀ i, i ∈ st'.ids → i ∈ st.ids := by
    intro i hi
    rcases List.mem_append.1 hi with hi | hi
    · obtain ⟨p, hp, rfl⟩ := List.mem_map.1 hi; exact List.mem_append.2 (.inl (List.mem_map.2 ⟨p, hb p hp, rfl⟩))
    · obtain ⟨p, hp, rfl⟩ := List.mem_map.1 hi; exact List.mem_append.2 (.inr (List.mem_map.2 ⟨p, hr p hp, rfl⟩))
  have k1 : ∀ b, b < w.heap.size → ¬ Mut cx m st.ids b → w.heap[b]? = w.heap[b]? := fun _ _ _ => rfl
  have k2 : ∀ b, b < w.heap.size → Mut cx m st'.ids b → Mut cx m st.ids b := fun _ _ h => mut_mono hids h
  refine { size := h.size, frame := h.frame, outer := h.outer, slots := fun i sv hi => ?_, boxes := fun b c hb' => ?_, rows := fun b c hb' => ?_, apart := fun i j hi hj => h.apart i j (hids i hi) (hids j hj), keys := hnd, fixed := fun b c hb' => h.fixed b c (hb _ hb') }
  · obtain ⟨v, h1, h2⟩ := h.slots i sv (hs i sv hi)
    exact ⟨v, h1, repS_ext k1 k2 h2⟩
  · obtain ⟨g, e1, e2, e3⟩ := h.boxes b c (hb _ hb')
    exact ⟨g, e1, e2, objOK_ext rfl k1 k2 e3⟩
  · obtain ⟨cells, e1, e2, e3⟩ := h.rows b c (hr _ hb')
    exact ⟨cells, e1, e2, repL_mono (fun _ _ => rep_ext k1 k2 c.t) e3⟩

/-- The listed keys, in the list's order. -/
def pickL {α : Type} (l : List (Nat × α)) : List Nat → Option (List (Nat × α))
  | [] => some []
  | k :: ks => match look l k, pickL l ks with
    | some v, some r => some ((k, v) :: r)
    | _, _ => none
theorem pickL_mem {α : Type} {l : List (Nat × α)} : ∀ {ks : List Nat} {r : List (Nat × α)}, pickL l ks = some r → ∀ p, p ∈ r → p ∈ l
  | [], r, h, p, hp => by cases h; simp at hp
  | k :: ks, r, h, p, hp => by
    unfold pickL at h
    split at h
    · rename_i v r' h1 h2
      cases h
      rcases List.mem_cons.1 hp with rfl | hp
      · exact look_mem h1
      · exact pickL_mem h2 p hp
    · cases h
theorem pickL_keys {α : Type} {l : List (Nat × α)} : ∀ {ks : List Nat} {r : List (Nat × α)}, pickL l ks = some r → r.map (·.1) = ks
  | [], r, h => by cases h; rfl
  | k :: ks, r, h => by
    unfold pickL at h
    split at h
    · rename_i v r' h1 h2
      cases h
      simp [pickL_keys h2]
    · cases h
def nodupB : List Nat → Bool
  | [] => true
  | k :: ks => !(ks.any (Nat.beq k)) && nodupB ks
theorem nodupB_sound : ∀ {l : List Nat}, nodupB l = true → l.Nodup
  | [], _ => List.nodup_nil
  | k :: ks, h => by
    simp only [nodupB, Bool.and_eq_true, Bool.not_eq_true'] at h
    refine List.nodup_cons.2 ⟨fun hm => ?_, nodupB_sound h.2⟩
    have := List.any_eq_false.1 h.1 k hm
    rw [Nat.beq_refl] at this
    exact this rfl
def St.norm (st : St) (ks bs rs : List Nat) : Option St :=
  match pickL st.sl ks, pickL st.bx bs, pickL st.rw rs, nodupB (bs ++ rs) with
  | some a, some b, some c, true => some ⟨a, b, c⟩
  | _, _, _, _ => none
theorem Rm.norm (h : Rm cx m st T w) {ks bs rs : List Nat} {st' : St} (hn : st.norm ks bs rs = some st') : Rm cx m st' T w := by
  unfold St.norm at hn
  split at hn
  · rename_i a b c h1 h2 h3 h4
    cases hn
    refine h.weaken (fun i sv hi => pickL_mem h1 _ hi) (fun p hp => pickL_mem h2 p hp) (fun p hp => pickL_mem h3 p hp) ?_
    show (b.map (·.1) ++ c.map (·.1)).Nodup
    rw [pickL_keys h2, pickL_keys h3]
    exact nodupB_sound h4
  · cases hn

/-- An owned slice, read as a plain one: its own block is the only one of what may be written that is read. -/
theorem Rm.row_val (h : Rm cx m st T w) {r : Nat} {c : RowC} (hr : (r, c) ∈ st.rw) {M : Nat → Prop} (hM : ∀ b, b < w.heap.size → M b → Mut cx m st.ids b) (hno : ∀ g, blk (m r) = some g → ¬ M g) :
    rep w M (.sl c.t) [m r] c.xs := by
  obtain ⟨cells, e1, e2, e3⟩ := h.rows r c hr
  rcases e1.2 with ⟨hv, hn⟩ | ⟨g, cap, cur, hv, _, hh, hle, hmax, hsz, htk⟩
  · have hx : c.xs = [] := List.eq_nil_of_length_eq_zero hn
    rw [hx, hv]
    refine ⟨none, 0, [], rfl, Nat.le_refl _, by decide, fun _ => rfl, rfl, fun j u hj => by simp at hj⟩
  · refine ⟨some ⟨g, 0, none⟩, cap, cells, by rw [hv], hle, hmax, (fun e => by cases e), repL_mono (fun _ _ => rep_ext (fun _ _ _ => rfl) hM c.t) e3, fun j u hj => ⟨_, rfl, ?_, hno g (by rw [hv]; rfl)⟩⟩
    exact e1.cells (g := g) (by rw [hv]; rfl) j u hj

def TR.freeze (r : Nat) (c : RowC) : TR → TR
  | .r b => bif Nat.beq b r then .v ⟨.sl c.t, c.xs⟩ else .r b
  | s => s
def SV.freeze (r : Nat) (c : RowC) : SV → SV
  | .row b => bif Nat.beq b r then .val (.sl c.t) c.xs else .row b
  | .tups l => .tups (l.map (TR.freeze r c))
  | s => s
theorem repTRs_freeze {w : World} {M : Nat → Prop} {m : Nat → Value} {r : Nat} {c : RowC} (hval : rep w M (.sl c.t) [m r] c.xs) : ∀ {vs : List Value} {l : List TR}, repTRs w M m vs l → repTRs w M m vs (l.map (TR.freeze r c))
  | [], [], _ => trivial
  | [], _ :: _, h => h.elim
  | _ :: _, [], h => h.elim
  | _ :: _, .v _ :: _, ⟨h1, h2⟩ => ⟨h1, repTRs_freeze hval h2⟩
  | v :: _, .r b :: _, ⟨h1, h2⟩ => by
    show repTRs _ _ _ _ ((bif Nat.beq b r then .v ⟨.sl c.t, c.xs⟩ else .r b) :: _)
    cases hb : Nat.beq b r with
    | false => exact ⟨h1, repTRs_freeze hval h2⟩
    | true =>
      have e := Nat.eq_of_beq_eq_true hb
      subst e
      subst h1
      exact ⟨hval, repTRs_freeze hval h2⟩
def St.freeze (st : St) (r : Nat) (c : RowC) : St :=
  { sl := st.sl.map fun p => (p.1, p.2.freeze r c), bx := st.bx.map fun p => (p.1, p.2.map (SV.freeze r c)), rw := del st.rw r }

theorem Rm.freeze (h : Rm cx m st T w) {r : Nat} {c : RowC} (hr : (r, c) ∈ st.rw) : Rm cx m (st.freeze r c) T w := by
  have hmem : ∀ i, i ∈ (st.freeze r c).ids → i ∈ st.ids ∧ i ≠ r := by
    intro i hi
    have hne : ∀ c', (r, c') ∉ st.bx := fun c' hb => (List.nodup_append.1 h.keys).2.2 r (List.mem_map.2 ⟨_, hb, rfl⟩) r (List.mem_map.2 ⟨_, hr, rfl⟩) rfl
    rcases List.mem_append.1 hi with hi | hi
    · obtain ⟨⟨b, s⟩, hp, rfl⟩ := List.mem_map.1 hi
      obtain ⟨⟨b', s'⟩, hp', he⟩ := List.mem_map.1 hp
      cases he
      exact ⟨List.mem_append.2 (.inl (List.mem_map.2 ⟨_, hp', rfl⟩)), fun e => hne s' (by simp only at e; rw [← e]; exact hp')⟩
    · obtain ⟨⟨b, s⟩, hp, rfl⟩ := List.mem_map.1 hi
      obtain ⟨h1, h2⟩ := mem_del.1 hp
      exact ⟨List.mem_append.2 (.inr (List.mem_map.2 ⟨_, h1, rfl⟩)), h2⟩
  have hri : r ∈ st.ids := List.mem_append.2 (.inr (List.mem_map.2 ⟨_, hr, rfl⟩))
  have k1 : ∀ b, b < w.heap.size → ¬ Mut cx m st.ids b → w.heap[b]? = w.heap[b]? := fun _ _ _ => rfl
  have k2 : ∀ b, b < w.heap.size → Mut cx m (st.freeze r c).ids b → Mut cx m st.ids b := fun _ _ h => mut_mono (fun i hi => (hmem i hi).1) h
  have hval : rep w (Mut cx m (st.freeze r c).ids) (.sl c.t) [m r] c.xs := by
    refine h.row_val hr k2 fun g hg => ?_
    rintro (hA | ⟨i, hi, hgi⟩)
    · have h1 := h.outer g hA
      rcases (h.lt hri hg).2 with h2 | h2
      · omega
      · exact h1.2 h2
    · obtain ⟨h1, h2⟩ := hmem i hi
      exact h.apart i r h1 hri h2 g hgi hg
  have hs : ∀ v s, repS w (Mut cx m st.ids) m v s → repS w (Mut cx m (st.freeze r c).ids) m v (s.freeze r c) := by
    intro v s hv
    have hv' := repS_ext (w' := w) (m := m) k1 k2 hv
    cases s with
    | row b =>
      show repS _ _ _ _ (bif Nat.beq b r then .val (.sl c.t) c.xs else .row b)
      cases hb : Nat.beq b r with
      | false => exact hv'
      | true =>
        have e := Nat.eq_of_beq_eq_true hb
        subst e
        have : v = m b := hv
        subst this
        exact hval
    | tups l => obtain ⟨vs, e, hl⟩ := hv'; exact ⟨vs, e, repTRs_freeze hval hl⟩
    | _ => exact hv'
  have hsub : (st.freeze r c).ids.Sublist st.ids := by
    have e1 : (st.freeze r c).bx.map (·.1) = st.bx.map (·.1) := by simp [St.freeze, List.map_map, Function.comp_def]
    show ((st.freeze r c).bx.map (·.1) ++ (del st.rw r).map (·.1)).Sublist (st.bx.map (·.1) ++ st.rw.map (·.1))
    rw [e1, del_keys]
    exact List.Sublist.append (List.Sublist.refl _) List.filter_sublist
  refine { size := h.size, frame := h.frame, outer := h.outer, slots := fun i sv hi => ?_, boxes := fun b c' hb' => ?_, rows := fun b c' hb' => ?_, apart := fun i j hi hj => h.apart i j (hmem i hi).1 (hmem j hj).1, keys := h.keys.sublist hsub, fixed := ?_ }
  · obtain ⟨⟨j, s⟩, hp, he⟩ := List.mem_map.1 hi
    cases he
    obtain ⟨v, h1, h2⟩ := h.slots j s hp
    exact ⟨v, h1, hs v s h2⟩
  · obtain ⟨⟨j, s⟩, hp, he⟩ := List.mem_map.1 hb'
    cases he
    obtain ⟨g, e1, e2, e3⟩ := h.boxes j s hp
    exact ⟨g, by rw [mval_map]; exact e1, e2, objOK_map k1 k2 rfl hs e3⟩
  · obtain ⟨hp, _⟩ := mem_del.1 hb'
    obtain ⟨cells, e1, e2, e3⟩ := h.rows b c' hp
    exact ⟨cells, e1, e2, repL_mono (fun _ _ => rep_ext k1 k2 c'.t) e3⟩
  · intro b c' hb' hle
    obtain ⟨⟨j, s⟩, hp, he⟩ := List.mem_map.1 hb'
    cases he
    exact h.fixed _ _ hp hle

/-! A map given up: it is only read from here on. -/
def TR.freezeM (r : Nat) (k v : Ty) (ps : List (k.el × v.el)) : TR → TR
  | .v u => .v u
  | .r b => bif Nat.beq b r then .v ⟨.map k v, some ps⟩ else .r b
def SV.freezeM (r : Nat) (k v : Ty) (ps : List (k.el × v.el)) : SV → SV
  | .iter b => bif Nat.beq b r then .val (.map k v) (some ps) else .iter b
  | .row b => bif Nat.beq b r then .val (.map k v) (some ps) else .row b
  | .tups l => .tups (l.map (TR.freezeM r k v ps))
  | s => bif s.refs r then .any else s
def St.freezeMp (st : St) (r : Nat) (k v : Ty) (ps : List (k.el × v.el)) : St :=
  { sl := st.sl.map fun p => (p.1, p.2.freezeM r k v ps), bx := (del st.bx r).map fun p => (p.1, p.2.map (SV.freezeM r k v ps)), rw := st.rw }
theorem repTRs_freezeM {w : World} {M : Nat → Prop} {m : Nat → Value} {r : Nat} {k v : Ty} {ps : List (k.el × v.el)} (hval : rep w M (.map k v) [m r] (some ps)) : ∀ {vs : List Value} {l : List TR}, repTRs w M m vs l → repTRs w M m vs (l.map (TR.freezeM r k v ps))
  | [], [], _ => trivial
  | [], _ :: _, h => h.elim
  | _ :: _, [], h => h.elim
  | _ :: _, .v u :: _, ⟨h1, h2⟩ => ⟨h1, repTRs_freezeM hval h2⟩
  | x :: _, .r b :: _, ⟨h1, h2⟩ => by
    show repTRs w M m _ ((bif Nat.beq b r then TR.v ⟨.map k v, some ps⟩ else TR.r b) :: _)
    cases hb : Nat.beq b r with
    | false => exact ⟨h1, repTRs_freezeM hval h2⟩
    | true =>
      have e := Nat.eq_of_beq_eq_true hb
      subst e
      refine ⟨?_, repTRs_freezeM hval h2⟩
      rw [h1]
      exact hval

theorem Rm.freezeMp (h : Rm cx m st T w) {r : Nat} {k v : Ty} {ps : List (k.el × v.el)} (hr : (r, BX.mp k v ps) ∈ st.bx) : Rm cx m (st.freezeMp r k v ps) T w := by
  have hmem : ∀ i, i ∈ (st.freezeMp r k v ps).ids → i ∈ st.ids ∧ i ≠ r := by
    intro i hi
    have hne : ∀ c', (r, c') ∉ st.rw := fun c' hb => (List.nodup_append.1 h.keys).2.2 r (List.mem_map.2 ⟨_, hr, rfl⟩) r (List.mem_map.2 ⟨_, hb, rfl⟩) rfl
    rcases List.mem_append.1 hi with hi | hi
    · obtain ⟨⟨b, s⟩, hp, rfl⟩ := List.mem_map.1 hi
      obtain ⟨⟨b', s'⟩, hp', he⟩ := List.mem_map.1 hp
      cases he
      obtain ⟨h1, h2⟩ := mem_del.1 hp'
      exact ⟨List.mem_append.2 (.inl (List.mem_map.2 ⟨_, h1, rfl⟩)), h2⟩
    · obtain ⟨⟨b, s⟩, hp, rfl⟩ := List.mem_map.1 hi
      exact ⟨List.mem_append.2 (.inr (List.mem_map.2 ⟨_, hp, rfl⟩)), fun e => hne s (by simp only at e; rw [← e]; exact hp)⟩
  have hri : r ∈ st.ids := List.mem_append.2 (.inl (List.mem_map.2 ⟨_, hr, rfl⟩))
  have k1 : ∀ b, b < w.heap.size → ¬ Mut cx m st.ids b → w.heap[b]? = w.heap[b]? := fun _ _ _ => rfl
  have k2 : ∀ b, b < w.heap.size → Mut cx m (st.freezeMp r k v ps).ids b → Mut cx m st.ids b := fun _ _ h => mut_mono (fun i hi => (hmem i hi).1) h
  obtain ⟨g0, e1, e2, es, clock, h1, h2, h3, h4⟩ := h.boxes r _ hr
  have hg0 : blk (m r) = some g0 := by rw [e1]; rfl
  have hval : rep w (Mut cx m (st.freezeMp r k v ps).ids) (.map k v) [m r] (some ps) := by
    refine ⟨g0, es, clock, by rw [e1]; rfl, h1, ?_, h2, h3, repM_mono (fun _ _ h => repV_ext k1 k2 h) (fun _ _ h => repV_ext k1 k2 h) h4⟩
    rintro (hA | ⟨i, hi, hgi⟩)
    · have h5 := h.outer g0 hA
      rcases (h.lt hri hg0).2 with h6 | h6
      · omega
      · exact h5.2 h6
    · obtain ⟨h5, h6⟩ := hmem i hi
      exact h.apart i r h5 hri h6 g0 hgi hg0
  have hs : ∀ v' s, repS w (Mut cx m st.ids) m v' s → repS w (Mut cx m (st.freezeMp r k v ps).ids) m v' (s.freezeM r k v ps) := by
    intro v' s hv
    have hv' := repS_ext (w' := w) (m := m) k1 k2 hv
    have dflt : ∀ s : SV, repS w (Mut cx m (st.freezeMp r k v ps).ids) m v' s → repS w (Mut cx m (st.freezeMp r k v ps).ids) m v' (bif s.refs r then .any else s) := by
      intro s hh
      cases s.refs r with
      | true => trivial
      | false => exact hh
    have hd : ∀ b, v' = m b → repS w (Mut cx m (st.freezeMp r k v ps).ids) m v' (bif Nat.beq b r then .val (.map k v) (some ps) else .iter b) ∧ repS w (Mut cx m (st.freezeMp r k v ps).ids) m v' (bif Nat.beq b r then .val (.map k v) (some ps) else .row b) := by
      intro b e
      cases hb : Nat.beq b r with
      | false => exact ⟨e, e⟩
      | true =>
        have e' := Nat.eq_of_beq_eq_true hb
        subst e'
        subst e
        exact ⟨hval, hval⟩
    cases s with
    | iter b => exact (hd b hv').1
    | row b => exact (hd b hv').2
    | tups l => obtain ⟨vs, e, hl⟩ := hv'; exact ⟨vs, e, repTRs_freezeM hval hl⟩
    | any => exact dflt _ hv'
    | undef => exact dflt _ hv'
    | val t x => exact dflt _ hv'
    | tup l => exact dflt _ hv'
    | ptr b o => exact dflt _ hv'
    | selfp b => exact dflt _ hv'
    | vptr t x => exact dflt _ hv'
    | rptr a b c d => exact dflt _ hv'
    | clos f bs => exact dflt _ hv'
    | bp b p => exact dflt _ hv'
  have hsub : (st.freezeMp r k v ps).ids.Sublist st.ids := by
    have e1 : (st.freezeMp r k v ps).bx.map (·.1) = (del st.bx r).map (·.1) := by simp [St.freezeMp, List.map_map, Function.comp_def]
    show ((st.freezeMp r k v ps).bx.map (·.1) ++ st.rw.map (·.1)).Sublist (st.bx.map (·.1) ++ st.rw.map (·.1))
    rw [e1, del_keys]
    exact List.Sublist.append List.filter_sublist (List.Sublist.refl _)
  refine { size := h.size, frame := h.frame, outer := h.outer, slots := fun i sv hi => ?_, boxes := fun b c' hb' => ?_, rows := fun b c' hb' => ?_, apart := fun i j hi hj => h.apart i j (hmem i hi).1 (hmem j hj).1, keys := h.keys.sublist hsub, fixed := ?_ }
  · obtain ⟨⟨j, s⟩, hp, he⟩ := List.mem_map.1 hi
    cases he
    obtain ⟨v, h1, h2⟩ := h.slots j s hp
    exact ⟨v, h1, hs v s h2⟩
  · obtain ⟨⟨j, s⟩, hp, he⟩ := List.mem_map.1 hb'
    cases he
    obtain ⟨g, e1, e2, e3⟩ := h.boxes j s (mem_del.1 hp).1
    exact ⟨g, by rw [mval_map]; exact e1, e2, objOK_map k1 k2 rfl hs e3⟩
  · obtain ⟨cells, e1, e2, e3⟩ := h.rows b c' hb'
    exact ⟨cells, e1, e2, repL_mono (fun _ _ => rep_ext k1 k2 c'.t) e3⟩
  · intro b c' hb' hle
    obtain ⟨⟨j, s⟩, hp, he⟩ := List.mem_map.1 hb'
    cases he
    exact h.fixed _ _ (mem_del.1 hp).1 hle

end Go.Ev
