/- Literals, made slices, function values, appending: right. -/
import Derived.Test.YtciikbiapmbocaaDoorEvM
namespace Go.Ev
open Go Go.RowKit
variable {cx : Cx} {m : Nat → Value} {st : St} {T : Array Value} {w w' : World}

/-- The parts of a literal, laid one behind the other. -/
theorem fill_lit (h : Rm cx m st T w) {u : Ty} : ∀ (parts : List (Nat × Operand)) (k : Nat) (xs : List u.el) (pre old : List Value), litParts st u k parts = some xs → pre.length = k * u.cells → old.length = xs.length * u.cells →
    ∃ cells, Instr.fill (fun i => some (i * u.cells, u.cells)) (pre ++ old).toArray (parts.map fun p => (p.1, Act.eval ⟨T, []⟩ p.2)) = some (pre ++ cells).toArray ∧ repL (rep w (Mut cx m st.ids) u) cells xs
  | [], k, xs, pre, old, hp, _, hold => by
    cases hp
    have : old = [] := List.eq_nil_of_length_eq_zero (by simpa using hold)
    subst this
    exact ⟨[], rfl, rfl⟩
  | (i, o) :: r, k, xs, pre, old, hp, hpre, hold => by
    unfold litParts at hp
    split at hp
    · rename_i v hk hv
      split at hp
      · rename_i x xs' hx hxs
        cases hp
        have hk' := Nat.eq_of_beq_eq_true hk
        subst hk'
        have hvv := repV_cells (getTV_sound h hv)
        have e := TV.as_some hx
        subst e
        have hvl := rep_length u hvv
        have hsz : (Act.eval ⟨T, []⟩ o).cells.size = u.cells := by rw [← hvl]; simp
        have hold' : old.length = (xs'.length + 1) * u.cells := hold
        obtain ⟨o1, o2, rfl, ho1⟩ : ∃ o1 o2, old = o1 ++ o2 ∧ o1.length = u.cells := ⟨old.take u.cells, old.drop u.cells, (List.take_append_drop _ _).symm, by rw [List.length_take, hold', Nat.succ_mul]; omega⟩
        have ho2 : o2.length = xs'.length * u.cells := by
          rw [List.length_append, Nat.succ_mul] at hold'
          omega
        obtain ⟨cells, hf, hr⟩ := fill_lit h r (i + 1) xs' (pre ++ (Act.eval ⟨T, []⟩ o).cells.toList) o2 hxs (by rw [List.length_append, hpre, hvl, Nat.succ_mul]) ho2
        refine ⟨(Act.eval ⟨T, []⟩ o).cells.toList ++ cells, ?_, (Act.eval ⟨T, []⟩ o).cells.toList, cells, rfl, hvv, hr⟩
        rw [List.map_cons, Instr.fill]
        have hfit : ¬ (((Act.eval ⟨T, []⟩ o).cells.size ≠ u.cells || decide (i * u.cells + (Act.eval ⟨T, []⟩ o).cells.size > (pre ++ (o1 ++ o2)).toArray.size)) = true) := by
          simp only [hsz, List.size_toArray, List.length_append, hpre, ho1]
          simp
        simp only []
        rw [if_neg hfit]
        have hlay := lay_part0 (Act.eval ⟨T, []⟩ o).cells.toList pre o2 o1 (by rw [ho1, hvl])
        rw [hpre, Array.toArray_toList] at hlay
        rw [← List.append_assoc, hlay, hf]
        simp
      · cases hp
    · cases hp

theorem evM_lit (h : Rm cx m st T w) {o : Oper} {d : Nat} {t e : TypeId} {u u' : Ty} {n : Nat} {parts : Array (Nat × Operand)} {xs : List u.el} (ho : o.op = .buildSlice t n parts) (he : elemOf? cx.P t = some (e, u))
    (hx : litParts st u 0 parts.toList = some xs) (hn : xs.length = n) (hcap : n * u.cells ≤ 16777216) (hz : zeroOf cx.P e = some u') {orc : List TV} :
    Makes cx T w o ⟨.row d, st.addRow d ⟨e, u, xs⟩, orc, []⟩ := by
  obtain ⟨hu, hty, hp⟩ := elemOf?_facts he
  obtain ⟨i, z, _, hi, hs, hzz, _⟩ := zeroOf_facts hz
  have hsz : i.size = u.cells := by
    obtain ⟨i2, hi2, hs2, _⟩ := tyOf_facts hty
    rw [hi] at hi2
    cases hi2
    exact hs2
  obtain ⟨cells, hf, hr⟩ := fill_lit h parts.toList 0 xs [] ((Array.range (n * u.cells)).map ((if n * u.cells = 0 then #[] else z.cells)[· % (if n * u.cells = 0 then #[] else z.cells).size]!)).toList hx (by simp) (by simp [hn])
  have hlen := repL_length (fun _ _ => rep_length u) _ _ hr
  have hmax : xs.length ≤ maxLen := by
    have : xs.length ≤ xs.length * u.cells := Nat.le_mul_of_pos_right _ hp
    have h2 : (16777216 : Nat) ≤ maxLen := by decide
    rw [hn] at this ⊢
    omega
  have hrow := new_row h d (cur := cells.toArray) (cells := cells) (e := e) (cap := xs.length) (w.alloc (.cells cells.toArray e)) (same_alloc0 _ _) (heap_alloc_new w _) (Nat.le_refl _) hmax (by simp [hlen]) (by rw [← hlen]; simp) hr
  refine ⟨.slice (some ⟨w.heap.size, 0, none⟩) n n, _, _, exec_value (s := Instr.buildSlice t n (parts.map fun p => (p.1, Act.eval ⟨T, []⟩ p.2))) (by simp only [execOp, ho]) ?_, hrow, by show _ = upd _ _ _ _; rw [upd_same, hn]⟩
  have hcap' : ¬ (n * u.cells > 2 ^ 24) := by omega
  have hf' : Instr.fill (fun i => some (i * u.cells, u.cells)) ((Array.range (n * u.cells)).map ((if n * u.cells = 0 then #[] else z.cells)[· % (if n * u.cells = 0 then #[] else z.cells).size]!)) (parts.map fun p => (p.1, Act.eval ⟨T, []⟩ p.2)).toList = some cells.toArray := by
    rw [List.nil_append, List.nil_append, Array.toArray_toList] at hf
    rw [Array.toList_map]
    exact hf
  simp only [Instr.buildSlice, Sem.run_bind, run_underlying hu, Result.andThen_ok, ty_sizeOf hty, if_neg hcap']
  by_cases h0 : n * u.cells = 0
  · rw [if_pos h0]
    rw [if_pos h0] at hf'
    simp only [Sem.run_pure, Result.andThen_ok, hf', Sem.run_bind, newRow, run_newObj_alloc]
  · rw [if_neg h0]
    rw [if_neg h0] at hf'
    have hzv : (zeroValue e).run cx.P w = .ok z w := by simp [zeroValue, typeInfo, hi, hzz]
    simp only [Sem.run_bind, hzv, Sem.run_pure, Result.andThen_ok, hf', newRow, run_newObj_alloc]

theorem evM_buildArr (h : Rm cx m st T w) {o : Oper} {t e : TypeId} {u : Ty} {n : Nat} {parts : Array (Nat × Operand)} {xs : List u.el} {i : TypeInfo} {z : Value} (ho : o.op = .build t parts) (ht : ty cx.P t = some (.arr n u)) (hi : cx.P.info? t = some i) (hz : i.zero = some z)
    (hu : cx.P.underlying t = some (.array n e)) (hty : ty cx.P e = some u) (hx : litParts st u 0 parts.toList = some xs) (hn : xs.length = n) (hzs : z.cells.size = n * u.cells) {orc : List TV} :
    Makes cx T w o ⟨.val (.arr n u) xs, st, orc, []⟩ := by
  obtain ⟨cells, hf, hr⟩ := fill_lit h parts.toList 0 xs [] z.cells.toList hx (by simp) (by simp [hzs, hn])
  rw [List.nil_append, List.nil_append, Array.toArray_toList] at hf
  refine ⟨.agg cells.toArray, w, m, exec_value (s := Instr.build t (parts.map fun p => (p.1, Act.eval ⟨T, []⟩ p.2))) (by simp only [execOp, ho]) ?_, h, (repV_agg (t := .arr n u) rfl).2 ⟨cells, rfl, hn, hr⟩⟩
  have hzv : (zeroValue t).run cx.P w = .ok z w := by simp [zeroValue, typeInfo, hi, hz]
  have hf' : Instr.fill (fun i => some (i * u.cells, u.cells)) z.cells (parts.map fun p => (p.1, Act.eval ⟨T, []⟩ p.2)).toList = some cells.toArray := by rw [Array.toList_map]; exact hf
  simp only [Instr.build, Sem.run_bind, hzv, Result.andThen_ok, run_underlying hu, ty_sizeOf hty, hf', Sem.run_pure]

theorem made_rep {M : Nat → Prop} {u : Ty} {z : Array Value} {x : u.el} (hz : rep w M u z.toList x) (hp : 0 < u.cells) : ∀ (n : Nat), repL (rep w M u) (madeCells z (n * u.cells)).toList (List.replicate n x) := by
  have hlen : z.size = u.cells := by rw [← rep_length u hz]; simp
  intro n
  induction n with
  | zero => show _ = _; simp [madeCells]
  | succ n ih =>
    have e : (madeCells z ((n + 1) * u.cells)).toList = z.toList ++ (madeCells z (n * u.cells)).toList := by
      apply List.ext_getElem?
      intro j
      by_cases hj : j < z.toList.length
      · rw [List.getElem?_append_left hj]
        have hj' : j < u.cells := by rw [← hlen]; simpa using hj
        have hj2 : j < (n + 1) * u.cells := by rw [Nat.succ_mul]; omega
        have hjz : j < z.size := by rw [hlen]; exact hj'
        simp only [madeCells, Array.toList_map, Array.toList_range, List.getElem?_map, List.getElem?_range hj2, Option.map_some, hlen, Nat.mod_eq_of_lt hj']
        rw [getElem!_pos z j hjz]
        simp [hjz]
      · rw [List.getElem?_append_right (by omega)]
        have hl : z.toList.length = u.cells := rep_length u hz
        rw [hl] at hj ⊢
        by_cases hj2 : j < (n + 1) * u.cells
        · have hj3 : j - u.cells < n * u.cells := by rw [Nat.succ_mul] at hj2; omega
          simp only [madeCells, Array.toList_map, Array.toList_range, List.getElem?_map, List.getElem?_range hj2, List.getElem?_range hj3, Option.map_some, hlen]
          congr 2
          rw [← Nat.add_mod_right (j - u.cells) u.cells]
          congr 1
          omega
        · rw [List.getElem?_eq_none (by simp [madeCells]; omega), List.getElem?_eq_none (by simp [madeCells]; rw [Nat.succ_mul] at hj2; omega)]
    rw [e, List.replicate_succ]
    exact ⟨_, _, rfl, hz, ih⟩

theorem bytesOK_facts {P : Program} {e : TypeId} (h : bytesOK P e = true) : ∃ i, P.info? e = some i ∧ i.bytes ≤ 65536 := by
  unfold bytesOK at h
  split at h
  · rename_i i hi; exact ⟨i, hi, Nat.le_of_ble_eq_true h⟩
  · cases h

theorem evM_make (h : Rm cx m st T w) {o : Oper} {d : Nat} {t e : TypeId} {u : Ty} {l c : Operand} {n k : Int} (ho : o.op = .makeSlice t l c) (he : elemOf? cx.P t = some (e, u)) (hl : intOf? (getSV st l) = some n)
    (hc : intOf? (getSV st c) = some k) (hb : bytesOK cx.P e = true) (hz : zeroOf cx.P e = some u) (hob : 0 ≤ n ∧ n ≤ k ∧ k ≤ (lim : Int)) {orc : List TV} {ob : List Prop} :
    Makes cx T w o ⟨.row d, st.addRow d ⟨e, u, List.replicate n.toNat (zeroEl u)⟩, orc, ob⟩ := by
  obtain ⟨hu, hty, hp⟩ := elemOf?_facts he
  obtain ⟨i, z, _, hi, hs, hzz, hzr⟩ := zeroOf_facts hz
  obtain ⟨i2, hi2, hbytes⟩ := bytesOK_facts hb
  rw [hi] at hi2
  cases hi2
  obtain ⟨kl, hkl⟩ := intOf?_sound h hl
  obtain ⟨kc, hkc⟩ := intOf?_sound h hc
  obtain ⟨h0, h1, h2⟩ := hob
  have hlim : (lim : Int) = 2147483648 := rfl
  have hk0 : 0 ≤ k := by omega
  have hkb : (i.bytes : Int) * k ≤ 281474976710656 := by
    have h3 : (i.bytes : Int) ≤ 65536 := by omega
    calc (i.bytes : Int) * k ≤ 65536 * k := Int.mul_le_mul_of_nonneg_right h3 hk0
      _ ≤ 281474976710656 := by omega
  have hrun := run_make (P := cx.P) w t e i z hu hi hzz kl kc n k h0 h1 hkb (by omega)
  have hmadeN := made_rep (hzr w (Mut cx m st.ids)) hp n.toNat
  have hlen : (List.replicate n.toNat (zeroEl u)).length = n.toNat := List.length_replicate
  have htk : (madeCells z.cells (k.toNat * i.size)).toList.take ((List.replicate n.toNat (zeroEl u)).length * u.cells) = (madeCells z.cells (n.toNat * u.cells)).toList := by
    rw [hlen, hs]
    simp only [madeCells, Array.toList_map, Array.toList_range, ← List.map_take]
    rw [List.take_range]
    congr 2
    have : n.toNat * u.cells ≤ k.toNat * u.cells := Nat.mul_le_mul_right _ (by omega)
    omega
  have hrow := new_row h d (cur := madeCells z.cells (k.toNat * i.size)) (e := e) (cap := k.toNat) (xs := List.replicate n.toNat (zeroEl u)) (w.alloc (.cells (madeCells z.cells (k.toNat * i.size)) e)) (same_alloc0 _ _) (heap_alloc_new w _)
    (by rw [hlen]; omega) (by simp only [maxLen]; omega) (by rw [size_madeCells, hs]) htk hmadeN
  refine ⟨_, _, _, exec_value (s := Instr.makeSlice t (.int kl n) (.int kc k)) (by simp only [execOp, ho, hkl, hkc]) hrun, hrow, ?_⟩
  show _ = upd _ _ _ _
  rw [upd_same, hlen]

theorem capsOf_sound (h : Rm cx m st T w) : ∀ {l : List Operand} {bs : List Nat}, evM.capsOf st l = some bs → l.map (Act.eval ⟨T, []⟩) = bs.map m
  | [], _, hs => by cases hs; rfl
  | x :: r, bs, hs => by
    simp only [evM.capsOf] at hs
    split at hs
    · rename_i b bs' hx hr
      cases hs
      obtain ⟨g, h1, h2⟩ := getSV_sound h hx
      rw [List.map_cons, List.map_cons, capsOf_sound h hr, h2, h1]
    · cases hs

theorem evM_func (h : Rm cx m st T w) {o : Oper} {f : Nat} {first caps : Array Operand} {bs : List Nat} (ho : o.op = .makeFunc (.func f) first caps) (hf : first.toList = []) (hc : evM.capsOf st caps.toList = some bs) {orc : List TV} :
    Makes cx T w o ⟨.clos f bs, st, orc, []⟩ := by
  refine ⟨.func (.func f) #[] (bs.map m).toArray, w, m, exec_value (s := Instr.makeFunc (.func f) (first.map (Act.eval ⟨T, []⟩)) (caps.map (Act.eval ⟨T, []⟩))) (by simp only [execOp, ho]) ?_, h, rfl⟩
  have e1 : first = #[] := by rw [← Array.toArray_toList (xs := first), hf]
  have e2 : caps.map (Act.eval ⟨T, []⟩) = (bs.map m).toArray := by
    rw [← capsOf_sound h hc]
    apply Array.ext'
    simp
  rw [e1, e2, Array.map_empty]
  rfl

theorem repL_take {M : Nat → Prop} {t : Ty} : ∀ {xs : List t.el} {cs : List Value} (n : Nat), repL (rep w M t) cs xs → repL (rep w M t) (cs.take ((xs.take n).length * t.cells)) (xs.take n)
  | [], cs, n, h => by cases h; simp; rfl
  | x :: xs, cs, 0, h => by simp; rfl
  | x :: xs, cs, n + 1, ⟨c1, c2, e, h1, h2⟩ => by
    have hl := rep_length t h1
    rw [List.take_succ_cons, List.length_cons, Nat.succ_mul, Nat.add_comm, e, ← hl, List.take_append, List.take_of_length_le (by omega)]
    rw [show c1.length + (List.take n xs).length * c1.length - c1.length = (List.take n xs).length * t.cells by rw [← hl]; omega]
    exact ⟨c1, _, rfl, h1, repL_take n h2⟩

theorem evM_shrink (h : Rm cx m st T w) {o : Oper} {t e : TypeId} {u : Ty} {x hi : Operand} {r : Nat} {c : RowC} {n : Int} (ho : o.op = .slice t x none (some hi) none) (hx : getSV st x = some (.row r)) (he : elemOf? cx.P t = some (e, u))
    (hn : intOf? (getSV st hi) = some n) (hc : look st.rw r = some c) (hce : c.e = e) (hct : c.t = u) (hob : 0 ≤ n ∧ n ≤ (c.xs.length : Int)) {orc : List TV} {ob : List Prop} :
    Makes cx T w o ⟨.row r, st.addRow r ⟨c.e, c.t, c.xs.take n.toNat⟩, orc, ob⟩ := by
  obtain ⟨hu, hty, hp⟩ := elemOf?_facts he
  obtain ⟨k, hk⟩ := intOf?_sound h hn
  have hv : Act.eval ⟨T, []⟩ x = m r := getSV_sound h hx
  have hcm := look_mem hc
  obtain ⟨cells, hown, hout, hL⟩ := h.rows r c hcm
  have hri : r ∈ st.ids := List.mem_append.2 (.inr (List.mem_map.2 ⟨_, hcm, rfl⟩))
  have htl : (c.xs.take n.toNat).length = n.toNat := by rw [List.length_take]; omega
  have hat : ∀ v hi', Instr.sliceAt t v none (some hi') none = (do match ← underlying t with
    | .array n elem =>
      let a' ← Instr.sureAddr v
      let (l, h, m) ← Instr.sliceBounds false n n none (some hi') none
      let size ← sizeOf elem
      pure (.slice (some (if m = l then a' else a'.add (l * size))) (h - l) (m - l))
    | _ => Instr.slice t v none (some hi') none) := fun _ _ => rfl
  have hb : ∀ (y : Nat) (cc : BoundsCode) (w : World), n ≤ y → (Instr.sliceBound (.int k n) y cc).run cx.P w = .ok n.toNat w := by
    intro y cc w hy
    simp [Instr.sliceBound, asIntOf, hob.1, hy]
  have run : ∀ (a : Option Addr) (len cap : Nat) (w' : World), len ≤ cap → (len : Int) = c.xs.length → (Instr.sliceAt t (.slice a len cap) none (some (.int k n)) none).run cx.P w' = .ok (.slice (if cap = 0 then a else a.map (·.add (0 * u.cells))) n.toNat cap) w' := by
    intro a len cap w' hle hlen
    rw [hat, Sem.run_bind, run_underlying hu]
    simp only [Result.andThen_ok, Instr.slice, Sem.run_bind, run_underlying hu, Instr.sliceBounds, Sem.run_pure, ty_sizeOf hty]
    rw [hb cap _ w' (by omega)]
    simp only [Result.andThen_ok, Sem.run_pure, Sem.run_bind, ty_sizeOf hty]
    simp
  rcases hown.2 with ⟨hm, hz⟩ | ⟨g, cap, cur, hm, hb0, hh, hle, hmax, hcur, htk⟩
  · have hn0 : n = 0 := by omega
    have hxs : c.xs.take n.toNat = [] := by rw [hn0]; rfl
    refine ⟨.slice none 0 0, w, upd m r (.slice none 0 0), exec_value (s := Instr.sliceAt t (.slice none 0 0) none (some (.int k n)) none) (by simp only [execOp, ho, hv, hm, Option.map_none, Option.map_some, hk]) ?_, ?_, (upd_same _ _ _).symm⟩
    · rw [run none 0 0 w (Nat.le_refl _) (by omega), hn0]
      rfl
    · rw [hxs]
      exact nil_row h r c.e c.t
  · have hn' : Renew cx m st w r (.slice (some ⟨g, 0, none⟩) n.toNat cap) w :=
      ⟨⟨rfl, rfl, rfl, Nat.le_refl _⟩, fun _ _ _ => rfl, fun g' hg' => .inl ⟨hri, by cases hg'; rw [hm]; rfl⟩⟩
    refine ⟨.slice (some ⟨g, 0, none⟩) n.toNat cap, w, _, exec_value (s := Instr.sliceAt t (.slice (some ⟨g, 0, none⟩) c.xs.length cap) none (some (.int k n)) none) (by simp only [execOp, ho, hv, hm, Option.map_none, Option.map_some, hk]) ?_,
      h.addRow hn' (fun g' hg' => by cases hg'; exact hout g (by rw [hm]; rfl)) (cells := cells.take ((c.xs.take n.toNat).length * c.t.cells)) ⟨by rw [List.length_take, hown.1, Nat.min_eq_left]; exact Nat.mul_le_mul_right _ (by rw [List.length_take]; omega), .inr ⟨g, cap, cur, by simp only [htl], hb0, hh, by simp only [htl]; omega, hmax, hcur, ?_⟩⟩
        (repL_mono (fun _ _ => rep_ext hn'.keeps (hn'.mut addRow_ids) c.t) (repL_take n.toNat hL)), (upd_same _ _ _).symm⟩
    · rw [run (some ⟨g, 0, none⟩) c.xs.length cap w hle rfl]
      congr 2
      split
      · rfl
      · simp [Addr.add]
    · simp only []
      rw [← htk, List.take_take, Nat.min_eq_left]
      exact Nat.mul_le_mul_right _ (by rw [List.length_take]; omega)

end Go.Ev
