/- Going through a map, in whatever order. -/
import Derived.Test.YtciikbiapmbocaaDoorEvAb
import Derived.Laws.IdiomRangeMap
namespace Go.Ev
open Go Go.RowKit
variable {cx : Cx} {m : Nat → Value} {st st' : St} {T : Array Value} {w w' : World} {E : Env} {Q : Post} {ops : Array Oper} {l : List Oper}

theorem filter_erase : ∀ (L : List MapEntry) (j : Nat) (e : MapEntry), (L.map (·.born)).Nodup → L[j]? = some e → L.filter (fun x => !(x.born == e.born)) = L.eraseIdx j
  | [], j, e, _, h => by simp at h
  | x :: L, 0, e, hn, h => by
    simp at h
    subst h
    rw [List.map_cons, List.nodup_cons] at hn
    rw [List.filter_cons, beq_self_eq_true]
    simp only [Bool.not_true, Bool.false_eq_true, if_false, List.eraseIdx_zero, List.tail_cons]
    refine List.filter_eq_self.2 fun y hy => ?_
    have : ¬ y.born = x.born := fun hc => hn.1 (List.mem_map.2 ⟨y, hy, hc⟩)
    simp [this]
  | x :: L, j + 1, e, hn, h => by
    rw [List.map_cons, List.nodup_cons] at hn
    have h' : L[j]? = some e := by simpa using h
    have hx : ¬ x.born = e.born := fun hc => hn.1 (List.mem_map.2 ⟨e, List.mem_of_getElem? h', hc.symm⟩)
    rw [List.filter_cons, if_pos (by simp [hx]), filter_erase L j e hn.2 h', List.eraseIdx_cons_succ]
theorem repM_erase {α β : Type} {fk : Value → α → Prop} {fv : Value → β → Prop} : ∀ {es : List MapEntry} {ps : List (α × β)} (j : Nat), repM fk fv es ps → repM fk fv (es.eraseIdx j) (ps.eraseIdx j)
  | [], [], _, _ => trivial
  | [], _ :: _, _, h => h.elim
  | _ :: _, [], _, h => h.elim
  | _ :: _, _ :: _, 0, ⟨_, _, h⟩ => h
  | _ :: _, _ :: _, j + 1, ⟨h1, h2, h3⟩ => ⟨h1, h2, repM_erase j h3⟩
theorem repM_nth {α β : Type} {fk : Value → α → Prop} {fv : Value → β → Prop} : ∀ {es : List MapEntry} {ps : List (α × β)} {j : Nat} {e : MapEntry}, repM fk fv es ps → es[j]? = some e → ∃ p, ps[j]? = some p ∧ fk e.key p.1 ∧ fv e.val p.2
  | [], _, _, _, _, h => by simp at h
  | _ :: _, [], _, _, h, _ => h.elim
  | e :: _, p :: _, 0, e', ⟨h1, h2, _⟩, h => by simp at h; subst h; exact ⟨p, rfl, h1, h2⟩
  | _ :: _, _ :: _, j + 1, e', ⟨_, _, h3⟩, h => by
    obtain ⟨p, a, b, c⟩ := repM_nth h3 (j := j) (by simpa using h)
    exact ⟨p, by simpa using a, b, c⟩

/-- 'next': one entry that is left, whichever. -/
theorem run_nextM {P : Program} (ty : TypeId) {r bm clock : Nat} {seen : Array Nat} {es : Array MapEntry} (hr : w.heap[r]? = some (.mapIter (some bm) clock seen clock)) (hb : w.heap[bm]? = some (.map es clock)) (hold : ∀ x ∈ es.toList, x.born < clock)
    (hne : es.toList.filter (fun e => !seen.contains e.born) ≠ []) :
    ∃ (j : Nat) (e : MapEntry) (w1 : World), (es.toList.filter (fun e => !seen.contains e.born))[j]? = some e ∧ (w1 = w ∨ w1 = w.drew) ∧
      (Instr.next (.pointer (some ⟨r, 0, none⟩)) false ty).run P w = .ok (.tuple #[.bool true, e.key, e.val]) { w1 with heap := w1.heap.setIfInBounds r (.mapIter (some bm) clock (seen.push e.born) clock) } := by
  simp only [Instr.next, getObj, Sem.run_bind, Sem.run, hr, hb, Result.andThen, next_test_false seen es clock clock hold (Nat.le_refl _), Bool.false_eq_true, if_false]
  have hmem : ∀ x ∈ (Array.filter (fun e => !seen.contains e.born) es).toList, x.born < clock := fun x hx => hold x (by simp at hx ⊢; exact hx.1)
  rw [← Array.toList_filter] at hne ⊢
  generalize Array.filter (fun e => !seen.contains e.born) es = L at hmem hne ⊢
  have e1 : L.filter (fun x => decide (x.born < clock)) = L := Array.filter_eq_self.2 (fun x hx => by simpa using hmem x (by simpa using hx))
  have e2 : L.filter (fun x => decide (x.born ≥ clock)) = #[] := by
    rw [Array.filter_eq_empty_iff]
    intro x hx
    have := hmem x (by simpa using hx)
    simp
    omega
  simp only [e1, e2, Array.append_empty]
  have h0 : L.size ≠ 0 := fun h => hne (by rw [Array.eq_empty_of_size_eq_zero h])
  have hne' : L.isEmpty = false := by simp [Array.isEmpty, h0]
  simp only [hne', Bool.false_eq_true, if_false, Array.empty_append, Array.size_map]
  have hch : ∃ (j : Nat) (w1 : World), j < L.size ∧ (w1 = w ∨ w1 = w.drew) ∧ (choose (Question.mapNext L.size)).run P w = .ok j w1 := by
    by_cases hf : L.size ≤ 1
    · exact ⟨0, w, by omega, .inl rfl, by simp [choose, Sem.run, Question.forced, hf]⟩
    · exact ⟨_, w.drew, Nat.mod_lt _ (by omega), .inr rfl, by
        simp only [choose, Sem.run, Question.forced, decide_eq_true_eq, hf, if_false, Question.cut]
        rfl⟩
  obtain ⟨j, w1, hj, hal, hrun⟩ := hch
  refine ⟨j, L[j], w1, by simp [hj], hal, ?_⟩
  have hr1 : w1.heap[r]? = some (.mapIter (some bm) clock seen clock) := by rcases hal with rfl | rfl <;> exact hr
  simp only [hrun, Array.getElem?_map, Array.getElem?_eq_getElem hj, Option.map_some, Sem.run_bind, setObj, Sem.run, Result.andThen, hr1]
  rfl

/-- The next entry of a map, whichever it is. -/
theorem WL_nextM {n0 : Nat} (hn0 : cx.n = n0) {o : Oper} {l : List Oper} {x : Operand} {d b : Nat} {k v : Ty} {left last : List (k.el × v.el)} (ho : o.op = .next x false) (hd : o.dst = some d) (hdn : Nat.blt d n0 = true) (hg : o.guard = none)
    (hx : getSV st x = some (.iter b)) (hb : look st.bx b = some (.mit k v left last)) (hne : left ≠ [])
    (h : ∀ j p, left[j]? = some p → WL cx ops Q l ((st.setBox b (.mit k v (left.eraseIdx j) [p])).put d (.tup [⟨.bool, true⟩, ⟨k, p.1⟩, ⟨v, p.2⟩]))) : WL cx ops Q (o :: l) st := by
  rintro T w ⟨m, hm⟩
  have hbm := look_mem hb
  obtain ⟨g, e1, _, e3⟩ := hm.boxes b _ hbm
  have e1 : m b = .pointer (some ⟨g, 0, none⟩) := e1
  have hv : Act.eval ⟨T, []⟩ x = .pointer (some ⟨g, 0, none⟩) := by have : Act.eval ⟨T, []⟩ x = m b := getSV_sound hm hx; rw [this, e1]
  rcases e3 with ⟨_, h1, _⟩ | ⟨mb, es, clock, seen, h1, h2, h3, h4, h5, h6, _⟩
  · exact absurd h1 hne
  have hne' : es.toList.filter (fun e => !seen.contains e.born) ≠ [] := fun hc => hne (List.eq_nil_of_length_eq_zero (by rw [← repM_len h6, hc]; rfl))
  obtain ⟨j, e, w1, a1, a2, a3⟩ := run_nextM (P := cx.P) o.type h1 h2 h4 hne'
  obtain ⟨p, p1, p2, p3⟩ := repM_nth h6 a1
  have hlt := heap_some_lt h1
  have hw1 : Same w w1 ∧ w1.heap = w.heap := by rcases a2 with rfl | rfl <;> exact ⟨⟨rfl, rfl, rfl, Nat.le_refl _⟩, rfl⟩
  have hn : Touch m w b { w1 with heap := w1.heap.setIfInBounds g (.mapIter (some mb) clock (seen.push e.born) clock) } :=
    ⟨⟨hw1.1.os, hw1.1.tape, hw1.1.output, by rw [Array.size_setIfInBounds]; exact hw1.1.size⟩, fun k _ hne => by
      show (w1.heap.setIfInBounds g _)[k]? = _
      rw [Array.getElem?_setIfInBounds_ne, hw1.2]
      intro e
      exact hne (by rw [e1, e]; rfl)⟩
  have hbi : b ∈ st.ids := List.mem_append.2 (.inl (List.mem_map.2 ⟨_, hbm, rfl⟩))
  obtain ⟨kk1, kk2⟩ := Rm.touch_keeps (cx := cx) hbi hn (ids := (st.setBox b (.mit k v (left.eraseIdx j) [p])).ids) (setBox_ids hbm hm.keys _).1
  have hgm : mb ≠ g := fun e => h3 (.inr ⟨b, hbi, by rw [e1, e]; rfl⟩)
  have hset := hm.setBox hbm hn (g := g) (c := .mit k v (left.eraseIdx j) [p]) e1 (by
    refine .inr ⟨mb, es, clock, seen.push e.born, ?_, ?_, fun hc => h3 (kk2 mb (heap_some_lt h2) hc), h4, h5, ?_, .inr ⟨e, p, rfl, ?_, by simp, ?_, ?_⟩⟩
    · show (w1.heap.setIfInBounds g _)[g]? = _
      rw [Array.getElem?_setIfInBounds_self_of_lt (by rw [hw1.2]; exact hlt)]
    · show (w1.heap.setIfInBounds g _)[mb]? = _
      rw [Array.getElem?_setIfInBounds_ne (Ne.symm hgm), hw1.2]
      exact h2
    · have e5 : es.toList.filter (fun x => !(seen.push e.born).contains x.born) = (es.toList.filter (fun x => !seen.contains x.born)).eraseIdx j := by
        have hsub : ((es.toList.filter (fun x => !seen.contains x.born)).map (·.born)).Nodup := h5.sublist (List.Sublist.map _ List.filter_sublist)
        rw [← filter_erase _ j e hsub a1, List.filter_filter]
        congr 1
        funext x
        rw [Array.contains_push, Bool.not_or, Bool.and_comm]
      rw [e5]
      exact repM_mono (fun _ _ h => repV_ext kk1 kk2 h) (fun _ _ h => repV_ext kk1 kk2 h) (repM_erase j h6)
    · exact (List.mem_filter.1 (List.mem_of_getElem? a1)).1
    · exact repV_ext kk1 kk2 p2
    · exact repV_ext kk1 kk2 p3)
  have hput := hset.put (d := d) (by rw [hn0]; exact blt_true hdn) (v := .tuple #[.bool true, e.key, e.val]) (s := .tup [⟨.bool, true⟩, ⟨k, p.1⟩, ⟨v, p.2⟩])
    ⟨[.bool true, e.key, e.val], rfl, repV_bool.2 rfl, repV_ext kk1 kk2 p2, repV_ext kk1 kk2 p3, trivial⟩
  have hfin := h j p p1 _ _ ⟨m, hput⟩
  refine wpList_step fun K hK => ?_
  have hw : wantSV ops st o = some true := by unfold wantSV; rw [hg]
  rw [wantSV_sound ⟨m, hm⟩ hw]
  simp only [if_true]
  refine wp_value (exec_value (s := Instr.next (.pointer (some ⟨g, 0, none⟩)) false o.type) (by simp only [execOp, ho, hv]) a3) ?_
  refine hK _ _ ?_
  rw [hd]
  exact hfin

end Go.Ev
