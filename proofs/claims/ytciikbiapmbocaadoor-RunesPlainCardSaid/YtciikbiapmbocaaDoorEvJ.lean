/- Boxed variables and owned slices: what is read of them and what is written. -/
import Derived.Test.YtciikbiapmbocaaDoorEvI
namespace Go.Ev
open Go Go.RowKit
variable {cx : Cx} {m : Nat → Value} {st : St} {T : Array Value} {w w' : World}

def leaves : (t : Ty) → t.el → List SV
  | .int k, n => [.val (.int k) n]
  | .bool, b => [.val .bool b]
  | .str, s => [.val .str s]
  | .sl t, xs => [.val (.sl t) xs]
  | .unit, _ => []
  | .pair a b, x => leaves a x.1 ++ leaves b x.2
  | .ptr t, x => [.val (.ptr t) x]
  | .fn f t, x => [.val (.fn f t) x]
  | .err, x => [.val .err x]
  | .arr _ t, xs => List.flatMap (leaves t) xs
  | .map k v, x => [.val (.map k v) x]

def pack1 (t : Ty) : List SV → Option (t.el × List SV)
  | .val u x :: r => match TV.as ⟨u, x⟩ t with
    | some y => some (y, r)
    | none => none
  | _ => none
def packL {α : Type} (f : List SV → Option (α × List SV)) : Nat → List SV → Option (List α × List SV)
  | 0, l => some ([], l)
  | n + 1, l => match f l with
    | some (x, r) => match packL f n r with
      | some (xs, r') => some (x :: xs, r')
      | none => none
    | none => none
def pack : (t : Ty) → List SV → Option (t.el × List SV)
  | .unit, l => some ((), l)
  | .pair a b, l => match pack a l with
    | some (x, r) => match pack b r with
      | some (y, r') => some ((x, y), r')
      | none => none
    | none => none
  | .int k, l => pack1 (.int k) l
  | .bool, l => pack1 .bool l
  | .str, l => pack1 .str l
  | .sl t, l => pack1 (.sl t) l
  | .ptr t, l => pack1 (.ptr t) l
  | .fn f t, l => pack1 (.fn f t) l
  | .err, l => pack1 .err l
  | .arr n t, l => packL (pack t) n l
  | .map k v, l => pack1 (.map k v) l

theorem repSs_append {M : Nat → Prop} : ∀ {c1 c2 : List Value} {l1 l2 : List SV}, repSs w M m c1 l1 → repSs w M m c2 l2 → repSs w M m (c1 ++ c2) (l1 ++ l2)
  | [], _, [], _, _, h => h
  | [], _, _ :: _, _, h, _ => h.elim
  | _ :: _, _, [], _, h, _ => h.elim
  | _ :: _, _, _ :: _, _, ⟨h1, h2⟩, h => ⟨h1, repSs_append h2 h⟩
theorem repSs_length {M : Nat → Prop} : ∀ {c : List Value} {l : List SV}, repSs w M m c l → c.length = l.length
  | [], [], _ => rfl
  | [], _ :: _, h => h.elim
  | _ :: _, [], h => h.elim
  | _ :: _, _ :: _, ⟨_, h⟩ => by simp [repSs_length h]
theorem repSs_split {M : Nat → Prop} : ∀ (n : Nat) {c : List Value} {l : List SV}, repSs w M m c l → repSs w M m (c.take n) (l.take n) ∧ repSs w M m (c.drop n) (l.drop n)
  | 0, _, _, h => ⟨trivial, h⟩
  | n + 1, [], [], _ => ⟨trivial, trivial⟩
  | n + 1, [], _ :: _, h => h.elim
  | n + 1, _ :: _, [], h => h.elim
  | n + 1, _ :: _, _ :: _, ⟨h1, h2⟩ => ⟨⟨h1, (repSs_split n h2).1⟩, (repSs_split n h2).2⟩

theorem leavesL_rep {M : Nat → Prop} {t : Ty} (h : ∀ {cs : List Value} {x : t.el}, rep w M t cs x → repSs w M m cs (leaves t x)) : ∀ {xs : List t.el} {cs : List Value}, repL (rep w M t) cs xs → repSs w M m cs (xs.flatMap (leaves t))
  | [], _, hh => by cases hh; trivial
  | _ :: _, _, ⟨c1, c2, e, h1, h2⟩ => by subst e; rw [List.flatMap_cons]; exact repSs_append (h h1) (leavesL_rep h h2)
theorem leaves_rep {M : Nat → Prop} : ∀ (t : Ty) {cs : List Value} {x : t.el}, rep w M t cs x → repSs w M m cs (leaves t x) := by
  intro t
  induction t with
  | int k => intro cs x h; cases h; exact ⟨repV_int.2 rfl, trivial⟩
  | bool => intro cs x h; cases h; exact ⟨repV_bool.2 rfl, trivial⟩
  | str => intro cs x h; obtain ⟨h1, h2⟩ := h; cases h1; exact ⟨repV_str.2 ⟨rfl, h2⟩, trivial⟩
  | sl t ih => intro cs x h; obtain ⟨a, cap, cells, e, r⟩ := h; subst e; exact ⟨(repV_plain (t := .sl t) rfl).2 ⟨a, cap, cells, rfl, r⟩, trivial⟩
  | unit => intro cs x h; cases h; trivial
  | ptr t ih => intro cs x h; obtain ⟨a, cells, e, r⟩ := h; subst e; exact ⟨(repV_plain (t := .ptr t) rfl).2 ⟨a, cells, rfl, r⟩, trivial⟩
  | fn f t ih => intro cs x h; obtain ⟨bs, e, r⟩ := h; subst e; exact ⟨(repV_plain (t := .fn f t) rfl).2 ⟨bs, rfl, r⟩, trivial⟩
  | err => intro cs x h; rcases h with ⟨hb, e⟩ | ⟨hb, t, v, e⟩ | ⟨t, n, hb, e⟩ <;> subst e; exact ⟨(repV_plain (t := .err) rfl).2 (.inl ⟨hb, rfl⟩), trivial⟩; exact ⟨(repV_plain (t := .err) rfl).2 (.inr (.inl ⟨hb, t, v, rfl⟩)), trivial⟩; exact ⟨(repV_plain (t := .err) rfl).2 (.inr (.inr ⟨t, n, hb, rfl⟩)), trivial⟩
  | arr n t ih => intro cs x h; exact leavesL_rep ih h.2
  | map k v _ _ =>
    intro cs x h
    match x, h with
    | none, h => have h : cs = [.map none] := h; subst h; exact ⟨(repV_plain (t := .map k v) rfl).2 rfl, trivial⟩
    | some ps, ⟨b, es, clock, e, r⟩ => subst e; exact ⟨(repV_plain (t := .map k v) rfl).2 ⟨b, es, clock, rfl, r⟩, trivial⟩
  | pair a b iha ihb => rintro cs x ⟨c1, c2, rfl, h1, h2⟩; exact repSs_append (iha h1) (ihb h2)

theorem pack1_rep {M : Nat → Prop} {t : Ty} (ht : t.agg = false) {cs : List Value} {c r : List SV} {x : t.el} (h : repSs w M m cs c) (hp : pack1 t c = some (x, r)) :
    ∃ c1 c2, cs = c1 ++ c2 ∧ rep w M t c1 x ∧ repSs w M m c2 r := by
  unfold pack1 at hp
  split at hp
  · rename_i u y r'
    split at hp
    · rename_i z hz
      cases hp
      have e := TV.as_some hz
      match cs, h with
      | v :: vs, ⟨h1, h2⟩ =>
        refine ⟨[v], vs, rfl, ?_, h2⟩
        have h1' : repV w M v u y := h1
        cases e
        exact (repV_plain ht).1 h1'
      | [], h => exact h.elim
    · cases hp
  · cases hp
theorem packL_rep {M : Nat → Prop} {t : Ty} (h : ∀ {cs : List Value} {c r : List SV} {x : t.el}, repSs w M m cs c → pack t c = some (x, r) → ∃ c1 c2, cs = c1 ++ c2 ∧ rep w M t c1 x ∧ repSs w M m c2 r) :
    ∀ (n : Nat) {cs : List Value} {c r : List SV} {xs : List t.el}, repSs w M m cs c → packL (pack t) n c = some (xs, r) → ∃ c1 c2, cs = c1 ++ c2 ∧ (xs.length = n ∧ repL (rep w M t) c1 xs) ∧ repSs w M m c2 r
  | 0, cs, c, r, xs, hs, hp => by cases hp; exact ⟨[], cs, rfl, ⟨rfl, rfl⟩, hs⟩
  | n + 1, cs, c, r, xs, hs, hp => by
    unfold packL at hp
    split at hp
    · rename_i y r1 h1
      split at hp
      · rename_i ys r2 h2
        cases hp
        obtain ⟨c1, c2, rfl, g1, g2⟩ := h hs h1
        obtain ⟨d1, d2, rfl, ⟨g3, g3'⟩, g4⟩ := packL_rep h n g2 h2
        exact ⟨c1 ++ d1, d2, by simp, ⟨by simp [g3], c1, d1, rfl, g1, g3'⟩, g4⟩
      · cases hp
    · cases hp
theorem pack_rep {M : Nat → Prop} : ∀ (t : Ty) {cs : List Value} {c r : List SV} {x : t.el}, repSs w M m cs c → pack t c = some (x, r) → ∃ c1 c2, cs = c1 ++ c2 ∧ rep w M t c1 x ∧ repSs w M m c2 r := by
  intro t
  induction t with
  | int k => intro cs c r x h hp; exact pack1_rep rfl h hp
  | bool => intro cs c r x h hp; exact pack1_rep rfl h hp
  | str => intro cs c r x h hp; exact pack1_rep rfl h hp
  | sl t ih => intro cs c r x h hp; exact pack1_rep rfl h hp
  | unit => intro cs c r x h hp; cases hp; exact ⟨[], cs, rfl, rfl, h⟩
  | ptr t ih => intro cs c r x h hp; exact pack1_rep rfl h hp
  | fn f t ih => intro cs c r x h hp; exact pack1_rep rfl h hp
  | err => intro cs c r x h hp; exact pack1_rep rfl h hp
  | arr n t ih => intro cs c r x h hp; exact packL_rep ih n h hp
  | map k v _ _ => intro cs c r x h hp; exact pack1_rep rfl h hp
  | pair a b iha ihb =>
    intro cs c r x h hp
    unfold pack at hp
    split at hp
    · rename_i y r1 h1
      split at hp
      · rename_i z r2 h2
        cases hp
        obtain ⟨c1, c2, rfl, g1, g2⟩ := iha h h1
        obtain ⟨d1, d2, rfl, g3, g4⟩ := ihb g2 h2
        exact ⟨c1 ++ d1, d2, by simp, ⟨c1, d1, rfl, g1, g3⟩, g4⟩
      · cases hp
    · cases hp

/-- A load from a box or an owned slice's element. -/
def evLoad (P : Program) (st : St) (t : TypeId) (x : Operand) (orc : List TV) : Option PR :=
  match getSV st x, ty P t with
  | some (.ptr b off), some u => match look st.bx b with
    | some (.cells c _) => match u.agg with
      | true => match pack u (c.drop off) with
        | some (y, _) => some ⟨.val u y, orc, []⟩
        | none => none
      | false => match c.drop off with
        | s :: _ => some ⟨s, orc, []⟩
        | [] => none
    | _ => none
  | some (.rptr r i off sz), some u => match look st.rw r, orc with
    | some c, v :: orc' => match v.as c.t, Nat.beq sz c.t.cells, Nat.beq u.cells 0 with
      | some x, true, false => match getT c.t x off u with
        | some y => some ⟨.val u y, orc', [at? c.xs i = some x]⟩
        | none => none
      | _, _, _ => none
    | _, _ => none
  | some (.bp b p), some u => match look st.bx b with
    | some (.blk t' x _) => match getP t' x p orc with
      | some (r, orc', ob) => match r.as u, Nat.beq u.cells 0 with
        | some y, false => some ⟨.val u y, orc', ob⟩
        | _, _ => none
      | none => none
    | _ => none
  | _, _ => none

theorem heap_lt {w : World} {g : Nat} {o : Obj} (h : w.heap[g]? = some o) : g < w.heap.size := by
  rcases Nat.lt_or_ge g w.heap.size with h1 | h1
  · exact h1
  · rw [Array.getElem?_eq_none h1] at h; cases h

theorem cell_in {w : World} {g : Nat} {cells : Array Value} {e : Nat} {fr : Nat × Nat} (h : w.heap[g]? = some (.cells cells e fr)) (o : Nat) : w.cell? ⟨g, o, none⟩ = cells[o]? := by
  simp [World.cell?, h]

theorem load_raw {P : Program} {tid d : Nat} {u : Ty} (ht : tyOf P d tid = some u) {g off : Nat} {cells : Array Value} {e : Nat} {fr : Nat × Nat} {c : List Value} (hh : w.heap[g]? = some (.cells cells e fr))
    (hc : ∀ j v, c[j]? = some v → cells[off + j]? = some v) (hl : c.length = u.cells) (hp : u.agg = false → 0 < u.cells) :
    ∃ v, Steady P w (loadVar tid ⟨g, off, none⟩) v ∧ (if u.agg then v = .agg c.toArray else c = [v]) := by
  have hcell : ∀ w', Ext w w' → ∀ j v, c[j]? = some v → w'.cell? ((⟨g, off, none⟩ : Addr).add j) = some v := by
    intro w' he j v hj
    rw [add_mk]
    have hh' : w'.heap[g]? = some (.cells cells e fr) := by rw [he.block g (heap_lt hh)]; exact hh
    rw [cell_in hh']
    exact hc j v hj
  cases hag : u.agg with
  | true =>
    refine ⟨.agg c.toArray, fun w' he => ?_, by simp⟩
    unfold loadVar
    rw [Sem.run_bind, ty_isAgg ht, hag]
    simp only [Result.andThen_ok, if_true, Sem.run_bind, ty_sizeOf ht]
    rw [← hl, run_cells (hcell w' he)]
    rfl
  | false =>
    have h1c : u.cells = 1 := by cases u <;> first | rfl | (simp [Ty.agg] at hag)
    match c, hl with
    | [v], _ =>
      refine ⟨v, fun w' he => ?_, by simp⟩
      have hcv := hcell w' he 0 v rfl
      rw [add_zero] at hcv
      unfold loadVar
      rw [Sem.run_bind, ty_isAgg ht, hag]
      simp only [Result.andThen_ok, Bool.false_eq_true, if_false]
      simp [load, Sem.run, hcv]
    | [], hl => simp at hl; omega
    | _ :: _ :: _, hl => simp at hl; omega

theorem nth_mid {α : Type} (a b c d e : List α) (j : Nat) (hj : j < c.length) : (a ++ (b ++ c ++ d) ++ e)[a.length + b.length + j]? = c[j]? := by
  have e1 : a ++ (b ++ c ++ d) ++ e = (a ++ b) ++ (c ++ (d ++ e)) := by simp
  rw [e1, List.getElem?_append_right (by rw [List.length_append]; omega), List.getElem?_append_left (by rw [List.length_append]; omega), List.length_append]
  congr 1
  omega

theorem evLoad_sound (h : Rm cx m st T w) {t : TypeId} {x : Operand} {orc : List TV} {pr : PR} (hev : evLoad cx.P st t x orc = some pr) (hob : allP pr.ob) :
    ∃ v, Steady cx.P w (Instr.loadAt t (Act.eval ⟨T, []⟩ x)) v ∧ repS w (Mut cx m st.ids) m v pr.sv := by
  unfold evLoad at hev
  split at hev
  · rename_i b off u hx ht
    obtain ⟨g, hg1, hg2⟩ := getSV_sound h hx
    have hla : Instr.loadAt t (Act.eval ⟨T, []⟩ x) = loadVar t ⟨g, off, none⟩ := by rw [hg2]; rfl
    rw [hla]
    split at hev
    · rename_i c hc
      obtain ⟨g', e1, _, cells, e3, e4⟩ := h.boxes b _ (look_mem hc)
      have : g' = g := by rw [hg1] at e1; cases e1; rfl
      subst this
      obtain ⟨_, hd⟩ := repSs_split (w := w) (m := m) off e4
      split at hev
      · rename_i hag
        split at hev
        · rename_i y r hp
          cases hev
          obtain ⟨c1, c2, hcs, hr, _⟩ := pack_rep u hd hp
          obtain ⟨v, hv1, hv2⟩ := load_raw (c := c1) ht e3 (fun j v hj => by
            have : (cells.toList.drop off)[j]? = some v := by rw [hcs, List.getElem?_append_left (List.getElem?_eq_some_iff.1 hj).1]; exact hj
            rw [List.getElem?_drop] at this
            simpa using this) (rep_length u hr) (fun hn => by rw [hag] at hn; cases hn)
          rw [hag, if_pos rfl] at hv2
          exact ⟨v, hv1, (repV_agg hag).2 ⟨c1, hv2, hr⟩⟩
        · cases hev
      · rename_i hag
        split at hev
        · rename_i s r hs
          cases hev
          rw [hs] at hd
          match hcs : cells.toList.drop off, hd with
          | v0 :: vs, ⟨hv, _⟩ =>
            have h1c : u.cells = 1 := by cases u <;> first | rfl | (simp [Ty.agg] at hag)
            obtain ⟨v, hv1, hv2⟩ := load_raw (c := [v0]) ht e3 (fun j v hj => by
              have hj0 : j = 0 := by have := (List.getElem?_eq_some_iff.1 hj).1; simpa using this
              subst hj0
              simp at hj
              subst hj
              have : (cells.toList.drop off)[0]? = some v0 := by rw [hcs]; rfl
              rw [List.getElem?_drop] at this
              simpa using this) (by rw [h1c]; rfl) (fun _ => by omega)
            rw [hag] at hv2
            simp at hv2
            subst hv2
            exact ⟨v0, hv1, hv⟩
          | [], hd => exact hd.elim
        · cases hev
    · cases hev
  · rename_i r i off sz u hx ht
    obtain ⟨g, n, cap, hg1, hg2⟩ := getSV_sound h hx
    have hla : Instr.loadAt t (Act.eval ⟨T, []⟩ x) = loadVar t ⟨g, i.toNat * sz + off, none⟩ := by rw [hg2]; rfl
    rw [hla]
    split at hev
    · rename_i c v orc' hc
      split at hev
      · rename_i x0 hv hsz hz
        split at hev
        · rename_i y hy
          cases hev
          obtain ⟨h0, h1, h2⟩ := at?_some hob.1
          obtain ⟨cells, hown, _, hL⟩ := h.rows r c (look_mem hc)
          have hsz' := Nat.eq_of_beq_eq_true hsz
          subst hsz'
          rcases hown.2 with ⟨hn, _⟩ | ⟨g', cap', cur, hn, _, hh, _, _, _, htk⟩
          · rw [hg1] at hn; cases hn
          · have : g' = g := by rw [hg1] at hn; cases hn; rfl
            subst this
            obtain ⟨c1, c2, c3, rfl, hl, hr⟩ := repL_nth hL h2
            obtain ⟨d1, d2, d3, rfl, hdl, hr2⟩ := getT_rep c.t hr hy
            have hp : 0 < u.cells := Nat.pos_of_ne_zero (beq_false hz)
            obtain ⟨v', hv1, hv2⟩ := load_raw (c := d2) ht hh (fun j v hj => by
              have hj2 := (List.getElem?_eq_some_iff.1 hj).1
              have hk : (cur.toList.take (c.xs.length * c.t.cells))[i.toNat * c.t.cells + off + j]? = some v := by
                rw [htk, ← hl, ← hdl, ← hj]
                exact nth_mid c1 d1 d2 d3 c3 j hj2
              rw [List.getElem?_take] at hk
              split at hk
              · simpa using hk
              · cases hk) (rep_length u hr2) (fun _ => hp)
            refine ⟨v', hv1, ?_⟩
            cases hag : u.agg with
            | true => rw [hag, if_pos rfl] at hv2; exact (repV_agg hag).2 ⟨d2, hv2, hr2⟩
            | false => rw [hag] at hv2; simp at hv2; subst hv2; exact (repV_plain hag).2 hr2
        · cases hev
      · cases hev
    · cases hev
  · rename_i b p u hx ht
    obtain ⟨g, hg1, hg2⟩ := getSV_sound h hx
    split at hev
    · rename_i t' x0 e hb
      split at hev
      · rename_i r orc2 ob hp
        split at hev
        · rename_i y hy hz
          cases hev
          obtain ⟨g', e1, _, cells, e3, e4⟩ := h.boxes b _ (look_mem hb)
          have : g' = g := by rw [hg1] at e1; cases e1; rfl
          subst this
          obtain ⟨c1, c2, c3, hcs, hl, hr⟩ := getP_rep p t' e4 hp hob
          have er := TV.as_some hy
          subst er
          have hpos : 0 < u.cells := Nat.pos_of_ne_zero (beq_false hz)
          obtain ⟨v, hv1, hv2⟩ := load_raw (off := poff p) (c := c2) ht e3 (fun j v hj => by
            have hj2 := (List.getElem?_eq_some_iff.1 hj).1
            rw [← Array.getElem?_toList, hcs, List.append_assoc, List.getElem?_append_right (by omega), List.getElem?_append_left (by omega), ← hj]
            congr 1
            omega) (rep_length u hr) (fun _ => hpos)
          refine ⟨v, by rw [hg2]; exact hv1, ?_⟩
          cases hag : u.agg with
          | true => rw [hag, if_pos rfl] at hv2; exact (repV_agg hag).2 ⟨c2, hv2, hr⟩
          | false => rw [hag] at hv2; simp at hv2; subst hv2; exact (repV_plain hag).2 hr
        · cases hev
      · cases hev
    · cases hev
  · cases hev

def leafOK : SV → Bool
  | .val t _ => !t.agg
  | .row _ => true
  | .clos _ _ => true
  | .ptr _ _ => true
  | .vptr _ _ => true
  | _ => false
theorem leafOK_one {M : Nat → Prop} {v : Value} {s : SV} (hs : leafOK s = true) (hrow : ∀ r, s = .row r → (m r).oneCell' = true) (hv : repS w M m v s) : v.oneCell' = true ∧ v.cells = #[v] := by
  cases s <;> simp only [leafOK, Bool.false_eq_true] at hs
  case val t x =>
    have hag : t.agg = false := by simpa using hs
    have h1 := (repV_plain hag).1 hv
    have h2 := rep_oneCell t h1 v (by simp)
    refine ⟨h2, ?_⟩
    cases v <;> first | rfl | (simp [Value.oneCell'] at h2)
  case row r =>
    have e : v = m r := hv
    have := hrow r rfl
    rw [e]
    refine ⟨this, ?_⟩
    cases hm : m r <;> first | rfl | (rw [hm] at this; simp [Value.oneCell'] at this)
  case clos f bs =>
    have e : v = _ := hv
    subst e
    exact ⟨rfl, rfl⟩
  case ptr b off => obtain ⟨g, _, e⟩ := hv; subst e; exact ⟨rfl, rfl⟩
  case vptr t x => obtain ⟨a, c, e, _⟩ := hv; subst e; exact ⟨rfl, rfl⟩

/-- The cells of what is stored: a plain struct's, or the one of a leaf. -/
def cellsSV (u : Ty) (s : SV) : Option (List SV) :=
  match u.agg with
  | true => match s with
    | .val t x => bif t.beq u then some (leaves t x) else none
    | _ => none
  | false => match s with
    | .val t x => bif t.beq u then some [.val t x] else none
    | s => bif leafOK s && Nat.beq u.cells 1 then some [s] else none

theorem row_one (h : Rm cx m st T w) {r : Nat} {c : RowC} (hr : (r, c) ∈ st.rw) : (m r).oneCell' = true := by
  obtain ⟨cells, hown, _⟩ := h.rows r c hr
  rcases hown.2 with ⟨hn, _⟩ | ⟨g, cap, cur, hn, _⟩ <;> rw [hn] <;> rfl

theorem cellsSV_sound {M : Nat → Prop} {v : Value} {s : SV} {u : Ty} {l : List SV} (hrow : ∀ r, s = .row r → (m r).oneCell' = true) (hv : repS w M m v s) (hc : cellsSV u s = some l) :
    repSs w M m v.cells.toList l ∧ (∀ x ∈ v.cells.toList, x.oneCell' = true) ∧ v.cells.size = u.cells := by
  unfold cellsSV at hc
  split at hc
  · rename_i hag
    split at hc
    · rename_i t x
      cases hb : t.beq u with
      | false => rw [hb] at hc; cases hc
      | true =>
        rw [hb] at hc
        cases hc
        obtain rfl := Ty.eq_of_beq hb
        have h1 := repV_cells hv
        exact ⟨leaves_rep t h1, rep_oneCell t h1, by rw [← rep_length t h1]; simp⟩
    · cases hc
  · rename_i hag
    split at hc
    · rename_i t x
      cases hb : t.beq u with
      | false => rw [hb] at hc; cases hc
      | true =>
        rw [hb] at hc
        cases hc
        obtain rfl := Ty.eq_of_beq hb
        have h1 := repV_cells hv
        have h2 := leafOK_one (s := .val t x) (by simp [leafOK, hag]) hrow hv
        refine ⟨?_, rep_oneCell t h1, by rw [← rep_length t h1]; simp⟩
        rw [h2.2]
        exact ⟨hv, trivial⟩
    · rename_i s' _
      cases hl : leafOK s && Nat.beq u.cells 1 with
      | false => rw [hl] at hc; cases hc
      | true =>
        rw [hl] at hc
        cases hc
        simp only [Bool.and_eq_true] at hl
        have h2 := leafOK_one hl.1 hrow hv
        rw [h2.2]
        exact ⟨⟨hv, trivial⟩, by simp [h2.1], by rw [Nat.eq_of_beq_eq_true hl.2]; rfl⟩

theorem same_setRow (w : World) (g : Nat) (cs : Array Value) : Same w (w.setRow g cs) := by
  refine { os := rfl, tape := rfl, output := rfl, size := ?_ }
  simp [World.setRow]

theorem store_run {P : Program} {tid d : Nat} {u : Ty} (ht : tyOf P d tid = some u) {g off : Nat} {cur : Array Value} {e : Nat} {v : Value} (hh : w.heap[g]? = some (.cells cur e (0, 0)))
    (hs : v.cells.size = u.cells) (hfit : off + u.cells ≤ cur.size) (h1 : ∀ x ∈ v.cells.toList, x.oneCell' = true) :
    (Instr.storeAt tid (.pointer (some ⟨g, off, none⟩)) v).run P w = .ok () (w.setRow g (cur.toList.take off ++ v.cells.toList ++ cur.toList.drop (off + u.cells)).toArray) := by
  have hl : v.cells.toList.length = u.cells := by rw [← hs]; simp
  have hst := run_storeCells_at (P := P) g off e v.cells.toList 0 cur w hh (by rw [hl]; omega) h1
  rw [hl, Nat.add_zero] at hst
  simp only [Instr.storeAt, Instr.sureAddr, Sem.run_bind, Sem.run_pure, Result.andThen_ok, storeVar, ty_sizeOf ht, hs, ne_eq, not_true_eq_false, if_false]
  exact hst

/-- A store: the state behind it. -/
def evStore (P : Program) (st : St) (t : TypeId) (x y : Operand) (orc : List TV) : Option (St × List TV × List Prop) :=
  match getSV st x, ty P t, getSV st y with
  | some (.ptr b off), some u, some s => match look st.bx b, cellsSV u s, rowOK st s with
    | some (.cells c e), some l, true => bif Nat.ble (off + u.cells) c.length then some (st.setBox b (.cells (c.take off ++ l ++ c.drop (off + u.cells)) e), orc, []) else none
    | _, _, _ => none
  | some (.rptr r i off sz), some u, some (.val t' z) => match look st.rw r, orc with
    | some c, v :: orc' => match v.as c.t, Nat.beq sz c.t.cells, t'.beq u with
      | some x0, true, true => match setT c.t x0 off ⟨t', z⟩ with
        | some x1 => some (st.setRow r { c with xs := c.xs.set i.toNat x1 }, orc', [at? c.xs i = some x0])
        | none => none
      | _, _, _ => none
    | _, _ => none
  | some (.bp b p), some u, some (.val t' z) => match look st.bx b with
    | some (.blk tb x e) => match t'.beq u, setP tb x p orc ⟨t', z⟩ with
      | true, some (y, orc', ob) => some (st.setBox b (.blk tb y e), orc', ob)
      | _, _ => none
    | _ => none
  | _, _, _ => none
where
  rowOK (st : St) : SV → Bool
    | .row r => (look st.rw r).isSome
    | _ => true

end Go.Ev
