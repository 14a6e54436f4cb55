/- The evaluator's state: what is known of a frame's slots, of boxed variables and of slices that the call itself owns; and how it reads in a world. -/
import Derived.Test.YtciikbiapmbocaaDoorEvA
namespace Go.Ev
open Go

/-- A part of a call's results: a plain value; an owned slice. -/
inductive TR where
  | v (u : TV)
  | r (r : Nat)

/-- A step to a part: a field at a place, of a shape; an element of an array, of so many cells. -/
inductive PS where
  | f (off : Nat) (u : Ty)
  | x (j : Int) (sz : Nat)
def poff : List PS → Nat
  | [] => 0
  | .f off _ :: p => off + poff p
  | .x j sz :: p => j.toNat * sz + poff p
theorem poff_append : ∀ (p q : List PS), poff (p ++ q) = poff p + poff q
  | [], q => by simp [poff]
  | .f off u :: p, q => by simp only [List.cons_append, poff, poff_append p q]; omega
  | .x j sz :: p, q => by simp only [List.cons_append, poff, poff_append p q]; omega

/-- What is known of a slot. -/
inductive SV where
  | any
  | undef
  | val (t : Ty) (x : t.el)
  | tup (l : List TV)
  | tups (l : List TR)
  | ptr (b off : Nat)
  | selfp (b : Nat)
  | vptr (t : Ty) (x : t.el)
  | row (r : Nat)
  | rptr (r : Nat) (i : Int) (off sz : Nat)
  | clos (f : Nat) (bs : List Nat)
  | iter (b : Nat)
  | bp (b : Nat) (p : List PS)

/-- An owned slice: its elements' type's number, their shape, the elements. -/
structure RowC where
  e : Nat
  t : Ty
  xs : List t.el

/-- What an own block holds: cells; a text that is gone through, and how far. -/
inductive BX where
  | cells (l : List SV) (e : Nat)
  | iter (s : List UInt8) (pos : Nat)
  | mp (k v : Ty) (ps : List (k.el × v.el))
  | mit (k v : Ty) (left last : List (k.el × v.el))
  | blk (t : Ty) (x : t.el) (e : Nat)
  | raw (f : World → (Nat → Prop) → Nat → Prop)

structure St where
  sl : List (Nat × SV)
  bx : List (Nat × BX)
  rw : List (Nat × RowC)

def look {α : Type} : List (Nat × α) → Nat → Option α
  | [], _ => none
  | (k, v) :: r, n => bif Nat.beq k n then some v else look r n
def del {α : Type} : List (Nat × α) → Nat → List (Nat × α)
  | [], _ => []
  | (k, v) :: r, n => bif Nat.beq k n then del r n else (k, v) :: del r n
theorem look_mem {α : Type} {l : List (Nat × α)} {n : Nat} {v : α} (h : look l n = some v) : (n, v) ∈ l := by
  induction l with
  | nil => simp [look] at h
  | cons p r ih =>
    obtain ⟨k, u⟩ := p
    unfold look at h
    cases hb : Nat.beq k n with
    | true => rw [hb] at h; simp only [cond_true, Option.some.injEq] at h; subst h; rw [Nat.eq_of_beq_eq_true hb]; exact List.mem_cons_self
    | false => rw [hb] at h; exact List.mem_cons_of_mem _ (ih h)
theorem mem_del {α : Type} {l : List (Nat × α)} {n k : Nat} {v : α} : (k, v) ∈ del l n ↔ (k, v) ∈ l ∧ k ≠ n := by
  induction l with
  | nil => simp [del]
  | cons p r ih =>
    obtain ⟨j, u⟩ := p
    unfold del
    cases hb : Nat.beq j n with
    | true =>
      have hj := Nat.eq_of_beq_eq_true hb
      simp only [cond_true, ih, List.mem_cons, Prod.mk.injEq]
      constructor
      · rintro ⟨h1, h2⟩; exact ⟨.inr h1, h2⟩
      · rintro ⟨⟨h1, _⟩ | h1, h2⟩
        · exact absurd (h1.trans hj) h2
        · exact ⟨h1, h2⟩
    | false =>
      have hj : j ≠ n := fun h => by rw [h] at hb; rw [Nat.beq_refl] at hb; cases hb
      simp only [cond_false, List.mem_cons, Prod.mk.injEq, ih]
      constructor
      · rintro (⟨h1, h2⟩ | ⟨h1, h2⟩)
        · exact ⟨.inl ⟨h1, h2⟩, h1 ▸ hj⟩
        · exact ⟨.inr h1, h2⟩
      · rintro ⟨h1 | h1, h2⟩
        · exact .inl h1
        · exact .inr ⟨h1, h2⟩
theorem del_keys {α : Type} (l : List (Nat × α)) (n : Nat) : (del l n).map (·.1) = (l.map (·.1)).filter (fun k => !Nat.beq k n) := by
  induction l with
  | nil => rfl
  | cons p r ih =>
    obtain ⟨j, u⟩ := p
    unfold del
    cases hb : Nat.beq j n <;> simp [ih, hb]

def SV.refs (r : Nat) : SV → Bool
  | .ptr b _ => Nat.beq b r
  | .selfp b => Nat.beq b r
  | .row b => Nat.beq b r
  | .rptr b _ _ _ => Nat.beq b r
  | .clos _ bs => bs.any (Nat.beq · r)
  | .iter b => Nat.beq b r
  | .bp b _ => Nat.beq b r
  | .tups l => l.any fun | .v _ => false | .r b => Nat.beq b r
  | _ => false
/-- What refers to the box or row r is forgotten. -/
def SV.scrub (r : Nat) (s : SV) : SV := bif s.refs r then .any else s
def BX.map (f : SV → SV) : BX → BX
  | .cells l e => .cells (l.map f) e
  | .iter s p => .iter s p
  | .mp k v ps => .mp k v ps
  | .mit k v l a => .mit k v l a
  | .blk t x e => .blk t x e
  | .raw f => .raw f
def St.scrub (st : St) (r : Nat) : St :=
  { sl := st.sl.map fun p => (p.1, p.2.scrub r), bx := (del st.bx r).map fun p => (p.1, p.2.map (SV.scrub r)), rw := del st.rw r }
def St.put (st : St) (d : Nat) (v : SV) : St := { st with sl := (d, v) :: del st.sl d }
def St.ids (st : St) : List Nat := st.bx.map (·.1) ++ st.rw.map (·.1)

def blk : Value → Option Nat
  | .pointer (some a) => some a.block
  | .slice (some a) _ _ => some a.block
  | .map (some r) => some r
  | _ => none
def bytesOf (s : List UInt8) : ByteArray := ⟨s.toArray⟩

/-- What stays the same while a function runs. X: blocks from outside that it may change; A: other blocks that may still be written later. -/
structure Cx where
  P : Program
  n : Nat
  w0 : World
  A : Nat → Prop
  X : Nat → Prop
  m0 : Nat → Value

def Mut (cx : Cx) (m : Nat → Value) (ids : List Nat) (b : Nat) : Prop := cx.A b ∨ ∃ i ∈ ids, blk (m i) = some b

def repVs (w : World) (M : Nat → Prop) : List Value → List TV → Prop
  | [], [] => True
  | v :: vs, u :: us => repV w M v u.t u.x ∧ repVs w M vs us
  | _, _ => False

def repTRs (w : World) (M : Nat → Prop) (m : Nat → Value) : List Value → List TR → Prop
  | [], [] => True
  | v :: vs, .v u :: us => repV w M v u.t u.x ∧ repTRs w M m vs us
  | v :: vs, .r r :: us => v = m r ∧ repTRs w M m vs us
  | _, _ => False

def repS (w : World) (M : Nat → Prop) (m : Nat → Value) (v : Value) : SV → Prop
  | .any => True
  | .undef => v = Go.undef
  | .val t x => repV w M v t x
  | .tup l => ∃ vs : List Value, v = .tuple vs.toArray ∧ repVs w M vs l
  | .tups l => ∃ vs : List Value, v = .tuple vs.toArray ∧ repTRs w M m vs l
  | .ptr b off => ∃ g, m b = .pointer (some ⟨g, 0, none⟩) ∧ v = .pointer (some ⟨g, off, none⟩)
  | .selfp b => v = .pointer none ∨ v = m b
  | .vptr t x => ∃ a cells, v = .pointer (some a) ∧ rep w M t cells x ∧ ∀ j u, cells[j]? = some u → w.cell? (a.add j) = some u ∧ ¬ M a.block
  | .row r => v = m r
  | .rptr r i off sz => ∃ g n cap, m r = .slice (some ⟨g, 0, none⟩) n cap ∧ v = .pointer (some ⟨g, i.toNat * sz + off, none⟩)
  | .clos f bs => v = .func (.func f) #[] (bs.map m).toArray
  | .iter b => v = m b
  | .bp b p => ∃ g, m b = .pointer (some ⟨g, 0, none⟩) ∧ v = .pointer (some ⟨g, poff p, none⟩)

def repSs (w : World) (M : Nat → Prop) (m : Nat → Value) : List Value → List SV → Prop
  | [], [] => True
  | v :: vs, u :: us => repS w M m v u ∧ repSs w M m vs us
  | _, _ => False

def repV' (w : World) (M : Nat → Prop) (t : Ty) (v : Value) (x : t.el) : Prop := asV t.agg (rep w M t) v x
theorem repV'_iff {w : World} {M : Nat → Prop} {t : Ty} {v : Value} {x : t.el} : repV' w M t v x ↔ repV w M v t x := Iff.rfl
/-- The value by which a block is known. -/
def mval (g : Nat) : BX → Value
  | .cells _ _ => .pointer (some ⟨g, 0, none⟩)
  | .iter _ _ => .pointer (some ⟨g, 0, none⟩)
  | .mp _ _ _ => .map (some g)
  | .mit _ _ _ _ => .pointer (some ⟨g, 0, none⟩)
  | .blk _ _ _ => .pointer (some ⟨g, 0, none⟩)
  | .raw _ => .pointer (some ⟨g, 0, none⟩)
theorem mval_blk (g : Nat) (c : BX) : blk (mval g c) = some g := by cases c <;> rfl
/-- A block holds what is said. -/
def objOK (w : World) (M : Nat → Prop) (m : Nat → Value) (g : Nat) : BX → Prop
  | .cells l e => ∃ cells, w.heap[g]? = some (.cells cells e (0, 0)) ∧ repSs w M m cells.toList l
  | .iter s p => w.heap[g]? = some (.stringIter (bytesOf s) p)
  | .mp k v ps => ∃ (es : Array MapEntry) (clock : Nat), w.heap[g]? = some (.map es clock) ∧ (∀ e ∈ es.toList, e.born < clock) ∧ (es.toList.map (·.born)).Nodup ∧ repM (repV' w M k) (repV' w M v) es.toList ps
  | .mit k v left last => (w.heap[g]? = some (.mapIter none 0 #[] 0) ∧ left = [] ∧ last = []) ∨ ∃ (b : Nat) (es : Array MapEntry) (clock : Nat) (seen : Array Nat), w.heap[g]? = some (.mapIter (some b) clock seen clock) ∧ w.heap[b]? = some (.map es clock) ∧ ¬ M b ∧
      (∀ e ∈ es.toList, e.born < clock) ∧ (es.toList.map (·.born)).Nodup ∧ repM (repV' w M k) (repV' w M v) (es.toList.filter fun e => !seen.contains e.born) left ∧
      (last = [] ∨ ∃ e p, last = [p] ∧ e ∈ es.toList ∧ seen.back? = some e.born ∧ repV' w M k e.key p.1 ∧ repV' w M v e.val p.2)
  | .blk t x e => ∃ cells, w.heap[g]? = some (.cells cells e (0, 0)) ∧ rep w M t cells.toList x
  | .raw f => (∃ o, w.heap[g]? = some o) ∧ ∀ (w' : World) (M' : Nat → Prop), (∀ b, b < w.heap.size → ¬ M b → w'.heap[b]? = w.heap[b]?) → (∀ b, b < w.heap.size → M' b → M b) → w'.heap[g]? = w.heap[g]? → f w' M' g

structure Frame (w0 w : World) (X : Nat → Prop) : Prop where
  os : w.os = w0.os
  tape : w.tape = w0.tape
  output : w.output = w0.output
  size : w0.heap.size ≤ w.heap.size
  block : ∀ b, b < w0.heap.size → ¬ X b → w.heap[b]? = w0.heap[b]?

structure Rm (cx : Cx) (m : Nat → Value) (st : St) (T : Array Value) (w : World) : Prop where
  size : T.size = cx.n
  frame : Frame cx.w0 w cx.X
  outer : ∀ b, cx.A b → b < cx.w0.heap.size ∧ ¬ cx.X b
  slots : ∀ i sv, (i, sv) ∈ st.sl → ∃ v, T[i]? = some v ∧ repS w (Mut cx m st.ids) m v sv
  boxes : ∀ b c, (b, c) ∈ st.bx → ∃ g, m b = mval g c ∧ (cx.w0.heap.size ≤ g ∨ cx.X g) ∧ objOK w (Mut cx m st.ids) m g c
  rows : ∀ r c, (r, c) ∈ st.rw → ∃ cells, w.ownsRow 0 c.e c.t.cells (m r) c.xs.length cells ∧ (∀ g, blk (m r) = some g → cx.w0.heap.size ≤ g ∨ cx.X g) ∧ repL (rep w (Mut cx m st.ids) c.t) cells c.xs
  apart : ∀ i j, i ∈ st.ids → j ∈ st.ids → i ≠ j → ∀ g, blk (m i) = some g → blk (m j) ≠ some g
  keys : st.ids.Nodup
  fixed : ∀ b c, (b, c) ∈ st.bx → cx.n ≤ b → m b = cx.m0 b

def R (cx : Cx) (st : St) (T : Array Value) (w : World) : Prop := ∃ m, Rm cx m st T w


def upd (m : Nat → Value) (r : Nat) (u : Value) : Nat → Value := fun i => if i = r then u else m i
theorem upd_same (m : Nat → Value) (r : Nat) (u : Value) : upd m r u r = u := by simp [upd]
theorem upd_other (m : Nat → Value) {r i : Nat} (u : Value) (h : i ≠ r) : upd m r u i = m i := by simp [upd, h]

theorem beq_false {a b : Nat} (h : Nat.beq a b = false) : a ≠ b := fun e => by rw [e, Nat.beq_refl] at h; cases h

theorem repVs_ext {w w' : World} {M M' : Nat → Prop} (hw : ∀ b, b < w.heap.size → ¬ M b → w'.heap[b]? = w.heap[b]?) (hM : ∀ b, b < w.heap.size → M' b → M b) :
    ∀ {vs : List Value} {l : List TV}, repVs w M vs l → repVs w' M' vs l
  | [], [], _ => trivial
  | [], _ :: _, h => h.elim
  | _ :: _, [], h => h.elim
  | _ :: _, _ :: _, ⟨h1, h2⟩ => ⟨repV_ext hw hM h1, repVs_ext hw hM h2⟩

theorem repTRs_ext {w w' : World} {M M' : Nat → Prop} {m : Nat → Value} (hw : ∀ b, b < w.heap.size → ¬ M b → w'.heap[b]? = w.heap[b]?) (hM : ∀ b, b < w.heap.size → M' b → M b) :
    ∀ {vs : List Value} {l : List TR}, repTRs w M m vs l → repTRs w' M' m vs l
  | [], [], _ => trivial
  | [], _ :: _, h => h.elim
  | _ :: _, [], h => h.elim
  | _ :: _, .v _ :: _, ⟨h1, h2⟩ => ⟨repV_ext hw hM h1, repTRs_ext hw hM h2⟩
  | _ :: _, .r _ :: _, ⟨h1, h2⟩ => ⟨h1, repTRs_ext hw hM h2⟩
theorem repTRs_upd {w : World} {M : Nat → Prop} {m : Nat → Value} {r : Nat} {u : Value} : ∀ {vs : List Value} {l : List TR}, (l.any fun | .v _ => false | .r b => Nat.beq b r) = false → repTRs w M m vs l → repTRs w M (upd m r u) vs l
  | [], [], _, _ => trivial
  | [], _ :: _, _, h => h.elim
  | _ :: _, [], _, h => h.elim
  | _ :: _, .v _ :: _, hr, ⟨h1, h2⟩ => ⟨h1, repTRs_upd (by simpa [List.any_cons] using hr) h2⟩
  | _ :: _, .r b :: _, hr, ⟨h1, h2⟩ => by
    rw [List.any_cons, Bool.or_eq_false_iff] at hr
    exact ⟨by rw [upd_other _ _ (beq_false hr.1)]; exact h1, repTRs_upd hr.2 h2⟩

theorem repS_ext {w w' : World} {M M' : Nat → Prop} {m : Nat → Value} (hw : ∀ b, b < w.heap.size → ¬ M b → w'.heap[b]? = w.heap[b]?) (hM : ∀ b, b < w.heap.size → M' b → M b)
    {v : Value} {s : SV} (h : repS w M m v s) : repS w' M' m v s := by
  cases s with
  | any => trivial
  | undef => exact h
  | val t x => exact repV_ext hw hM h
  | tup l => obtain ⟨vs, e, h⟩ := h; exact ⟨vs, e, repVs_ext hw hM h⟩
  | tups l => obtain ⟨vs, e, h⟩ := h; exact ⟨vs, e, repTRs_ext hw hM h⟩
  | ptr b off => exact h
  | selfp b => exact h
  | vptr t x =>
    obtain ⟨a, cells, e, h1, h2⟩ := h
    refine ⟨a, cells, e, rep_ext hw hM t h1, fun j u hj => ?_⟩
    obtain ⟨hc, hm⟩ := h2 j u hj
    have hlt : a.block < w.heap.size := by
      have := World.block_lt_of_cell? w (a.add j) hc
      rwa [add_block] at this
    refine ⟨?_, fun h => hm (hM _ hlt h)⟩
    rw [World.cell?_of_block (w := w) (by rw [add_block]; exact hw _ hlt hm)]
    exact hc
  | row r => exact h
  | rptr r i off sz => exact h
  | clos f bs => exact h
  | iter b => exact h
  | bp b p => exact h

/-- Nothing of it hangs on the place of r. -/
theorem repS_upd {w : World} {M : Nat → Prop} {m : Nat → Value} {r : Nat} {u : Value} {v : Value} {s : SV} (hr : s.refs r = false) (h : repS w M m v s) : repS w M (upd m r u) v s := by
  cases s with
  | any => trivial
  | undef => exact h
  | val t x => exact h
  | tup l => exact h
  | tups l => obtain ⟨vs, e, h⟩ := h; exact ⟨vs, e, repTRs_upd hr h⟩
  | vptr t x => exact h
  | ptr b off => obtain ⟨g, h1, h2⟩ := h; exact ⟨g, by rw [upd_other _ _ (beq_false hr)]; exact h1, h2⟩
  | selfp b => show _ ∨ v = _; rw [upd_other _ _ (beq_false hr)]; exact h
  | row b => show v = _; rw [upd_other _ _ (beq_false hr)]; exact h
  | rptr b i off sz => obtain ⟨g, n, cap, h1, h2⟩ := h; exact ⟨g, n, cap, by rw [upd_other _ _ (beq_false hr)]; exact h1, h2⟩
  | iter b => show v = _; rw [upd_other _ _ (beq_false hr)]; exact h
  | bp b p => obtain ⟨g, h1, h2⟩ := h; exact ⟨g, by rw [upd_other _ _ (beq_false hr)]; exact h1, h2⟩
  | clos f bs =>
    have hb : bs.map (upd m r u) = bs.map m := by
      apply List.map_congr_left
      intro b hb
      apply upd_other
      intro e
      have := List.any_eq_false.1 hr b hb
      rw [e, Nat.beq_refl] at this
      exact this rfl
    show v = _
    rw [hb]
    exact h
theorem repS_scrub {w : World} {M : Nat → Prop} {m : Nat → Value} (r : Nat) (u : Value) {v : Value} {s : SV} (h : repS w M m v s) : repS w M (upd m r u) v (s.scrub r) := by
  unfold SV.scrub
  cases hr : s.refs r with
  | true => trivial
  | false => exact repS_upd hr h
theorem repSs_map {w w' : World} {M M' : Nat → Prop} {m m' : Nat → Value} {f : SV → SV} (hf : ∀ v s, repS w M m v s → repS w' M' m' v (f s)) :
    ∀ {vs : List Value} {l : List SV}, repSs w M m vs l → repSs w' M' m' vs (l.map f)
  | [], [], _ => trivial
  | [], _ :: _, h => h.elim
  | _ :: _, [], h => h.elim
  | _ :: _, _ :: _, ⟨h1, h2⟩ => ⟨hf _ _ h1, repSs_map hf h2⟩

theorem objOK_map {w w' : World} {M M' : Nat → Prop} {m m' : Nat → Value} {g : Nat} {f : SV → SV} (hw : ∀ b, b < w.heap.size → ¬ M b → w'.heap[b]? = w.heap[b]?) (hM : ∀ b, b < w.heap.size → M' b → M b) (hh : w'.heap[g]? = w.heap[g]?) (hf : ∀ v s, repS w M m v s → repS w' M' m' v (f s)) :
    ∀ {c : BX}, objOK w M m g c → objOK w' M' m' g (c.map f)
  | .cells _ _, ⟨cells, h1, h2⟩ => ⟨cells, by rw [hh]; exact h1, repSs_map hf h2⟩
  | .iter _ _, h => by show w'.heap[g]? = _; rw [hh]; exact h
  | .blk t x e, ⟨cells, h1, h2⟩ => ⟨cells, by rw [hh]; exact h1, rep_ext hw hM t h2⟩
  | .raw f, ⟨⟨o, ho⟩, h⟩ => ⟨⟨o, by rw [hh]; exact ho⟩, fun w2 M2 a1 a2 a3 => h w2 M2
      (fun b hb hn => by
        have e := hw b hb hn
        have hb' : b < w'.heap.size := by
          rcases Nat.lt_or_ge b w'.heap.size with h1 | h1
          · exact h1
          · rw [Array.getElem?_eq_none h1, Array.getElem?_eq_getElem hb] at e; cases e
        rw [a1 b hb' (fun hc => hn (hM b hb hc)), e])
      (fun b hb hc => by
        refine Classical.byContradiction fun hn => ?_
        have e := hw b hb hn
        have hb' : b < w'.heap.size := by
          rcases Nat.lt_or_ge b w'.heap.size with h1 | h1
          · exact h1
          · rw [Array.getElem?_eq_none h1, Array.getElem?_eq_getElem hb] at e; cases e
        exact hn (hM b hb (a2 b hb' hc)))
      (by rw [a3, hh])⟩
  | .mp k v ps, ⟨es, clock, h1, h2, h3, h4⟩ => ⟨es, clock, by rw [hh]; exact h1, h2, h3, repM_mono (fun _ _ h => repV_ext hw hM h) (fun _ _ h => repV_ext hw hM h) h4⟩
  | .mit k v l a, .inl ⟨h1, h2⟩ => .inl ⟨by rw [hh]; exact h1, h2⟩
  | .mit k v l a, .inr ⟨b, es, clock, seen, h1, h2, h3, h4, h5, h6, h7⟩ =>
    have hlt := heap_some_lt h2
    .inr ⟨b, es, clock, seen, by rw [hh]; exact h1, by rw [hw b hlt h3]; exact h2, fun hc => h3 (hM b hlt hc), h4, h5, repM_mono (fun _ _ h => repV_ext hw hM h) (fun _ _ h => repV_ext hw hM h) h6,
      h7.imp id fun ⟨e, p, a1, a2, a3, a4, a5⟩ => ⟨e, p, a1, a2, a3, repV_ext hw hM a4, repV_ext hw hM a5⟩⟩
theorem objOK_lt {w : World} {M : Nat → Prop} {m : Nat → Value} {g : Nat} {c : BX} (h : objOK w M m g c) : g < w.heap.size := by
  have : ∃ o, w.heap[g]? = some o := by
    cases c with
    | cells l e => obtain ⟨cells, h1, _⟩ := h; exact ⟨_, h1⟩
    | iter s p => exact ⟨_, h⟩
    | blk t x e => obtain ⟨cells, h1, _⟩ := h; exact ⟨_, h1⟩
    | raw f => exact h.1
    | mp k v ps => obtain ⟨es, clock, h1, _⟩ := h; exact ⟨_, h1⟩
    | mit k v l a =>
      rcases h with ⟨h1, _⟩ | ⟨b, es, clock, seen, h1, _⟩
      · exact ⟨_, h1⟩
      · exact ⟨_, h1⟩
  obtain ⟨o, ho⟩ := this
  exact (Array.getElem?_eq_some_iff.1 ho).1
theorem BX.map_id (c : BX) : c.map id = c := by cases c <;> simp [BX.map]
theorem objOK_ext {w w' : World} {M M' : Nat → Prop} {m : Nat → Value} {g : Nat} {c : BX} (hh : w'.heap[g]? = w.heap[g]?) (hw : ∀ b, b < w.heap.size → ¬ M b → w'.heap[b]? = w.heap[b]?) (hM : ∀ b, b < w.heap.size → M' b → M b)
    (h : objOK w M m g c) : objOK w' M' m g c := by
  have := objOK_map (f := id) hw hM hh (fun v s hs => repS_ext (m := m) hw hM hs) h
  rwa [BX.map_id] at this
theorem mval_map (g : Nat) (c : BX) (f : SV → SV) : mval g (c.map f) = mval g c := by cases c <;> rfl

end Go.Ev
