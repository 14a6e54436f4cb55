/- The shapes of a program's types; parts of data; operands. -/
import Derived.Test.YtciikbiapmbocaaDoorEvD
namespace Go.Ev
open Go Go.RowKit

theorem TV.as_some {v : TV} {u : Ty} {x : u.el} (h : v.as u = some x) : v = ⟨u, x⟩ := by
  unfold TV.as at h
  split at h
  · rename_i hb
    obtain ⟨t, y⟩ := v
    have e : t = u := Ty.eq_of_beq hb
    subst e
    simp only [Option.some.injEq] at h
    subst h
    rfl
  · cases h

/-- Fields one behind the other. -/
def fieldsOf (f : TypeId → Option Ty) : Nat → List Field → Option Ty
  | _, [] => some .unit
  | off, fd :: fs =>
    bif Nat.beq fd.offset off then
      match f fd.type with
      | some a => match fieldsOf f (off + a.cells) fs with
        | some b => some (.pair a b)
        | none => none
      | none => none
    else none

/-- The shape of a type. -/
def tyOf (P : Program) : Nat → TypeId → Option Ty
  | 0, _ => none
  | d + 1, t =>
    match P.info? t, P.underlying t with
    | some i, some (.int k) => bif Nat.beq i.size 1 then some (.int k) else none
    | some i, some .bool => bif Nat.beq i.size 1 then some .bool else none
    | some i, some .string => bif Nat.beq i.size 1 then some .str else none
    | some i, some (.slice e) => bif Nat.beq i.size 1 then (match tyOf P d e with | some u => some (.sl u) | none => none) else none
    | some i, some (.struct fs) => match fieldsOf (tyOf P d) 0 fs.toList with
      | some u => bif Nat.beq i.size u.cells then some u else none
      | none => none
    | some i, some (.interface _) => bif Nat.beq i.size 1 then some .err else none
    | some i, some (.array n e) => match tyOf P d e with
      | some u => bif Nat.beq i.size (n * u.cells) then some (.arr n u) else none
      | none => none
    | some i, some (.map k e) => bif Nat.beq i.size 1 then (match tyOf P d k, tyOf P d e with
      | some a, some b => some (.map a b)
      | _, _ => none) else none
    | _, _ => none
def dep : Nat := 12
def ty (P : Program) (t : TypeId) : Option Ty := tyOf P dep t

theorem fieldsOf_agg {f : TypeId → Option Ty} {off : Nat} {fs : List Field} {u : Ty} (h : fieldsOf f off fs = some u) : u.agg = true := by
  cases fs with
  | nil => simp only [fieldsOf, Option.some.injEq] at h; subst h; rfl
  | cons fd fs =>
    unfold fieldsOf at h
    cases hb : Nat.beq fd.offset off with
    | false => rw [hb] at h; cases h
    | true =>
      rw [hb, cond_true] at h
      split at h
      · split at h
        · cases h; rfl
        · cases h
      · cases h

theorem fieldsOf_st {f : TypeId → Option Ty} {off : Nat} {fs : List Field} {u : Ty} (h : fieldsOf f off fs = some u) : u = .unit ∨ ∃ a b, u = .pair a b := by
  cases fs with
  | nil => simp only [fieldsOf, Option.some.injEq] at h; exact .inl h.symm
  | cons fd fs =>
    unfold fieldsOf at h
    cases hb : Nat.beq fd.offset off with
    | false => rw [hb] at h; cases h
    | true =>
      rw [hb, cond_true] at h
      split at h
      · split at h
        · cases h; exact .inr ⟨_, _, rfl⟩
        · cases h
      · cases h

/-- What is known of a type that has a shape. -/
theorem tyOf_facts {P : Program} {d : Nat} {t : TypeId} {u : Ty} (h : tyOf P d t = some u) : ∃ i, P.info? t = some i ∧ i.size = u.cells ∧
    (match u with
      | .ptr _ => False
      | .fn _ _ => False
      | .err => ∃ ms, P.underlying t = some (.interface ms)
      | .int k => P.underlying t = some (.int k)
      | .bool => P.underlying t = some .bool
      | .str => P.underlying t = some .string
      | .sl v => ∃ e d', P.underlying t = some (.slice e) ∧ tyOf P d' e = some v
      | .arr n v => ∃ e d', P.underlying t = some (.array n e) ∧ tyOf P d' e = some v
      | .map a b => ∃ k e d', P.underlying t = some (.map k e) ∧ tyOf P d' k = some a ∧ tyOf P d' e = some b
      | _ => ∃ fs d', P.underlying t = some (.struct fs) ∧ fieldsOf (tyOf P d') 0 fs.toList = some u) := by
  cases d with
  | zero => cases h
  | succ d =>
    unfold tyOf at h
    split at h
    · rename_i i k hi hu
      cases hb : Nat.beq i.size 1 <;> rw [hb] at h <;> cases h
      exact ⟨i, hi, Nat.eq_of_beq_eq_true hb, hu⟩
    · rename_i i hi hu
      cases hb : Nat.beq i.size 1 <;> rw [hb] at h <;> cases h
      exact ⟨i, hi, Nat.eq_of_beq_eq_true hb, hu⟩
    · rename_i i hi hu
      cases hb : Nat.beq i.size 1 <;> rw [hb] at h <;> cases h
      exact ⟨i, hi, Nat.eq_of_beq_eq_true hb, hu⟩
    · rename_i i e hi hu
      cases hb : Nat.beq i.size 1 <;> rw [hb] at h
      · cases h
      · rw [cond_true] at h
        split at h
        · rename_i v hv; cases h; exact ⟨i, hi, Nat.eq_of_beq_eq_true hb, e, d, hu, hv⟩
        · cases h
    · rename_i i fs hi hu
      split at h
      · rename_i v hv
        cases hb : Nat.beq i.size v.cells <;> rw [hb] at h <;> cases h
        have ha := fieldsOf_st hv
        refine ⟨i, hi, Nat.eq_of_beq_eq_true hb, ?_⟩
        rcases ha with rfl | ⟨a, b, rfl⟩ <;> exact ⟨fs, d, hu, hv⟩
      · cases h
    · rename_i i ms hi hu
      cases hb : Nat.beq i.size 1 <;> rw [hb] at h <;> cases h
      exact ⟨i, hi, Nat.eq_of_beq_eq_true hb, ms, hu⟩
    · rename_i i n e hi hu
      split at h
      · rename_i v hv
        cases hb : Nat.beq i.size (n * v.cells) <;> rw [hb] at h <;> cases h
        exact ⟨i, hi, Nat.eq_of_beq_eq_true hb, e, d, hu, hv⟩
      · cases h
    · rename_i i k e hi hu
      cases hb : Nat.beq i.size 1 <;> rw [hb] at h
      · cases h
      · rw [cond_true] at h
        split at h
        · rename_i a b ha hb'; cases h; exact ⟨i, hi, Nat.eq_of_beq_eq_true hb, k, e, d, hu, ha, hb'⟩
        · cases h
    · cases h

theorem ty_isAgg {P : Program} {d : Nat} {t : TypeId} {u : Ty} (h : tyOf P d t = some u) (w : World) : (isAgg t).run P w = .ok u.agg w := by
  obtain ⟨i, _, _, hf⟩ := tyOf_facts h
  unfold isAgg
  cases u with
  | int k => simp [run_underlying hf, Ty.agg]
  | bool => simp [run_underlying hf, Ty.agg]
  | str => simp [run_underlying hf, Ty.agg]
  | sl v => obtain ⟨e, d', hu, _⟩ := hf; simp [run_underlying hu, Ty.agg]
  | ptr v => exact hf.elim
  | fn f v => exact hf.elim
  | err => obtain ⟨ms, hu⟩ := hf; simp [run_underlying hu, Ty.agg]
  | arr n v => obtain ⟨e, d', hu, _⟩ := hf; simp [run_underlying hu, Ty.agg]
  | map a b => obtain ⟨k, e, d', hu, _⟩ := hf; simp [run_underlying hu, Ty.agg]
  | unit => obtain ⟨fs, d', hu, _⟩ := hf; simp [run_underlying hu, Ty.agg]
  | pair a b => obtain ⟨fs, d', hu, _⟩ := hf; simp [run_underlying hu, Ty.agg]

theorem ty_sizeOf {P : Program} {d : Nat} {t : TypeId} {u : Ty} (h : tyOf P d t = some u) (w : World) : (sizeOf t).run P w = .ok u.cells w := by
  obtain ⟨i, hi, hs, _⟩ := tyOf_facts h
  simp [sizeOf, typeInfo, hi, hs]

theorem repL_nth {w : World} {M : Nat → Prop} {t : Ty} : ∀ {xs : List t.el} {cs : List Value} {i : Nat} {x : t.el}, repL (rep w M t) cs xs → xs[i]? = some x →
    ∃ c1 c2 c3, cs = c1 ++ c2 ++ c3 ∧ c1.length = i * t.cells ∧ rep w M t c2 x
  | [], _, _, _, _, h => by simp at h
  | y :: ys, cs, 0, x, ⟨c1, c2, e, h1, h2⟩, h => by
    simp at h
    subst h
    exact ⟨[], c1, c2, by simpa using e, by simp, h1⟩
  | y :: ys, cs, i + 1, x, ⟨c1, c2, e, h1, h2⟩, h => by
    obtain ⟨d1, d2, d3, hd, hl, hr⟩ := repL_nth h2 (by simpa using h)
    refine ⟨c1 ++ d1, d2, d3, by rw [e, hd]; simp, ?_, hr⟩
    rw [List.length_append, rep_length t h1, hl, Nat.succ_mul, Nat.add_comm]

theorem repL_set {w : World} {M : Nat → Prop} {t : Ty} : ∀ {xs : List t.el} {cs : List Value} {i : Nat} {x : t.el}, repL (rep w M t) cs xs → xs[i]? = some x →
    ∃ c1 c2 c3, cs = c1 ++ c2 ++ c3 ∧ c1.length = i * t.cells ∧ rep w M t c2 x ∧ ∀ c2' x', rep w M t c2' x' → repL (rep w M t) (c1 ++ c2' ++ c3) (xs.set i x')
  | [], _, _, _, _, h => by simp at h
  | y :: ys, cs, 0, x, ⟨c1, c2, e, h1, h2⟩, h => by
    simp at h
    subst h
    exact ⟨[], c1, c2, by simpa using e, by simp, h1, fun c2' x' h' => ⟨c2', c2, by simp, h', h2⟩⟩
  | y :: ys, cs, i + 1, x, ⟨c1, c2, e, h1, h2⟩, h => by
    obtain ⟨d1, d2, d3, hd, hl, hr, hs⟩ := repL_set h2 (by simpa using h)
    refine ⟨c1 ++ d1, d2, d3, by rw [e, hd]; simp, ?_, hr, fun c2' x' h' => ⟨c1, d1 ++ c2' ++ d3, by simp, h1, hs c2' x' h'⟩⟩
    rw [List.length_append, rep_length t h1, hl, Nat.succ_mul, Nat.add_comm]

/-- The part of a value that lies at a place and has a shape. -/
def getT : (t : Ty) → t.el → Nat → (u : Ty) → Option u.el
  | .pair a b, x, off, u =>
    match Nat.beq off 0, TV.as ⟨.pair a b, x⟩ u with
    | true, some y => some y
    | _, _ => bif Nat.blt off a.cells then getT a x.1 off u else getT b x.2 (off - a.cells) u
  | .arr n t, x, off, u =>
    match Nat.beq off 0, TV.as ⟨.arr n t, x⟩ u with
    | true, some y => some y
    | _, _ => bif Nat.beq t.cells 0 then none else (match (show List t.el from x)[off / t.cells]? with
      | some z => getT t z (off % t.cells) u
      | none => none)
  | t, x, off, u => bif Nat.beq off 0 then TV.as ⟨t, x⟩ u else none

/-- The value with another part at a place. -/
def setT : (t : Ty) → t.el → Nat → TV → Option t.el
  | .pair a b, x, off, v =>
    match Nat.beq off 0, v.as (.pair a b) with
    | true, some y => some y
    | _, _ => bif Nat.blt off a.cells then (match setT a x.1 off v with | some y => some (y, x.2) | none => none)
      else (match setT b x.2 (off - a.cells) v with | some y => some (x.1, y) | none => none)
  | .arr n t, x, off, v =>
    match Nat.beq off 0, v.as (.arr n t) with
    | true, some y => some y
    | _, _ => bif Nat.beq t.cells 0 then none else (match (show List t.el from x)[off / t.cells]? with
      | some z => (match setT t z (off % t.cells) v with | some z' => some (List.set (show List t.el from x) (off / t.cells) z') | none => none)
      | none => none)
  | t, _, off, v => bif Nat.beq off 0 then v.as t else none

theorem blt_true {a b : Nat} (h : Nat.blt a b = true) : a < b := by
  have : a + 1 ≤ b := by simpa [Nat.blt] using h
  omega
theorem blt_false {a b : Nat} (h : Nat.blt a b = false) : b ≤ a := by
  rcases Nat.lt_or_ge a b with h1 | h1
  · have : Nat.blt a b = true := by
      have : a + 1 ≤ b := h1
      simpa [Nat.blt] using this
    rw [this] at h; cases h
  · exact h1

theorem getT_base {t : Ty} {x : t.el} {off : Nat} {u : Ty} {y : u.el} (h : (bif Nat.beq off 0 then TV.as ⟨t, x⟩ u else none) = some y) : off = 0 ∧ (⟨t, x⟩ : TV) = ⟨u, y⟩ := by
  cases hb : Nat.beq off 0 with
  | false => rw [hb] at h; cases h
  | true => rw [hb] at h; exact ⟨Nat.eq_of_beq_eq_true hb, TV.as_some h⟩

theorem getT_rep {w : World} {M : Nat → Prop} : ∀ (t : Ty) {cs : List Value} {x : t.el} {off : Nat} {u : Ty} {y : u.el}, rep w M t cs x → getT t x off u = some y →
    ∃ c1 c2 c3, cs = c1 ++ c2 ++ c3 ∧ c1.length = off ∧ rep w M u c2 y := by
  intro t
  induction t with
  | int k => intro cs x off u y hr h; obtain ⟨rfl, e⟩ := getT_base (t := .int k) h; cases e; exact ⟨[], cs, [], by simp, rfl, hr⟩
  | bool => intro cs x off u y hr h; obtain ⟨rfl, e⟩ := getT_base (t := .bool) h; cases e; exact ⟨[], cs, [], by simp, rfl, hr⟩
  | str => intro cs x off u y hr h; obtain ⟨rfl, e⟩ := getT_base (t := .str) h; cases e; exact ⟨[], cs, [], by simp, rfl, hr⟩
  | sl t ih => intro cs x off u y hr h; obtain ⟨rfl, e⟩ := getT_base (t := .sl t) h; cases e; exact ⟨[], cs, [], by simp, rfl, hr⟩
  | ptr t ih => intro cs x off u y hr h; obtain ⟨rfl, e⟩ := getT_base (t := .ptr t) h; cases e; exact ⟨[], cs, [], by simp, rfl, hr⟩
  | fn f t ih => intro cs x off u y hr h; obtain ⟨rfl, e⟩ := getT_base (t := .fn f t) h; cases e; exact ⟨[], cs, [], by simp, rfl, hr⟩
  | err => intro cs x off u y hr h; obtain ⟨rfl, e⟩ := getT_base (t := .err) h; cases e; exact ⟨[], cs, [], by simp, rfl, hr⟩
  | arr n t ih =>
    intro cs x off u y hr h
    unfold getT at h
    split at h
    · rename_i y' hb hy
      cases h
      have e := TV.as_some hy
      cases e
      exact ⟨[], cs, [], by simp, (Nat.eq_of_beq_eq_true hb).symm, hr⟩
    · cases hz : Nat.beq t.cells 0 with
      | true => rw [hz] at h; cases h
      | false =>
        rw [hz, cond_false] at h
        split at h
        · rename_i z hx
          obtain ⟨c1, c2, c3, rfl, hl, h2⟩ := repL_nth hr.2 hx
          obtain ⟨d1, d2, d3, rfl, hd, hr'⟩ := ih h2 h
          refine ⟨c1 ++ d1, d2, d3 ++ c3, by simp, ?_, hr'⟩
          rw [List.length_append, hl, hd, Nat.mul_comm]
          exact Nat.div_add_mod off t.cells
        · cases h
  | map a b _ _ => intro cs x off u y hr h; obtain ⟨rfl, e⟩ := getT_base (t := .map a b) h; cases e; exact ⟨[], cs, [], by simp, rfl, hr⟩
  | unit => intro cs x off u y hr h; obtain ⟨rfl, e⟩ := getT_base (t := .unit) h; cases e; exact ⟨[], cs, [], by simp, rfl, hr⟩
  | pair a b iha ihb =>
    intro cs x off u y hr h
    unfold getT at h
    split at h
    · rename_i y' hb hy
      cases h
      have e := TV.as_some hy
      cases e
      exact ⟨[], cs, [], by simp, (Nat.eq_of_beq_eq_true hb).symm, hr⟩
    · obtain ⟨c1, c2, rfl, h1, h2⟩ := hr
      cases hl : Nat.blt off a.cells with
      | true =>
        rw [hl, cond_true] at h
        obtain ⟨d1, d2, d3, rfl, hd, hr⟩ := iha h1 h
        exact ⟨d1, d2, d3 ++ c2, by simp, hd, hr⟩
      | false =>
        rw [hl, cond_false] at h
        obtain ⟨d1, d2, d3, rfl, hd, hr⟩ := ihb h2 h
        refine ⟨c1 ++ d1, d2, d3, by simp, ?_, hr⟩
        rw [List.length_append, rep_length a h1, hd]
        have := blt_false hl
        omega

theorem setT_base {t : Ty} {off : Nat} {v : TV} {y : t.el} (h : (bif Nat.beq off 0 then v.as t else none) = some y) : off = 0 ∧ v = ⟨t, y⟩ := by
  cases hb : Nat.beq off 0 with
  | false => rw [hb] at h; cases h
  | true => rw [hb] at h; exact ⟨Nat.eq_of_beq_eq_true hb, TV.as_some h⟩

theorem setT_rep {w : World} {M : Nat → Prop} {v : TV} {vc : List Value} (hv : rep w M v.t vc v.x) : ∀ (t : Ty) {cs : List Value} {x : t.el} {off : Nat} {y : t.el}, rep w M t cs x → setT t x off v = some y →
    ∃ c1 c2 c3, cs = c1 ++ c2 ++ c3 ∧ c1.length = off ∧ c2.length = vc.length ∧ rep w M t (c1 ++ vc ++ c3) y := by
  intro t
  have base : ∀ (t : Ty) (cs : List Value) (x : t.el) (off : Nat) (y : t.el), rep w M t cs x → (off = 0 ∧ v = ⟨t, y⟩) → ∃ c1 c2 c3, cs = c1 ++ c2 ++ c3 ∧ c1.length = off ∧ c2.length = vc.length ∧ rep w M t (c1 ++ vc ++ c3) y := by
    rintro t cs x off y hr ⟨rfl, e⟩
    subst e
    exact ⟨[], cs, [], by simp, rfl, by rw [rep_length t hr, rep_length t hv], by simpa using hv⟩
  induction t with
  | int k => intro cs x off y hr h; exact base (.int k) cs x off y hr (setT_base (t := .int k) h)
  | bool => intro cs x off y hr h; exact base .bool cs x off y hr (setT_base (t := .bool) h)
  | str => intro cs x off y hr h; exact base .str cs x off y hr (setT_base (t := .str) h)
  | sl t ih => intro cs x off y hr h; exact base (.sl t) cs x off y hr (setT_base (t := .sl t) h)
  | ptr t ih => intro cs x off y hr h; exact base (.ptr t) cs x off y hr (setT_base (t := .ptr t) h)
  | fn f t ih => intro cs x off y hr h; exact base (.fn f t) cs x off y hr (setT_base (t := .fn f t) h)
  | err => intro cs x off y hr h; exact base .err cs x off y hr (setT_base (t := .err) h)
  | arr n t ih =>
    intro cs x off y hr h
    unfold setT at h
    split at h
    · rename_i y' hb hy
      cases h
      exact base _ cs x off _ hr ⟨Nat.eq_of_beq_eq_true hb, TV.as_some hy⟩
    · cases hz : Nat.beq t.cells 0 with
      | true => rw [hz] at h; cases h
      | false =>
        rw [hz, cond_false] at h
        split at h
        · rename_i z hx
          split at h
          · rename_i z' hz'
            cases h
            obtain ⟨c1, c2, c3, rfl, hl, h2, hset⟩ := repL_set hr.2 hx
            obtain ⟨d1, d2, d3, rfl, hd, hd2, hr'⟩ := ih h2 hz'
            refine ⟨c1 ++ d1, d2, d3 ++ c3, by simp, ?_, hd2, ?_, ?_⟩
            · rw [List.length_append, hl, hd, Nat.mul_comm]
              exact Nat.div_add_mod off t.cells
            · rw [List.length_set]; exact hr.1
            · have := hset _ _ hr'
              simpa using this
          · cases h
        · cases h
  | map a b _ _ => intro cs x off y hr h; exact base (.map a b) cs x off y hr (setT_base (t := .map a b) h)
  | unit => intro cs x off y hr h; exact base .unit cs x off y hr (setT_base (t := .unit) h)
  | pair a b iha ihb =>
    intro cs x off y hr h
    unfold setT at h
    split at h
    · rename_i y' hb hy
      cases h
      exact base _ cs x off _ hr ⟨Nat.eq_of_beq_eq_true hb, TV.as_some hy⟩
    · obtain ⟨c1, c2, rfl, h1, h2⟩ := hr
      cases hl : Nat.blt off a.cells with
      | true =>
        rw [hl, cond_true] at h
        split at h
        · rename_i y' hy
          cases h
          obtain ⟨d1, d2, d3, rfl, hd, hd2, hr⟩ := iha h1 hy
          exact ⟨d1, d2, d3 ++ c2, by simp, hd, hd2, d1 ++ vc ++ d3, c2, by simp, hr, h2⟩
        · cases h
      | false =>
        rw [hl, cond_false] at h
        split at h
        · rename_i y' hy
          cases h
          obtain ⟨d1, d2, d3, rfl, hd, hd2, hr⟩ := ihb h2 hy
          refine ⟨c1 ++ d1, d2, d3, by simp, ?_, hd2, c1, d1 ++ vc ++ d3, by simp, h1, hr⟩
          rw [List.length_append, rep_length a h1, hd]
          have := blt_false hl
          omega
        · cases h

/-- The zero of a shape. -/
def zeroEl : (t : Ty) → t.el
  | .int _ => (0 : Int)
  | .bool => false
  | .str => []
  | .sl _ => []
  | .unit => ()
  | .pair a b => (zeroEl a, zeroEl b)
  | .ptr t => zeroEl t
  | .fn _ t => zeroEl t
  | .err => none
  | .arr n t => List.replicate n (zeroEl t)
  | .map _ _ => none
def iterO (f : List Value → Option (List Value)) : Nat → List Value → Option (List Value)
  | 0, r => some r
  | n + 1, r => match f r with
    | some r' => iterO f n r'
    | none => none
/-- Are these cells the zero of a shape? What is behind it. -/
def zeroChk : Ty → List Value → Option (List Value)
  | .int k, .int k' n :: r => bif kbeq k k' && n == 0 then some r else none
  | .bool, .bool b :: r => bif b then none else some r
  | .str, .string s :: r => bif s.data.isEmpty then some r else none
  | .sl _, .slice none n c :: r => bif Nat.beq n 0 && Nat.beq c 0 then some r else none
  | .unit, r => some r
  | .err, .nilIface :: r => some r
  | .map _ _, .map none :: r => some r
  | .arr n t, r => iterO (zeroChk t) n r
  | .pair a b, r => match zeroChk a r with
    | some r' => zeroChk b r'
    | none => none
  | _, _ => none

theorem iterO_rep {α : Type} {f : List Value → α → Prop} {z : List Value → Option (List Value)} {y : α} (h : ∀ {cs r : List Value}, z cs = some r → ∃ c, cs = c ++ r ∧ f c y) : ∀ (n : Nat) {cs r : List Value}, iterO z n cs = some r → ∃ c, cs = c ++ r ∧ repL f c (List.replicate n y)
  | 0, cs, r, hh => by cases hh; exact ⟨[], rfl, rfl⟩
  | n + 1, cs, r, hh => by
    unfold iterO at hh
    split at hh
    · rename_i r' hr
      obtain ⟨c1, rfl, h1⟩ := h hr
      obtain ⟨c2, rfl, h2⟩ := iterO_rep h n hh
      exact ⟨c1 ++ c2, by simp, c1, c2, rfl, h1, h2⟩
    · cases hh
theorem zeroChk_rep {w : World} {M : Nat → Prop} : ∀ (t : Ty) {cs r : List Value}, zeroChk t cs = some r → ∃ c, cs = c ++ r ∧ rep w M t c (zeroEl t) := by
  intro t
  induction t with
  | int k =>
    intro cs r h
    unfold zeroChk at h
    split at h <;> try contradiction
    · rename_i hk k' n r' e1; cases e1
      cases hb : (kbeq k k' && n == 0) <;> rw [hb] at h <;> cases h
      simp only [Bool.and_eq_true, beq_iff_eq] at hb
      rw [← keq hb.1, hb.2]
      exact ⟨[_], rfl, rfl⟩
    all_goals (rename_i e1; cases e1)
  | bool =>
    intro cs r h
    unfold zeroChk at h
    split at h <;> try contradiction
    · rename_i b r' _
      cases b <;> cases h
      exact ⟨[_], rfl, rfl⟩
    all_goals (rename_i e1; cases e1)
  | str =>
    intro cs r h
    unfold zeroChk at h
    split at h <;> try contradiction
    · rename_i s r' _
      cases hb : s.data.isEmpty <;> rw [hb] at h <;> cases h
      have : s = ⟨#[]⟩ := by cases s; simp at hb; rw [hb]
      rw [this]
      exact ⟨[_], rfl, rfl, by decide⟩
    all_goals (rename_i e1; cases e1)
  | sl t ih =>
    intro cs r h
    unfold zeroChk at h
    split at h <;> try contradiction
    · rename_i n c r' e1; cases e1
      cases hb : (Nat.beq n 0 && Nat.beq c 0) <;> rw [hb] at h <;> cases h
      simp only [Bool.and_eq_true] at hb
      rw [Nat.eq_of_beq_eq_true hb.1, Nat.eq_of_beq_eq_true hb.2]
      exact ⟨[_], rfl, none, 0, [], rfl, Nat.le_refl _, by decide, fun _ => rfl, rfl, fun j u hj => by simp at hj⟩
    all_goals (rename_i e1; cases e1)
  | unit => intro cs r h; cases h; exact ⟨[], rfl, rfl⟩
  | ptr t ih => intro cs r h; simp [zeroChk] at h
  | fn f t ih => intro cs r h; simp [zeroChk] at h
  | err =>
    intro cs r h
    unfold zeroChk at h
    split at h <;> try contradiction
    · cases h; exact ⟨[_], rfl, .inl ⟨rfl, rfl⟩⟩
    all_goals (rename_i e1; cases e1)
  | map a b _ _ =>
    intro cs r h
    unfold zeroChk at h
    split at h <;> try contradiction
    · cases h; exact ⟨[_], rfl, rfl⟩
    all_goals (rename_i e1; cases e1)
  | arr n t ih =>
    intro cs r h
    simp only [zeroChk] at h
    obtain ⟨c, h1, h2⟩ := iterO_rep (f := rep w M t) (y := zeroEl t) (fun hh => ih hh) n h
    exact ⟨c, h1, List.length_replicate, h2⟩
  | pair a b iha ihb =>
    intro cs r h
    simp only [zeroChk] at h
    split at h
    · rename_i r' hr
      obtain ⟨c1, rfl, h1⟩ := iha hr
      obtain ⟨c2, rfl, h2⟩ := ihb h
      exact ⟨c1 ++ c2, by simp, c1, c2, rfl, h1, h2⟩
    · cases h

end Go.Ev
