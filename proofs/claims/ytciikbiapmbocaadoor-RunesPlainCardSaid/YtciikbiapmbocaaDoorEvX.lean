/- Maps on plain data: what is looked up, what is written. -/
import Derived.Test.YtciikbiapmbocaaDoorEvG
import Derived.WideKeyRuns
import Derived.MapKept
namespace Go.Ev
open Go Go.RowKit
variable {P : Program} {w w' : World} {M M' : Nat → Prop}

theorem repL_det {α : Type} {f g : List Value → α → Prop} (h : ∀ c c' x, f c x → g c' x → c = c') : ∀ {xs : List α} {cs cs' : List Value}, repL f cs xs → repL g cs' xs → cs = cs'
  | [], _, _, h1, h2 => by cases h1; cases h2; rfl
  | _ :: _, _, _, ⟨a, b, e1, h1, h2⟩, ⟨c, d, e2, h3, h4⟩ => by rw [e1, e2, h _ _ _ h1 h3, repL_det h h2 h4]
theorem flat_det {w w' : World} {M M' : Nat → Prop} : ∀ (t : Ty) {cs cs' : List Value} {x : t.el}, t.flat = true → rep w M t cs x → rep w' M' t cs' x → cs = cs' := by
  intro t
  induction t with
  | int k => intro cs cs' x _ h h'; rw [h, h']
  | bool => intro cs cs' x _ h h'; rw [h, h']
  | str => intro cs cs' x _ h h'; rw [h.1, h'.1]
  | unit => intro cs cs' x _ h h'; rw [h, h']
  | pair a b iha ihb =>
    rintro cs cs' x hf ⟨c1, c2, rfl, h1, h2⟩ ⟨d1, d2, rfl, h3, h4⟩
    simp only [Ty.flat, Bool.and_eq_true] at hf
    rw [iha hf.1 h1 h3, ihb hf.2 h2 h4]
  | sl t ih => intro cs cs' x hf; simp [Ty.flat] at hf
  | ptr t ih => intro cs cs' x hf; simp [Ty.flat] at hf
  | fn f t ih => intro cs cs' x hf; simp [Ty.flat] at hf
  | err => intro cs cs' x hf; simp [Ty.flat] at hf
  | map k v _ _ => intro cs cs' x hf; simp [Ty.flat] at hf
  | arr n t ih => intro cs cs' x hf h h'; exact repL_det (f := rep w M t) (g := rep w' M' t) (fun _ _ _ h1 h2 => ih hf h1 h2) h.2 h'.2
theorem flat_detV {w w' : World} {M M' : Nat → Prop} {t : Ty} {v v' : Value} {x : t.el} (hf : t.flat = true) (h : repV w M v t x) (h' : repV w' M' v' t x) : v = v' := by
  cases hag : t.agg with
  | true =>
    obtain ⟨cs, rfl, h1⟩ := (repV_agg hag).1 h
    obtain ⟨cs', rfl, h2⟩ := (repV_agg hag).1 h'
    rw [flat_det t hf h1 h2]
  | false =>
    have := flat_det t hf ((repV_plain hag).1 h) ((repV_plain hag).1 h')
    simpa using this
theorem indexAt_arr {P : Program} {t e : TypeId} {len d : Nat} {u : Ty} {n : Int} {k : IntKind} {a : Addr} (hu : P.underlying t = some (.array len e)) (hu' : tyOf P d e = some u) (h0 : 0 ≤ n) (h1 : n < (len : Int)) (w' : World) :
    (Instr.indexAt t (.pointer (some a)) (.int k n)).run P w' = .ok (.pointer (some (a.add (n.toNat * u.cells)))) w' := by
  simp only [Instr.indexAt, asIntOf, Sem.run_bind, Sem.run_pure, Result.andThen_ok, run_underlying hu, Instr.sureAddr]
  rw [if_pos ⟨h0, h1⟩]
  simp only [Sem.run_bind, ty_sizeOf hu', Result.andThen_ok, Sem.run_pure]
theorem part_all {P : Program} {w : World} {M : Nat → Prop} {d : Nat} {t : TypeId} {u : Ty} (ht : tyOf P d t = some u) {pre c post : List Value} {x : u.el} (hr : rep w M u c x) :
    ∃ v, (∀ w2, (part t (pre ++ c ++ post).toArray pre.length).run P w2 = .ok v w2) ∧ repV w M v u x := by
  obtain ⟨v, h1, h2⟩ := part_run (P := P) ht (pre := pre) (post := post) hr w
  refine ⟨v, fun w2 => ?_, h2⟩
  have hl := rep_length u hr
  cases hag : u.agg with
  | true =>
    unfold part at h1 ⊢
    rw [Sem.run_bind, ty_isAgg ht, hag] at h1 ⊢
    simp only [Result.andThen_ok, if_true, Sem.run_bind, ty_sizeOf ht, Sem.run_pure] at h1 ⊢
    injection h1 with h1
    rw [h1]
  | false =>
    unfold part at h1 ⊢
    rw [Sem.run_bind, ty_isAgg ht, hag] at h1 ⊢
    simp only [Result.andThen_ok, Bool.false_eq_true, if_false] at h1 ⊢
    have h1c : u.cells = 1 := by cases u <;> first | rfl | (simp [Ty.agg] at hag)
    rw [h1c] at hl
    match c, hl with
    | [v0], _ =>
      have e : (pre ++ [v0] ++ post).toArray[pre.length]? = some v0 := by simp
      rw [e] at h1 ⊢
      have : v0 = v := by
        have h3 : (pure v0 : Sem Value).run P w = .ok v w := h1
        rw [Sem.run_pure] at h3
        injection h3
      rw [← this]
      rfl

/-- The shape of a type whose zero is known. -/
def zeroOf (P : Program) (t : TypeId) : Option Ty :=
  match ty P t, P.info? t with
  | some u, some i => match i.zero with
    | some z => match zeroChk u z.cells.toList with
      | some [] => some u
      | _ => none
    | none => none
  | _, _ => none

theorem zeroOf_facts {P : Program} {t : TypeId} {u : Ty} (h : zeroOf P t = some u) : ∃ i z, ty P t = some u ∧ P.info? t = some i ∧ i.size = u.cells ∧ i.zero = some z ∧ ∀ w M, rep w M u z.cells.toList (zeroEl u) := by
  unfold zeroOf at h
  split at h
  · rename_i u' i hu hi
    split at h
    · rename_i z hz
      split at h
      · rename_i hc
        cases h
        obtain ⟨i', hi', hs, _⟩ := tyOf_facts hu
        rw [hi] at hi'
        cases hi'
        refine ⟨i, z, hu, hi, hs, hz, fun w M => ?_⟩
        obtain ⟨c, hc', hr⟩ := zeroChk_rep (w := w) (M := M) u hc
        rw [hc', List.append_nil]
        exact hr
      · cases h
    · cases h
  · cases h


/-! Parts by steps. -/
def getP : (t : Ty) → t.el → List PS → List TV → Option (TV × List TV × List Prop)
  | t, x, [], orc => some (⟨t, x⟩, orc, [])
  | t, x, .f off u :: p, orc => match getT t x off u with
    | some y => getP u y p orc
    | none => none
  | .arr _ u, xs, .x j sz :: p, v :: orc => match Nat.beq sz u.cells, v.as u with
    | true, some y => match getP u y p orc with
      | some (r, o, ob) => some (r, o, (at? (show List u.el from xs) j = some y) :: ob)
      | none => none
    | _, _ => none
  | _, _, .x _ _ :: _, _ => none
def setP : (t : Ty) → t.el → List PS → List TV → TV → Option (t.el × List TV × List Prop)
  | t, _, [], orc, z => match z.as t with
    | some y => some (y, orc, [])
    | none => none
  | t, x, .f off u :: p, orc, z => match getT t x off u with
    | some y => match setP u y p orc z with
      | some (y', o, ob) => match setT t x off ⟨u, y'⟩ with
        | some x' => some (x', o, ob)
        | none => none
      | none => none
    | none => none
  | .arr _ u, xs, .x j sz :: p, v :: orc, z => match Nat.beq sz u.cells, v.as u with
    | true, some y => match setP u y p orc z with
      | some (y', o, ob) => some (List.set (show List u.el from xs) j.toNat y', o, (at? (show List u.el from xs) j = some y) :: ob)
      | none => none
    | _, _ => none
  | _, _, .x _ _ :: _, _, _ => none
theorem getP_rep : ∀ (p : List PS) (t : Ty) {cs : List Value} {x : t.el} {orc orc' : List TV} {r : TV} {ob : List Prop}, rep w M t cs x → getP t x p orc = some (r, orc', ob) → allP ob →
    ∃ c1 c2 c3, cs = c1 ++ c2 ++ c3 ∧ c1.length = poff p ∧ rep w M r.t c2 r.x
  | [], t, cs, x, orc, orc', r, ob, h, hg, _ => by
    simp only [getP] at hg
    cases hg
    exact ⟨[], cs, [], by simp, rfl, h⟩
  | .f off u :: p, t, cs, x, orc, orc', r, ob, h, hg, hob => by
    simp only [getP] at hg
    split at hg
    · rename_i y hy
      obtain ⟨c1, c2, c3, rfl, hl, h2⟩ := getT_rep t h hy
      obtain ⟨d1, d2, d3, rfl, hd, h3⟩ := getP_rep p u h2 hg hob
      exact ⟨c1 ++ d1, d2, d3 ++ c3, by simp, by rw [List.length_append, hl, hd]; rfl, h3⟩
    · cases hg
  | .x j sz :: p, t, cs, x, orc, orc', r, ob, h, hg, hob => by
    cases t with
    | arr n u =>
      cases orc with
      | nil => simp [getP] at hg
      | cons v orc =>
        simp only [getP] at hg
        split at hg
        · rename_i y hs hv
          split at hg
          · rename_i r' o ob' hp
            cases hg
            obtain ⟨h0, h1, h2⟩ := at?_some hob.1
            obtain ⟨c1, c2, c3, rfl, hl, h3⟩ := repL_nth h.2 h2
            obtain ⟨d1, d2, d3, rfl, hd, h4⟩ := getP_rep p u h3 hp hob.2
            exact ⟨c1 ++ d1, d2, d3 ++ c3, by simp, by rw [List.length_append, hl, hd, ← Nat.eq_of_beq_eq_true hs]; rfl, h4⟩
          · cases hg
        · cases hg
    | _ => simp [getP] at hg
theorem setP_rep {z : TV} {vc : List Value} (hz : rep w M z.t vc z.x) : ∀ (p : List PS) (t : Ty) {cs : List Value} {x : t.el} {orc orc' : List TV} {y : t.el} {ob : List Prop}, rep w M t cs x → setP t x p orc z = some (y, orc', ob) → allP ob →
    ∃ c1 c2 c3, cs = c1 ++ c2 ++ c3 ∧ c1.length = poff p ∧ c2.length = vc.length ∧ rep w M t (c1 ++ vc ++ c3) y
  | [], t, cs, x, orc, orc', y, ob, h, hg, _ => by
    simp only [setP] at hg
    split at hg
    · rename_i y' hy
      cases hg
      have e := TV.as_some hy
      subst e
      exact ⟨[], cs, [], by simp, rfl, by rw [rep_length t h, rep_length t hz], by simpa using hz⟩
    · cases hg
  | .f off u :: p, t, cs, x, orc, orc', y, ob, h, hg, hob => by
    simp only [setP] at hg
    split at hg
    · rename_i y0 hy0
      split at hg
      · rename_i y1 o ob' hp
        split at hg
        · rename_i x' hx'
          cases hg
          obtain ⟨c1, c2, c3, e, hl, h2⟩ := getT_rep t h hy0
          obtain ⟨d1, d2, d3, e2, hd, hd2, h3⟩ := setP_rep hz p u h2 hp hob
          obtain ⟨k1, k2, k3, e3, hk, hk2, h4⟩ := setT_rep (v := ⟨u, y1⟩) h3 t h hx'
          have hc2 : c2.length = (d1 ++ vc ++ d3).length := by rw [e2]; simp only [List.length_append, hd2]
          have e4 : k1 = c1 ∧ k2 = c2 ∧ k3 = c3 := by
            have e5 : k1 ++ (k2 ++ k3) = c1 ++ (c2 ++ c3) := by rw [← List.append_assoc, ← List.append_assoc, ← e3, ← e]
            obtain ⟨a1, a2⟩ := List.append_inj e5 (by rw [hk, hl])
            obtain ⟨a3, a4⟩ := List.append_inj a2 (by rw [hk2, hc2])
            exact ⟨a1, a3, a4⟩
          obtain ⟨rfl, rfl, rfl⟩ := e4
          subst e2
          refine ⟨k1 ++ d1, d2, d3 ++ k3, by rw [e]; simp, by rw [List.length_append, hl, hd]; rfl, hd2, ?_⟩
          have : k1 ++ d1 ++ vc ++ (d3 ++ k3) = k1 ++ (d1 ++ vc ++ d3) ++ k3 := by simp
          rw [this]
          exact h4
        · cases hg
      · cases hg
    · cases hg
  | .x j sz :: p, t, cs, x, orc, orc', y, ob, h, hg, hob => by
    cases t with
    | arr n u =>
      cases orc with
      | nil => simp [setP] at hg
      | cons v orc =>
        simp only [setP] at hg
        split at hg
        · rename_i y0 hs hv
          split at hg
          · rename_i y1 o ob' hp
            cases hg
            obtain ⟨h0, h1, h2⟩ := at?_some hob.1
            obtain ⟨c1, c2, c3, rfl, hl, h3, hset⟩ := repL_set h.2 h2
            obtain ⟨d1, d2, d3, rfl, hd, hd2, h4⟩ := setP_rep hz p u h3 hp hob.2
            refine ⟨c1 ++ d1, d2, d3 ++ c3, by simp, by rw [List.length_append, hl, hd, ← Nat.eq_of_beq_eq_true hs]; rfl, hd2, ?_, ?_⟩
            · exact (List.length_set (as := (show List u.el from x)) (i := j.toNat) (a := y1)).trans h.1
            · have := hset _ _ h4
              simpa using this
          · cases hg
        · cases hg
    | _ => simp [setP] at hg
/-- Is there an array in it? -/
def hasArr : Ty → Bool
  | .arr _ _ => true
  | .pair a b => hasArr a || hasArr b
  | _ => false

/-- The same, and the zero has the form of a value of the shape. -/
def formOf (z : Value) (u : Ty) : Bool :=
  match z with
  | .agg _ => u.agg
  | _ => !u.agg
def zeroV (P : Program) (t : TypeId) : Option Ty :=
  match zeroOf P t, P.info? t with
  | some u, some i => match i.zero with
    | some z => bif formOf z u then some u else none
    | none => none
  | _, _ => none
theorem zeroV_facts {P : Program} {t : TypeId} {u : Ty} (h : zeroV P t = some u) : ∃ z, ty P t = some u ∧ (∀ w, (zeroValue t).run P w = .ok z w) ∧ ∀ w M, repV w M z u (zeroEl u) := by
  unfold zeroV at h
  split at h
  · rename_i u' i hu hi
    split at h
    · rename_i z hz
      cases hf : formOf z u' <;> rw [hf] at h <;> cases h
      obtain ⟨i', z', hty, hi', _, hz', hr⟩ := zeroOf_facts hu
      have e1 : i' = i := by rw [hi] at hi'; cases hi'; rfl
      subst e1
      have e2 : z' = z := by rw [hz] at hz'; cases hz'; rfl
      subst e2
      refine ⟨z', hty, fun w => by simp [zeroValue, typeInfo, hi, hz], fun w M => ?_⟩
      have h1 := hr w M
      cases hag : u.agg with
      | true =>
        cases z' <;> simp only [formOf, hag, Bool.not_true, Bool.false_eq_true] at hf
        rename_i cs
        exact (repV_agg hag).2 ⟨cs.toList, by simp, h1⟩
      | false =>
        refine (repV_plain hag).2 ?_
        cases z' <;> first | exact h1 | (simp [formOf, hag] at hf)
    · cases h
  · cases h

def mget {α β : Type} (eq : α → α → Bool) : List (α × β) → α → Option β
  | [], _ => none
  | p :: ps, k => if eq k p.1 then some p.2 else mget eq ps k
def mset {α β : Type} (eq : α → α → Bool) : List (α × β) → α → β → List (α × β)
  | [], k, v => [(k, v)]
  | p :: ps, k, v => if eq k p.1 then (k, v) :: ps else p :: mset eq ps k v

theorem eqL_eq {α : Type} {f : α → α → Bool} (h : ∀ x y, f x y = true → x = y) : ∀ {xs ys : List α}, eqL f xs ys = true → xs = ys
  | [], [], _ => rfl
  | [], _ :: _, hh => by cases hh
  | _ :: _, [], hh => by cases hh
  | x :: xs, y :: ys, hh => by
    simp only [eqL, Bool.and_eq_true] at hh
    rw [h x y hh.1, eqL_eq h hh.2]
theorem eqEl_eq : ∀ (t : Ty) {x y : t.el}, eqEl t x y = true → x = y := by
  intro t
  induction t with
  | int k => intro x y h; exact eq_of_beq (α := Int) h
  | bool => intro x y h; exact eq_of_beq (α := Bool) h
  | str => intro x y h; exact eq_of_beq (α := List UInt8) h
  | unit => intro x y _; rfl
  | pair a b iha ihb =>
    intro x y h
    simp only [eqEl, Bool.and_eq_true] at h
    exact Prod.ext (iha h.1) (ihb h.2)
  | arr n t ih => intro x y h; exact eqL_eq (fun _ _ => ih) h
  | sl t _ => intro x y h; cases h
  | ptr t _ => intro x y h; cases h
  | fn f t _ => intro x y h; cases h
  | err => intro x y h; cases h
  | map k v _ _ => intro x y h; cases h

theorem fields_parts {d : Nat} : ∀ (fs : List Field) (off : Nat) (u : Ty), fieldsOf (tyOf P d) off fs = some u → ∀ (pre c : List Value) (x : u.el), pre.length = off → rep w M u c x →
    ∀ f ∈ fs, ∃ (a : Value) (uf : Ty) (xf : uf.el), tyOf P d f.type = some uf ∧ (∀ w2, (part f.type (pre ++ c).toArray f.offset).run P w2 = .ok a w2) ∧ repV w M a uf xf
  | [], off, u, h, pre, c, x, _, _, f, hf => by cases hf
  | fd :: fs, off, u, h, pre, c, x, h1, hc, f, hf => by
    unfold fieldsOf at h
    cases hb : Nat.beq fd.offset off with
    | false => rw [hb] at h; cases h
    | true =>
      have hoff := Nat.eq_of_beq_eq_true hb
      rw [hb, cond_true] at h
      split at h
      · rename_i a ha
        split at h
        · rename_i b hfs
          cases h
          obtain ⟨c1, c2, rfl, r1, r2⟩ := hc
          rcases List.mem_cons.1 hf with rfl | hf
          · obtain ⟨v, e1, e2⟩ := part_all (P := P) ha (pre := pre) (post := c2) r1
            refine ⟨v, a, x.1, ha, fun w2 => ?_, e2⟩
            have := e1 w2
            rw [List.append_assoc, h1, ← hoff] at this
            exact this
          · have := fields_parts fs (off + a.cells) b hfs (pre ++ c1) c2 x.2 (by rw [List.length_append, h1, rep_length a r1]) r2 f hf
            rw [List.append_assoc] at this
            exact this
        · cases h
      · cases h
theorem items_parts {d : Nat} {e : TypeId} {u : Ty} (ht : tyOf P d e = some u) {c : List Value} {xs : List u.el} (hc : repL (rep w M u) c xs) (j : Nat) (hj : j < xs.length) :
    ∃ (a : Value) (x : u.el), (∀ w2, (part e c.toArray (j * u.cells)).run P w2 = .ok a w2) ∧ repV w M a u x := by
  obtain ⟨c1, c2, c3, rfl, hl, hr⟩ := repL_nth hc (List.getElem?_eq_getElem hj)
  obtain ⟨v, e1, e2⟩ := part_all (P := P) ht (pre := c1) (post := c3) hr
  exact ⟨v, _, fun w2 => by have := e1 w2; rw [hl] at this; exact this, e2⟩

theorem checkKey_sound (em : Bool) : ∀ (d : Nat) (t : TypeId) (u : Ty), tyOf P d t = some u → ∀ d', eqOK P d' t = true → ∀ D, d' ≤ D → ∀ (w w2 : World) (M : Nat → Prop) (v : Value) (x : u.el), repV w M v u x → (Instr.checkKey em D t v).run P w2 = .ok () w2
  | 0, _, _, h => by cases h
  | d + 1, t, u, h => by
    intro d' hok D hD w w2 M v x hx
    cases d' with
    | zero => cases hok
    | succ d' =>
      obtain ⟨D, rfl⟩ : ∃ k, D = k + 1 := ⟨D - 1, by omega⟩
      have h0 := h
      unfold eqOK at hok
      unfold tyOf at h
      rw [Instr.checkKey]
      split at h
      · rename_i i k hi hu
        cases hb : Nat.beq i.size 1 <;> rw [hb] at h <;> cases h
        obtain rfl := repV_int.1 hx
        simp [run_underlying hu]
      · rename_i i hi hu
        cases hb : Nat.beq i.size 1 <;> rw [hb] at h <;> cases h
        obtain rfl := repV_bool.1 hx
        simp [run_underlying hu]
      · rename_i i hi hu
        cases hb : Nat.beq i.size 1 <;> rw [hb] at h <;> cases h
        obtain ⟨rfl, _⟩ := repV_str.1 hx
        simp [run_underlying hu]
      · rename_i i e hi hu
        rw [hu] at hok
        cases hok
      · rename_i i fs hi hu
        rw [hu] at hok
        simp only [Bool.and_eq_true, Bool.not_eq_true'] at hok
        split at h
        · rename_i v0 hv0
          cases hb : Nat.beq i.size v0.cells <;> rw [hb] at h <;> cases h
          have hag := fieldsOf_agg hv0
          obtain ⟨c, rfl, hc⟩ := (repV_agg hag).1 hx
          simp only [Sem.run_bind, run_underlying hu, Result.andThen_ok]
          rw [← Array.forIn_toList]
          have each : ∀ f ∈ fs.toList, ∃ a, f.name ≠ "_" ∧ (∀ w2, (part f.type c.toArray f.offset).run P w2 = .ok a w2) ∧ (Instr.checkKey em D f.type a).run P w2 = .ok () w2 := by
            intro f hf
            obtain ⟨a, uf, xf, h1, h2, h3⟩ := fields_parts fs.toList 0 u hv0 [] c x rfl hc f hf
            have h4 := List.all_eq_true.1 hok.2 f hf
            simp only [Bool.and_eq_true, bne_iff_ne, ne_eq] at h4
            exact ⟨a, h4.1, fun w2 => by have := h2 w2; simpa using this, checkKey_sound em d f.type uf h1 d' h4.2 D (by omega) w w2 M a xf h3⟩
          generalize fs.toList = L at each
          induction L with
          | nil => simp
          | cons f L ih =>
            obtain ⟨a, hn, p1, p2⟩ := each f List.mem_cons_self
            simp only [List.forIn_cons, Sem.run_bind, hn, ne_eq, not_false_eq_true, if_true, Result.andThen_ok, p1, p2, Sem.run_pure]
            exact ih fun y hy => each y (List.mem_cons_of_mem _ hy)
        · cases h
      · rename_i i ms hi hu
        rw [hu] at hok
        cases hok
      · rename_i i n e hi hu
        rw [hu] at hok
        split at h
        · rename_i v0 hv0
          cases hb : Nat.beq i.size (n * v0.cells) <;> rw [hb] at h <;> cases h
          obtain ⟨c, rfl, hc1, hc2⟩ := (repV_agg (t := .arr n v0) rfl).1 hx
          simp only [Sem.run_bind, run_underlying hu, Result.andThen_ok]
          simp only [Std.Legacy.Range.forIn_eq_forIn_range', Std.Legacy.Range.size, Nat.sub_zero, Nat.add_one_sub_one, Nat.div_one]
          have each : ∀ j ∈ List.range' 0 n, ∃ a, (∀ w2, (part e c.toArray (j * v0.cells)).run P w2 = .ok a w2) ∧ (Instr.checkKey em D e a).run P w2 = .ok () w2 := by
            intro j hj
            have hj' : j < n := by simpa using hj
            obtain ⟨a, y, h1, h2⟩ := items_parts hv0 hc2 j (by rw [hc1]; exact hj')
            exact ⟨a, h1, checkKey_sound em d e v0 hv0 d' hok D (by omega) w w2 M a y h2⟩
          generalize List.range' 0 n = L at each
          induction L with
          | nil => simp
          | cons j L ih =>
            obtain ⟨a, p1, p2⟩ := each j List.mem_cons_self
            simp only [List.forIn_cons, Sem.run_bind, ty_sizeOf hv0, Result.andThen_ok, p1, p2, Sem.run_pure]
            exact ih fun y hy => each y (List.mem_cons_of_mem _ hy)
        · cases h
      · rename_i i k e hi hu
        rw [hu] at hok
        cases hok
      · cases h

/-- The first entry at a key: its place, its value. -/
def fkx {α β : Type} (eq : α → α → Bool) (key : α) : List MapEntry → List (α × β) → Nat → Option (Nat × Value)
  | e :: es, p :: ps, i => if eq key p.1 then some (i, e.val) else fkx eq key es ps (i + 1)
  | _, _, _ => none

theorem findAsking_sound {d d' : Nat} {kt : TypeId} {u : Ty} {β : Type} {fv : Value → β → Prop} (ht : tyOf P d kt = some u) (hok : eqOK P d' kt = true) (hd : d' ≤ 10000) {kv : Value} {key : u.el} (hk : repV w M kv u key) (w2 : World) :
    ∀ (es : List MapEntry) (ps : List (u.el × β)) (i : Nat), repM (repV' w' M' u) fv es ps → (Instr.findAsking kt kv es i).run P w2 = .ok (fkx (eqEl u) key es ps i) w2
  | [], [], i, _ => by simp [Instr.findAsking, fkx]
  | [], _ :: _, _, h => h.elim
  | _ :: _, [], _, h => h.elim
  | e :: es, p :: ps, i, ⟨h1, _, h3⟩ => by
    have he : (Op.equal kt kv e.key).run P w2 = .ok (eqEl u key p.1) w2 := eq_sound d kt u ht d' hok 10000 hd w w' w2 M M' kv e.key key p.1 hk h1
    rw [Instr.findAsking, Sem.run_bind, he]
    simp only [Result.andThen_ok, fkx]
    cases hb : eqEl u key p.1 with
    | true => simp
    | false => simp only [Bool.false_eq_true, if_false]; exact findAsking_sound ht hok hd hk w2 es ps (i + 1) h3
theorem findNow_sound {kd : TypeDesc} {u : Ty} {β : Type} {fv : Value → β → Prop} {kv : Value} {key : u.el} (hsame : ∀ (e : Value) (x : u.el), repV w' M' e u x → Instr.sameNow kd kv e = some (eqEl u key x)) :
    ∀ (es : List MapEntry) (ps : List (u.el × β)) (i : Nat), repM (repV' w' M' u) fv es ps → Instr.findNow kd kv es i = some (fkx (eqEl u) key es ps i)
  | [], [], i, _ => rfl
  | [], _ :: _, _, h => h.elim
  | _ :: _, [], _, h => h.elim
  | e :: es, p :: ps, i, ⟨h1, _, h3⟩ => by
    rw [Instr.findNow, hsame e.key p.1 h1, fkx]
    cases hb : eqEl u key p.1 with
    | true => simp
    | false => simp only [Bool.false_eq_true, if_false]; exact findNow_sound hsame es ps (i + 1) h3

theorem str_same (a b : List UInt8) : ((⟨a.toArray⟩ : ByteArray) == ⟨b.toArray⟩) = eqStr a b := by
  unfold eqStr
  rw [Bool.eq_iff_iff, MapKept.bytes_beq, beq_iff_eq]
  constructor
  · intro e
    have := congrArg (fun b : ByteArray => b.data.toList) e
    simpa using this
  · intro e; rw [e]
theorem findKey_sound {d d' : Nat} {kt : TypeId} {u : Ty} {β : Type} {fv : Value → β → Prop} (ht : tyOf P d kt = some u) (hok : eqOK P d' kt = true) (hd : d' ≤ 10000) {kv : Value} {key : u.el} (hk : repV w M kv u key) (w2 : World)
    {es : List MapEntry} {ps : List (u.el × β)} (h : repM (repV' w' M' u) fv es ps) : (Instr.findKey kt kv es).run P w2 = .ok (fkx (eqEl u) key es ps 0) w2 := by
  have ask := findAsking_sound ht hok hd hk w2 es ps 0 h
  have now : ∀ kd, P.underlying kt = some kd → (∀ (e : Value) (x : u.el), repV w' M' e u x → Instr.sameNow kd kv e = some (eqEl u key x)) → (Instr.findKey kt kv es).run P w2 = .ok (fkx (eqEl u) key es ps 0) w2 := by
    intro kd hu hs
    exact MapKept.run_findKey hu (findNow_sound hs es ps 0 h)
  obtain ⟨i, hi, hsz, hf⟩ := tyOf_facts ht
  cases u with
  | int k =>
    obtain rfl := repV_int.1 hk
    exact now _ hf fun e x hx => by obtain rfl := repV_int.1 hx; simp [Instr.sameNow, eqEl, eqInt]
  | bool =>
    obtain rfl := repV_bool.1 hk
    exact now _ hf fun e x hx => by obtain rfl := repV_bool.1 hx; simp [Instr.sameNow, eqEl, eqBool]
  | str =>
    obtain ⟨rfl, _⟩ := repV_str.1 hk
    refine now _ hf fun e x hx => ?_
    obtain ⟨rfl, _⟩ := repV_str.1 hx
    exact congrArg some (str_same key x)
  | unit => obtain ⟨fs, d2, hu, _⟩ := hf; rw [run_findKey_eq w2 (by rw [hu]) kv es]; exact ask
  | pair a b => obtain ⟨fs, d2, hu, _⟩ := hf; rw [run_findKey_eq w2 (by rw [hu]) kv es]; exact ask
  | arr n t => obtain ⟨e, d2, hu, _⟩ := hf; rw [run_findKey_eq w2 (by rw [hu]) kv es]; exact ask
  | sl t => obtain ⟨e, d2, hu, _⟩ := hf; cases d' <;> simp [eqOK, hu] at hok
  | err => obtain ⟨ms, hu⟩ := hf; cases d' <;> simp [eqOK, hu] at hok
  | map a b => obtain ⟨k, e, d2, hu, _⟩ := hf; cases d' <;> simp [eqOK, hu] at hok
  | ptr t => exact hf.elim
  | fn f t => exact hf.elim

theorem fkx_get {α β : Type} {eq : α → α → Bool} {key : α} {fk : Value → α → Prop} {fv : Value → β → Prop} : ∀ (es : List MapEntry) (ps : List (α × β)) (i : Nat), repM fk fv es ps →
    (fkx eq key es ps i = none ∧ mget eq ps key = none) ∨ ∃ n e y, fkx eq key es ps i = some (i + n, e.val) ∧ es[n]? = some e ∧ mget eq ps key = some y ∧ fv e.val y
  | [], [], i, _ => .inl ⟨rfl, rfl⟩
  | [], _ :: _, _, h => h.elim
  | _ :: _, [], _, h => h.elim
  | e :: es, p :: ps, i, ⟨h1, h2, h3⟩ => by
    unfold fkx mget
    cases hb : eq key p.1 with
    | true => exact .inr ⟨0, e, p.2, by simp, rfl, by simp, h2⟩
    | false =>
      simp only [Bool.false_eq_true, if_false]
      rcases fkx_get es ps (i + 1) h3 with h | ⟨n, e', y, e1, e2, e3, e4⟩
      · exact .inl h
      · exact .inr ⟨n + 1, e', y, by rw [e1]; congr 2; omega, by simpa using e2, e3, e4⟩

theorem fkx_set {α β : Type} {eq : α → α → Bool} {key : α} {fk : Value → α → Prop} {fv : Value → β → Prop} {kv vv : Value} {val : β} (hkey : fk kv key) (hval : fv vv val) : ∀ (es : List MapEntry) (ps : List (α × β)) (i : Nat), repM fk fv es ps →
    (fkx eq key es ps i = none ∧ mset eq ps key val = ps ++ [(key, val)]) ∨ ∃ n e p, fkx eq key es ps i = some (i + n, e.val) ∧ es[n]? = some e ∧ fk e.key p ∧ eq key p = true ∧
      repM fk fv (es.modify n fun e => { e with key := kv, val := vv }) (mset eq ps key val)
  | [], [], i, _ => .inl ⟨rfl, rfl⟩
  | [], _ :: _, _, h => h.elim
  | _ :: _, [], _, h => h.elim
  | e :: es, p :: ps, i, ⟨h1, h2, h3⟩ => by
    unfold fkx mset
    cases hb : eq key p.1 with
    | true => exact .inr ⟨0, e, p.1, by simp, rfl, h1, hb, by simp only [if_true]; exact ⟨hkey, hval, h3⟩⟩
    | false =>
      simp only [Bool.false_eq_true, if_false]
      rcases fkx_set hkey hval es ps (i + 1) h3 with ⟨h4, h5⟩ | ⟨n, e', q, e1, e2, e3, e4, e5⟩
      · exact .inl ⟨h4, by rw [h5]; rfl⟩
      · exact .inr ⟨n + 1, e', q, by rw [e1]; congr 2; omega, by simpa using e2, e3, e4, ⟨h1, h2, e5⟩⟩
theorem modify_born (kv vv : Value) : ∀ (es : List MapEntry) (n : Nat), (es.modify n fun e => { e with key := kv, val := vv }).map (·.born) = es.map (·.born)
  | [], n => by cases n <;> rfl
  | e :: es, 0 => rfl
  | e :: es, n + 1 => by
    have := modify_born kv vv es n
    simp only [List.modify_succ_cons, List.map_cons, this]
theorem repM_app {α β : Type} {fk : Value → α → Prop} {fv : Value → β → Prop} : ∀ {es es' : List MapEntry} {ps ps' : List (α × β)}, repM fk fv es ps → repM fk fv es' ps' → repM fk fv (es ++ es') (ps ++ ps')
  | [], _, [], _, _, h => h
  | [], _, _ :: _, _, h, _ => h.elim
  | _ :: _, _, [], _, h, _ => h.elim
  | _ :: _, _, _ :: _, _, ⟨h1, h2, h3⟩, h => ⟨h1, h2, repM_app h3 h⟩

/-- A cell that no memory hangs on. -/
def plainCell : Value → Bool
  | .bool _ => true
  | .int _ _ => true
  | .string _ => true
  | _ => false
theorem repL_all {α : Type} {f : List Value → α → Prop} {p : Value → Bool} (h : ∀ c x, f c x → ∀ u ∈ c, p u = true) : ∀ {xs : List α} {cs : List Value}, repL f cs xs → ∀ u ∈ cs, p u = true
  | [], _, hh, u, hu => by cases hh; cases hu
  | _ :: _, _, ⟨c1, c2, e, h1, h2⟩, u, hu => by
    subst e
    rcases List.mem_append.1 hu with hu | hu
    · exact h _ _ h1 u hu
    · exact repL_all h h2 u hu
theorem flat_cells : ∀ (t : Ty) {cs : List Value} {x : t.el}, t.flat = true → rep w M t cs x → ∀ u ∈ cs, plainCell u = true := by
  intro t
  induction t with
  | int k => intro cs x _ h u hu; cases h; simp at hu; subst hu; rfl
  | bool => intro cs x _ h u hu; cases h; simp at hu; subst hu; rfl
  | str => intro cs x _ h u hu; cases h.1; simp at hu; subst hu; rfl
  | unit => intro cs x _ h u hu; cases h; simp at hu
  | pair a b iha ihb =>
    rintro cs x hf ⟨c1, c2, rfl, h1, h2⟩ u hu
    simp only [Ty.flat, Bool.and_eq_true] at hf
    rcases List.mem_append.1 hu with hu | hu
    · exact iha hf.1 h1 u hu
    · exact ihb hf.2 h2 u hu
  | arr n t ih => intro cs x hf h u hu; exact repL_all (fun _ _ hh => ih hf hh) h.2 u hu
  | sl t _ => intro cs x hf; simp [Ty.flat] at hf
  | ptr t _ => intro cs x hf; simp [Ty.flat] at hf
  | fn f t _ => intro cs x hf; simp [Ty.flat] at hf
  | err => intro cs x hf; simp [Ty.flat] at hf
  | map k v _ _ => intro cs x hf; simp [Ty.flat] at hf
theorem plain_same {u : Value} (h : plainCell u = true) (n : Nat) : Instr.sameBits n u u = true := by
  cases u <;> first | (simp [plainCell] at h; done) | simp [Instr.sameBits, MapKept.bytes_beq]
theorem zip_self (n : Nat) : ∀ (l : List Value), (∀ u ∈ l, plainCell u = true) → ((l.zip l).all fun (x, y) => Instr.sameBits n x y) = true
  | [], _ => rfl
  | u :: l, h => by
    rw [List.zip_cons_cons, List.all_cons, Bool.and_eq_true]
    exact ⟨plain_same (h u List.mem_cons_self) n, zip_self n l fun x hx => h x (List.mem_cons_of_mem _ hx)⟩
theorem flat_same {t : Ty} {v : Value} {x : t.el} (hf : t.flat = true) (h : repV w M v t x) : Instr.sameBits 10000 v v = true := by
  cases hag : t.agg with
  | true =>
    obtain ⟨cs, rfl, hc⟩ := (repV_agg hag).1 h
    rw [Instr.sameBits]
    simp only [beq_self_eq_true, Bool.true_and]
    exact zip_self 9999 cs (flat_cells t hf hc)
  | false =>
    exact plain_same (flat_cells t hf ((repV_plain hag).1 h) v (by simp)) _

theorem lookup_val {mt kt et : TypeId} {d d' : Nat} {u v : Ty} (hm : P.underlying mt = some (.map kt et)) (ht : tyOf P d kt = some u) (hok : eqOK P d' kt = true) (hd : d' ≤ 10000)
    {z : Value} (hz : ∀ w, (zeroValue et).run P w = .ok z w) (hzr : ∀ w M, repV w M z v (zeroEl v)) {kv : Value} {key : u.el} (hk : repV w M kv u key) {es : Array MapEntry} {ps : List (u.el × v.el)}
    (hr : repM (repV' w' M' u) (repV' w' M' v) es.toList ps) :
    ∃ r, repV w' M' r v ((mget (eqEl u) ps key).getD (zeroEl v)) ∧ ∀ (w2 : World) (x : Value), ((x = .map none ∧ es = #[]) ∨ ∃ g clock, x = .map (some g) ∧ w2.heap[g]? = some (.map es clock)) →
      ∀ ok, (Instr.lookup mt x kv ok).run P w2 = .ok (if ok then .tuple #[r, .bool (mget (eqEl u) ps key).isSome] else r) w2 := by
  have hf := fun w2 => findKey_sound ht hok hd hk w2 hr
  have hc := fun em w2 => checkKey_sound (P := P) em d kt u ht d' hok 10000 hd w w2 M kv key hk
  have run : ∀ (r : Value) (w2 : World) (x : Value), ((x = .map none ∧ es = #[]) ∨ ∃ g clock, x = .map (some g) ∧ w2.heap[g]? = some (.map es clock)) →
      ((fkx (eqEl u) key es.toList ps 0 = none ∧ mget (eqEl u) ps key = none ∧ r = z) ∨ ∃ n y, fkx (eqEl u) key es.toList ps 0 = some (n, r) ∧ mget (eqEl u) ps key = some y) →
      ∀ ok, (Instr.lookup mt x kv ok).run P w2 = .ok (if ok then .tuple #[r, .bool (mget (eqEl u) ps key).isSome] else r) w2 := by
    intro r w2 x hx hres ok
    have hf2 := hf w2
    rcases hx with ⟨rfl, rfl⟩ | ⟨g, clock, rfl, hg⟩
    · have hc2 := hc true w2
      rcases hres with ⟨e1, e2, rfl⟩ | ⟨n, y, e1, e2⟩
      · rw [e1] at hf2
        unfold Instr.lookup
        simp only [Sem.run_bind, run_underlying hm, Result.andThen_ok, Sem.run_pure, show (#[] : Array MapEntry).isEmpty = true from rfl, hc2, hf2, hz, e2]
        cases ok <;> simp
      · simp [fkx] at e1
    · have hc2 := hc es.isEmpty w2
      have hobj : (getObj g).run P w2 = .ok (.map es clock) w2 := by simp [getObj, Sem.run, hg]
      rcases hres with ⟨e1, e2, rfl⟩ | ⟨n, y, e1, e2⟩
      · rw [e1] at hf2
        unfold Instr.lookup
        simp only [Sem.run_bind, run_underlying hm, Result.andThen_ok, hobj, Sem.run_pure, hc2, hf2, hz, e2]
        cases ok <;> simp
      · rw [e1] at hf2
        unfold Instr.lookup
        simp only [Sem.run_bind, run_underlying hm, Result.andThen_ok, hobj, Sem.run_pure, hc2, hf2, e2]
        cases ok <;> simp
  rcases fkx_get (eq := eqEl u) (key := key) es.toList ps 0 hr with ⟨e1, e2⟩ | ⟨n, e, y, e1, e2, e3, e4⟩
  · exact ⟨z, by rw [e2]; exact hzr _ _, fun w2 x hx => run z w2 x hx (.inl ⟨e1, e2, rfl⟩)⟩
  · exact ⟨e.val, by rw [e3]; exact e4, fun w2 x hx => run e.val w2 x hx (.inr ⟨_, y, e1, e3⟩)⟩

theorem run_mapUpdate {mt kt et : TypeId} {d d' : Nat} {u v : Ty} (hm : P.underlying mt = some (.map kt et)) (ht : tyOf P d kt = some u) (hok : eqOK P d' kt = true) (hd : d' ≤ 10000) (hfl : u.flat = true)
    {kv vv : Value} {key : u.el} {val : v.el} (hk : repV w M kv u key) (hv : repV w M vv v val) {g : Nat} {es : Array MapEntry} {clock : Nat} {ps : List (u.el × v.el)}
    (hg : w.heap[g]? = some (.map es clock)) (hb : ∀ e ∈ es.toList, e.born < clock) (hn : (es.toList.map (·.born)).Nodup) (hr : repM (repV' w M u) (repV' w M v) es.toList ps) :
    ∃ (es' : Array MapEntry) (clock' : Nat), (Instr.mapUpdate mt (.map (some g)) kv vv).run P w = .ok () { w with heap := w.heap.setIfInBounds g (.map es' clock') } ∧
      (∀ e ∈ es'.toList, e.born < clock') ∧ (es'.toList.map (·.born)).Nodup ∧ repM (repV' w M u) (repV' w M v) es'.toList (mset (eqEl u) ps key val) := by
  have hc := checkKey_sound (P := P) false d kt u ht d' hok 10000 hd w w M kv key hk
  have hf := findKey_sound ht hok hd hk w hr
  have hobj : (getObj g).run P w = .ok (.map es clock) w := by simp [getObj, Sem.run, hg]
  have hset : ∀ o, (setObj g o).run P w = .ok () { w with heap := w.heap.setIfInBounds g o } := fun o => by simp [setObj, Sem.run, hg]
  rcases fkx_set (kv := kv) (vv := vv) (val := val) (eq := eqEl u) (key := key) hk hv es.toList ps 0 hr with ⟨e1, e2⟩ | ⟨n, e, q, e1, e2, e3, e4, e5⟩
  · rw [e1] at hf
    refine ⟨es.push { key := kv, val := vv, born := clock }, clock + 1, ?_, ?_, ?_, ?_⟩
    · unfold Instr.mapUpdate
      simp only [Sem.run_bind, run_underlying hm, Result.andThen_ok, hobj, hc, hf, hset]
    · intro e he
      rw [Array.toList_push] at he
      rcases List.mem_append.1 he with he | he
      · exact Nat.lt_succ_of_lt (hb e he)
      · simp at he; subst he; exact Nat.lt_succ_self _
    · rw [Array.toList_push, List.map_append, List.nodup_append]
      refine ⟨hn, by simp, ?_⟩
      intro a ha b hb' hab
      simp at hb'
      obtain ⟨e, he, rfl⟩ := List.mem_map.1 ha
      have := hb e he
      omega
    · rw [Array.toList_push, e2]
      exact repM_app hr ⟨hk, hv, trivial⟩
  · rw [e1, Nat.zero_add] at hf
    have heq : key = q := eqEl_eq u e4
    subst heq
    have hkk : e.key = kv := flat_detV hfl e3 hk
    have hold : ((es[n]?).map (·.key)).getD kv = kv := by
      have : es[n]? = some e := by rw [← Array.getElem?_toList]; exact e2
      rw [this]; simp [hkk]
    have hst : ∀ w2, (Instr.keyThatStays kv kv).run P w2 = .ok kv w2 := fun w2 => by
      unfold Instr.keyThatStays
      rw [if_pos (flat_same hfl hk)]
      rfl
    have hlist : (es.modify n fun e => { e with key := kv, val := vv }).toList = es.toList.modify n fun e => { e with key := kv, val := vv } := by simp
    refine ⟨es.modify n fun e => { e with key := kv, val := vv }, clock, ?_, ?_, ?_, ?_⟩
    · unfold Instr.mapUpdate
      simp only [Sem.run_bind, run_underlying hm, Result.andThen_ok, hobj, hc, hf, hold, hst, hset]
    · intro x hx
      rw [hlist] at hx
      have h1 : x.born ∈ (es.toList.modify n fun e => { e with key := kv, val := vv }).map (·.born) := List.mem_map.2 ⟨x, hx, rfl⟩
      rw [modify_born] at h1
      obtain ⟨y, hy, e⟩ := List.mem_map.1 h1
      rw [← e]; exact hb y hy
    · rw [hlist, modify_born]; exact hn
    · rw [hlist]; exact e5

end Go.Ev
