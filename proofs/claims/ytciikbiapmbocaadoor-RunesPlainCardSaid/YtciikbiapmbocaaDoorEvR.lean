/- A function as a whole: how it begins, how it ends, what is then known of it. -/
import Derived.Test.YtciikbiapmbocaaDoorEvQ
namespace Go.Ev
open Go Go.RowKit
variable {cx : Cx} {m : Nat → Value} {st st' : St} {T : Array Value} {w w' : World} {E : Env} {Q : Post}

/-- A plain value as what is known of a slot. -/
def tvSV : TV → SV
  | ⟨.ptr t, x⟩ => .vptr t x
  | ⟨t, x⟩ => .val t x
theorem tvSV_rep {M : Nat → Prop} {m : Nat → Value} {v : Value} {u : TV} (h : repV w M v u.t u.x) : repS w M m v (tvSV u) := by
  obtain ⟨t, x⟩ := u
  cases t with
  | ptr t =>
    obtain ⟨a, cells, e, r⟩ := (repV_plain (t := .ptr t) rfl).1 h
    simp only [List.cons.injEq, and_true] at e
    exact ⟨a, cells, e, r⟩
  | _ => exact h
def argSl : Nat → List TV → List (Nat × SV)
  | _, [] => []
  | k, u :: us => (k, tvSV u) :: argSl (k + 1) us

theorem repVs_len {M : Nat → Prop} : ∀ {vs : List Value} {l : List TV}, repVs w M vs l → vs.length = l.length
  | [], [], _ => rfl
  | [], _ :: _, h => h.elim
  | _ :: _, [], h => h.elim
  | _ :: _, _ :: _, ⟨_, h⟩ => by simp [repVs_len h]

theorem argSl_slots {M : Nat → Prop} {m : Nat → Value} : ∀ {vs : List Value} {as : List TV} (k : Nat) {T : Array Value}, repVs w M vs as → (∀ i v, vs[i]? = some v → T[k + i]? = some v) →
    ∀ i sv, (i, sv) ∈ argSl k as → ∃ v, T[i]? = some v ∧ repS w M m v sv
  | [], [], k, T, _, _, i, sv, hi => by simp [argSl] at hi
  | [], _ :: _, _, _, h, _, _, _, _ => h.elim
  | _ :: _, [], _, _, h, _, _, _, _ => h.elim
  | v :: vs, a :: as, k, T, ⟨h1, h2⟩, hT, i, sv, hi => by
    rcases List.mem_cons.1 hi with hi | hi
    · cases hi
      exact ⟨v, by have := hT 0 v rfl; simpa using this, tvSV_rep h1⟩
    · exact argSl_slots (k + 1) h2 (fun j u hj => by have := hT (j + 1) u (by simpa using hj); rw [← this]; congr 1; omega) i sv hi

theorem entry {P : Program} {n : Nat} {M : Nat → Prop} {vs : List Value} {as : List TV} (hM : ∀ b, M b → b < w.heap.size) (hargs : repVs w M vs as) (hn : as.length ≤ n) :
    R ⟨P, n, w, M, fun _ => False, fun _ => undef⟩ ⟨argSl 0 as, [], []⟩ (vs.toArray ++ Array.replicate (n - vs.toArray.size) undef) w := by
  have hl := repVs_len hargs
  refine ⟨fun _ => undef, ?_⟩
  have hmut : ∀ b, Mut ⟨P, n, w, M, fun _ => False, fun _ => undef⟩ (fun _ => undef) (St.ids ⟨argSl 0 as, [], []⟩) b → M b := by
    rintro b (h | ⟨i, hi, _⟩)
    · exact h
    · simp [St.ids] at hi
  refine { size := ?_, frame := Frame.refl _ _, outer := fun b hb => ⟨hM b hb, fun h => h⟩, slots := ?_, boxes := fun b c hb => by simp at hb, rows := fun b c hb => by simp at hb, apart := fun i j hi => by simp [St.ids] at hi, keys := by simp [St.ids], fixed := fun b c hb => by simp at hb }
  · show (vs.toArray ++ Array.replicate (n - vs.toArray.size) undef).size = n
    simp only [Array.size_append, List.size_toArray, Array.size_replicate]
    omega
  · have hs := argSl_slots (m := fun _ => undef) (T := vs.toArray ++ Array.replicate (n - vs.toArray.size) undef) 0 hargs (fun i v hi => by
      rw [Nat.zero_add, Array.getElem?_append_left (by have := (List.getElem?_eq_some_iff.1 hi).1; simpa using this)]
      simpa using hi)
    intro i sv hi
    obtain ⟨v, h1, h2⟩ := hs i sv hi
    exact ⟨v, h1, repS_ext (fun _ _ _ => rfl) (fun b _ hb => hmut b hb) h2⟩

/-- All owned slices given up. -/
def freezeL : List (Nat × RowC) → St → St
  | [], st => st
  | (r, c) :: l, st => freezeL l (match look st.rw r with | some c' => st.freeze r c' | none => st)
def freezeMs : List (Nat × BX) → St → St
  | [], st => st
  | (r, _) :: l, st => freezeMs l (match look st.bx r with | some (.mp k v ps) => st.freezeMp r k v ps | _ => st)
theorem freezeMs_sound : ∀ {l : List (Nat × BX)} {st : St}, Rm cx m st T w → Rm cx m (freezeMs l st) T w
  | [], _, h => h
  | (r, c) :: l, st, h => by
    refine freezeMs_sound (l := l) ?_
    split
    · rename_i k v ps hc; exact h.freezeMp (look_mem hc)
    · exact h
def freezeAll (st : St) : St := freezeMs st.bx (freezeL st.rw st)
theorem freezeL_sound : ∀ {l : List (Nat × RowC)} {st : St}, Rm cx m st T w → Rm cx m (freezeL l st) T w
  | [], _, h => h
  | (r, c) :: l, st, h => by
    refine freezeL_sound (l := l) ?_
    split
    · rename_i c' hc; exact h.freeze (look_mem hc)
    · exact h

def evRes (P : Program) (st : St) : List ResultVar → Option (List TV)
  | [] => some []
  | .tmp t :: l => match look st.sl t, evRes P st l with
    | some (.val u x), some vs => some (⟨u, x⟩ :: vs)
    | _, _ => none
  | .cell a ty' :: l => match look st.sl a, ty P ty', evRes P st l with
    | some (.ptr b off), some u, some vs => match look st.bx b with
      | some (.cells c _) => match pack u (c.drop off) with
        | some (x, _) => some (⟨u, x⟩ :: vs)
        | none => none
      | _ => none
    | some (.bp b []), some u, some vs => match look st.bx b with
      | some (.blk t x _) => match TV.as ⟨t, x⟩ u, Nat.beq u.cells 0 with
        | some y, false => some (⟨u, y⟩ :: vs)
        | _, _ => none
      | _ => none
    | _, _, _ => none

def resOf (T : Array Value) : ResultVar → Sem Value
  | .tmp t => pure (T.getD t undef)
  | .cell a t => do loadVar t (← asAddr (T.getD a undef))

theorem evRes_sound (h : Rm cx m st T w) : ∀ {l : List ResultVar} {rs : List TV}, evRes cx.P st l = some rs →
    ∃ vs, (l.mapM (resOf T)).run cx.P w = .ok vs w ∧ repVs w (Mut cx m st.ids) vs rs
  | [], _, hs => by cases hs; exact ⟨[], by simp, trivial⟩
  | .tmp t :: l, rs, hs => by
    simp only [evRes] at hs
    split at hs
    · rename_i u x vs' hl hr
      cases hs
      obtain ⟨vs, h1, h2⟩ := evRes_sound h hr
      obtain ⟨v, h3, h4⟩ := h.slots t _ (look_mem hl)
      refine ⟨v :: vs, ?_, h4, h2⟩
      have hg : T.getD t undef = v := by rw [Array.getD_eq_getD_getElem?, h3]; rfl
      have h5 : (resOf T (.tmp t)).run cx.P w = .ok v w := by show Sem.run cx.P (pure (T.getD t undef)) w = _; rw [hg, Sem.run_pure]
      rw [List.mapM_cons, Sem.run_bind, h5]
      simp only [Result.andThen_ok, Sem.run_bind, h1, Sem.run_pure]
    · cases hs
  | .cell a t :: l, rs, hs => by
    simp only [evRes] at hs
    split at hs
    · rename_i b off u vs' hl ht hr
      split at hs
      · rename_i c hc
        split at hs
        · rename_i x r hp
          cases hs
          obtain ⟨vs, h1, h2⟩ := evRes_sound h hr
          obtain ⟨v0, h3, g, hg1, hg2⟩ := h.slots a _ (look_mem hl)
          obtain ⟨g', e1, _, cells, e3, e4⟩ := h.boxes b _ (look_mem hc)
          have : g' = g := by rw [hg1] at e1; cases e1; rfl
          subst this
          obtain ⟨_, hd⟩ := repSs_split (w := w) (m := m) off e4
          obtain ⟨c1, c2, hcs, hrep, _⟩ := pack_rep u hd hp
          have hag : u.agg = false → 0 < u.cells := by
            intro hh
            cases u <;> first | (simp [Ty.cells]; done) | (simp [Ty.agg] at hh)
          obtain ⟨v, hv1, hv2⟩ := load_raw (c := c1) ht e3 (fun j v hj => by
            have : (cells.toList.drop off)[j]? = some v := by rw [hcs, List.getElem?_append_left (List.getElem?_eq_some_iff.1 hj).1]; exact hj
            rw [List.getElem?_drop] at this
            simpa using this) (rep_length u hrep) hag
          have hv : repV w (Mut cx m st.ids) v u x := by
            cases hh : u.agg with
            | true => rw [hh, if_pos rfl] at hv2; exact (repV_agg hh).2 ⟨c1, hv2, hrep⟩
            | false => rw [hh] at hv2; simp at hv2; subst hv2; exact (repV_plain hh).2 hrep
          refine ⟨v :: vs, ?_, hv, h2⟩
          have hgd : T.getD a undef = .pointer (some ⟨g', off, none⟩) := by rw [Array.getD_eq_getD_getElem?, h3, hg2]; rfl
          have h5 : (resOf T (.cell a t)).run cx.P w = .ok v w := by
            show Sem.run cx.P (do loadVar t (← asAddr (T.getD a undef))) w = _
            rw [Sem.run_bind, hgd]
            exact hv1 w (Ext.refl w)
          rw [List.mapM_cons, Sem.run_bind, h5]
          simp only [Result.andThen_ok, Sem.run_bind, h1, Sem.run_pure]
        · cases hs
      · cases hs
    · rename_i b u vs' hl ht hr
      split at hs
      · rename_i t' x e hc
        split at hs
        · rename_i y hy hz
          cases hs
          have ey := TV.as_some hy
          cases ey
          obtain ⟨vs, h1, h2⟩ := evRes_sound h hr
          obtain ⟨v0, h3, g, hg1, hg2⟩ := h.slots a _ (look_mem hl)
          obtain ⟨g', e1, _, cells, e3, e4⟩ := h.boxes b _ (look_mem hc)
          have : g' = g := by rw [hg1] at e1; cases e1; rfl
          subst this
          have hpos : 0 < u.cells := Nat.pos_of_ne_zero (beq_false hz)
          obtain ⟨v, hv1, hv2⟩ := load_raw (off := 0) (c := cells.toList) ht e3 (fun j v hj => by rw [Nat.zero_add, ← Array.getElem?_toList]; exact hj) (rep_length u e4) (fun _ => hpos)
          have hv : repV w (Mut cx m st.ids) v u y := by
            cases hag : u.agg with
            | true => rw [hag, if_pos rfl] at hv2; exact (repV_agg hag).2 ⟨_, hv2, e4⟩
            | false => rw [hag] at hv2; simp only [Bool.false_eq_true, if_false] at hv2; rw [hv2] at e4; exact (repV_plain hag).2 e4
          refine ⟨v :: vs, ?_, hv, h2⟩
          have hgd : T.getD a undef = .pointer (some ⟨g', 0, none⟩) := by rw [Array.getD_eq_getD_getElem?, h3, hg2]; rfl
          have h5 : (resOf T (.cell a t)).run cx.P w = .ok v w := by
            show Sem.run cx.P (do loadVar t (← asAddr (T.getD a undef))) w = _
            rw [Sem.run_bind, hgd]
            exact hv1 w (Ext.refl w)
          rw [List.mapM_cons, Sem.run_bind, h5]
          simp only [Result.andThen_ok, Sem.run_bind, h1, Sem.run_pure]
        · cases hs
      · cases hs
    · cases hs

theorem run_results {P : Program} {fn : Func} {T : Array Value} {vs : List Value} (h : (fn.results.toList.mapM (resOf T)).run P w = .ok vs w) :
    (results fn T).run P w = .ok (if h : vs.toArray.size = 1 then vs.toArray[0] else .tuple vs.toArray) w := by
  show Sem.run P (do let vs ← fn.results.mapM (resOf T); pure (if h : vs.size = 1 then vs[0] else .tuple vs)) w = _
  rw [Array.mapM_eq_mapM_toList, Sem.run_bind]
  have e : (Functor.map List.toArray (fn.results.toList.mapM (resOf T))).run P w = .ok vs.toArray w := by
    rw [map_eq_pure_bind, Sem.run_bind, h]
    rfl
  rw [e]
  rfl

/-- What a function's body owes at its end. -/
def Owes (P : Program) (fn : Func) (M : Nat → Prop) (w0 : World) (rs : List TV) : Post :=
  bodyPost P fn fun e w' => ∃ v, e = .returned v ∧ repRes w' M v rs ∧ Ext w0 w'

theorem N_end {P : Program} {n : Nat} {M : Nat → Prop} {w0 : World} {fn : Func} {rs : List TV} {e : Exit} (he : e = .ret ∨ e = .normal) (hev : evRes P (freezeAll st) fn.results.toList = some rs) :
    N ⟨P, n, w0, M, fun _ => False, fun _ => undef⟩ (Owes P fn M w0 rs) e st := by
  rintro T w ⟨m, hm⟩
  have hm' := freezeMs_sound (l := st.bx) (freezeL_sound (l := st.rw) hm)
  obtain ⟨vs, h1, h2⟩ := evRes_sound hm' hev
  have hrun := run_results h1
  have hext : Ext w0 w := { os := hm.frame.os, tape := hm.frame.tape, output := hm.frame.output, size := hm.frame.size, block := fun b hb => hm.frame.block b hb (fun h => h) }
  have h3 : repVs w M vs rs := repVs_ext (fun _ _ _ => rfl) (fun b _ hb => .inl hb) h2
  have hres : repRes w M (if h : vs.toArray.size = 1 then vs.toArray[0] else .tuple vs.toArray) rs := by
    match vs, rs, h3 with
    | [], [], _ => trivial
    | [v], [u], ⟨h, _⟩ => exact h
    | v1 :: v2 :: vs, u1 :: u2 :: us, h =>
      have hne : ¬ (v1 :: v2 :: vs).toArray.size = 1 := by simp
      rw [dif_neg hne]
      exact ⟨_, rfl, h⟩
    | [], _ :: _, h => exact h.elim
    | _ :: _, [], h => exact h.elim
    | [_], _ :: _ :: _, ⟨_, h⟩ => exact h.elim
    | _ :: _ :: _, [_], ⟨_, h⟩ => exact h.elim
  rcases he with rfl | rfl <;> exact ⟨rfl, _, hrun, _, rfl, hres, hext⟩

theorem enters_of {P : Program} {f : FuncId} {fn : Func} {c : Code} (hf : P.funcs[f]? = some fn) (hname : (fn.name == "runtime.NumGoroutine") = false) (hb : fn.body = some c) :
    ∀ args w, (callFunc f args).run P w = .ok (.enter f args) w := by
  intro args w
  have h1 : fn.name ≠ "runtime.NumGoroutine" := by simpa using hname
  simp [callFunc, hf, h1, hb, mark]

/-- A contract, from the body. -/
theorem contract_of {P : Program} {G : World → Prop} (hst : ∀ w w', Frame w w' (fun _ => False) → G w → G w') {f : FuncId} {fn : Func} {c : Code} {F : FnC} (hf : P.funcs[f]? = some fn) (hname : (fn.name == "runtime.NumGoroutine") = false) (hb : fn.body = some c)
    (shape : ∀ as rs, F.rel as rs → as.length ≤ fn.ntmps ∧ rs.length = F.nres ∧ (F.flat = true → ∀ u ∈ rs, u.t.flat = true))
    (body : ∀ (w0 : World) (M : Nat → Prop) (as rs : List TV), (∀ w, Frame w0 w (fun _ => False) → G w) → F.rel as rs → W ⟨P, fn.ntmps, w0, M, fun _ => False, fun _ => undef⟩ (Owes P fn M w0 rs) c ⟨argSl 0 as, [], []⟩) : Contract P G f F where
  enters := enters_of hf hname hb
  shape := fun as rs h => (shape as rs h).2
  calls := fun w M vs as rs hG hM hrel hargs => calls_of_wp hf hb (body w M as rs (fun w' h => hst w w' h hG) hrel _ _ (entry hM hargs (shape as rs hrel).1))

end Go.Ev
