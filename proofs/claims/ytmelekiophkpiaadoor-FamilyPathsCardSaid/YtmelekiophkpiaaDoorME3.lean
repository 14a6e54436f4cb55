/- Calls by contracts; one operation; lists of operations; regions. -/
import Derived.Test.YtmelekiophkpiaaDoorME2
import Derived.Deep.Quiet
import Derived.StillTail
import Derived.Laws.IdiomRangeMap
import Derived.OpenShut
import Derived.WideShapes
namespace Go.Ev
open Go Go.RowKit
variable {cx : Cx} {m : Nat → Value} {st : St} {T : Array Value} {w w' : World}

/-- What a function is known to do: 'rel' of the arguments and the results; 'flat': no memory hangs on its results. -/
structure FnC where
  flat : Bool
  nres : Nat
  caps : List Ty
  rel : List TV → List TV → Prop

def repRes (w : World) (M : Nat → Prop) (v : Value) : List TV → Prop
  | [] => True
  | [u] => repV w M v u.t u.x
  | l => ∃ vs : List Value, v = .tuple vs.toArray ∧ repVs w M vs l

/-- A function does what is known of it: for whatever plain data as its arguments, in whatever memory in which G holds (what package-level variables hold). -/
structure Contract (P : Program) (G : World → Prop) (f : Nat) (F : FnC) : Prop where
  enters : ∀ args w, (callFunc f args).run P w = .ok (.enter f args) w
  shape : ∀ as rs, F.rel as rs → rs.length = F.nres ∧ (F.flat = true → ∀ u ∈ rs, u.t.flat = true)
  calls : ∀ (w : World) (M : Nat → Prop) (vs : List Value) (as rs : List TV), G w → (∀ b, M b → b < w.heap.size) → F.rel as rs → repVs w M vs as →
    Calls P f vs.toArray w fun e w' => ∃ v, e = .returned v ∧ repRes w' M v rs ∧ Ext w w'

structure Env where
  P : Program
  G : World → Prop
  n : Nat
  fns : List (Nat × FnC)

structure EnvOK (E : Env) (cx : Cx) : Prop where
  P : cx.P = E.P
  n : cx.n = E.n
  glob : ∀ w, Frame cx.w0 w cx.X → E.G w
  fns : ∀ f F, (f, F) ∈ E.fns → Contract E.P E.G f F

/-- What a boxed variable holds, as a pointer that is only read through. -/
def boxTV (st : St) (b off : Nat) (u : Ty) : Option TV :=
  match look st.bx b with
  | some (.cells l _) => match pack u ((l.drop off).map (thaw st)) with
    | some (x, _) => some ⟨.ptr u, x⟩
    | none => none
  | _ => none
def capTVs (st : St) : List Nat → List Ty → Option (List TV)
  | [], [] => some []
  | b :: bs, u :: us => match boxTV st b 0 u, capTVs st bs us with
    | some v, some vs => some (v :: vs)
    | _, _ => none
  | _, _ => none
def pairUp : List TV → TV
  | [] => ⟨.unit, ()⟩
  | u :: us => ⟨.pair u.t (pairUp us).t, (u.x, (pairUp us).x)⟩
def unpair : (t : Ty) → t.el → Option (List TV)
  | .unit, _ => some []
  | .pair a b, x => match unpair b x.2 with
    | some l => some (⟨a, x.1⟩ :: l)
    | none => none
  | _, _ => none

/-- An argument: a plain value; where the result is flat: an owned slice, a boxed variable that is only read, a function value whose boxed variables are only read; the nil slice. -/
def argTV (E : Env) (st : St) (flat : Bool) (t : TypeId) (x : Operand) : Option TV :=
  match x with
  | .const (.slice none 0 0) => match elemOf? E.P t with
    | some (_, u) => some ⟨.sl u, []⟩
    | none => none
  | x => match getSV st x with
    | some (.val t y) => some ⟨t, y⟩
    | some (.vptr t y) => some ⟨.ptr t, y⟩
    | some (.row r) => match flat, look st.rw r with
      | true, some c => some ⟨.sl c.t, c.xs⟩
      | _, _ => none
    | some (.iter b) => match flat, look st.bx b with
      | true, some (.mp k v ps) => some ⟨.map k v, some ps⟩
      | _, _ => none
    | some (.ptr b off) => match flat, E.P.underlying t with
      | true, some (.pointer e) => match ty E.P e with
        | some u => boxTV st b off u
        | none => none
      | _, _ => none
    | some (.bp b p) => match flat, look st.bx b with
      | true, some (.blk t' y _) => match getP t' y p [] with
        | some (r, _, []) => some ⟨.ptr r.t, r.x⟩
        | _ => none
      | _, _ => none
    | some (.clos f bs) => match flat, look E.fns f with
      | true, some F => match capTVs st bs F.caps with
        | some l => some ⟨.fn f (pairUp l).t, (pairUp l).x⟩
        | none => none
      | _, _ => none
    | _ => none
def argTVs (E : Env) (st : St) (flat : Bool) : List TypeId → List Operand → Option (List TV)
  | [], [] => some []
  | t :: ts, x :: xs => match argTV E st flat t x, argTVs E st flat ts xs with
    | some v, some vs => some (v :: vs)
    | _, _ => none
  | _, _ => none

def resSV : List TV → SV
  | [] => .any
  | [u] => .val u.t u.x
  | l => .tup l

/-- The function that is called, and what it has captured. -/
def calleeOf (E : Env) (st : St) (x : Operand) : Option (Nat × FnC × List TV) :=
  match getSV st x with
  | some (.clos f bs) => match look E.fns f with
    | some F => match bs with
      | [] => some (f, F, [])
      | bs => match F.flat, capTVs st bs F.caps with
        | true, some l => some (f, F, l)
        | _, _ => none
    | none => none
  | some (.val (.fn f t) y) => match look E.fns f, unpair t y with
    | some F, some l => match l.all (fun u => !u.t.agg) with
      | true => some (f, F, l)
      | false => none
    | _, _ => none
  | _ => none
def evCall (E : Env) (st : St) (c : Call) (orc : List TV) : Option PR :=
  match c.callee with
  | .value x => match calleeOf E st x with
    | some (_, F, l) => match argTVs E st F.flat c.argTypes.toList c.args.toList with
      | some as => bif Nat.ble F.nres orc.length then some ⟨resSV (orc.take F.nres), orc.drop F.nres, [F.rel (as ++ l) (orc.take F.nres)]⟩ else none
      | none => none
    | none => none
  | _ => none

theorem repVs_append {M : Nat → Prop} {v : Value} {u : TV} {vs : List Value} {us : List TV} (h1 : repV w M v u.t u.x) (h2 : repVs w M vs us) : repVs w M (v :: vs) (u :: us) := ⟨h1, h2⟩

theorem repSs_thaw (h : Rm cx m st T w) : ∀ {c : List Value} {l : List SV}, repSs w (Mut cx m st.ids) m c l → repSs w (fun _ => False) m c (l.map (thaw st))
  | [], [], _ => trivial
  | [], _ :: _, h => h.elim
  | _ :: _, [], h => h.elim
  | _ :: _, _ :: _, ⟨h1, h2⟩ => ⟨thaw_sound h h1, repSs_thaw h h2⟩
theorem boxTV_sound (h : Rm cx m st T w) {b off : Nat} {u : Ty} {v : TV} (hb : boxTV st b off u = some v) {x : Value} (hx : ∃ g, m b = .pointer (some ⟨g, 0, none⟩) ∧ x = .pointer (some ⟨g, off, none⟩)) :
    repV w (fun _ => False) x v.t v.x := by
  unfold boxTV at hb
  split at hb
  · rename_i l hl
    split at hb
    · rename_i y r hp
      cases hb
      obtain ⟨g, hg1, rfl⟩ := hx
      obtain ⟨g', e1, _, cells, e3, e4⟩ := h.boxes b _ (look_mem hl)
      have : g' = g := by rw [hg1] at e1; cases e1; rfl
      subst this
      obtain ⟨_, hd⟩ := repSs_split off e4
      obtain ⟨c1, c2, hcs, hrep, _⟩ := pack_rep u (repSs_thaw h hd) hp
      refine (repV_plain (t := .ptr u) rfl).2 ⟨_, c1, rfl, hrep, fun j v hj => ⟨?_, fun h => h⟩⟩
      have h2 : (cells.toList.drop off)[j]? = some v := by rw [hcs, List.getElem?_append_left (List.getElem?_eq_some_iff.1 hj).1]; exact hj
      rw [List.getElem?_drop] at h2
      have ea : (⟨g', off, none⟩ : Addr).add j = ⟨g', off + j, none⟩ := by unfold Addr.add; split <;> simp_all
      rw [ea, cell_in e3]
      simpa using h2
    · cases hb
  · cases hb
theorem capTVs_sound (h : Rm cx m st T w) : ∀ {bs : List Nat} {us : List Ty} {l : List TV}, (∀ b ∈ bs, ∀ c e, look st.bx b = some (.cells c e) → ∃ g, m b = .pointer (some ⟨g, 0, none⟩)) → capTVs st bs us = some l → repVs w (fun _ => False) (bs.map m) l
  | [], [], _, _, hl => by cases hl; trivial
  | [], _ :: _, _, _, hl => by cases hl
  | _ :: _, [], _, _, hl => by cases hl
  | b :: bs, u :: us, l, hp, hl => by
    unfold capTVs at hl
    split at hl
    · rename_i v vs h1 h2
      cases hl
      refine ⟨boxTV_sound h h1 ?_, capTVs_sound h (fun b hb => hp b (List.mem_cons_of_mem _ hb)) h2⟩
      unfold boxTV at h1
      split at h1
      · rename_i c e hc
        obtain ⟨g, hg⟩ := hp b List.mem_cons_self c e hc
        exact ⟨g, hg, hg⟩
      · cases h1
    · cases hl
theorem box_place (h : Rm cx m st T w) {b : Nat} {c : List SV} {e : Nat} (hb : look st.bx b = some (.cells c e)) : ∃ g, m b = .pointer (some ⟨g, 0, none⟩) := by
  obtain ⟨g, e1, _⟩ := h.boxes b _ (look_mem hb)
  exact ⟨g, e1⟩
theorem pairUp_rep {w : World} {M : Nat → Prop} : ∀ {vs : List Value} {l : List TV}, (∀ u ∈ l, u.t.agg = false) → repVs w M vs l → rep w M (pairUp l).t vs (pairUp l).x
  | [], [], _, _ => rfl
  | [], _ :: _, _, h => h.elim
  | _ :: _, [], _, h => h.elim
  | v :: vs, u :: us, ha, ⟨h1, h2⟩ => ⟨[v], vs, rfl, (repV_plain (ha u List.mem_cons_self)).1 h1, pairUp_rep (fun x hx => ha x (List.mem_cons_of_mem _ hx)) h2⟩
theorem capTVs_agg : ∀ {bs : List Nat} {us : List Ty} {l : List TV}, capTVs st bs us = some l → ∀ u ∈ l, u.t.agg = false
  | [], [], _, hl => by cases hl; simp
  | [], _ :: _, _, hl => by cases hl
  | _ :: _, [], _, hl => by cases hl
  | b :: bs, u :: us, l, hl => by
    unfold capTVs at hl
    split at hl
    · rename_i v vs h1 h2
      cases hl
      intro x hx
      rcases List.mem_cons.1 hx with rfl | hx
      · unfold boxTV at h1
        split at h1
        · split at h1
          · cases h1; rfl
          · cases h1
        · cases h1
      · exact capTVs_agg h2 x hx
    · cases hl
theorem unpair_rep {w : World} {M : Nat → Prop} : ∀ (t : Ty) {vs : List Value} {x : t.el} {l : List TV}, unpair t x = some l → rep w M t vs x → ∃ us, repVs w M us l ∧ (∀ u ∈ l, u.t.agg = false → True) ∧ (l.all (fun u => !u.t.agg) = true → us = vs)
  | .unit, vs, x, l, hl, h => by cases hl; cases h; exact ⟨[], trivial, fun _ _ _ => trivial, fun _ => rfl⟩
  | .pair a b, vs, x, l, hl, ⟨c1, c2, e, h1, h2⟩ => by
    unfold unpair at hl
    split at hl
    · rename_i l' hl'
      cases hl
      obtain ⟨us, k1, _, k3⟩ := unpair_rep b hl' h2
      cases hag : a.agg with
      | true => exact ⟨.agg c1.toArray :: us, ⟨(repV_agg hag).2 ⟨c1, rfl, h1⟩, k1⟩, fun _ _ _ => trivial, fun hh => by simp [hag] at hh⟩
      | false =>
        have hl1 := rep_length a h1
        have : a.cells = 1 := by cases a <;> first | rfl | (simp [Ty.agg] at hag)
        rw [this] at hl1
        match c1, hl1 with
        | [v], _ =>
          refine ⟨v :: us, ⟨(repV_plain hag).2 h1, k1⟩, fun _ _ _ => trivial, fun hh => ?_⟩
          rw [List.all_cons, Bool.and_eq_true] at hh
          rw [e, k3 hh.2]
          rfl
    · cases hl
  | .int _, _, _, _, hl, _ => by cases hl
  | .bool, _, _, _, hl, _ => by cases hl
  | .str, _, _, _, hl, _ => by cases hl
  | .sl _, _, _, _, hl, _ => by cases hl
  | .ptr _, _, _, _, hl, _ => by cases hl
  | .fn _ _, _, _, _, hl, _ => by cases hl
  | .err, _, _, _, hl, _ => by cases hl
  | .opq, _, _, _, hl, _ => by cases hl

theorem argTV_sound {E : Env} (hP : cx.P = E.P) (h : Rm cx m st T w) {flat : Bool} {t : TypeId} {x : Operand} {v : TV} (ha : argTV E st flat t x = some v) :
    repV w (fun b => flat = false ∧ Mut cx m st.ids b) (Act.eval ⟨T, []⟩ x) v.t v.x := by
  have k1 : ∀ b, b < w.heap.size → ¬ Mut cx m st.ids b → w.heap[b]? = w.heap[b]? := fun _ _ _ => rfl
  have k2 : ∀ b, b < w.heap.size → (flat = false ∧ Mut cx m st.ids b) → Mut cx m st.ids b := fun _ _ h => h.2
  have k3 : ∀ b, b < w.heap.size → ¬ False → w.heap[b]? = w.heap[b]? := fun _ _ _ => rfl
  have k4 : ∀ b, b < w.heap.size → (true = false ∧ Mut cx m st.ids b) → False := fun _ _ h => by cases h.1
  unfold argTV at ha
  split at ha
  · split at ha
    · rename_i e u he
      cases ha
      refine (repV_plain (t := .sl u) rfl).2 ⟨none, 0, [], rfl, Nat.le_refl _, by decide, fun _ => rfl, rfl, fun j v hj => by simp at hj⟩
    · cases ha
  · split at ha
    · rename_i t' y hx
      cases ha
      have := getSV_sound h hx
      exact repV_ext k1 k2 this
    · rename_i t' y hx
      cases ha
      have := repS_ext k1 k2 (getSV_sound h hx)
      obtain ⟨a, cells, e, r⟩ := this
      rw [e]
      exact (repV_plain (t := .ptr t') rfl).2 ⟨a, cells, rfl, r⟩
    · rename_i r hx
      split at ha
      · rename_i c hc
        cases ha
        have hv : Act.eval ⟨T, []⟩ x = m r := getSV_sound h hx
        rw [hv]
        refine (repV_plain (t := .sl c.t) rfl).2 (h.row_val (look_mem hc) (fun b _ hb => hb.2) fun g _ hb => ?_)
        simp at hb
      · cases ha
    · rename_i b hx
      split at ha
      · rename_i k v' ps hc
        cases ha
        have hv : Act.eval ⟨T, []⟩ x = m b := getSV_sound h hx
        obtain ⟨g, e1, _, es, clock, h1, h2, h3, h4⟩ := h.boxes b _ (look_mem hc)
        rw [hv, e1]
        refine (repV_plain (t := .map k v') rfl).2 ⟨g, es, clock, rfl, h1, (fun hb : true = false ∧ Mut cx m st.ids g => by cases hb.1), h2, h3, repM_mono (fun _ _ h => repV_ext k1 k2 h) (fun _ _ h => repV_ext k1 k2 h) h4⟩
      · cases ha
    · rename_i b off hx
      split at ha
      · rename_i e he
        split at ha
        · rename_i u hu
          exact repV_ext k3 k4 (boxTV_sound h ha (getSV_sound h hx))
        · cases ha
      · cases ha
    · rename_i b p hx
      split at ha
      · rename_i t' y e hb
        split at ha
        · rename_i r o hp
          cases ha
          obtain ⟨g, hg1, hg2⟩ := getSV_sound h hx
          obtain ⟨g', e1, _, cells, e3, e4⟩ := h.boxes b _ (look_mem hb)
          have : g' = g := by rw [hg1] at e1; cases e1; rfl
          subst this
          obtain ⟨c1, c2, c3, hcs, hl, hr⟩ := getP_rep p t' e4 hp trivial
          rw [hg2]
          refine (repV_plain (t := .ptr r.t) rfl).2 ⟨⟨g', poff p, none⟩, c2, rfl, rep_ext k1 k2 r.t hr, fun j v hj => ⟨?_, fun hb => by cases hb.1⟩⟩
          have hj2 := (List.getElem?_eq_some_iff.1 hj).1
          rw [add_mk, cell_in e3, ← Array.getElem?_toList, hcs, List.append_assoc, List.getElem?_append_right (by omega), List.getElem?_append_left (by omega), ← hj]
          congr 1
          omega
        · cases ha
      · cases ha
    · rename_i f bs hx
      split at ha
      · rename_i F hF
        split at ha
        · rename_i l hl
          cases ha
          have hv : Act.eval ⟨T, []⟩ x = .func (.func f) #[] (bs.map m).toArray := getSV_sound h hx
          rw [hv]
          refine (repV_plain (t := .fn f (pairUp l).t) rfl).2 ⟨bs.map m, rfl, ?_⟩
          exact rep_ext k3 k4 _ (pairUp_rep (capTVs_agg hl) (capTVs_sound h (fun b _ c e hc => box_place h hc) hl))
        · cases ha
      · cases ha
    · cases ha

theorem argTVs_sound {E : Env} (hP : cx.P = E.P) (h : Rm cx m st T w) {flat : Bool} : ∀ {ts : List TypeId} {xs : List Operand} {vs : List TV}, argTVs E st flat ts xs = some vs →
    repVs w (fun b => flat = false ∧ Mut cx m st.ids b) (xs.map (Act.eval ⟨T, []⟩)) vs
  | [], [], _, ha => by cases ha; trivial
  | [], _ :: _, _, ha => by cases ha
  | _ :: _, [], _, ha => by cases ha
  | t :: ts, x :: xs, vs, ha => by
    unfold argTVs at ha
    split at ha
    · rename_i v vs' h1 h2
      cases ha
      exact ⟨argTV_sound hP h h1, argTVs_sound hP h h2⟩
    · cases ha

theorem repVs_app {M : Nat → Prop} : ∀ {a b : List Value} {l r : List TV}, repVs w M a l → repVs w M b r → repVs w M (a ++ b) (l ++ r)
  | [], _, [], _, _, h => h
  | [], _, _ :: _, _, h, _ => h.elim
  | _ :: _, _, [], _, h, _ => h.elim
  | _ :: _, _, _ :: _, _, ⟨h1, h2⟩, h => ⟨h1, repVs_app h2 h⟩

/-- The callee's value, and what it has captured. -/
theorem calleeOf_sound {E : Env} (h : Rm cx m st T w) {x : Operand} {f : Nat} {F : FnC} {l : List TV} (hc : calleeOf E st x = some (f, F, l)) :
    look E.fns f = some F ∧ ∃ bs : List Value, Act.eval ⟨T, []⟩ x = .func (.func f) #[] bs.toArray ∧ ∃ us, us = bs ∧ repVs w (fun b => F.flat = false ∧ Mut cx m st.ids b) us l := by
  have k1 : ∀ b, b < w.heap.size → ¬ Mut cx m st.ids b → w.heap[b]? = w.heap[b]? := fun _ _ _ => rfl
  have k3 : ∀ b, b < w.heap.size → ¬ False → w.heap[b]? = w.heap[b]? := fun _ _ _ => rfl
  unfold calleeOf at hc
  split at hc
  · rename_i f' bs hx
    have hv : Act.eval ⟨T, []⟩ x = .func (.func f') #[] (bs.map m).toArray := getSV_sound h hx
    split at hc
    · rename_i F' hF
      split at hc
      · cases hc
        exact ⟨hF, [], hv, [], rfl, trivial⟩
      · split at hc
        · rename_i hf hl
          cases hc
          refine ⟨hF, _, hv, _, rfl, repVs_ext k3 (fun b _ hb => ?_) (capTVs_sound h (fun b _ c e hc => box_place h hc) hl)⟩
          rw [hf] at hb
          cases hb.1
        · cases hc
    · cases hc
  · rename_i f' t y hx
    split at hc
    · rename_i hF hl
      split at hc
      · cases hc
        have hv : repV w (Mut cx m st.ids) (Act.eval ⟨T, []⟩ x) (.fn f t) y := getSV_sound h hx
        obtain ⟨bs, e, hr⟩ := (repV_plain (t := .fn f t) rfl).1 hv
        simp only [List.cons.injEq, and_true] at e
        obtain ⟨us, k1', _, k3'⟩ := unpair_rep t ‹unpair t y = some l› hr
        refine ⟨hF, bs, e, us, k3' ‹_›, repVs_ext k1 (fun b _ hb => hb.2) k1'⟩
      · cases hc
    · cases hc
  · cases hc

theorem repVs_flat {w w' : World} {M M' : Nat → Prop} : ∀ {vs : List Value} {l : List TV}, (∀ u ∈ l, u.t.flat = true) → repVs w M vs l → repVs w' M' vs l
  | [], [], _, _ => trivial
  | [], _ :: _, _, h => h.elim
  | _ :: _, [], _, h => h.elim
  | _ :: _, u :: _, hf, ⟨h1, h2⟩ => ⟨repV_flat (hf u List.mem_cons_self) h1, repVs_flat (fun x hx => hf x (List.mem_cons_of_mem _ hx)) h2⟩

theorem resSV_sound {M : Nat → Prop} {v : Value} : ∀ {l : List TV}, repRes w M v l → repS w M m v (resSV l)
  | [], _ => trivial
  | [_], h => h
  | _ :: _ :: _, h => h
theorem repRes_flat {w w' : World} {M M' : Nat → Prop} {v : Value} : ∀ {l : List TV}, (∀ u ∈ l, u.t.flat = true) → repRes w M v l → repRes w' M' v l
  | [], _, _ => trivial
  | [u], hf, h => repV_flat (hf u List.mem_cons_self) h
  | _ :: _ :: _, hf, ⟨vs, e, h⟩ => ⟨vs, e, repVs_flat hf h⟩

theorem evCall_run {c : Call} {o : Oper} {f : Nat} {x : Operand} {bs : List Value} (ho : o.op = .call c) (hc : c.callee = .value x) (hx : Act.eval ⟨T, []⟩ x = .func (.func f) #[] bs.toArray)
    (hen : ∀ args w, (callFunc f args).run cx.P w = .ok (.enter f args) w) (w : World) :
    (execOp (Act.eval ⟨T, []⟩) o).run cx.P w = .ok (.enter f (c.args.toList.map (Act.eval ⟨T, []⟩) ++ bs).toArray) w := by
  obtain ⟨callee, args, ts⟩ := c
  simp only at hc
  subst hc
  have e1 : #[] ++ args.map (Act.eval ⟨T, []⟩) ++ bs.toArray = (args.toList.map (Act.eval ⟨T, []⟩) ++ bs).toArray := by
    apply Array.ext'
    simp
  simp only [execOp, ho, resolve, hx, Deferred.ofValue, Sem.run_bind, Sem.run_pure, Result.andThen_ok, invoke]
  rw [e1]
  simp [hen]

theorem evCall_sound {E : Env} (hE : EnvOK E cx) (h : Rm cx m st T w) {o : Oper} {c : Call} (ho : o.op = .call c) {orc : List TV} {r : PR} (hev : evCall E st c orc = some r) (hob : allP r.ob) :
    ∃ f args, (∀ w, (execOp (Act.eval ⟨T, []⟩) o).run cx.P w = .ok (.enter f args) w) ∧
      Calls cx.P f args w fun e w' => ∃ v, e = .returned v ∧ Ext w w' ∧ repS w' (Mut cx m st.ids) m v r.sv := by
  unfold evCall at hev
  split at hev
  · rename_i x hc
    split at hev
    · rename_i f F l hF
      split at hev
      · rename_i as has
        cases hb : Nat.ble F.nres orc.length with
        | false => rw [hb] at hev; cases hev
        | true =>
          rw [hb] at hev
          cases hev
          obtain ⟨hlk, bs, hx, us, e, hcap⟩ := calleeOf_sound h hF
          subst e
          have hcon := hE.fns f F (look_mem hlk)
          rw [← hE.P] at hcon
          have hargs := repVs_app (argTVs_sound hE.P h has) hcap
          have hcalls := hcon.calls w (fun b => F.flat = false ∧ Mut cx m st.ids b) _ _ _ (hE.glob w h.frame) (fun b hb => h.mut_lt hb.2) hob.1 hargs
          refine ⟨f, _, evCall_run ho hc hx hcon.enters, hcalls.mono ?_⟩
          rintro e w' ⟨v, he, hres, hext⟩
          refine ⟨v, he, hext, resSV_sound ?_⟩
          cases hf : F.flat with
          | true => exact repRes_flat ((hcon.shape _ _ hob.1).2 hf) hres
          | false =>
            rw [hf] at hres
            have : (fun b => false = false ∧ Mut cx m st.ids b) = Mut cx m st.ids := by funext b; simp
            rw [this] at hres
            exact hres
      · cases hev
    · cases hev
  · cases hev

/-- Owned slices that are handed on as values are given up first. -/
def freezeOp (st : St) (x : Operand) : St :=
  match getSV st x with
  | some (.row r) => match look st.rw r with
    | some c => st.freeze r c
    | none => st
  | some (.iter b) => match look st.bx b with
    | some (.mp k v ps) => st.freezeMp b k v ps
    | _ => st
  | _ => st
def freezeOps : St → List Operand → St
  | st, [] => st
  | st, x :: xs => freezeOps (freezeOp st x) xs
def prepOps (E : Env) : Op → List Operand
  | .range _ x => [x]
  | .slice _ x (some _) _ none => [x]
  | .build _ ps => ps.toList.map (·.2)
  | .buildSlice _ _ ps => ps.toList.map (·.2)
  | .call c => match c.callee with
    | .value (.func f) => match look E.fns f with
      | some F => bif F.flat then [] else c.args.toList
      | none => c.args.toList
    | _ => []
  | _ => []
theorem freezeOps_sound : ∀ {l : List Operand} {st : St}, Rm cx m st T w → Rm cx m (freezeOps st l) T w
  | [], _, h => h
  | x :: xs, st, h => by
    refine freezeOps_sound (l := xs) ?_
    unfold freezeOp
    split
    · split
      · rename_i c hc; exact h.freeze (look_mem hc)
      · exact h
    · split
      · rename_i k v ps hc; exact h.freezeMp (look_mem hc)
      · exact h
    · exact h

/-- One operation. -/
def evO1 (E : Env) (st0 : St) (o : Oper) (orc : List TV) : Option (St × List TV × List Prop) :=
  match o.dst with
  | none => match o.op with
    | .store t x y => evStore E.P st0 t x y orc
    | .mapUpdate t x k v => match evUp E.P (freezeOps st0 [v]) t x k v with
      | some st1 => some (st1, orc, [])
      | none => none
    | .call c => match evCall E (freezeOps st0 (prepOps E o.op)) c orc with
      | some r => some (freezeOps st0 (prepOps E o.op), r.orc, r.ob)
      | none => none
    | _ => none
  | some d => match Nat.blt d E.n with
    | true => match evP E.P (freezeOps st0 (prepOps E o.op)) o.op orc with
      | some r => some ((freezeOps st0 (prepOps E o.op)).put d r.sv, r.orc, r.ob)
      | none => match o.op with
        | .load t x => match evLoad E.P st0 t x orc with
          | some r => some (st0.put d r.sv, r.orc, r.ob)
          | none => none
        | .call c => match evCall E (freezeOps st0 (prepOps E o.op)) c orc with
          | some r => some ((freezeOps st0 (prepOps E o.op)).put d r.sv, r.orc, r.ob)
          | none => match evM E.P st0 o d orc with
            | some r => some (r.st.put d r.sv, r.orc, r.ob)
            | none => none
        | _ => match evM E.P (freezeOps st0 (prepOps E o.op)) o d orc with
          | some r => some (r.st.put d r.sv, r.orc, r.ob)
          | none => none
    | false => none

theorem wp_value {o : Oper} {v : Value} {K : Act → World → Prop} {Q : Exit → Act → World → Prop} (hr : (execOp (Act.eval ⟨T, []⟩) o).run cx.P w = .ok (.value v) w') (hK : K (Act.put ⟨T, []⟩ o.dst v) w') :
    o.wp cx.P ⟨T, []⟩ w K Q := by
  unfold Oper.wp
  rw [hr]
  exact hK

theorem evO1_sound {E : Env} (hE : EnvOK E cx) (h : R cx st T w) {o : Oper} {orc : List TV} {st' : St} {orc' : List TV} {ob : List Prop} (hev : evO1 E st o orc = some (st', orc', ob)) (hob : allP ob)
    {K : Act → World → Prop} {Q : Exit → Act → World → Prop} (hK : ∀ T' w', R cx st' T' w' → K ⟨T', []⟩ w') : o.wp cx.P ⟨T, []⟩ w K Q := by
  obtain ⟨m, hm⟩ := h
  unfold evO1 at hev
  split at hev
  · rename_i hd
    split at hev
    · rename_i t x y hop
      rw [← hE.P] at hev
      obtain ⟨w', hrun, hR⟩ := evStore_sound hm hev hob
      unfold Oper.wp
      have hr : (execOp (Act.eval ⟨T, []⟩) o).run cx.P w = .ok .skip w' := by
        simp only [execOp, hop, Sem.run_bind, hrun, Result.andThen_ok, Sem.run_pure]
      rw [hr]
      show K (Act.put ⟨T, []⟩ o.dst undef) w'
      rw [hd]
      exact hK T w' ⟨m, hR⟩
    · rename_i t x k v hop
      split at hev
      · rename_i st1 hu
        cases hev
        have hm' := freezeOps_sound (l := [v]) hm
        rw [← hE.P] at hu
        obtain ⟨w', hrun, hR⟩ := evUp_sound hm' hu
        unfold Oper.wp
        have hr : (execOp (Act.eval ⟨T, []⟩) o).run cx.P w = .ok .skip w' := by
          simp only [execOp, hop, Sem.run_bind, hrun, Result.andThen_ok, Sem.run_pure]
        rw [hr]
        show K (Act.put ⟨T, []⟩ o.dst undef) w'
        rw [hd]
        exact hK T w' ⟨m, hR⟩
      · cases hev
    · rename_i c hop
      split at hev
      · rename_i r hc
        cases hev
        have hm' := freezeOps_sound (l := prepOps E o.op) hm
        obtain ⟨f, args, hrun, hcalls⟩ := evCall_sound hE hm' hop hc hob
        unfold Oper.wp
        rw [hrun w]
        refine hcalls.mono ?_
        rintro e w' ⟨v, rfl, hext, _⟩
        show K (Act.put ⟨T, []⟩ o.dst v) w'
        rw [hd]
        exact hK T w' ⟨m, hm'.ext hext⟩
      · cases hev
    · cases hev
  · rename_i d hd
    split at hev
    · rename_i hdn
      have hlt : d < cx.n := by rw [hE.n]; exact blt_true hdn
      have hm' := freezeOps_sound (l := prepOps E o.op) hm
      have fin : ∀ (v : Value) (w' : World) (m' : Nat → Value) (s1 : St) (sv : SV), (execOp (Act.eval ⟨T, []⟩) o).run cx.P w = .ok (.value v) w' → Rm cx m' s1 T w' → repS w' (Mut cx m' s1.ids) m' v sv → s1.put d sv = st' → o.wp cx.P ⟨T, []⟩ w K Q := by
        intro v w' m' s1 sv hr hs hv e
        refine wp_value hr ?_
        rw [hd]
        exact hK _ _ ⟨m', e ▸ hs.put hlt hv⟩
      have finCall : ∀ (c : Call) (r : PR), o.op = .call c → evCall E (freezeOps st (prepOps E o.op)) c orc = some r → allP r.ob → (freezeOps st (prepOps E o.op)).put d r.sv = st' → o.wp cx.P ⟨T, []⟩ w K Q := by
        intro c r hop hc hob e
        obtain ⟨f, args, hrun, hcalls⟩ := evCall_sound hE hm' hop hc hob
        unfold Oper.wp
        rw [hrun w]
        refine hcalls.mono ?_
        rintro e' w' ⟨v, rfl, hext, hv⟩
        show K (Act.put ⟨T, []⟩ o.dst v) w'
        rw [hd]
        exact hK _ _ ⟨m, e ▸ (hm'.ext hext).put hlt hv⟩
      split at hev
      · rename_i r hp
        cases hev
        rw [← hE.P] at hp
        obtain ⟨v, hdoes, hv⟩ := evP_sound hm' hp hob
        exact fin v w m _ _ (hdoes w (Ext.refl w)) hm' hv rfl
      · split at hev
        · rename_i t x hop
          split at hev
          · rename_i r hl
            cases hev
            rw [← hE.P] at hl
            obtain ⟨v, hs, hv⟩ := evLoad_sound hm hl hob
            exact fin v w m _ _ (exec_value (by simp only [execOp, hop]) (hs w (Ext.refl w))) hm hv rfl
          · cases hev
        · rename_i c hop
          split at hev
          · rename_i r hc
            cases hev
            exact finCall c r hop hc hob rfl
          · split at hev
            · rename_i r hmk
              cases hev
              rw [← hE.P] at hmk
              obtain ⟨v, w', m', h1, h2, h3⟩ := evM_sound hm hlt hmk hob
              exact fin v w' m' _ _ h1 h2 h3 rfl
            · cases hev
        · split at hev
          · rename_i r hmk
            cases hev
            rw [← hE.P] at hmk
            obtain ⟨v, w', m', h1, h2, h3⟩ := evM_sound hm' hlt hmk hob
            exact fin v w' m' _ _ h1 h2 h3 rfl
          · cases hev
    · cases hev

/-- One operation; a first answer that is a 'unit' ahead of a slice with a high bound alone: the row is read on, so it is given up as owned. -/
def evO (E : Env) (st : St) (o : Oper) (orc : List TV) : Option (St × List TV × List Prop) :=
  match o.op, orc with
  | .slice _ x none (some _) none, ⟨.unit, _⟩ :: orc' => evO1 E (freezeOps st [x]) o orc'
  | _, _ => evO1 E st o orc
theorem evO_sound {E : Env} (hE : EnvOK E cx) (h : R cx st T w) {o : Oper} {orc : List TV} {st' : St} {orc' : List TV} {ob : List Prop} (hev : evO E st o orc = some (st', orc', ob)) (hob : allP ob)
    {K : Act → World → Prop} {Q : Exit → Act → World → Prop} (hK : ∀ T' w', R cx st' T' w' → K ⟨T', []⟩ w') : o.wp cx.P ⟨T, []⟩ w K Q := by
  unfold evO at hev
  split at hev
  · obtain ⟨m, hm⟩ := h
    exact evO1_sound hE ⟨m, freezeOps_sound hm⟩ hev hob hK
  · exact evO1_sound hE h hev hob hK

end Go.Ev

namespace Go.Ev
open Go Go.RowKit

abbrev Post := Exit → Act → World → Prop
def W (cx : Cx) (Q : Post) (c : Code) (st : St) : Prop := ∀ T w, R cx st T w → c.wp cx.P Q ⟨T, []⟩ w
def WL (cx : Cx) (ops : Array Oper) (Q : Post) (l : List Oper) (st : St) : Prop := ∀ T w, R cx st T w → wpList cx.P ops Q l ⟨T, []⟩ w
def N (cx : Cx) (Q : Post) (e : Exit) (st : St) : Prop := ∀ T w, R cx st T w → Q e ⟨T, []⟩ w

/-- Is an operation wanted? -/
def wantSV (ops : Array Oper) (st : St) (o : Oper) : Option Bool :=
  match o.guard with
  | none => some true
  | some (j, b) => match (ops[j]?).bind (·.dst) with
    | some d => match look st.sl d with
      | some (.val .bool true) => some b
      | some (.val .bool false) => some (!b)
      | some .undef => some false
      | _ => none
    | none => none

def evL (E : Env) (ops : Array Oper) : List Oper → St → List TV → Option (St × List TV × List Prop)
  | [], st, orc => some (st, orc, [])
  | o :: l, st, orc => match wantSV ops st o with
    | some true => match evO E st o orc with
      | some (st1, orc1, ob) => match evL E ops l st1 orc1 with
        | some (st2, orc2, ob2) => some (st2, orc2, ob ++ ob2)
        | none => none
      | none => none
    | some false => match o.dst with
      | some d => match Nat.blt d E.n with
        | true => evL E ops l (st.put d .undef) orc
        | false => none
      | none => evL E ops l st orc
    | none => none

variable {cx : Cx} {st st' : St} {T : Array Value} {w : World} {E : Env} {Q : Post} {ops : Array Oper} {l : List Oper}

theorem allP_append : ∀ {a b : List Prop}, allP (a ++ b) → allP a ∧ allP b
  | [], _, h => ⟨trivial, h⟩
  | _ :: _, _, ⟨h1, h2⟩ => ⟨⟨h1, (allP_append h2).1⟩, (allP_append h2).2⟩

theorem wantSV_sound (h : R cx st T w) {o : Oper} {b : Bool} (hb : wantSV ops st o = some b) : Region.wanted o (yielded ops T) = b := by
  obtain ⟨m, hm⟩ := h
  unfold wantSV at hb
  unfold Region.wanted
  split at hb
  · rename_i hg
    cases hb
    rw [hg]
  · rename_i j b' hg
    rw [hg]
    simp only []
    split at hb
    · rename_i d hd
      have key : ∀ s, look st.sl d = some s → ∃ v, T[d]? = some v ∧ repS w (Mut cx m st.ids) m v s := fun s hs => hm.slots d s (look_mem hs)
      unfold yielded
      rw [hd]
      simp only [Option.bind_some]
      split at hb
      · rename_i hl
        obtain ⟨v, h1, h2⟩ := key _ hl
        rw [h1, repV_bool.1 h2]
        cases hb
        cases b <;> rfl
      · rename_i hl
        obtain ⟨v, h1, h2⟩ := key _ hl
        rw [h1, repV_bool.1 h2]
        cases hb
        cases b' <;> rfl
      · rename_i hl
        obtain ⟨v, h1, h2⟩ := key _ hl
        have h2' : v = undef := h2
        rw [h1, h2']
        cases hb
        cases b' <;> rfl
      · cases hb
    · cases hb

theorem evL_sound (hE : EnvOK E cx) : ∀ {l : List Oper} {st : St} {T : Array Value} {w : World} {orc orc' : List TV} {st' : St} {ob : List Prop}, R cx st T w → evL E ops l st orc = some (st', orc', ob) → allP ob →
    (∀ T' w', R cx st' T' w' → Q .normal ⟨T', []⟩ w') → wpList cx.P ops Q l ⟨T, []⟩ w
  | [], st, T, w, _, _, _, _, h, hev, _, hQ => by
    cases hev
    exact hQ T w h
  | o :: l, st, T, w, orc, orc', st', ob, h, hev, hob, hQ => by
    unfold evL at hev
    refine wpList_step fun K hK => ?_
    split at hev
    · rename_i hw
      rw [wantSV_sound h hw]
      simp only [if_true]
      split at hev
      · rename_i st1 orc1 ob1 ho
        split at hev
        · rename_i st2 orc2 ob2 hl
          cases hev
          obtain ⟨ha, hb⟩ := allP_append hob
          exact evO_sound hE h ho ha fun T' w' hR => hK _ _ (evL_sound hE hR hl hb hQ)
        · cases hev
      · cases hev
    · rename_i hw
      rw [wantSV_sound h hw]
      simp only [Bool.false_eq_true, if_false]
      split at hev
      · rename_i d hd
        split at hev
        · rename_i hdn
          obtain ⟨m, hm⟩ := h
          have hput := hm.put (d := d) (s := .undef) (v := undef) (by rw [hE.n]; exact blt_true hdn) rfl
          refine hK _ _ ?_
          rw [hd]
          exact evL_sound hE ⟨m, hput⟩ hev hob hQ
        · cases hev
      · rename_i hd
        refine hK _ _ ?_
        rw [hd]
        exact evL_sound hE h hev hob hQ
    · cases hev

theorem wpList_append {P : Program} {Q : Post} : ∀ {l1 l2 : List Oper} {a : Act} {w : World}, wpList P ops (Exit.then (wpList P ops Q l2) Q) l1 a w → wpList P ops Q (l1 ++ l2) a w
  | [], l2, a, w, h => h
  | o :: l1, l2, a, w, h => by
    simp only [List.cons_append, wpList] at h ⊢
    split
    · rename_i hw
      rw [if_pos hw] at h
      rcases h with h | ⟨h1, h2⟩
      · refine .inl ?_
        have hm : ∀ a w, wpList P ops (Exit.then (wpList P ops Q l2) Q) l1 a w → wpList P ops Q (l1 ++ l2) a w := fun a w => wpList_append
        unfold Oper.wp Oper.upon at h ⊢
        split at h
        · exact hm _ _ h
        · exact hm _ _ h
        · exact hm _ _ h
        · refine Calls.mono h ?_
          intro e w' hh
          cases e with
          | returned v => exact hm _ _ hh
          | panicked c => exact hh
          | outgrown => exact hh
        · exact Rows.mono h fun v w' hh => hm _ _ hh
        · exact h
        · exact h.elim
      · exact .inr ⟨h1, h2⟩
    · rename_i hw
      rw [if_neg hw] at h
      exact wpList_append h

/-! The rules. -/
theorem W_skip (h : N cx Q .normal st) : W cx Q .skip st := fun T w hR => wp_skip (h T w hR)
theorem W_seq {x y : Code} (h : W cx (Exit.then (y.wp cx.P Q) Q) x st) : W cx Q (.seq x y) st := fun T w hR => wp_seq (h T w hR)
theorem W_block {id : Nat} {c : Code} (h : W cx (Exit.inBlock id Q) c st) : W cx Q (.block id c) st := fun T w hR => wp_block (h T w hR)
theorem W_exit {id : Nat} (h : N cx Q (.exit id) st) : W cx Q (.exit id) st := fun T w hR => wp_exit (h T w hR)
theorem W_ret (h : N cx Q .ret st) : W cx Q .ret st := fun T w hR => wp_ret (h T w hR)
theorem W_cond {c : Operand} {x y : Code} {b : Bool} (hc : getSV st c = some (.val .bool b)) (ht : b = true → W cx Q x st) (hf : b = false → W cx Q y st) : W cx Q (.cond c x y) st := fun T w hR => by
  obtain ⟨m, hm⟩ := hR
  have hv := repV_bool.1 (getSV_sound hm hc)
  cases b with
  | true => exact wp_cond_true hv (ht rfl T w ⟨m, hm⟩)
  | false => exact wp_cond_false hv (hf rfl T w ⟨m, hm⟩)
theorem W_cond_true {c : Operand} {x y : Code} (hc : getSV st c = some (.val .bool true)) (ht : W cx Q x st) : W cx Q (.cond c x y) st := W_cond hc (fun _ => ht) (fun h => by cases h)
theorem W_cond_false {c : Operand} {x y : Code} (hc : getSV st c = some (.val .bool false)) (ht : W cx Q y st) : W cx Q (.cond c x y) st := W_cond hc (fun h => by cases h) (fun _ => ht)

theorem exists_least (p : Nat → Prop) : ∀ n, p n → ∃ n, p n ∧ ∀ m, p m → n ≤ m := by
  intro n
  induction n using Nat.strongRecOn with
  | _ n ih =>
    intro hn
    by_cases h : ∃ m, m < n ∧ p m
    · obtain ⟨m, hm, hp⟩ := h
      exact ih m hm hp
    · exact ⟨n, hn, fun m hm => by
        rcases Nat.lt_or_ge m n with h1 | h1
        · exact absurd ⟨m, h1, hm⟩ h
        · exact h1⟩
theorem least_of {p : Nat → Prop} (h : ∃ n, p n) : ∃ n, p n ∧ ∀ m, p m → n ≤ m := let ⟨n, hn⟩ := h; exists_least p n hn

open Classical in
theorem wp_loop_fuel {P : Program} {c : Code} {Q : Post} (J : Nat → Act → World → Prop) (step : ∀ k a w, J k a w → c.wp P (Exit.then (fun a' w' => ∃ k', k' < k ∧ J k' a' w') Q) a w) {k : Nat} {a : Act} {w : World} (h : J k a w) :
    (Code.loop c).wp P Q a w := by
  refine wp_loop (fun a w => ∃ k, J k a w) (fun a w => if h : ∃ k, J k a w then Classical.choose (least_of h) else 0) ⟨k, h⟩ ?_
  intro a w hI
  have hk := Classical.choose_spec (least_of hI)
  refine Code.wp_mono ?_ (step _ a w hk.1)
  intro e a' w' q
  cases e with
  | normal =>
    obtain ⟨k', hlt, hJ⟩ := q
    refine ⟨⟨k', hJ⟩, ?_⟩
    have hI' : ∃ k, J k a' w' := ⟨k', hJ⟩
    rw [dif_pos hI, dif_pos hI']
    exact Nat.lt_of_le_of_lt ((Classical.choose_spec (least_of hI')).2 k' hJ) hlt
  | _ => exact q

/-- What a round comes back with. -/
def Back {α : Type} (cx : Cx) (F : Nat → α → Prop) (S : α → St) (k : Nat) : Act → World → Prop := fun a' w' => ∃ k' x', k' < k ∧ F k' x' ∧ a'.defers = [] ∧ R cx (S x') a'.tmps w'
theorem W_loop {α : Type} (F : Nat → α → Prop) (S : α → St) {c : Code} (step : ∀ k x, F k x → W cx (Exit.then (Back cx F S k) Q) c (S x)) {k : Nat} {x : α} (h : F k x) : W cx Q (.loop c) (S x) := by
  intro T w hR
  refine wp_loop_fuel (fun k a w => ∃ x, F k x ∧ a.defers = [] ∧ R cx (S x) a.tmps w) ?_ ⟨x, h, rfl, hR⟩
  rintro k ⟨T, d⟩ w ⟨x, hF, hd, hR⟩
  simp only at hd hR
  subst hd
  refine Code.wp_mono ?_ (step k x hF T w hR)
  intro e a' w' q
  cases e with
  | normal => obtain ⟨k', x', h1, h2, h3, h4⟩ := q; exact ⟨k', h1, x', h2, h3, h4⟩
  | _ => exact q
theorem N_round {α : Type} {F : Nat → α → Prop} {S : α → St} {k k' : Nat} (x' : α) (hk : k' < k) (hF : F k' x') : N cx (Exit.then (Back cx F S k) Q) .normal (S x') :=
  fun _ _ hR => ⟨k', x', hk, hF, rfl, hR⟩

theorem N_then {y : Code} (h : W cx Q y st) : N cx (Exit.then (y.wp cx.P Q) Q) .normal st := h
theorem N_thenL {l : List Oper} (h : WL cx ops Q l st) : N cx (Exit.then (wpList cx.P ops Q l) Q) .normal st := h
theorem N_then_exit {K : Act → World → Prop} {id : Nat} (h : N cx Q (.exit id) st) : N cx (Exit.then K Q) (.exit id) st := h
theorem N_then_ret {K : Act → World → Prop} (h : N cx Q .ret st) : N cx (Exit.then K Q) .ret st := h
theorem N_block {id : Nat} (h : N cx Q .normal st) : N cx (Exit.inBlock id Q) .normal st := h
theorem N_block_ret {id : Nat} (h : N cx Q .ret st) : N cx (Exit.inBlock id Q) .ret st := h
theorem N_block_exit {id : Nat} (h : N cx Q .normal st) : N cx (Exit.inBlock id Q) (.exit id) st := fun T w hR => by
  show (if id = id then _ else _ : Prop)
  rw [if_pos rfl]
  exact h T w hR
theorem N_block_out {id id' : Nat} (hne : Nat.beq id' id = false) (h : N cx Q (.exit id') st) : N cx (Exit.inBlock id Q) (.exit id') st := fun T w hR => by
  show (if id' = id then _ else _ : Prop)
  rw [if_neg (beq_false hne)]
  exact h T w hR

theorem W_region {id : Nat} {l : List Oper} (h : WL cx l.toArray Q l st) : W cx Q (.region id l.toArray false) st := fun T w hR => wp_region_lit (h T w hR)

/-- Operations, evaluated. -/
theorem WL_ev (hE : EnvOK E cx) {orc : List TV} {ob : List Prop} (hev : evL E ops l st orc = some (st', [], ob)) (hob : allP ob) (h : N cx Q .normal st') : WL cx ops Q l st :=
  fun _ _ hR => evL_sound hE hR hev hob h
/-- The first n operations, evaluated. -/
theorem WL_take (hE : EnvOK E cx) (n : Nat) {orc : List TV} {ob : List Prop} (hev : evL E ops (l.take n) st orc = some (st', [], ob)) (hob : allP ob) (h : WL cx ops Q (l.drop n) st') : WL cx ops Q l st := by
  intro T w hR
  have := wpList_append (P := cx.P) (ops := ops) (Q := Q) (l1 := l.take n) (l2 := l.drop n) (evL_sound hE hR hev hob h)
  rwa [List.take_append_drop] at this
theorem WL_nil (h : N cx Q .normal st) : WL cx ops Q [] st := h

theorem R.norm (h : R cx st T w) {ks bs rs : List Nat} (hn : st.norm ks bs rs = some st') : R cx st' T w := let ⟨m, hm⟩ := h; ⟨m, hm.norm hn⟩

/-- What is kept of a state: slots, boxes, rows. -/
def evK (E : Env) (ops : Array Oper) (l : List Oper) (st : St) (orc : List TV) (ks bs rs : List Nat) : Option (St × List TV × List Prop) :=
  match evL E ops l st orc with
  | some (s, o, p) => match s.norm ks bs rs with
    | some s' => some (s', o, p)
    | none => none
  | none => none
theorem evK_some {orc orc' : List TV} {ob : List Prop} {ks bs rs : List Nat} (h : evK E ops l st orc ks bs rs = some (st', orc', ob)) : ∃ s, evL E ops l st orc = some (s, orc', ob) ∧ s.norm ks bs rs = some st' := by
  unfold evK at h
  split at h
  · rename_i s o p hl
    split at h
    · rename_i s' hn
      cases h
      exact ⟨s, hl, hn⟩
    · cases h
  · cases h
theorem N.norm {e : Exit} {ks bs rs : List Nat} (h : N cx Q e st') (hs : st.norm ks bs rs = some st') : N cx Q e st := fun T w hR => h T w (hR.norm hs)
theorem WL.norm {ks bs rs : List Nat} (h : WL cx ops Q l st') (hs : st.norm ks bs rs = some st') : WL cx ops Q l st := fun T w hR => h T w (hR.norm hs)
theorem W.norm {c : Code} {ks bs rs : List Nat} (h : W cx Q c st') (hs : st.norm ks bs rs = some st') : W cx Q c st := fun T w hR => h T w (hR.norm hs)

/-- A whole region, evaluated, and what is kept behind it. -/
theorem W_rg (hE : EnvOK E cx) (ks bs rs : List Nat) {id : Nat} {l : List Oper} {orc : List TV} {ob : List Prop} (hev : evK E l.toArray l st orc ks bs rs = some (st', [], ob)) (hob : allP ob) (h : N cx Q .normal st') :
    W cx Q (.region id l.toArray false) st := by
  obtain ⟨s, h1, h2⟩ := evK_some hev
  exact W_region (WL_ev hE h1 hob (h.norm h2))

end Go.Ev

namespace Go.Ev
open Go Go.RowKit
variable {cx : Cx} {m : Nat → Value} {st st' : St} {T : Array Value} {w w' : World} {E : Env} {Q : Post}

/-- A plain value as what is known of a slot. -/
def tvSV : TV → SV
  | ⟨.ptr t, x⟩ => .vptr t x
  | ⟨t, x⟩ => .val t x
theorem tvSV_rep {M : Nat → Prop} {m : Nat → Value} {v : Value} {u : TV} (h : repV w M v u.t u.x) : repS w M m v (tvSV u) := by
  obtain ⟨t, x⟩ := u
  cases t with
  | ptr t =>
    obtain ⟨a, cells, e, r⟩ := (repV_plain (t := .ptr t) rfl).1 h
    simp only [List.cons.injEq, and_true] at e
    exact ⟨a, cells, e, r⟩
  | _ => exact h
def argSl : Nat → List TV → List (Nat × SV)
  | _, [] => []
  | k, u :: us => (k, tvSV u) :: argSl (k + 1) us

theorem repVs_len {M : Nat → Prop} : ∀ {vs : List Value} {l : List TV}, repVs w M vs l → vs.length = l.length
  | [], [], _ => rfl
  | [], _ :: _, h => h.elim
  | _ :: _, [], h => h.elim
  | _ :: _, _ :: _, ⟨_, h⟩ => by simp [repVs_len h]

theorem argSl_slots {M : Nat → Prop} {m : Nat → Value} : ∀ {vs : List Value} {as : List TV} (k : Nat) {T : Array Value}, repVs w M vs as → (∀ i v, vs[i]? = some v → T[k + i]? = some v) →
    ∀ i sv, (i, sv) ∈ argSl k as → ∃ v, T[i]? = some v ∧ repS w M m v sv
  | [], [], k, T, _, _, i, sv, hi => by simp [argSl] at hi
  | [], _ :: _, _, _, h, _, _, _, _ => h.elim
  | _ :: _, [], _, _, h, _, _, _, _ => h.elim
  | v :: vs, a :: as, k, T, ⟨h1, h2⟩, hT, i, sv, hi => by
    rcases List.mem_cons.1 hi with hi | hi
    · cases hi
      exact ⟨v, by have := hT 0 v rfl; simpa using this, tvSV_rep h1⟩
    · exact argSl_slots (k + 1) h2 (fun j u hj => by have := hT (j + 1) u (by simpa using hj); rw [← this]; congr 1; omega) i sv hi

theorem entry {P : Program} {n : Nat} {M : Nat → Prop} {vs : List Value} {as : List TV} (hM : ∀ b, M b → b < w.heap.size) (hargs : repVs w M vs as) (hn : as.length ≤ n) :
    R ⟨P, n, w, M, fun _ => False, fun _ => undef⟩ ⟨argSl 0 as, [], []⟩ (vs.toArray ++ Array.replicate (n - vs.toArray.size) undef) w := by
  have hl := repVs_len hargs
  refine ⟨fun _ => undef, ?_⟩
  have hmut : ∀ b, Mut ⟨P, n, w, M, fun _ => False, fun _ => undef⟩ (fun _ => undef) (St.ids ⟨argSl 0 as, [], []⟩) b → M b := by
    rintro b (h | ⟨i, hi, _⟩)
    · exact h
    · simp [St.ids] at hi
  refine { size := ?_, frame := Frame.refl _ _, outer := fun b hb => ⟨hM b hb, fun h => h⟩, slots := ?_, boxes := fun b c hb => by simp at hb, rows := fun b c hb => by simp at hb, apart := fun i j hi => by simp [St.ids] at hi, keys := by simp [St.ids], fixed := fun b c hb => by simp at hb }
  · show (vs.toArray ++ Array.replicate (n - vs.toArray.size) undef).size = n
    simp only [Array.size_append, List.size_toArray, Array.size_replicate]
    omega
  · have hs := argSl_slots (m := fun _ => undef) (T := vs.toArray ++ Array.replicate (n - vs.toArray.size) undef) 0 hargs (fun i v hi => by
      rw [Nat.zero_add, Array.getElem?_append_left (by have := (List.getElem?_eq_some_iff.1 hi).1; simpa using this)]
      simpa using hi)
    intro i sv hi
    obtain ⟨v, h1, h2⟩ := hs i sv hi
    exact ⟨v, h1, repS_ext (fun _ _ _ => rfl) (fun b _ hb => hmut b hb) h2⟩

/-- All owned slices given up. -/
def freezeL : List (Nat × RowC) → St → St
  | [], st => st
  | (r, c) :: l, st => freezeL l (match look st.rw r with | some c' => st.freeze r c' | none => st)
def freezeMs : List (Nat × BX) → St → St
  | [], st => st
  | (r, _) :: l, st => freezeMs l (match look st.bx r with | some (.mp k v ps) => st.freezeMp r k v ps | _ => st)
theorem freezeMs_sound : ∀ {l : List (Nat × BX)} {st : St}, Rm cx m st T w → Rm cx m (freezeMs l st) T w
  | [], _, h => h
  | (r, c) :: l, st, h => by
    refine freezeMs_sound (l := l) ?_
    split
    · rename_i k v ps hc; exact h.freezeMp (look_mem hc)
    · exact h
def freezeAll (st : St) : St := freezeMs st.bx (freezeL st.rw st)
theorem freezeL_sound : ∀ {l : List (Nat × RowC)} {st : St}, Rm cx m st T w → Rm cx m (freezeL l st) T w
  | [], _, h => h
  | (r, c) :: l, st, h => by
    refine freezeL_sound (l := l) ?_
    split
    · rename_i c' hc; exact h.freeze (look_mem hc)
    · exact h

def evRes (P : Program) (st : St) : List ResultVar → Option (List TV)
  | [] => some []
  | .tmp t :: l => match look st.sl t, evRes P st l with
    | some (.val u x), some vs => some (⟨u, x⟩ :: vs)
    | _, _ => none
  | .cell a ty' :: l => match look st.sl a, ty P ty', evRes P st l with
    | some (.ptr b off), some u, some vs => match look st.bx b with
      | some (.cells c _) => match pack u (c.drop off) with
        | some (x, _) => some (⟨u, x⟩ :: vs)
        | none => none
      | _ => none
    | some (.bp b []), some u, some vs => match look st.bx b with
      | some (.blk t x _) => match TV.as ⟨t, x⟩ u, Nat.beq u.cells 0 with
        | some y, false => some (⟨u, y⟩ :: vs)
        | _, _ => none
      | _ => none
    | _, _, _ => none

def resOf (T : Array Value) : ResultVar → Sem Value
  | .tmp t => pure (T.getD t undef)
  | .cell a t => do loadVar t (← asAddr (T.getD a undef))

theorem evRes_sound (h : Rm cx m st T w) : ∀ {l : List ResultVar} {rs : List TV}, evRes cx.P st l = some rs →
    ∃ vs, (l.mapM (resOf T)).run cx.P w = .ok vs w ∧ repVs w (Mut cx m st.ids) vs rs
  | [], _, hs => by cases hs; exact ⟨[], by simp, trivial⟩
  | .tmp t :: l, rs, hs => by
    simp only [evRes] at hs
    split at hs
    · rename_i u x vs' hl hr
      cases hs
      obtain ⟨vs, h1, h2⟩ := evRes_sound h hr
      obtain ⟨v, h3, h4⟩ := h.slots t _ (look_mem hl)
      refine ⟨v :: vs, ?_, h4, h2⟩
      have hg : T.getD t undef = v := by rw [Array.getD_eq_getD_getElem?, h3]; rfl
      have h5 : (resOf T (.tmp t)).run cx.P w = .ok v w := by show Sem.run cx.P (pure (T.getD t undef)) w = _; rw [hg, Sem.run_pure]
      rw [List.mapM_cons, Sem.run_bind, h5]
      simp only [Result.andThen_ok, Sem.run_bind, h1, Sem.run_pure]
    · cases hs
  | .cell a t :: l, rs, hs => by
    simp only [evRes] at hs
    split at hs
    · rename_i b off u vs' hl ht hr
      split at hs
      · rename_i c hc
        split at hs
        · rename_i x r hp
          cases hs
          obtain ⟨vs, h1, h2⟩ := evRes_sound h hr
          obtain ⟨v0, h3, g, hg1, hg2⟩ := h.slots a _ (look_mem hl)
          obtain ⟨g', e1, _, cells, e3, e4⟩ := h.boxes b _ (look_mem hc)
          have : g' = g := by rw [hg1] at e1; cases e1; rfl
          subst this
          obtain ⟨_, hd⟩ := repSs_split (w := w) (m := m) off e4
          obtain ⟨c1, c2, hcs, hrep, _⟩ := pack_rep u hd hp
          have hag : u.agg = false → 0 < u.cells := by
            intro hh
            cases u <;> first | (simp [Ty.cells]; done) | (simp [Ty.agg] at hh)
          obtain ⟨v, hv1, hv2⟩ := load_raw (c := c1) ht e3 (fun j v hj => by
            have : (cells.toList.drop off)[j]? = some v := by rw [hcs, List.getElem?_append_left (List.getElem?_eq_some_iff.1 hj).1]; exact hj
            rw [List.getElem?_drop] at this
            simpa using this) (rep_length u hrep) hag
          have hv : repV w (Mut cx m st.ids) v u x := by
            cases hh : u.agg with
            | true => rw [hh, if_pos rfl] at hv2; exact (repV_agg hh).2 ⟨c1, hv2, hrep⟩
            | false => rw [hh] at hv2; simp at hv2; subst hv2; exact (repV_plain hh).2 hrep
          refine ⟨v :: vs, ?_, hv, h2⟩
          have hgd : T.getD a undef = .pointer (some ⟨g', off, none⟩) := by rw [Array.getD_eq_getD_getElem?, h3, hg2]; rfl
          have h5 : (resOf T (.cell a t)).run cx.P w = .ok v w := by
            show Sem.run cx.P (do loadVar t (← asAddr (T.getD a undef))) w = _
            rw [Sem.run_bind, hgd]
            exact hv1 w (Ext.refl w)
          rw [List.mapM_cons, Sem.run_bind, h5]
          simp only [Result.andThen_ok, Sem.run_bind, h1, Sem.run_pure]
        · cases hs
      · cases hs
    · rename_i b u vs' hl ht hr
      split at hs
      · rename_i t' x e hc
        split at hs
        · rename_i y hy hz
          cases hs
          have ey := TV.as_some hy
          cases ey
          obtain ⟨vs, h1, h2⟩ := evRes_sound h hr
          obtain ⟨v0, h3, g, hg1, hg2⟩ := h.slots a _ (look_mem hl)
          obtain ⟨g', e1, _, cells, e3, e4⟩ := h.boxes b _ (look_mem hc)
          have : g' = g := by rw [hg1] at e1; cases e1; rfl
          subst this
          have hpos : 0 < u.cells := Nat.pos_of_ne_zero (beq_false hz)
          obtain ⟨v, hv1, hv2⟩ := load_raw (off := 0) (c := cells.toList) ht e3 (fun j v hj => by rw [Nat.zero_add, ← Array.getElem?_toList]; exact hj) (rep_length u e4) (fun _ => hpos)
          have hv : repV w (Mut cx m st.ids) v u y := by
            cases hag : u.agg with
            | true => rw [hag, if_pos rfl] at hv2; exact (repV_agg hag).2 ⟨_, hv2, e4⟩
            | false => rw [hag] at hv2; simp only [Bool.false_eq_true, if_false] at hv2; rw [hv2] at e4; exact (repV_plain hag).2 e4
          refine ⟨v :: vs, ?_, hv, h2⟩
          have hgd : T.getD a undef = .pointer (some ⟨g', 0, none⟩) := by rw [Array.getD_eq_getD_getElem?, h3, hg2]; rfl
          have h5 : (resOf T (.cell a t)).run cx.P w = .ok v w := by
            show Sem.run cx.P (do loadVar t (← asAddr (T.getD a undef))) w = _
            rw [Sem.run_bind, hgd]
            exact hv1 w (Ext.refl w)
          rw [List.mapM_cons, Sem.run_bind, h5]
          simp only [Result.andThen_ok, Sem.run_bind, h1, Sem.run_pure]
        · cases hs
      · cases hs
    · cases hs

theorem run_results {P : Program} {fn : Func} {T : Array Value} {vs : List Value} (h : (fn.results.toList.mapM (resOf T)).run P w = .ok vs w) :
    (results fn T).run P w = .ok (if h : vs.toArray.size = 1 then vs.toArray[0] else .tuple vs.toArray) w := by
  show Sem.run P (do let vs ← fn.results.mapM (resOf T); pure (if h : vs.size = 1 then vs[0] else .tuple vs)) w = _
  rw [Array.mapM_eq_mapM_toList, Sem.run_bind]
  have e : (Functor.map List.toArray (fn.results.toList.mapM (resOf T))).run P w = .ok vs.toArray w := by
    rw [map_eq_pure_bind, Sem.run_bind, h]
    rfl
  rw [e]
  rfl

/-- What a function's body owes at its end. -/
def Owes (P : Program) (fn : Func) (M : Nat → Prop) (w0 : World) (rs : List TV) : Post :=
  bodyPost P fn fun e w' => ∃ v, e = .returned v ∧ repRes w' M v rs ∧ Ext w0 w'

theorem N_end {P : Program} {n : Nat} {M : Nat → Prop} {w0 : World} {fn : Func} {rs : List TV} {e : Exit} (he : e = .ret ∨ e = .normal) (hev : evRes P (freezeAll st) fn.results.toList = some rs) :
    N ⟨P, n, w0, M, fun _ => False, fun _ => undef⟩ (Owes P fn M w0 rs) e st := by
  rintro T w ⟨m, hm⟩
  have hm' := freezeMs_sound (l := st.bx) (freezeL_sound (l := st.rw) hm)
  obtain ⟨vs, h1, h2⟩ := evRes_sound hm' hev
  have hrun := run_results h1
  have hext : Ext w0 w := { os := hm.frame.os, tape := hm.frame.tape, output := hm.frame.output, size := hm.frame.size, block := fun b hb => hm.frame.block b hb (fun h => h) }
  have h3 : repVs w M vs rs := repVs_ext (fun _ _ _ => rfl) (fun b _ hb => .inl hb) h2
  have hres : repRes w M (if h : vs.toArray.size = 1 then vs.toArray[0] else .tuple vs.toArray) rs := by
    match vs, rs, h3 with
    | [], [], _ => trivial
    | [v], [u], ⟨h, _⟩ => exact h
    | v1 :: v2 :: vs, u1 :: u2 :: us, h =>
      have hne : ¬ (v1 :: v2 :: vs).toArray.size = 1 := by simp
      rw [dif_neg hne]
      exact ⟨_, rfl, h⟩
    | [], _ :: _, h => exact h.elim
    | _ :: _, [], h => exact h.elim
    | [_], _ :: _ :: _, ⟨_, h⟩ => exact h.elim
    | _ :: _ :: _, [_], ⟨_, h⟩ => exact h.elim
  rcases he with rfl | rfl <;> exact ⟨rfl, _, hrun, _, rfl, hres, hext⟩

theorem enters_of {P : Program} {f : FuncId} {fn : Func} {c : Code} (hf : P.funcs[f]? = some fn) (hname : (fn.name == "runtime.NumGoroutine") = false) (hb : fn.body = some c) :
    ∀ args w, (callFunc f args).run P w = .ok (.enter f args) w := by
  intro args w
  have h1 : fn.name ≠ "runtime.NumGoroutine" := by simpa using hname
  simp [callFunc, hf, h1, hb, mark]

/-- A contract, from the body. -/
theorem contract_of {P : Program} {G : World → Prop} (hst : ∀ w w', Frame w w' (fun _ => False) → G w → G w') {f : FuncId} {fn : Func} {c : Code} {F : FnC} (hf : P.funcs[f]? = some fn) (hname : (fn.name == "runtime.NumGoroutine") = false) (hb : fn.body = some c)
    (shape : ∀ as rs, F.rel as rs → as.length ≤ fn.ntmps ∧ rs.length = F.nres ∧ (F.flat = true → ∀ u ∈ rs, u.t.flat = true))
    (body : ∀ (w0 : World) (M : Nat → Prop) (as rs : List TV), (∀ w, Frame w0 w (fun _ => False) → G w) → F.rel as rs → W ⟨P, fn.ntmps, w0, M, fun _ => False, fun _ => undef⟩ (Owes P fn M w0 rs) c ⟨argSl 0 as, [], []⟩) : Contract P G f F where
  enters := enters_of hf hname hb
  shape := fun as rs h => (shape as rs h).2
  calls := fun w M vs as rs hG hM hrel hargs => calls_of_wp hf hb (body w M as rs (fun w' h => hst w w' h hG) hrel _ _ (entry hM hargs (shape as rs hrel).1))

end Go.Ev

namespace Go.Ev
open Go Go.RowKit
variable {cx : Cx} {st st' : St} {E : Env} {Q : Post} {ops : Array Oper} {l : List Oper}

abbrev I64 (x : Int) : SV := .val (.int .i64) x
abbrev I32 (x : Int) : SV := .val (.int .i32) x
abbrev I16 (x : Int) : SV := .val (.int .i16) x
abbrev I8 (x : Int) : SV := .val (.int .i8) x
abbrev U64 (x : Int) : SV := .val (.int .u64) x
abbrev U32 (x : Int) : SV := .val (.int .u32) x
abbrev U16 (x : Int) : SV := .val (.int .u16) x
abbrev U8 (x : Int) : SV := .val (.int .u8) x
abbrev BB (x : Bool) : SV := .val .bool x
abbrev SS (x : List UInt8) : SV := .val .str x
abbrev tI64 (x : Int) : TV := ⟨.int .i64, x⟩
abbrev tI32 (x : Int) : TV := ⟨.int .i32, x⟩
abbrev tI16 (x : Int) : TV := ⟨.int .i16, x⟩
abbrev tI8 (x : Int) : TV := ⟨.int .i8, x⟩
abbrev tU64 (x : Int) : TV := ⟨.int .u64, x⟩
abbrev tU32 (x : Int) : TV := ⟨.int .u32, x⟩
abbrev tU16 (x : Int) : TV := ⟨.int .u16, x⟩
abbrev tU8 (x : Int) : TV := ⟨.int .u8, x⟩
abbrev tB (x : Bool) : TV := ⟨.bool, x⟩
abbrev tS (x : List UInt8) : TV := ⟨.str, x⟩
def wi64 (x : Int) : Int := IntKind.i64.wrap x
def wi32 (x : Int) : Int := IntKind.i32.wrap x
def wi16 (x : Int) : Int := IntKind.i16.wrap x
def wi8 (x : Int) : Int := IntKind.i8.wrap x
def wu64 (x : Int) : Int := IntKind.u64.wrap x
def wu32 (x : Int) : Int := IntKind.u32.wrap x
def wu16 (x : Int) : Int := IntKind.u16.wrap x
def wu8 (x : Int) : Int := IntKind.u8.wrap x

/-- A choice. -/
theorem W_split {c : Code} (S : Bool → St) {b : Bool} (ht : b = true → W cx Q c (S true)) (hf : b = false → W cx Q c (S false)) : W cx Q c (S b) := by cases b with | true => exact ht rfl | false => exact hf rfl
theorem WL_split (S : Bool → St) {b : Bool} (ht : b = true → WL cx ops Q l (S true)) (hf : b = false → WL cx ops Q l (S false)) : WL cx ops Q l (S b) := by cases b with | true => exact ht rfl | false => exact hf rfl

/-- The first n operations, evaluated, and what is kept behind them. -/
theorem WL_tk (hE : EnvOK E cx) (n : Nat) (ks bs rs : List Nat) {orc : List TV} {ob : List Prop} (hev : evK E ops (l.take n) st orc ks bs rs = some (st', [], ob)) (hob : allP ob) (h : WL cx ops Q (l.drop n) st') : WL cx ops Q l st := by
  obtain ⟨s, h1, h2⟩ := evK_some hev
  exact WL_take hE n h1 hob (h.norm h2)
theorem WL_all (hE : EnvOK E cx) (ks bs rs : List Nat) {orc : List TV} {ob : List Prop} (hev : evK E ops l st orc ks bs rs = some (st', [], ob)) (hob : allP ob) (h : N cx Q .normal st') : WL cx ops Q l st := by
  obtain ⟨s, h1, h2⟩ := evK_some hev
  exact WL_ev hE h1 hob (h.norm h2)

/-- Ways that meet again. -/
theorem W_join {α : Type} (F : α → Prop) (S : α → St) {x y : Code} (hy : ∀ a, F a → W cx Q y (S a)) (hx : (∀ a, F a → N cx (Exit.then (y.wp cx.P Q) Q) .normal (S a)) → W cx (Exit.then (y.wp cx.P Q) Q) x st) : W cx Q (.seq x y) st :=
  W_seq (hx fun a ha => N_then (hy a ha))
theorem WL_join {α : Type} (F : α → Prop) (S : α → St) (n : Nat) (hy : ∀ a, F a → WL cx ops Q (l.drop n) (S a)) (hx : (∀ a, F a → N cx (Exit.then (wpList cx.P ops Q (l.drop n)) Q) .normal (S a)) → WL cx ops (Exit.then (wpList cx.P ops Q (l.drop n)) Q) (l.take n) st) : WL cx ops Q l st := by
  intro T w hR
  have := wpList_append (P := cx.P) (ops := ops) (Q := Q) (l1 := l.take n) (l2 := l.drop n) (hx (fun a ha => N_thenL (hy a ha)) T w hR)
  rwa [List.take_append_drop] at this
/-- A block that is left in several ways: they meet behind it. -/
theorem W_meet {α : Type} (F : α → Prop) (S : α → St) {id : Nat} {c : Code} (hy : ∀ a, F a → N cx Q .normal (S a)) (hx : (∀ a, F a → N cx Q .normal (S a)) → W cx (Exit.inBlock id Q) c st) : W cx Q (.block id c) st :=
  W_block (hx hy)

/-- A condition, as an answer. -/
def chk (p : Prop) [Decidable p] : Option Unit := if p then some () else none
theorem chk_some {p : Prop} [Decidable p] {x : Unit} (h : chk p = some x) : p := by
  unfold chk at h
  split at h
  · assumption
  · cases h
theorem and_t {g e : Bool} (h : g = true) : (g && e) = e := by rw [h, Bool.true_and]
theorem and_f {g e : Bool} (h : g = false) : (g && e) = false := by rw [h, Bool.false_and]
theorem or_t {g e : Bool} (h : g = true) : (g || e) = true := by rw [h, Bool.true_or]
theorem or_f {g e : Bool} (h : g = false) : (g || e) = e := by rw [h, Bool.false_or]
theorem bind_some {α β : Type} {o : Option α} {f : α → Option β} {r : β} (h : o.bind f = some r) : ∃ x, o = some x ∧ f x = some r := Option.bind_eq_some_iff.1 h
theorem map_some' {α β : Type} {o : Option α} {f : α → β} {r : β} (h : o.map f = some r) : ∃ x, o = some x ∧ f x = r := Option.map_eq_some_iff.1 h
theorem ite_t {α : Type} {b : Bool} {x y : α} {r : α} (hb : b = true) (h : (if b then x else y) = r) : x = r := by rw [← h, if_pos hb]
theorem ite_f {α : Type} {b : Bool} {x y : α} {r : α} (hb : b = false) (h : (if b then x else y) = r) : y = r := by rw [← h, if_neg (by rw [hb]; decide)]

/-- A list of what a function's callees do, one behind the other. -/
theorem EnvOK.nil {P : Program} {G : World → Prop} {n : Nat} {cx : Cx} (h1 : cx.P = P) (h2 : cx.n = n) (h3 : ∀ w, Frame cx.w0 w cx.X → G w) : EnvOK ⟨P, G, n, []⟩ cx := ⟨h1, h2, h3, fun _ _ h => by cases h⟩
theorem EnvOK.cons {P : Program} {G : World → Prop} {n : Nat} {fns : List (Nat × FnC)} {cx : Cx} {f : Nat} {F : FnC} (hc : Contract P G f F) (h : EnvOK ⟨P, G, n, fns⟩ cx) : EnvOK ⟨P, G, n, (f, F) :: fns⟩ cx :=
  ⟨h.P, h.n, h.glob, fun g G hg => by rcases List.mem_cons.1 hg with hg | hg; cases hg; exact hc; exact h.fns g G hg⟩

end Go.Ev

namespace Go.Ev
open Go Go.RowKit
variable {cx : Cx} {m : Nat → Value} {st st' : St} {T : Array Value} {w w' : World} {E : Env} {Q : Post} {ops : Array Oper} {l : List Oper}

theorem flat_detVs {w w' : World} {M M' : Nat → Prop} : ∀ {vs vs' : List Value} {l : List TV}, (∀ u ∈ l, u.t.flat = true) → repVs w M vs l → repVs w' M' vs' l → vs = vs'
  | [], [], [], _, _, _ => rfl
  | [], _, _ :: _, _, h, _ => h.elim
  | _ :: _, _, [], _, h, _ => h.elim
  | _, [], _ :: _, _, _, h => h.elim
  | _, _ :: _, [], _, _, h => h.elim
  | _ :: _, _ :: _, u :: _, hf, ⟨h1, h2⟩, ⟨h3, h4⟩ => by
    rw [flat_detV (hf u List.mem_cons_self) h1 h3, flat_detVs (fun x hx => hf x (List.mem_cons_of_mem _ hx)) h2 h4]

/-- Results on which no memory hangs, one at least: one value alone reads so. -/
def flatRes : List TV → Bool
  | [] => false
  | l => l.all fun u => u.t.flat
theorem resSV_det {w w' : World} {M M' : Nat → Prop} {m m' : Nat → Value} {v v' : Value} {l : List TV} (hf : flatRes l = true) (h : repS w M m v (resSV l)) (h' : repS w' M' m' v' (resSV l)) : v = v' := by
  match l, hf, h, h' with
  | [u], hf, h, h' => exact flat_detV (by simpa [flatRes] using hf) h h'
  | u1 :: u2 :: us, hf, ⟨vs, e, h⟩, ⟨vs', e', h'⟩ =>
    rw [e, e', flat_detVs (fun u hu => by simp only [flatRes, List.all_eq_true] at hf; exact hf u hu) h h']

/-- One operation of a region that draws. -/
def evD1 (E : Env) (st : St) (o : Oper) (orc : List TV) : Option PR :=
  match evP E.P st o.op orc with
  | some r => some r
  | none => match o.op with
    | .load t x => evLoad E.P st t x orc
    | .call c => match c.callee with
      | .value x => match calleeOf E st x with
        | some (_, F, _) => bif F.flat && flatRes (orc.take F.nres) then evCall E st c orc else none
        | none => none
      | _ => none
    | _ => none
def evD (E : Env) (ops : Array Oper) : List Oper → St → List TV → Option (St × List TV × List Prop)
  | [], st, orc => some (st, orc, [])
  | o :: l, st, orc => match wantSV ops st o with
    | some true => match o.dst, evD1 E st o orc with
      | some d, some r => match Nat.blt d E.n, evD E ops l (st.put d r.sv) r.orc with
        | true, some (st2, orc2, ob2) => some (st2, orc2, r.ob ++ ob2)
        | _, _ => none
      | _, _ => none
    | some false => match o.dst with
      | some d => match Nat.blt d E.n with
        | true => evD E ops l (st.put d .undef) orc
        | false => none
      | none => evD E ops l st orc
    | none => none

theorem calls_exists {P : Program} {f : FuncId} {args : Array Value} {R : Ending → World → Prop} (h : Calls P f args w R) : ∃ e w', R e w' := by
  obtain ⟨e, w', fr, hR, _⟩ := h []
  exact ⟨e, w', hR⟩

theorem evD1_sound (hE : EnvOK E cx) (h : Rm cx m st T w) {o : Oper} {orc : List TV} {r : PR} (hev : evD1 E st o orc = some r) (hob : allP r.ob) :
    ∃ v, (∀ w', Ext w w' → o.quietAt cx.P ⟨T, []⟩ (Ext w) w' v) ∧ repS w (Mut cx m st.ids) m v r.sv := by
  unfold evD1 at hev
  split at hev
  · rename_i r' hp
    cases hev
    rw [← hE.P] at hp
    obtain ⟨v, hd, hv⟩ := evP_sound h hp hob
    refine ⟨v, fun w' he => ?_, hv⟩
    unfold Oper.quietAt
    rw [hd w' he]
    exact ⟨rfl, rfl⟩
  · split at hev
    · rename_i t x hop
      rw [← hE.P] at hev
      obtain ⟨v, hs, hv⟩ := evLoad_sound h hev hob
      refine ⟨v, fun w' he => ?_, hv⟩
      unfold Oper.quietAt
      rw [exec_value (by simp only [execOp, hop]) (hs w' he)]
      exact ⟨rfl, rfl⟩
    · rename_i c hop
      split at hev
      · rename_i xo hc
        split at hev
        · rename_i f F lc hF
          cases hb : F.flat && flatRes (orc.take F.nres) with
          | false => rw [hb] at hev; cases hev
          | true =>
            rw [hb, cond_true] at hev
            simp only [Bool.and_eq_true] at hb
            have hr : r.sv = resSV (orc.take F.nres) := by
              unfold evCall at hev
              rw [hc] at hev
              simp only [hF] at hev
              split at hev
              · cases hn : Nat.ble F.nres orc.length with
                | false => rw [hn] at hev; cases hev
                | true => rw [hn] at hev; cases hev; rfl
              · cases hev
            obtain ⟨f0, args, hrun, hcalls⟩ := evCall_sound hE h hop hev hob
            obtain ⟨e, w1, v, _, hext, hv⟩ := calls_exists hcalls
            refine ⟨v, fun w' he => ?_, ?_⟩
            · obtain ⟨f1, args1, hrun1, hcalls1⟩ := evCall_sound hE (h.ext he) hop hev hob
              unfold Oper.quietAt
              rw [hrun1 w']
              refine ⟨rfl, hcalls1.mono ?_⟩
              rintro e' w2 ⟨v', he', hext', hv'⟩
              rw [hr] at hv hv'
              refine ⟨?_, he.trans hext'⟩
              rw [he', resSV_det hb.2 hv' hv]
            · rw [hr] at hv ⊢
              have hfl : ∀ u ∈ orc.take F.nres, u.t.flat = true := by
                have h2 := hb.2
                intro u hu
                cases hl : orc.take F.nres with
                | nil => rw [hl] at hu; simp at hu
                | cons a as => rw [hl] at h2 hu; simp only [flatRes, List.all_eq_true] at h2; exact h2 u hu
              match hl : orc.take F.nres, hfl, hv with
              | [], _, _ => trivial
              | [u], hfl, hv => exact repV_flat (hfl u List.mem_cons_self) hv
              | _ :: _ :: _, hfl, ⟨vs, e, hvs⟩ => exact ⟨vs, e, repVs_flat hfl hvs⟩
        · cases hev
      · cases hev
    · cases hev

theorem evD_sound (hE : EnvOK E cx) {Q' : Act → Prop} : ∀ {l : List Oper} {st : St} {T : Array Value} {orc orc' : List TV} {st' : St} {ob : List Prop}, R cx st T w → evD E ops l st orc = some (st', orc', ob) → allP ob →
    (∀ T', R cx st' T' w → Q' ⟨T', []⟩) → wpQuiet cx.P ops (Ext w) Q' l ⟨T, []⟩
  | [], st, T, _, _, _, _, h, hev, _, hQ => by
    cases hev
    exact hQ T h
  | o :: l, st, T, orc, orc', st', ob, h, hev, hob, hQ => by
    unfold evD at hev
    unfold wpQuiet
    split at hev
    · rename_i hw
      rw [wantSV_sound h hw]
      simp only [if_true]
      split at hev
      · rename_i d r hd hr
        split at hev
        · rename_i st2 orc2 ob2 hdn hl
          cases hev
          obtain ⟨ha, hb⟩ := allP_append hob
          obtain ⟨m, hm⟩ := h
          obtain ⟨v, hq, hv⟩ := evD1_sound hE hm hr ha
          refine ⟨v, hq, ?_⟩
          rw [hd]
          exact evD_sound hE ⟨m, hm.put (by rw [hE.n]; exact blt_true hdn) hv⟩ hl hb hQ
        · cases hev
      · cases hev
    · rename_i hw
      rw [wantSV_sound h hw]
      simp only [Bool.false_eq_true, if_false]
      split at hev
      · rename_i d hd
        split at hev
        · rename_i hdn
          obtain ⟨m, hm⟩ := h
          rw [hd]
          exact evD_sound hE ⟨m, hm.put (d := d) (s := .undef) (v := undef) (by rw [hE.n]; exact blt_true hdn) rfl⟩ hev hob hQ
        · cases hev
      · rename_i hd
        rw [hd]
        exact evD_sound hE h hev hob hQ
    · cases hev

/-- What is shown of a region that draws, operation by operation. -/
def WD (cx : Cx) (ops : Array Oper) (Q : Post) (l : List Oper) (st : St) : Prop := ∀ T w, R cx st T w → wpQuiet cx.P ops (Ext w) (fun a => ∀ w', Ext w w' → Q .normal a w') l ⟨T, []⟩

theorem W_draw {E : Env} (hE : EnvOK E cx) {id : Nat} {l : List Oper} (hm : E.P.follows .mixedOrders = true) (hB : Region.lexB .any l.toArray = true) (h : WD cx l.toArray Q l st) : W cx Q (.region id l.toArray true) st := fun T w hR =>
  wp_region_quiet (C := Ext w) (hE.P ▸ hm) hB { os := rfl, tape := rfl, output := rfl, size := Nat.le_refl _, block := fun _ _ => rfl } (by simpa using h T w hR)
theorem R.ext (h : R cx st T w) (he : Ext w w') : R cx st T w' := let ⟨m, hm⟩ := h; ⟨m, hm.ext he⟩

theorem wpQuiet_append {P : Program} {C : World → Prop} {Q' : Act → Prop} : ∀ {l1 l2 : List Oper} {a : Act}, wpQuiet P ops C (wpQuiet P ops C Q' l2) l1 a → wpQuiet P ops C Q' (l1 ++ l2) a
  | [], _, _, h => h
  | o :: l1, l2, a, h => by
    simp only [List.cons_append, wpQuiet] at h ⊢
    split
    · rename_i hw
      rw [if_pos hw] at h
      exact Oper.quiet_mono (fun a => wpQuiet_append) h
    · rename_i hw
      rw [if_neg hw] at h
      exact wpQuiet_append h

def evDK (E : Env) (ops : Array Oper) (l : List Oper) (st : St) (orc : List TV) (ks bs rs : List Nat) : Option (St × List TV × List Prop) :=
  match evD E ops l st orc with
  | some (s, o, p) => match s.norm ks bs rs with
    | some s' => some (s', o, p)
    | none => none
  | none => none
theorem evDK_some {orc orc' : List TV} {ob : List Prop} {ks bs rs : List Nat} (h : evDK E ops l st orc ks bs rs = some (st', orc', ob)) : ∃ s, evD E ops l st orc = some (s, orc', ob) ∧ s.norm ks bs rs = some st' := by
  unfold evDK at h
  split at h
  · rename_i s o p hl
    split at h
    · rename_i s' hn
      cases h
      exact ⟨s, hl, hn⟩
    · cases h
  · cases h
theorem WD_all (hE : EnvOK E cx) (ks bs rs : List Nat) {orc : List TV} {ob : List Prop} (hev : evDK E ops l st orc ks bs rs = some (st', [], ob)) (hob : allP ob) (h : N cx Q .normal st') : WD cx ops Q l st := by
  obtain ⟨s, h1, h2⟩ := evDK_some hev
  intro T w hR
  exact evD_sound hE hR h1 hob fun T' hR' w' he => h T' w' ((hR'.norm h2).ext he)
theorem WD_tk (hE : EnvOK E cx) (n : Nat) (ks bs rs : List Nat) {orc : List TV} {ob : List Prop} (hev : evDK E ops (l.take n) st orc ks bs rs = some (st', [], ob)) (hob : allP ob) (h : WD cx ops Q (l.drop n) st') : WD cx ops Q l st := by
  obtain ⟨s, h1, h2⟩ := evDK_some hev
  intro T w hR
  have := wpQuiet_append (P := cx.P) (ops := ops) (l1 := l.take n) (l2 := l.drop n) (evD_sound hE hR h1 hob fun T' hR' => h T' w (hR'.norm h2))
  rwa [List.take_append_drop] at this
theorem WD_split (S : Bool → St) {b : Bool} (ht : b = true → WD cx ops Q l (S true)) (hf : b = false → WD cx ops Q l (S false)) : WD cx ops Q l (S b) := by cases b with | true => exact ht rfl | false => exact hf rfl
/-- The middle of a region, and what is known behind it: 'ND'. -/
def ND (cx : Cx) (K : World → Act → Prop) (st : St) : Prop := ∀ T w, R cx st T w → K w ⟨T, []⟩
def WDK (cx : Cx) (ops : Array Oper) (K : World → Act → Prop) (l : List Oper) (st : St) : Prop := ∀ T w, R cx st T w → wpQuiet cx.P ops (Ext w) (K w) l ⟨T, []⟩
theorem WD_join {α : Type} (F : α → Prop) (S : α → St) (n : Nat) (hy : ∀ a, F a → WD cx ops Q (l.drop n) (S a))
    (hx : ∀ K, (∀ a, F a → ND cx K (S a)) → WDK cx ops K (l.take n) st) : WD cx ops Q l st := by
  intro T w hR
  have := wpQuiet_append (P := cx.P) (ops := ops) (l1 := l.take n) (l2 := l.drop n)
    (hx (fun w => wpQuiet cx.P ops (Ext w) (fun a => ∀ w', Ext w w' → Q .normal a w') (l.drop n)) (fun a ha T w hR => hy a ha T w hR) T w hR)
  rwa [List.take_append_drop] at this
theorem WDK_split {K : World → Act → Prop} (S : Bool → St) {b : Bool} (ht : b = true → WDK cx ops K l (S true)) (hf : b = false → WDK cx ops K l (S false)) : WDK cx ops K l (S b) := by cases b with | true => exact ht rfl | false => exact hf rfl
theorem WDK_all {K : World → Act → Prop} (hE : EnvOK E cx) (ks bs rs : List Nat) {orc : List TV} {ob : List Prop} (hev : evDK E ops l st orc ks bs rs = some (st', [], ob)) (hob : allP ob) (h : ND cx K st') : WDK cx ops K l st := by
  obtain ⟨s, h1, h2⟩ := evDK_some hev
  intro T w hR
  exact evD_sound hE hR h1 hob fun T' hR' => h T' w (hR'.norm h2)
theorem WDK_tk {K : World → Act → Prop} (hE : EnvOK E cx) (n : Nat) (ks bs rs : List Nat) {orc : List TV} {ob : List Prop} (hev : evDK E ops (l.take n) st orc ks bs rs = some (st', [], ob)) (hob : allP ob) (h : WDK cx ops K (l.drop n) st') : WDK cx ops K l st := by
  obtain ⟨s, h1, h2⟩ := evDK_some hev
  intro T w hR
  have := wpQuiet_append (P := cx.P) (ops := ops) (l1 := l.take n) (l2 := l.drop n) (evD_sound hE hR h1 hob fun T' hR' => h T' w (hR'.norm h2))
  rwa [List.take_append_drop] at this

end Go.Ev

namespace Go.Ev
open Go Go.RowKit
variable {cx : Cx} {m : Nat → Value} {st st' : St} {T : Array Value} {w w' : World} {E : Env} {Q : Post} {ops : Array Oper} {l : List Oper}

def renL (ρ : List (Nat × Nat)) : List Nat → Option (List Nat)
  | [] => some []
  | b :: bs => match look ρ b, renL ρ bs with
    | some b', some bs' => some (b' :: bs')
    | _, _ => none
def renTRs (ρ : List (Nat × Nat)) : List TR → Option (List TR)
  | [] => some []
  | .v u :: l => match renTRs ρ l with
    | some l' => some (.v u :: l')
    | none => none
  | .r b :: l => match look ρ b, renTRs ρ l with
    | some b', some l' => some (.r b' :: l')
    | _, _ => none
/-- Other names for boxes and rows; what has no other name is forgotten. -/
def SV.ren (ρ : List (Nat × Nat)) : SV → SV
  | .ptr b off => match look ρ b with
    | some b' => .ptr b' off
    | none => .any
  | .selfp b => match look ρ b with
    | some b' => .selfp b'
    | none => .any
  | .row b => match look ρ b with
    | some b' => .row b'
    | none => .any
  | .rptr b i off sz => match look ρ b with
    | some b' => .rptr b' i off sz
    | none => .any
  | .iter b => match look ρ b with
    | some b' => .iter b'
    | none => .any
  | .bp b p => match look ρ b with
    | some b' => .bp b' p
    | none => .any
  | .clos f bs => match renL ρ bs with
    | some bs' => .clos f bs'
    | none => .any
  | .tups l => match renTRs ρ l with
    | some l' => .tups l'
    | none => .any
  | s => s

def passBx (ρ : List (Nat × Nat)) (bx : List (Nat × BX)) : List (Nat × Nat) → List (Nat × BX)
  | [] => []
  | (i, j) :: l => match look bx i with
    | some c => (j, c.map (SV.ren ρ)) :: passBx ρ bx l
    | none => passBx ρ bx l
def passRw (rw : List (Nat × RowC)) : List (Nat × Nat) → List (Nat × RowC)
  | [] => []
  | (i, j) :: l => match look rw i with
    | some c => (j, c) :: passRw rw l
    | none => passRw rw l
theorem passBx_mem {ρ : List (Nat × Nat)} {bx : List (Nat × BX)} : ∀ {l : List (Nat × Nat)} {j : Nat} {c' : BX}, (j, c') ∈ passBx ρ bx l → ∃ i c, (i, j) ∈ l ∧ (i, c) ∈ bx ∧ c' = c.map (SV.ren ρ)
  | [], _, _, h => by simp [passBx] at h
  | (i, j0) :: l, j, c', h => by
    unfold passBx at h
    split at h
    · rename_i c hc
      rcases List.mem_cons.1 h with h | h
      · cases h; exact ⟨i, c, List.mem_cons_self, look_mem hc, rfl⟩
      · obtain ⟨i', c2, h1, h2⟩ := passBx_mem h; exact ⟨i', c2, List.mem_cons_of_mem _ h1, h2⟩
    · obtain ⟨i', c2, h1, h2⟩ := passBx_mem h; exact ⟨i', c2, List.mem_cons_of_mem _ h1, h2⟩
theorem passRw_mem {rw : List (Nat × RowC)} : ∀ {l : List (Nat × Nat)} {j : Nat} {c : RowC}, (j, c) ∈ passRw rw l → ∃ i, (i, j) ∈ l ∧ (i, c) ∈ rw
  | [], _, _, h => by simp [passRw] at h
  | (i, j0) :: l, j, c', h => by
    unfold passRw at h
    split at h
    · rename_i c hc
      rcases List.mem_cons.1 h with h | h
      · cases h; exact ⟨i, List.mem_cons_self, look_mem hc⟩
      · obtain ⟨i', h1, h2⟩ := passRw_mem h; exact ⟨i', List.mem_cons_of_mem _ h1, h2⟩
    · obtain ⟨i', h1, h2⟩ := passRw_mem h; exact ⟨i', List.mem_cons_of_mem _ h1, h2⟩

def inv (ρ : List (Nat × Nat)) (j : Nat) : Option Nat := look (ρ.map fun p => (p.2, p.1)) j
theorem look_of_mem {α : Type} : ∀ {l : List (Nat × α)} {n : Nat} {v : α}, (l.map (·.1)).Nodup → (n, v) ∈ l → look l n = some v
  | [], _, _, _, h => by simp at h
  | (k, u) :: r, n, v, hn, h => by
    simp only [List.map_cons, List.nodup_cons] at hn
    unfold look
    rcases List.mem_cons.1 h with h | h
    · cases h; simp [Nat.beq_refl]
    · cases hb : Nat.beq k n with
      | true =>
        have e := Nat.eq_of_beq_eq_true hb
        subst e
        exact absurd (List.mem_map.2 ⟨_, h, rfl⟩) hn.1
      | false => exact look_of_mem hn.2 h
theorem inv_mem {ρ : List (Nat × Nat)} {i j : Nat} (hn : (ρ.map (·.2)).Nodup) (h : (i, j) ∈ ρ) : inv ρ j = some i := by
  refine look_of_mem ?_ (List.mem_map.2 ⟨_, h, rfl⟩)
  simpa [List.map_map, Function.comp_def] using hn
theorem mem_inv {ρ : List (Nat × Nat)} {i j : Nat} (h : inv ρ j = some i) : (i, j) ∈ ρ := by
  obtain ⟨p, hp, he⟩ := List.mem_map.1 (look_mem h)
  cases he
  exact hp

theorem renL_map {ρ : List (Nat × Nat)} {m m' : Nat → Value} (hm : ∀ i j, (i, j) ∈ ρ → m' j = m i) : ∀ {bs bs' : List Nat}, renL ρ bs = some bs' → bs'.map m' = bs.map m
  | [], _, h => by cases h; rfl
  | b :: bs, bs', h => by
    unfold renL at h
    split at h
    · rename_i b' bs2 h1 h2
      cases h
      rw [List.map_cons, List.map_cons, hm _ _ (look_mem h1), renL_map hm h2]
    · cases h
theorem renTRs_rep {ρ : List (Nat × Nat)} {M : Nat → Prop} {m m' : Nat → Value} (hm : ∀ i j, (i, j) ∈ ρ → m' j = m i) : ∀ {vs : List Value} {l l' : List TR}, renTRs ρ l = some l' → repTRs w M m vs l → repTRs w M m' vs l'
  | vs, [], _, h, hr => by cases h; cases vs <;> exact hr
  | [], .v _ :: _, _, _, hr => hr.elim
  | [], .r _ :: _, _, _, hr => hr.elim
  | v :: vs, .v u :: l, l', h, hr => by
    unfold renTRs at h
    split at h
    · rename_i l2 h2; cases h; exact ⟨hr.1, renTRs_rep hm h2 hr.2⟩
    · cases h
  | v :: vs, .r b :: l, l', h, hr => by
    unfold renTRs at h
    split at h
    · rename_i b' l2 h1 h2; cases h; exact ⟨by rw [hm _ _ (look_mem h1)]; exact hr.1, renTRs_rep hm h2 hr.2⟩
    · cases h
theorem ren_rep {ρ : List (Nat × Nat)} {M : Nat → Prop} {m m' : Nat → Value} (hm : ∀ i j, (i, j) ∈ ρ → m' j = m i) {v : Value} {s : SV} (h : repS w M m v s) : repS w M m' v (s.ren ρ) := by
  cases s with
  | any => trivial
  | undef => exact h
  | val t x => exact h
  | tup l => exact h
  | vptr t x => exact h
  | ptr b off =>
    simp only [SV.ren]
    split
    · rename_i b' hb; obtain ⟨g, h1, h2⟩ := h; exact ⟨g, by rw [hm _ _ (look_mem hb)]; exact h1, h2⟩
    · trivial
  | selfp b =>
    simp only [SV.ren]
    split
    · rename_i b' hb; show _ ∨ v = m' b'; rw [hm _ _ (look_mem hb)]; exact h
    · trivial
  | row b =>
    simp only [SV.ren]
    split
    · rename_i b' hb; show v = m' b'; rw [hm _ _ (look_mem hb)]; exact h
    · trivial
  | rptr b i off sz =>
    simp only [SV.ren]
    split
    · rename_i b' hb; obtain ⟨g, n, cap, h1, h2⟩ := h; exact ⟨g, n, cap, by rw [hm _ _ (look_mem hb)]; exact h1, h2⟩
    · trivial
  | iter b =>
    simp only [SV.ren]
    split
    · rename_i b' hb; show v = m' b'; rw [hm _ _ (look_mem hb)]; exact h
    · trivial
  | bp b p =>
    simp only [SV.ren]
    split
    · rename_i b' hb; obtain ⟨g, h1, h2⟩ := h; exact ⟨g, by rw [hm _ _ (look_mem hb)]; exact h1, h2⟩
    · trivial
  | clos f bs =>
    simp only [SV.ren]
    split
    · rename_i bs' hb; show v = _; rw [renL_map hm hb]; exact h
    · trivial
  | tups l =>
    simp only [SV.ren]
    split
    · rename_i l' hl; obtain ⟨vs, e, hr⟩ := h; exact ⟨vs, e, renTRs_rep hm hl hr⟩
    · trivial

def argSlS : Nat → List SV → List (Nat × SV)
  | _, [] => []
  | k, u :: us => (k, u) :: argSlS (k + 1) us
theorem argSlS_slots {M : Nat → Prop} {m : Nat → Value} : ∀ {vs : List Value} {as : List SV} (k : Nat) {T : Array Value}, repSs w M m vs as → (∀ i v, vs[i]? = some v → T[k + i]? = some v) →
    ∀ i sv, (i, sv) ∈ argSlS k as → ∃ v, T[i]? = some v ∧ repS w M m v sv
  | [], [], k, T, _, _, i, sv, hi => by simp [argSlS] at hi
  | [], _ :: _, _, _, h, _, _, _, _ => h.elim
  | _ :: _, [], _, _, h, _, _, _, _ => h.elim
  | v :: vs, a :: as, k, T, ⟨h1, h2⟩, hT, i, sv, hi => by
    rcases List.mem_cons.1 hi with hi | hi
    · cases hi
      exact ⟨v, by have := hT 0 v rfl; simpa using this, h1⟩
    · exact argSlS_slots (k + 1) h2 (fun j u hj => by have := hT (j + 1) u (by simpa using hj); rw [← this]; congr 1; omega) i sv hi

/-- The callee's state when it is entered. -/
def enterSt (st : St) (n : Nat) (ρ : List (Nat × Nat)) (as : List SV) : Option St :=
  match nodupB (ρ.map (·.1)), nodupB (ρ.map (·.2)), nodupB (St.ids ⟨[], passBx ρ st.bx ρ, passRw st.rw ρ⟩), Nat.ble as.length n with
  | true, true, true, true => some ⟨argSlS 0 (as.map (SV.ren ρ)), passBx ρ st.bx ρ, passRw st.rw ρ⟩
  | _, _, _, _ => none

/-- The callee's own frame of what may change. -/
def sub (cx : Cx) (m : Nat → Value) (st : St) (w : World) (n : Nat) (ρ : List (Nat × Nat)) : Cx :=
  { P := cx.P, n := n, w0 := w, X := fun b => ∃ i j, (i, j) ∈ ρ ∧ i ∈ st.ids ∧ blk (m i) = some b,
    A := fun b => Mut cx m st.ids b ∧ ¬ ∃ i j, (i, j) ∈ ρ ∧ i ∈ st.ids ∧ blk (m i) = some b, m0 := fun j => match inv ρ j with | some i => m i | none => undef }

theorem pass_ids {ρ : List (Nat × Nat)} {sl : List (Nat × SV)} {j : Nat} (hj : j ∈ St.ids ⟨sl, passBx ρ st.bx ρ, passRw st.rw ρ⟩) : ∃ i, (i, j) ∈ ρ ∧ i ∈ st.ids := by
  rcases List.mem_append.1 hj with hj | hj
  · obtain ⟨⟨j', c⟩, hp, rfl⟩ := List.mem_map.1 hj
    obtain ⟨i, c', h1, h2, _⟩ := passBx_mem hp
    exact ⟨i, h1, List.mem_append.2 (.inl (List.mem_map.2 ⟨_, h2, rfl⟩))⟩
  · obtain ⟨⟨j', c⟩, hp, rfl⟩ := List.mem_map.1 hj
    obtain ⟨i, h1, h2⟩ := passRw_mem hp
    exact ⟨i, h1, List.mem_append.2 (.inr (List.mem_map.2 ⟨_, h2, rfl⟩))⟩

theorem nodup_fst {α : Type} {l : List (Nat × α)} (hn : (l.map (·.1)).Nodup) {i : Nat} {a b : α} (h1 : (i, a) ∈ l) (h2 : (i, b) ∈ l) : a = b := by
  have e1 := look_of_mem hn h1
  have e2 := look_of_mem hn h2
  rw [e1] at e2
  exact Option.some.inj e2

theorem repSs_len {M : Nat → Prop} : ∀ {c : List Value} {l : List SV}, repSs w M m c l → c.length = l.length := repSs_length

theorem enter_sound (h : Rm cx m st T w) {n : Nat} {ρ : List (Nat × Nat)} {as : List SV} {S0 : St} (he : enterSt st n ρ as = some S0) {vs : List Value} (hvs : repSs w (Mut cx m st.ids) m vs as) :
    Rm (sub cx m st w n ρ) (sub cx m st w n ρ).m0 S0 (vs.toArray ++ Array.replicate (n - vs.toArray.size) undef) w := by
  unfold enterSt at he
  split at he
  case h_2 => cases he
  rename_i k1 k2 k3 k4
  cases he
  have k1 := nodupB_sound k1
  have k2 := nodupB_sound k2
  have k3 := nodupB_sound k3
  have k4 := Nat.le_of_ble_eq_true k4
  have hm : ∀ i j, (i, j) ∈ ρ → (sub cx m st w n ρ).m0 j = m i := by
    intro i j hij
    show (match inv ρ j with | some i => m i | none => undef) = m i
    rw [inv_mem k2 hij]
  have hlen := repSs_length hvs
  have hmut : ∀ b, b < w.heap.size → Mut (sub cx m st w n ρ) (sub cx m st w n ρ).m0 (St.ids ⟨argSlS 0 (as.map (SV.ren ρ)), passBx ρ st.bx ρ, passRw st.rw ρ⟩) b → Mut cx m st.ids b := by
    rintro b _ (hA | ⟨j, hj, hb⟩)
    · exact hA.1
    · obtain ⟨i, hij, hi⟩ := pass_ids hj
      rw [hm i j hij] at hb
      exact .inr ⟨i, hi, hb⟩
  have kw : ∀ b, b < w.heap.size → ¬ Mut cx m st.ids b → w.heap[b]? = w.heap[b]? := fun _ _ _ => rfl
  have hs : ∀ v s, repS w (Mut cx m st.ids) m v s → repS w (Mut (sub cx m st w n ρ) (sub cx m st w n ρ).m0 (St.ids ⟨argSlS 0 (as.map (SV.ren ρ)), passBx ρ st.bx ρ, passRw st.rw ρ⟩)) (sub cx m st w n ρ).m0 v (s.ren ρ) :=
    fun v s hv => ren_rep hm (repS_ext kw hmut hv)
  refine { size := ?_, frame := Frame.refl _ _, outer := fun b hb => ⟨h.mut_lt hb.1, hb.2⟩, slots := ?_, boxes := ?_, rows := ?_, apart := ?_, keys := k3, fixed := fun _ _ _ _ => rfl }
  · show (vs.toArray ++ Array.replicate (n - vs.toArray.size) undef).size = n
    simp only [Array.size_append, List.size_toArray, Array.size_replicate]
    omega
  · have hvs' : repSs w (Mut (sub cx m st w n ρ) (sub cx m st w n ρ).m0 (St.ids ⟨argSlS 0 (as.map (SV.ren ρ)), passBx ρ st.bx ρ, passRw st.rw ρ⟩)) (sub cx m st w n ρ).m0 vs (as.map (SV.ren ρ)) := repSs_map hs hvs
    exact argSlS_slots 0 hvs' (fun i v hi => by
      rw [Nat.zero_add, Array.getElem?_append_left (by have := (List.getElem?_eq_some_iff.1 hi).1; simpa using this)]
      simpa using hi)
  · intro j c' hj
    obtain ⟨i, c, hij, hi, rfl⟩ := passBx_mem hj
    obtain ⟨g, e1, e2, e3⟩ := h.boxes i c hi
    have hii : i ∈ st.ids := List.mem_append.2 (.inl (List.mem_map.2 ⟨_, hi, rfl⟩))
    refine ⟨g, by rw [hm i j hij, mval_map]; exact e1, .inr ⟨i, j, hij, hii, by rw [e1, mval_blk]⟩, objOK_map kw hmut rfl hs e3⟩
  · intro j c hj
    obtain ⟨i, hij, hi⟩ := passRw_mem hj
    obtain ⟨cells, e1, e2, e3⟩ := h.rows i c hi
    have hii : i ∈ st.ids := List.mem_append.2 (.inr (List.mem_map.2 ⟨_, hi, rfl⟩))
    refine ⟨cells, by rw [hm i j hij]; exact e1, fun g hg => .inr ⟨i, j, hij, hii, by rw [hm i j hij] at hg; exact hg⟩, repL_mono (fun _ _ => rep_ext kw hmut c.t) e3⟩
  · intro j1 j2 h1 h2 hne g hg hg'
    obtain ⟨i1, a1, b1⟩ := pass_ids h1
    obtain ⟨i2, a2, b2⟩ := pass_ids h2
    rw [hm _ _ a1] at hg
    rw [hm _ _ a2] at hg'
    refine h.apart i1 i2 b1 b2 ?_ g hg hg'
    rintro rfl
    exact hne (nodup_fst k1 a1 a2)

/-- What refers to one of these is forgotten. -/
def SV.scrubL (D : List Nat) (s : SV) : SV := bif D.any (fun r => s.refs r) then .any else s
def memB (i : Nat) (l : List Nat) : Bool := l.any (Nat.beq i)
theorem memB_iff {i : Nat} {l : List Nat} : memB i l = true ↔ i ∈ l := by
  unfold memB
  rw [List.any_eq_true]
  constructor
  · rintro ⟨x, hx, he⟩; rw [Nat.eq_of_beq_eq_true he]; exact hx
  · intro hi; exact ⟨i, hi, Nat.beq_refl i⟩

/-- What no longer stands under its name: rows that were handed on; new names. -/
def gone (st : St) (ρ ρ' : List (Nat × Nat)) : List Nat :=
  (ρ.map (·.1)).filter (fun i => (look st.rw i).isSome) ++ (ρ'.map (·.2)).filter (fun j => !((look st.bx j).isSome && memB j (ρ.map (·.1))))
def notIn {α : Type} (ks : List Nat) (l : List (Nat × α)) : List (Nat × α) := l.filter fun p => !(memB p.1 ks)
/-- May a name of the callee's become this one of the caller's? -/
def backOK (st S1 : St) (n nc : Nat) (ρ : List (Nat × Nat)) (p : Nat × Nat) : Bool :=
  match look ρ p.2 with
  | some i => Nat.beq i p.1 && (Nat.ble n p.1 && ((look st.bx p.2).isSome == (look S1.bx p.1).isSome))
  | none => !(memB p.2 st.ids) && !(memB p.2 (ρ.map (·.1))) && (Nat.blt p.2 nc || (look S1.bx p.1).isNone)
/-- The caller's state behind the call. -/
def leaveSt (st S1 : St) (n nc : Nat) (ρ ρ' : List (Nat × Nat)) : Option St :=
  match nodupB (ρ'.map (·.1)), nodupB (ρ'.map (·.2)), ρ'.all (backOK st S1 n nc ρ), nodupB ((notIn (ρ.map (·.1)) st.bx ++ passBx ρ' S1.bx ρ').map (·.1) ++ (notIn (ρ.map (·.1)) st.rw ++ passRw S1.rw ρ').map (·.1)) with
  | true, true, true, true => some
    { sl := st.sl.map fun p => (p.1, p.2.scrubL (gone st ρ ρ')),
      bx := (notIn (ρ.map (·.1)) st.bx).map (fun p => (p.1, p.2.map (SV.scrubL (gone st ρ ρ')))) ++ passBx ρ' S1.bx ρ',
      rw := notIn (ρ.map (·.1)) st.rw ++ passRw S1.rw ρ' }
  | _, _, _, _ => none
end Go.Ev

namespace Go.Ev
open Go Go.RowKit
variable {cx : Cx} {m : Nat → Value} {st st' : St} {T : Array Value} {w w' : World} {E : Env} {Q : Post} {ops : Array Oper} {l : List Oper}

theorem scrubL_none {D : List Nat} {s : SV} (h : D.any (fun r => s.refs r) = false) {b : Nat} (hb : s.refs b = true) : b ∉ D := by
  intro hd
  have := List.any_eq_false.1 h b hd
  exact this hb
theorem repTRs_mm {M : Nat → Prop} {m2 : Nat → Value} : ∀ {vs : List Value} {l : List TR}, (∀ b, (l.any fun | .v _ => false | .r c => Nat.beq c b) = true → m2 b = m b) → repTRs w M m vs l → repTRs w M m2 vs l
  | [], [], _, _ => trivial
  | [], _ :: _, _, h => h.elim
  | _ :: _, [], _, h => h.elim
  | _ :: _, .v _ :: _, hb, ⟨h1, h2⟩ => ⟨h1, repTRs_mm (fun b hh => hb b (by rw [List.any_cons]; simpa using hh)) h2⟩
  | _ :: _, .r c :: _, hb, ⟨h1, h2⟩ => ⟨by rw [hb c (by rw [List.any_cons]; show (Nat.beq c c || _) = true; rw [Nat.beq_refl, Bool.true_or])]; exact h1, repTRs_mm (fun b hh => hb b (by rw [List.any_cons, hh, Bool.or_true])) h2⟩
theorem scrubL_rep {M : Nat → Prop} {m2 : Nat → Value} {D : List Nat} (hm : ∀ b, b ∉ D → m2 b = m b) {v : Value} {s : SV} (h : repS w M m v s) : repS w M m2 v (s.scrubL D) := by
  unfold SV.scrubL
  cases hd : D.any (fun r => s.refs r) with
  | true => trivial
  | false =>
    have key : ∀ b, s.refs b = true → m2 b = m b := fun b hb => hm b (scrubL_none hd hb)
    show repS w M m2 v s
    cases s with
    | any => trivial
    | undef => exact h
    | val t x => exact h
    | tup l => exact h
    | vptr t x => exact h
    | ptr b off => obtain ⟨g, h1, h2⟩ := h; exact ⟨g, by rw [key b (Nat.beq_refl b)]; exact h1, h2⟩
    | selfp b => show _ ∨ v = m2 b; rw [key b (Nat.beq_refl b)]; exact h
    | row b => show v = m2 b; rw [key b (Nat.beq_refl b)]; exact h
    | rptr b i off sz => obtain ⟨g, n, cap, h1, h2⟩ := h; exact ⟨g, n, cap, by rw [key b (Nat.beq_refl b)]; exact h1, h2⟩
    | iter b => show v = m2 b; rw [key b (Nat.beq_refl b)]; exact h
    | bp b p => obtain ⟨g, h1, h2⟩ := h; exact ⟨g, by rw [key b (Nat.beq_refl b)]; exact h1, h2⟩
    | clos f bs =>
      have e : bs.map m2 = bs.map m := List.map_congr_left fun b hb => key b (List.any_eq_true.2 ⟨b, hb, Nat.beq_refl b⟩)
      show v = _
      rw [e]
      exact h
    | tups l => obtain ⟨vs, e, hr⟩ := h; exact ⟨vs, e, repTRs_mm key hr⟩

theorem look_isSome {α : Type} {l : List (Nat × α)} {i : Nat} {c : α} (h : (i, c) ∈ l) : (look l i).isSome = true := by
  induction l with
  | nil => simp at h
  | cons p r ih =>
    obtain ⟨k, u⟩ := p
    unfold look
    cases hb : Nat.beq k i with
    | true => rfl
    | false =>
      rcases List.mem_cons.1 h with h | h
      · cases h; rw [Nat.beq_refl] at hb; cases hb
      · exact ih h

theorem notIn_mem {α : Type} {ks : List Nat} {l : List (Nat × α)} {p : Nat × α} (h : p ∈ notIn ks l) : p ∈ l ∧ p.1 ∉ ks := by
  obtain ⟨h1, h2⟩ := List.mem_filter.1 h
  refine ⟨h1, fun hk => ?_⟩
  rw [memB_iff.2 hk] at h2
  cases h2

theorem leave_sound (h : Rm cx m st T w) {n : Nat} {ρ ρ' : List (Nat × Nat)} {S1 st1 : St} {m1 : Nat → Value} {T1 : Array Value} {w1 : World} (k1 : (ρ.map (·.1)).Nodup) (k2 : (ρ.map (·.2)).Nodup)
    (h1 : Rm (sub cx m st w n ρ) m1 S1 T1 w1) (hl : leaveSt st S1 n cx.n ρ ρ' = some st1) :
    ∃ m2, Rm cx m2 st1 T w1 ∧ ∀ v s, repS w1 (Mut (sub cx m st w n ρ) m1 S1.ids) m1 v s → repS w1 (Mut cx m2 st1.ids) m2 v (s.ren ρ') := by
  unfold leaveSt at hl
  split at hl
  case h_2 => cases hl
  rename_i c1 c2 c3 c4
  cases hl
  have c1 := nodupB_sound c1
  have c2 := nodupB_sound c2
  have c4 := nodupB_sound c4
  have hinv : ∀ i j, (i, j) ∈ ρ → (sub cx m st w n ρ).m0 j = m i := by
    intro i j hij
    show (match inv ρ j with | some i => m i | none => undef) = m i
    rw [inv_mem k2 hij]
  have fB : ∀ i j, (i, j) ∈ ρ' → (n ≤ i ∧ (j, i) ∈ ρ ∧ (look st.bx j).isSome = (look S1.bx i).isSome) ∨ (True ∧ j ∉ st.ids ∧ j ∉ ρ.map (·.1) ∧ (j < cx.n ∨ look S1.bx i = none)) := by
    intro i j hij
    have := List.all_eq_true.1 c3 _ hij
    unfold backOK at this
    split at this
    · rename_i i' hi'
      simp only [Bool.and_eq_true, beq_iff_eq] at this
      obtain ⟨t1, t2, t3⟩ := this
      have := Nat.eq_of_beq_eq_true t1
      subst this
      exact .inl ⟨Nat.le_of_ble_eq_true t2, look_mem hi', t3⟩
    · simp only [Bool.and_eq_true, Bool.or_eq_true, Bool.not_eq_true'] at this
      obtain ⟨⟨t1, t2⟩, t3⟩ := this
      refine .inr ⟨trivial, (fun hh => ?_), (fun hh => ?_), ?_⟩
      · have t1 : memB j st.ids = false := t1
        rw [memB_iff.2 hh] at t1
        cases t1
      · have t2 : memB j (ρ.map (·.1)) = false := t2
        rw [memB_iff.2 hh] at t2
        cases t2
      · rcases t3 with t3 | t3
        · exact .inl (blt_true t3)
        · exact .inr (by simpa using t3)
  obtain ⟨m2, hm2⟩ : ∃ m2 : Nat → Value, m2 = fun j => match inv ρ' j with | some i => m1 i | none => m j := ⟨_, rfl⟩
  have hnew : ∀ i j, (i, j) ∈ ρ' → m2 j = m1 i := by
    intro i j hij
    rw [hm2]
    simp only
    rw [inv_mem c2 hij]
  have hold : ∀ j, inv ρ' j = none → m2 j = m j := by
    intro j hj
    rw [hm2]
    simp only
    rw [hj]
  have hst : ∀ j, j ∈ st.ids → j ∉ ρ.map (·.1) → m2 j = m j := by
    intro j hj hn
    refine hold j ?_
    cases hi : inv ρ' j with
    | none => rfl
    | some i =>
      rcases fB i j (mem_inv hi) with ⟨_, hh, _⟩ | ⟨_, hh, _⟩
      · exact absurd (List.mem_map.2 ⟨_, hh, rfl⟩) hn
      · exact absurd hj hh
  have hkeep : ∀ b, b ∉ gone st ρ ρ' → m2 b = m b := by
    intro b hb
    cases hi : inv ρ' b with
    | none => exact hold b hi
    | some i =>
      have hij := mem_inv hi
      have hb2 : ((look st.bx b).isSome && memB b (ρ.map (·.1))) = true := by
        cases hx : ((look st.bx b).isSome && memB b (ρ.map (·.1))) with
        | true => rfl
        | false =>
          refine absurd ?_ hb
          refine List.mem_append.2 (.inr (List.mem_filter.2 ⟨List.mem_map.2 ⟨_, hij, rfl⟩, by rw [hx]; rfl⟩))
      rw [Bool.and_eq_true] at hb2
      rcases fB i b hij with ⟨hle, hh, he⟩ | ⟨_, _, hh, _⟩
      · rw [hb2.1] at he
        obtain ⟨c, hc⟩ := Option.isSome_iff_exists.1 he.symm
        rw [hnew i b hij, h1.fixed i c (look_mem hc) hle, hinv b i hh]
      · exact absurd (memB_iff.1 hb2.2) hh
  -- the ids of the new state
  have hids : ∀ j, j ∈ St.ids { sl := st.sl.map fun p => (p.1, p.2.scrubL (gone st ρ ρ')), bx := (notIn (ρ.map (·.1)) st.bx).map (fun p => (p.1, p.2.map (SV.scrubL (gone st ρ ρ')))) ++ passBx ρ' S1.bx ρ', rw := notIn (ρ.map (·.1)) st.rw ++ passRw S1.rw ρ' } →
      (j ∈ st.ids ∧ j ∉ ρ.map (·.1)) ∨ ∃ i, (i, j) ∈ ρ' ∧ i ∈ S1.ids := by
    intro j hj
    rcases List.mem_append.1 hj with hj | hj
    · obtain ⟨⟨j', c⟩, hp, rfl⟩ := List.mem_map.1 hj
      rcases List.mem_append.1 hp with hp | hp
      · obtain ⟨⟨j2, c'⟩, hp2, he⟩ := List.mem_map.1 hp
        cases he
        obtain ⟨h2, h3⟩ := notIn_mem hp2
        exact .inl ⟨List.mem_append.2 (.inl (List.mem_map.2 ⟨_, h2, rfl⟩)), h3⟩
      · obtain ⟨i, c', h2, h3, _⟩ := passBx_mem hp
        exact .inr ⟨i, h2, List.mem_append.2 (.inl (List.mem_map.2 ⟨_, h3, rfl⟩))⟩
    · obtain ⟨⟨j', c⟩, hp, rfl⟩ := List.mem_map.1 hj
      rcases List.mem_append.1 hp with hp | hp
      · obtain ⟨h2, h3⟩ := notIn_mem hp
        exact .inl ⟨List.mem_append.2 (.inr (List.mem_map.2 ⟨_, h2, rfl⟩)), h3⟩
      · obtain ⟨i, h2, h3⟩ := passRw_mem hp
        exact .inr ⟨i, h2, List.mem_append.2 (.inr (List.mem_map.2 ⟨_, h3, rfl⟩))⟩
  generalize hST : ({ sl := st.sl.map fun p => (p.1, p.2.scrubL (gone st ρ ρ')), bx := (notIn (ρ.map (·.1)) st.bx).map (fun p => (p.1, p.2.map (SV.scrubL (gone st ρ ρ')))) ++ passBx ρ' S1.bx ρ', rw := notIn (ρ.map (·.1)) st.rw ++ passRw S1.rw ρ' } : St) = st1 at hids
  have hXlt : ∀ i, i ∈ S1.ids → ∀ b, blk (m1 i) = some b → w.heap.size ≤ b ∨ ∃ i0 j0, (i0, j0) ∈ ρ ∧ i0 ∈ st.ids ∧ blk (m i0) = some b := fun i hi b hb => (h1.lt hi hb).2
  have hback : ∀ b, b < w.heap.size → Mut cx m2 st1.ids b → Mut cx m st.ids b := by
    rintro b hlt (hA | ⟨j, hj, hb⟩)
    · exact .inl hA
    · rcases hids j hj with ⟨h2, h3⟩ | ⟨i, h2, h3⟩
      · rw [hst j h2 h3] at hb
        exact .inr ⟨j, h2, hb⟩
      · rw [hnew i j h2] at hb
        rcases hXlt i h3 b hb with hh | ⟨i0, _, _, hi0, hb0⟩
        · omega
        · exact .inr ⟨i0, hi0, hb0⟩
  have hfwd : ∀ b, b < w1.heap.size → Mut cx m2 st1.ids b → Mut (sub cx m st w n ρ) m1 S1.ids b := by
    rintro b _ (hA | ⟨j, hj, hb⟩)
    · refine .inl ⟨.inl hA, ?_⟩
      rintro ⟨i0, j0, _, hi0, hb0⟩
      have o := h.outer b hA
      rcases (h.lt hi0 hb0).2 with hh | hh
      · omega
      · exact o.2 hh
    · rcases hids j hj with ⟨h2, h3⟩ | ⟨i, h2, h3⟩
      · rw [hst j h2 h3] at hb
        refine .inl ⟨.inr ⟨j, h2, hb⟩, ?_⟩
        rintro ⟨i0, j0, hij0, hi0, hb0⟩
        refine h.apart i0 j hi0 h2 ?_ b hb0 hb
        rintro rfl
        exact h3 (List.mem_map.2 ⟨_, hij0, rfl⟩)
      · rw [hnew i j h2] at hb
        exact .inr ⟨i, h3, hb⟩
  have kw : ∀ b, b < w.heap.size → ¬ Mut cx m st.ids b → w1.heap[b]? = w.heap[b]? := fun b hb hn => h1.frame.block b hb fun ⟨i0, _, _, hi0, hb0⟩ => hn (.inr ⟨i0, hi0, hb0⟩)
  have kw1 : ∀ b, b < w1.heap.size → ¬ Mut (sub cx m st w n ρ) m1 S1.ids b → w1.heap[b]? = w1.heap[b]? := fun _ _ _ => rfl
  have hsO : ∀ v s, repS w (Mut cx m st.ids) m v s → repS w1 (Mut cx m2 st1.ids) m2 v (s.scrubL (gone st ρ ρ')) := fun v s hv => scrubL_rep hkeep (repS_ext kw hback hv)
  have hsN : ∀ v s, repS w1 (Mut (sub cx m st w n ρ) m1 S1.ids) m1 v s → repS w1 (Mut cx m2 st1.ids) m2 v (s.ren ρ') := fun v s hv => ren_rep hnew (repS_ext kw1 hfwd hv)
  have hbx : ∀ b c', (b, c') ∈ st1.bx → (∃ c, (b, c) ∈ st.bx ∧ b ∉ ρ.map (·.1) ∧ c' = c.map (SV.scrubL (gone st ρ ρ'))) ∨ ∃ i c, (i, b) ∈ ρ' ∧ (i, c) ∈ S1.bx ∧ c' = c.map (SV.ren ρ') := by
    intro b c' hb
    rw [← hST] at hb
    rcases List.mem_append.1 hb with hp | hp
    · obtain ⟨⟨j2, c2⟩, hp2, he⟩ := List.mem_map.1 hp
      cases he
      obtain ⟨h2, h3⟩ := notIn_mem hp2
      exact .inl ⟨c2, h2, h3, rfl⟩
    · exact .inr (passBx_mem hp)
  have hrw : ∀ b c, (b, c) ∈ st1.rw → ((b, c) ∈ st.rw ∧ b ∉ ρ.map (·.1)) ∨ ∃ i, (i, b) ∈ ρ' ∧ (i, c) ∈ S1.rw := by
    intro b c hb
    rw [← hST] at hb
    rcases List.mem_append.1 hb with hp | hp
    · exact .inl (notIn_mem hp)
    · exact .inr (passRw_mem hp)
  have hnotX : ∀ j, j ∈ st.ids → j ∉ ρ.map (·.1) → ∀ g, blk (m j) = some g → g < w.heap.size ∧ ¬ ∃ i0 j0, (i0, j0) ∈ ρ ∧ i0 ∈ st.ids ∧ blk (m i0) = some g := by
    intro j hj hn g hg
    refine ⟨(h.lt hj hg).1, ?_⟩
    rintro ⟨i0, j0, hij0, hi0, hb0⟩
    refine h.apart i0 j hi0 hj ?_ g hb0 hg
    rintro rfl
    exact hn (List.mem_map.2 ⟨_, hij0, rfl⟩)
  have hplace : ∀ g, (w.heap.size ≤ g ∨ ∃ i0 j0, (i0, j0) ∈ ρ ∧ i0 ∈ st.ids ∧ blk (m i0) = some g) → cx.w0.heap.size ≤ g ∨ cx.X g := by
    rintro g (hg | ⟨i0, _, _, hi0, hb0⟩)
    · exact .inl (Nat.le_trans h.frame.size hg)
    · exact (h.lt hi0 hb0).2
  refine ⟨m2, { size := h.size, frame := ?_, outer := h.outer, slots := ?_, boxes := ?_, rows := ?_, apart := ?_, keys := ?_, fixed := ?_ }, hsN⟩
  · refine ⟨h1.frame.os.trans h.frame.os, h1.frame.tape.trans h.frame.tape, h1.frame.output.trans h.frame.output, Nat.le_trans h.frame.size h1.frame.size, fun b hb hX => ?_⟩
    rw [← h.frame.block b hb hX]
    refine h1.frame.block b (Nat.lt_of_lt_of_le hb h.frame.size) ?_
    rintro ⟨i0, _, _, hi0, hb0⟩
    rcases (h.lt hi0 hb0).2 with hh | hh
    · omega
    · exact hX hh
  · intro i sv' hi
    rw [← hST] at hi
    obtain ⟨⟨j, sv⟩, hp, he⟩ := List.mem_map.1 hi
    cases he
    obtain ⟨v, e1, e2⟩ := h.slots j sv hp
    exact ⟨v, e1, hsO v sv e2⟩
  · intro b c' hb
    rcases hbx b c' hb with ⟨c, h2, h3, rfl⟩ | ⟨i, c, h2, h3, rfl⟩
    · have hbi : b ∈ st.ids := List.mem_append.2 (.inl (List.mem_map.2 ⟨_, h2, rfl⟩))
      obtain ⟨g, e1, e2, e3⟩ := h.boxes b c h2
      have hx := hnotX b hbi h3 g (by rw [e1, mval_blk])
      exact ⟨g, by rw [hst b hbi h3, mval_map]; exact e1, e2, objOK_map kw hback (h1.frame.block g hx.1 hx.2) hsO e3⟩
    · obtain ⟨g, e1, e2, e3⟩ := h1.boxes i c h3
      exact ⟨g, by rw [hnew i b h2, mval_map]; exact e1, hplace g e2, objOK_map kw1 hfwd rfl hsN e3⟩
  · intro b c hb
    rcases hrw b c hb with ⟨h2, h3⟩ | ⟨i, h2, h3⟩
    · have hbi : b ∈ st.ids := List.mem_append.2 (.inr (List.mem_map.2 ⟨_, h2, rfl⟩))
      obtain ⟨cells, e1, e2, e3⟩ := h.rows b c h2
      refine ⟨cells, ?_, fun g hg => e2 g (by rw [hst b hbi h3] at hg; exact hg), repL_mono (fun _ _ => rep_ext kw hback c.t) e3⟩
      rw [hst b hbi h3]
      refine ⟨e1.1, ?_⟩
      rcases e1.2 with hh | ⟨g, cap, cur, hv, hb0, hh, rest⟩
      · exact .inl hh
      · have hx := hnotX b hbi h3 g (by rw [hv]; rfl)
        exact .inr ⟨g, cap, cur, hv, hb0, by rw [h1.frame.block g hx.1 hx.2]; exact hh, rest⟩
    · obtain ⟨cells, e1, e2, e3⟩ := h1.rows i c h3
      exact ⟨cells, by rw [hnew i b h2]; exact e1, fun g hg => hplace g (e2 g (by rw [hnew i b h2] at hg; exact hg)), repL_mono (fun _ _ => rep_ext kw1 hfwd c.t) e3⟩
  · intro j1 j2 hj1 hj2 hne g hg hg'
    rcases hids j1 hj1 with ⟨a1, b1⟩ | ⟨i1, a1, b1⟩ <;> rcases hids j2 hj2 with ⟨a2, b2⟩ | ⟨i2, a2, b2⟩
    · rw [hst j1 a1 b1] at hg
      rw [hst j2 a2 b2] at hg'
      exact h.apart j1 j2 a1 a2 hne g hg hg'
    · rw [hst j1 a1 b1] at hg
      rw [hnew i2 j2 a2] at hg'
      have hx := hnotX j1 a1 b1 g hg
      rcases hXlt i2 b2 g hg' with hh | hh
      · omega
      · exact hx.2 hh
    · rw [hnew i1 j1 a1] at hg
      rw [hst j2 a2 b2] at hg'
      have hx := hnotX j2 a2 b2 g hg'
      rcases hXlt i1 b1 g hg with hh | hh
      · omega
      · exact hx.2 hh
    · rw [hnew i1 j1 a1] at hg
      rw [hnew i2 j2 a2] at hg'
      refine h1.apart i1 i2 b1 b2 ?_ g hg hg'
      rintro rfl
      exact hne (nodup_fst c1 a1 a2)
  · rw [← hST]
    show (((notIn (ρ.map (·.1)) st.bx).map (fun p => (p.1, p.2.map (SV.scrubL (gone st ρ ρ')))) ++ passBx ρ' S1.bx ρ').map (·.1) ++ (notIn (ρ.map (·.1)) st.rw ++ passRw S1.rw ρ').map (·.1)).Nodup
    have e : ((notIn (ρ.map (·.1)) st.bx).map (fun p => (p.1, p.2.map (SV.scrubL (gone st ρ ρ')))) ++ passBx ρ' S1.bx ρ').map (·.1) = (notIn (ρ.map (·.1)) st.bx ++ passBx ρ' S1.bx ρ').map (·.1) := by
      simp [List.map_append, List.map_map, Function.comp_def]
    rw [e]
    exact c4
  · intro b c' hb hle
    rcases hbx b c' hb with ⟨c, h2, h3, _⟩ | ⟨i, c, h2, h3, _⟩
    · have hbi : b ∈ st.ids := List.mem_append.2 (.inl (List.mem_map.2 ⟨_, h2, rfl⟩))
      rw [hst b hbi h3]
      exact h.fixed b c h2 hle
    · rcases fB i b h2 with ⟨hn, hh, he⟩ | ⟨_, _, _, hh⟩
      · rw [look_isSome h3] at he
        obtain ⟨c0, hc0⟩ := Option.isSome_iff_exists.1 he
        rw [hnew i b h2, h1.fixed i c h3 hn, hinv b i hh]
        exact h.fixed b c0 (look_mem hc0) hle
      · rcases hh with hh | hh
        · omega
        · have := look_isSome h3
          rw [hh] at this
          cases this
end Go.Ev

namespace Go.Ev
open Go Go.RowKit
variable {cx : Cx} {m : Nat → Value} {st st' : St} {T : Array Value} {w w' : World} {E : Env} {Q : Post} {ops : Array Oper} {l : List Oper}

/-- What such a function is known to do: the state of its frame when it is entered; the boxes and rows when it returns; its results. -/
structure FnB (α β : Type) where
  n : Nat
  S : α → St
  S' : α → β → St
  rs : α → β → List SV
  rel : α → β → Prop

def repResS (w : World) (M : Nat → Prop) (m : Nat → Value) (v : Value) : List SV → Prop
  | [] => True
  | [s] => repS w M m v s
  | l => ∃ vs : List Value, v = .tuple vs.toArray ∧ repSs w M m vs l

structure BC {α β : Type} (P : Program) (G : World → Prop) (f : Nat) (F : FnB α β) : Prop where
  enters : ∀ args w, (callFunc f args).run P w = .ok (.enter f args) w
  calls : ∀ (cx : Cx), cx.P = P → cx.n = F.n → (∀ w, Frame cx.w0 w cx.X → G w) → ∀ x y, F.rel x y → ∀ (vs : List Value) (w : World), vs.length = (F.S x).sl.length → R cx (F.S x) (vs.toArray ++ Array.replicate (F.n - vs.toArray.size) undef) w →
    Calls P f vs.toArray w fun e w' => ∃ v m' T', e = .returned v ∧ Rm cx m' (F.S' x y) T' w' ∧ repResS w' (Mut cx m' (F.S' x y).ids) m' v (F.rs x y)

def toTRs : List SV → Option (List TR)
  | [] => some []
  | .val t x :: l => match toTRs l with
    | some r => some (.v ⟨t, x⟩ :: r)
    | none => none
  | .row b :: l => match toTRs l with
    | some r => some (.r b :: r)
    | none => none
  | .iter b :: l => match toTRs l with
    | some r => some (.r b :: r)
    | none => none
  | _ => none
def resSVof : List SV → Option SV
  | [] => some .any
  | [s] => some s
  | l => match toTRs l with
    | some r => some (.tups r)
    | none => none
theorem toTRs_rep {M : Nat → Prop} : ∀ {vs : List Value} {l : List SV} {r : List TR}, toTRs l = some r → repSs w M m vs l → repTRs w M m vs r
  | [], [], _, h, _ => by cases h; trivial
  | _ :: _, [], _, _, hr => hr.elim
  | [], _ :: _, _, _, hr => hr.elim
  | v :: vs, s :: l, r, h, ⟨h1, h2⟩ => by
    unfold toTRs at h
    split at h
    · rename_i e; cases e
    · rename_i t x l' e
      cases e
      split at h
      · rename_i r' hr'; cases h; exact ⟨h1, toTRs_rep hr' h2⟩
      · cases h
    · rename_i b l' e
      cases e
      split at h
      · rename_i r' hr'; cases h; exact ⟨h1, toTRs_rep hr' h2⟩
      · cases h
    · rename_i b l' e
      cases e
      split at h
      · rename_i r' hr'; cases h; exact ⟨h1, toTRs_rep hr' h2⟩
      · cases h
    · cases h
theorem resSVof_rep {M : Nat → Prop} {v : Value} {l : List SV} {s : SV} (h : resSVof l = some s) (hr : repResS w M m v l) : repS w M m v s := by
  unfold resSVof at h
  split at h
  · cases h; trivial
  · cases h; exact hr
  · rename_i n1 n2
    split at h
    · rename_i r hr'
      cases h
      match l, n1, n2, hr, hr' with
      | a :: b :: l, _, _, ⟨vs, e, hh⟩, hr' => exact ⟨vs, e, toTRs_rep hr' hh⟩
      | [], n1, _, _, _ => exact absurd rfl n1
      | [a], _, n2, _, _ => exact absurd rfl (n2 a)
    · cases h

def argSV (P : Program) (st : St) (t : TypeId) (x : Operand) : Option SV :=
  match x with
  | .const (.slice none 0 0) => match elemOf? P t with
    | some (_, u) => some (.val (.sl u) [])
    | none => none
  | x => getSV st x
def argSVs (P : Program) (st : St) : List TypeId → List Operand → Option (List SV)
  | [], [] => some []
  | t :: ts, x :: xs => match argSV P st t x, argSVs P st ts xs with
    | some v, some vs => some (v :: vs)
    | _, _ => none
  | _, _ => none
theorem argSV_sound (h : Rm cx m st T w) {t : TypeId} {x : Operand} {s : SV} (ha : argSV cx.P st t x = some s) : repS w (Mut cx m st.ids) m (Act.eval ⟨T, []⟩ x) s := by
  unfold argSV at ha
  split at ha
  · split at ha
    · rename_i e u he
      cases ha
      exact (repV_plain (t := .sl u) rfl).2 ⟨none, 0, [], rfl, Nat.le_refl _, by decide, fun _ => rfl, rfl, fun j v hj => by simp at hj⟩
    · cases ha
  · exact getSV_sound h ha
theorem argSVs_sound (h : Rm cx m st T w) : ∀ {ts : List TypeId} {xs : List Operand} {ss : List SV}, argSVs cx.P st ts xs = some ss → repSs w (Mut cx m st.ids) m (xs.map (Act.eval ⟨T, []⟩)) ss
  | [], [], _, ha => by cases ha; trivial
  | [], _ :: _, _, ha => by cases ha
  | _ :: _, [], _, ha => by cases ha
  | t :: ts, x :: xs, ss, ha => by
    unfold argSVs at ha
    split at ha
    · rename_i v vs' h1 h2
      cases ha
      exact ⟨argSV_sound h h1, argSVs_sound h h2⟩
    · cases ha

def boxesB (st : St) (bs : List Nat) : Bool := bs.all fun b => match look st.bx b with
  | some (.cells _ _) => true
  | _ => false
theorem boxesB_rep (h : Rm cx m st T w) : ∀ {bs : List Nat}, boxesB st bs = true → repSs w (Mut cx m st.ids) m (bs.map m) (bs.map fun b => SV.ptr b 0)
  | [], _ => trivial
  | b :: bs, hb => by
    unfold boxesB at hb
    rw [List.all_cons, Bool.and_eq_true] at hb
    refine ⟨?_, boxesB_rep h hb.2⟩
    have h1 := hb.1
    split at h1
    · rename_i c hc
      obtain ⟨g, hg⟩ := box_place h hc
      exact ⟨g, hg, hg⟩
    · cases h1

/-- The callee's state when it is entered by this operation. -/
def enterB (E : Env) (st : St) (o : Oper) (n f : Nat) (ρ : List (Nat × Nat)) : Option St :=
  match o.op with
  | .call c => match c.callee with
    | .value x => match getSV st x with
      | some (.clos f' bs) => match Nat.beq f' f, boxesB st bs, argSVs E.P st c.argTypes.toList c.args.toList with
        | true, true, some as => enterSt st n ρ (as ++ bs.map fun b => SV.ptr b 0)
        | _, _, _ => none
      | _ => none
    | _ => none
  | _ => none
/-- The caller's state behind this operation; what is kept of it. -/
def leaveB (st S1 : St) (o : Oper) (n nc : Nat) (ρ ρ' : List (Nat × Nat)) (rs : List SV) (ks bs rws : List Nat) : Option St :=
  match leaveSt st S1 n nc ρ ρ', resSVof rs with
  | some st1, some s => match o.dst with
    | none => st1.norm ks bs rws
    | some d => match Nat.blt d nc with
      | true => (st1.put d (s.ren ρ')).norm ks bs rws
      | false => none
  | _, _ => none

theorem enterSt_nodup {n : Nat} {ρ : List (Nat × Nat)} {as : List SV} {S0 : St} (he : enterSt st n ρ as = some S0) : (ρ.map (·.1)).Nodup ∧ (ρ.map (·.2)).Nodup := by
  unfold enterSt at he
  split at he
  · rename_i k1 k2 k3 k4; exact ⟨nodupB_sound k1, nodupB_sound k2⟩
  · cases he

theorem argSlS_len : ∀ (l : List SV) (k : Nat), (argSlS k l).length = l.length
  | [], _ => rfl
  | _ :: l, k => by simp [argSlS, argSlS_len l]
theorem enterSt_len {n : Nat} {ρ : List (Nat × Nat)} {as : List SV} {S0 : St} (he : enterSt st n ρ as = some S0) : S0.sl.length = as.length := by
  unfold enterSt at he
  split at he
  · cases he; simp [argSlS_len]
  · cases he
theorem sub_frame (h : Rm cx m st T w) {n : Nat} {ρ : List (Nat × Nat)} (hf : Frame w w' (sub cx m st w n ρ).X) : Frame cx.w0 w' cx.X := by
  refine ⟨hf.os.trans h.frame.os, hf.tape.trans h.frame.tape, hf.output.trans h.frame.output, Nat.le_trans h.frame.size hf.size, fun b hb hX => ?_⟩
  rw [← h.frame.block b hb hX]
  refine hf.block b (Nat.lt_of_lt_of_le hb h.frame.size) ?_
  rintro ⟨i0, _, _, hi0, hb0⟩
  rcases (h.lt hi0 hb0).2 with hh | hh
  · omega
  · exact hX hh

/-- Such a call, and what is behind it. -/
theorem WL_callB (hE : EnvOK E cx) {α β : Type} {F : FnB α β} {f : Nat} (hB : BC E.P E.G f F) (x : α) (y : β) (hxy : F.rel x y) {o : Oper} {ρ ρ' : List (Nat × Nat)} {n : Nat} (hn : F.n = n) (ks bs rws : List Nat)
    (hw : wantSV ops st o = some true) (hen : enterB E st o n f ρ = some (F.S x)) (hlv : leaveB st (F.S' x y) o n E.n ρ ρ' (F.rs x y) ks bs rws = some st') (h : WL cx ops Q l st') : WL cx ops Q (o :: l) st := by
  subst hn
  rintro T w ⟨m, hm⟩
  refine wpList_step fun K hK => ?_
  rw [wantSV_sound ⟨m, hm⟩ hw]
  simp only [if_true]
  unfold enterB at hen
  split at hen
  case h_2 => cases hen
  rename_i c hop
  split at hen
  case h_2 => cases hen
  rename_i xo hc
  split at hen
  case h_2 => cases hen
  rename_i f' cb hx
  split at hen
  case h_2 => cases hen
  rename_i as hf hbb has
  have hf := Nat.eq_of_beq_eq_true hf
  subst hf
  rw [← hE.P] at has
  have hv : Act.eval ⟨T, []⟩ xo = .func (.func f') #[] (cb.map m).toArray := getSV_sound hm hx
  have hargs := repSs_append (argSVs_sound hm has) (boxesB_rep hm hbb)
  have hent := enter_sound hm hen hargs
  obtain ⟨k1, k2⟩ := enterSt_nodup hen
  have hB' := hB
  rw [← hE.P] at hB'
  have hlen := repSs_length hargs
  have hsl : (F.S x).sl.length = (as ++ cb.map fun b => SV.ptr b 0).length := enterSt_len hen
  have hcalls := hB'.calls (sub cx m st w F.n ρ) rfl rfl (fun w' hf => hE.glob w' (sub_frame hm hf)) x y hxy _ w (by rw [hsl]; exact hlen) ⟨_, hent⟩
  unfold Oper.wp
  rw [evCall_run hop hc hv hB'.enters w]
  refine hcalls.mono ?_
  rintro e w' ⟨v, m', T', rfl, h1, hr⟩
  unfold leaveB at hlv
  split at hlv
  case h_2 => cases hlv
  rename_i st1 s hl hs
  rw [← hE.n] at hl
  obtain ⟨m2, h2, hren⟩ := leave_sound hm k1 k2 h1 hl
  show K (Act.put ⟨T, []⟩ o.dst v) w'
  split at hlv
  · rename_i hd
    rw [hd]
    exact hK _ _ (h _ _ ⟨m2, h2.norm hlv⟩)
  · rename_i d hd
    split at hlv
    · rename_i hlt
      rw [hd]
      have hlt : d < cx.n := by rw [hE.n]; exact blt_true hlt
      exact hK _ _ (h _ _ ⟨m2, (h2.put hlt (hren v s (resSVof_rep hs hr))).norm hlv⟩)
    · cases hlv

/-- Other names for rows. -/
def St.ren (st : St) (ρ : List (Nat × Nat)) : Option St :=
  match nodupB (ρ.map (·.1)), nodupB (ρ.map (·.2)), ρ.all (fun p => Nat.beq p.1 p.2 || (look st.bx p.1).isNone), nodupB (St.ids ⟨[], passBx ρ st.bx ρ, passRw st.rw ρ⟩) with
  | true, true, true, true => some ⟨st.sl.map fun p => (p.1, p.2.ren ρ), passBx ρ st.bx ρ, passRw st.rw ρ⟩
  | _, _, _, _ => none
theorem Rm.ren (h : Rm cx m st T w) {ρ : List (Nat × Nat)} (hn : st.ren ρ = some st') : ∃ m', Rm cx m' st' T w := by
  unfold St.ren at hn
  split at hn
  case h_2 => cases hn
  rename_i k1 k2 k3 k4
  cases hn
  have k1 := nodupB_sound k1
  have k2 := nodupB_sound k2
  have k4 := nodupB_sound k4
  obtain ⟨m', hm'⟩ : ∃ m' : Nat → Value, m' = fun j => match inv ρ j with | some i => m i | none => undef := ⟨_, rfl⟩
  have hm : ∀ i j, (i, j) ∈ ρ → m' j = m i := by
    intro i j hij
    rw [hm']
    simp only
    rw [inv_mem k2 hij]
  have hids : ∀ {j : Nat}, j ∈ St.ids ⟨st.sl.map fun p => (p.1, p.2.ren ρ), passBx ρ st.bx ρ, passRw st.rw ρ⟩ → ∃ i, (i, j) ∈ ρ ∧ i ∈ st.ids := fun hj => pass_ids hj
  have hmut : ∀ b, b < w.heap.size → Mut cx m' (St.ids ⟨st.sl.map fun p => (p.1, p.2.ren ρ), passBx ρ st.bx ρ, passRw st.rw ρ⟩) b → Mut cx m st.ids b := by
    rintro b _ (hA | ⟨j, hj, hb⟩)
    · exact .inl hA
    · obtain ⟨i, hij, hi⟩ := hids hj
      rw [hm i j hij] at hb
      exact .inr ⟨i, hi, hb⟩
  have kw : ∀ b, b < w.heap.size → ¬ Mut cx m st.ids b → w.heap[b]? = w.heap[b]? := fun _ _ _ => rfl
  have hs : ∀ v s, repS w (Mut cx m st.ids) m v s → repS w (Mut cx m' (St.ids ⟨st.sl.map fun p => (p.1, p.2.ren ρ), passBx ρ st.bx ρ, passRw st.rw ρ⟩)) m' v (s.ren ρ) :=
    fun v s hv => ren_rep hm (repS_ext kw hmut hv)
  refine ⟨m', { size := h.size, frame := h.frame, outer := h.outer, slots := ?_, boxes := ?_, rows := ?_, apart := ?_, keys := k4, fixed := ?_ }⟩
  · intro i sv hi
    obtain ⟨⟨j, s⟩, hp, he⟩ := List.mem_map.1 hi
    cases he
    obtain ⟨v, e1, e2⟩ := h.slots j s hp
    exact ⟨v, e1, hs v s e2⟩
  · intro j c' hj
    obtain ⟨i, c, hij, hi, rfl⟩ := passBx_mem hj
    obtain ⟨g, e1, e2, e3⟩ := h.boxes i c hi
    exact ⟨g, by rw [hm i j hij, mval_map]; exact e1, e2, objOK_map kw hmut rfl hs e3⟩
  · intro j c hj
    obtain ⟨i, hij, hi⟩ := passRw_mem hj
    obtain ⟨cells, e1, e2, e3⟩ := h.rows i c hi
    exact ⟨cells, by rw [hm i j hij]; exact e1, fun g hg => e2 g (by rw [hm i j hij] at hg; exact hg), repL_mono (fun _ _ => rep_ext kw hmut c.t) e3⟩
  · intro j1 j2 h1 h2 hne g hg hg'
    obtain ⟨i1, a1, b1⟩ := hids h1
    obtain ⟨i2, a2, b2⟩ := hids h2
    rw [hm _ _ a1] at hg
    rw [hm _ _ a2] at hg'
    refine h.apart i1 i2 b1 b2 ?_ g hg hg'
    rintro rfl
    exact hne (nodup_fst k1 a1 a2)
  · intro b c hb hle
    obtain ⟨i, c0, hij, hi, _⟩ := passBx_mem hb
    have h3 := List.all_eq_true.1 k3 _ hij
    simp only [Bool.or_eq_true] at h3
    rcases h3 with h3 | h3
    · have e := Nat.eq_of_beq_eq_true h3
      subst e
      rw [hm _ _ hij]
      exact h.fixed _ _ hi hle
    · have h4 := look_isSome hi
      cases hl : look st.bx i with
      | none => rw [hl] at h4; cases h4
      | some x => rw [hl] at h3; cases h3
theorem R.ren (h : R cx st T w) {ρ : List (Nat × Nat)} (hn : st.ren ρ = some st') : R cx st' T w := let ⟨_, hm⟩ := h; hm.ren hn
theorem N.ren {e : Exit} (ρ : List (Nat × Nat)) (hn : st.ren ρ = some st') (h : N cx Q e st') : N cx Q e st := fun T w hR => h T w (hR.ren hn)
theorem W.ren {c : Code} (ρ : List (Nat × Nat)) (hn : st.ren ρ = some st') (h : W cx Q c st') : W cx Q c st := fun T w hR => h T w (hR.ren hn)
theorem WL.ren (ρ : List (Nat × Nat)) (hn : st.ren ρ = some st') (h : WL cx ops Q l st') : WL cx ops Q l st := fun T w hR => h T w (hR.ren hn)

/-- The results, whatever they are. -/
def evResS (P : Program) (st : St) : List ResultVar → Option (List SV)
  | [] => some []
  | .tmp t :: l => match look st.sl t, evResS P st l with
    | some s, some r => some (s :: r)
    | _, _ => none
  | .cell a ty' :: l => match evRes P st [.cell a ty'], evResS P st l with
    | some [u], some r => some (.val u.t u.x :: r)
    | _, _ => none
theorem evResS_sound (h : Rm cx m st T w) : ∀ {l : List ResultVar} {rs : List SV}, evResS cx.P st l = some rs →
    ∃ vs, (l.mapM (resOf T)).run cx.P w = .ok vs w ∧ repSs w (Mut cx m st.ids) m vs rs
  | [], _, hs => by cases hs; exact ⟨[], by simp, trivial⟩
  | .tmp t :: l, rs, hs => by
    simp only [evResS] at hs
    split at hs
    · rename_i s r hl hr
      cases hs
      obtain ⟨vs, h1, h2⟩ := evResS_sound h hr
      obtain ⟨v, h3, h4⟩ := h.slots t _ (look_mem hl)
      refine ⟨v :: vs, ?_, h4, h2⟩
      have hg : T.getD t undef = v := by rw [Array.getD_eq_getD_getElem?, h3]; rfl
      have h5 : (resOf T (.tmp t)).run cx.P w = .ok v w := by show Sem.run cx.P (pure (T.getD t undef)) w = _; rw [hg, Sem.run_pure]
      rw [List.mapM_cons, Sem.run_bind, h5]
      simp only [Result.andThen_ok, Sem.run_bind, h1, Sem.run_pure]
    · cases hs
  | .cell a t :: l, rs, hs => by
    simp only [evResS] at hs
    split at hs
    · rename_i u r he hr
      cases hs
      obtain ⟨vs, h1, h2⟩ := evResS_sound h hr
      obtain ⟨us, h3, h4⟩ := evRes_sound h he
      match us, h4 with
      | [v], ⟨h5, _⟩ =>
        refine ⟨v :: vs, ?_, h5, h2⟩
        have h6 : (resOf T (.cell a t)).run cx.P w = .ok v w := by
          rw [List.mapM_cons, Sem.run_bind] at h3
          cases hh : (resOf T (.cell a t)).run cx.P w with
          | ok v' w2 =>
            rw [hh] at h3
            simp only [Result.andThen_ok, List.mapM_nil, Sem.run_bind, Sem.run_pure] at h3
            cases h3
            rfl
          | _ => rw [hh] at h3; cases h3
        rw [List.mapM_cons, Sem.run_bind, h6]
        simp only [Result.andThen_ok, Sem.run_bind, h1, Sem.run_pure]
      | [], h4 => exact h4.elim
      | _ :: _ :: _, ⟨_, h4⟩ => exact h4.elim
    · cases hs

def OwesB (P : Program) (fn : Func) (cx : Cx) (S1 : St) (rs : List SV) : Post :=
  bodyPost P fn fun e w' => ∃ v m' T', e = .returned v ∧ Rm cx m' S1 T' w' ∧ repResS w' (Mut cx m' S1.ids) m' v rs

theorem N_endB {P : Program} (hP : cx.P = P) {fn : Func} {rs : List SV} {S1 : St} {e : Exit} (bs rws : List Nat) (he : e = .ret ∨ e = .normal) (hev : evResS P st fn.results.toList = some rs) (hn : st.norm [] bs rws = some S1) :
    N cx (OwesB cx.P fn cx S1 rs) e st := by
  subst hP
  rintro T w ⟨m, hm⟩
  obtain ⟨vs, h1, h2⟩ := evResS_sound hm hev
  have hrun := run_results h1
  have hm' := hm.norm hn
  have hsub : ∀ i, i ∈ S1.ids → i ∈ st.ids := by
    unfold St.norm at hn
    split at hn
    · rename_i sl bx rw' q1 q2 q3 _
      cases hn
      intro i hi
      rcases List.mem_append.1 hi with hi | hi
      · obtain ⟨p, hp, rfl⟩ := List.mem_map.1 hi; exact List.mem_append.2 (.inl (List.mem_map.2 ⟨p, pickL_mem q2 p hp, rfl⟩))
      · obtain ⟨p, hp, rfl⟩ := List.mem_map.1 hi; exact List.mem_append.2 (.inr (List.mem_map.2 ⟨p, pickL_mem q3 p hp, rfl⟩))
    · cases hn
  have h3 : repSs w (Mut cx m S1.ids) m vs rs := repSs_ext (fun _ _ _ => rfl) (fun b _ hb => mut_mono hsub hb) h2
  have hres : repResS w (Mut cx m S1.ids) m (if h : vs.toArray.size = 1 then vs.toArray[0] else .tuple vs.toArray) rs := by
    match vs, rs, h3 with
    | [], [], _ => trivial
    | [v], [u], ⟨h, _⟩ => exact h
    | v1 :: v2 :: vs, u1 :: u2 :: us, h =>
      have hne : ¬ (v1 :: v2 :: vs).toArray.size = 1 := by simp
      rw [dif_neg hne]
      exact ⟨_, rfl, h⟩
    | [], _ :: _, h => exact h.elim
    | _ :: _, [], h => exact h.elim
    | [_], _ :: _ :: _, ⟨_, h⟩ => exact h.elim
    | _ :: _ :: _, [_], ⟨_, h⟩ => exact h.elim
  rcases he with rfl | rfl <;> exact ⟨rfl, _, hrun, _, m, _, rfl, hm', hres⟩

/-- Such a contract, from the body. -/
theorem bc_of {P : Program} {G : World → Prop} {f : FuncId} {fn : Func} {c : Code} {α β : Type} {F : FnB α β} (hf : P.funcs[f]? = some fn) (hname : (fn.name == "runtime.NumGoroutine") = false) (hb : fn.body = some c) (hn : fn.ntmps = F.n)
    (body : ∀ cx : Cx, cx.P = P → cx.n = F.n → (∀ w, Frame cx.w0 w cx.X → G w) → ∀ x y, F.rel x y → W cx (OwesB cx.P fn cx (F.S' x y) (F.rs x y)) c (F.S x)) : BC P G f F where
  enters := enters_of hf hname hb
  calls := fun cx hP hn' hG x y hr vs w _ h => by
    subst hP
    refine calls_of_wp hf hb ?_
    rw [hn]
    exact body cx rfl hn' hG x y hr _ _ h
/-- No call of a function. -/
def notCall (o : Oper) : Bool := match o.op with
  | .call c => match c.callee with
    | .value _ => false
    | _ => true
  | _ => true
theorem evS1_sound (hE : EnvOK E cx) (h : Rm cx m st T w) {o : Oper} (hnc : notCall o = true) {orc : List TV} {r : PR} (hev : evD1 E st o orc = some r) (hob : allP r.ob) :
    ∃ v, (execOp (Act.eval ⟨T, []⟩) o).run cx.P w = .ok (.value v) w ∧ repS w (Mut cx m st.ids) m v r.sv := by
  unfold evD1 at hev
  split at hev
  · rename_i r' hp
    cases hev
    rw [← hE.P] at hp
    obtain ⟨v, hd, hv⟩ := evP_sound h hp hob
    exact ⟨v, hd w (Ext.refl w), hv⟩
  · split at hev
    · rename_i t x hop
      rw [← hE.P] at hev
      obtain ⟨v, hs, hv⟩ := evLoad_sound h hev hob
      exact ⟨v, exec_value (by simp only [execOp, hop]) (hs w (Ext.refl w)), hv⟩
    · rename_i c hop
      unfold notCall at hnc
      rw [hop] at hnc
      simp only at hnc
      split at hev
      · rename_i xo hc
        rw [hc] at hnc
        cases hnc
      · cases hev
    · cases hev
theorem evS_sound (hE : EnvOK E cx) {Q' : Act → Prop} : ∀ {l : List Oper} {st : St} {T : Array Value} {orc orc' : List TV} {st' : St} {ob : List Prop}, R cx st T w → l.all notCall = true → evD E ops l st orc = some (st', orc', ob) → allP ob →
    (∀ T', R cx st' T' w → Q' ⟨T', []⟩) → wpStill cx.P ops w Q' l ⟨T, []⟩
  | [], st, T, _, _, _, _, h, _, hev, _, hQ => by
    cases hev
    exact hQ T h
  | o :: l, st, T, orc, orc', st', ob, h, hnc, hev, hob, hQ => by
    rw [List.all_cons, Bool.and_eq_true] at hnc
    unfold evD at hev
    unfold wpStill
    split at hev
    · rename_i hw
      rw [wantSV_sound h hw]
      simp only [if_true]
      split at hev
      · rename_i d r hd hr
        split at hev
        · rename_i st2 orc2 ob2 hdn hl
          cases hev
          obtain ⟨ha, hb⟩ := allP_append hob
          obtain ⟨m, hm⟩ := h
          obtain ⟨v, hq, hv⟩ := evS1_sound hE hm hnc.1 hr ha
          unfold Oper.still
          have hq' : (execOp (Act.eval { tmps := T, defers := [] }) o).run cx.P w = .ok (.value v) w := hq
          rw [hq']
          refine ⟨rfl, ?_⟩
          rw [hd]
          exact evS_sound hE ⟨m, hm.put (by rw [hE.n]; exact blt_true hdn) hv⟩ hnc.2 hl hb hQ
        · cases hev
      · cases hev
    · rename_i hw
      rw [wantSV_sound h hw]
      simp only [Bool.false_eq_true, if_false]
      split at hev
      · rename_i d hd
        split at hev
        · rename_i hdn
          obtain ⟨m, hm⟩ := h
          rw [hd]
          exact evS_sound hE ⟨m, hm.put (d := d) (s := .undef) (v := undef) (by rw [hE.n]; exact blt_true hdn) rfl⟩ hnc.2 hev hob hQ
        · cases hev
      · rename_i hd
        rw [hd]
        exact evS_sound hE h hnc.2 hev hob hQ
    · cases hev

/-- A region that draws the order of its first n operations alone. -/
theorem W_tail {id : Nat} {l : List Oper} (hE : EnvOK E cx) (n : Nat) (ks bs rs : List Nat) {orc : List TV} {ob : List Prop} (hm : E.P.follows .mixedOrders = true) (hB : Region.lexTailB .any l.toArray n = true) (hnc : (l.take n).all notCall = true)
    (hev : evDK E l.toArray (l.take n) st orc ks bs rs = some (st', [], ob)) (hob : allP ob) (h : WL cx l.toArray Q (l.drop n) st') : W cx Q (.region id l.toArray true) st := by
  intro T w hR
  obtain ⟨s, h1, h2⟩ := evDK_some hev
  refine wp_region_still_tail n (hE.P ▸ hm) hB ?_
  have hR' : R cx st T { w with drawn := w.drawn + 1 } := hR.ext (Ext.refl w).drew
  exact evS_sound hE hR' hnc h1 hob fun T' hT => h _ _ (hT.norm h2)

/-- What is known under a weaker condition on package-level variables is known under a stronger one. -/
theorem Contract.weaken {P : Program} {G G' : World → Prop} {f : Nat} {F : FnC} (hG : ∀ w, G' w → G w) (h : Contract P G f F) : Contract P G' f F :=
  ⟨h.enters, h.shape, fun w M vs as rs hg => h.calls w M vs as rs (hG w hg)⟩
theorem BC.weaken {α β : Type} {P : Program} {G G' : World → Prop} {f : Nat} {F : FnB α β} (hG : ∀ w, G' w → G w) (h : BC P G f F) : BC P G' f F :=
  ⟨h.enters, fun cx hP hn hg => h.calls cx hP hn fun w hf => hG w (hg w hf)⟩
end Go.Ev

namespace Go.Ev
open Go Go.RowKit

section
variable {P : Program} {ops : Array Oper} {md : Region.Mode} {C : World → Prop}

/-- Of the first n operations, whichever comes up, f of them; then L. -/
def headAny (P : Program) (md : Region.Mode) (ops : Array Oper) (C : World → Prop) (n : Nat) (L : Array Bool → Act → Prop) : Nat → Array Bool → Act → Prop
  | 0, done, a => L done a
  | f + 1, done, a => Region.ready md ops done ≠ [] ∧ ∀ i, i ∈ Region.ready md ops done → i < n ∧ qOp P ops C i (headAny P md ops C n L f (done.setIfInBounds i true)) a

theorem headAny_run {n g : Nat} {L : Array Bool → Act → Prop} {Q' : Exit → Act → World → Prop} (hL : ∀ done a w, C w → L done a → wpAny P md ops Q' g done a w) :
    ∀ (f : Nat) (done : Array Bool) (a : Act) (w : World), C w → headAny P md ops C n L f done a → wpAny P md ops Q' (f + g) done a w := by
  intro f
  induction f with
  | zero => intro done a w hw h; rw [Nat.zero_add]; exact hL _ _ _ hw h
  | succ f ih =>
    intro done a w hw h
    rw [Nat.succ_add]
    exact ⟨fun h0 => absurd h0 h.1, fun i hi => wpOp_of_qOp hw (fun a' w' hw' h' => ih _ a' w' hw' h') (h.2 i hi).2⟩

/-- One that may come up and is quiet is taken first. -/
theorem headAny_take {n i : Nat} {o : Oper} {v : Value} {L : Array Bool → Act → Prop} (hi : ops[i]? = some o) (hsel : ∀ (j : Nat) (o : Oper) cs b, ops[j]? = some o → o.op ≠ .select cs b)
    (hs : Region.sinkB md ops n = true) (hc : Region.chainB md ops n = true) (hn : n < ops.size) (hin : i < n) (hL : ∀ done a, L done a → ∀ j, j ∈ Region.ready md ops done → n ≤ j) :
    ∀ (f : Nat) (done : Array Bool) (a : Act), HeadInv md ops n done →
      (∀ j oj, ops[j]? = some oj → j ≠ i → done.getD j true = false → (∀ e ∈ oj.after, Region.binds md e = true → e.on ≠ i) → o.apart ops oj = true) →
      i ∈ Region.ready md ops done → YieldsIn P ops C o v a → headAny P md ops C n L f (done.setIfInBounds i true) (a.put o.dst v) → headAny P md ops C n L (f + 1) done a := by
  intro f
  induction f with
  | zero =>
    intro done a inv _ hr hy H
    have hun := (mem_ready.1 hr).1
    refine ⟨fun h0 => (by rw [h0] at hr; cases hr), fun j hj => ?_⟩
    have hjn : j < n := Nat.lt_of_not_le fun h => tail_waits hs hc hn inv _ i rfl hin hun j h hj
    refine ⟨hjn, ?_⟩
    by_cases e : j = i
    · subst e; exact hy.qOp hi H
    · exact absurd (hL _ _ H j (ready_mono hj e)) (Nat.not_le_of_lt hjn)
  | succ f ih =>
    intro done a inv hfree hr hy H
    have hun := (mem_ready.1 hr).1
    refine ⟨fun h0 => (by rw [h0] at hr; cases hr), fun j hj => ?_⟩
    have hjn : j < n := Nat.lt_of_not_le fun h => tail_waits hs hc hn inv _ i rfl hin hun j h hj
    refine ⟨hjn, ?_⟩
    by_cases e : j = i
    · subst e; exact hy.qOp hi H
    obtain ⟨hjun, oj, hoj, hall⟩ := mem_ready.1 hj
    have hap := hfree j oj hoj e hjun fun d hd hb hq => by
      have h1 := hall d hd hb
      rw [hq, getD_both hun] at h1
      cases h1
    refine qOp_mono (fun a' h3 => ih (done.setIfInBounds j true) a' (inv.set hj hjn) (fun k ok hk hki hku hno => hfree k ok hk hki ?_ hno) (ready_mono hr (Ne.symm e)) h3.1 ?_)
      (qOp_put hoj hap (fun cs b => hsel i o cs b hi) (fun cs b => hsel j oj cs b hoj) hy (H.2 j (ready_mono hj e)).2)
    · by_cases q : j = k
      · subst q; exact hjun
      · rwa [getD_set_ne true q] at hku
    · rw [Array.setIfInBounds_comm _ _ e]; exact h3.2

theorem headAny_lex {n g : Nat} {Lq : Act → Prop} (hsel : Region.noSelect ops = true) (hs : Region.sinkB md ops n = true) (hc : Region.chainB md ops n = true) (hn : n < ops.size) :
    ∀ (l : List Oper) (k : Nat) (done : Array Bool) (a : Act), (∀ j, j < l.length → l[j]? = ops[k + j]?) → k + l.length = n → HeadInv md ops n done → Region.lexHead md ops g l.length k done = true →
      wpQuiet P ops C Lq l a → headAny P md ops C n (fun d a' => Region.seqB md ops g n d = true ∧ Lq a') l.length done a := by
  intro l
  induction l with
  | nil =>
    intro k done a _ hk _ hB h
    obtain rfl : k = n := hk
    exact ⟨hB, h⟩
  | cons o l ih =>
    intro k done a hl hk inv hB h
    have h0 : ops[k]? = some o := (hl 0 (Nat.succ_pos _)).symm
    obtain ⟨hB1, hB2⟩ := Bool.and_eq_true_iff.1 hB
    obtain ⟨hr, hf⟩ := Bool.and_eq_true_iff.1 hB1
    have hkn : k < n := by rw [← hk]; simp
    have hr' : k ∈ Region.ready md ops done := by simpa using hr
    obtain ⟨v, hy, hK⟩ := yieldsIn_of_qOp (K := wpQuiet P ops C Lq l) h0 (by unfold qOp; rw [h0]; exact h)
    refine headAny_take h0 (Region.noSelect_spec hsel) hs hc hn hkn (fun d a' hL => seqB_ready hL.1) l.length done a inv (Region.free_spec h0 hf) hr' hy ?_
    refine ih (k + 1) _ _ (fun j hj => ?_) (by rw [← hk]; simp only [List.length_cons]; omega) (inv.set hr' hkn) hB2 hK
    have := hl (j + 1) (Nat.succ_lt_succ hj)
    rw [Nat.add_assoc, Nat.add_comm 1 j]
    exact this

theorem wp_region_quiet_tail {id : Nat} {Q : Exit → Act → World → Prop} {a : Act} {w : World} {l : List Oper} (n : Nat) (hm : P.follows .mixedOrders = true) (hB : Region.lexTailB .any l.toArray n = true) (hC : C { w with drawn := w.drawn + 1 })
    (h : wpQuiet P l.toArray C (fun a' => ∀ w', C w' → wpList P l.toArray Q (l.drop n) a' w') (l.take n) a) : (Code.region id l.toArray true).wp P Q a w := by
  simp only [Region.lexTailB, Bool.and_eq_true, decide_eq_true_eq] at hB
  obtain ⟨⟨⟨⟨hsel, hn⟩, hs⟩, hc⟩, hlex⟩ := hB
  have hn' : n < l.length := by simpa using hn
  have ht : (l.take n).length = n := List.length_take_of_le (Nat.le_of_lt hn')
  have inv0 : HeadInv .any l.toArray n (Array.replicate l.toArray.size false) :=
    ⟨by simp, fun j oj _ hl => (by rw [getD_replicate_false] at hl; cases hl), fun t _ ht => getD_in (by simpa using ht) (getD_replicate_false _ _)⟩
  have H := headAny_lex (C := C) (md := .any) (g := l.toArray.size - n) hsel hs hc hn (l.take n) 0 _ a
    (fun j hj => by rw [ht] at hj; simp [hj]) (by rw [ht, Nat.zero_add]) inv0 (by rw [ht]; exact hlex) h
  have hd : (l.drop n).length = l.toArray.size - n := by simp
  have R := headAny_run (Q' := Q) (g := l.toArray.size - n) (fun done a' w' hw' hL => by
    have := wpAny_of_seq (md := .any) (Q' := Q) (l.drop n) n done a' w' (fun j => by simp [List.getElem?_drop]) (by rw [hd]; exact hL.1) (hL.2 w' hw')
    rwa [hd] at this) _ _ _ _ hC H
  rw [ht, show n + (l.toArray.size - n) = l.toArray.size by omega] at R
  exact wp_region_any hm R
end

variable {cx : Cx} {st st' : St} {Q : Post} {E : Env}
/-- A region that draws the order of its first n operations alone, calls among them. -/
theorem W_tailQ {id : Nat} {l : List Oper} (hE : EnvOK E cx) (n : Nat) (ks bs rs : List Nat) {orc : List TV} {ob : List Prop} (hm : E.P.follows .mixedOrders = true) (hB : Region.lexTailB .any l.toArray n = true)
    (hev : evDK E l.toArray (l.take n) st orc ks bs rs = some (st', [], ob)) (hob : allP ob) (h : WL cx l.toArray Q (l.drop n) st') : W cx Q (.region id l.toArray true) st := by
  intro T w hR
  obtain ⟨s, h1, h2⟩ := evDK_some hev
  refine wp_region_quiet_tail (C := Ext w) n (hE.P ▸ hm) hB (Ext.refl w).drew ?_
  exact evD_sound hE hR h1 hob fun T' hT w' he => h _ _ ((hT.norm h2).ext he)

variable {ops : Array Oper} {l : List Oper}
theorem WD_nil (h : N cx Q .normal st) : WD cx ops Q [] st := fun T _ hR w' he => h T w' (hR.ext he)
theorem WDK_nil {K : World → Act → Prop} (h : ND cx K st) : WDK cx ops K [] st := fun T w hR => h T w hR
theorem WDK_join {α : Type} {K0 : World → Act → Prop} (F : α → Prop) (S : α → St) (n : Nat) (hy : ∀ a, F a → WDK cx ops K0 (l.drop n) (S a))
    (hx : ∀ K, (∀ a, F a → ND cx K (S a)) → WDK cx ops K (l.take n) st) : WDK cx ops K0 l st := by
  intro T w hR
  have := wpQuiet_append (P := cx.P) (ops := ops) (l1 := l.take n) (l2 := l.drop n)
    (hx (fun w => wpQuiet cx.P ops (Ext w) (K0 w) (l.drop n)) (fun a ha T w hR => hy a ha T w hR) T w hR)
  rwa [List.take_append_drop] at this
end Go.Ev

namespace Go.Ev
open Go Go.RowKit
variable {cx : Cx} {m : Nat → Value} {st st' : St} {T : Array Value} {w w' : World} {E : Env} {Q : Post} {ops : Array Oper} {l : List Oper}

theorem filter_erase : ∀ (L : List MapEntry) (j : Nat) (e : MapEntry), (L.map (·.born)).Nodup → L[j]? = some e → L.filter (fun x => !(x.born == e.born)) = L.eraseIdx j
  | [], j, e, _, h => by simp at h
  | x :: L, 0, e, hn, h => by
    simp at h
    subst h
    rw [List.map_cons, List.nodup_cons] at hn
    rw [List.filter_cons, beq_self_eq_true]
    simp only [Bool.not_true, Bool.false_eq_true, if_false, List.eraseIdx_zero, List.tail_cons]
    refine List.filter_eq_self.2 fun y hy => ?_
    have : ¬ y.born = x.born := fun hc => hn.1 (List.mem_map.2 ⟨y, hy, hc⟩)
    simp [this]
  | x :: L, j + 1, e, hn, h => by
    rw [List.map_cons, List.nodup_cons] at hn
    have h' : L[j]? = some e := by simpa using h
    have hx : ¬ x.born = e.born := fun hc => hn.1 (List.mem_map.2 ⟨e, List.mem_of_getElem? h', hc.symm⟩)
    rw [List.filter_cons, if_pos (by simp [hx]), filter_erase L j e hn.2 h', List.eraseIdx_cons_succ]
theorem repM_erase {α β : Type} {fk : Value → α → Prop} {fv : Value → β → Prop} : ∀ {es : List MapEntry} {ps : List (α × β)} (j : Nat), repM fk fv es ps → repM fk fv (es.eraseIdx j) (ps.eraseIdx j)
  | [], [], _, _ => trivial
  | [], _ :: _, _, h => h.elim
  | _ :: _, [], _, h => h.elim
  | _ :: _, _ :: _, 0, ⟨_, _, h⟩ => h
  | _ :: _, _ :: _, j + 1, ⟨h1, h2, h3⟩ => ⟨h1, h2, repM_erase j h3⟩
theorem repM_nth {α β : Type} {fk : Value → α → Prop} {fv : Value → β → Prop} : ∀ {es : List MapEntry} {ps : List (α × β)} {j : Nat} {e : MapEntry}, repM fk fv es ps → es[j]? = some e → ∃ p, ps[j]? = some p ∧ fk e.key p.1 ∧ fv e.val p.2
  | [], _, _, _, _, h => by simp at h
  | _ :: _, [], _, _, h, _ => h.elim
  | e :: _, p :: _, 0, e', ⟨h1, h2, _⟩, h => by simp at h; subst h; exact ⟨p, rfl, h1, h2⟩
  | _ :: _, _ :: _, j + 1, e', ⟨_, _, h3⟩, h => by
    obtain ⟨p, a, b, c⟩ := repM_nth h3 (j := j) (by simpa using h)
    exact ⟨p, by simpa using a, b, c⟩

/-- 'next': one entry that is left, whichever. -/
theorem run_nextM {P : Program} (ty : TypeId) {r bm clock : Nat} {seen : Array Nat} {es : Array MapEntry} (hr : w.heap[r]? = some (.mapIter (some bm) clock seen clock)) (hb : w.heap[bm]? = some (.map es clock)) (hold : ∀ x ∈ es.toList, x.born < clock)
    (hne : es.toList.filter (fun e => !seen.contains e.born) ≠ []) :
    ∃ (j : Nat) (e : MapEntry) (w1 : World), (es.toList.filter (fun e => !seen.contains e.born))[j]? = some e ∧ (w1 = w ∨ w1 = w.drew) ∧
      (Instr.next (.pointer (some ⟨r, 0, none⟩)) false ty).run P w = .ok (.tuple #[.bool true, e.key, e.val]) { w1 with heap := w1.heap.setIfInBounds r (.mapIter (some bm) clock (seen.push e.born) clock) } := by
  simp only [Instr.next, getObj, Sem.run_bind, Sem.run, hr, hb, Result.andThen, next_test_false seen es clock clock hold (Nat.le_refl _), Bool.false_eq_true, if_false]
  have hmem : ∀ x ∈ (Array.filter (fun e => !seen.contains e.born) es).toList, x.born < clock := fun x hx => hold x (by simp at hx ⊢; exact hx.1)
  rw [← Array.toList_filter] at hne ⊢
  generalize Array.filter (fun e => !seen.contains e.born) es = L at hmem hne ⊢
  have e1 : L.filter (fun x => decide (x.born < clock)) = L := Array.filter_eq_self.2 (fun x hx => by simpa using hmem x (by simpa using hx))
  have e2 : L.filter (fun x => decide (x.born ≥ clock)) = #[] := by
    rw [Array.filter_eq_empty_iff]
    intro x hx
    have := hmem x (by simpa using hx)
    simp
    omega
  simp only [e1, e2, Array.append_empty]
  have h0 : L.size ≠ 0 := fun h => hne (by rw [Array.eq_empty_of_size_eq_zero h])
  have hne' : L.isEmpty = false := by simp [Array.isEmpty, h0]
  simp only [hne', Bool.false_eq_true, if_false, Array.empty_append, Array.size_map]
  have hch : ∃ (j : Nat) (w1 : World), j < L.size ∧ (w1 = w ∨ w1 = w.drew) ∧ (choose (Question.mapNext L.size)).run P w = .ok j w1 := by
    by_cases hf : L.size ≤ 1
    · exact ⟨0, w, by omega, .inl rfl, by simp [choose, Sem.run, Question.forced, hf]⟩
    · exact ⟨_, w.drew, Nat.mod_lt _ (by omega), .inr rfl, by
        simp only [choose, Sem.run, Question.forced, decide_eq_true_eq, hf, if_false, Question.cut]
        rfl⟩
  obtain ⟨j, w1, hj, hal, hrun⟩ := hch
  refine ⟨j, L[j], w1, by simp [hj], hal, ?_⟩
  have hr1 : w1.heap[r]? = some (.mapIter (some bm) clock seen clock) := by rcases hal with rfl | rfl <;> exact hr
  simp only [hrun, Array.getElem?_map, Array.getElem?_eq_getElem hj, Option.map_some, Sem.run_bind, setObj, Sem.run, Result.andThen, hr1]
  rfl

/-- The next entry of a map, whichever it is. -/
theorem WL_nextM {n0 : Nat} (hn0 : cx.n = n0) {o : Oper} {l : List Oper} {x : Operand} {d b : Nat} {k v : Ty} {left last : List (k.el × v.el)} (ho : o.op = .next x false) (hd : o.dst = some d) (hdn : Nat.blt d n0 = true) (hg : o.guard = none)
    (hx : getSV st x = some (.iter b)) (hb : look st.bx b = some (.mit k v left last)) (hne : left ≠ [])
    (h : ∀ j p, left[j]? = some p → WL cx ops Q l ((st.setBox b (.mit k v (left.eraseIdx j) [p])).put d (.tup [⟨.bool, true⟩, ⟨k, p.1⟩, ⟨v, p.2⟩]))) : WL cx ops Q (o :: l) st := by
  rintro T w ⟨m, hm⟩
  have hbm := look_mem hb
  obtain ⟨g, e1, _, e3⟩ := hm.boxes b _ hbm
  have e1 : m b = .pointer (some ⟨g, 0, none⟩) := e1
  have hv : Act.eval ⟨T, []⟩ x = .pointer (some ⟨g, 0, none⟩) := by have : Act.eval ⟨T, []⟩ x = m b := getSV_sound hm hx; rw [this, e1]
  rcases e3 with ⟨_, h1, _⟩ | ⟨mb, es, clock, seen, h1, h2, h3, h4, h5, h6, _⟩
  · exact absurd h1 hne
  have hne' : es.toList.filter (fun e => !seen.contains e.born) ≠ [] := fun hc => hne (List.eq_nil_of_length_eq_zero (by rw [← repM_len h6, hc]; rfl))
  obtain ⟨j, e, w1, a1, a2, a3⟩ := run_nextM (P := cx.P) o.type h1 h2 h4 hne'
  obtain ⟨p, p1, p2, p3⟩ := repM_nth h6 a1
  have hlt := heap_some_lt h1
  have hw1 : Same w w1 ∧ w1.heap = w.heap := by rcases a2 with rfl | rfl <;> exact ⟨⟨rfl, rfl, rfl, Nat.le_refl _⟩, rfl⟩
  have hn : Touch m w b { w1 with heap := w1.heap.setIfInBounds g (.mapIter (some mb) clock (seen.push e.born) clock) } :=
    ⟨⟨hw1.1.os, hw1.1.tape, hw1.1.output, by rw [Array.size_setIfInBounds]; exact hw1.1.size⟩, fun k _ hne => by
      show (w1.heap.setIfInBounds g _)[k]? = _
      rw [Array.getElem?_setIfInBounds_ne, hw1.2]
      intro e
      exact hne (by rw [e1, e]; rfl)⟩
  have hbi : b ∈ st.ids := List.mem_append.2 (.inl (List.mem_map.2 ⟨_, hbm, rfl⟩))
  obtain ⟨kk1, kk2⟩ := Rm.touch_keeps (cx := cx) hbi hn (ids := (st.setBox b (.mit k v (left.eraseIdx j) [p])).ids) (setBox_ids hbm hm.keys _).1
  have hgm : mb ≠ g := fun e => h3 (.inr ⟨b, hbi, by rw [e1, e]; rfl⟩)
  have hset := hm.setBox hbm hn (g := g) (c := .mit k v (left.eraseIdx j) [p]) e1 (by
    refine .inr ⟨mb, es, clock, seen.push e.born, ?_, ?_, fun hc => h3 (kk2 mb (heap_some_lt h2) hc), h4, h5, ?_, .inr ⟨e, p, rfl, ?_, by simp, ?_, ?_⟩⟩
    · show (w1.heap.setIfInBounds g _)[g]? = _
      rw [Array.getElem?_setIfInBounds_self_of_lt (by rw [hw1.2]; exact hlt)]
    · show (w1.heap.setIfInBounds g _)[mb]? = _
      rw [Array.getElem?_setIfInBounds_ne (Ne.symm hgm), hw1.2]
      exact h2
    · have e5 : es.toList.filter (fun x => !(seen.push e.born).contains x.born) = (es.toList.filter (fun x => !seen.contains x.born)).eraseIdx j := by
        have hsub : ((es.toList.filter (fun x => !seen.contains x.born)).map (·.born)).Nodup := h5.sublist (List.Sublist.map _ List.filter_sublist)
        rw [← filter_erase _ j e hsub a1, List.filter_filter]
        congr 1
        funext x
        rw [Array.contains_push, Bool.not_or, Bool.and_comm]
      rw [e5]
      exact repM_mono (fun _ _ h => repV_ext kk1 kk2 h) (fun _ _ h => repV_ext kk1 kk2 h) (repM_erase j h6)
    · exact (List.mem_filter.1 (List.mem_of_getElem? a1)).1
    · exact repV_ext kk1 kk2 p2
    · exact repV_ext kk1 kk2 p3)
  have hput := hset.put (d := d) (by rw [hn0]; exact blt_true hdn) (v := .tuple #[.bool true, e.key, e.val]) (s := .tup [⟨.bool, true⟩, ⟨k, p.1⟩, ⟨v, p.2⟩])
    ⟨[.bool true, e.key, e.val], rfl, repV_bool.2 rfl, repV_ext kk1 kk2 p2, repV_ext kk1 kk2 p3, trivial⟩
  have hfin := h j p p1 _ _ ⟨m, hput⟩
  refine wpList_step fun K hK => ?_
  have hw : wantSV ops st o = some true := by unfold wantSV; rw [hg]
  rw [wantSV_sound ⟨m, hm⟩ hw]
  simp only [if_true]
  refine wp_value (exec_value (s := Instr.next (.pointer (some ⟨g, 0, none⟩)) false o.type) (by simp only [execOp, ho, hv]) a3) ?_
  refine hK _ _ ?_
  rw [hd]
  exact hfin

end Go.Ev

namespace Go.Ev
open Go Go.RowKit

/-- What has to hold, with its proofs. -/
inductive Obs : List Prop → Prop
  | n : Obs []
  | c {p : Prop} {l : List Prop} (h : p) (t : Obs l) : Obs (p :: l)
theorem Obs.all {l : List Prop} (h : Obs l) : allP l := by
  induction h with
  | n => trivial
  | c h _ ih => exact ⟨h, ih⟩
def keysOf {α : Type} (l : List (Nat × α)) : List Nat := l.map (·.1)
def outS (r : Option (St × List TV × List Prop)) : St := match r with
  | some (s, _) => s
  | none => ⟨[], [], []⟩
theorem outS_some {r : Option (St × List TV × List Prop)} {ob : List Prop} (h : r.map Prod.snd = some ([], ob)) : r = some (outS r, [], ob) := by
  match r, h with
  | some (s, o, p), h => cases h; rfl
def getS (r : Option St) : St := r.getD ⟨[], [], []⟩
theorem getS_some {r : Option St} (h : r.isSome = true) : r = some (getS r) := by
  match r, h with
  | some s, _ => rfl
def setB (st : St) (d : Nat) (b : Bool) : St := { st with sl := st.sl.map fun p => bif Nat.beq p.1 d then (p.1, .val .bool b) else p }

variable {cx : Cx} {st st' : St} {Q : Post} {E : Env} {ops : Array Oper} {l : List Oper} {K : World → Act → Prop}

theorem WL_allC (hE : EnvOK E cx) (ks bs rs : List Nat) {orc : List TV} {ob : List Prop} (hev : (evK E ops l st orc ks bs rs).map Prod.snd = some ([], ob)) (hob : Obs ob) (h : N cx Q .normal (outS (evK E ops l st orc ks bs rs))) : WL cx ops Q l st :=
  WL_all hE ks bs rs (outS_some hev) hob.all h
theorem WL_allI (hE : EnvOK E cx) {orc : List TV} {ob : List Prop} (hev : evK E ops l st orc (keysOf st'.sl) (keysOf st'.bx) (keysOf st'.rw) = some (st', [], ob)) (hob : Obs ob) (h : N cx Q .normal st') : WL cx ops Q l st :=
  WL_all hE _ _ _ hev hob.all h
theorem WL_tkC (hE : EnvOK E cx) (n : Nat) (ks bs rs : List Nat) {orc : List TV} {ob : List Prop} (hev : (evK E ops (l.take n) st orc ks bs rs).map Prod.snd = some ([], ob)) (hob : Obs ob) (h : WL cx ops Q (l.drop n) (outS (evK E ops (l.take n) st orc ks bs rs))) : WL cx ops Q l st :=
  WL_tk hE n ks bs rs (outS_some hev) hob.all h
theorem WD_allC (hE : EnvOK E cx) (ks bs rs : List Nat) {orc : List TV} {ob : List Prop} (hev : (evDK E ops l st orc ks bs rs).map Prod.snd = some ([], ob)) (hob : Obs ob) (h : N cx Q .normal (outS (evDK E ops l st orc ks bs rs))) : WD cx ops Q l st :=
  WD_all hE ks bs rs (outS_some hev) hob.all h
theorem WD_allI (hE : EnvOK E cx) {orc : List TV} {ob : List Prop} (hev : evDK E ops l st orc (keysOf st'.sl) (keysOf st'.bx) (keysOf st'.rw) = some (st', [], ob)) (hob : Obs ob) (h : N cx Q .normal st') : WD cx ops Q l st :=
  WD_all hE _ _ _ hev hob.all h
theorem WD_tkC (hE : EnvOK E cx) (n : Nat) (ks bs rs : List Nat) {orc : List TV} {ob : List Prop} (hev : (evDK E ops (l.take n) st orc ks bs rs).map Prod.snd = some ([], ob)) (hob : Obs ob) (h : WD cx ops Q (l.drop n) (outS (evDK E ops (l.take n) st orc ks bs rs))) : WD cx ops Q l st :=
  WD_tk hE n ks bs rs (outS_some hev) hob.all h
theorem WDK_allC (hE : EnvOK E cx) (ks bs rs : List Nat) {orc : List TV} {ob : List Prop} (hev : (evDK E ops l st orc ks bs rs).map Prod.snd = some ([], ob)) (hob : Obs ob) (h : ND cx K (outS (evDK E ops l st orc ks bs rs))) : WDK cx ops K l st :=
  WDK_all hE ks bs rs (outS_some hev) hob.all h
theorem WDK_allI (hE : EnvOK E cx) {orc : List TV} {ob : List Prop} (hev : evDK E ops l st orc (keysOf st'.sl) (keysOf st'.bx) (keysOf st'.rw) = some (st', [], ob)) (hob : Obs ob) (h : ND cx K st') : WDK cx ops K l st :=
  WDK_all hE _ _ _ hev hob.all h
theorem WDK_tkC (hE : EnvOK E cx) (n : Nat) (ks bs rs : List Nat) {orc : List TV} {ob : List Prop} (hev : (evDK E ops (l.take n) st orc ks bs rs).map Prod.snd = some ([], ob)) (hob : Obs ob) (h : WDK cx ops K (l.drop n) (outS (evDK E ops (l.take n) st orc ks bs rs))) : WDK cx ops K l st :=
  WDK_tk hE n ks bs rs (outS_some hev) hob.all h
theorem W_tailC {id : Nat} (hE : EnvOK E cx) (n : Nat) (ks bs rs : List Nat) {orc : List TV} {ob : List Prop} (hm : E.P.follows .mixedOrders = true) (hB : Region.lexTailB .any l.toArray n = true)
    (hev : (evDK E l.toArray (l.take n) st orc ks bs rs).map Prod.snd = some ([], ob)) (hob : Obs ob) (h : WL cx l.toArray Q (l.drop n) (outS (evDK E l.toArray (l.take n) st orc ks bs rs))) : W cx Q (.region id l.toArray true) st :=
  W_tailQ hE n ks bs rs hm hB (outS_some hev) hob.all h
theorem WL_splitC (d : Nat) {b : Bool} (he : setB st d b = st) (ht : b = true → WL cx ops Q l (setB st d true)) (hf : b = false → WL cx ops Q l (setB st d false)) : WL cx ops Q l st := by
  rw [← he]
  exact WL_split (setB st d) ht hf
theorem WD_splitC (d : Nat) {b : Bool} (he : setB st d b = st) (ht : b = true → WD cx ops Q l (setB st d true)) (hf : b = false → WD cx ops Q l (setB st d false)) : WD cx ops Q l st := by
  rw [← he]
  exact WD_split (setB st d) ht hf
theorem WDK_splitC (d : Nat) {b : Bool} (he : setB st d b = st) (ht : b = true → WDK cx ops K l (setB st d true)) (hf : b = false → WDK cx ops K l (setB st d false)) : WDK cx ops K l st := by
  rw [← he]
  exact WDK_split (setB st d) ht hf
theorem WL_callBC (hE : EnvOK E cx) {α β : Type} {F : FnB α β} {f : Nat} (hB : BC E.P E.G f F) (x : α) (y : β) (hxy : F.rel x y) {o : Oper} {ρ ρ' : List (Nat × Nat)} {n : Nat} (hn : F.n = n) (ks bs rws : List Nat)
    (hw : wantSV ops st o = some true) (hen : enterB E st o n f ρ = some (F.S x)) (hlv : (leaveB st (F.S' x y) o n E.n ρ ρ' (F.rs x y) ks bs rws).isSome = true) (h : WL cx ops Q l (getS (leaveB st (F.S' x y) o n E.n ρ ρ' (F.rs x y) ks bs rws))) : WL cx ops Q (o :: l) st :=
  WL_callB hE hB x y hxy hn ks bs rws hw hen (getS_some hlv) h
theorem N_normI {e : Exit} (hs : st.norm (keysOf st'.sl) (keysOf st'.bx) (keysOf st'.rw) = some st') (h : N cx Q e st') : N cx Q e st := h.norm hs
theorem N_normC {e : Exit} (ks bs rs : List Nat) (hs : (st.norm ks bs rs).isSome = true) (h : N cx Q e (getS (st.norm ks bs rs))) : N cx Q e st := h.norm (getS_some hs)
theorem W_normI {c : Code} (hs : st.norm (keysOf st'.sl) (keysOf st'.bx) (keysOf st'.rw) = some st') (h : W cx Q c st') : W cx Q c st := h.norm hs
theorem N_renI {e : Exit} (ks bs rs : List Nat) (ρ : List (Nat × Nat)) (hs : ((st.norm ks bs rs).bind (·.ren ρ)) = some st') (h : N cx Q e st') : N cx Q e st := by
  obtain ⟨s, h1, h2⟩ := Option.bind_eq_some_iff.1 hs
  exact (N.ren ρ h2 h).norm h1
theorem N_renC {e : Exit} (ks bs rs : List Nat) (ρ : List (Nat × Nat)) (hs : ((st.norm ks bs rs).bind (·.ren ρ)).isSome = true) (h : N cx Q e (getS ((st.norm ks bs rs).bind (·.ren ρ)))) : N cx Q e st := N_renI ks bs rs ρ (getS_some hs) h
theorem ND_normI (hs : st.norm (keysOf st'.sl) (keysOf st'.bx) (keysOf st'.rw) = some st') (h : ND cx K st') : ND cx K st := fun T w hR => h T w (hR.norm hs)
end Go.Ev

namespace Go.Ev
open Go Go.RowKit
variable {cx : Cx} {m : Nat → Value} {st st' : St} {T : Array Value} {w w' : World} {E : Env} {Q : Post} {ops : Array Oper} {l : List Oper}

/-- What is known of a function that turns its one argument's elements in place. -/
structure IC (P : Program) (G : World → Prop) (f e : Nat) (t : Ty) (rel : List t.el → List t.el → Prop) : Prop where
  enters : ∀ args w, (callFunc f args).run P w = .ok (.enter f args) w
  calls : ∀ (w : World) (M : Nat → Prop) (v : Value) (xs ys : List t.el) (cells : List Value), G w → rel xs ys → w.ownsRow 0 e t.cells v xs.length cells → repL (rep w M t) cells xs →
    Calls P f #[v] w fun x w' => ∃ u cells', x = .returned u ∧ Same w w' ∧ (∀ b, b < w.heap.size → blk v ≠ some b → w'.heap[b]? = w.heap[b]?) ∧ w'.ownsRow 0 e t.cells v ys.length cells' ∧ repL (rep w M t) cells' ys

/-- The row that such a call turns. -/
def enterI (st : St) (o : Oper) (f : Nat) : Option Nat :=
  match o.op with
  | .call c => match c.callee, c.args.toList with
    | .value x, [a] => match getSV st x, getSV st a with
      | some (.clos f' []), some (.row r) => bif Nat.beq f' f then some r else none
      | _, _ => none
    | _, _ => none
  | _ => none
def leaveI (st : St) (o : Oper) (n r : Nat) (c : RowC) (ks bs rws : List Nat) : Option St :=
  match o.dst with
  | none => (st.setRow r c).norm ks bs rws
  | some d => match Nat.blt d n with
    | true => ((st.setRow r c).put d .any).norm ks bs rws
    | false => none

theorem WL_callI (hE : EnvOK E cx) {f e : Nat} {t : Ty} {rel : List t.el → List t.el → Prop} (hI : IC E.P E.G f e t rel) (xs ys : List t.el) (hr : rel xs ys) {o : Oper} (r : Nat) (ks bs rws : List Nat)
    (hw : wantSV ops st o = some true) (hen : enterI st o f = some r) (hc : look st.rw r = some ⟨e, t, xs⟩) (hlv : leaveI st o E.n r ⟨e, t, ys⟩ ks bs rws = some st') (h : WL cx ops Q l st') : WL cx ops Q (o :: l) st := by
  rintro T w ⟨m, hm⟩
  refine wpList_step fun K hK => ?_
  rw [wantSV_sound ⟨m, hm⟩ hw]
  simp only [if_true]
  unfold enterI at hen
  split at hen
  case h_2 => cases hen
  rename_i c hop
  split at hen
  case h_2 => cases hen
  rename_i xo a hcal hargs
  split at hen
  case h_2 => cases hen
  rename_i f' r' hx ha
  cases hb : Nat.beq f' f with
  | false => rw [hb] at hen; cases hen
  | true =>
  rw [hb] at hen
  cases hen
  have hf := Nat.eq_of_beq_eq_true hb
  subst hf
  have hv : Act.eval ⟨T, []⟩ xo = .func (.func f') #[] (([] : List Nat).map m).toArray := getSV_sound hm hx
  have hva : Act.eval ⟨T, []⟩ a = m r := getSV_sound hm ha
  have hcm := look_mem hc
  obtain ⟨cells, hown, hout, hL⟩ := hm.rows r _ hcm
  have hI' := hI
  rw [← hE.P] at hI'
  have hcalls := hI'.calls w (Mut cx m st.ids) (m r) xs ys cells (hE.glob w hm.frame) hr hown hL
  unfold Oper.wp
  rw [evCall_run hop hcal hv hI'.enters w, hargs]
  simp only [List.map_cons, List.map_nil, List.append_nil, hva]
  refine hcalls.mono ?_
  rintro x w' ⟨u, cells', rfl, hs, hk, ho, hl⟩
  show K (Act.put ⟨T, []⟩ o.dst u) w'
  have hri : r ∈ st.ids := List.mem_append.2 (.inr (List.mem_map.2 ⟨_, hcm, rfl⟩))
  have ht : Touch m w r w' := ⟨hs, hk⟩
  obtain ⟨hids, _⟩ := setRow_ids hcm hm.keys ⟨e, t, ys⟩
  obtain ⟨q1, q2⟩ := Rm.touch_keeps (cx := cx) hri ht hids
  have h2 : Rm cx m (st.setRow r ⟨e, t, ys⟩) T w' := hm.setRow hcm ht ho (repL_mono (fun _ _ => rep_ext q1 q2 t) hl)
  unfold leaveI at hlv
  split at hlv
  · rename_i hd
    rw [hd]
    exact hK _ _ (h _ _ ⟨m, h2.norm hlv⟩)
  · rename_i d hd
    split at hlv
    · rename_i hlt
      rw [hd]
      have hlt : d < cx.n := by rw [hE.n]; exact blt_true hlt
      exact hK _ _ (h _ _ ⟨m, (h2.put hlt (s := .any) trivial).norm hlv⟩)
    · cases hlv
end Go.Ev

namespace Go.Ev
open Go Go.RowKit Go.WideShapes

/-- Numbers within their kinds, lengths that may be. -/
def wfEl : (t : Ty) → t.el → Prop
  | .int k, n => (Lit.int k n).wf = true
  | .str, s => List.length (α := UInt8) s ≤ maxLen
  | .sl t, xs => List.length (α := t.el) xs ≤ maxLen ∧ ∀ x ∈ (show List t.el from xs), wfEl t x
  | .pair a b, x => wfEl a x.1 ∧ wfEl b x.2
  | .arr n t, xs => List.length (α := t.el) xs = n ∧ ∀ x ∈ (show List t.el from xs), wfEl t x
  | _, _ => True
/-- The shapes that an argument may have here. -/
def argOK : Ty → Bool
  | .int _ => true
  | .bool => true
  | .str => true
  | .sl t => argOK t
  | .unit => true
  | .pair a b => argOK a && argOK b
  | .arr _ t => argOK t
  | _ => false

theorem cells?_facts {w : World} {a : Addr} {n : Nat} {c : List Value} (h : w.cells? 0 a n = some c) : c.length = n ∧ ∀ j v, c[j]? = some v → w.cell? (a.add j) = some v := by
  unfold World.cells? at h
  rw [if_pos (Nat.zero_le _)] at h
  have hl : c.length = n := by simpa using mapM_some_length h
  refine ⟨hl, fun j v hj => ?_⟩
  have hlt : j < n := by rw [← hl]; exact (List.getElem?_eq_some_iff.1 hj).1
  have := mapM_some_get h j j (by simp [hlt])
  rw [this, hj]
theorem repL_snoc {α : Type} {f : List Value → α → Prop} : ∀ {xs : List α} {cs c : List Value} {x : α}, repL f cs xs → f c x → repL f (cs ++ c) (xs ++ [x])
  | [], cs, c, x, h, hx => by cases h; exact ⟨c, [], by simp, hx, rfl⟩
  | y :: ys, cs, c, x, ⟨c1, c2, e, h1, h2⟩, hx => ⟨c1, c2 ++ c, by simp [e], h1, repL_snoc h2 hx⟩
theorem list_snoc {α : Type} {p : α → Prop} {xs : List α} {y : α} (h : ∀ x ∈ xs, p x) (hy : p y) : ∀ x ∈ xs ++ [y], p x := by
  intro x hx
  rcases List.mem_append.1 hx with hx | hx
  · exact h x hx
  · simp at hx; subst hx; exact hy

theorem fields_rep {H : Type} {enc : TypeId × Value → H} {P : Program} {w : World} {spare : Nat → Bool} {held : Bool} {d n : Nat}
    (ih : ∀ (t : TypeId) (u : Ty), tyOf P d t = some u → argOK u = true → ∀ (cs : List Value) (x : DataW H × List MemPlace), DataW.trod enc P w 0 spare held n t cs = some x → ∃ y : u.el, rep w (fun _ => False) u cs y ∧ wfEl u y) :
    ∀ (fs : List Field) (off : Nat) (u : Ty), fieldsOf (tyOf P d) off fs = some u → argOK u = true → ∀ (cs : List Value), cs.length = off + u.cells → (∀ f ∈ fs, ∃ x, DataW.trod enc P w 0 spare held n f.type ((cs.drop f.offset).take (P.cellsOf f.type)) = some x) →
      ∃ y : u.el, rep w (fun _ => False) u (cs.drop off) y ∧ wfEl u y
  | [], off, u, h, _, cs, hl, _ => by
    simp only [fieldsOf, Option.some.injEq] at h
    subst h
    refine ⟨(), ?_, trivial⟩
    show cs.drop off = []
    exact List.drop_eq_nil_of_le (by rw [hl]; exact Nat.le_refl _)
  | fd :: fs, off, u, h, ha, cs, hl, hall => by
    unfold fieldsOf at h
    cases hb : Nat.beq fd.offset off with
    | false => rw [hb] at h; cases h
    | true =>
      have hoff := Nat.eq_of_beq_eq_true hb
      rw [hb, cond_true] at h
      split at h
      · rename_i a hta
        split at h
        · rename_i b hfs
          cases h
          simp only [argOK, Bool.and_eq_true] at ha
          obtain ⟨x, hx⟩ := hall fd List.mem_cons_self
          obtain ⟨y, h1, h2⟩ := ih fd.type a hta ha.1 _ x hx
          have hl' : cs.length = (off + a.cells) + b.cells := by rw [hl]; show off + (a.cells + b.cells) = _; omega
          obtain ⟨z, h3, h4⟩ := fields_rep ih fs (off + a.cells) b hfs ha.2 cs hl' fun f hf => hall f (List.mem_cons_of_mem _ hf)
          refine ⟨(y, z), ⟨(cs.drop off).take a.cells, cs.drop (off + a.cells), ?_, ?_, h3⟩, h2, h4⟩
          · rw [← List.drop_drop, List.take_append_drop]
          · rw [hoff, cells_of hta] at h1; exact h1
        · cases h
      · cases h

theorem trod_rep {H : Type} {enc : TypeId × Value → H} {P : Program} {w : World} {spare : Nat → Bool} {held : Bool} : ∀ (d : Nat) (t : TypeId) (u : Ty), tyOf P d t = some u → argOK u = true → ∀ (fuel : Nat) (cs : List Value) (x : DataW H × List MemPlace),
    DataW.trod enc P w 0 spare held fuel t cs = some x → ∃ y : u.el, rep w (fun _ => False) u cs y ∧ wfEl u y
  | 0, _, _, h => by cases h
  | d + 1, t, u, h => by
    intro ha fuel cs x hx
    unfold tyOf at h
    split at h
    · rename_i i k hi hu
      cases hb : Nat.beq i.size 1 <;> rw [hb] at h <;> cases h
      obtain ⟨n, rfl, _, hw⟩ := DataW.trod_int hu hx
      exact ⟨n, rfl, hw⟩
    · rename_i i hi hu
      cases hb : Nat.beq i.size 1 <;> rw [hb] at h <;> cases h
      obtain ⟨b, rfl, _⟩ := DataW.trod_bool hu hx
      exact ⟨b, rfl, trivial⟩
    · rename_i i hi hu
      cases hb : Nat.beq i.size 1 <;> rw [hb] at h <;> cases h
      obtain ⟨s, rfl, _, hw⟩ := DataW.trod_string hu hx
      have hl : List.length s.data.toList ≤ maxLen := by rw [Array.length_toList]; exact hw
      exact ⟨s.data.toList, ⟨rfl, hl⟩, hl⟩
    · rename_i i e hi hu
      cases hb : Nat.beq i.size 1 <;> rw [hb] at h
      · cases h
      rw [cond_true] at h
      split at h
      case h_2 => cases h
      rename_i v hv
      cases h
      rcases DataW.trod_slice hu hx with ⟨rfl, _⟩ | ⟨a, len, cap, elems, rest, n, _, rfl, _, _, hlc, hcap, hel, hall, _⟩
      · exact ⟨[], ⟨none, 0, [], rfl, Nat.le_refl _, by decide, fun _ => rfl, rfl, fun j u hj => by simp at hj⟩, Nat.zero_le _, fun x hx => by cases hx⟩
      · have key : ∀ k, k ≤ len → ∃ (ys : List v.el) (cells : List Value), ys.length = k ∧ repL (rep w (fun _ => False) v) cells ys ∧ (∀ y ∈ ys, wfEl v y) ∧ cells.length = k * v.cells ∧ ∀ j u, cells[j]? = some u → w.cell? (a.add j) = some u := by
          intro k
          induction k with
          | zero => intro _; exact ⟨[], [], rfl, rfl, (fun y hy => by cases hy), by simp, fun j u hj => by simp at hj⟩
          | succ k ihk =>
            intro hk
            obtain ⟨ys, cells, h1, h2, h3, h4, h5⟩ := ihk (by omega)
            have hk' := hall k (by omega)
            have : ∃ z, elems[k]? = some z := ⟨_, List.getElem?_eq_getElem (by omega)⟩
            obtain ⟨z, hz⟩ := this
            rw [hz, Option.bind_eq_some_iff] at hk'
            obtain ⟨c, hc, htr⟩ := hk'
            obtain ⟨c1, c2⟩ := cells?_facts hc
            obtain ⟨y, r1, r2⟩ := trod_rep d e v hv ha n c z htr
            rw [cells_of hv] at c1 c2
            refine ⟨ys ++ [y], cells ++ c, by simp [h1], repL_snoc h2 r1, list_snoc h3 r2, by rw [List.length_append, h4, c1, Nat.succ_mul], fun j u hj => ?_⟩
            by_cases hlt : j < cells.length
            · rw [List.getElem?_append_left hlt] at hj; exact h5 j u hj
            · rw [List.getElem?_append_right (by omega)] at hj
              have := c2 _ u hj
              rw [add_add, h4] at this
              rw [h4] at hlt
              rwa [show k * v.cells + (j - k * v.cells) = j by omega] at this
        obtain ⟨ys, cells, h1, h2, h3, h4, h5⟩ := key len (Nat.le_refl _)
        refine ⟨ys, ⟨some a, cap, cells, by rw [h1], by rw [h1]; exact hlc, hcap, (fun hn : some a = none => by cases hn), h2, fun j u hj => ⟨a, rfl, h5 j u hj, fun h => h⟩⟩, by rw [h1]; exact Nat.le_trans hlc hcap, h3⟩
    · rename_i i fs hi hu
      split at h
      case h_2 => cases h
      rename_i v hv
      cases hb : Nat.beq i.size v.cells <;> rw [hb] at h <;> cases h
      obtain ⟨xs, n, _, _, hl, hlen, hall⟩ := DataW.trod_struct hu hx
      have hcl : cs.length = u.cells := by
        rw [hl]
        simp [Program.cellsOf, hi, Nat.eq_of_beq_eq_true hb]
      have := fields_rep (n := n) (fun t' u' ht' ha' cs' x' hx' => trod_rep d t' u' ht' ha' n cs' x' hx') fs.toList 0 u hv ha cs (by rw [hcl, Nat.zero_add]) (by
        intro f hf
        obtain ⟨j, hj, e⟩ := List.getElem_of_mem hf
        have hj' : j < fs.size := by simpa using hj
        have := hall j f (by rw [Array.getElem?_eq_getElem hj', ← e]; simp)
        rw [this]
        exact ⟨_, List.getElem?_eq_getElem (by omega)⟩)
      rw [List.drop_zero] at this
      exact this
    · rename_i i ms hi hu
      cases hb : Nat.beq i.size 1 <;> rw [hb] at h <;> cases h
      cases ha
    · rename_i i n e hi hu
      split at h
      case h_2 => cases h
      rename_i v hv
      cases hb : Nat.beq i.size (n * v.cells) <;> rw [hb] at h <;> cases h
      obtain ⟨xs, m, _, _, hl, hlen, hall⟩ := DataW.trod_array hu hx
      have hcl : cs.length = n * v.cells := by
        rw [hl]
        simp [Program.cellsOf, hi, Nat.eq_of_beq_eq_true hb]
      have key : ∀ k, k ≤ n → ∃ ys : List v.el, ys.length = k ∧ repL (rep w (fun _ => False) v) (cs.take (k * v.cells)) ys ∧ ∀ y ∈ ys, wfEl v y := by
        intro k
        induction k with
        | zero => intro _; exact ⟨[], rfl, by simp [repL], fun y hy => by cases hy⟩
        | succ k ihk =>
          intro hk
          obtain ⟨ys, h1, h2, h3⟩ := ihk (by omega)
          have hk' := hall k (by omega)
          obtain ⟨z, hz⟩ : ∃ z, xs[k]? = some z := ⟨_, List.getElem?_eq_getElem (by omega)⟩
          rw [hz] at hk'
          obtain ⟨y, r1, r2⟩ := trod_rep d e v hv ha m _ z hk'
          rw [cells_of hv] at r1
          refine ⟨ys ++ [y], by simp [h1], ?_, list_snoc h3 r2⟩
          have e1 : cs.take ((k + 1) * v.cells) = cs.take (k * v.cells) ++ (cs.drop (k * v.cells)).take v.cells := by
            rw [Nat.succ_mul, List.take_add]
          rw [e1]
          exact repL_snoc h2 r1
      obtain ⟨ys, h1, h2, h3⟩ := key n (Nat.le_refl _)
      rw [List.take_of_length_le (by omega)] at h2
      exact ⟨ys, ⟨h1, h2⟩, h1, h3⟩
    · rename_i i k e hi hu
      cases hb : Nat.beq i.size 1 <;> rw [hb] at h
      · cases h
      rw [cond_true] at h
      split at h
      · cases h; cases ha
      · cases h
    · rename_i i a b c hi hu
      cases hb : Nat.beq i.size 1 <;> rw [hb] at h <;> cases h
      cases ha
    · rename_i i e hi hu
      cases hb : Nat.beq i.size 1 <;> rw [hb] at h <;> cases h
      cases ha
    · cases h

/-- An argument, opened. -/
theorem open_arg {H : Type} {enc : TypeId × Value → H} {P : Program} {w : World} {spare : Nat → Bool} {held : Bool} {r : Reach} {b0 : Nat} {t : TypeId} {u : Ty} (ht : ty P t = some u) (ha : argOK u = true) {v : Value} {d : DataW H} {ps : List MemPlace}
    (hval : Value.okWide P w r b0 t v) (hd : DataW.Trod enc P w 0 spare held t v d ps) : ∃ x : u.el, repV w (fun _ => False) v u x ∧ wfEl u x := by
  obtain ⟨fuel, hf⟩ := hd
  obtain ⟨x, h1, h2⟩ := trod_rep dep t u ht ha fuel _ _ hf
  refine ⟨x, ?_, h2⟩
  obtain ⟨i, hi, hsz, hfacts⟩ := tyOf_facts ht
  cases hag : u.agg with
  | true =>
    have : ∃ cs, v = .agg cs := by
      have hs : (∃ fs, P.underlying t = some (.struct fs)) ∨ ∃ n e, P.underlying t = some (.array n e) := by
        cases u with
        | unit => obtain ⟨fs, _, h, _⟩ := hfacts; exact .inl ⟨fs, h⟩
        | pair a b => obtain ⟨fs, _, h, _⟩ := hfacts; exact .inl ⟨fs, h⟩
        | arr n t => obtain ⟨e, _, h, _⟩ := hfacts; exact .inr ⟨n, e, h⟩
        | _ => cases hag
      unfold Value.okWide at hval
      rcases hs with ⟨fs, h⟩ | ⟨n, e, h⟩
      · rw [h] at hval; obtain ⟨cs, e, _⟩ := hval; exact ⟨cs, e⟩
      · rw [h] at hval; obtain ⟨cs, e, _⟩ := hval; exact ⟨cs, e⟩
    obtain ⟨cs, rfl⟩ := this
    exact (repV_agg hag).2 ⟨cs.toList, by simp, h1⟩
  | false =>
    refine (repV_plain hag).2 ?_
    have hv : v.cells.toList = [v] := by
      cases u with
      | int k => obtain ⟨n, rfl⟩ := okWide_int hfacts hval; rfl
      | bool => obtain ⟨n, rfl⟩ := okWide_bool hfacts hval; rfl
      | str => obtain ⟨n, rfl⟩ := okWide_string hfacts hval; rfl
      | sl e => obtain ⟨e', _, hs, _⟩ := hfacts; obtain ⟨a, l, c, rfl⟩ := okWide_slice hs hval; rfl
      | unit => cases hag
      | pair a b => cases hag
      | arr n t => cases hag
      | _ => cases ha
    rw [hv] at h1
    exact h1

end Go.Ev
