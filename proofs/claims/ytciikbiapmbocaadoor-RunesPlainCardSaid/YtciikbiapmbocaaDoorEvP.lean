/- Calls by contracts; one operation; lists of operations; regions. -/
import Derived.Test.YtciikbiapmbocaaDoorEvO
import Derived.Deep.Quiet
namespace Go.Ev
open Go Go.RowKit
variable {cx : Cx} {m : Nat → Value} {st : St} {T : Array Value} {w w' : World}

/-- What a function is known to do: 'rel' of the arguments and the results; 'flat': no memory hangs on its results. -/
structure FnC where
  flat : Bool
  nres : Nat
  caps : List Ty
  rel : List TV → List TV → Prop

def repRes (w : World) (M : Nat → Prop) (v : Value) : List TV → Prop
  | [] => True
  | [u] => repV w M v u.t u.x
  | l => ∃ vs : List Value, v = .tuple vs.toArray ∧ repVs w M vs l

/-- A function does what is known of it: for whatever plain data as its arguments, in whatever memory in which G holds (what package-level variables hold). -/
structure Contract (P : Program) (G : World → Prop) (f : Nat) (F : FnC) : Prop where
  enters : ∀ args w, (callFunc f args).run P w = .ok (.enter f args) w
  shape : ∀ as rs, F.rel as rs → rs.length = F.nres ∧ (F.flat = true → ∀ u ∈ rs, u.t.flat = true)
  calls : ∀ (w : World) (M : Nat → Prop) (vs : List Value) (as rs : List TV), G w → (∀ b, M b → b < w.heap.size) → F.rel as rs → repVs w M vs as →
    Calls P f vs.toArray w fun e w' => ∃ v, e = .returned v ∧ repRes w' M v rs ∧ Ext w w'

structure Env where
  P : Program
  G : World → Prop
  n : Nat
  fns : List (Nat × FnC)

structure EnvOK (E : Env) (cx : Cx) : Prop where
  P : cx.P = E.P
  n : cx.n = E.n
  glob : ∀ w, Frame cx.w0 w cx.X → E.G w
  fns : ∀ f F, (f, F) ∈ E.fns → Contract E.P E.G f F

/-- What a boxed variable holds, as a pointer that is only read through. -/
def boxTV (st : St) (b off : Nat) (u : Ty) : Option TV :=
  match look st.bx b with
  | some (.cells l _) => match pack u ((l.drop off).map (thaw st)) with
    | some (x, _) => some ⟨.ptr u, x⟩
    | none => none
  | _ => none
def capTVs (st : St) : List Nat → List Ty → Option (List TV)
  | [], [] => some []
  | b :: bs, u :: us => match boxTV st b 0 u, capTVs st bs us with
    | some v, some vs => some (v :: vs)
    | _, _ => none
  | _, _ => none
def pairUp : List TV → TV
  | [] => ⟨.unit, ()⟩
  | u :: us => ⟨.pair u.t (pairUp us).t, (u.x, (pairUp us).x)⟩
def unpair : (t : Ty) → t.el → Option (List TV)
  | .unit, _ => some []
  | .pair a b, x => match unpair b x.2 with
    | some l => some (⟨a, x.1⟩ :: l)
    | none => none
  | _, _ => none

/-- An argument: a plain value; where the result is flat: an owned slice, a boxed variable that is only read, a function value whose boxed variables are only read; the nil slice. -/
def argTV (E : Env) (st : St) (flat : Bool) (t : TypeId) (x : Operand) : Option TV :=
  match x with
  | .const (.slice none 0 0) => match elemOf? E.P t with
    | some (_, u) => some ⟨.sl u, []⟩
    | none => none
  | x => match getSV st x with
    | some (.val t y) => some ⟨t, y⟩
    | some (.vptr t y) => some ⟨.ptr t, y⟩
    | some (.row r) => match flat, look st.rw r with
      | true, some c => some ⟨.sl c.t, c.xs⟩
      | _, _ => none
    | some (.iter b) => match flat, look st.bx b with
      | true, some (.mp k v ps) => some ⟨.map k v, some ps⟩
      | _, _ => none
    | some (.ptr b off) => match flat, E.P.underlying t with
      | true, some (.pointer e) => match ty E.P e with
        | some u => boxTV st b off u
        | none => none
      | _, _ => none
    | some (.bp b p) => match flat, look st.bx b with
      | true, some (.blk t' y _) => match getP t' y p [] with
        | some (r, _, []) => some ⟨.ptr r.t, r.x⟩
        | _ => none
      | _, _ => none
    | some (.clos f bs) => match flat, look E.fns f with
      | true, some F => match capTVs st bs F.caps with
        | some l => some ⟨.fn f (pairUp l).t, (pairUp l).x⟩
        | none => none
      | _, _ => none
    | _ => none
def argTVs (E : Env) (st : St) (flat : Bool) : List TypeId → List Operand → Option (List TV)
  | [], [] => some []
  | t :: ts, x :: xs => match argTV E st flat t x, argTVs E st flat ts xs with
    | some v, some vs => some (v :: vs)
    | _, _ => none
  | _, _ => none

def resSV : List TV → SV
  | [] => .any
  | [u] => .val u.t u.x
  | l => .tup l

/-- The function that is called, and what it has captured. -/
def calleeOf (E : Env) (st : St) (x : Operand) : Option (Nat × FnC × List TV) :=
  match getSV st x with
  | some (.clos f bs) => match look E.fns f with
    | some F => match bs with
      | [] => some (f, F, [])
      | bs => match F.flat, capTVs st bs F.caps with
        | true, some l => some (f, F, l)
        | _, _ => none
    | none => none
  | some (.val (.fn f t) y) => match look E.fns f, unpair t y with
    | some F, some l => match l.all (fun u => !u.t.agg) with
      | true => some (f, F, l)
      | false => none
    | _, _ => none
  | _ => none
def evCall (E : Env) (st : St) (c : Call) (orc : List TV) : Option PR :=
  match c.callee with
  | .value x => match calleeOf E st x with
    | some (_, F, l) => match argTVs E st F.flat c.argTypes.toList c.args.toList with
      | some as => bif Nat.ble F.nres orc.length then some ⟨resSV (orc.take F.nres), orc.drop F.nres, [F.rel (as ++ l) (orc.take F.nres)]⟩ else none
      | none => none
    | none => none
  | _ => none

theorem repVs_append {M : Nat → Prop} {v : Value} {u : TV} {vs : List Value} {us : List TV} (h1 : repV w M v u.t u.x) (h2 : repVs w M vs us) : repVs w M (v :: vs) (u :: us) := ⟨h1, h2⟩

theorem repSs_thaw (h : Rm cx m st T w) : ∀ {c : List Value} {l : List SV}, repSs w (Mut cx m st.ids) m c l → repSs w (fun _ => False) m c (l.map (thaw st))
  | [], [], _ => trivial
  | [], _ :: _, h => h.elim
  | _ :: _, [], h => h.elim
  | _ :: _, _ :: _, ⟨h1, h2⟩ => ⟨thaw_sound h h1, repSs_thaw h h2⟩
theorem boxTV_sound (h : Rm cx m st T w) {b off : Nat} {u : Ty} {v : TV} (hb : boxTV st b off u = some v) {x : Value} (hx : ∃ g, m b = .pointer (some ⟨g, 0, none⟩) ∧ x = .pointer (some ⟨g, off, none⟩)) :
    repV w (fun _ => False) x v.t v.x := by
  unfold boxTV at hb
  split at hb
  · rename_i l hl
    split at hb
    · rename_i y r hp
      cases hb
      obtain ⟨g, hg1, rfl⟩ := hx
      obtain ⟨g', e1, _, cells, e3, e4⟩ := h.boxes b _ (look_mem hl)
      have : g' = g := by rw [hg1] at e1; cases e1; rfl
      subst this
      obtain ⟨_, hd⟩ := repSs_split off e4
      obtain ⟨c1, c2, hcs, hrep, _⟩ := pack_rep u (repSs_thaw h hd) hp
      refine (repV_plain (t := .ptr u) rfl).2 ⟨_, c1, rfl, hrep, fun j v hj => ⟨?_, fun h => h⟩⟩
      have h2 : (cells.toList.drop off)[j]? = some v := by rw [hcs, List.getElem?_append_left (List.getElem?_eq_some_iff.1 hj).1]; exact hj
      rw [List.getElem?_drop] at h2
      have ea : (⟨g', off, none⟩ : Addr).add j = ⟨g', off + j, none⟩ := by unfold Addr.add; split <;> simp_all
      rw [ea, cell_in e3]
      simpa using h2
    · cases hb
  · cases hb
theorem capTVs_sound (h : Rm cx m st T w) : ∀ {bs : List Nat} {us : List Ty} {l : List TV}, (∀ b ∈ bs, ∀ c e, look st.bx b = some (.cells c e) → ∃ g, m b = .pointer (some ⟨g, 0, none⟩)) → capTVs st bs us = some l → repVs w (fun _ => False) (bs.map m) l
  | [], [], _, _, hl => by cases hl; trivial
  | [], _ :: _, _, _, hl => by cases hl
  | _ :: _, [], _, _, hl => by cases hl
  | b :: bs, u :: us, l, hp, hl => by
    unfold capTVs at hl
    split at hl
    · rename_i v vs h1 h2
      cases hl
      refine ⟨boxTV_sound h h1 ?_, capTVs_sound h (fun b hb => hp b (List.mem_cons_of_mem _ hb)) h2⟩
      unfold boxTV at h1
      split at h1
      · rename_i c e hc
        obtain ⟨g, hg⟩ := hp b List.mem_cons_self c e hc
        exact ⟨g, hg, hg⟩
      · cases h1
    · cases hl
theorem box_place (h : Rm cx m st T w) {b : Nat} {c : List SV} {e : Nat} (hb : look st.bx b = some (.cells c e)) : ∃ g, m b = .pointer (some ⟨g, 0, none⟩) := by
  obtain ⟨g, e1, _⟩ := h.boxes b _ (look_mem hb)
  exact ⟨g, e1⟩
theorem pairUp_rep {w : World} {M : Nat → Prop} : ∀ {vs : List Value} {l : List TV}, (∀ u ∈ l, u.t.agg = false) → repVs w M vs l → rep w M (pairUp l).t vs (pairUp l).x
  | [], [], _, _ => rfl
  | [], _ :: _, _, h => h.elim
  | _ :: _, [], _, h => h.elim
  | v :: vs, u :: us, ha, ⟨h1, h2⟩ => ⟨[v], vs, rfl, (repV_plain (ha u List.mem_cons_self)).1 h1, pairUp_rep (fun x hx => ha x (List.mem_cons_of_mem _ hx)) h2⟩
theorem capTVs_agg : ∀ {bs : List Nat} {us : List Ty} {l : List TV}, capTVs st bs us = some l → ∀ u ∈ l, u.t.agg = false
  | [], [], _, hl => by cases hl; simp
  | [], _ :: _, _, hl => by cases hl
  | _ :: _, [], _, hl => by cases hl
  | b :: bs, u :: us, l, hl => by
    unfold capTVs at hl
    split at hl
    · rename_i v vs h1 h2
      cases hl
      intro x hx
      rcases List.mem_cons.1 hx with rfl | hx
      · unfold boxTV at h1
        split at h1
        · split at h1
          · cases h1; rfl
          · cases h1
        · cases h1
      · exact capTVs_agg h2 x hx
    · cases hl
theorem unpair_rep {w : World} {M : Nat → Prop} : ∀ (t : Ty) {vs : List Value} {x : t.el} {l : List TV}, unpair t x = some l → rep w M t vs x → ∃ us, repVs w M us l ∧ (∀ u ∈ l, u.t.agg = false → True) ∧ (l.all (fun u => !u.t.agg) = true → us = vs)
  | .unit, vs, x, l, hl, h => by cases hl; cases h; exact ⟨[], trivial, fun _ _ _ => trivial, fun _ => rfl⟩
  | .pair a b, vs, x, l, hl, ⟨c1, c2, e, h1, h2⟩ => by
    unfold unpair at hl
    split at hl
    · rename_i l' hl'
      cases hl
      obtain ⟨us, k1, _, k3⟩ := unpair_rep b hl' h2
      cases hag : a.agg with
      | true => exact ⟨.agg c1.toArray :: us, ⟨(repV_agg hag).2 ⟨c1, rfl, h1⟩, k1⟩, fun _ _ _ => trivial, fun hh => by simp [hag] at hh⟩
      | false =>
        have hl1 := rep_length a h1
        have : a.cells = 1 := by cases a <;> first | rfl | (simp [Ty.agg] at hag)
        rw [this] at hl1
        match c1, hl1 with
        | [v], _ =>
          refine ⟨v :: us, ⟨(repV_plain hag).2 h1, k1⟩, fun _ _ _ => trivial, fun hh => ?_⟩
          rw [List.all_cons, Bool.and_eq_true] at hh
          rw [e, k3 hh.2]
          rfl
    · cases hl
  | .int _, _, _, _, hl, _ => by cases hl
  | .bool, _, _, _, hl, _ => by cases hl
  | .str, _, _, _, hl, _ => by cases hl
  | .sl _, _, _, _, hl, _ => by cases hl
  | .ptr _, _, _, _, hl, _ => by cases hl
  | .fn _ _, _, _, _, hl, _ => by cases hl
  | .err, _, _, _, hl, _ => by cases hl

theorem argTV_sound {E : Env} (hP : cx.P = E.P) (h : Rm cx m st T w) {flat : Bool} {t : TypeId} {x : Operand} {v : TV} (ha : argTV E st flat t x = some v) :
    repV w (fun b => flat = false ∧ Mut cx m st.ids b) (Act.eval ⟨T, []⟩ x) v.t v.x := by
  have k1 : ∀ b, b < w.heap.size → ¬ Mut cx m st.ids b → w.heap[b]? = w.heap[b]? := fun _ _ _ => rfl
  have k2 : ∀ b, b < w.heap.size → (flat = false ∧ Mut cx m st.ids b) → Mut cx m st.ids b := fun _ _ h => h.2
  have k3 : ∀ b, b < w.heap.size → ¬ False → w.heap[b]? = w.heap[b]? := fun _ _ _ => rfl
  have k4 : ∀ b, b < w.heap.size → (true = false ∧ Mut cx m st.ids b) → False := fun _ _ h => by cases h.1
  unfold argTV at ha
  split at ha
  · split at ha
    · rename_i e u he
      cases ha
      refine (repV_plain (t := .sl u) rfl).2 ⟨none, 0, [], rfl, Nat.le_refl _, by decide, fun _ => rfl, rfl, fun j v hj => by simp at hj⟩
    · cases ha
  · split at ha
    · rename_i t' y hx
      cases ha
      have := getSV_sound h hx
      exact repV_ext k1 k2 this
    · rename_i t' y hx
      cases ha
      have := repS_ext k1 k2 (getSV_sound h hx)
      obtain ⟨a, cells, e, r⟩ := this
      rw [e]
      exact (repV_plain (t := .ptr t') rfl).2 ⟨a, cells, rfl, r⟩
    · rename_i r hx
      split at ha
      · rename_i c hc
        cases ha
        have hv : Act.eval ⟨T, []⟩ x = m r := getSV_sound h hx
        rw [hv]
        refine (repV_plain (t := .sl c.t) rfl).2 (h.row_val (look_mem hc) (fun b _ hb => hb.2) fun g _ hb => ?_)
        simp at hb
      · cases ha
    · rename_i b hx
      split at ha
      · rename_i k v' ps hc
        cases ha
        have hv : Act.eval ⟨T, []⟩ x = m b := getSV_sound h hx
        obtain ⟨g, e1, _, es, clock, h1, h2, h3, h4⟩ := h.boxes b _ (look_mem hc)
        rw [hv, e1]
        refine (repV_plain (t := .map k v') rfl).2 ⟨g, es, clock, rfl, h1, (fun hb : true = false ∧ Mut cx m st.ids g => by cases hb.1), h2, h3, repM_mono (fun _ _ h => repV_ext k1 k2 h) (fun _ _ h => repV_ext k1 k2 h) h4⟩
      · cases ha
    · rename_i b off hx
      split at ha
      · rename_i e he
        split at ha
        · rename_i u hu
          exact repV_ext k3 k4 (boxTV_sound h ha (getSV_sound h hx))
        · cases ha
      · cases ha
    · rename_i b p hx
      split at ha
      · rename_i t' y e hb
        split at ha
        · rename_i r o hp
          cases ha
          obtain ⟨g, hg1, hg2⟩ := getSV_sound h hx
          obtain ⟨g', e1, _, cells, e3, e4⟩ := h.boxes b _ (look_mem hb)
          have : g' = g := by rw [hg1] at e1; cases e1; rfl
          subst this
          obtain ⟨c1, c2, c3, hcs, hl, hr⟩ := getP_rep p t' e4 hp trivial
          rw [hg2]
          refine (repV_plain (t := .ptr r.t) rfl).2 ⟨⟨g', poff p, none⟩, c2, rfl, rep_ext k1 k2 r.t hr, fun j v hj => ⟨?_, fun hb => by cases hb.1⟩⟩
          have hj2 := (List.getElem?_eq_some_iff.1 hj).1
          rw [add_mk, cell_in e3, ← Array.getElem?_toList, hcs, List.append_assoc, List.getElem?_append_right (by omega), List.getElem?_append_left (by omega), ← hj]
          congr 1
          omega
        · cases ha
      · cases ha
    · rename_i f bs hx
      split at ha
      · rename_i F hF
        split at ha
        · rename_i l hl
          cases ha
          have hv : Act.eval ⟨T, []⟩ x = .func (.func f) #[] (bs.map m).toArray := getSV_sound h hx
          rw [hv]
          refine (repV_plain (t := .fn f (pairUp l).t) rfl).2 ⟨bs.map m, rfl, ?_⟩
          exact rep_ext k3 k4 _ (pairUp_rep (capTVs_agg hl) (capTVs_sound h (fun b _ c e hc => box_place h hc) hl))
        · cases ha
      · cases ha
    · cases ha

theorem argTVs_sound {E : Env} (hP : cx.P = E.P) (h : Rm cx m st T w) {flat : Bool} : ∀ {ts : List TypeId} {xs : List Operand} {vs : List TV}, argTVs E st flat ts xs = some vs →
    repVs w (fun b => flat = false ∧ Mut cx m st.ids b) (xs.map (Act.eval ⟨T, []⟩)) vs
  | [], [], _, ha => by cases ha; trivial
  | [], _ :: _, _, ha => by cases ha
  | _ :: _, [], _, ha => by cases ha
  | t :: ts, x :: xs, vs, ha => by
    unfold argTVs at ha
    split at ha
    · rename_i v vs' h1 h2
      cases ha
      exact ⟨argTV_sound hP h h1, argTVs_sound hP h h2⟩
    · cases ha

theorem repVs_app {M : Nat → Prop} : ∀ {a b : List Value} {l r : List TV}, repVs w M a l → repVs w M b r → repVs w M (a ++ b) (l ++ r)
  | [], _, [], _, _, h => h
  | [], _, _ :: _, _, h, _ => h.elim
  | _ :: _, _, [], _, h, _ => h.elim
  | _ :: _, _, _ :: _, _, ⟨h1, h2⟩, h => ⟨h1, repVs_app h2 h⟩

/-- The callee's value, and what it has captured. -/
theorem calleeOf_sound {E : Env} (h : Rm cx m st T w) {x : Operand} {f : Nat} {F : FnC} {l : List TV} (hc : calleeOf E st x = some (f, F, l)) :
    look E.fns f = some F ∧ ∃ bs : List Value, Act.eval ⟨T, []⟩ x = .func (.func f) #[] bs.toArray ∧ ∃ us, us = bs ∧ repVs w (fun b => F.flat = false ∧ Mut cx m st.ids b) us l := by
  have k1 : ∀ b, b < w.heap.size → ¬ Mut cx m st.ids b → w.heap[b]? = w.heap[b]? := fun _ _ _ => rfl
  have k3 : ∀ b, b < w.heap.size → ¬ False → w.heap[b]? = w.heap[b]? := fun _ _ _ => rfl
  unfold calleeOf at hc
  split at hc
  · rename_i f' bs hx
    have hv : Act.eval ⟨T, []⟩ x = .func (.func f') #[] (bs.map m).toArray := getSV_sound h hx
    split at hc
    · rename_i F' hF
      split at hc
      · cases hc
        exact ⟨hF, [], hv, [], rfl, trivial⟩
      · split at hc
        · rename_i hf hl
          cases hc
          refine ⟨hF, _, hv, _, rfl, repVs_ext k3 (fun b _ hb => ?_) (capTVs_sound h (fun b _ c e hc => box_place h hc) hl)⟩
          rw [hf] at hb
          cases hb.1
        · cases hc
    · cases hc
  · rename_i f' t y hx
    split at hc
    · rename_i hF hl
      split at hc
      · cases hc
        have hv : repV w (Mut cx m st.ids) (Act.eval ⟨T, []⟩ x) (.fn f t) y := getSV_sound h hx
        obtain ⟨bs, e, hr⟩ := (repV_plain (t := .fn f t) rfl).1 hv
        simp only [List.cons.injEq, and_true] at e
        obtain ⟨us, k1', _, k3'⟩ := unpair_rep t ‹unpair t y = some l› hr
        refine ⟨hF, bs, e, us, k3' ‹_›, repVs_ext k1 (fun b _ hb => hb.2) k1'⟩
      · cases hc
    · cases hc
  · cases hc

theorem repVs_flat {w w' : World} {M M' : Nat → Prop} : ∀ {vs : List Value} {l : List TV}, (∀ u ∈ l, u.t.flat = true) → repVs w M vs l → repVs w' M' vs l
  | [], [], _, _ => trivial
  | [], _ :: _, _, h => h.elim
  | _ :: _, [], _, h => h.elim
  | _ :: _, u :: _, hf, ⟨h1, h2⟩ => ⟨repV_flat (hf u List.mem_cons_self) h1, repVs_flat (fun x hx => hf x (List.mem_cons_of_mem _ hx)) h2⟩

theorem resSV_sound {M : Nat → Prop} {v : Value} : ∀ {l : List TV}, repRes w M v l → repS w M m v (resSV l)
  | [], _ => trivial
  | [_], h => h
  | _ :: _ :: _, h => h
theorem repRes_flat {w w' : World} {M M' : Nat → Prop} {v : Value} : ∀ {l : List TV}, (∀ u ∈ l, u.t.flat = true) → repRes w M v l → repRes w' M' v l
  | [], _, _ => trivial
  | [u], hf, h => repV_flat (hf u List.mem_cons_self) h
  | _ :: _ :: _, hf, ⟨vs, e, h⟩ => ⟨vs, e, repVs_flat hf h⟩

theorem evCall_run {c : Call} {o : Oper} {f : Nat} {x : Operand} {bs : List Value} (ho : o.op = .call c) (hc : c.callee = .value x) (hx : Act.eval ⟨T, []⟩ x = .func (.func f) #[] bs.toArray)
    (hen : ∀ args w, (callFunc f args).run cx.P w = .ok (.enter f args) w) (w : World) :
    (execOp (Act.eval ⟨T, []⟩) o).run cx.P w = .ok (.enter f (c.args.toList.map (Act.eval ⟨T, []⟩) ++ bs).toArray) w := by
  obtain ⟨callee, args, ts⟩ := c
  simp only at hc
  subst hc
  have e1 : #[] ++ args.map (Act.eval ⟨T, []⟩) ++ bs.toArray = (args.toList.map (Act.eval ⟨T, []⟩) ++ bs).toArray := by
    apply Array.ext'
    simp
  simp only [execOp, ho, resolve, hx, Deferred.ofValue, Sem.run_bind, Sem.run_pure, Result.andThen_ok, invoke]
  rw [e1]
  simp [hen]

theorem evCall_sound {E : Env} (hE : EnvOK E cx) (h : Rm cx m st T w) {o : Oper} {c : Call} (ho : o.op = .call c) {orc : List TV} {r : PR} (hev : evCall E st c orc = some r) (hob : allP r.ob) :
    ∃ f args, (∀ w, (execOp (Act.eval ⟨T, []⟩) o).run cx.P w = .ok (.enter f args) w) ∧
      Calls cx.P f args w fun e w' => ∃ v, e = .returned v ∧ Ext w w' ∧ repS w' (Mut cx m st.ids) m v r.sv := by
  unfold evCall at hev
  split at hev
  · rename_i x hc
    split at hev
    · rename_i f F l hF
      split at hev
      · rename_i as has
        cases hb : Nat.ble F.nres orc.length with
        | false => rw [hb] at hev; cases hev
        | true =>
          rw [hb] at hev
          cases hev
          obtain ⟨hlk, bs, hx, us, e, hcap⟩ := calleeOf_sound h hF
          subst e
          have hcon := hE.fns f F (look_mem hlk)
          rw [← hE.P] at hcon
          have hargs := repVs_app (argTVs_sound hE.P h has) hcap
          have hcalls := hcon.calls w (fun b => F.flat = false ∧ Mut cx m st.ids b) _ _ _ (hE.glob w h.frame) (fun b hb => h.mut_lt hb.2) hob.1 hargs
          refine ⟨f, _, evCall_run ho hc hx hcon.enters, hcalls.mono ?_⟩
          rintro e w' ⟨v, he, hres, hext⟩
          refine ⟨v, he, hext, resSV_sound ?_⟩
          cases hf : F.flat with
          | true => exact repRes_flat ((hcon.shape _ _ hob.1).2 hf) hres
          | false =>
            rw [hf] at hres
            have : (fun b => false = false ∧ Mut cx m st.ids b) = Mut cx m st.ids := by funext b; simp
            rw [this] at hres
            exact hres
      · cases hev
    · cases hev
  · cases hev

/-- Owned slices that are handed on as values are given up first. -/
def freezeOp (st : St) (x : Operand) : St :=
  match getSV st x with
  | some (.row r) => match look st.rw r with
    | some c => st.freeze r c
    | none => st
  | some (.iter b) => match look st.bx b with
    | some (.mp k v ps) => st.freezeMp b k v ps
    | _ => st
  | _ => st
def freezeOps : St → List Operand → St
  | st, [] => st
  | st, x :: xs => freezeOps (freezeOp st x) xs
def prepOps (E : Env) : Op → List Operand
  | .range _ x => [x]
  | .build _ ps => ps.toList.map (·.2)
  | .buildSlice _ _ ps => ps.toList.map (·.2)
  | .call c => match c.callee with
    | .value (.func f) => match look E.fns f with
      | some F => bif F.flat then [] else c.args.toList
      | none => c.args.toList
    | _ => []
  | _ => []
theorem freezeOps_sound : ∀ {l : List Operand} {st : St}, Rm cx m st T w → Rm cx m (freezeOps st l) T w
  | [], _, h => h
  | x :: xs, st, h => by
    refine freezeOps_sound (l := xs) ?_
    unfold freezeOp
    split
    · split
      · rename_i c hc; exact h.freeze (look_mem hc)
      · exact h
    · split
      · rename_i k v ps hc; exact h.freezeMp (look_mem hc)
      · exact h
    · exact h

/-- One operation. -/
def evO (E : Env) (st0 : St) (o : Oper) (orc : List TV) : Option (St × List TV × List Prop) :=
  match o.dst with
  | none => match o.op with
    | .store t x y => evStore E.P st0 t x y orc
    | .mapUpdate t x k v => match evUp E.P (freezeOps st0 [v]) t x k v with
      | some st1 => some (st1, orc, [])
      | none => none
    | .call c => match evCall E (freezeOps st0 (prepOps E o.op)) c orc with
      | some r => some (freezeOps st0 (prepOps E o.op), r.orc, r.ob)
      | none => none
    | _ => none
  | some d => match Nat.blt d E.n with
    | true => match evP E.P (freezeOps st0 (prepOps E o.op)) o.op orc with
      | some r => some ((freezeOps st0 (prepOps E o.op)).put d r.sv, r.orc, r.ob)
      | none => match o.op with
        | .load t x => match evLoad E.P st0 t x orc with
          | some r => some (st0.put d r.sv, r.orc, r.ob)
          | none => none
        | .call c => match evCall E (freezeOps st0 (prepOps E o.op)) c orc with
          | some r => some ((freezeOps st0 (prepOps E o.op)).put d r.sv, r.orc, r.ob)
          | none => match evM E.P st0 o d orc with
            | some r => some (r.st.put d r.sv, r.orc, r.ob)
            | none => none
        | _ => match evM E.P (freezeOps st0 (prepOps E o.op)) o d orc with
          | some r => some (r.st.put d r.sv, r.orc, r.ob)
          | none => none
    | false => none

theorem wp_value {o : Oper} {v : Value} {K : Act → World → Prop} {Q : Exit → Act → World → Prop} (hr : (execOp (Act.eval ⟨T, []⟩) o).run cx.P w = .ok (.value v) w') (hK : K (Act.put ⟨T, []⟩ o.dst v) w') :
    o.wp cx.P ⟨T, []⟩ w K Q := by
  unfold Oper.wp
  rw [hr]
  exact hK

theorem evO_sound {E : Env} (hE : EnvOK E cx) (h : R cx st T w) {o : Oper} {orc : List TV} {st' : St} {orc' : List TV} {ob : List Prop} (hev : evO E st o orc = some (st', orc', ob)) (hob : allP ob)
    {K : Act → World → Prop} {Q : Exit → Act → World → Prop} (hK : ∀ T' w', R cx st' T' w' → K ⟨T', []⟩ w') : o.wp cx.P ⟨T, []⟩ w K Q := by
  obtain ⟨m, hm⟩ := h
  unfold evO at hev
  split at hev
  · rename_i hd
    split at hev
    · rename_i t x y hop
      rw [← hE.P] at hev
      obtain ⟨w', hrun, hR⟩ := evStore_sound hm hev hob
      unfold Oper.wp
      have hr : (execOp (Act.eval ⟨T, []⟩) o).run cx.P w = .ok .skip w' := by
        simp only [execOp, hop, Sem.run_bind, hrun, Result.andThen_ok, Sem.run_pure]
      rw [hr]
      show K (Act.put ⟨T, []⟩ o.dst undef) w'
      rw [hd]
      exact hK T w' ⟨m, hR⟩
    · rename_i t x k v hop
      split at hev
      · rename_i st1 hu
        cases hev
        have hm' := freezeOps_sound (l := [v]) hm
        rw [← hE.P] at hu
        obtain ⟨w', hrun, hR⟩ := evUp_sound hm' hu
        unfold Oper.wp
        have hr : (execOp (Act.eval ⟨T, []⟩) o).run cx.P w = .ok .skip w' := by
          simp only [execOp, hop, Sem.run_bind, hrun, Result.andThen_ok, Sem.run_pure]
        rw [hr]
        show K (Act.put ⟨T, []⟩ o.dst undef) w'
        rw [hd]
        exact hK T w' ⟨m, hR⟩
      · cases hev
    · rename_i c hop
      split at hev
      · rename_i r hc
        cases hev
        have hm' := freezeOps_sound (l := prepOps E o.op) hm
        obtain ⟨f, args, hrun, hcalls⟩ := evCall_sound hE hm' hop hc hob
        unfold Oper.wp
        rw [hrun w]
        refine hcalls.mono ?_
        rintro e w' ⟨v, rfl, hext, _⟩
        show K (Act.put ⟨T, []⟩ o.dst v) w'
        rw [hd]
        exact hK T w' ⟨m, hm'.ext hext⟩
      · cases hev
    · cases hev
  · rename_i d hd
    split at hev
    · rename_i hdn
      have hlt : d < cx.n := by rw [hE.n]; exact blt_true hdn
      have hm' := freezeOps_sound (l := prepOps E o.op) hm
      have fin : ∀ (v : Value) (w' : World) (m' : Nat → Value) (s1 : St) (sv : SV), (execOp (Act.eval ⟨T, []⟩) o).run cx.P w = .ok (.value v) w' → Rm cx m' s1 T w' → repS w' (Mut cx m' s1.ids) m' v sv → s1.put d sv = st' → o.wp cx.P ⟨T, []⟩ w K Q := by
        intro v w' m' s1 sv hr hs hv e
        refine wp_value hr ?_
        rw [hd]
        exact hK _ _ ⟨m', e ▸ hs.put hlt hv⟩
      have finCall : ∀ (c : Call) (r : PR), o.op = .call c → evCall E (freezeOps st (prepOps E o.op)) c orc = some r → allP r.ob → (freezeOps st (prepOps E o.op)).put d r.sv = st' → o.wp cx.P ⟨T, []⟩ w K Q := by
        intro c r hop hc hob e
        obtain ⟨f, args, hrun, hcalls⟩ := evCall_sound hE hm' hop hc hob
        unfold Oper.wp
        rw [hrun w]
        refine hcalls.mono ?_
        rintro e' w' ⟨v, rfl, hext, hv⟩
        show K (Act.put ⟨T, []⟩ o.dst v) w'
        rw [hd]
        exact hK _ _ ⟨m, e ▸ (hm'.ext hext).put hlt hv⟩
      split at hev
      · rename_i r hp
        cases hev
        rw [← hE.P] at hp
        obtain ⟨v, hdoes, hv⟩ := evP_sound hm' hp hob
        exact fin v w m _ _ (hdoes w (Ext.refl w)) hm' hv rfl
      · split at hev
        · rename_i t x hop
          split at hev
          · rename_i r hl
            cases hev
            rw [← hE.P] at hl
            obtain ⟨v, hs, hv⟩ := evLoad_sound hm hl hob
            exact fin v w m _ _ (exec_value (by simp only [execOp, hop]) (hs w (Ext.refl w))) hm hv rfl
          · cases hev
        · rename_i c hop
          split at hev
          · rename_i r hc
            cases hev
            exact finCall c r hop hc hob rfl
          · split at hev
            · rename_i r hmk
              cases hev
              rw [← hE.P] at hmk
              obtain ⟨v, w', m', h1, h2, h3⟩ := evM_sound hm hlt hmk hob
              exact fin v w' m' _ _ h1 h2 h3 rfl
            · cases hev
        · split at hev
          · rename_i r hmk
            cases hev
            rw [← hE.P] at hmk
            obtain ⟨v, w', m', h1, h2, h3⟩ := evM_sound hm' hlt hmk hob
            exact fin v w' m' _ _ h1 h2 h3 rfl
          · cases hev
    · cases hev

end Go.Ev
