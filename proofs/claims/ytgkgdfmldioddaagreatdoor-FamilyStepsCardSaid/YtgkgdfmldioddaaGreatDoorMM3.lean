/- Calls by contracts; one operation; lists of operations; regions. -/
import Derived.Test.YtgkgdfmldioddaaGreatDoorMM2
import Derived.Deep.Quiet
set_option linter.unusedSectionVars false
set_option linter.unusedVariables false
set_option linter.unusedSimpArgs false
namespace Go.Ev
open Go Go.RowKit
variable [Dr]
variable {cx : Cx} {m : Nat -> Value} {st : St} {T : Array Value} {w w' : World}
structure FnC where
 flat : Bool
 nres : Nat
 caps : List Ty
 rel : List TV -> List TV -> Prop
def repRes (w : World) (M : Nat -> Prop) (v : Value) : List TV -> Prop
 | [] => True
 | [u] => repV w M v u.t u.x
 | l => ∃ vs : List Value, v = .tuple vs.toArray /\ repVs w M vs l
structure Contract (P : Program) (G : World -> Prop) (f : Nat) (F : FnC) : Prop where
 enters : ∀ args w, (callFunc f args).run P w = .ok (.enter f args) w
 shape : ∀ as0 rs, F.rel as0 rs -> rs.length = F.nres /\ (F.flat = true -> ∀ u ∈ rs, u.t.flat = true)
 calls : ∀ (w : World) (M : Nat -> Prop) (vs : List Value) (as0 rs : List TV), G w -> (∀ b, M b -> b < w.heap.size) -> F.rel as0 rs -> repVs w M vs as0 ->
  Calls P f vs.toArray w fun e w' => ∃ v, e = .returned v /\ repRes w' M v rs /\ Ext w w'
structure Env where
 P : Program
 G : World -> Prop
 n : Nat
 fns : List (Nat × FnC)
structure EnvOK (E : Env) (cx : Cx) : Prop where
 P : cx.P = E.P
 n : cx.n = E.n
 glob : ∀ w, Frame cx.w0 w cx.X -> E.G w
 fns : ∀ f F, (f, F) ∈ E.fns -> Contract E.P E.G f F
def boxTV (st : St) (b off : Nat) (u : Ty) : Option TV :=
 match look st.bx b with
 | some (.cells l _) => match pack u ((l.drop off).map (thaw st)) with
  | some (x, _) => some ⟨.ptr u, x⟩
  | none => none
 | _ => none
def capTVs (st : St) : List Nat -> List Ty -> Option (List TV)
 | [], [] => some []
 | b :: bs, u :: us => match boxTV st b 0 u, capTVs st bs us with
  | some v, some vs => some (v :: vs)
  | _, _ => none
 | _, _ => none
def pairUp : List TV -> TV
 | [] => ⟨.unit, ()⟩
 | u :: us => ⟨.pair u.t (pairUp us).t, (u.x, (pairUp us).x)⟩
def unpair : (t : Ty) -> t.el -> Option (List TV)
 | .unit, _ => some []
 | .pair a b, x => match unpair b x.2 with
  | some l => some (⟨a, x.1⟩ :: l)
  | none => none
 | _, _ => none
def argTV (E : Env) (st : St) (flat : Bool) (t : TypeId) (x : Operand) : Option TV :=
 match x with
 | .const (.slice none 0 0) => match elemOf? E.P t with
  | some (_, u) => some ⟨.sl u, []⟩
  | none => none
 | x => match getSV st x with
  | some (.val t y) => some ⟨t, y⟩
  | some (.vptr t y) => some ⟨.ptr t, y⟩
  | some (.row r) => match flat, look st.rw r with
   | true, some c => some ⟨.sl c.t, c.xs⟩
   | _, _ => none
  | some (.iter b) => match flat, look st.bx b with
   | true, some (.mp k v ps) => some ⟨.map k v, some ps⟩
   | _, _ => none
  | some (.ptr b off) => match flat, E.P.underlying t with
   | true, some (.pointer e) => match ty E.P e with
    | some u => boxTV st b off u
    | none => none
   | _, _ => none
  | some (.bp b p) => match flat, look st.bx b with
   | true, some (.blk t' y _) => match getP t' y p [] with
    | some (r, _, []) => some ⟨.ptr r.t, r.x⟩
    | _ => none
   | _, _ => none
  | some (.clos f bs) => match flat, look E.fns f with
   | true, some F => match capTVs st bs F.caps with
    | some l => some ⟨.fn f (pairUp l).t, (pairUp l).x⟩
    | none => none
   | _, _ => none
  | _ => none
def argTVs (E : Env) (st : St) (flat : Bool) : List TypeId -> List Operand -> Option (List TV)
 | [], [] => some []
 | t :: ts, x :: xs => match argTV E st flat t x, argTVs E st flat ts xs with
  | some v, some vs => some (v :: vs)
  | _, _ => none
 | _, _ => none
def resSV : List TV -> SV
 | [] => .any
 | [u] => .val u.t u.x
 | l => .tup l
def calleeOf (E : Env) (st : St) (x : Operand) : Option (Nat × FnC × List TV) :=
 match getSV st x with
 | some (.clos f bs) => match look E.fns f with
  | some F => match bs with
   | [] => some (f, F, [])
   | bs => match F.flat, capTVs st bs F.caps with
    | true, some l => some (f, F, l)
    | _, _ => none
  | none => none
 | some (.val (.fn f t) y) => match look E.fns f, unpair t y with
  | some F, some l => match l.all (fun u => !u.t.agg) with
   | true => some (f, F, l)
   | false => none
  | _, _ => none
 | _ => none
def evCall (E : Env) (st : St) (c : Call) (orc : List TV) : Option PR :=
 match c.callee with
 | .value x => match calleeOf E st x with
  | some (_, F, l) => match argTVs E st F.flat c.argTypes.toList c.args.toList with
   | some as0 => bif Nat.ble F.nres orc.length then some ⟨resSV (orc.take F.nres), orc.drop F.nres, [F.rel (as0 ++ l) (orc.take F.nres)]⟩ else none
   | none => none
  | none => none
 | _ => none
theorem repSs_thaw (h : Rm cx m st T w) : ∀ {c : List Value} {l : List SV}, repSs w (Mut cx m st.ids) m c l -> repSs w (fun _ => False) m c (l.map (thaw st))
 | [], [], _ => trivial
 | [], _ :: _, h => h.elim
 | _ :: _, [], h => h.elim
 | _ :: _, _ :: _, ⟨h1, h2⟩ => ⟨thaw_sound h h1, repSs_thaw h h2⟩
theorem boxTV_sound (h : Rm cx m st T w) {b off : Nat} {u : Ty} {v : TV} (hb : boxTV st b off u = some v) {x : Value} (hx : ∃ g, m b = .pointer (some ⟨g, 0, none⟩) /\ x = .pointer (some ⟨g, off, none⟩)) :
  repV w (fun _ => False) x v.t v.x := by
 unfold boxTV at hb
 split at hb
 ·rename_i l hl
  split at hb
  ·rename_i y r hp
   cases hb
   obtain ⟨g, hg1, rfl⟩ := hx
   obtain ⟨g', e1, _, cells, e3, e4⟩ := h.box (zak hl)
   have : g' = g := by rw [hg1] at e1; cases e1; rfl
   subst this
   obtain ⟨_, hd⟩ := zbh off e4
   obtain ⟨c1, c2, hcs, hrep, _⟩ := pack_rep u (repSs_thaw h hd) hp
   refine (za3 (t := .ptr u) rfl).2 ⟨_, c1, rfl, hrep, fun j v hj => ⟨?_, fun h => h⟩⟩
   have h2 : (cells.toList.drop off)[j]? = some v := by rw [hcs, List.getElem?_append_left (List.getElem?_eq_some_iff.1 hj).1]; exact hj
   rw [List.getElem?_drop] at h2
   have ea : (⟨g', off, none⟩ : Addr).add j = ⟨g', off + j, none⟩ := by unfold Addr.add; split <;> simp_all
   rw [ea, cell_in e3]
   simpa using h2
  ·cases hb
 ·cases hb
theorem capTVs_sound (h : Rm cx m st T w) : ∀ {bs : List Nat} {us : List Ty} {l : List TV}, (∀ b ∈ bs, ∀ c e, look st.bx b = some (.cells c e) -> ∃ g, m b = .pointer (some ⟨g, 0, none⟩)) -> capTVs st bs us = some l -> repVs w (fun _ => False) (bs.map m) l
 | [], [], _, _, hl => by cases hl; trivial
 | [], _ :: _, _, _, hl => by cases hl
 | _ :: _, [], _, _, hl => by cases hl
 | b :: bs, u :: us, l, hp, hl => by
  unfold capTVs at hl
  split at hl
  ·rename_i v vs h1 h2
   cases hl
   refine ⟨boxTV_sound h h1 ?_, capTVs_sound h (fun b hb => hp b (List.mem_cons_of_mem _ hb)) h2⟩
   unfold boxTV at h1
   split at h1
   ·rename_i c e hc
    obtain ⟨g, hg⟩ := hp b List.mem_cons_self c e hc
    exact ⟨g, hg, hg⟩
   ·cases h1
  ·cases hl
theorem box_place (h : Rm cx m st T w) {b : Nat} {c : List SV} {e : Nat} (hb : look st.bx b = some (.cells c e)) : ∃ g, m b = .pointer (some ⟨g, 0, none⟩) := by
 obtain ⟨g, e1, _⟩ := h.box (zak hb)
 exact ⟨g, e1⟩
theorem pairUp_rep {w : World} {M : Nat -> Prop} : ∀ {vs : List Value} {l : List TV}, (∀ u ∈ l, u.t.agg = false) -> repVs w M vs l -> rep w M (pairUp l).t vs (pairUp l).x
 | [], [], _, _ => rfl
 | [], _ :: _, _, h => h.elim
 | _ :: _, [], _, h => h.elim
 | v :: vs, u :: us, ha, ⟨h1, h2⟩ => ⟨[v], vs, rfl, (za3 (ha u List.mem_cons_self)).1 h1, pairUp_rep (fun x hx => ha x (List.mem_cons_of_mem _ hx)) h2⟩
theorem capTVs_agg : ∀ {bs : List Nat} {us : List Ty} {l : List TV}, capTVs st bs us = some l -> ∀ u ∈ l, u.t.agg = false
 | [], [], _, hl => by cases hl; simp
 | [], _ :: _, _, hl => by cases hl
 | _ :: _, [], _, hl => by cases hl
 | b :: bs, u :: us, l, hl => by
  unfold capTVs at hl
  split at hl
  ·rename_i v vs h1 h2
   cases hl
   intro x hx
   rcases List.mem_cons.1 hx with rfl | hx
   ·unfold boxTV at h1
    split at h1
    ·split at h1
     ·cases h1; rfl
     ·cases h1
    ·cases h1
   ·exact capTVs_agg h2 x hx
  ·cases hl
theorem unpair_rep {w : World} {M : Nat -> Prop} : ∀ (t : Ty) {vs : List Value} {x : t.el} {l : List TV}, unpair t x = some l -> rep w M t vs x -> ∃ us, repVs w M us l /\ (∀ u ∈ l, u.t.agg = false -> True) /\ (l.all (fun u => !u.t.agg) = true -> us = vs)
 | .unit, vs, x, l, hl, h => by cases hl; cases h; exact ⟨[], trivial, fun _ _ _ => trivial, fun _ => rfl⟩
 | .pair a b, vs, x, l, hl, ⟨c1, c2, e, h1, h2⟩ => by
  unfold unpair at hl
  split at hl
  ·rename_i l' hl'
   cases hl
   obtain ⟨us, k1, _, k3⟩ := unpair_rep b hl' h2
   cases hag : a.agg with
   | true => exact ⟨.agg c1.toArray :: us, ⟨(za4 hag).2 ⟨c1, rfl, h1⟩, k1⟩, fun _ _ _ => trivial, fun hh => by simp [hag] at hh⟩
   | false =>
    have hl1 := zag a h1
    have : a.cells = 1 := by cases a <;> first | rfl | (simp [Ty.agg] at hag)
    rw [this] at hl1
    match c1, hl1 with
    | [v], _ =>
     refine ⟨v :: us, ⟨(za3 hag).2 h1, k1⟩, fun _ _ _ => trivial, fun hh => ?_⟩
     rw [List.all_cons, Bool.and_eq_true] at hh
     rw [e, k3 hh.2]
     rfl
  ·cases hl
 | .int _, _, _, _, hl, _ => by cases hl
 | .bool, _, _, _, hl, _ => by cases hl
 | .str, _, _, _, hl, _ => by cases hl
 | .sl _, _, _, _, hl, _ => by cases hl
 | .ptr _, _, _, _, hl, _ => by cases hl
 | .fn _ _, _, _, _, hl, _ => by cases hl
 | .err, _, _, _, hl, _ => by cases hl
 | .opq, _, _, _, hl, _ => by cases hl
theorem argTV_sound {E : Env} (hP : cx.P = E.P) (h : Rm cx m st T w) {flat : Bool} {t : TypeId} {x : Operand} {v : TV} (ha : argTV E st flat t x = some v) :
  repV w (fun b => flat = false /\ Mut cx m st.ids b) (Act.eval ⟨T, []⟩ x) v.t v.x := by
 have k1 : ∀ b, b < w.heap.size -> ¬ Mut cx m st.ids b -> w.heap[b]? = w.heap[b]? := fun _ _ _ => rfl
 have k2 : ∀ b, b < w.heap.size -> (flat = false /\ Mut cx m st.ids b) -> Mut cx m st.ids b := fun _ _ h => h.2
 have k3 : ∀ b, b < w.heap.size -> ¬ False -> w.heap[b]? = w.heap[b]? := fun _ _ _ => rfl
 have k4 : ∀ b, b < w.heap.size -> (true = false /\ Mut cx m st.ids b) -> False := fun _ _ h => by cases h.1
 unfold argTV at ha
 split at ha
 ·split at ha
  ·rename_i e u he
   cases ha
   refine (za3 (t := .sl u) rfl).2 ⟨none, 0, [], rfl, Nat.le_refl _, by decide, fun _ => rfl, rfl, fun j v hj => by simp at hj⟩
  ·cases ha
 ·split at ha
  ·rename_i t' y hx
   cases ha
   have := za6 h hx
   exact zaj k1 k2 this
  ·rename_i t' y hx
   cases ha
   have := zap k1 k2 (za6 h hx)
   obtain ⟨a, cells, e, r⟩ := this
   rw [e]
   exact (za3 (t := .ptr t') rfl).2 ⟨a, cells, rfl, r⟩
  ·rename_i r hx
   split at ha
   ·rename_i c hc
    cases ha
    have hv : Act.eval ⟨T, []⟩ x = m r := za6 h hx
    rw [hv]
    refine (za3 (t := .sl c.t) rfl).2 (h.row_val (zak hc) (fun b _ hb => hb.2) fun g _ hb => ?_)
    simp at hb
   ·cases ha
  ·rename_i b hx
   split at ha
   ·rename_i k v' ps hc
    cases ha
    have hv : Act.eval ⟨T, []⟩ x = m b := za6 h hx
    obtain ⟨g, e1, _, es, clock, h1, h2, h3, h4⟩ := h.box (zak hc)
    rw [hv, e1]
    refine (za3 (t := .map k v') rfl).2 ⟨g, es, clock, rfl, h1, (fun hb : true = false /\ Mut cx m st.ids g => by cases hb.1), h2, h3, zac (fun _ _ h => zaj k1 k2 h) (fun _ _ h => zaj k1 k2 h) h4⟩
   ·cases ha
  ·rename_i b off hx
   split at ha
   ·rename_i e he
    split at ha
    ·rename_i u hu
     exact zaj k3 k4 (boxTV_sound h ha (za6 h hx))
    ·cases ha
   ·cases ha
  ·rename_i b p hx
   split at ha
   ·rename_i t' y e hb
    split at ha
    ·rename_i r o hp
     cases ha
     obtain ⟨g, hg1, hg2⟩ := za6 h hx
     obtain ⟨g', e1, _, cells, e3, e4⟩ := h.box (zak hb)
     have : g' = g := by rw [hg1] at e1; cases e1; rfl
     subst this
     obtain ⟨c1, c2, c3, hcs, hl, hr⟩ := getP_rep p t' e4 hp trivial
     rw [hg2]
     refine (za3 (t := .ptr r.t) rfl).2 ⟨⟨g', poff p, none⟩, c2, rfl, rep_ext k1 k2 r.t hr, fun j v hj => ⟨?_, fun hb => by cases hb.1⟩⟩
     have hj2 := (List.getElem?_eq_some_iff.1 hj).1
     rw [add_mk, cell_in e3, <- Array.getElem?_toList, hcs, List.append_assoc, List.getElem?_append_right (by omega), List.getElem?_append_left (by omega), <- hj]
     congr 1
     omega
    ·cases ha
   ·cases ha
  ·rename_i f bs hx
   split at ha
   ·rename_i F hF
    split at ha
    ·rename_i l hl
     cases ha
     have hv : Act.eval ⟨T, []⟩ x = .func (.func f) #[] (bs.map m).toArray := za6 h hx
     rw [hv]
     refine (za3 (t := .fn f (pairUp l).t) rfl).2 ⟨bs.map m, rfl, ?_⟩
     exact rep_ext k3 k4 _ (pairUp_rep (capTVs_agg hl) (capTVs_sound h (fun b _ c e hc => box_place h hc) hl))
    ·cases ha
   ·cases ha
  ·cases ha
theorem argTVs_sound {E : Env} (hP : cx.P = E.P) (h : Rm cx m st T w) {flat : Bool} : ∀ {ts : List TypeId} {xs : List Operand} {vs : List TV}, argTVs E st flat ts xs = some vs ->
  repVs w (fun b => flat = false /\ Mut cx m st.ids b) (xs.map (Act.eval ⟨T, []⟩)) vs
 | [], [], _, ha => by cases ha; trivial
 | [], _ :: _, _, ha => by cases ha
 | _ :: _, [], _, ha => by cases ha
 | t :: ts, x :: xs, vs, ha => by
  unfold argTVs at ha
  split at ha
  ·rename_i v vs' h1 h2
   cases ha
   exact ⟨argTV_sound hP h h1, argTVs_sound hP h h2⟩
  ·cases ha
theorem repVs_app {M : Nat -> Prop} : ∀ {a b : List Value} {l r : List TV}, repVs w M a l -> repVs w M b r -> repVs w M (a ++ b) (l ++ r)
 | [], _, [], _, _, h => h
 | [], _, _ :: _, _, h, _ => h.elim
 | _ :: _, _, [], _, h, _ => h.elim
 | _ :: _, _, _ :: _, _, ⟨h1, h2⟩, h => ⟨h1, repVs_app h2 h⟩
theorem calleeOf_sound {E : Env} (h : Rm cx m st T w) {x : Operand} {f : Nat} {F : FnC} {l : List TV} (hc : calleeOf E st x = some (f, F, l)) :
  look E.fns f = some F /\ ∃ bs : List Value, Act.eval ⟨T, []⟩ x = .func (.func f) #[] bs.toArray /\ ∃ us, us = bs /\ repVs w (fun b => F.flat = false /\ Mut cx m st.ids b) us l := by
 have k1 : ∀ b, b < w.heap.size -> ¬ Mut cx m st.ids b -> w.heap[b]? = w.heap[b]? := fun _ _ _ => rfl
 have k3 : ∀ b, b < w.heap.size -> ¬ False -> w.heap[b]? = w.heap[b]? := fun _ _ _ => rfl
 unfold calleeOf at hc
 split at hc
 ·rename_i f' bs hx
  have hv : Act.eval ⟨T, []⟩ x = .func (.func f') #[] (bs.map m).toArray := za6 h hx
  split at hc
  ·rename_i F' hF
   split at hc
   ·cases hc
    exact ⟨hF, [], hv, [], rfl, trivial⟩
   ·split at hc
    ·rename_i hf hl
     cases hc
     refine ⟨hF, _, hv, _, rfl, repVs_ext k3 (fun b _ hb => ?_) (capTVs_sound h (fun b _ c e hc => box_place h hc) hl)⟩
     rw [hf] at hb
     cases hb.1
    ·cases hc
  ·cases hc
 ·rename_i f' t y hx
  split at hc
  ·rename_i hF hl
   split at hc
   ·cases hc
    have hv : repV w (Mut cx m st.ids) (Act.eval ⟨T, []⟩ x) (.fn f t) y := za6 h hx
    obtain ⟨bs, e, hr⟩ := (za3 (t := .fn f t) rfl).1 hv
    simp only [List.cons.injEq, and_true] at e
    obtain ⟨us, k1', _, k3'⟩ := unpair_rep t ‹unpair t y = some l› hr
    refine ⟨hF, bs, e, us, k3' ‹_›, repVs_ext k1 (fun b _ hb => hb.2) k1'⟩
   ·cases hc
  ·cases hc
 ·cases hc
theorem repVs_flat {w w' : World} {M M' : Nat -> Prop} : ∀ {vs : List Value} {l : List TV}, (∀ u ∈ l, u.t.flat = true) -> repVs w M vs l -> repVs w' M' vs l
 | [], [], _, _ => trivial
 | [], _ :: _, _, h => h.elim
 | _ :: _, [], _, h => h.elim
 | _ :: _, u :: _, hf, ⟨h1, h2⟩ => ⟨repV_flat (hf u List.mem_cons_self) h1, repVs_flat (fun x hx => hf x (List.mem_cons_of_mem _ hx)) h2⟩
theorem resSV_sound {M : Nat -> Prop} {v : Value} : ∀ {l : List TV}, repRes w M v l -> repS w M m v (resSV l)
 | [], _ => trivial
 | [_], h => h
 | _ :: _ :: _, h => h
theorem repRes_flat {w w' : World} {M M' : Nat -> Prop} {v : Value} : ∀ {l : List TV}, (∀ u ∈ l, u.t.flat = true) -> repRes w M v l -> repRes w' M' v l
 | [], _, _ => trivial
 | [u], hf, h => repV_flat (hf u List.mem_cons_self) h
 | _ :: _ :: _, hf, ⟨vs, e, h⟩ => ⟨vs, e, repVs_flat hf h⟩
theorem evCall_run {c : Call} {o : Oper} {f : Nat} {x : Operand} {bs : List Value} (ho : o.op = .call c) (hc : c.callee = .value x) (hx : Act.eval ⟨T, []⟩ x = .func (.func f) #[] bs.toArray)
  (hen : ∀ args w, (callFunc f args).run cx.P w = .ok (.enter f args) w) (w : World) :
  (execOp (Act.eval ⟨T, []⟩) o).run cx.P w = .ok (.enter f (c.args.toList.map (Act.eval ⟨T, []⟩) ++ bs).toArray) w := by
 obtain ⟨callee, args, ts⟩ := c
 simp only at hc
 subst hc
 have e1 : #[] ++ args.map (Act.eval ⟨T, []⟩) ++ bs.toArray = (args.toList.map (Act.eval ⟨T, []⟩) ++ bs).toArray := by
  apply Array.ext'
  simp
 simp only [execOp, ho, resolve, hx, Deferred.ofValue, Sem.run_bind, Sem.run_pure, Result.andThen_ok, invoke]
 rw [e1]
 simp [hen]
theorem evCall_sound {E : Env} (hE : EnvOK E cx) (h : Rm cx m st T w) {o : Oper} {c : Call} (ho : o.op = .call c) {orc : List TV} {r : PR} (hev : evCall E st c orc = some r) (hob : allP r.ob) :
  ∃ f args, (∀ w, (execOp (Act.eval ⟨T, []⟩) o).run cx.P w = .ok (.enter f args) w) /\
   Calls cx.P f args w fun e w' => ∃ v, e = .returned v /\ Ext w w' /\ repS w' (Mut cx m st.ids) m v r.sv := by
 unfold evCall at hev
 split at hev
 ·rename_i x hc
  split at hev
  ·rename_i f F l hF
   split at hev
   ·rename_i as0 has
    cases hb : Nat.ble F.nres orc.length with
    | false => rw [hb] at hev; cases hev
    | true =>
     rw [hb] at hev
     cases hev
     obtain ⟨hlk, bs, hx, us, e, hcap⟩ := calleeOf_sound h hF
     subst e
     have hcon := hE.fns f F (zak hlk)
     rw [<- hE.P] at hcon
     have hargs := repVs_app (argTVs_sound hE.P h has) hcap
     have hcalls := hcon.calls w (fun b => F.flat = false /\ Mut cx m st.ids b) _ _ _ (hE.glob w h.frame) (fun b hb => h.mut_lt hb.2) hob.1 hargs
     refine ⟨f, _, evCall_run ho hc hx hcon.enters, hcalls.mono ?_⟩
     rintro e w' ⟨v, he, hres, hext⟩
     refine ⟨v, he, hext, resSV_sound ?_⟩
     cases hf : F.flat with
     | true => exact repRes_flat ((hcon.shape _ _ hob.1).2 hf) hres
     | false =>
      rw [hf] at hres
      have : (fun b => false = false /\ Mut cx m st.ids b) = Mut cx m st.ids := by funext b; simp
      rw [this] at hres
      exact hres
   ·cases hev
  ·cases hev
 ·cases hev
def freezeOp (st : St) (x : Operand) : St :=
 match getSV st x with
 | some (.row r) => match look st.rw r with
  | some c => st.freeze r c
  | none => st
 | some (.iter b) => match look st.bx b with
  | some (.mp k v ps) => st.freezeMp b k v ps
  | _ => st
 | _ => st
def zbl : St -> List Operand -> St
 | st, [] => st
 | st, x :: xs => zbl (freezeOp st x) xs
def prepOps (E : Env) : Op -> List Operand
 | .range _ x => [x]
 | .slice _ x (some _) _ none => [x]
 | .build _ ps => ps.toList.map (·.2)
 | .buildSlice _ _ ps => ps.toList.map (·.2)
 | .call c => match c.callee with
  | .value (.func f) => match look E.fns f with
   | some F => bif F.flat then [] else c.args.toList
   | none => c.args.toList
  | _ => []
 | _ => []
theorem zbm : ∀ {l : List Operand} {st : St}, Rm cx m st T w -> Rm cx m (zbl st l) T w
 | [], _, h => h
 | x :: xs, st, h => by
  refine zbm (l := xs) ?_
  unfold freezeOp
  split
  ·split
   ·rename_i c hc; exact h.freeze (zak hc)
   ·exact h
  ·split
   ·rename_i k v ps hc; exact h.freezeMp (zak hc)
   ·exact h
  ·exact h
def evO1 (E : Env) (st0 : St) (o : Oper) (orc : List TV) : Option (St × List TV × List Prop) :=
 match o.dst with
 | none => match o.op with
  | .store t x y => evStore E.P st0 t x y orc
  | .mapUpdate t x k v => match evUp E.P (zbl st0 [v]) t x k v with
   | some st1 => some (st1, orc, [])
   | none => none
  | .call c => match evCall E (zbl st0 (prepOps E o.op)) c orc with
   | some r => some (zbl st0 (prepOps E o.op), r.orc, r.ob)
   | none => none
  | _ => none
 | some d => match Nat.blt d E.n with
  | true => match evP E.P (zbl st0 (prepOps E o.op)) o.op orc with
   | some r => some ((zbl st0 (prepOps E o.op)).put d r.sv, r.orc, r.ob)
   | none => match o.op with
    | .load t x => match evLoad E.P st0 t x orc with
     | some r => some (st0.put d r.sv, r.orc, r.ob)
     | none => none
    | .call c => match evCall E (zbl st0 (prepOps E o.op)) c orc with
     | some r => some ((zbl st0 (prepOps E o.op)).put d r.sv, r.orc, r.ob)
     | none => match evM E.P st0 o d orc with
      | some r => some (r.st.put d r.sv, r.orc, r.ob)
      | none => none
    | _ => match evM E.P (zbl st0 (prepOps E o.op)) o d orc with
     | some r => some (r.st.put d r.sv, r.orc, r.ob)
     | none => none
  | false => none
theorem zbn {o : Oper} {v : Value} {K : Act -> World -> Prop} {Q : Exit -> Act -> World -> Prop} (hr : (execOp (Act.eval ⟨T, []⟩) o).run cx.P w = .ok (.value v) w') (hK : K (Act.put ⟨T, []⟩ o.dst v) w') :
  o.wp cx.P ⟨T, []⟩ w K Q := by
 unfold Oper.wp
 rw [hr]
 exact hK
theorem evO1_sound {E : Env} (hE : EnvOK E cx) (h : R cx st T w) {o : Oper} {orc : List TV} {st' : St} {orc' : List TV} {ob : List Prop} (hev : evO1 E st o orc = some (st', orc', ob)) (hob : allP ob)
  {K : Act -> World -> Prop} {Q : Exit -> Act -> World -> Prop} (hK : ∀ T' w', R cx st' T' w' -> K ⟨T', []⟩ w') : o.wp cx.P ⟨T, []⟩ w K Q := by
 obtain ⟨m, hm⟩ := h
 unfold evO1 at hev
 split at hev
 ·rename_i hd
  split at hev
  ·rename_i t x y hop
   rw [<- hE.P] at hev
   obtain ⟨w', hrun, hR⟩ := evStore_sound hm hev hob
   unfold Oper.wp
   have hr : (execOp (Act.eval ⟨T, []⟩) o).run cx.P w = .ok .skip w' := by
    simp only [execOp, hop, Sem.run_bind, hrun, Result.andThen_ok, Sem.run_pure]
   rw [hr]
   show K (Act.put ⟨T, []⟩ o.dst undef) w'
   rw [hd]
   exact hK T w' ⟨m, hR⟩
  ·rename_i t x k v hop
   split at hev
   ·rename_i st1 hu
    cases hev
    have hm' := zbm (l := [v]) hm
    rw [<- hE.P] at hu
    obtain ⟨w', hrun, hR⟩ := evUp_sound hm' hu
    unfold Oper.wp
    have hr : (execOp (Act.eval ⟨T, []⟩) o).run cx.P w = .ok .skip w' := by
     simp only [execOp, hop, Sem.run_bind, hrun, Result.andThen_ok, Sem.run_pure]
    rw [hr]
    show K (Act.put ⟨T, []⟩ o.dst undef) w'
    rw [hd]
    exact hK T w' ⟨m, hR⟩
   ·cases hev
  ·rename_i c hop
   split at hev
   ·rename_i r hc
    cases hev
    have hm' := zbm (l := prepOps E o.op) hm
    obtain ⟨f, args, hrun, hcalls⟩ := evCall_sound hE hm' hop hc hob
    unfold Oper.wp
    rw [hrun w]
    refine hcalls.mono ?_
    rintro e w' ⟨v, rfl, hext, _⟩
    show K (Act.put ⟨T, []⟩ o.dst v) w'
    rw [hd]
    exact hK T w' ⟨m, hm'.ext hext⟩
   ·cases hev
  ·cases hev
 ·rename_i d hd
  split at hev
  ·rename_i hdn
   have hlt : d < cx.n := by rw [hE.n]; exact zax hdn
   have hm' := zbm (l := prepOps E o.op) hm
   have fin : ∀ (v : Value) (w' : World) (m' : Nat -> Value) (s1 : St) (sv : SV), (execOp (Act.eval ⟨T, []⟩) o).run cx.P w = .ok (.value v) w' -> Rm cx m' s1 T w' -> repS w' (Mut cx m' s1.ids) m' v sv -> s1.put d sv = st' -> o.wp cx.P ⟨T, []⟩ w K Q := by
    intro v w' m' s1 sv hr hs hv e
    refine zbn hr ?_
    rw [hd]
    exact hK _ _ ⟨m', e ▸ hs.put hlt hv⟩
   have finCall : ∀ (c : Call) (r : PR), o.op = .call c -> evCall E (zbl st (prepOps E o.op)) c orc = some r -> allP r.ob -> (zbl st (prepOps E o.op)).put d r.sv = st' -> o.wp cx.P ⟨T, []⟩ w K Q := by
    intro c r hop hc hob e
    obtain ⟨f, args, hrun, hcalls⟩ := evCall_sound hE hm' hop hc hob
    unfold Oper.wp
    rw [hrun w]
    refine hcalls.mono ?_
    rintro e' w' ⟨v, rfl, hext, hv⟩
    show K (Act.put ⟨T, []⟩ o.dst v) w'
    rw [hd]
    exact hK _ _ ⟨m, e ▸ (hm'.ext hext).put hlt hv⟩
   split at hev
   ·rename_i r hp
    cases hev
    rw [<- hE.P] at hp
    obtain ⟨v, hdoes, hv⟩ := evP_sound hm' hp hob
    exact fin v w m _ _ (hdoes w (Ext.refl w)) hm' hv rfl
   ·split at hev
    ·rename_i t x hop
     split at hev
     ·rename_i r hl
      cases hev
      rw [<- hE.P] at hl
      obtain ⟨v, hs, hv⟩ := evLoad_sound hm hl hob
      exact fin v w m _ _ (zbk (by simp only [execOp, hop]) (hs w (Ext.refl w))) hm hv rfl
     ·cases hev
    ·rename_i c hop
     split at hev
     ·rename_i r hc
      cases hev
      exact finCall c r hop hc hob rfl
     ·split at hev
      ·rename_i r hmk
       cases hev
       rw [<- hE.P] at hmk
       obtain ⟨v, w', m', h1, h2, h3⟩ := evM_sound hm hlt hmk hob
       exact fin v w' m' _ _ h1 h2 h3 rfl
      ·cases hev
    ·split at hev
     ·rename_i r hmk
      cases hev
      rw [<- hE.P] at hmk
      obtain ⟨v, w', m', h1, h2, h3⟩ := evM_sound hm' hlt hmk hob
      exact fin v w' m' _ _ h1 h2 h3 rfl
     ·cases hev
  ·cases hev
def evO0 (E : Env) (st : St) (o : Oper) (orc : List TV) : Option (St × List TV × List Prop) :=
 match o.op, orc with
 | .slice _ x none (some _) none, ⟨.unit, _⟩ :: orc' => evO1 E (zbl st [x]) o orc'
 | _, _ => evO1 E st o orc
theorem evO0_sound {E : Env} (hE : EnvOK E cx) (h : R cx st T w) {o : Oper} {orc : List TV} {st' : St} {orc' : List TV} {ob : List Prop} (hev : evO0 E st o orc = some (st', orc', ob)) (hob : allP ob)
  {K : Act -> World -> Prop} {Q : Exit -> Act -> World -> Prop} (hK : ∀ T' w', R cx st' T' w' -> K ⟨T', []⟩ w') : o.wp cx.P ⟨T, []⟩ w K Q := by
 unfold evO0 at hev
 split at hev
 ·obtain ⟨m, hm⟩ := h
  exact evO1_sound hE ⟨m, zbm hm⟩ hev hob hK
 ·exact evO1_sound hE h hev hob hK
end Go.Ev
namespace Go.Ev
open Go Go.RowKit
variable [Dr]
variable {cx : Cx} {m : Nat -> Value} {st st' : St} {T : Array Value} {w w' : World}
theorem o2in_get {M : Nat -> Prop} {k : IK} : ∀ {xs : List (Option k.el)} {us us' : List Value} {i : Nat} {x : k.el}, o2in w M k xs us us' -> xs[i]? = some (some x) -> ∃ u, us[i]? = some u /\ us'[i]? = some u /\ iOK w M u k x
 | [], [], [], i, x, _, h => by simp at h
 | none :: xs, _ :: us, _ :: us', 0, x, _, h => by simp at h
 | some y :: xs, u :: us, u' :: us', 0, x, ⟨h1, h2, _⟩, h => by
  simp at h
  subst h
  exact ⟨u, rfl, by rw [h1]; rfl, h2⟩
 | none :: xs, _ :: us, _ :: us', i + 1, x, ⟨_, h⟩, hx => by
  obtain ⟨u, a, b, c⟩ := o2in_get (i := i) h (by simpa using hx)
  exact ⟨u, by simpa using a, by simpa using b, c⟩
 | some y :: xs, _ :: us, _ :: us', i + 1, x, ⟨_, _, h⟩, hx => by
  obtain ⟨u, a, b, c⟩ := o2in_get (i := i) h (by simpa using hx)
  exact ⟨u, by simpa using a, by simpa using b, c⟩
theorem o2in_set {M M' : Nat -> Prop} {k : IK} (hw : ∀ b, b < w.heap.size -> ¬ M b -> w'.heap[b]? = w.heap[b]?) (hM : ∀ b, b < w.heap.size -> M' b -> M b) {x' : k.el} {u0 : Value} (hi : iOK w' M' u0 k x') :
  ∀ {xs : List (Option k.el)} {us us' : List Value} {i : Nat}, (∀ j v, j ≠ i -> us'[j]? = some v -> ∀ b, blk v = some b -> w'.heap[b]? = w.heap[b]?) -> o2in w M k xs us us' -> o2in w' M' k (xs.set i (some x')) (us.set i u0) (us'.set i u0)
 | [], [], [], _, _, _ => trivial
 | none :: xs, _ :: us, _ :: us', 0, hh, ⟨_, h⟩ => ⟨rfl, hi, o2in_map hw hM (fun u hu b hb => by
   obtain ⟨j, hj⟩ := List.getElem?_of_mem hu
   exact hh (j + 1) u (by omega) (by simpa using hj) b hb) h⟩
 | some y :: xs, _ :: us, _ :: us', 0, hh, ⟨_, _, h⟩ => ⟨rfl, hi, o2in_map hw hM (fun u hu b hb => by
   obtain ⟨j, hj⟩ := List.getElem?_of_mem hu
   exact hh (j + 1) u (by omega) (by simpa using hj) b hb) h⟩
 | none :: xs, _ :: us, _ :: us', i + 1, hh, ⟨h1, h⟩ => ⟨h1, o2in_set hw hM hi (fun j v hj hv b hb => hh (j + 1) v (by omega) (by simpa using hv) b hb) h⟩
 | some y :: xs, u :: us, u' :: us', i + 1, hh, ⟨h1, h2, h⟩ => ⟨h1, iOK_map hw hM (fun b hb => hh 0 u' (by omega) rfl b (by rw [h1]; exact hb)) h2, o2in_set hw hM hi (fun j v hj hv b hb => hh (j + 1) v (by omega) (by simpa using hv) b hb) h⟩
theorem o2in_give {M : Nat -> Prop} {k : IK} : ∀ {xs : List (Option k.el)} {us us' : List Value} {i : Nat}, o2in w M k xs us us' -> o2in w M k (xs.set i none) us (us'.set i undef)
 | [], [], [], _, _ => trivial
 | none :: xs, _ :: us, _ :: us', 0, ⟨_, h⟩ => ⟨rfl, h⟩
 | some y :: xs, _ :: us, _ :: us', 0, ⟨_, _, h⟩ => ⟨rfl, h⟩
 | none :: xs, _ :: us, _ :: us', i + 1, ⟨h1, h⟩ => ⟨h1, o2in_give h⟩
 | some y :: xs, u :: us, u' :: us', i + 1, ⟨h1, h2, h⟩ => ⟨h1, h2, o2in_give h⟩
theorem filt_mem {us : List Value} {b : Nat} : b ∈ us.filterMap blk ↔ ∃ (j : Nat) (v : Value), us[j]? = some v /\ blk v = some b := by
 rw [List.mem_filterMap]
 constructor
 ·rintro ⟨v, hv, h⟩
  obtain ⟨j, hj⟩ := List.getElem?_of_mem hv
  exact ⟨j, v, hj, h⟩
 ·rintro ⟨j, v, hj, h⟩
  exact ⟨v, List.mem_of_getElem? hj, h⟩
theorem filt_ne : ∀ {us : List Value} {i j : Nat} {u v : Value} {b : Nat}, (us.filterMap blk).Nodup -> us[i]? = some u -> us[j]? = some v -> i ≠ j -> blk u = some b -> blk v ≠ some b
 | [], i, j, u, v, b, _, h, _, _, _ => by simp at h
 | x :: us, 0, 0, u, v, b, _, _, _, hne, _ => absurd rfl hne
 | x :: us, 0, j + 1, u, v, b, hn, hi, hj, _, hb => by
  simp at hi
  subst hi
  rw [List.filterMap_cons, hb, List.nodup_cons] at hn
  intro hv
  exact hn.1 (filt_mem.2 ⟨j, v, by simpa using hj, hv⟩)
 | x :: us, i + 1, 0, u, v, b, hn, hi, hj, _, hb => by
  simp at hj
  subst hj
  intro hv
  rw [List.filterMap_cons, hv, List.nodup_cons] at hn
  exact hn.1 (filt_mem.2 ⟨i, u, by simpa using hi, hb⟩)
 | x :: us, i + 1, j + 1, u, v, b, hn, hi, hj, hne, hb => by
  have hn' : (us.filterMap blk).Nodup := by
   rw [List.filterMap_cons] at hn
   split at hn
   ·exact hn
   ·exact (List.nodup_cons.1 hn).2
  exact filt_ne hn' (by simpa using hi) (by simpa using hj) (fun e => hne (by rw [e])) hb
theorem filt_set : ∀ {us : List Value} {i : Nat} {u : Value}, (us.filterMap blk).Nodup -> (∀ b, blk u = some b -> ∀ j v, j ≠ i -> us[j]? = some v -> blk v ≠ some b) -> ((us.set i u).filterMap blk).Nodup
 | [], _, _, h, _ => h
 | x :: us, 0, u, hn, hu => by
  have hn' : (us.filterMap blk).Nodup := by
   rw [List.filterMap_cons] at hn
   split at hn
   ·exact hn
   ·exact (List.nodup_cons.1 hn).2
  rw [List.set_cons_zero, List.filterMap_cons]
  split
  ·exact hn'
  ·rename_i b hb
   refine List.nodup_cons.2 ⟨fun hm => ?_, hn'⟩
   obtain ⟨j, v, h1, h2⟩ := filt_mem.1 hm
   exact hu b hb (j + 1) v (by omega) (by simpa using h1) h2
 | x :: us, i + 1, u, hn, hu => by
  have hn' : (us.filterMap blk).Nodup := by
   rw [List.filterMap_cons] at hn
   split at hn
   ·exact hn
   ·exact (List.nodup_cons.1 hn).2
  have ih := filt_set (i := i) (u := u) hn' (fun b hb j v hj hv => hu b hb (j + 1) v (by omega) (by simpa using hv))
  rw [List.set_cons_succ, List.filterMap_cons]
  split
  ·exact ih
  ·rename_i b hb
   refine List.nodup_cons.2 ⟨fun hm => ?_, ih⟩
   rw [List.mem_filterMap] at hm
   obtain ⟨v, hv, h2⟩ := hm
   rcases List.mem_or_eq_of_mem_set hv with hv | rfl
   ·rw [List.filterMap_cons, hb, List.nodup_cons] at hn
    exact hn.1 (List.mem_filterMap.2 ⟨v, hv, h2⟩)
   ·exact hu b h2 0 x (by omega) rfl hb
theorem Rm.o2 (h : Rm cx m st T w) {b e : Nat} {k : IK} {xs : List (Option k.el)} (hb : look st.bx b = some (.o2 e k xs)) :
  ∃ g cap us us' cur, m b = .tuple (.slice (some ⟨g, 0, none⟩) xs.length cap :: us').toArray /\ (∀ g', own (m b) g' -> cx.w0.heap.size <= g' \/ cx.X g') /\ w.ownsRow 0 e 1 (.slice (some ⟨g, 0, none⟩) xs.length cap) xs.length us /\
   w.heap[g]? = some (.cells cur e (0, 0)) /\ xs.length <= cap /\ cap <= maxLen /\ cur.size = cap /\ cur.toList.take xs.length = us /\ o2in w (Mut cx m st.ids) k xs us us' /\ (g :: us'.filterMap blk).Nodup := by
 obtain ⟨g, _, e2, n, cap, us, us', h1, h2, h3, h4⟩ := h.boxes b _ (zak hb)
 rcases h2.2 with ⟨hv, _⟩ | ⟨g', cap', cur, hv, _, hh, hle, hmax, hcur, htk⟩
 ·cases hv
 ·have hv0 := hv
  simp only [Value.slice.injEq, Option.some.injEq, Addr.mk.injEq, and_true] at hv
  obtain ⟨rfl, rfl, rfl⟩ := hv
  rw [Nat.mul_one] at hcur htk
  exact ⟨g, cap, us, us', cur, h1, e2, h2, hh, hle, hmax, hcur, htk, h3, h4⟩
def SV.scrubO (b : Nat) : SV -> SV
 | .osl c => .osl c
 | .optr c i => .optr c i
 | s => bif s.refs b then .any else s
theorem scrubO_rep {M : Nat -> Prop} {b : Nat} {r v2 : Value} {us us2 : List Value} (h1 : m b = .tuple (r :: us).toArray) (h2 : v2 = .tuple (r :: us2).toArray) {v : Value} {s : SV} (h : repS w M m v s) : repS w M (upd m b v2) v (s.scrubO b) := by
 have dflt : ∀ s : SV, repS w M m v s -> repS w M (upd m b v2) v (bif s.refs b then .any else s) := by
  intro s hh
  cases hr : s.refs b with
  | true => trivial
  | false => exact repS_upd hr hh
 cases s with
 | osl c =>
  by_cases e : c = b
  ·subst e
   obtain ⟨us', e'⟩ := h
   refine ⟨us2, ?_⟩
   rw [zam, h2]
   rw [h1] at e'
   simp only [Value.tuple.injEq, Array.mk.injEq, List.cons.injEq] at e'
   rw [e'.1]
  ·obtain ⟨us', e'⟩ := h
   exact ⟨us', by rw [zan _ _ e]; exact e'⟩
 | optr c i =>
  by_cases e : c = b
  ·subst e
   obtain ⟨g, n, cap, us', e', hv⟩ := h
   refine ⟨g, n, cap, us2, ?_, hv⟩
   rw [zam, h2]
   rw [h1] at e'
   simp only [Value.tuple.injEq, Array.mk.injEq, List.cons.injEq] at e'
   rw [e'.1]
  ·obtain ⟨g, n, cap, us', e', hv⟩ := h
   exact ⟨g, n, cap, us', by rw [zan _ _ e]; exact e', hv⟩
 | any => exact dflt _ h
 | undef => exact dflt _ h
 | val t x => exact dflt _ h
 | tup l => exact dflt _ h
 | tups l => exact dflt _ h
 | ptr a o => exact dflt _ h
 | selfp a => exact dflt _ h
 | vptr t x => exact dflt _ h
 | row r => exact dflt _ h
 | rptr r i o z => exact dflt _ h
 | clos f bs => exact dflt _ h
 | iter a => exact dflt _ h
 | bp a p => exact dflt _ h
 | sub a i => exact dflt _ h
 | bclos f b => exact dflt _ h
 | rrp b i o s => exact dflt _ h
 | ssp b i j o s => exact dflt _ h
 | hd n => exact dflt _ h
 | sa l => exact dflt _ h
def St.o2re (st : St) (b c : Nat) (c2 : BX) : St :=
 {sl := st.sl.map fun p => (p.1, p.2.scrubO b), bx := (b, c2) :: ((del (del st.bx b) c).map fun p => (p.1, p.2.map (SV.scrubO b))), rw := st.rw }
theorem Rm.o2re (h : Rm cx m st T w) {b c : Nat} {c0 cc c2 : BX} (hb : (b, c0) ∈ st.bx) (hc : (c, cc) ∈ st.bx) (hbn : b < cx.n) {r v2 : Value} {us us2 : List Value} (h1 : m b = .tuple (r :: us).toArray) (h2 : v2 = .tuple (r :: us2).toArray) {g : Nat} (hn : Touch m w b w')
  (hown : ∀ g', own v2 g' -> own (m b) g' \/ own (m c) g') (hM : isM v2 g c2) (hok : objOK w' (Mut cx (upd m b v2) (st.o2re b c c2).ids) (upd m b v2) v2 g c2) : Rm cx (upd m b v2) (st.o2re b c c2) T w' := by
 have hbi : b ∈ st.ids := List.mem_append.2 (.inl (List.mem_map.2 ⟨_, hb, rfl⟩))
 have hci : c ∈ st.ids := List.mem_append.2 (.inl (List.mem_map.2 ⟨_, hc, rfl⟩))
 have hbr : ∀ c', (b, c') ∉ st.rw := fun c' hh => (List.nodup_append.1 h.keys).2.2 b (List.mem_map.2 ⟨_, hb, rfl⟩) b (List.mem_map.2 ⟨_, hh, rfl⟩) rfl
 have hcr : ∀ c', (c, c') ∉ st.rw := fun c' hh => (List.nodup_append.1 h.keys).2.2 c (List.mem_map.2 ⟨_, hc, rfl⟩) c (List.mem_map.2 ⟨_, hh, rfl⟩) rfl
 have hids : ∀ i, i ∈ (st.o2re b c c2).ids -> i ∈ st.ids /\ (i = b \/ (i ≠ b /\ i ≠ c)) := by
  intro i hi
  rcases List.mem_append.1 hi with hi | hi
  ·obtain ⟨⟨j, s⟩, hp, rfl⟩ := List.mem_map.1 hi
   rcases List.mem_cons.1 hp with hp | hp
   ·cases hp; exact ⟨hbi, .inl rfl⟩
   ·obtain ⟨⟨j', s'⟩, hp', he⟩ := List.mem_map.1 hp
    cases he
    obtain ⟨q1, q2⟩ := mem_del.1 hp'
    obtain ⟨q3, q4⟩ := mem_del.1 q1
    exact ⟨List.mem_append.2 (.inl (List.mem_map.2 ⟨_, q3, rfl⟩)), .inr ⟨q4, q2⟩⟩
  ·obtain ⟨⟨j, s⟩, hp, rfl⟩ := List.mem_map.1 hi
   exact ⟨List.mem_append.2 (.inr (List.mem_map.2 ⟨_, hp, rfl⟩)), .inr ⟨fun e => hbr s (by rw [<- e]; exact hp), fun e => hcr s (by rw [<- e]; exact hp)⟩⟩
 have hm2 : ∀ {i : Nat}, i ≠ b -> upd m b v2 i = m i := fun hne => zan _ _ hne
 have kw : ∀ g', g' < w.heap.size -> ¬ Mut cx m st.ids g' -> w'.heap[g']? = w.heap[g']? := fun g' hg' hmu => hn.block g' hg' fun e => hmu (.inr ⟨b, hbi, e⟩)
 have km : ∀ g', g' < w.heap.size -> Mut cx (upd m b v2) (st.o2re b c c2).ids g' -> Mut cx m st.ids g' := by
  rintro g' _ (hA | ⟨i, hi, hg⟩)
  ·exact .inl hA
  ·obtain ⟨q1, q2⟩ := hids i hi
   by_cases e : i = b
   ·subst e
    rw [zam] at hg
    rcases hown g' hg with hh | hh
    ·exact .inr ⟨i, hbi, hh⟩
    ·exact .inr ⟨c, hci, hh⟩
   ·rw [hm2 e] at hg
    exact .inr ⟨i, q1, hg⟩
 have hs : ∀ v s, repS w (Mut cx m st.ids) m v s -> repS w' (Mut cx (upd m b v2) (st.o2re b c c2).ids) (upd m b v2) v (s.scrubO b) := fun v s hv => scrubO_rep h1 h2 (zap kw km hv)
 refine { size := h.size, frame := h.touch_frame hbi hn, outer := h.outer, slots := fun i sv hi => ?_, boxes := fun j c' hj => ?_, rows := fun j c' hj => ?_, apart := fun i j hi hj hne g' hg hg' => ?_, keys := ?_, fixed := fun j c' hj h1' hle => ?_, kept := fun j c' hj hle hk => ?_ }
 rotate_right
 ·rw [hm2 (fun e => hbr c' (by rw [<- e]; exact hj))]
  exact h.kept j c' hj hle hk
 ·obtain ⟨⟨j, s⟩, hp, he⟩ := List.mem_map.1 hi
  cases he
  obtain ⟨v, a1, a2⟩ := h.slots j s hp
  exact ⟨v, a1, hs v s a2⟩
 ·rcases List.mem_cons.1 hj with hj | hj
  ·cases hj
   rw [zam]
   refine ⟨g, hM, fun g' hg' => ?_, hok⟩
   rcases hown g' hg' with hh | hh
   ·exact (h.lt hbi hh).2
   ·exact (h.lt hci hh).2
  ·obtain ⟨⟨j', s'⟩, hp', he⟩ := List.mem_map.1 hj
   cases he
   obtain ⟨q1, q2⟩ := mem_del.1 hp'
   obtain ⟨q3, q4⟩ := mem_del.1 q1
   obtain ⟨g', e1, e2, e3⟩ := h.boxes j' s' q3
   rw [hm2 q4]
   have hji : j' ∈ st.ids := List.mem_append.2 (.inl (List.mem_map.2 ⟨_, q3, rfl⟩))
   exact ⟨g', isM_map.2 e1, e2, zaq kw km (isM_own e1) (fun b' hb' => hn.block b' (h.lt hji hb').1 fun e => h.apart b j' hbi hji (fun e => q4 e.symm) b' e hb') hs e3⟩
 ·obtain ⟨cells, e1, e2, e3⟩ := h.rows j c' hj
  have hjb : j ≠ b := fun e => hbr c' (by rw [<- e]; exact hj)
  have hji : j ∈ st.ids := List.mem_append.2 (.inr (List.mem_map.2 ⟨_, hj, rfl⟩))
  rw [hm2 hjb]
  refine ⟨cells, ⟨e1.1, ?_⟩, e2, zab (fun _ _ => rep_ext kw km c'.t) e3⟩
  rcases e1.2 with hh | ⟨g', cap, cur, hv, hb0, hh, rest⟩
  ·exact .inl hh
  ·have hg : own (m j) g' := by rw [hv]; exact zal rfl
   exact .inr ⟨g', cap, cur, hv, hb0, by rw [hn.block g' (h.lt hji hg).1 fun e => h.apart b j hbi hji (fun e => hjb e.symm) g' e hg]; exact hh, rest⟩
 ·obtain ⟨a1, a2⟩ := hids i hi
  obtain ⟨b1, b2⟩ := hids j hj
  have key : ∀ {j : Nat}, j ∈ st.ids -> j ≠ b -> j ≠ c -> own v2 g' -> own (m j) g' -> False := by
   intro j hji hjb hjc hv hg
   rcases hown g' hv with hh | hh
   ·exact h.apart b j hbi hji (fun e => hjb e.symm) g' hh hg
   ·exact h.apart c j hci hji (fun e => hjc e.symm) g' hh hg
  rcases a2 with rfl | ⟨a2, a3⟩
  ·rcases b2 with rfl | ⟨b2, b3⟩
   ·exact hne rfl
   ·rw [zam] at hg
    rw [hm2 b2] at hg'
    exact key b1 b2 b3 hg hg'
  ·rcases b2 with rfl | ⟨b2, b3⟩
   ·rw [zam] at hg'
    rw [hm2 a2] at hg
    exact key a1 a2 a3 hg' hg
   ·rw [hm2 a2] at hg
    rw [hm2 b2] at hg'
    exact h.apart i j a1 b1 hne g' hg hg'
 ·have hk : (st.o2re b c c2).ids = b :: (((del (del st.bx b) c).map (·.1)) ++ st.rw.map (·.1)) := by
   show (b :: ((del (del st.bx b) c).map fun p => (p.1, p.2.map (SV.scrubO b))).map (·.1)) ++ st.rw.map (·.1) = _
   simp [List.map_map, Function.comp_def]
  rw [hk]
  refine List.nodup_cons.2 ⟨fun hh => ?_, ?_⟩
  ·rcases List.mem_append.1 hh with hh | hh
   ·obtain ⟨⟨j, s⟩, hp, e⟩ := List.mem_map.1 hh
    exact (mem_del.1 (mem_del.1 hp).1).2 e
   ·obtain ⟨⟨j, s⟩, hp, e⟩ := List.mem_map.1 hh
    exact hbr s (by rw [<- e]; exact hp)
  ·rw [del_keys, del_keys]
   exact h.keys.sublist (List.Sublist.append (List.filter_sublist.trans List.filter_sublist) (List.Sublist.refl _))
 ·rcases List.mem_cons.1 hj with hj | hj
  ·cases hj; omega
  ·obtain ⟨⟨j', s'⟩, hp', he⟩ := List.mem_map.1 hj
   cases he
   obtain ⟨q1, q2⟩ := mem_del.1 hp'
   obtain ⟨q3, q4⟩ := mem_del.1 q1
   rw [hm2 q4]
   exact h.fixed j' s' q3 (one_map.symm.trans h1') hle
def SV.toO (r : Nat) : SV -> SV
 | .row b => bif Nat.beq b r then .osl r else .row b
 | s => bif s.refs r then .any else s
def St.toO2 (st : St) (r : Nat) (c2 : BX) : St :=
 {sl := st.sl.map fun p => (p.1, p.2.toO r), bx := (r, c2) :: (st.bx.map fun p => (p.1, p.2.map (SV.toO r))), rw := del st.rw r }
theorem toO_rep {M : Nat -> Prop} {b : Nat} {v2 : Value} {us2 : List Value} (h2 : v2 = .tuple (m b :: us2).toArray) {v : Value} {s : SV} (h : repS w M m v s) : repS w M (upd m b v2) v (s.toO b) := by
 have dflt : ∀ s : SV, repS w M m v s -> repS w M (upd m b v2) v (bif s.refs b then .any else s) := by
  intro s hh
  cases hr : s.refs b with
  | true => trivial
  | false => exact repS_upd hr hh
 cases s with
 | row r =>
  show repS _ _ _ _ (bif Nat.beq r b then .osl b else .row r)
  cases hr : Nat.beq r b with
  | true =>
   have e := Nat.eq_of_beq_eq_true hr
   subst e
   have hv : v = m r := h
   exact ⟨us2, by rw [zam, h2, hv]⟩
  | false => exact repS_upd hr h
 | osl c => exact dflt _ h
 | optr c i => exact dflt _ h
 | any => exact dflt _ h
 | undef => exact dflt _ h
 | val t x => exact dflt _ h
 | tup l => exact dflt _ h
 | tups l => exact dflt _ h
 | ptr a o => exact dflt _ h
 | selfp a => exact dflt _ h
 | vptr t x => exact dflt _ h
 | rptr r i o z => exact dflt _ h
 | clos f bs => exact dflt _ h
 | iter a => exact dflt _ h
 | bp a p => exact dflt _ h
 | sub a i => exact dflt _ h
 | bclos f b => exact dflt _ h
 | rrp b i o s => exact dflt _ h
 | ssp b i j o s => exact dflt _ h
 | hd n => exact dflt _ h
 | sa l => exact dflt _ h
theorem nil_maps {M : Nat -> Prop} {k v : Ty} : ∀ {n : Nat} {cells : List Value}, repL (rep w M (.map k v)) cells (List.replicate n none) -> cells = List.replicate n (.map none)
 | 0, _, h => h
 | n + 1, _, ⟨c1, c2, e, h1, h2⟩ => by
  have h1 : c1 = [Value.map none] := h1
  rw [e, h1, nil_maps h2]
  rfl
theorem nil_in {M : Nat -> Prop} {k v : Ty} : ∀ (n : Nat), o2in w M (.mp k v) ((List.replicate n none).map some) (List.replicate n (.map none)) (List.replicate n (.map none))
 | 0 => trivial
 | n + 1 => ⟨rfl, rfl, nil_in n⟩
theorem Rm.toO2 (h : Rm cx m st T w) {r e n : Nat} {k v : Ty} (hr : (r, (⟨e, .map k v, List.replicate n none⟩ : RowC)) ∈ st.rw) (hn : 0 < n) (hrn : r < cx.n) : ∃ m', Rm cx m' (st.toO2 r (.o2 e (.mp k v) ((List.replicate n none).map some))) T w := by
 obtain ⟨cells, hown, hout, hL⟩ := h.rows r _ hr
 have hri : r ∈ st.ids := List.mem_append.2 (.inr (List.mem_map.2 ⟨_, hr, rfl⟩))
 have hcl := nil_maps hL
 subst hcl
 have hlen : List.length (α := (Ty.map k v).el) (List.replicate n none) = n := List.length_replicate
 simp only at hown hlen
 rw [hlen] at hown
 have hown0 := hown
 rcases hown.2 with ⟨_, hz⟩ | ⟨g, cap, cur, hv, hb0, hh, rest⟩
 ·omega
 generalize hC : BX.o2 e (.mp k v) ((List.replicate n none).map some) = c2
 have hm2 : ∀ {i : Nat} {v2 : Value}, i ≠ r -> upd m r v2 i = m i := fun hne => zan _ _ hne
 obtain ⟨v2, hv2⟩ : ∃ v2, v2 = Value.tuple (m r :: List.replicate n (.map none)).toArray := ⟨_, rfl⟩
 have ho : ∀ g', own v2 g' ↔ own (m r) g' := by
  intro g'
  rw [hv2, own_tup, hv]
  constructor
  ·rintro (hh | ⟨u, hu, hb⟩)
   ·exact zal hh
   ·rw [List.eq_of_mem_replicate hu] at hb; cases hb
  ·intro hh; exact .inl hh
 have hbr : ∀ c', (r, c') ∉ st.bx := fun c' hh => (List.nodup_append.1 h.keys).2.2 r (List.mem_map.2 ⟨_, hh, rfl⟩) r (List.mem_map.2 ⟨_, hr, rfl⟩) rfl
 have hids : ∀ i, i ∈ (st.toO2 r c2).ids -> i ∈ st.ids := by
  intro i hi
  rcases List.mem_append.1 hi with hi | hi
  ·obtain ⟨⟨j, s⟩, hp, rfl⟩ := List.mem_map.1 hi
   rcases List.mem_cons.1 hp with hp | hp
   ·cases hp; exact hri
   ·obtain ⟨⟨j', s'⟩, hp', he⟩ := List.mem_map.1 hp
    cases he
    exact List.mem_append.2 (.inl (List.mem_map.2 ⟨_, hp', rfl⟩))
  ·obtain ⟨⟨j, s⟩, hp, rfl⟩ := List.mem_map.1 hi
   exact List.mem_append.2 (.inr (List.mem_map.2 ⟨_, (mem_del.1 hp).1, rfl⟩))
 have hom : ∀ i g', own (upd m r v2 i) g' ↔ own (m i) g' := by
  intro i g'
  by_cases ei : i = r
  ·subst ei; rw [zam]; exact ho g'
  ·rw [hm2 ei]
 have kw : ∀ g', g' < w.heap.size -> ¬ Mut cx m st.ids g' -> w.heap[g']? = w.heap[g']? := fun _ _ _ => rfl
 have km : ∀ g', g' < w.heap.size -> Mut cx (upd m r v2) (st.toO2 r c2).ids g' -> Mut cx m st.ids g' := by
  rintro g' _ (hA | ⟨i, hi, hg⟩)
  ·exact .inl hA
  ·exact .inr ⟨i, hids i hi, (hom i g').1 hg⟩
 have hkept : ∀ j c', (j, c') ∈ (st.toO2 r c2).rw -> cx.n <= j -> keptRow <= j -> upd m r v2 j = cx.m0 j := by
  intro j c' hj hle hk
  obtain ⟨hp, hjr⟩ := mem_del.1 hj
  rw [hm2 hjr]
  exact h.kept j c' hp hle hk
 have hs : ∀ u s, repS w (Mut cx m st.ids) m u s -> repS w (Mut cx (upd m r v2) (st.toO2 r c2).ids) (upd m r v2) u (s.toO r) := fun u s hu => toO_rep hv2 (zap kw km hu)
 refine ⟨upd m r v2, { size := h.size, frame := h.frame, outer := h.outer, slots := fun i sv hi => ?_, boxes := fun j c' hj => ?_, rows := fun j c' hj => ?_, apart := fun i j hi hj hne g' hg hg' => h.apart i j (hids i hi) (hids j hj) hne g' ((hom i g').1 hg) ((hom j g').1 hg'), keys := ?_, fixed := fun j c' hj h1' hle => ?_, kept := hkept }⟩
 ·obtain ⟨⟨j, s⟩, hp, he⟩ := List.mem_map.1 hi
  cases he
  obtain ⟨u, a1, a2⟩ := h.slots j s hp
  exact ⟨u, a1, hs u s a2⟩
 ·rcases List.mem_cons.1 hj with hj | hj
  ·cases hj
   rw [zam, <- hC, hv2, hv]
   have hl2 : ((List.replicate n (none : Option (List (k.el × v.el)))).map some).length = n := by simp
   refine ⟨g, ⟨n, cap, _, rfl⟩, fun g' hg' => hout g' ((ho g').1 (by rw [hv2, hv]; exact hg')), n, cap, List.replicate n (.map none), List.replicate n (.map none), rfl, ?_, nil_in n, ?_⟩
   ·have h3 := hown0
    rw [hv] at h3
    show World.ownsRow w 0 e 1 _ (List.length ((List.replicate n none).map some)) _
    rw [hl2]
    exact h3
   ·have : (List.replicate n (Value.map none)).filterMap blk = [] := by
     rw [List.filterMap_eq_nil_iff]
     intro u hu
     rw [List.eq_of_mem_replicate hu]
     rfl
    rw [this]
    simp
  ·obtain ⟨⟨j', s'⟩, hp', he⟩ := List.mem_map.1 hj
   cases he
   obtain ⟨g', e1, e2, e3⟩ := h.boxes j' s' hp'
   have hjr : j' ≠ r := fun e => hbr s' (by rw [<- e]; exact hp')
   rw [hm2 hjr]
   exact ⟨g', isM_map.2 e1, e2, zaq kw km (isM_own e1) (fun _ _ => rfl) hs e3⟩
 ·obtain ⟨hp, hjr⟩ := mem_del.1 hj
  obtain ⟨cells, e1, e2, e3⟩ := h.rows j c' hp
  rw [hm2 hjr]
  exact ⟨cells, e1, e2, zab (fun _ _ => rep_ext kw km c'.t) e3⟩
 ·have hk : (st.toO2 r c2).ids = r :: (st.bx.map (·.1) ++ (del st.rw r).map (·.1)) := by
   show (r :: (st.bx.map fun p => (p.1, p.2.map (SV.toO r))).map (·.1)) ++ (del st.rw r).map (·.1) = _
   simp [List.map_map, Function.comp_def]
  rw [hk]
  refine List.nodup_cons.2 ⟨fun hh => ?_, ?_⟩
  ·rcases List.mem_append.1 hh with hh | hh
   ·obtain ⟨⟨j, s⟩, hp, e⟩ := List.mem_map.1 hh
    exact hbr s (by rw [<- e]; exact hp)
   ·obtain ⟨⟨j, s⟩, hp, e⟩ := List.mem_map.1 hh
    exact (mem_del.1 hp).2 e
  ·rw [del_keys]
   exact h.keys.sublist (List.Sublist.append (List.Sublist.refl _) List.filter_sublist)
 ·rcases List.mem_cons.1 hj with hj | hj
  ·cases hj; omega
  ·obtain ⟨⟨j', s'⟩, hp', he⟩ := List.mem_map.1 hj
   cases he
   rw [hm2 (fun e => hbr s' (by rw [<- e]; exact hp'))]
   exact h.fixed j' s' hp' (one_map.symm.trans h1') hle
theorem Rm.toO2x (h : Rm cx m st T w) {r e n : Nat} {k v : Ty} {xs : List (Ty.map k v).el} (hr : (r, (⟨e, .map k v, xs⟩ : RowC)) ∈ st.rw) (hx : xs = List.replicate n (show (Ty.map k v).el from none)) (hn : 0 < n) (hrn : r < cx.n) :
  ∃ m', Rm cx m' (st.toO2 r (.o2 e (.mp k v) (show List (Option (IK.mp k v).el) from List.map some xs))) T w := by
 subst hx
 exact h.toO2 hr hn hrn
theorem load_o2 (hm : Rm cx m st T w) {b e : Nat} {n : Int} {k : IK} {xs : List (Option k.el)} {y : k.el} (hb : look st.bx b = some (.o2 e k xs)) (hob : xs[n.toNat]? = some (some y)) {x : Operand} (hx : getSV st x = some (.optr b n))
  {t : TypeId} {u : Ty} (ht : ty cx.P t = some u) (hc : u.cells = 1) (hag : u.agg = false) :
  ∃ g cap us us', m b = .tuple (.slice (some ⟨g, 0, none⟩) xs.length cap :: us').toArray /\ (g :: us'.filterMap blk).Nodup /\ o2in w (Mut cx m st.ids) k xs us us' /\ w.ownsRow 0 e 1 (.slice (some ⟨g, 0, none⟩) xs.length cap) xs.length us /\
   ∃ v, us[n.toNat]? = some v /\ us'[n.toNat]? = some v /\ iOK w (Mut cx m st.ids) v k y /\ (Instr.loadAt t (Act.eval ⟨T, []⟩ x)).run cx.P w = .ok v w := by
 obtain ⟨g, cap, us, us', cur, e1, _, e2, e3, e4, e5, e6, e7, e8, e9⟩ := hm.o2 hb
 obtain ⟨g2, n2, cap2, us2, a1, a2⟩ := za6 hm hx
 rw [e1] at a1
 have : g2 = g := by
  simp only [Value.tuple.injEq, Array.mk.injEq, List.cons.injEq, Value.slice.injEq, Option.some.injEq, Addr.mk.injEq] at a1
  exact a1.1.1.1.symm
 subst this
 obtain ⟨v, b1, b2, b3⟩ := o2in_get e8 hob
 refine ⟨g2, cap, us, us', e1, e9, e8, e2, v, b1, b2, b3, ?_⟩
 have hla : Instr.loadAt t (Act.eval ⟨T, []⟩ x) = loadVar t ⟨g2, n.toNat, none⟩ := by rw [a2]; rfl
 rw [hla]
 obtain ⟨v', hv1, hv2⟩ := load_raw (c := [v]) ht e3 (fun j v2 hj => by
  have hj0 : j = 0 := by have := (List.getElem?_eq_some_iff.1 hj).1; simpa using this
  subst hj0
  simp at hj
  subst hj
  rw [<- e7, List.getElem?_take] at b1
  split at b1
  ·simpa using b1
  ·cases b1) (by rw [hc]; rfl) (fun _ => by omega)
 rw [hag] at hv2
 simp at hv2
 subst hv2
 exact hv1 w (Ext.refl w)
theorem sub_val (hm : Rm cx m st T w) {b e : Nat} {n : Int} {k : IK} {xs : List (Option k.el)} {y : k.el} (hb : look st.bx b = some (.o2 e k xs)) (hob : xs[n.toNat]? = some (some y)) {x : Operand} (hx : getSV st x = some (.sub b n)) :
  ∃ g cap us us', m b = .tuple (.slice (some ⟨g, 0, none⟩) xs.length cap :: us').toArray /\ (g :: us'.filterMap blk).Nodup /\ o2in w (Mut cx m st.ids) k xs us us' /\ w.ownsRow 0 e 1 (.slice (some ⟨g, 0, none⟩) xs.length cap) xs.length us /\
   us[n.toNat]? = some (Act.eval ⟨T, []⟩ x) /\ us'[n.toNat]? = some (Act.eval ⟨T, []⟩ x) /\ iOK w (Mut cx m st.ids) (Act.eval ⟨T, []⟩ x) k y := by
 obtain ⟨g, cap, us, us', cur, e1, _, e2, e3, e4, e5, e6, e7, e8, e9⟩ := hm.o2 hb
 obtain ⟨r2, us2, a1, a2⟩ := za6 hm hx
 rw [e1] at a1
 have : us2 = us' := by
  simp only [Value.tuple.injEq, Array.mk.injEq, List.cons.injEq] at a1
  exact a1.2.symm
 subst this
 obtain ⟨v, b1, b2, b3⟩ := o2in_get e8 hob
 rw [a2] at b2
 cases b2
 exact ⟨g, cap, us, us2, e1, e9, e8, e2, b1, a2, b3⟩
def o2step (E : Env) (st : St) (o : Oper) (orc : List TV) : Option (St × List TV × List Prop) :=
 match o.dst with
 | some d => match Nat.blt d E.n with
  | true => match o.op with
   | .indexAddr t x i => match getSV st x, intOf? (getSV st i), ty E.P t with
    | some (.osl b), some n, some (.sl u) => match look st.bx b, Nat.beq u.cells 1 with
     | some (.o2 _ _ xs), true => some (st.put d (.optr b n), orc, [0 <= n /\ n < (xs.length : Int)])
     | _, _ => none
    | _, _, _ => none
   | .load t x => match getSV st x, ty E.P t with
    | some (.optr b n), some u => match look st.bx b, Nat.beq u.cells 1 && !u.agg, orc with
     | some (.o2 e (.mp k v) xs), true, ⟨.unit, _⟩ :: a :: orc' => match a.as (.map k v), Nat.blt b E.n with
      | some y, true => some ((st.o2re b b (.o2 e (.mp k v) (xs.set n.toNat none))).put d (.val (.map k v) y), orc', [xs[n.toNat]? = some (some (show (IK.mp k v).el from y))])
      | _, _ => none
     | some (.o2 _ (.mp k v) xs), true, a :: orc' => match a.as (.map k v) with
      | some y => some (st.put d (.sub b n), orc', [xs[n.toNat]? = some (some (show (IK.mp k v).el from y))])
      | none => none
     | _, _, _ => none
    | _, _ => none
   | .call { callee := .builtin .len, args := args, argTypes := ts } => match args.toList, ts.toList with
    | [x], [t] => match getSV st x, ty E.P t with
     | some (.sub b n), some (.map _ _) => match look st.bx b, orc with
      | some (.o2 _ (.mp k v) xs), a :: orc' => match a.as (.map k v) with
       | some y => some (st.put d (.val (.int .i64) ((Option.getD (α := List (k.el × v.el)) y []).length : Int)), orc', [xs[n.toNat]? = some (some (show (IK.mp k v).el from y))])
       | none => none
      | _, _ => none
     | _, _ => none
    | _, _ => none
   | .makeSlice _ _ _ => match orc with
    | ⟨.unit, _⟩ :: orc' => match evO1 E st o orc' with
     | some (st1, orc2, ob) => match look st1.rw d, Nat.beq d d with
      | some ⟨e, .map k v, xs⟩, true => some (st1.toO2 d (.o2 e (.mp k v) (show List (Option (IK.mp k v).el) from List.map some xs)), orc2, (xs = List.replicate xs.length (show (Ty.map k v).el from none) /\ 0 < xs.length) :: ob)
      | _, _ => none
     | none => none
    | _ => none
   | _ => none
  | false => none
 | none => match o.op with
  | .mapUpdate t x ky vl => match getSV st x, E.P.underlying t, getTV st ky, getTV st vl with
   | some (.sub b n), some (.map kt et), some kv, some vv => match look st.bx b, ty E.P kt, ty E.P et, orc with
    | some (.o2 e (.mp k v) xs), some ku', some vu', a :: orc' => match kv.as k, vv.as v, k.beq ku' && (v.beq vu' && (k.flat && eqOK E.P 16 kt)), a.as (.map k v) with
     | some y, some z, true, some (some ps) => some (st.setBox b (.o2 e (.mp k v) (xs.set n.toNat (some (show (IK.mp k v).el from some (mset (eqEl k) ps y z))))), orc', [xs[n.toNat]? = some (some (show (IK.mp k v).el from some ps))])
     | _, _, _, _ => none
    | _, _, _, _ => none
   | _, _, _, _ => none
  | .store t x y => match getSV st x, getSV st y, ty E.P t with
   | some (.optr b n), some (.iter c), some u => match look st.bx b, look st.bx c, Nat.beq u.cells 1 && (!u.agg && Nat.blt b E.n) with
    | some (.o2 e (.mp k v) xs), some (.mp k' v' ps), true => match (⟨.map k' v', some ps⟩ : TV).as (.map k v) with
     | some y => some (st.o2re b c (.o2 e (.mp k v) (xs.set n.toNat (some (show (IK.mp k v).el from y)))), orc, [0 <= n /\ n < (xs.length : Int)])
     | none => none
    | _, _, _ => none
   | _, _, _ => none
  | _ => none
theorem o2step_sound {E : Env} (hE : EnvOK E cx) (h : R cx st T w) {o : Oper} {orc : List TV} {st' : St} {orc' : List TV} {ob : List Prop} (hev : o2step E st o orc = some (st', orc', ob)) (hob : allP ob)
  {K : Act -> World -> Prop} {Q : Exit -> Act -> World -> Prop} (hK : ∀ T' w', R cx st' T' w' -> K ⟨T', []⟩ w') : o.wp cx.P ⟨T, []⟩ w K Q := by
 obtain ⟨m, hm⟩ := h
 unfold o2step at hev
 split at hev
 ·rename_i d hd
  split at hev
  case h_2 => cases hev
  rename_i hdn
  have hlt : d < cx.n := by rw [hE.n]; exact zax hdn
  have fin : ∀ (v : Value) (w' : World) (m' : Nat -> Value) (s1 : St) (sv : SV), (execOp (Act.eval ⟨T, []⟩) o).run cx.P w = .ok (.value v) w' -> Rm cx m' s1 T w' -> repS w' (Mut cx m' s1.ids) m' v sv -> s1.put d sv = st' -> o.wp cx.P ⟨T, []⟩ w K Q := by
   intro v w' m' s1 sv hr hs hv e
   refine zbn hr ?_
   rw [hd]
   exact hK _ _ ⟨m', e ▸ hs.put hlt hv⟩
  split at hev
  ·rename_i t x i hop
   split at hev
   case h_2 => cases hev
   rename_i b n u hx hi ht
   split at hev
   case h_2 => cases hev
   rename_i e k xs hb hc
   cases hev
   rw [<- hE.P] at ht
   have hc := Nat.eq_of_beq_eq_true hc
   obtain ⟨g, cap, us, us', cur, e1, _⟩ := hm.o2 hb
   obtain ⟨us2, e2⟩ := za6 hm hx
   rw [e1] at e2
   have e3 : Act.eval ⟨T, []⟩ x = .slice (some ⟨g, 0, none⟩) xs.length cap := by
    simp only [Value.tuple.injEq, Array.mk.injEq, List.cons.injEq] at e2
    exact e2.1.symm
   obtain ⟨kk, hk⟩ := intOf?_sound hm hi
   obtain ⟨_, _, _, te, d2, hte, hty⟩ := zav ht
   refine fin (.pointer (some ⟨g, n.toNat, none⟩)) w m _ (.optr b n) (zbk (s := Instr.indexAt t (Act.eval ⟨T, []⟩ x) (Act.eval ⟨T, []⟩ i)) (by simp only [execOp, hop]) ?_) hm ⟨g, xs.length, cap, us', e1, rfl⟩ rfl
   have ea : (⟨g, 0, none⟩ : Addr).add (n.toNat * 1) = ⟨g, n.toNat, none⟩ := by rw [add_mk]; simp
   rw [e3, hk]
   simp only [Instr.indexAt, asIntOf, Sem.run_bind, Sem.run_pure, Result.andThen_ok, run_underlying hte]
   rw [if_pos hob.1]
   simp only [Sem.run_bind, zaw hty, Result.andThen_ok, Sem.run_pure, hc, ea]
  ·rename_i t x hop
   split at hev
   case h_2 => cases hev
   rename_i b n u hx ht
   rw [<- hE.P] at ht
   split at hev
   ·rename_i e k v xs pu a orc2 hb hc
    simp only [Bool.and_eq_true, Bool.not_eq_true'] at hc
    split at hev
    case h_2 => cases hev
    rename_i y ha hbn
    cases hev
    have hbn : b < cx.n := by rw [hE.n]; exact zax hbn
    obtain ⟨g, cap, us, us', e1, e2, e3, e4, u0, b1, b2, b3, hrun⟩ := load_o2 hm hb hob.1 hx ht (Nat.eq_of_beq_eq_true hc.1) hc.2
    have hbm := zak hb
    have hbi : b ∈ st.ids := List.mem_append.2 (.inl (List.mem_map.2 ⟨_, hbm, rfl⟩))
    have hsub : ∀ u ∈ us'.set n.toNat undef, u ∈ us' \/ u = undef := fun u hu => List.mem_or_eq_of_mem_set hu
    have hown : ∀ g', own (.tuple (.slice (some ⟨g, 0, none⟩) xs.length cap :: us'.set n.toNat undef).toArray) g' -> own (m b) g' \/ own (m b) g' := by
     intro g' hg
     rw [e1]
     rcases own_tup.1 hg with hg | ⟨u, hu, hg⟩
     ·exact .inl (own_tup.2 (.inl hg))
     ·rcases hsub u hu with hu | rfl
      ·exact .inl (own_tup.2 (.inr ⟨u, hu, hg⟩))
      ·cases hg
    obtain ⟨v2, hv2⟩ : ∃ v2, v2 = Value.tuple (.slice (some ⟨g, 0, none⟩) xs.length cap :: us'.set n.toNat undef).toArray := ⟨_, rfl⟩
    rw [<- hv2] at hown
    have hmem : ∀ i, i ∈ (st.o2re b b (.o2 e (.mp k v) (xs.set n.toNat none))).ids -> i ∈ st.ids := by
     intro i hi
     rcases List.mem_append.1 hi with hi | hi
     ·obtain ⟨⟨j, s⟩, hp, rfl⟩ := List.mem_map.1 hi
      rcases List.mem_cons.1 hp with hp | hp
      ·cases hp; exact hbi
      ·obtain ⟨⟨j', s'⟩, hp', he⟩ := List.mem_map.1 hp
       cases he
       exact List.mem_append.2 (.inl (List.mem_map.2 ⟨_, (mem_del.1 (mem_del.1 hp').1).1, rfl⟩))
     ·exact List.mem_append.2 (.inr hi)
    have km : ∀ g', g' < w.heap.size -> Mut cx (upd m b v2) (st.o2re b b (.o2 e (.mp k v) (xs.set n.toNat none))).ids g' -> Mut cx m st.ids g' := by
     intro g' _ hg
     rcases hg with hA | ⟨i, hi, hg⟩
     ·exact .inl hA
     ·by_cases ei : i = b
      ·subst ei
       rw [zam] at hg
       exact .inr ⟨i, hbi, (hown g' hg).elim id id⟩
      ·rw [zan _ _ ei] at hg
       exact .inr ⟨i, hmem i hi, hg⟩
    have hnew := hm.o2re (c2 := .o2 e (.mp k v) (xs.set n.toNat none)) hbm hbm hbn e1 hv2 ⟨⟨rfl, rfl, rfl, Nat.le_refl _, fun _ => Nat.le_refl _⟩, fun _ _ _ => rfl⟩ hown ⟨xs.length, cap, _, hv2⟩
     ⟨xs.length, cap, us, us'.set n.toNat undef, hv2, by rw [List.length_set]; exact e4, o2in_map (fun _ _ _ => rfl) km (fun _ _ _ _ => rfl) (o2in_give e3), by
      have hs := filt_set (i := n.toNat) (u := undef) (List.nodup_cons.1 e2).2 (fun b hb => by cases hb)
      refine List.nodup_cons.2 ⟨fun hmem => ?_, hs⟩
      obtain ⟨u, hu, hg⟩ := List.mem_filterMap.1 hmem
      rcases hsub u hu with hu | rfl
      ·exact (List.nodup_cons.1 e2).1 (List.mem_filterMap.2 ⟨u, hu, hg⟩)
      ·cases hg⟩
    refine fin u0 w _ _ (.val (.map k v) y) (zbk (by simp only [execOp, hop]) hrun) hnew ?_ rfl
    refine (za3 (t := .map k v) rfl).2 ?_
    match y, b3 with
    | none, b3 =>
     have b3 : u0 = .map none := b3
     show [u0] = [Value.map none]
     rw [b3]
    | some ps, ⟨r, es, clock, h0, h1, h2, h3, h4⟩ =>
     have hor : own (m b) r := by rw [e1]; exact own_tup.2 (.inr ⟨_, List.mem_of_getElem? b2, by rw [h0]; rfl⟩)
     refine ⟨r, es, clock, by rw [h0], h1, ?_, h2, h3, zac (fun _ _ h => zaj (fun _ _ _ => rfl) km h) (fun _ _ h => zaj (fun _ _ _ => rfl) km h) h4⟩
     rintro (hA | ⟨i, hi, hg⟩)
     ·have o1 := hm.outer r hA
      rcases (hm.lt hbi hor).2 with o2 | o2
      ·omega
      ·exact o1.2 o2
     ·by_cases ei : i = b
      ·subst ei
       rw [zam, hv2] at hg
       rcases own_tup.1 hg with hg | ⟨u, hu, hg⟩
       ·cases hg
        exact (List.nodup_cons.1 e2).1 (filt_mem.2 ⟨_, _, b2, by rw [h0]; rfl⟩)
       ·obtain ⟨j, hj⟩ := List.getElem?_of_mem hu
        rw [List.getElem?_set] at hj
        split at hj
        ·split at hj
         ·cases hj; cases hg
         ·cases hj
        ·rename_i hne
         exact filt_ne (List.nodup_cons.1 e2).2 b2 hj hne (by rw [h0]; rfl) hg
      ·rw [zan _ _ ei] at hg
       exact hm.apart b i hbi (hmem i hi) (fun e => ei e.symm) r hor hg
   ·rename_i e k v xs a orc2 _ hb hc
    simp only [Bool.and_eq_true, Bool.not_eq_true'] at hc
    split at hev
    case h_2 => cases hev
    rename_i y ha
    cases hev
    obtain ⟨g, cap, us, us', e1, _, _, _, v0, _, b2, _, hrun⟩ := load_o2 hm hb hob.1 hx ht (Nat.eq_of_beq_eq_true hc.1) hc.2
    exact fin v0 w m _ (.sub b n) (zbk (by simp only [execOp, hop]) hrun) hm ⟨_, us', e1, b2⟩ rfl
   ·cases hev
  ·rename_i args ts hop
   split at hev
   case h_2 => cases hev
   rename_i x t ha hts
   split at hev
   case h_2 => cases hev
   rename_i b n kt vt hx ht
   split at hev
   case h_2 => cases hev
   rename_i e k v xs a orc2 hb
   split at hev
   case h_2 => cases hev
   rename_i y hy
   cases hev
   rw [<- hE.P] at ht
   obtain ⟨g, cap, us, us', e1, _, _, _, _, _, b3⟩ := sub_val hm hb hob.1 hx
   obtain ⟨i, _, _, k2, e2, _, hf, _, _⟩ := zav ht
   have ea : args = #[x] := by rw [<- Array.toArray_toList (xs := args), ha]
   have et : ts = #[t] := by rw [<- Array.toArray_toList (xs := ts), hts]
   subst ea
   subst et
   refine fin (.int .i64 ((Option.getD (α := List (k.el × v.el)) y []).length : Int)) w m _ (.val (.int .i64) _) ?_ hm (za0.2 rfl) rfl
   simp only [execOp, hop, resolve, invoke, builtin, Sem.run_bind, Sem.run_pure, Result.andThen_ok, List.map_toArray, List.map_cons, List.map_nil]
   generalize Act.eval ⟨T, []⟩ x = vx at b3
   match y, b3 with
   | none, b3 =>
    have b3 : vx = .map none := b3
    rw [b3]
    simp [Builtin.len_, run_underlying hf, goInt]
   | some ps, ⟨r, es, clock, h0, h1, _, _, h4⟩ =>
    rw [h0]
    have hl := repM_len h4
    rw [Array.length_toList] at hl
    simp [Builtin.len_, run_underlying hf, goInt, getObj, Sem.run, h1, hl]
  ·rename_i hop
   split at hev
   case h_2 => cases hev
   rename_i pu orc2
   split at hev
   case h_2 => cases hev
   rename_i st1 orc3 ob1 h1
   split at hev
   case h_2 => cases hev
   rename_i e k v xs hr _
   cases hev
   refine evO1_sound hE ⟨m, hm⟩ h1 hob.2 fun T' w' hR => ?_
   obtain ⟨m1, hm1⟩ := hR
   obtain ⟨⟨hx1, hx2⟩, _⟩ := hob
   obtain ⟨m2, hm2⟩ := hm1.toO2x (zak hr) hx1 hx2 hlt
   exact hK T' w' ⟨m2, hm2⟩
  ·cases hev
 ·rename_i hd
  split at hev
  ·rename_i t x ky vl hop
   split at hev
   case h_2 => cases hev
   rename_i b n kt et kv vv hx hmt hk hv
   split at hev
   case h_2 => cases hev
   rename_i e k v xs ku' vu' a orc2 hb hku hvu
   split at hev
   case h_2 => cases hev
   rename_i y z ps hy hz hh ha
   cases hev
   simp only [Bool.and_eq_true] at hh
   obtain ⟨hh1, hh2, hh3, hh4⟩ := hh
   obtain rfl := Ty.eq_of_beq hh1
   obtain rfl := Ty.eq_of_beq hh2
   have ey := TV.as_some hy
   subst ey
   have ez := TV.as_some hz
   subst ez
   rw [<- hE.P] at hmt hku hvu hh4
   obtain ⟨g, cap, us, us', e1, e2, e3, e4, b1, b2, r, es, clock, h0, h1, h2, h3, h4⟩ := sub_val hm hb hob.1 hx
   obtain ⟨es', clock', hrun, r1, r2, r3⟩ := run_mapUpdate (d := dep) (d' := 16) hmt hku hh4 (by decide) hh3 (za7 hm hk) (za7 hm hv) h1 h2 h3 h4
   have hbm := zak hb
   have hown : own (m b) r := by rw [e1]; exact own_tup.2 (.inr ⟨_, List.mem_of_getElem? b2, by rw [h0]; rfl⟩)
   have hn : Touch m w b { w with heap := w.heap.setIfInBounds r (.map es' clock') } :=
    ⟨⟨rfl, rfl, rfl, by simp, fun _ => Nat.le_refl _⟩, fun k _ hne => by
     show (w.heap.setIfInBounds r _)[k]? = _
     rw [Array.getElem?_setIfInBounds_ne]
     intro e
     exact hne (by rw [<- e]; exact hown)⟩
   have hbi : b ∈ st.ids := List.mem_append.2 (.inl (List.mem_map.2 ⟨_, hbm, rfl⟩))
   generalize hxs : xs.set n.toNat (some (show (IK.mp k v).el from some (mset (eqEl k) ps y z))) = xs2 at hK
   obtain ⟨kk1, kk2⟩ := Rm.touch_keeps (cx := cx) hbi hn (ids := (st.setBox b (.o2 e (.mp k v) xs2)).ids) (zar hbm hm.keys _).1
   have hgr : g ≠ r := fun e => (List.nodup_cons.1 e2).1 (filt_mem.2 ⟨_, _, b2, by rw [h0, e]; rfl⟩)
   rw [h0] at b1 b2
   have hl2 : xs2.length = xs.length := by rw [<- hxs, List.length_set]
   have hR : Rm cx m (st.setBox b (.o2 e (.mp k v) xs2)) T { w with heap := w.heap.setIfInBounds r (.map es' clock') } := by
    refine hm.setBox hbm hn (g := g) ⟨xs.length, cap, us', e1⟩ ⟨xs.length, cap, us, us', e1, ?_, ?_, e2⟩
    ·rw [hl2]
     refine ⟨e4.1, ?_⟩
     rcases e4.2 with hh | ⟨g', cap', cur, hv', hb0, hh, rest⟩
     ·exact .inl hh
     ·refine .inr ⟨g', cap', cur, hv', hb0, ?_, rest⟩
      show (w.heap.setIfInBounds r _)[g']? = _
      rw [Array.getElem?_setIfInBounds_ne (by rintro rfl; cases hv'; exact hgr rfl)]
      exact hh
    ·have hi : iOK { w with heap := w.heap.setIfInBounds r (.map es' clock') } (Mut cx m (st.setBox b (.o2 e (.mp k v) xs2)).ids) (.map (some r)) (.mp k v) (some (mset (eqEl k) ps y z)) := by
      refine ⟨r, es', clock', rfl, ?_, r1, r2, zac (fun _ _ h => zaj kk1 kk2 h) (fun _ _ h => zaj kk1 kk2 h) r3⟩
      show (w.heap.setIfInBounds r _)[r]? = _
      rw [Array.getElem?_setIfInBounds_self_of_lt (zad h1)]
     have hset := o2in_set kk1 kk2 hi (i := n.toNat) (fun j u hj hu bb hbb => by
      show (w.heap.setIfInBounds r _)[bb]? = _
      rw [Array.getElem?_setIfInBounds_ne]
      rintro rfl
      exact filt_ne (List.nodup_cons.1 e2).2 b2 hu (fun e => hj e.symm) rfl hbb) e3
     have f1 : us.set n.toNat (.map (some r)) = us := by
      obtain ⟨hlt, hv1⟩ := List.getElem?_eq_some_iff.1 b1
      rw [<- hv1, List.set_getElem_self]
     have f2 : us'.set n.toNat (.map (some r)) = us' := by
      obtain ⟨hlt, hv1⟩ := List.getElem?_eq_some_iff.1 b2
      rw [<- hv1, List.set_getElem_self]
     rw [f1, f2] at hset
     rw [<- hxs]
     exact hset
   unfold Oper.wp
   have hr : (execOp (Act.eval ⟨T, []⟩) o).run cx.P w = .ok .skip { w with heap := w.heap.setIfInBounds r (.map es' clock') } := by
    simp only [execOp, hop, Sem.run_bind, h0, hrun, Result.andThen_ok, Sem.run_pure]
   rw [hr]
   show K (Act.put ⟨T, []⟩ o.dst undef) _
   rw [hd]
   exact hK T _ ⟨m, hR⟩
  ·rename_i t x y hop
   split at hev
   case h_2 => cases hev
   rename_i b n c u hx hy ht
   split at hev
   case h_2 => cases hev
   rename_i e k v xs k' v' ps hb hc hq
   split at hev
   case h_2 => cases hev
   rename_i y' hy'
   cases hev
   simp only [Bool.and_eq_true, Bool.not_eq_true'] at hq
   obtain ⟨q1, q2, q3⟩ := hq
   have q1 := Nat.eq_of_beq_eq_true q1
   have hbn : b < cx.n := by rw [hE.n]; exact zax q3
   rw [<- hE.P] at ht
   obtain ⟨g, cap, us, us', cur, e1, _, e2, e3, e4, e5, e6, e7, e8, e9⟩ := hm.o2 hb
   obtain ⟨g2, n2, cap2, us2, a1, a2⟩ := za6 hm hx
   rw [e1] at a1
   have : g2 = g := by
    simp only [Value.tuple.injEq, Array.mk.injEq, List.cons.injEq, Value.slice.injEq, Option.some.injEq, Addr.mk.injEq] at a1
    exact a1.1.1.1.symm
   subst this
   have hbm := zak hb
   have hcm := zak hc
   have hbi : b ∈ st.ids := List.mem_append.2 (.inl (List.mem_map.2 ⟨_, hbm, rfl⟩))
   have hci : c ∈ st.ids := List.mem_append.2 (.inl (List.mem_map.2 ⟨_, hcm, rfl⟩))
   have hbc : b ≠ c := by
    rintro rfl
    rw [hb] at hc
    cases hc
   have hyy := TV.as_some hy'
   cases hyy
   obtain ⟨r, f1, _, es, clock, h1, h2, h3, h4⟩ := hm.box hcm
   have f1 : m c = .map (some r) := f1
   have hval : Act.eval ⟨T, []⟩ y = .map (some r) := by have : Act.eval ⟨T, []⟩ y = m c := za6 hm hy; rw [this, f1]
   have hcr : own (m c) r := by rw [f1]; exact zal rfl
   have hbg : own (m b) g2 := by rw [e1]; exact own_tup.2 (.inl rfl)
   have hrg : r ≠ g2 := fun e => hm.apart b c hbi hci hbc g2 hbg (by rw [<- e]; exact hcr)
   obtain ⟨hob1, _⟩ := hob
   have hlt : n.toNat < xs.length := by omega
   have hfit : n.toNat + u.cells <= cur.size := by rw [q1, e6]; omega
   have hrun := store_run (P := cx.P) (v := .map (some r)) ht e3 (by rw [q1]; rfl) hfit (fun x hx => by simp [Value.cells] at hx; subst hx; rfl)
   have hshape : cur.toList.take n.toNat ++ (Value.map (some r)).cells.toList ++ cur.toList.drop (n.toNat + u.cells) = cur.toList.set n.toNat (.map (some r)) := by
    rw [List.set_eq_take_append_cons_drop, if_pos (by rw [Array.length_toList, e6]; omega), q1]
    simp [Value.cells]
   rw [hshape] at hrun
   generalize hw2 : w.setRow g2 (cur.toList.set n.toNat (.map (some r))).toArray = w2 at hrun
   have hn : Touch m w b w2 := by rw [<- hw2]; exact ⟨zbi _ _ _, fun k hk hne => setRow_other _ _ _ _ (fun e => hne (by rw [e]; exact hbg))⟩
   obtain ⟨v2, hv2⟩ : ∃ v2, v2 = Value.tuple (.slice (some ⟨g2, 0, none⟩) xs.length cap :: us'.set n.toNat (.map (some r))).toArray := ⟨_, rfl⟩
   have hsub : ∀ u ∈ us'.set n.toNat (.map (some r)), u ∈ us' \/ u = .map (some r) := fun u hu => List.mem_or_eq_of_mem_set hu
   have hown : ∀ g', own v2 g' -> own (m b) g' \/ own (m c) g' := by
    intro g' hg
    rw [hv2] at hg
    rcases own_tup.1 hg with hg | ⟨u, hu, hg⟩
    ·exact .inl (by rw [e1]; exact own_tup.2 (.inl hg))
    ·rcases hsub u hu with hu | rfl
     ·exact .inl (by rw [e1]; exact own_tup.2 (.inr ⟨u, hu, hg⟩))
     ·cases hg; exact .inr hcr
   generalize hxs : xs.set n.toNat (some (show (IK.mp k v).el from some ps)) = xs2 at hK
   have hl2 : xs2.length = xs.length := by rw [<- hxs, List.length_set]
   have hmem : ∀ i, i ∈ (st.o2re b c (.o2 e (.mp k v) xs2)).ids -> i ∈ st.ids := by
    intro i hi
    rcases List.mem_append.1 hi with hi | hi
    ·obtain ⟨⟨j, s⟩, hp, rfl⟩ := List.mem_map.1 hi
     rcases List.mem_cons.1 hp with hp | hp
     ·cases hp; exact hbi
     ·obtain ⟨⟨j', s'⟩, hp', he⟩ := List.mem_map.1 hp
      cases he
      exact List.mem_append.2 (.inl (List.mem_map.2 ⟨_, (mem_del.1 (mem_del.1 hp').1).1, rfl⟩))
    ·exact List.mem_append.2 (.inr hi)
   have kw : ∀ g', g' < w.heap.size -> ¬ Mut cx m st.ids g' -> w2.heap[g']? = w.heap[g']? := fun g' hg' hmu => hn.block g' hg' fun e => hmu (.inr ⟨b, hbi, e⟩)
   have km : ∀ g', g' < w.heap.size -> Mut cx (upd m b v2) (st.o2re b c (.o2 e (.mp k v) xs2)).ids g' -> Mut cx m st.ids g' := by
    intro g' _ hg
    rcases hg with hA | ⟨i, hi, hg⟩
    ·exact .inl hA
    ·by_cases ei : i = b
     ·subst ei
      rw [zam] at hg
      rcases hown g' hg with hh | hh
      ·exact .inr ⟨i, hbi, hh⟩
      ·exact .inr ⟨c, hci, hh⟩
     ·rw [zan _ _ ei] at hg
      exact .inr ⟨i, hmem i hi, hg⟩
   have hgrow : ∀ g', own (m b) g' -> g' ≠ g2 -> w2.heap[g']? = w.heap[g']? := fun g' _ hne => by rw [<- hw2]; exact setRow_other _ _ _ _ hne
   have hi : iOK w2 (Mut cx (upd m b v2) (st.o2re b c (.o2 e (.mp k v) xs2)).ids) (.map (some r)) (.mp k v) (some ps) :=
    ⟨r, es, clock, rfl, by rw [<- hw2, setRow_other _ _ _ _ hrg]; exact h1, h2, h3, zac (fun _ _ h => zaj kw km h) (fun _ _ h => zaj kw km h) h4⟩
   have hset := o2in_set kw km hi (i := n.toNat) (fun j u hj hu bb hbb => by
    refine hgrow bb (by rw [e1]; exact own_tup.2 (.inr ⟨u, List.mem_of_getElem? hu, hbb⟩)) ?_
    rintro rfl
    exact (List.nodup_cons.1 e9).1 (filt_mem.2 ⟨_, _, hu, hbb⟩)) e8
   have hnew := hm.o2re (c2 := .o2 e (.mp k v) xs2) hbm hcm hbn e1 hv2 hn hown ⟨xs.length, cap, _, hv2⟩ ⟨xs.length, cap, us.set n.toNat (.map (some r)), us'.set n.toNat (.map (some r)), hv2, by
     rw [hl2]
     refine ⟨by rw [List.length_set]; exact e2.1, .inr ⟨g2, cap, _, rfl, Nat.zero_le _, by rw [<- hw2]; exact setRow_heap _ _ _ _ _ _ e3, e4, e5, ?_, ?_⟩⟩
     ·simp [e6]
     ·rw [Nat.mul_one, <- e7, List.take_set], by rw [<- hxs]; exact hset, by
     have hs := filt_set (i := n.toNat) (u := .map (some r)) (List.nodup_cons.1 e9).2 (fun b' hb' j u _ hu hbu => by
      cases hb'
      exact hm.apart b c hbi hci hbc r (by rw [e1]; exact own_tup.2 (.inr ⟨u, List.mem_of_getElem? hu, hbu⟩)) hcr)
     refine List.nodup_cons.2 ⟨fun hmem => ?_, hs⟩
     obtain ⟨u, hu, hg⟩ := List.mem_filterMap.1 hmem
     rcases hsub u hu with hu | rfl
     ·exact (List.nodup_cons.1 e9).1 (List.mem_filterMap.2 ⟨u, hu, hg⟩)
     ·cases hg; exact hrg rfl⟩
   unfold Oper.wp
   have hr : (execOp (Act.eval ⟨T, []⟩) o).run cx.P w = .ok .skip w2 := by
    simp only [execOp, hop, Sem.run_bind, hval, a2, hrun, Result.andThen_ok, Sem.run_pure]
   rw [hr]
   show K (Act.put ⟨T, []⟩ o.dst undef) _
   rw [hd]
   exact hK T _ ⟨_, hnew⟩
  ·cases hev
def evO2 (E : Env) (st : St) (o : Oper) (orc : List TV) : Option (St × List TV × List Prop) :=
 match o2step E st o orc with
 | some r => some r
 | none => evO0 E st o orc
theorem evO2_sound {E : Env} (hE : EnvOK E cx) (h : R cx st T w) {o : Oper} {orc : List TV} {st' : St} {orc' : List TV} {ob : List Prop} (hev : evO2 E st o orc = some (st', orc', ob)) (hob : allP ob)
  {K : Act -> World -> Prop} {Q : Exit -> Act -> World -> Prop} (hK : ∀ T' w', R cx st' T' w' -> K ⟨T', []⟩ w') : o.wp cx.P ⟨T, []⟩ w K Q := by
 unfold evO2 at hev
 split at hev
 ·rename_i r hr
  cases hev
  exact o2step_sound hE h hr hob hK
 ·exact evO0_sound hE h hev hob hK
end Go.Ev
namespace Go.Ev
open Go Go.RowKit
variable [Dr]
variable {cx : Cx} {m : Nat -> Value} {st st' : St} {T : Array Value} {w w' : World}
/-! Copying, clearing. -/
theorem repL_app {α : Type} {f : List Value -> α -> Prop} : ∀ {x1 x2 : List α} {c1 c2 : List Value}, repL f c1 x1 -> repL f c2 x2 -> repL f (c1 ++ c2) (x1 ++ x2)
 | [], _, _, _, h1, h2 => by cases h1; exact h2
 | y :: ys, _, _, _, ⟨d1, d2, e, g1, g2⟩, h2 => by subst e; exact ⟨d1, _, by simp, g1, repL_app g2 h2⟩
theorem repL_one {M : Nat -> Prop} {u : Ty} : ∀ {xs : List u.el} {cs : List Value}, repL (rep w M u) cs xs -> ∀ v ∈ cs, v.oneCell' = true
 | [], cs, hh, v, hv => by cases hh; simp at hv
 | y :: ys, cs, ⟨c1, c2, e, h1, h2⟩, v, hv => by
  subst e
  rcases List.mem_append.1 hv with hv | hv
  ·exact zah u h1 v hv
  ·exact repL_one h2 v hv
theorem Rm.over (h : Rm cx m st T w) {r : Nat} {c : RowC} (hr : (r, c) ∈ st.rw) {ys : List c.t.el} {news : List Value} (hL : repL (rep w (Mut cx m st.ids) c.t) news ys) (hle : ys.length <= c.xs.length) {g : Nat} {n cap : Nat} {cur : Array Value}
  (hm : m r = .slice (some ⟨g, 0, none⟩) n cap) (hh : w.heap[g]? = some (.cells cur c.e (0, 0))) :
  Rm cx m (st.setRow r { c with xs := ys ++ c.xs.drop ys.length }) T (w.setRow g (news ++ cur.toList.drop news.length).toArray) := by
 obtain ⟨cells, hown, hout, hC⟩ := h.rows r c hr
 have hri : r ∈ st.ids := List.mem_append.2 (.inr (List.mem_map.2 ⟨_, hr, rfl⟩))
 rcases hown.2 with ⟨hn, _⟩ | ⟨g', cap', cur', hv, hb0, hh', hle', hmax, hcur, htk⟩
 ·rw [hm] at hn; cases hn
 rw [hm] at hv
 simp only [Value.slice.injEq, Option.some.injEq, Addr.mk.injEq, and_true] at hv
 obtain ⟨rfl, rfl, rfl⟩ := hv
 rw [hh] at hh'
 cases hh'
 have hnl : news.length = ys.length * c.t.cells := zaf (fun _ _ => zag c.t) _ _ hL
 have hcl : cells.length = c.xs.length * c.t.cells := hown.1
 have hnt : Touch m w r (w.setRow g (news ++ cur.toList.drop news.length).toArray) :=
  ⟨zbi _ _ _, fun k hk hne => setRow_other _ _ _ _ (fun e => hne (by rw [hm, e]; exact zal rfl))⟩
 obtain ⟨hids, _⟩ := setRow_ids hr h.keys { c with xs := ys ++ c.xs.drop ys.length }
 obtain ⟨q1, q2⟩ := Rm.touch_keeps (cx := cx) hri hnt hids
 have hlen : (ys ++ c.xs.drop ys.length).length = c.xs.length := by rw [List.length_append, List.length_drop]; omega
 have hmul : ys.length * c.t.cells <= c.xs.length * c.t.cells := Nat.mul_le_mul_right _ hle
 have hcs : c.xs.length * c.t.cells <= cur.size := by rw [hcur]; exact Nat.mul_le_mul_right _ hle'
 refine h.setRow hr hnt (cells := news ++ cells.drop news.length) ?_ (zab (fun _ _ => rep_ext q1 q2 c.t) (repL_app hL (by rw [hnl]; exact repL_drop ys.length hC hle)))
 refine ⟨by simp only [hlen]; rw [List.length_append, List.length_drop, hcl, hnl]; omega, .inr ⟨g, cap, _, by simp only [hlen]; exact hm, hb0, setRow_heap _ _ _ _ _ _ hh, by simp only [hlen]; exact hle', hmax, ?_, ?_⟩⟩
 ·have e : cur.toList.length = cur.size := Array.length_toList
  rw [List.size_toArray, List.length_append, List.length_drop, e, hnl, <- hcur]
  omega
 ·simp only [hlen]
  rw [<- htk, List.drop_take, List.take_append, List.take_of_length_le (by omega), hnl]
/-! Structs whose fields own things. -/
theorem repTRs_len {M : Nat -> Prop} : ∀ {vs : List Value} {l : List TR}, repTRs w M m vs l -> vs.length = l.length
 | [], [], _ => rfl
 | [], _ :: _, h => h.elim
 | _ :: _, [], h => h.elim
 | _ :: _, .v _ :: _, ⟨_, h⟩ => by simp [repTRs_len h]
 | _ :: _, .r _ :: _, ⟨_, h⟩ => by simp [repTRs_len h]
 | _ :: vs, .a :: l, h => by simp [repTRs_len (vs := vs) (l := l) h]
theorem repTRs_app {M : Nat -> Prop} : ∀ {v1 v2 : List Value} {l1 l2 : List TR}, repTRs w M m v1 l1 -> repTRs w M m v2 l2 -> repTRs w M m (v1 ++ v2) (l1 ++ l2)
 | [], _, [], _, _, h => h
 | [], _, _ :: _, _, h, _ => h.elim
 | _ :: _, _, [], _, h, _ => h.elim
 | _ :: _, _, .v _ :: _, _, ⟨h1, h2⟩, h => ⟨h1, repTRs_app h2 h⟩
 | _ :: _, _, .r _ :: _, _, ⟨h1, h2⟩, h => ⟨h1, repTRs_app h2 h⟩
 | _ :: vs, _, .a :: l, _, h2, h => repTRs_app (v1 := vs) (l1 := l) h2 h
theorem repTRs_cut {M : Nat -> Prop} : ∀ (n : Nat) {vs : List Value} {l : List TR}, repTRs w M m vs l -> repTRs w M m (vs.take n) (l.take n) /\ repTRs w M m (vs.drop n) (l.drop n)
 | 0, vs, l, h => ⟨trivial, h⟩
 | n + 1, [], [], _ => ⟨trivial, trivial⟩
 | n + 1, [], _ :: _, h => h.elim
 | n + 1, _ :: _, [], h => h.elim
 | n + 1, _ :: _, .v _ :: _, ⟨h1, h2⟩ => ⟨⟨h1, (repTRs_cut n h2).1⟩, (repTRs_cut n h2).2⟩
 | n + 1, _ :: _, .r _ :: _, ⟨h1, h2⟩ => ⟨⟨h1, (repTRs_cut n h2).1⟩, (repTRs_cut n h2).2⟩
 | n + 1, _ :: vs, .a :: l, h => ⟨(repTRs_cut n (vs := vs) (l := l) h).1, (repTRs_cut n (vs := vs) (l := l) h).2⟩
theorem repTRs_any {M : Nat -> Prop} : ∀ (vs : List Value), repTRs w M m vs (List.replicate vs.length .a)
 | [] => trivial
 | _ :: vs => repTRs_any vs
def toTR : List SV -> Option (List TR)
 | [] => some []
 | .val t x :: l => match toTR l with
  | some r => some (.v ⟨t, x⟩ :: r)
  | none => none
 | _ => none
theorem toTR_rep {M : Nat -> Prop} : ∀ {vs : List Value} {l : List SV} {r : List TR}, toTR l = some r -> repSs w M m vs l -> repTRs w M m vs r
 | [], [], _, h, _ => by cases h; trivial
 | _ :: _, [], _, _, hr => hr.elim
 | [], _ :: _, _, _, hr => hr.elim
 | v :: vs, s :: l, r, h, ⟨h1, h2⟩ => by
  unfold toTR at h
  split at h
  ·rename_i e; cases e
  ·rename_i t x l' e
   cases e
   split at h
   ·rename_i r' hr'; cases h; exact ⟨h1, toTR_rep hr' h2⟩
   ·cases h
  ·cases h
def saPart (st : St) (u : Ty) (s : SV) : Option (List TR) :=
 match s with
 | .val t x => match t.beq u with
  | true => toTR (leaves t x)
  | false => none
 | .row r => match Nat.beq u.cells 1, look st.rw r with
  | true, some _ => some [.r r]
  | _, _ => none
 | .iter b => match Nat.beq u.cells 1, look st.bx b with
  | true, some (.mp _ _ _) => some [.r b]
  | _, _ => none
 | _ => none
theorem saPart_sound (h : Rm cx m st T w) {u : Ty} {s : SV} {c : List TR} {v : Value} (hc : saPart st u s = some c) (hv : repS w (Mut cx m st.ids) m v s) :
  repTRs w (Mut cx m st.ids) m v.cells.toList c /\ v.cells.size = u.cells := by
 unfold saPart at hc
 split at hc
 ·rename_i t x
  split at hc
  ·rename_i hb
   obtain rfl := Ty.eq_of_beq hb
   have h1 := zai hv
   exact ⟨toTR_rep hc (leaves_rep t h1), by rw [<- zag t h1]; simp⟩
  ·cases hc
 ·rename_i r
  split at hc
  ·rename_i c' hb hr
   cases hc
   have e : v = m r := hv
   have h1 := row_one h (zak hr)
   have h2 : v.cells = #[v] := by rw [e]; cases hm : m r <;> first | rfl | (rw [hm] at h1; simp [Value.oneCell'] at h1)
   rw [h2]
   exact ⟨⟨e, trivial⟩, by rw [Nat.eq_of_beq_eq_true hb]; rfl⟩
  ·cases hc
 ·rename_i b
  split at hc
  ·rename_i k v' ps hb hx
   cases hc
   have e : v = m b := hv
   obtain ⟨g, hg, _⟩ := h.box (zak hx)
   have h2 : v.cells = #[v] := by rw [e, hg]; rfl
   rw [h2]
   exact ⟨⟨e, trivial⟩, by rw [Nat.eq_of_beq_eq_true hb]; rfl⟩
  ·cases hc
 ·cases hc
def saPut (P : Program) (st : St) (t : TypeId) : List (Nat × Operand) -> List TR -> Option (List TR)
 | [], l => some l
 | (i, x) :: r, l => match zbb P t i, getSV st x with
  | some (off, u), some s => match saPart st u s, Nat.ble (off + u.cells) l.length with
   | some c, true => saPut P st t r (l.take off ++ c ++ l.drop (off + u.cells))
   | _, _ => none
  | _, _ => none
theorem saPut_sound {t : TypeId} {fs : Array Field} (hu : cx.P.underlying t = some (.struct fs)) (h : Rm cx m st T w)
  {place : Nat -> Option (Nat × Nat)} (hpl : ∀ i off fu, zbb cx.P t i = some (off, fu) -> place i = some (off, fu.cells)) :
  ∀ (parts : List (Nat × Operand)) (l l' : List TR) (cs : List Value), repTRs w (Mut cx m st.ids) m cs l -> saPut cx.P st t parts l = some l' ->
   ∃ cs', Instr.fill place cs.toArray (parts.map fun p => (p.1, Act.eval ⟨T, []⟩ p.2)) = some cs'.toArray /\ repTRs w (Mut cx m st.ids) m cs' l'
 | [], l, l', cs, hr, hm => by cases hm; exact ⟨cs, rfl, hr⟩
 | (i, o) :: r, l, l', cs, hr, hm => by
  unfold saPut at hm
  split at hm
  ·rename_i off fu s hf hv
   split at hm
   ·rename_i c hc hle
    have hle := Nat.le_of_ble_eq_true hle
    obtain ⟨k1, k2⟩ := saPart_sound h hc (za6 h hv)
    have hcl := repTRs_len hr
    have hkl : (Act.eval ⟨T, []⟩ o).cells.toList.length = fu.cells := by rw [Array.length_toList, k2]
    have hcs : cs = cs.take off ++ (cs.drop off).take fu.cells ++ cs.drop (off + fu.cells) := by
     rw [List.append_assoc, <- List.drop_drop, List.take_append_drop, List.take_append_drop]
    have hl1 : (cs.take off).length = off := by rw [List.length_take]; omega
    have hl2 : ((cs.drop off).take fu.cells).length = fu.cells := by rw [List.length_take, List.length_drop]; omega
    obtain ⟨cs', hf', hr2⟩ := saPut_sound hu h hpl r _ l' (cs.take off ++ (Act.eval ⟨T, []⟩ o).cells.toList ++ cs.drop (off + fu.cells)) (repTRs_app (repTRs_app (repTRs_cut off hr).1 k1) (repTRs_cut (off + fu.cells) hr).2) hm
    refine ⟨cs', ?_, hr2⟩
    rw [List.map_cons, Instr.fill, hpl i off fu hf]
    have hfit : ¬ (((Act.eval ⟨T, []⟩ o).cells.size ≠ fu.cells || decide (off + (Act.eval ⟨T, []⟩ o).cells.size > cs.toArray.size)) = true) := by
     simp only [k2, List.size_toArray]
     simp
     omega
    simp only []
    rw [if_neg hfit]
    have hlay := lay_part0 (Act.eval ⟨T, []⟩ o).cells.toList (cs.take off) (cs.drop (off + fu.cells)) ((cs.drop off).take fu.cells) (by rw [hl2, hkl])
    rw [<- hcs, hl1, Array.toArray_toList] at hlay
    rw [hlay]
    exact hf'
   ·cases hm
  ·cases hm
def TR.sv (st : St) : TR -> SV
 | .v u => .val u.t u.x
 | .r b => match look st.bx b with
  | some (.cells _ _) => .ptr b 0
  | some _ => .iter b
  | none => .row b
 | .a => .any
theorem trSV_rep (h : Rm cx m st T w) : ∀ {vs : List Value} {l : List TR}, repTRs w (Mut cx m st.ids) m vs l -> repSs w (Mut cx m st.ids) m vs (l.map (TR.sv st))
 | [], [], _ => trivial
 | [], _ :: _, h => h.elim
 | _ :: _, [], h => h.elim
 | _ :: _, .v _ :: _, ⟨h1, h2⟩ => ⟨h1, trSV_rep h h2⟩
 | v :: _, .r b :: _, ⟨h1, h2⟩ => by
  refine ⟨?_, trSV_rep h h2⟩
  show repS _ _ _ _ (match look st.bx b with
   | some (.cells _ _) => .ptr b 0
   | some _ => .iter b
   | none => .row b)
  split
  ·rename_i l e hl
   obtain ⟨g, hg, _⟩ := h.box (zak hl)
   exact ⟨g, hg, by rw [h1]; exact hg⟩
  ·exact h1
  ·exact h1
 | _ :: vs, .a :: l, h2 => ⟨trivial, trSV_rep (vs := vs) (l := l) h h2⟩
def hdSV (r : Nat) (n : Int) : SV -> SV
 | .row b => bif Nat.beq b r then .hd n else .row b
 | s => s
def hdSt (st : St) (a r : Nat) (n : Int) : St := { st with sl := st.sl.map fun p => bif Nat.beq p.1 a then p else (p.1, hdSV r n p.2) }
theorem hdSt_sound (h : Rm cx m st T w) {a r : Nat} {c : RowC} (hr : (r, c) ∈ st.rw) : Rm cx m (hdSt st a r (c.xs.length : Int)) T w :=
 {h with
  slots := fun i sv hi => by
   obtain ⟨⟨j, s⟩, hp, he⟩ := List.mem_map.1 hi
   obtain ⟨v, h1, h2⟩ := h.slots j s hp
   cases hb : Nat.beq j a with
   | true =>
    simp only [hb, cond_true] at he
    cases he
    exact ⟨v, h1, h2⟩
   | false =>
    simp only [hb, cond_false] at he
    cases he
    refine ⟨v, h1, ?_⟩
    cases s with
    | row b =>
     show repS _ _ _ _ (bif Nat.beq b r then .hd (c.xs.length : Int) else .row b)
     cases hbr : Nat.beq b r with
     | false => exact h2
     | true =>
      have e := Nat.eq_of_beq_eq_true hbr
      subst e
      have e2 : v = m b := h2
      obtain ⟨cells, hown, _⟩ := h.rows b c hr
      rcases hown.2 with ⟨hn, hz⟩ | ⟨g, cap, cur, hn, _⟩
      ·exact ⟨none, 0, 0, by rw [e2, hn], by rw [hz]⟩
      ·exact ⟨_, _, cap, by rw [e2, hn], rfl⟩
    | _ => exact h2 }
def hdstep (E : Env) (st : St) (o : Oper) (orc : List TV) : Option (St × List TV × List Prop) :=
 match o.op with
 | .call { callee := .builtin .append, args := args, argTypes := _ } => match args.toList, orc with
  | [.tmp a, _], ⟨.unit, _⟩ :: orc' => match look st.sl a with
   | some (.row r) => match look st.rw r with
    | some c => evO1 E (hdSt st a r (c.xs.length : Int)) o orc'
    | none => none
   | _ => none
  | _, _ => none
 | .box t x => match o.dst, orc with
  | some d, ⟨.unit, _⟩ :: orc' => match ty E.P t, getTV st x, Nat.blt d E.n with
   | some u, some v, true => match v.as u with
    | some y => some ((st.addBox d (.blk u y t)).put d (.bp d []), orc', [])
    | none => none
   | _, _, _ => none
  | _, _ => none
 | _ => none
theorem hdstep_sound {E : Env} (hE : EnvOK E cx) (h : R cx st T w) {o : Oper} {orc : List TV} {st' : St} {orc' : List TV} {ob : List Prop} (hev : hdstep E st o orc = some (st', orc', ob)) (hob : allP ob)
  {K : Act -> World -> Prop} {Q : Exit -> Act -> World -> Prop} (hK : ∀ T' w', R cx st' T' w' -> K ⟨T', []⟩ w') : o.wp cx.P ⟨T, []⟩ w K Q := by
 obtain ⟨m, hm⟩ := h
 unfold hdstep at hev
 split at hev
 ·split at hev
  ·split at hev
   ·split at hev
    ·rename_i c hc
     exact evO1_sound hE ⟨m, hdSt_sound hm (zak hc)⟩ hev hob hK
    ·cases hev
   ·cases hev
  ·cases hev
 ·rename_i t x hop
  split at hev
  case h_2 => cases hev
  rename_i d pu orc2 hd
  split at hev
  case h_2 => cases hev
  rename_i u v hu hx hdn
  split at hev
  case h_2 => cases hev
  rename_i y hy
  cases hev
  have hlt : d < cx.n := by rw [hE.n]; exact zax hdn
  have ey := TV.as_some hy
  subst ey
  have hval := zai (za7 hm hx)
  have hn : Renew cx m st w d (mval w.heap.size (.blk u y t)) (w.alloc (.cells (Act.eval ⟨T, []⟩ x).cells t)) :=
   Renew.fresh hm d _ (zbj _ _) fun g hg => by cases own_plain hg; exact ⟨Nat.le_refl _, by simp⟩
  have hids : ∀ i, i ∈ (st.addBox d (.blk u y t)).ids -> i = d \/ i ∈ st.ids := by
   intro i hi
   rw [addBox_ids] at hi
   rcases List.mem_cons.1 hi with hi | hi
   ·exact .inl hi
   ·exact .inr ((scrub_ids st d i).1 hi).1
  have hnew := hm.addBox hlt hn (.inl (fresh_place hm)) ⟨(Act.eval ⟨T, []⟩ x).cells, heap_alloc_new w _, rep_ext hn.keeps (hn.mut hids) u hval⟩
  refine zbn (v := .pointer (some ⟨w.heap.size, 0, none⟩)) (w' := w.alloc (.cells (Act.eval ⟨T, []⟩ x).cells t)) (zbk (s := Instr.box t (Act.eval ⟨T, []⟩ x)) (by simp only [execOp, hop]) ?_) ?_
  ·simp [Instr.box, newVar, newRow]
  ·rw [hd]
   exact hK _ _ ⟨_, hnew.put hlt ⟨w.heap.size, zam _ _ _, rfl⟩⟩
 ·cases hev
def o3step (E : Env) (st : St) (o : Oper) (orc : List TV) : Option (St × List TV × List Prop) :=
 match o.op with
 | .call { callee := .builtin .copy, args := args, argTypes := ts } => match args.toList, ts.toList with
  | [x, y], [t, t'] => match getSV st x, elemOf? E.P t with
   | some (.row r), some (e, u) => match look st.rw r with
    | some c => match c.t.beq u, srcList E.P st c.t t' y with
     | true, some ys => match o.dst with
      | none => some (st.setRow r ⟨c.e, c.t, ys ++ c.xs.drop ys.length⟩, orc, [ys.length <= c.xs.length])
      | some d => match Nat.blt d E.n with
       | true => some ((st.setRow r ⟨c.e, c.t, ys ++ c.xs.drop ys.length⟩).put d (.val (.int .i64) (ys.length : Int)), orc, [ys.length <= c.xs.length])
       | false => none
     | _, _ => none
    | none => none
   | _, _ => none
  | _, _ => none
 | .call { callee := .builtin .clear, args := args, argTypes := ts } => match args.toList, ts.toList, o.dst with
  | [x], [t], none => match getSV st x, elemOf? E.P t with
   | some (.row r), some (e, u) => match look st.rw r, zeroOf E.P e with
    | some c, some u' => match c.t.beq u && u.beq u' with
     | true => some (st.setRow r ⟨c.e, c.t, List.replicate c.xs.length (zeroEl c.t)⟩, orc, [])
     | false => none
    | _, _ => none
   | _, _ => none
  | _, _, _ => none
 | .call { callee := .builtin .len, args := args, argTypes := ts } => match args.toList, ts.toList, o.dst with
  | [x], [t], some d => match getSV st x, ty E.P t, Nat.blt d E.n with
   | some (.hd n), some (.sl _), true => some (st.put d (.val (.int .i64) n), orc, [])
   | some (.osl b), some (.sl _), true => match look st.bx b with
    | some (.o2 _ _ xs) => some (st.put d (.val (.int .i64) (xs.length : Int)), orc, [])
    | _ => none
   | _, _, _ => none
  | _, _, _ => none
 | .call { callee := .builtin .min, args := args, .. } => match args.toList, o.dst with
  | [x, y, z], some d => match getTV st x, getTV st y, getTV st z, Nat.blt d E.n with
   | some ⟨.int k, a⟩, some ⟨.int k', b⟩, some ⟨.int k'', c⟩, true => bif kbeq k k' && kbeq k k'' then some (st.put d (.val (.int k) (mnI (mnI a b) c)), orc, []) else none
   | _, _, _, _ => none
  | _, _ => none
 | .assign (.const (.map none)) => match o.dst, ty E.P o.type with
  | some d, some (.map k v) => match Nat.blt d E.n with
   | true => some (st.put d (.val (.map k v) none), orc, [])
   | false => none
  | _, _ => none
 | .move (.const (.map none)) => match o.dst, ty E.P o.type with
  | some d, some (.map k v) => match Nat.blt d E.n with
   | true => some (st.put d (.val (.map k v) none), orc, [])
   | false => none
  | _, _ => none
 | .build t parts => match o.dst, ty E.P t, E.P.info? t with
  | some d, some u, some i => match i.zero, u.isSt && Nat.blt d E.n with
   | some z, true => match Nat.beq z.cells.size u.cells, saPut E.P st t parts.toList (List.replicate z.cells.size .a) with
    | true, some l => some (st.put d (.sa l), orc, [])
    | _, _ => none
   | _, _ => none
  | _, _, _ => none
 | .box t x => match o.dst, getSV st x with
  | some d, some (.sa l) => match Nat.blt d E.n with
   | true => some ((st.addBox d (.cells ((l.map (TR.sv st)).map (SV.scrub d)) t)).put d (.ptr d 0), orc, [])
   | false => none
  | _, _ => none
 | _ => none
theorem exec_skip {o : Oper} {K : Act -> World -> Prop} {Q : Exit -> Act -> World -> Prop} (hd : o.dst = none) {v : Value} (hr : (execOp (Act.eval ⟨T, []⟩) o).run cx.P w = .ok (.value v) w') (hK : K ⟨T, []⟩ w') : o.wp cx.P ⟨T, []⟩ w K Q := by
 unfold Oper.wp
 rw [hr]
 show K (Act.put ⟨T, []⟩ o.dst v) w'
 rw [hd]
 exact hK
theorem o3step_sound {E : Env} (hE : EnvOK E cx) (h : R cx st T w) {o : Oper} {orc : List TV} {st' : St} {orc' : List TV} {ob : List Prop} (hev : o3step E st o orc = some (st', orc', ob)) (hob : allP ob)
  {K : Act -> World -> Prop} {Q : Exit -> Act -> World -> Prop} (hK : ∀ T' w', R cx st' T' w' -> K ⟨T', []⟩ w') : o.wp cx.P ⟨T, []⟩ w K Q := by
 obtain ⟨m, hm⟩ := h
 have fin : ∀ (d : Nat) (v : Value) (w' : World) (m' : Nat -> Value) (s1 : St) (sv : SV), o.dst = some d -> Nat.blt d E.n = true -> (execOp (Act.eval ⟨T, []⟩) o).run cx.P w = .ok (.value v) w' -> Rm cx m' s1 T w' -> repS w' (Mut cx m' s1.ids) m' v sv -> s1.put d sv = st' -> o.wp cx.P ⟨T, []⟩ w K Q := by
  intro d v w' m' s1 sv hd hdn hr hs hv e
  have hlt : d < cx.n := by rw [hE.n]; exact zax hdn
  refine zbn hr ?_
  rw [hd]
  exact hK _ _ ⟨m', e ▸ hs.put hlt hv⟩
 unfold o3step at hev
 split at hev
 ·rename_i args ts hop
  split at hev
  case h_2 => cases hev
  rename_i x y t t' ha hts
  split at hev
  case h_2 => cases hev
  rename_i r e u hx he
  split at hev
  case h_2 => cases hev
  rename_i c hc
  split at hev
  case h_2 => cases hev
  rename_i ys hcu hsrc
  rw [<- hE.P] at he hsrc
  obtain ⟨hu, hty, hp⟩ := elemOf?_facts he
  obtain ⟨i2, hi2, hsz, _⟩ := zav hty
  obtain ⟨_, news, hlen, hfirst, hL⟩ := src_facts hm hsrc
  have hcm := zak hc
  have hct := Ty.eq_of_beq hcu
  have ea : args = #[x, y] := by rw [<- Array.toArray_toList (xs := args), ha]
  have et : ts = #[t, t'] := by rw [<- Array.toArray_toList (xs := ts), hts]
  subst ea
  subst et
  have hval : Act.eval ⟨T, []⟩ x = m r := za6 hm hx
  have hz : i2.size = c.t.cells := by rw [hct]; exact hsz
  have key : ys.length <= c.xs.length -> ∃ w', (execOp (Act.eval ⟨T, []⟩) o).run cx.P w = .ok (.value (goInt ys.length)) w' /\ Rm cx m (st.setRow r ⟨c.e, c.t, ys ++ c.xs.drop ys.length⟩) T w' := by
   intro hle
   have hmin : Nat.min ys.length c.xs.length = ys.length := Nat.min_eq_left hle
   obtain ⟨cells, hown, hout, hC⟩ := hm.rows r c hcm
   rcases hown.2 with ⟨hn, hz0⟩ | ⟨g, cap, cur, hn, hb0, hh, hle', hmax, hcur, htk⟩
   ·have hy0 : ys = [] := List.eq_nil_of_length_eq_zero (by omega)
    subst hy0
    have hxs : c.xs = [] := List.eq_nil_of_length_eq_zero hz0
    refine ⟨w, ?_, ?_⟩
    ·have hf := hfirst w (fun _ _ => rfl)
     have hl0 : Builtin.lenOf (Act.eval ⟨T, []⟩ y) = pure 0 := hlen
     simp only [List.length_nil] at hf
     simp [execOp, hop, resolve, invoke, builtin, Builtin.copy_, hval, hn, run_underlying hu, hl0, zaw hty, <- hct, hf]
    ·have e2 : (⟨c.e, c.t, ([] : List c.t.el) ++ c.xs.drop ([] : List c.t.el).length⟩ : RowC) = c := by simp
     rw [e2]
     obtain ⟨cells2, q1, q2, q3⟩ := hm.rows r c hcm
     exact hm.setRow hcm ⟨⟨rfl, rfl, rfl, Nat.le_refl _, fun _ => Nat.le_refl _⟩, fun _ _ _ => rfl⟩ q1 (zab (fun _ _ => rep_ext (fun _ _ _ => rfl) (fun _ _ hh => mut_mono (fun i hi => ((setRow_ids hcm hm.keys c).1 i).1 hi) hh) c.t) q3)
   ·have hnl : news.length = ys.length * c.t.cells := zaf (fun _ _ => zag c.t) _ _ hL
    have hfit : news.length <= cur.size := by
     rw [hnl, hcur]
     exact Nat.mul_le_mul_right _ (by omega)
    have hst := run_storeCells_at (P := cx.P) g 0 c.e news 0 cur w hh (by simpa using hfit) (repL_one hL)
    simp only [Nat.add_zero, List.take_zero, List.nil_append, Nat.zero_add] at hst
    refine ⟨_, ?_, hm.over hcm hL hle hn hh⟩
    have hf := hfirst w (fun _ _ => rfl)
    simp [execOp, hop, resolve, invoke, builtin, Builtin.copy_, hval, hn, run_underlying hu, hlen, zaw hty, <- hct, hmin, hf, hst]
  split at hev
  ·rename_i hd
   cases hev
   obtain ⟨w', hrun, hR⟩ := key hob.1
   exact exec_skip hd hrun (hK _ _ ⟨m, hR⟩)
  ·rename_i d hd
   split at hev
   case h_2 => cases hev
   rename_i hdn
   cases hev
   obtain ⟨w', hrun, hR⟩ := key hob.1
   exact fin d _ w' m _ (.val (.int .i64) _) hd hdn hrun hR (za0.2 rfl) rfl
 ·rename_i args ts hop
  split at hev
  case h_2 => cases hev
  rename_i x t ha hts hd
  split at hev
  case h_2 => cases hev
  rename_i r e u hx he
  split at hev
  case h_2 => cases hev
  rename_i c u' hc hz
  split at hev
  case h_2 => cases hev
  rename_i hcu
  cases hev
  rw [Bool.and_eq_true] at hcu
  have hct := Ty.eq_of_beq hcu.1
  have hcu' := Ty.eq_of_beq hcu.2
  rw [<- hE.P] at he hz
  obtain ⟨hu, hty, hp⟩ := elemOf?_facts he
  obtain ⟨i, z, _, hi, hsz, hzz, hzr⟩ := zbd hz
  rw [<- hcu', <- hct] at hsz hzr
  have hcm := zak hc
  have ea : args = #[x] := by rw [<- Array.toArray_toList (xs := args), ha]
  have et : ts = #[t] := by rw [<- Array.toArray_toList (xs := ts), hts]
  subst ea
  subst et
  have hval : Act.eval ⟨T, []⟩ x = m r := za6 hm hx
  have hzv : ∀ w', (zeroValue e).run cx.P w' = .ok z w' := fun w' => by simp [zeroValue, typeInfo, hi, hzz]
  have hzs : z.cells.size = c.t.cells := by rw [<- zag c.t (hzr w (Mut cx m st.ids))]; simp
  have hpc : 0 < c.t.cells := by rw [hct]; exact hp
  obtain ⟨cells, hown, hout, hC⟩ := hm.rows r c hcm
  rcases hown.2 with ⟨hn, hz0⟩ | ⟨g, cap, cur, hn, hb0, hh, hle', hmax, hcur, htk⟩
  ·have hxs : c.xs = [] := List.eq_nil_of_length_eq_zero hz0
   refine exec_skip hd (w' := w) (v := .tuple #[]) ?_ (hK _ _ ⟨m, ?_⟩)
   ·simp [execOp, hop, resolve, invoke, builtin, Builtin.clear_, hval, hn, run_underlying hu]
   ·have e2 : (⟨c.e, c.t, List.replicate c.xs.length (zeroEl c.t)⟩ : RowC) = c := by rw [hxs]; obtain ⟨ce, ct, cxs⟩ := c; simp only at hxs; subst hxs; rfl
    rw [e2]
    obtain ⟨cells2, q1, q2, q3⟩ := hm.rows r c hcm
    exact hm.setRow hcm ⟨⟨rfl, rfl, rfl, Nat.le_refl _, fun _ => Nat.le_refl _⟩, fun _ _ _ => rfl⟩ q1 (zab (fun _ _ => rep_ext (fun _ _ _ => rfl) (fun _ _ hh => mut_mono (fun i hi => ((setRow_ids hcm hm.keys c).1 i).1 hi) hh) c.t) q3)
  ·have hmade := made_rep (hzr w (Mut cx m st.ids)) hpc c.xs.length
   have hzc : (Builtin.zeroCells z.cells c.xs.length) = madeCells z.cells (c.xs.length * c.t.cells) := by rw [<- hzs]; rfl
   have hover := hm.over hcm hmade (by rw [List.length_replicate]; exact Nat.le_refl _) hn hh
   have hdr : List.replicate c.xs.length (zeroEl c.t) ++ c.xs.drop (List.replicate c.xs.length (zeroEl c.t)).length = List.replicate c.xs.length (zeroEl c.t) := by
    rw [List.length_replicate, List.drop_eq_nil_of_le (Nat.le_refl _), List.append_nil]
   rw [hdr] at hover
   have hnl : (madeCells z.cells (c.xs.length * c.t.cells)).toList.length = c.xs.length * c.t.cells := by
    rw [zaf (fun _ _ => zag c.t) _ _ hmade, List.length_replicate]
   have hfit : (madeCells z.cells (c.xs.length * c.t.cells)).toList.length <= cur.size := by
    rw [hnl, hcur]
    exact Nat.mul_le_mul_right _ hle'
   have hst := run_storeCells_at (P := cx.P) g 0 c.e (madeCells z.cells (c.xs.length * c.t.cells)).toList 0 cur w hh (by simpa using hfit) (repL_one hmade)
   simp only [Nat.add_zero, List.take_zero, List.nil_append, Nat.zero_add] at hst
   by_cases h0 : c.xs.length = 0
   ·have hxs : c.xs = [] := List.eq_nil_of_length_eq_zero h0
    refine exec_skip hd (w' := w) (v := .tuple #[]) ?_ (hK _ _ ⟨m, ?_⟩)
    ·have hn2 : m r = .slice (some ⟨g, 0, none⟩) 0 cap := by rw [hn, h0]
     simp [execOp, hop, resolve, invoke, builtin, Builtin.clear_, hval, hn2, run_underlying hu]
    ·have e2 : (⟨c.e, c.t, List.replicate c.xs.length (zeroEl c.t)⟩ : RowC) = c := by rw [hxs]; obtain ⟨ce, ct, cxs⟩ := c; simp only at hxs; subst hxs; rfl
     rw [e2]
     obtain ⟨cells2, q1, q2, q3⟩ := hm.rows r c hcm
     exact hm.setRow hcm ⟨⟨rfl, rfl, rfl, Nat.le_refl _, fun _ => Nat.le_refl _⟩, fun _ _ _ => rfl⟩ q1 (zab (fun _ _ => rep_ext (fun _ _ _ => rfl) (fun _ _ hh => mut_mono (fun i hi => ((setRow_ids hcm hm.keys c).1 i).1 hi) hh) c.t) q3)
   ·refine exec_skip hd (v := .tuple #[]) ?_ (hK _ _ ⟨m, hover⟩)
    have hsl : m r = .slice (some ⟨g, 0, none⟩) c.xs.length cap := hn
    have hrun : (Builtin.clear_ #[t] o.type #[m r]).run cx.P w = .ok (.tuple #[]) (w.setRow g ((madeCells z.cells (c.xs.length * c.t.cells)).toList ++ cur.toList.drop (madeCells z.cells (c.xs.length * c.t.cells)).toList.length).toArray) := by
     rw [hsl]
     obtain ⟨k, hk⟩ : ∃ k, c.xs.length = k + 1 := ⟨c.xs.length - 1, by omega⟩
     rw [hk] at hst hzc ⊢
     simp only [Builtin.clear_, List.getElem?_toArray, List.getElem?_cons_zero, Sem.run_bind, run_underlying hu, Result.andThen_ok, hzv w, hzc, hst, Sem.run_pure]
    simp only [execOp, hop, resolve, invoke, builtin, Sem.run_bind, Sem.run_pure, Result.andThen_ok, List.map_toArray, List.map_cons, List.map_nil, hval, hrun]
 ·rename_i args ts hop
  split at hev
  case h_2 => cases hev
  rename_i x t d ha hts hd
  have ea : args = #[x] := by rw [<- Array.toArray_toList (xs := args), ha]
  have et : ts = #[t] := by rw [<- Array.toArray_toList (xs := ts), hts]
  subst ea
  subst et
  split at hev
  ·rename_i n u hx ht hdn
   cases hev
   rw [<- hE.P] at ht
   obtain ⟨i, _, _, te, _, hf, _⟩ := zav ht
   obtain ⟨a, k, cap, e1, e2⟩ := za6 hm hx
   refine fin d (.int .i64 n) w m _ (.val (.int .i64) n) hd hdn ?_ hm (za0.2 rfl) rfl
   rw [<- e2]
   simp [execOp, hop, resolve, invoke, builtin, Builtin.len_, e1, run_underlying hf, goInt]
  ·rename_i b u hx ht hdn
   split at hev
   case h_2 => cases hev
   rename_i e k xs hb
   cases hev
   rw [<- hE.P] at ht
   obtain ⟨i, _, _, te, _, hf, _⟩ := zav ht
   obtain ⟨g, cap, us, us', cur, e1, _⟩ := hm.o2 hb
   obtain ⟨us2, e2⟩ := za6 hm hx
   rw [e1] at e2
   have e3 : Act.eval ⟨T, []⟩ x = .slice (some ⟨g, 0, none⟩) xs.length cap := by
    simp only [Value.tuple.injEq, Array.mk.injEq, List.cons.injEq] at e2
    exact e2.1.symm
   refine fin d (.int .i64 (xs.length : Int)) w m _ (.val (.int .i64) _) hd hdn ?_ hm (za0.2 rfl) rfl
   simp [execOp, hop, resolve, invoke, builtin, Builtin.len_, e3, run_underlying hf, goInt]
  ·cases hev
 ·rename_i args _ hop
  split at hev
  case h_2 => cases hev
  rename_i x y z d ha hd
  split at hev
  case h_2 => cases hev
  rename_i k a k' b k'' c hx hy hz hdn
  cases hk : kbeq k k' && kbeq k k'' with
  | false => rw [hk] at hev; cases hev
  | true =>
  rw [hk] at hev
  cases hev
  rw [Bool.and_eq_true] at hk
  obtain rfl := keq hk.1
  obtain rfl := keq hk.2
  have ea : args = #[x, y, z] := by rw [<- Array.toArray_toList (xs := args), ha]
  subst ea
  have e1 := za0.1 (za7 hm hx)
  have e2 := za0.1 (za7 hm hy)
  have e3 := za0.1 (za7 hm hz)
  refine fin d (.int k (mnI (mnI a b) c)) w m _ (.val (.int k) _) hd hdn ?_ hm (za0.2 rfl) rfl
  simp [execOp, hop, resolve, invoke, builtin, Builtin.min_, e1, e2, e3, Builtin.min2, mnI]
  rfl
 ·rename_i hop
  split at hev
  case h_2 => cases hev
  rename_i d k v hd ht
  split at hev
  case h_2 => cases hev
  rename_i hdn
  cases hev
  exact fin d (.map none) w m _ (.val (.map k v) none) hd hdn (by simp [execOp, hop, Act.eval]) hm ((za3 (t := .map k v) rfl).2 rfl) rfl
 ·rename_i hop
  split at hev
  case h_2 => cases hev
  rename_i d k v hd ht
  split at hev
  case h_2 => cases hev
  rename_i hdn
  cases hev
  exact fin d (.map none) w m _ (.val (.map k v) none) hd hdn (by simp [execOp, hop, Act.eval]) hm ((za3 (t := .map k v) rfl).2 rfl) rfl
 ·rename_i t parts hop
  split at hev
  case h_2 => cases hev
  rename_i d u i hd hu hi
  split at hev
  case h_2 => cases hev
  rename_i z hz hst
  split at hev
  case h_2 => cases hev
  rename_i l hzs hput
  cases hev
  rw [Bool.and_eq_true] at hst
  rw [<- hE.P] at hu hi hput
  have hzs := Nat.eq_of_beq_eq_true hzs
  obtain ⟨i', hi', hsz, hf⟩ := zav hu
  have hstruct : ∃ fs d', cx.P.underlying t = some (.struct fs) /\ fieldsOf (tyOf cx.P d') 0 fs.toList = some u := by
   cases u <;> first | exact hf | (simp [Ty.isSt] at hst)
  obtain ⟨fs, d', hfs, hfo⟩ := hstruct
  obtain ⟨cs', hfill, hrep⟩ := saPut_sound hfs hm (place := fun k => (fs.map fun f => (f.offset, cx.P.cellsOf f.type))[k]?) (fun k off fu hfi => by
   obtain ⟨fs2, fd, h1, h2, h3, h4, h5⟩ := fieldInfo_facts hfi
   have : fs2 = fs := by rw [hfs] at h1; cases h1; rfl
   subst this
   obtain ⟨i3, hi3, hs3, _⟩ := zav h3
   rw [Array.getElem?_map, h2]
   simp [h4, Program.cellsOf, hi3, hs3]) parts.toList _ l z.cells.toList (by rw [<- Array.length_toList]; exact repTRs_any _) hput
  refine fin d (.agg cs'.toArray) w m _ (.sa l) hd hst.2 (zbk (s := Instr.build t (parts.map fun p => (p.1, Act.eval ⟨T, []⟩ p.2))) (by simp only [execOp, hop]) ?_) hm ⟨cs', rfl, hrep⟩ rfl
  refine run_build w t _ _ ?_
  unfold Program.built
  simp only [hi, hfs, hz, places_of fs.toList (fun f hf => fieldsOf_size hfo f hf)]
  rw [Array.toList_map]
  rw [Array.toArray_toList] at hfill
  rw [<- hfill]
  congr 1
  funext k
  simp
 ·rename_i t x hop
  split at hev
  case h_2 => cases hev
  rename_i d l hd hx
  split at hev
  case h_2 => cases hev
  rename_i hdn
  cases hev
  have hlt : d < cx.n := by rw [hE.n]; exact zax hdn
  obtain ⟨vs, e1, hr⟩ := za6 hm hx
  have hnew := new_box hm hlt (cells := vs.toArray) (e := t) (l := l.map (TR.sv st)) (trSV_rep hm hr)
  refine fin d _ _ _ _ (.ptr d 0) hd hdn (zbk (s := Instr.box t (Act.eval ⟨T, []⟩ x)) (by simp only [execOp, hop]) ?_) hnew ⟨w.heap.size, zam _ _ _, rfl⟩ rfl
  rw [e1]
  simp [Instr.box, newVar, newRow, Value.cells]
 ·cases hev
def evOb (E : Env) (st : St) (o : Oper) (orc : List TV) : Option (St × List TV × List Prop) :=
 match hdstep E st o orc with
 | some r => some r
 | none => match evO2 E st o orc with
  | some r => some r
  | none => o3step E st o orc
theorem evOb_sound {E : Env} (hE : EnvOK E cx) (h : R cx st T w) {o : Oper} {orc : List TV} {st' : St} {orc' : List TV} {ob : List Prop} (hev : evOb E st o orc = some (st', orc', ob)) (hob : allP ob)
  {K : Act -> World -> Prop} {Q : Exit -> Act -> World -> Prop} (hK : ∀ T' w', R cx st' T' w' -> K ⟨T', []⟩ w') : o.wp cx.P ⟨T, []⟩ w K Q := by
 unfold evOb at hev
 split at hev
 ·rename_i r hr
  cases hev
  exact hdstep_sound hE h hr hob hK
 ·split at hev
  ·rename_i r hr
   cases hev
   exact evO2_sound hE h hr hob hK
  ·exact o3step_sound hE h hev hob hK
end Go.Ev
namespace Go.Ev
open Go Go.RowKit
variable [Dr]
variable {cx : Cx} {m m' : Nat -> Value} {st st' : St} {T : Array Value} {w w' : World}
def memN (i : Nat) (l : List Nat) : Bool := l.any (Nat.beq i)
theorem memN_iff {i : Nat} {l : List Nat} : memN i l = true ↔ i ∈ l := by
 unfold memN
 rw [List.any_eq_true]
 exact ⟨fun ⟨x, hx, e⟩ => by rw [Nat.eq_of_beq_eq_true e]; exact hx, fun h => ⟨i, h, Nat.beq_refl i⟩⟩
def outOf {α : Type} (ks : List Nat) (l : List (Nat × α)) : List (Nat × α) := l.filter fun p => !(memN p.1 ks)
theorem mem_outOf {α : Type} {ks : List Nat} {l : List (Nat × α)} {p : Nat × α} : p ∈ outOf ks l ↔ p ∈ l /\ p.1 ∉ ks := by
 unfold outOf
 rw [List.mem_filter, Bool.not_eq_true', <- memN_iff]
 exact ⟨fun ⟨a, b⟩ => ⟨a, by rw [b]; decide⟩, fun ⟨a, b⟩ => ⟨a, by cases h : memN p.1 ks with | true => exact absurd h b | false => rfl⟩⟩
def St.exch (st : St) (D : List Nat) (NB : List (Nat × BX)) (NR : List (Nat × RowC)) (f : SV -> SV) : St :=
 {sl := st.sl.map fun p => (p.1, f p.2), bx := NB ++ (outOf D st.bx).map fun p => (p.1, p.2.map f), rw := NR ++ outOf D st.rw }
theorem exch_ids {D : List Nat} {NB : List (Nat × BX)} {NR : List (Nat × RowC)} {f : SV -> SV} {i : Nat} : i ∈ (st.exch D NB NR f).ids ↔ (i ∈ NB.map (·.1) \/ i ∈ NR.map (·.1)) \/ (i ∈ st.ids /\ i ∉ D) := by
 simp only [St.ids, St.exch, List.map_append, List.mem_append, List.map_map, Function.comp_def]
 have e1 : ∀ {α : Type} {l : List (Nat × α)}, i ∈ (outOf D l).map (·.1) ↔ i ∈ l.map (·.1) /\ i ∉ D := by
  intro α l
  rw [List.mem_map, List.mem_map]
  constructor
  ·rintro ⟨p, hp, rfl⟩; obtain ⟨a, b⟩ := mem_outOf.1 hp; exact ⟨⟨p, a, rfl⟩, b⟩
  ·rintro ⟨⟨p, hp, rfl⟩, hn⟩; exact ⟨p, mem_outOf.2 ⟨hp, hn⟩, rfl⟩
 have e2 : i ∈ List.map (fun x : Nat × BX => x.fst) (outOf D st.bx) ↔ i ∈ st.bx.map (·.1) /\ i ∉ D := e1
 have e3 : i ∈ List.map (fun x : Nat × RowC => x.fst) (outOf D st.rw) ↔ i ∈ st.rw.map (·.1) /\ i ∉ D := e1
 rw [e2, e3]
 constructor
 ·rintro ((h | h) | (h | h))
  ·exact .inl (.inl h)
  ·exact .inr ⟨.inl h.1, h.2⟩
  ·exact .inl (.inr h)
  ·exact .inr ⟨.inr h.1, h.2⟩
 ·rintro ((h | h) | ⟨h | h, hn⟩)
  ·exact .inl (.inl h)
  ·exact .inr (.inl h)
  ·exact .inl (.inr ⟨h, hn⟩)
  ·exact .inr (.inr ⟨h, hn⟩)
structure Exch (cx : Cx) (m m' : Nat -> Value) (st : St) (w w' : World) (D : List Nat) (NB : List (Nat × BX)) (NR : List (Nat × RowC)) : Prop where
 same : Same w w'
 block : ∀ g, g < w.heap.size -> (∀ j, j ∈ D -> j ∈ st.ids -> ¬ own (m j) g) -> w'.heap[g]? = w.heap[g]?
 old : ∀ i, i ∈ st.ids -> i ∉ D -> m' i = m i
 new : ∀ i, i ∈ NB.map (·.1) \/ i ∈ NR.map (·.1) -> ∀ g, own (m' i) g -> (∃ j, j ∈ D /\ j ∈ st.ids /\ own (m j) g) \/ (w.heap.size <= g /\ g < w'.heap.size)
 apart : ∀ i j, i ∈ NB.map (·.1) \/ i ∈ NR.map (·.1) -> j ∈ NB.map (·.1) \/ j ∈ NR.map (·.1) -> i ≠ j -> ∀ g, own (m' i) g -> ¬ own (m' j) g
 keys : (NB.map (·.1) ++ NR.map (·.1)).Nodup
 disj : ∀ i, i ∈ NB.map (·.1) \/ i ∈ NR.map (·.1) -> i ∈ st.ids -> i ∈ D
 bn : ∀ b c, (b, c) ∈ NB -> c.one = true -> b < cx.n
 rn : ∀ r c, (r, c) ∈ NR -> r < cx.n
theorem Exch.keeps {D : List Nat} {NB : List (Nat × BX)} {NR : List (Nat × RowC)} (X : Exch cx m m' st w w' D NB NR) : ∀ b, b < w.heap.size -> ¬ Mut cx m st.ids b -> w'.heap[b]? = w.heap[b]? :=
 fun b hb hm => X.block b hb fun j _ hj hg => hm (.inr ⟨j, hj, hg⟩)
theorem Exch.mut {D : List Nat} {NB : List (Nat × BX)} {NR : List (Nat × RowC)} {f : SV -> SV} (X : Exch cx m m' st w w' D NB NR) : ∀ b, b < w.heap.size -> Mut cx m' (st.exch D NB NR f).ids b -> Mut cx m st.ids b := by
 rintro b hb (hA | ⟨i, hi, hg⟩)
 ·exact .inl hA
 ·rcases exch_ids.1 hi with hi | ⟨hi, hn⟩
  ·rcases X.new i hi b hg with ⟨j, _, hj, hgj⟩ | ⟨h1, _⟩
   ·exact .inr ⟨j, hj, hgj⟩
   ·omega
  ·rw [X.old i hi hn] at hg
   exact .inr ⟨i, hi, hg⟩
theorem Rm.exchM (h : Rm cx m st T w) {D : List Nat} {NB : List (Nat × BX)} {NR : List (Nat × RowC)} {f : SV -> SV} (X : Exch cx m m' st w w' D NB NR)
  (hf : ∀ v s, repS w' (Mut cx m' (st.exch D NB NR f).ids) m v s -> repS w' (Mut cx m' (st.exch D NB NR f).ids) m' v (f s))
  (hB : ∀ b c, (b, c) ∈ NB -> ∃ g, isM (m' b) g c /\ objOK w' (Mut cx m' (st.exch D NB NR f).ids) m' (m' b) g c)
  (hR : ∀ r c, (r, c) ∈ NR -> ∃ cells, w'.ownsRow 0 c.e c.t.cells (m' r) c.xs.length cells /\ repL (rep w' (Mut cx m' (st.exch D NB NR f).ids) c.t) cells c.xs) : Rm cx m' (st.exch D NB NR f) T w' := by
 have kw := X.keeps
 have km := X.mut (f := f)
 have hs : ∀ v s, repS w (Mut cx m st.ids) m v s -> repS w' (Mut cx m' (st.exch D NB NR f).ids) m' v (f s) := fun v s hv => hf v s (zap kw km hv)
 have far : ∀ j, j ∈ st.ids -> j ∉ D -> ∀ g, own (m j) g -> w'.heap[g]? = w.heap[g]? := fun j hj hn g hg => X.block g (h.lt hj hg).1 fun i hi hii hgi => h.apart i j hii hj (fun e => hn (e ▸ hi)) g hgi hg
 have newOK : ∀ i, i ∈ NB.map (·.1) \/ i ∈ NR.map (·.1) -> ∀ g, own (m' i) g -> cx.w0.heap.size <= g \/ cx.X g := fun i hi g hg => by
  rcases X.new i hi g hg with ⟨j, _, hj, hgj⟩ | ⟨h1, _⟩
  ·exact (h.lt hj hgj).2
  ·exact .inl (Nat.le_trans h.frame.size h1)
 have inB : ∀ {b c}, (b, c) ∈ NB -> b ∈ NB.map (·.1) \/ b ∈ NR.map (·.1) := fun hb => .inl (List.mem_map.2 ⟨_, hb, rfl⟩)
 have inR : ∀ {b c}, (b, c) ∈ NR -> b ∈ NB.map (·.1) \/ b ∈ NR.map (·.1) := fun hb => .inr (List.mem_map.2 ⟨_, hb, rfl⟩)
 have idB : ∀ {b c}, (b, c) ∈ st.bx -> b ∈ st.ids := fun hb => List.mem_append.2 (.inl (List.mem_map.2 ⟨_, hb, rfl⟩))
 have idR : ∀ {b c}, (b, c) ∈ st.rw -> b ∈ st.ids := fun hb => List.mem_append.2 (.inr (List.mem_map.2 ⟨_, hb, rfl⟩))
 refine { size := h.size, frame := ?_, outer := h.outer, slots := ?_, boxes := ?_, rows := ?_, apart := ?_, keys := ?_, fixed := ?_, kept := ?_ }
 ·refine h.frame.step X.same fun b hb hX => X.block b (Nat.lt_of_lt_of_le hb h.frame.size) fun j _ hj hg => ?_
  rcases (h.lt hj hg).2 with h3 | h3
  ·omega
  ·exact hX h3
 ·intro i sv hi
  obtain ⟨⟨j, s⟩, hp, he⟩ := List.mem_map.1 hi
  cases he
  obtain ⟨v, a1, a2⟩ := h.slots j s hp
  exact ⟨v, a1, hs v s a2⟩
 ·intro b c hb
  rcases List.mem_append.1 hb with hb | hb
  ·obtain ⟨g, a1, a2⟩ := hB b c hb
   exact ⟨g, a1, newOK b (inB hb), a2⟩
  ·obtain ⟨⟨j, s⟩, hp, he⟩ := List.mem_map.1 hb
   cases he
   obtain ⟨hp, hn⟩ := mem_outOf.1 hp
   obtain ⟨g, e1, e2, e3⟩ := h.boxes j s hp
   rw [X.old j (idB hp) hn]
   exact ⟨g, isM_map.2 e1, e2, zaq kw km (isM_own e1) (far j (idB hp) hn) hs e3⟩
 ·intro r c hr
  rcases List.mem_append.1 hr with hr | hr
  ·obtain ⟨cells, a1, a2⟩ := hR r c hr
   exact ⟨cells, a1, newOK r (inR hr), a2⟩
  ·obtain ⟨hp, hn⟩ := mem_outOf.1 hr
   obtain ⟨cells, e1, e2, e3⟩ := h.rows r c hp
   rw [X.old r (idR hp) hn]
   exact ⟨cells, ownsRow_same e1 fun b hb => far r (idR hp) hn b (zal hb), e2, zab (fun _ _ => rep_ext kw km c.t) e3⟩
 ·intro i j hi hj hne g hg hg'
  rcases exch_ids.1 hi with hi | ⟨hi, hni⟩
  ·rcases exch_ids.1 hj with hj | ⟨hj, hnj⟩
   ·exact X.apart i j hi hj hne g hg hg'
   ·rw [X.old j hj hnj] at hg'
    rcases X.new i hi g hg with ⟨k, hk, hki, hgk⟩ | ⟨h1, _⟩
    ·exact h.apart k j hki hj (fun e => hnj (e ▸ hk)) g hgk hg'
    ·have := (h.lt hj hg').1; omega
  ·rw [X.old i hi hni] at hg
   rcases exch_ids.1 hj with hj | ⟨hj, hnj⟩
   ·rcases X.new j hj g hg' with ⟨k, hk, hki, hgk⟩ | ⟨h1, _⟩
    ·exact h.apart k i hki hi (fun e => hni (e ▸ hk)) g hgk hg
    ·have := (h.lt hi hg).1; omega
   ·rw [X.old j hj hnj] at hg'
    exact h.apart i j hi hj hne g hg hg'
 ·have hfil : ∀ {α : Type} {l : List (Nat × α)}, (outOf D l).map (·.1) = (l.map (·.1)).filter fun k => !(memN k D) := by
   intro α l
   induction l with
   | nil => rfl
   | cons p r ih =>
    unfold outOf at ih ⊢
    cases hb : memN p.1 D <;> simp [hb, ih]
  show ((NB ++ (outOf D st.bx).map fun p => (p.1, p.2.map f)).map (·.1) ++ (NR ++ outOf D st.rw).map (·.1)).Nodup
  have e1 : (NB ++ (outOf D st.bx).map fun p => (p.1, p.2.map f)).map (·.1) = NB.map (·.1) ++ (st.bx.map (·.1)).filter fun k => !(memN k D) := by
   rw [<- hfil]; simp [List.map_map, Function.comp_def]
  have e2 : (NR ++ outOf D st.rw).map (·.1) = NR.map (·.1) ++ (st.rw.map (·.1)).filter fun k => !(memN k D) := by rw [<- hfil]; simp
  rw [e1, e2]
  have e3 : (st.bx.map (·.1)).filter (fun k => !(memN k D)) ++ (st.rw.map (·.1)).filter (fun k => !(memN k D)) = st.ids.filter fun k => !(memN k D) := by simp [St.ids]
  have hperm : List.Perm (NB.map (·.1) ++ (st.bx.map (·.1)).filter (fun k => !(memN k D)) ++ (NR.map (·.1) ++ (st.rw.map (·.1)).filter fun k => !(memN k D)))
    ((NB.map (·.1) ++ NR.map (·.1)) ++ st.ids.filter fun k => !(memN k D)) := by
   rw [<- e3]
   simp only [List.append_assoc]
   refine List.Perm.append_left _ ?_
   rw [<- List.append_assoc, <- List.append_assoc]
   exact List.Perm.append_right _ List.perm_append_comm
  rw [hperm.nodup_iff, List.nodup_append]
  refine ⟨X.keys, h.keys.filter _, fun a ha b hb e => ?_⟩
  subst e
  obtain ⟨h1, h2⟩ := List.mem_filter.1 hb
  have := X.disj a (List.mem_append.1 ha) h1
  rw [memN_iff.2 this] at h2
  cases h2
 ·intro b c hb h1' hle
  rcases List.mem_append.1 hb with hb | hb
  ·have := X.bn b c hb h1'; omega
  ·obtain ⟨⟨j, s⟩, hp, he⟩ := List.mem_map.1 hb
   cases he
   obtain ⟨hp, hn⟩ := mem_outOf.1 hp
   rw [X.old j (idB hp) hn]
   exact h.fixed j s hp (one_map.symm.trans h1') hle
 ·intro r c hr hle hk
  rcases List.mem_append.1 hr with hr | hr
  ·have := X.rn r c hr; omega
  ·obtain ⟨hp, hn⟩ := mem_outOf.1 hr
   rw [X.old r (idR hp) hn]
   exact h.kept r c hp hle hk
/-! One element of such a slice. -/
theorem Rm.exch (h : Rm cx m st T w) {D : List Nat} {NB : List (Nat × BX)} {NR : List (Nat × RowC)} {f : SV -> SV} (X : Exch cx m m' st w w' D NB NR)
  (hf : ∀ M v s, repS w' M m v s -> repS w' M m' v (f s))
  (hB : ∀ b c, (b, c) ∈ NB -> ∃ g, isM (m' b) g c /\ objOK w' (Mut cx m' (st.exch D NB NR f).ids) m' (m' b) g c)
  (hR : ∀ r c, (r, c) ∈ NR -> ∃ cells, w'.ownsRow 0 c.e c.t.cells (m' r) c.xs.length cells /\ repL (rep w' (Mut cx m' (st.exch D NB NR f).ids) c.t) cells c.xs) : Rm cx m' (st.exch D NB NR f) T w' :=
 h.exchM X (hf _) hB hR
theorem rrIn_len {M : Nat -> Prop} {k : RK} {h : Option Int} : ∀ {xs : List k.u.el} {n : Nat} {cs us : List Value}, rrIn w M k h n xs cs us -> us.length = xs.length /\ cs.length = xs.length * k.u.cells
 | [], _, _, _, ⟨h1, h2⟩ => by rw [h1, h2]; exact ⟨rfl, by simp⟩
 | x :: xs, n, cs, us, ⟨c, d, v, vs, e1, e2, e3, _, e5⟩ => by
  obtain ⟨a, b⟩ := rrIn_len e5
  rw [e1, e3]
  refine ⟨by simp [a], ?_⟩
  rw [List.length_append, e2, b, List.length_cons, Nat.succ_mul, Nat.add_comm]
theorem rrIn_get {M : Nat -> Prop} {k : RK} {h : Option Int} : ∀ {xs : List k.u.el} {n i : Nat} {x : k.u.el} {cs us : List Value}, rrIn w M k h n xs cs us -> xs[i]? = some x ->
  ∃ c1 c c2 u1 v u2, cs = c1 ++ c ++ c2 /\ c1.length = i * k.u.cells /\ c.length = k.u.cells /\ us = u1 ++ v :: u2 /\ u1.length = i /\ elR w M k (isOut h (n + i)) c v x /\
   ∀ {w' : World} {M' : Nat -> Prop} {h' : Option Int} {x' : k.u.el} {c' : List Value} {v' : Value}, (∀ b, b < w.heap.size -> ¬ M b -> w'.heap[b]? = w.heap[b]?) -> (∀ b, b < w.heap.size -> M' b -> M b) -> (∀ j, j ≠ n + i -> (isOut h j ↔ isOut h' j)) ->
    (∀ u, u ∈ u1 \/ u ∈ u2 -> ∀ b, blk u = some b -> w'.heap[b]? = w.heap[b]?) -> c'.length = k.u.cells -> elR w' M' k (isOut h' (n + i)) c' v' x' -> rrIn w' M' k h' n (xs.set i x') (c1 ++ c' ++ c2) (u1 ++ v' :: u2)
 | [], _, _, _, _, _, _, hx => by simp at hx
 | y :: xs, n, 0, x, cs, us, ⟨c, d, v, vs, e1, e2, e3, e4, e5⟩, hx => by
  simp at hx
  subst hx
  subst e1
  subst e3
  refine ⟨[], c, d, [], v, vs, rfl, by simp, e2, rfl, rfl, e4, fun {w' M' h' x' c' v'} hw hM ho hh hc he => ?_⟩
  exact ⟨c', d, v', vs, by simp, hc, rfl, he, rrIn_map hw hM (fun m hm => ho m (by omega)) (fun u hu => hh u (.inr hu)) e5⟩
 | y :: xs, n, i + 1, x, cs, us, ⟨c, d, v, vs, e1, e2, e3, e4, e5⟩, hx => by
  subst e1
  subst e3
  obtain ⟨c1, c0, c2, u1, v0, u2, a1, a2, a3, a4, a5, a6, a7⟩ := rrIn_get (i := i) e5 (by simpa using hx)
  subst a1
  subst a4
  have ea : n + 1 + i = n + (i + 1) := by omega
  rw [ea] at a6 a7
  refine ⟨c ++ c1, c0, c2, v :: u1, v0, u2, by simp, by rw [List.length_append, e2, a2, Nat.succ_mul, Nat.add_comm], a3, by simp, by simp [a5], a6, fun {w' M' h' x' c' v'} hw hM ho hh hc he => ?_⟩
  refine ⟨c, c1 ++ c' ++ c2, v, u1 ++ v' :: u2, by simp, e2, by simp, elR_map hw hM (ho n (by omega)) (hh v (.inl List.mem_cons_self)) e4, ?_⟩
  exact a7 hw hM ho (fun u hu => hh u (hu.elim (fun h => .inl (List.mem_cons_of_mem _ h)) .inr)) hc he
theorem Rm.rr (h : Rm cx m st T w) {b e : Nat} {k : RK} {xs : List k.u.el} {hh : Option Int} (hb : look st.bx b = some (.rr e k xs hh)) :
  ∃ hd us cells, m b = .tuple (hd :: us).toArray /\ w.ownsRow 0 e k.u.cells hd xs.length cells /\ rrIn w (Mut cx m st.ids) k hh 0 xs cells us /\ ((hd :: us).filterMap blk).Nodup := by
 obtain ⟨g, _, _, hd, us, cells, h1, h2, h3, h4⟩ := h.boxes b _ (zak hb)
 exact ⟨hd, us, cells, h1, h2, h3, h4⟩
theorem own_hd {r : Value} {us : List Value} {g : Nat} : own (.tuple (r :: us).toArray) g ↔ g ∈ (r :: us).filterMap blk := by
 rw [own_tup, List.mem_filterMap]
 constructor
 ·rintro (h | ⟨u, hu, h⟩)
  ·exact ⟨r, List.mem_cons_self, h⟩
  ·exact ⟨u, List.mem_cons_of_mem _ hu, h⟩
 ·rintro ⟨u, hu, h⟩
  rcases List.mem_cons.1 hu with rfl | hu
  ·exact .inl h
  ·exact .inr ⟨u, hu, h⟩
theorem ownsRow_some {e sz n : Nat} {v : Value} {cells : List Value} (h : w.ownsRow 0 e sz v n cells) (hn : 0 < n) : ∃ g cap cur, v = .slice (some ⟨g, 0, none⟩) n cap /\ w.heap[g]? = some (.cells cur e (0, 0)) /\ n <= cap /\ cap <= maxLen /\ cur.size = cap * sz /\ cur.toList.take (n * sz) = cells := by
 rcases h.2 with ⟨_, hz⟩ | ⟨g, cap, cur, hv, _, hh, h1, h2, h3, h4⟩
 ·omega
 ·exact ⟨g, cap, cur, hv, hh, h1, h2, h3, h4⟩
def SV.scrubL (D : List Nat) (s : SV) : SV := bif D.any (fun r => s.refs r) then .any else s
theorem scrubL_none {D : List Nat} {s : SV} (h : D.any (fun r => s.refs r) = false) {b : Nat} (hb : s.refs b = true) : b ∉ D := by
 intro hd
 have := List.any_eq_false.1 h b hd
 exact this hb
theorem repTRs_mm {M : Nat -> Prop} {m2 : Nat -> Value} : ∀ {vs : List Value} {l : List TR}, (∀ b, l.any (TR.is b) = true -> m2 b = m b) -> repTRs w M m vs l -> repTRs w M m2 vs l
 | [], [], _, _ => trivial
 | [], _ :: _, _, h => h.elim
 | _ :: _, [], _, h => h.elim
 | _ :: _, .v _ :: _, hb, ⟨h1, h2⟩ => ⟨h1, repTRs_mm (fun b hh => hb b (by rw [List.any_cons, hh, Bool.or_true])) h2⟩
 | _ :: vs, .a :: us, hb, h => repTRs_mm (vs := vs) (l := us) (fun b hh => hb b (by rw [List.any_cons, hh, Bool.or_true])) h
 | _ :: _, .r c :: _, hb, ⟨h1, h2⟩ => ⟨by rw [hb c (by rw [List.any_cons]; show (Nat.beq c c || _) = true; rw [Nat.beq_refl, Bool.true_or])]; exact h1, repTRs_mm (fun b hh => hb b (by rw [List.any_cons, hh, Bool.or_true])) h2⟩
theorem scrubL_rep {M : Nat -> Prop} {m2 : Nat -> Value} {D : List Nat} (hm : ∀ b, b ∉ D -> m2 b = m b) {v : Value} {s : SV} (h : repS w M m v s) : repS w M m2 v (s.scrubL D) := by
 unfold SV.scrubL
 cases hd : D.any (fun r => s.refs r) with
 | true => trivial
 | false =>
  have key : ∀ b, s.refs b = true -> m2 b = m b := fun b hb => hm b (scrubL_none hd hb)
  show repS w M m2 v s
  cases s with
  | any => trivial
  | undef => exact h
  | val t x => exact h
  | tup l => exact h
  | vptr t x => exact h
  | ptr b off => obtain ⟨g, h1, h2⟩ := h; exact ⟨g, by rw [key b (Nat.beq_refl b)]; exact h1, h2⟩
  | selfp b => show _ \/ v = m2 b; rw [key b (Nat.beq_refl b)]; exact h
  | row b => show v = m2 b; rw [key b (Nat.beq_refl b)]; exact h
  | rptr b i off sz => obtain ⟨g, n, cap, h1, h2⟩ := h; exact ⟨g, n, cap, by rw [key b (Nat.beq_refl b)]; exact h1, h2⟩
  | iter b => show v = m2 b; rw [key b (Nat.beq_refl b)]; exact h
  | bp b p => obtain ⟨g, h1, h2⟩ := h; exact ⟨g, by rw [key b (Nat.beq_refl b)]; exact h1, h2⟩
  | osl b => obtain ⟨us, h1⟩ := h; exact ⟨us, by rw [key b (Nat.beq_refl b)]; exact h1⟩
  | optr b i => obtain ⟨g, n, cap, us, h1, h2⟩ := h; exact ⟨g, n, cap, us, by rw [key b (Nat.beq_refl b)]; exact h1, h2⟩
  | sub b i => obtain ⟨r', us, h1, h2⟩ := h; exact ⟨r', us, by rw [key b (Nat.beq_refl b)]; exact h1, h2⟩
  | clos f bs =>
   have e : bs.map m2 = bs.map m := List.map_congr_left fun b hb => key b (List.any_eq_true.2 ⟨b, hb, Nat.beq_refl b⟩)
   show v = _
   rw [e]
   exact h
  | tups l => obtain ⟨vs, e, hr⟩ := h; exact ⟨vs, e, repTRs_mm key hr⟩
  | sa l => obtain ⟨vs, e, hr⟩ := h; exact ⟨vs, e, repTRs_mm key hr⟩
  | hd n => exact h
  | bclos f b => show v = _; rw [key b (Nat.beq_refl b)]; exact h
  | rrp b i off sz => obtain ⟨g, n, cap, us, h1, h2⟩ := h; exact ⟨g, n, cap, us, by rw [key b (Nat.beq_refl b)]; exact h1, h2⟩
  | ssp b i j off sz => obtain ⟨r', us, g, n, cap, h1, h2⟩ := h; exact ⟨r', us, g, n, cap, by rw [key b (Nat.beq_refl b)]; exact h1, h2⟩
end Go.Ev
namespace Go.Ev
open Go Go.RowKit
variable [Dr]
variable {cx : Cx} {m m' : Nat -> Value} {st st' : St} {T : Array Value} {w w' : World}
def spl {α : Type} (l : List α) (off : Nat) (vc : List α) : List α := l.take off ++ vc ++ l.drop (off + vc.length)
theorem spl_len {α : Type} {l vc : List α} {off : Nat} (h : off + vc.length <= l.length) : (spl l off vc).length = l.length := by
 unfold spl
 simp only [List.length_append, List.length_take, List.length_drop]
 omega
theorem spl_get {α : Type} {l vc : List α} {off p : Nat} (h : off + vc.length <= l.length) (hp : p < off \/ off + vc.length <= p) : (spl l off vc)[p]? = l[p]? := by
 unfold spl
 rcases hp with hp | hp
 ·rw [List.append_assoc, List.getElem?_append_left (by rw [List.length_take]; omega), List.getElem?_take, if_pos hp]
 ·rw [List.getElem?_append_right (by simp only [List.length_append, List.length_take]; omega), List.getElem?_drop]
  congr 1
  simp only [List.length_append, List.length_take]
  omega
theorem spl_mid {α : Type} (a b c vc : List α) (h : vc.length = b.length) : spl (a ++ b ++ c) a.length vc = a ++ vc ++ c := by
 unfold spl
 rw [List.append_assoc a b c, List.take_left, h, <- List.append_assoc, <- List.length_append, List.drop_left]
theorem spl_set {α : Type} {l vc : List α} {off k : Nat} {a : α} (h : off + vc.length <= l.length) (hk : k < off \/ off + vc.length <= k) : spl (l.set k a) off vc = (spl l off vc).set k a := by
 refine List.ext_getElem? fun p => ?_
 rcases Nat.lt_or_ge p off with h1 | h1
 ·rw [spl_get (by simpa using h) (.inl h1), List.getElem?_set, List.getElem?_set, spl_get h (.inl h1), spl_len h]
 ·rcases Nat.lt_or_ge p (off + vc.length) with h2 | h2
  ·rw [List.getElem?_set_ne (by omega)]
   unfold spl
   rw [List.getElem?_append_left (by simp only [List.length_append, List.length_take, List.length_set]; omega), List.getElem?_append_right (by simp only [List.length_take, List.length_set]; omega),
    List.getElem?_append_left (by simp only [List.length_append, List.length_take]; omega), List.getElem?_append_right (by simp only [List.length_take]; omega)]
   simp only [List.length_take, List.length_set]
  ·rw [spl_get (by simpa using h) (.inr h2), List.getElem?_set, List.getElem?_set, spl_get h (.inr h2), spl_len h]
theorem Rm.rrAt (h : Rm cx m st T w) {b e i : Nat} {k : RK} {xs : List k.u.el} {hh : Option Int} {x : k.u.el} (hb : look st.bx b = some (.rr e k xs hh)) (hx : xs[i]? = some x) :
  ∃ g cap cur us c1 c c2 u1 v u2, m b = .tuple (.slice (some ⟨g, 0, none⟩) xs.length cap :: us).toArray /\ w.heap[g]? = some (.cells cur e (0, 0)) /\ xs.length <= cap /\ cap <= maxLen /\ cur.size = cap * k.u.cells /\
   cur.toList = c1 ++ c ++ (c2 ++ cur.toList.drop (xs.length * k.u.cells)) /\ c1.length = i * k.u.cells /\ c.length = k.u.cells /\ (c1 ++ c ++ c2).length = xs.length * k.u.cells /\ us = u1 ++ v :: u2 /\ u1.length = i /\ us.length = xs.length /\
   elR w (Mut cx m st.ids) k (isOut hh i) c v x /\ (g :: us.filterMap blk).Nodup /\
   ∀ {w' : World} {M' : Nat -> Prop} {h' : Option Int} {x' : k.u.el} {c' : List Value} {v' : Value}, (∀ b, b < w.heap.size -> ¬ Mut cx m st.ids b -> w'.heap[b]? = w.heap[b]?) -> (∀ b, b < w.heap.size -> M' b -> Mut cx m st.ids b) -> (∀ j, j ≠ i -> (isOut hh j ↔ isOut h' j)) ->
    (∀ u, u ∈ u1 \/ u ∈ u2 -> ∀ b, blk u = some b -> w'.heap[b]? = w.heap[b]?) -> c'.length = k.u.cells -> elR w' M' k (isOut h' i) c' v' x' -> rrIn w' M' k h' 0 (xs.set i x') (c1 ++ c' ++ c2) (u1 ++ v' :: u2) := by
 obtain ⟨hd, us, cells, e1, e2, e3, e4⟩ := h.rr hb
 have hlt : i < xs.length := (List.getElem?_eq_some_iff.1 hx).1
 obtain ⟨g, cap, cur, hv, hh', h1, h2, h3, h5⟩ := ownsRow_some e2 (by omega)
 obtain ⟨c1, c, c2, u1, v, u2, a1, a2, a3, a4, a5, a6, a7⟩ := rrIn_get e3 hx
 rw [Nat.zero_add] at a6 a7
 subst hv
 refine ⟨g, cap, cur, us, c1, c, c2, u1, v, u2, e1, hh', h1, h2, h3, ?_, a2, a3, by rw [<- a1]; exact e2.1, a4, a5, (rrIn_len e3).1, a6, by simpa [blk] using e4, a7⟩
 conv => lhs; rw [<- List.take_append_drop (xs.length * k.u.cells) cur.toList]
 rw [h5, a1]
 simp
theorem ownsRow_put {e sz n : Nat} {g cap : Nat} {cur : Array Value} {c1 c c' c2 rest : List Value} (hh : w.heap[g]? = some (.cells cur e (0, 0))) (h1 : n <= cap) (h2 : cap <= maxLen) (h3 : cur.size = cap * sz) (hc : cur.toList = c1 ++ c ++ (c2 ++ rest)) (hl : (c1 ++ c ++ c2).length = n * sz) (hcl : c'.length = c.length) :
  (w.setRow g (c1 ++ c' ++ (c2 ++ rest)).toArray).ownsRow 0 e sz (.slice (some ⟨g, 0, none⟩) n cap) n (c1 ++ c' ++ c2) := by
 have hl' : (c1 ++ c' ++ c2).length = n * sz := by rw [<- hl]; simp only [List.length_append, hcl]
 refine ⟨hl', .inr ⟨g, cap, _, rfl, Nat.zero_le _, setRow_heap _ _ _ _ _ _ hh, h1, h2, ?_, ?_⟩⟩
 ·rw [List.size_toArray, <- h3, <- Array.length_toList, hc]; simp only [List.length_append, hcl]
 ·have : c1 ++ c' ++ (c2 ++ rest) = (c1 ++ c' ++ c2) ++ rest := by simp
  rw [List.toList_toArray, this, <- hl', List.take_left]
theorem filt_at {u1 u2 : List Value} {v : Value} {g : Nat} (h : (g :: (u1 ++ v :: u2).filterMap blk).Nodup) : (∀ b, blk v = some b -> b ≠ g /\ ∀ u, u ∈ u1 \/ u ∈ u2 -> blk u ≠ some b) /\ ∀ u, u ∈ u1 \/ u ∈ u2 -> blk u ≠ some g := by
 obtain ⟨h1, h2⟩ := List.nodup_cons.1 h
 refine ⟨fun b hb => ⟨fun e => h1 (List.mem_filterMap.2 ⟨v, by simp, by rw [<- e]; exact hb⟩), fun u hu e => ?_⟩, fun u hu e => h1 (List.mem_filterMap.2 ⟨u, by rcases hu with hu | hu <;> simp [hu], e⟩)⟩
 rw [List.filterMap_append, List.filterMap_cons, hb] at h2
 simp only at h2
 rw [List.nodup_append] at h2
 rcases hu with hu | hu
 ·exact h2.2.2 b (List.mem_filterMap.2 ⟨u, hu, e⟩) b List.mem_cons_self rfl
 ·exact (List.nodup_cons.1 h2.2.1).1 (List.mem_filterMap.2 ⟨u, hu, e⟩)
abbrev lst {t : Ty} (x : (Ty.sl t).el) : List t.el := x
theorem filt_swap {u1 u2 : List Value} {v x : Value} {g : Nat} (h : (g :: (u1 ++ v :: u2).filterMap blk).Nodup) (hx : ∀ b, blk x = some b -> b ≠ g /\ ∀ u, u ∈ u1 \/ u ∈ u2 -> blk u ≠ some b) : (g :: (u1 ++ x :: u2).filterMap blk).Nodup := by
 obtain ⟨q1, q2⟩ := List.nodup_cons.1 h
 have hs : ((u1 ++ u2).filterMap blk).Sublist ((u1 ++ v :: u2).filterMap blk) := List.Sublist.filterMap _ (List.Sublist.append (List.Sublist.refl u1) (List.sublist_cons_self v u2))
 have k1 : g ∉ (u1 ++ u2).filterMap blk := fun hh => q1 (hs.subset hh)
 have k2 := q2.sublist hs
 rw [List.filterMap_append] at k1 k2
 rw [List.filterMap_append, List.filterMap_cons]
 cases hb : blk x with
 | none => exact List.nodup_cons.2 ⟨k1, k2⟩
 | some b =>
  obtain ⟨h1, h2⟩ := hx b hb
  rw [List.nodup_append] at k2
  refine List.nodup_cons.2 ⟨fun hh => ?_, ?_⟩
  ·rcases List.mem_append.1 hh with hh | hh
   ·exact k1 (List.mem_append.2 (.inl hh))
   ·rcases List.mem_cons.1 hh with hh | hh
    ·exact h1 hh.symm
    ·exact k1 (List.mem_append.2 (.inr hh))
  ·rw [List.nodup_append]
   refine ⟨k2.1, List.nodup_cons.2 ⟨fun hh => ?_, k2.2.1⟩, fun a ha a' ha' => ?_⟩
   ·obtain ⟨u, hu, hub⟩ := List.mem_filterMap.1 hh
    exact h2 u (.inr hu) hub
   ·rcases List.mem_cons.1 ha' with rfl | ha'
    ·rintro rfl
     obtain ⟨u, hu, hub⟩ := List.mem_filterMap.1 ha
     exact h2 u (.inl hu) hub
    ·exact k2.2.2 a ha a' ha'
def rrLoad (P : Program) (st : St) (t : TypeId) (x : Operand) (orc : List TV) : Option PR :=
 match getSV st x, ty P t with
 | some (.rrp b i off sz), some u' => match look st.bx b, orc with
  | some (.rr _ k xs none), a :: orc' => match a.as k.u, Nat.beq sz k.u.cells with
   | some x, true => match Nat.beq off k.off && u'.beq (.sl k.t) with
    | true => some ⟨.sub b i, orc', [at? xs i = some x]⟩
    | false => match setT k.u x k.off ⟨.sl k.t, []⟩, Nat.ble (off + u'.cells) k.off || Nat.blt k.off off, Nat.beq u'.cells 0 with
     | some x0, true, false => match getT k.u x0 off u' with
      | some y => some ⟨.val u' y, orc', [at? xs i = some x]⟩
      | none => none
     | _, _, _ => none
   | _, _ => none
  | _, _ => none
 | some (.ssp b i j off sz), some u' => match look st.bx b, orc with
  | some (.rr _ k xs none), a :: c :: orc' => match a.as k.u, c.as k.t, Nat.beq sz k.t.cells with
   | some x, some z, true => match getT k.u x k.off (.sl k.t), getT k.t z off u', Nat.beq u'.cells 0 with
    | some ys, some y, false => some ⟨.val u' y, orc', [at? xs i = some x, at? (lst ys) j = some z]⟩
    | _, _, _ => none
   | _, _, _ => none
  | _, _ => none
 | _, _ => none
theorem at?_get {α : Type} {xs : List α} {i : Int} {x : α} (h : at? xs i = some x) : xs[i.toNat]? = some x := (at?_some h).2.2
theorem elR_in {M : Nat -> Prop} {k : RK} {cs : List Value} {v : Value} {x : k.u.el} {n : Nat} (h : elR w M k (isOut none n) cs v x) : ∃ (ys : List k.t.el) (cells : List Value), getT k.u x k.off (.sl k.t) = some ys /\ w.ownsRow 0 k.e k.t.cells v ys.length cells /\ repL (rep w M k.t) cells ys /\ cs[k.off]? = some v := by
 obtain ⟨L, v1, x0, e1, e2, _, _, _, _, e7⟩ := h
 obtain ⟨rfl, ys, cells, h1, h2, h3⟩ := e7 fun ⟨_, h, _⟩ => by cases h
 refine ⟨ys, cells, h1, h2, h3, ?_⟩
 rw [e1, List.getElem?_set_self (List.getElem?_eq_some_iff.1 e2).1]
theorem rrLoad_sound (h : Rm cx m st T w) {t : TypeId} {x : Operand} {orc : List TV} {pr : PR} (hev : rrLoad cx.P st t x orc = some pr) (hob : allP pr.ob) :
  ∃ v, (∀ w', Ext w w' -> (Instr.loadAt t (Act.eval ⟨T, []⟩ x)).run cx.P w' = .ok v w') /\ repS w (Mut cx m st.ids) m v pr.sv := by
 unfold rrLoad at hev
 split at hev
 ·rename_i b i off sz u' hx ht
  obtain ⟨g2, n2, cap2, us2, a1, a2⟩ := za6 h hx
  split at hev
  case h_2 => cases hev
  rename_i e k xs a orc' hb
  split at hev
  case h_2 => cases hev
  rename_i x1 _ hsz
  have hsz := Nat.eq_of_beq_eq_true hsz
  have hla : ∀ g, g2 = g -> Instr.loadAt t (Act.eval ⟨T, []⟩ x) = loadVar t ⟨g, i.toNat * sz + off, none⟩ := by rintro g rfl; rw [a2]; rfl
  have key : ∀ {g cap us}, m b = .tuple (.slice (some ⟨g, 0, none⟩) xs.length cap :: us).toArray -> g2 = g := by
   intro g cap us e1
   rw [e1] at a1
   simp only [Value.tuple.injEq, Array.mk.injEq, List.cons.injEq, Value.slice.injEq, Option.some.injEq, Addr.mk.injEq] at a1
   exact a1.1.1.1.symm
  split at hev
  ·rename_i hq
   cases hev
   simp only [Bool.and_eq_true] at hq
   have hoff := Nat.eq_of_beq_eq_true hq.1
   obtain rfl := Ty.eq_of_beq hq.2
   obtain ⟨g, cap, cur, us, c1, c, c2, u1, v, u2, f1, f2, f3, f4, f5, f6, f7, f8, f9, f10, f11, f12, f13, f14, f15⟩ := h.rrAt hb (at?_get hob.1)
   obtain ⟨ys, cells, q1, q2, q3, q4⟩ := elR_in f13
   obtain ⟨v', hv1, hv2⟩ := load_raw (P := cx.P) (c := [v]) (off := i.toNat * sz + off) ht f2 (fun j u hj => by
    have hj0 : j = 0 := by have := (List.getElem?_eq_some_iff.1 hj).1; simpa using this
    subst hj0
    simp at hj
    subst hj
    rw [<- Array.getElem?_toList, f6, Nat.add_zero, hsz, hoff, <- f7, List.append_assoc, List.getElem?_append_right (by omega), Nat.add_sub_cancel_left, List.getElem?_append_left (by rw [<- hoff]; have := (List.getElem?_eq_some_iff.1 q4).1; omega)]
    exact q4) rfl (fun _ => Nat.zero_lt_one)
   simp [Ty.agg] at hv2
   subst hv2
   exact ⟨v, fun w2 he => by rw [hla g (key f1)]; exact hv1 w2 he, _, us, f1, by rw [f10, <- f11]; simp⟩
  ·split at hev
   case h_2 => cases hev
   rename_i x0 hx0 hdis hpos
   split at hev
   case h_2 => cases hev
   rename_i y hy
   cases hev
   obtain ⟨g, cap, cur, us, c1, c, c2, u1, v, u2, f1, f2, f3, f4, f5, f6, f7, f8, f9, f10, f11, f12, f13, f14, f15⟩ := h.rrAt hb (at?_get hob.1)
   obtain ⟨L, v1, x0', e1, e2, _, e4, e5, _, _⟩ := f13
   rw [hx0] at e4
   cases e4
   obtain ⟨d1, d2, d3, r1, r2, r3⟩ := getT_rep k.u e5 hy
   have hl2 := zag u' r3
   obtain ⟨v', hv1, hv2⟩ := load_raw (P := cx.P) (c := d2) (off := i.toNat * sz + off) ht f2 (fun j u hj => by
    have hj0 := (List.getElem?_eq_some_iff.1 hj).1
    have hL : L.length = k.u.cells := by rw [<- f8, e1, List.length_set]
    have hLl : L.length = d1.length + d2.length + d3.length := by rw [r1]; simp [Nat.add_assoc]
    rw [<- Array.getElem?_toList, f6, hsz, Nat.add_assoc, <- f7, List.append_assoc, List.getElem?_append_right (by omega), Nat.add_sub_cancel_left, List.getElem?_append_left (by omega), e1, List.getElem?_set_ne, r1, <- r2, List.append_assoc, List.getElem?_append_right (by omega), Nat.add_sub_cancel_left, List.getElem?_append_left hj0]
    ·exact hj
    ·simp only [Bool.or_eq_true] at hdis
     rcases hdis with hd | hd
     ·have := Nat.le_of_ble_eq_true hd; omega
     ·have := zax hd; omega) hl2 (fun _ => Nat.pos_of_ne_zero (by simpa using zao hpos))
   refine ⟨v', fun w2 he => by rw [hla g (key f1)]; exact hv1 w2 he, ?_⟩
   show repV _ _ _ _ _
   unfold repV
   split at hv2
   ·rename_i hag; rw [if_pos hag]; exact ⟨d2, hv2, r3⟩
   ·rename_i hag; rw [if_neg hag, <- hv2]; exact r3
 ·rename_i b i j off sz u' hx ht
  obtain ⟨r0, us0, g2, n2, cap2, a0, a1, a2⟩ := za6 h hx
  split at hev
  case h_2 => cases hev
  rename_i e k xs a c0 orc' hb
  split at hev
  case h_2 => cases hev
  rename_i x1 z _ _ hsz
  have hsz := Nat.eq_of_beq_eq_true hsz
  split at hev
  case h_2 => cases hev
  rename_i ys y hys hy hpos
  cases hev
  obtain ⟨g, cap, cur, us, c1, c, c2, u1, v, u2, f1, f2, f3, f4, f5, f6, f7, f8, f9, f10, f11, f12, f13, f14, f15⟩ := h.rrAt hb (at?_get hob.1)
  obtain ⟨ys', cells, q1, q2, q3, q4⟩ := elR_in f13
  rw [hys] at q1
  cases q1
  have hv : v = .slice (some ⟨g2, 0, none⟩) n2 cap2 := by
   rw [f1] at a0
   simp only [Value.tuple.injEq, Array.mk.injEq, List.cons.injEq] at a0
   rw [<- a0.2, f10, <- f11] at a1
   simpa using a1
  have hz := at?_get hob.2.1
  obtain ⟨d1, d2, d3, rfl, r2, r3⟩ := repL_nth q3 hz
  obtain ⟨p1, p2, p3, rfl, s2, s3⟩ := getT_rep k.t r3 hy
  obtain ⟨g', cap', cur', t1, t2, t3, t4, t5, t6⟩ := ownsRow_some q2 (Nat.lt_of_le_of_lt (Nat.zero_le _) (List.getElem?_eq_some_iff.1 hz).1)
  rw [hv] at t1
  cases t1
  obtain ⟨v', hv1, hv2⟩ := load_raw (P := cx.P) (c := p2) (off := j.toNat * sz + off) ht t2 (fun jj u hj => by
   have hj0 := (List.getElem?_eq_some_iff.1 hj).1
   have : (d1 ++ (p1 ++ p2 ++ p3) ++ d3)[d1.length + p1.length + jj]? = some u := by rw [nth_mid d1 p1 p2 p3 d3 jj hj0]; exact hj
   rw [<- t6, List.getElem?_take] at this
   split at this
   ·rw [<- Array.getElem?_toList, hsz, <- r2, <- s2]; exact this
   ·cases this) (zag u' s3) (fun _ => Nat.pos_of_ne_zero (by simpa using zao hpos))
  refine ⟨v', fun w2 he => by rw [a2]; exact hv1 w2 he, ?_⟩
  show repV _ _ _ _ _
  unfold repV
  split at hv2
  ·rename_i hag; rw [if_pos hag]; exact ⟨p2, hv2, s3⟩
  ·rename_i hag; rw [if_neg hag, <- hv2]; exact s3
 ·cases hev
end Go.Ev
namespace Go.Ev
open Go Go.RowKit
variable [Dr]
variable {cx : Cx} {m m' : Nat -> Value} {st st' : St} {T : Array Value} {w w' : World}
def SV.scrubR (b : Nat) (D : List Nat) : SV -> SV
 | .osl c => bif Nat.beq c b then .osl c else SV.scrubL D (.osl c)
 | .rrp c i o s => bif Nat.beq c b then .rrp c i o s else SV.scrubL D (.rrp c i o s)
 | s => s.scrubL D
theorem scrubR_rep {M : Nat -> Prop} {D : List Nat} {b : Nat} {r : Value} {us us2 : List Value} (h1 : m b = .tuple (r :: us).toArray) (h2 : m' b = .tuple (r :: us2).toArray) (hm : ∀ i, i ∉ D -> m' i = m i) {v : Value} {s : SV} (h : repS w M m v s) : repS w M m' v (s.scrubR b D) := by
 have dflt : ∀ s : SV, repS w M m v s -> repS w M m' v (s.scrubL D) := fun s hh => scrubL_rep hm hh
 cases s with
 | osl c =>
  show repS _ _ _ _ (bif Nat.beq c b then .osl c else SV.scrubL D (.osl c))
  cases e : Nat.beq c b with
  | false => exact dflt _ h
  | true =>
   have e := Nat.eq_of_beq_eq_true e
   subst e
   obtain ⟨us', e'⟩ := h
   refine ⟨us2, ?_⟩
   rw [h2]
   rw [h1] at e'
   simp only [Value.tuple.injEq, Array.mk.injEq, List.cons.injEq] at e'
   rw [e'.1]
 | rrp c i o sz =>
  show repS _ _ _ _ (bif Nat.beq c b then .rrp c i o sz else SV.scrubL D (.rrp c i o sz))
  cases e : Nat.beq c b with
  | false => exact dflt _ h
  | true =>
   have e := Nat.eq_of_beq_eq_true e
   subst e
   obtain ⟨g, n, cap, us', e', hv⟩ := h
   refine ⟨g, n, cap, us2, ?_, hv⟩
   rw [h2]
   rw [h1] at e'
   simp only [Value.tuple.injEq, Array.mk.injEq, List.cons.injEq] at e'
   rw [e'.1]
 | _ => exact dflt _ h
def rrStore (P : Program) (n0 : Nat) (st : St) (t : TypeId) (x y : Operand) (orc : List TV) : Option (St × List TV × List Prop) :=
 match getSV st x, ty P t, getSV st y with
 | some (.rrp b i off sz), some u', some (.val t' z) => match look st.bx b, orc with
  | some (.rr e k xs none), a :: orc' => match a.as k.u, Nat.beq sz k.u.cells && t'.beq u' && (Nat.ble (off + u'.cells) k.off || Nat.blt k.off off) with
   | some x1, true => match setT k.u x1 off ⟨t', z⟩, setT k.u x1 k.off ⟨.sl k.t, []⟩ with
    | some x2, some x0 => match setT k.u x0 off ⟨t', z⟩ with
     | some x3 => some (st.setBox b (.rr e k (xs.set i.toNat x2) none), orc', [at? xs i = some x1, setT k.u x2 k.off ⟨.sl k.t, []⟩ = some x3, getT k.u x2 k.off (.sl k.t) = getT k.u x1 k.off (.sl k.t)])
     | none => none
    | _, _ => none
   | _, _ => none
  | _, _ => none
 | some (.ssp b i j off sz), some u', some (.val t' z) => match look st.bx b, orc with
  | some (.rr e k xs none), a :: c :: orc' => match a.as k.u, c.as k.t, Nat.beq sz k.t.cells && t'.beq u' with
   | some x1, some z0, true => match getT k.u x1 k.off (.sl k.t), setT k.t z0 off ⟨t', z⟩ with
    | some ys, some z1 => match setT k.u x1 k.off ⟨.sl k.t, (lst ys).set j.toNat z1⟩ with
     | some x2 => some (st.setBox b (.rr e k (xs.set i.toNat x2) none), orc', [at? xs i = some x1, at? (lst ys) j = some z0, setT k.u x2 k.off ⟨.sl k.t, []⟩ = setT k.u x1 k.off ⟨.sl k.t, []⟩, getT k.u x2 k.off (.sl k.t) = some ((lst ys).set j.toNat z1)])
     | none => none
    | _, _ => none
   | _, _, _ => none
  | _, _ => none
 | some (.rrp b i off sz), some u', some (.row r) => match look st.bx b, look st.rw r, orc with
  | some (.rr e k xs h), some c, a :: orc' => match a.as k.u, Nat.beq sz k.u.cells && (Nat.beq off k.off && (u'.beq (.sl k.t) && (Nat.beq c.e k.e && !(Nat.beq b r)))), TV.as ⟨.sl c.t, c.xs⟩ (.sl k.t) with
   | some x1, true, some ys => match setT k.u x1 k.off ⟨.sl k.t, ys⟩ with
    | some x2 => some (st.exch [b, r] [(b, .rr e k (xs.set i.toNat x2) none)] [] (SV.scrubR b [b, r]), orc', [at? xs i = some x1, setT k.u x2 k.off ⟨.sl k.t, []⟩ = setT k.u x1 k.off ⟨.sl k.t, []⟩, getT k.u x2 k.off (.sl k.t) = some ys] ++ (match h with
     | none => []
     | some i0 => [i0 = i]))
    | none => none
   | _, _, _ => none
  | _, _, _ => none
 | _, _, _ => none
theorem tup_hd {r r' : Value} {us us' : List Value} (h : Value.tuple (r :: us).toArray = .tuple (r' :: us').toArray) : r = r' /\ us = us' := by
 simpa using h
theorem sl_blk {g g' n n' cap cap' : Nat} (h : Value.slice (some ⟨g, 0, none⟩) n cap = .slice (some ⟨g', 0, none⟩) n' cap') : g = g' := by
 simp only [Value.slice.injEq, Option.some.injEq, Addr.mk.injEq] at h
 exact h.1.1
theorem own_root {b g n cap : Nat} {us : List Value} (h : m b = .tuple (.slice (some ⟨g, 0, none⟩) n cap :: us).toArray) : own (m b) g := by rw [h]; exact own_tup.2 (.inl rfl)
theorem rrStore_plain (h : Rm cx m st T w) {b e : Nat} {i : Int} {k : RK} {xs : List k.u.el} {off : Nat} {t : TypeId} {u' : Ty} {z : u'.el} {x y : Operand} {x1 x2 x0 x3 : k.u.el} (hb : look st.bx b = some (.rr e k xs none)) (hx : getSV st x = some (.rrp b i off k.u.cells)) (ht : ty cx.P t = some u') (hy : getSV st y = some (.val u' z))
  (hdis : off + u'.cells <= k.off \/ k.off < off) (h2 : setT k.u x1 off ⟨u', z⟩ = some x2) (h0 : setT k.u x1 k.off ⟨.sl k.t, []⟩ = some x0) (h3 : setT k.u x0 off ⟨u', z⟩ = some x3) (ob1 : at? xs i = some x1) (ob2 : setT k.u x2 k.off ⟨.sl k.t, []⟩ = some x3) (ob3 : getT k.u x2 k.off (.sl k.t) = getT k.u x1 k.off (.sl k.t)) :
  ∃ w', (Instr.storeAt t (Act.eval ⟨T, []⟩ x) (Act.eval ⟨T, []⟩ y)).run cx.P w = .ok () w' /\ Rm cx m (st.setBox b (.rr e k (xs.set i.toNat x2) none)) T w' := by
 obtain ⟨g2, n2, cap2, us2, a1, a2⟩ := za6 h hx
 obtain ⟨g, cap, cur, us, c1, c, c2, u1, v, u2, f1, f2, f3, f4, f5, f6, f7, f8, f9, f10, f11, f12, f13, f14, f15⟩ := h.rrAt hb (at?_get ob1)
 have hg : g2 = g := sl_blk (tup_hd (a1.symm.trans f1)).1
 subst hg
 obtain ⟨L, v1, x0', e1, e2, e3, e4, e5, e6, e7⟩ := f13
 rw [h0] at e4
 cases e4
 have hval : repV w (Mut cx m st.ids) (Act.eval ⟨T, []⟩ y) u' z := za6 h hy
 have hvc := zai hval
 have hvl := zag u' hvc
 have hvs : (Act.eval ⟨T, []⟩ y).cells.size = u'.cells := by rw [<- hvl]; simp
 obtain ⟨d1, d2, d3, r1, r2, r3, r4⟩ := setT_rep (v := ⟨u', z⟩) hvc k.u e5 h3
 generalize hvv : (Act.eval ⟨T, []⟩ y).cells.toList = vc at *
 have hL : L.length = k.u.cells := by rw [<- f8, e1, List.length_set]
 have hLl : L.length = d1.length + d2.length + d3.length := by rw [r1]; simp [Nat.add_assoc]
 have hs : spl L off vc = d1 ++ vc ++ d3 := by rw [r1, <- r2, spl_mid _ _ _ _ r3.symm]
 have hfitL : off + vc.length <= L.length := by omega
 have hkl : k.off < L.length := (List.getElem?_eq_some_iff.1 e2).1
 have hdis' : k.off < off \/ off + vc.length <= k.off := by rw [hvl]; omega
 have hc' : spl c off vc = (spl L off vc).set k.off v1 := by rw [e1, spl_set hfitL hdis']
 have hcl : (spl c off vc).length = c.length := spl_len (by rw [f8, <- hL]; exact hfitL)
 have hfit : i.toNat * k.u.cells + off + u'.cells <= cur.size := by
  rw [<- Array.length_toList, f6]; simp only [List.length_append]; omega
 have hrun := store_run (P := cx.P) ht f2 hvs hfit (zah u' (by rw [<- hvv] at hvc; exact hvc))
 have hshape : cur.toList.take (i.toNat * k.u.cells + off) ++ (Act.eval ⟨T, []⟩ y).cells.toList ++ cur.toList.drop (i.toNat * k.u.cells + off + u'.cells) = c1 ++ spl c off vc ++ (c2 ++ cur.toList.drop (xs.length * k.u.cells)) := by
  generalize cur.toList.drop (xs.length * k.u.cells) = rest at f6 ⊢
  rw [f6, hvv, <- f7]
  have e0 : c1 ++ c ++ (c2 ++ rest) = c1 ++ (c ++ (c2 ++ rest)) := by simp
  have hcle : off + u'.cells <= c.length := by rw [f8, <- hL]; omega
  rw [e0, List.take_append, List.take_of_length_le (by omega), Nat.add_sub_cancel_left, List.take_append_of_le_length (by omega), Nat.add_assoc, List.drop_append, List.drop_eq_nil_of_le (by omega), Nat.add_sub_cancel_left, List.drop_append_of_le_length hcle]
  unfold spl
  rw [hvl]
  simp
 rw [hshape] at hrun
 refine ⟨_, by rw [a2]; exact hrun, ?_⟩
 have hbm := zak hb
 have hbi : b ∈ st.ids := List.mem_append.2 (.inl (List.mem_map.2 ⟨_, hbm, rfl⟩))
 have hn : Touch m w b (w.setRow g2 (c1 ++ spl c off vc ++ (c2 ++ cur.toList.drop (xs.length * k.u.cells))).toArray) :=
  ⟨zbi _ _ _, fun kk hk hne => setRow_other _ _ _ _ (fun e => hne (by rw [e]; exact own_root f1))⟩
 obtain ⟨q1, q2⟩ := Rm.touch_keeps (cx := cx) hbi hn (ids := (st.setBox b (.rr e k (xs.set i.toNat x2) none)).ids) (zar hbm h.keys _).1
 rw [f10] at f14
 obtain ⟨n1, n2'⟩ := filt_at f14
 refine h.setBox hbm hn (g := g2) ⟨_, _, f1⟩ ⟨_, us, c1 ++ spl c off vc ++ c2, f1, ?_, ?_, ?_⟩
 ·rw [List.length_set]
  exact ownsRow_put f2 f3 f4 f5 f6 f9 hcl
 ·rw [f10]
  refine f15 q1 q2 (fun _ _ => Iff.rfl) (fun u hu bb hbb => setRow_other _ _ _ _ (fun e => n2' u hu (by rw [<- e]; exact hbb))) (by rw [hcl, f8]) ?_
  refine ⟨spl L off vc, v1, x3, hc', by rw [spl_get hfitL hdis']; exact e2, e3, ob2, ?_, e6, fun ho => ?_⟩
  ·rw [hs]; exact rep_ext q1 q2 k.u r4
  ·obtain ⟨k1, ys, cells, k2, k3, k4⟩ := e7 ho
   exact ⟨k1, ys, cells, by rw [ob3]; exact k2, ownsRow_same k3 fun bb hbb => setRow_other _ _ _ _ (n1 bb hbb).1, zab (fun _ _ => rep_ext q1 q2 k.t) k4⟩
 ·rw [f10]; simpa [blk] using f14
theorem rrStore_in (h : Rm cx m st T w) {b e : Nat} {i j : Int} {k : RK} {xs : List k.u.el} {off : Nat} {t : TypeId} {u' : Ty} {z : u'.el} {x y : Operand} {x1 x2 : k.u.el} {ys : List k.t.el} {z0 z1 : k.t.el} (hb : look st.bx b = some (.rr e k xs none)) (hx : getSV st x = some (.ssp b i j off k.t.cells)) (ht : ty cx.P t = some u') (hy : getSV st y = some (.val u' z))
  (hys : getT k.u x1 k.off (.sl k.t) = some ys) (h1 : setT k.t z0 off ⟨u', z⟩ = some z1) (ob1 : at? xs i = some x1) (ob2 : at? ys j = some z0) (ob3 : setT k.u x2 k.off ⟨.sl k.t, []⟩ = setT k.u x1 k.off ⟨.sl k.t, []⟩) (ob4 : getT k.u x2 k.off (.sl k.t) = some (ys.set j.toNat z1)) :
  ∃ w', (Instr.storeAt t (Act.eval ⟨T, []⟩ x) (Act.eval ⟨T, []⟩ y)).run cx.P w = .ok () w' /\ Rm cx m (st.setBox b (.rr e k (xs.set i.toNat x2) none)) T w' := by
 obtain ⟨r0, us0, g2, n2, cap2, a0, a1, a2⟩ := za6 h hx
 obtain ⟨g, cap, cur, us, c1, c, c2, u1, v, u2, f1, f2, f3, f4, f5, f6, f7, f8, f9, f10, f11, f12, f13, f14, f15⟩ := h.rrAt hb (at?_get ob1)
 obtain ⟨L, v1, x0, e1, e2, e3, e4, e5, e6, e7⟩ := f13
 obtain ⟨hv1, ys', cells, q1, q2, q3⟩ := e7 fun ⟨_, h, _⟩ => by cases h
 rw [hys] at q1
 cases q1
 have hv : v = .slice (some ⟨g2, 0, none⟩) n2 cap2 := by
  rw [f1] at a0
  rw [<- (tup_hd a0).2, f10, <- f11] at a1
  simpa using a1
 obtain ⟨_, _, hz⟩ := at?_some ob2
 have hval : repV w (Mut cx m st.ids) (Act.eval ⟨T, []⟩ y) u' z := za6 h hy
 have hvc := zai hval
 have hvl := zag u' hvc
 have hvs : (Act.eval ⟨T, []⟩ y).cells.size = u'.cells := by rw [<- hvl]; simp
 obtain ⟨g', cap', cur', t1, t2, t3, t4, t5, t6⟩ := ownsRow_some q2 (Nat.lt_of_le_of_lt (Nat.zero_le _) (List.getElem?_eq_some_iff.1 hz).1)
 have hg' : g2 = g' := by rw [hv] at t1; exact sl_blk t1
 subst hg'
 obtain ⟨d1, d2, d3, rfl, r2, r3, rset⟩ := repL_set q3 hz
 obtain ⟨p1, p2, p3, rfl, s2, s3, s4⟩ := setT_rep (v := ⟨u', z⟩) hvc k.t r3 h1
 obtain ⟨rest, hrest⟩ : ∃ rest, cur'.toList = (d1 ++ (p1 ++ p2 ++ p3) ++ d3) ++ rest := ⟨cur'.toList.drop (ys.length * k.t.cells), by rw [<- t6, List.take_append_drop]⟩
 have hN : (d1 ++ (p1 ++ p2 ++ p3) ++ d3).length = ys.length * k.t.cells := q2.1
 have ho : j.toNat * k.t.cells + off = (d1 ++ p1).length := by rw [List.length_append, r2, s2]
 have hlen : cur'.toList.length = (d1 ++ p1).length + p2.length + (p3 ++ d3 ++ rest).length := by rw [hrest]; simp only [List.length_append]; omega
 have hfit : j.toNat * k.t.cells + off + u'.cells <= cur'.size := by
  rw [<- Array.length_toList, hlen, ho, <- hvl, s3]
  omega
 have hrun := store_run (P := cx.P) ht t2 hvs hfit (zah u' hvc)
 have etk : cur'.toList.take (j.toNat * k.t.cells + off) = d1 ++ p1 := by
  rw [hrest, ho]
  have : d1 ++ (p1 ++ p2 ++ p3) ++ d3 ++ rest = (d1 ++ p1) ++ (p2 ++ p3 ++ d3 ++ rest) := by simp
  rw [this, List.take_left]
 have edr : cur'.toList.drop (j.toNat * k.t.cells + off + u'.cells) = p3 ++ d3 ++ rest := by
  rw [hrest, ho, <- hvl, <- s3, <- List.length_append]
  have : d1 ++ (p1 ++ p2 ++ p3) ++ d3 ++ rest = (d1 ++ p1 ++ p2) ++ (p3 ++ d3 ++ rest) := by simp
  rw [this, List.drop_left]
 rw [etk, edr] at hrun
 refine ⟨_, by rw [a2]; exact hrun, ?_⟩
 have hbm := zak hb
 have hbi : b ∈ st.ids := List.mem_append.2 (.inl (List.mem_map.2 ⟨_, hbm, rfl⟩))
 have hog : own (m b) g2 := by rw [f1, f10]; exact own_tup.2 (.inr ⟨v, by simp, by rw [hv]; rfl⟩)
 generalize hw2 : w.setRow g2 (d1 ++ p1 ++ (Act.eval ⟨T, []⟩ y).cells.toList ++ (p3 ++ d3 ++ rest)).toArray = w2
 have hoth : ∀ kk, kk ≠ g2 -> w2.heap[kk]? = w.heap[kk]? := fun kk hne => by rw [<- hw2]; exact setRow_other _ _ _ _ hne
 have hn : Touch m w b w2 := ⟨by rw [<- hw2]; exact zbi _ _ _, fun kk hk hne => hoth kk (fun e => hne (by rw [e]; exact hog))⟩
 obtain ⟨k1, k2⟩ := Rm.touch_keeps (cx := cx) hbi hn (ids := (st.setBox b (.rr e k (xs.set i.toNat x2) none)).ids) (zar hbm h.keys _).1
 rw [f10] at f14
 obtain ⟨n1, n2'⟩ := filt_at f14
 have hgg : g ≠ g2 := fun e => (n1 g2 (by rw [hv]; rfl)).1 e.symm
 refine h.setBox hbm hn (g := g) ⟨_, _, f1⟩ ⟨_, us, c1 ++ c ++ c2, f1, ?_, ?_, ?_⟩
 ·rw [List.length_set]
  have hcc : cur.toList.take (xs.length * k.u.cells) = c1 ++ c ++ c2 := by
   generalize cur.toList.drop (xs.length * k.u.cells) = rest2 at f6
   rw [f6, <- f9]
   have : c1 ++ c ++ (c2 ++ rest2) = (c1 ++ c ++ c2) ++ rest2 := by simp
   rw [this, List.take_left]
  exact ⟨f9, .inr ⟨g, cap, cur, rfl, Nat.zero_le _, by rw [hoth g hgg]; exact f2, f3, f4, f5, hcc⟩⟩
 ·rw [f10]
  refine f15 k1 k2 (fun _ _ => Iff.rfl) (fun u hu bb hbb => hoth bb (fun e => (n1 g2 (by rw [hv]; rfl)).2 u hu (by rw [<- e]; exact hbb))) f8 ?_
  refine ⟨L, v1, x0, e1, e2, e3, by rw [ob3]; exact e4, rep_ext k1 k2 k.u e5, e6, fun _ => ⟨hv1, ys.set j.toNat z1, _, ob4, ?_, zab (fun _ _ => rep_ext k1 k2 k.t) (rset _ _ s4)⟩⟩
  have hshape : d1 ++ p1 ++ (Act.eval ⟨T, []⟩ y).cells.toList ++ (p3 ++ d3 ++ rest) = (d1 ++ (p1 ++ (Act.eval ⟨T, []⟩ y).cells.toList ++ p3) ++ d3) ++ rest := by simp
  have hl2 : (d1 ++ (p1 ++ (Act.eval ⟨T, []⟩ y).cells.toList ++ p3) ++ d3).length = ys.length * k.t.cells := by
   rw [<- hN]; simp only [List.length_append, s3]
  refine ⟨by rw [List.length_set]; exact hl2, .inr ⟨g2, cap', _, by rw [List.length_set, t1], Nat.zero_le _, by rw [<- hw2]; exact setRow_heap _ _ _ _ _ _ t2, by rw [List.length_set]; exact t3, t4, ?_, ?_⟩⟩
  ·rw [List.size_toArray, hshape, List.length_append, hl2, <- t5, <- Array.length_toList, hrest, List.length_append, hN]
  ·rw [List.length_set, hshape, <- hl2, List.take_left]
 ·rw [f10]; simpa [blk] using f14
end Go.Ev
namespace Go.Ev
open Go Go.RowKit
variable [Dr]
variable {cx : Cx} {m m' : Nat -> Value} {st st' : St} {T : Array Value} {w w' : World}
theorem rowC_eq {c : RowC} {e : Nat} {u : Ty} {ys : List u.el} (he : c.e = e) (hc : TV.as ⟨.sl c.t, c.xs⟩ (.sl u) = some ys) : c = ⟨e, u, ys⟩ := by
 obtain ⟨ce, ct, cxs⟩ := c
 have hc : TV.as ⟨.sl ct, cxs⟩ (.sl u) = some ys := hc
 have hc := TV.as_some hc
 cases hc
 subst he
 rfl
theorem rrStore_put (h : Rm cx m st T w) {b e r : Nat} {i : Int} {k : RK} {xs : List k.u.el} {hh : Option Int} {t : TypeId} {x y : Operand} {x1 x2 : k.u.el} {cxs : List k.t.el} (hb : look st.bx b = some (.rr e k xs hh)) (hr : look st.rw r = some ⟨k.e, k.t, cxs⟩) (hbr : b ≠ r)
  (hx : getSV st x = some (.rrp b i k.off k.u.cells)) (ht : ty cx.P t = some (.sl k.t)) (hy : getSV st y = some (.row r))
  (ob1 : at? xs i = some x1) (ob2 : setT k.u x2 k.off ⟨.sl k.t, []⟩ = setT k.u x1 k.off ⟨.sl k.t, []⟩) (ob3 : getT k.u x2 k.off (.sl k.t) = some cxs) (ob4 : ∀ i0, hh = some i0 -> i0 = i) :
  ∃ w' m', (Instr.storeAt t (Act.eval ⟨T, []⟩ x) (Act.eval ⟨T, []⟩ y)).run cx.P w = .ok () w' /\ Rm cx m' (st.exch [b, r] [(b, .rr e k (xs.set i.toNat x2) none)] [] (SV.scrubR b [b, r])) T w' := by
 obtain ⟨g2, n2, cap2, us2, a1, a2⟩ := za6 h hx
 obtain ⟨g, cap, cur, us, c1, cc, c2, u1, v, u2, f1, f2, f3, f4, f5, f6, f7, f8, f9, f10, f11, f12, f13, f14, f15⟩ := h.rrAt hb (at?_get ob1)
 have hg : g2 = g := sl_blk (tup_hd (a1.symm.trans f1)).1
 subst hg
 obtain ⟨L, v1, x0, e1, e2, e3, e4, e5, e6, e7⟩ := f13
 have hrm := zak hr
 have hbm := zak hb
 have hbi : b ∈ st.ids := List.mem_append.2 (.inl (List.mem_map.2 ⟨_, hbm, rfl⟩))
 have hri : r ∈ st.ids := List.mem_append.2 (.inr (List.mem_map.2 ⟨_, hrm, rfl⟩))
 obtain ⟨cells, hown, hout, hL⟩ := h.rows r _ hrm
 have hval : Act.eval ⟨T, []⟩ y = m r := za6 h hy
 have hone : (m r).oneCell' = true := row_one h hrm
 have hcs : (m r).cells = #[m r] := by
  rcases hown.2 with ⟨hv, _⟩ | ⟨_, _, _, hv, _⟩ <;> rw [hv] <;> rfl
 have hkl : k.off < L.length := (List.getElem?_eq_some_iff.1 e2).1
 have hLc : L.length = k.u.cells := by rw [<- f8, e1, List.length_set]
 have hfit : i.toNat * k.u.cells + k.off + (Ty.sl k.t).cells <= cur.size := by
  rw [<- Array.length_toList, f6]; simp only [List.length_append, Ty.cells]; omega
 have hrun := store_run (P := cx.P) (v := m r) ht f2 (by rw [hcs]; rfl) hfit (fun u hu => by rw [hcs] at hu; simp at hu; rw [hu]; exact hone)
 have hshape : cur.toList.take (i.toNat * k.u.cells + k.off) ++ (m r).cells.toList ++ cur.toList.drop (i.toNat * k.u.cells + k.off + (Ty.sl k.t).cells) = c1 ++ cc.set k.off (m r) ++ (c2 ++ cur.toList.drop (xs.length * k.u.cells)) := by
  generalize cur.toList.drop (xs.length * k.u.cells) = rest at f6 ⊢
  rw [f6, <- f7, hcs]
  have e0 : c1 ++ cc ++ (c2 ++ rest) = c1 ++ (cc ++ (c2 ++ rest)) := by simp
  have hle : k.off + 1 <= cc.length := by omega
  rw [e0, List.take_append, List.take_of_length_le (by omega), Nat.add_sub_cancel_left, List.take_append_of_le_length (by omega), Nat.add_assoc, List.drop_append, List.drop_eq_nil_of_le (by omega), Nat.add_sub_cancel_left]
  show _ = _
  simp only [Ty.cells]
  rw [List.drop_append_of_le_length hle, List.set_eq_take_append_cons_drop, if_pos (by omega)]
  simp
 rw [hshape] at hrun
 generalize hw2 : w.setRow g2 (c1 ++ cc.set k.off (m r) ++ (c2 ++ cur.toList.drop (xs.length * k.u.cells))).toArray = w2 at hrun
 have hoth : ∀ kk, kk ≠ g2 -> w2.heap[kk]? = w.heap[kk]? := fun kk hne => by rw [<- hw2]; exact setRow_other _ _ _ _ hne
 have hog : own (m b) g2 := own_root f1
 obtain ⟨v2, hv2⟩ : ∃ v2, v2 = Value.tuple (.slice (some ⟨g2, 0, none⟩) xs.length cap :: (u1 ++ m r :: u2)).toArray := ⟨_, rfl⟩
 rw [f10] at f14 f1
 obtain ⟨n1, n2'⟩ := filt_at f14
 have hownr : ∀ bb, blk (m r) = some bb -> own (m r) bb := fun bb hb => zal hb
 have hrg : ∀ bb, blk (m r) = some bb -> bb ≠ g2 := fun bb hb e => h.apart b r hbi hri hbr g2 hog (by rw [<- e]; exact hownr bb hb)
 have X : Exch cx m (upd m b v2) st w w2 [b, r] [(b, .rr e k (xs.set i.toNat x2) none)] [] := {
  same := by rw [<- hw2]; exact zbi _ _ _
  block := fun kk _ hne => hoth kk fun e => hne b (by simp) hbi (by rw [e]; exact hog)
  old := fun j _ hj => zan _ _ fun e => hj (by simp [e])
  new := fun j hj kk hk => by
   have : j = b := by simpa using hj
   subst this
   rw [zam, hv2] at hk
   refine .inl ?_
   rcases own_tup.1 hk with hk | ⟨u, hu, hk⟩
   ·cases hk; exact ⟨j, by simp, hbi, hog⟩
   ·rcases List.mem_append.1 hu with hu | hu
    ·exact ⟨j, by simp, hbi, by rw [f1]; exact own_tup.2 (.inr ⟨u, by simp [hu], hk⟩)⟩
    ·rcases List.mem_cons.1 hu with rfl | hu
     ·exact ⟨r, by simp, hri, hownr kk hk⟩
     ·exact ⟨j, by simp, hbi, by rw [f1]; exact own_tup.2 (.inr ⟨u, by simp [hu], hk⟩)⟩
  apart := fun j j' hj hj' hne => by
   have : j = b := by simpa using hj
   have : j' = b := by simpa using hj'
   omega
  keys := by simp
  disj := fun j hj _ => by
   have : j = b := by simpa using hj
   simp [this]
  bn := fun b' c' hb' h1' => by simp at hb'; rw [hb'.2] at h1'; cases h1'
  rn := fun r' c' hr' => by cases hr' }
 refine ⟨w2, upd m b v2, by rw [a2, hval]; exact hrun, h.exch X (fun M v s hs => scrubR_rep f1 (by rw [zam, hv2]) (fun j hj => zan _ _ fun e => hj (by simp [e])) hs) (fun b' c' hb' => ?_) (fun r' c' hr' => by cases hr')⟩
 simp only [List.mem_cons, Prod.mk.injEq, List.not_mem_nil, or_false] at hb'
 obtain ⟨rfl, rfl⟩ := hb'
 have kw := X.keeps
 have km := X.mut (f := SV.scrubR b' [b', r])
 rw [zam]
 refine ⟨0, ⟨_, _, hv2⟩, _, u1 ++ m r :: u2, c1 ++ cc.set k.off (m r) ++ c2, hv2, ?_, ?_, ?_⟩
 ·rw [List.length_set, <- hw2]
  exact ownsRow_put f2 f3 f4 f5 f6 f9 (List.length_set ..)
 ·refine f15 kw km (fun j hj => ⟨fun ⟨i0, h1, h2⟩ => absurd (by rw [<- h2, ob4 i0 h1]) hj, fun ⟨_, h1, _⟩ => by cases h1⟩) (fun u hu bb hbb => hoth bb fun e => n2' u hu (by rw [<- e]; exact hbb)) (by rw [List.length_set, f8]) ?_
  refine ⟨L, m r, x0, by rw [e1, List.set_set], e2, hone, by rw [ob2]; exact e4, rep_ext kw km k.u e5, (fun ⟨_, h1, _⟩ => by cases h1), fun _ => ⟨rfl, cxs, cells, ob3, ownsRow_same hown fun bb hbb => hoth bb (hrg bb hbb), zab (fun _ _ => rep_ext kw km k.t) hL⟩⟩
 ·have h1 := filt_swap f14 (x := m r) fun bb hbb => ⟨hrg bb hbb, fun u hu hub => h.apart b' r hbi hri hbr bb (by rw [f1]; exact own_tup.2 (.inr ⟨u, by rcases hu with hu | hu <;> simp [hu], hub⟩)) (hownr bb hbb)⟩
  simpa [blk] using h1
def rrTake (n0 : Nat) (st : St) (b : Nat) (i : Int) (a d : Nat) (orc : List TV) : Option (St × List TV × List Prop) :=
 match look st.bx b, orc with
 | some (.rr e k xs none), v :: orc' => match v.as k.u, Nat.blt d n0 && !(Nat.beq b d) with
  | some x1, true => match getT k.u x1 k.off (.sl k.t) with
   | some ys => some ((st.exch [b, d] [(b, .rr e k xs (some i))] [(d, ⟨k.e, k.t, lst ys⟩)] (SV.scrubR b [b, d])).put a (.row d), orc', [at? xs i = some x1])
   | none => none
  | _, _ => none
 | _, _ => none
theorem Rm.reslot (h : Rm cx m st T w) {a : Nat} {v : Value} {s : SV} (ha : T[a]? = some v) (hv : repS w (Mut cx m st.ids) m v s) : Rm cx m (st.put a s) T w :=
 {h with
  slots := fun i sv hi => by
   rcases List.mem_cons.1 hi with hi | hi
   ·cases hi; exact ⟨v, ha, hv⟩
   ·exact h.slots i sv (mem_del.1 hi).1 }
theorem set_same {α : Type} : ∀ {l : List α} {i : Nat} {x : α}, l[i]? = some x -> l.set i x = l
 | _, _, _, h => by
  obtain ⟨hlt, h1⟩ := List.getElem?_eq_some_iff.1 h
  rw [<- h1, List.set_getElem_self]
theorem rrTake_sound (h : Rm cx m st T w) {b a d : Nat} {i : Int} {orc orc' : List TV} {ob : List Prop} (hs : look st.sl a = some (.sub b i)) (hev : rrTake cx.n st b i a d orc = some (st', orc', ob)) (hob : allP ob) : ∃ m', Rm cx m' st' T w := by
 unfold rrTake at hev
 split at hev
 case h_2 => cases hev
 rename_i e k xs v0 orc2 hb
 split at hev
 case h_2 => cases hev
 rename_i x1 _ hq
 split at hev
 case h_2 => cases hev
 rename_i ys hys
 cases hev
 simp only [Bool.and_eq_true, Bool.not_eq_true'] at hq
 have hdn := zax hq.1
 have hbd := zao hq.2
 obtain ⟨vv, t1, r0, us0, t2, t3⟩ := h.slots a _ (zak hs)
 obtain ⟨g, cap, cur, us, c1, cc, c2, u1, v, u2, f1, f2, f3, f4, f5, f6, f7, f8, f9, f10, f11, f12, f13, f14, f15⟩ := h.rrAt hb (at?_get hob.1)
 have hvv : vv = v := by
  rw [f1] at t2
  rw [<- (tup_hd t2).2, f10, <- f11] at t3
  simpa using t3.symm
 subst hvv
 have f13' := f13
 obtain ⟨L, v1, x0, e1, e2, e3, e4, e5, e6, e7⟩ := f13
 obtain ⟨hv1, ys', cells, q1, q2, q3⟩ := e7 fun ⟨_, h, _⟩ => by cases h
 rw [hys] at q1
 cases q1
 have hbm := zak hb
 have hbi : b ∈ st.ids := List.mem_append.2 (.inl (List.mem_map.2 ⟨_, hbm, rfl⟩))
 obtain ⟨v2, hv2⟩ : ∃ v2, v2 = Value.tuple (.slice (some ⟨g, 0, none⟩) xs.length cap :: (u1 ++ undef :: u2)).toArray := ⟨_, rfl⟩
 obtain ⟨m2, hm2⟩ : ∃ m2, m2 = upd (upd m d vv) b v2 := ⟨_, rfl⟩
 have mb : m2 b = v2 := by rw [hm2, zam]
 have md : m2 d = vv := by rw [hm2, zan _ _ (fun e => hbd e.symm), zam]
 have mo : ∀ j, j ∉ [b, d] -> m2 j = m j := fun j hj => by rw [hm2, zan _ _ (fun e => hj (by simp [e])), zan _ _ (fun e => hj (by simp [e]))]
 rw [f10] at f14 f1
 obtain ⟨n1, n2'⟩ := filt_at f14
 have hvb : ∀ kk, blk vv = some kk -> own (m b) kk := fun kk hk => by rw [f1]; exact own_tup.2 (.inr ⟨vv, by simp, hk⟩)
 have ownd : ∀ kk, own (m2 d) kk -> blk vv = some kk := fun kk hk => by rw [md] at hk; exact own_row q2 hk
 have ownb : ∀ kk, own (m2 b) kk -> kk = g \/ ∃ u, (u ∈ u1 \/ u ∈ u2) /\ blk u = some kk := fun kk hk => by
  rw [mb, hv2] at hk
  rcases own_tup.1 hk with hk | ⟨u, hu, hk⟩
  ·cases hk; exact .inl rfl
  ·rcases List.mem_append.1 hu with hu | hu
   ·exact .inr ⟨u, .inl hu, hk⟩
   ·rcases List.mem_cons.1 hu with rfl | hu
    ·cases hk
    ·exact .inr ⟨u, .inr hu, hk⟩
 have ownb' : ∀ kk, own (m2 b) kk -> own (m b) kk := fun kk hk => by
  rw [f1]
  rcases ownb kk hk with rfl | ⟨u, hu, hk⟩
  ·exact own_tup.2 (.inl rfl)
  ·exact own_tup.2 (.inr ⟨u, by rcases hu with hu | hu <;> simp [hu], hk⟩)
 have inN : ∀ j, j ∈ [(b, BX.rr e k xs (some i))].map (·.1) \/ j ∈ [(d, (⟨k.e, k.t, lst ys⟩ : RowC))].map (·.1) -> j = b \/ j = d := fun j hj => by simpa using hj
 have X : Exch cx m m2 st w w [b, d] [(b, .rr e k xs (some i))] [(d, ⟨k.e, k.t, lst ys⟩)] := {
  same := ⟨rfl, rfl, rfl, Nat.le_refl _, fun _ => Nat.le_refl _⟩
  block := fun _ _ _ => rfl
  old := fun j _ hj => mo j hj
  new := fun j hj kk hk => by
   rcases inN j hj with rfl | rfl
   ·exact .inl ⟨j, by simp, hbi, ownb' kk hk⟩
   ·exact .inl ⟨b, by simp, hbi, hvb kk (ownd kk hk)⟩
  apart := fun j j' hj hj' hne kk hk hk' => by
   have key : own (m2 b) kk -> own (m2 d) kk -> False := fun k1 k2 => by
    rcases ownb kk k1 with rfl | ⟨u, hu, k3⟩
    ·exact (n1 kk (ownd kk k2)).1 rfl
    ·exact (n1 kk (ownd kk k2)).2 u hu k3
   rcases inN j hj with rfl | rfl <;> rcases inN j' hj' with rfl | rfl
   ·exact hne rfl
   ·exact key hk hk'
   ·exact key hk' hk
   ·exact hne rfl
  keys := by simpa using hbd
  disj := fun j hj _ => by rcases inN j hj with rfl | rfl <;> simp
  bn := fun b' c' hb' h1' => by simp at hb'; rw [hb'.2] at h1'; cases h1'
  rn := fun r' c' hr' => by simp at hr'; rw [hr'.1]; exact hdn }
 have km := X.mut (f := SV.scrubR b [b, d])
 have hR := h.exch X (fun M v s hs => scrubR_rep f1 (by rw [mb, hv2]) mo hs) (fun b' c' hb' => by
   simp only [List.mem_cons, Prod.mk.injEq, List.not_mem_nil, or_false] at hb'
   obtain ⟨rfl, rfl⟩ := hb'
   rw [mb]
   refine ⟨0, ⟨_, _, hv2⟩, _, u1 ++ undef :: u2, c1 ++ cc ++ c2, hv2, ?_, ?_, ?_⟩
   ·have hcc : cur.toList.take (xs.length * k.u.cells) = c1 ++ cc ++ c2 := by
     generalize cur.toList.drop (xs.length * k.u.cells) = rest2 at f6
     rw [f6, <- f9]
     have : c1 ++ cc ++ (c2 ++ rest2) = (c1 ++ cc ++ c2) ++ rest2 := by simp
     rw [this, List.take_left]
    exact ⟨f9, .inr ⟨g, cap, cur, rfl, Nat.zero_le _, f2, f3, f4, f5, hcc⟩⟩
   ·have := f15 (w' := w) (h' := some i) (x' := x1) (c' := cc) (v' := undef) (fun _ _ _ => rfl) km (fun j hj => ⟨fun ⟨_, h1, _⟩ => (by cases h1), fun ⟨i0, h1, h2⟩ => absurd (by rw [<- h2, Option.some.inj h1]) hj⟩) (fun _ _ _ _ => rfl) f8
     ⟨L, v1, x0, e1, e2, e3, e4, rep_ext (fun _ _ _ => rfl) km k.u e5, fun _ => rfl, fun hn => absurd ⟨i, rfl, rfl⟩ hn⟩
    rw [set_same (at?_get hob.1)] at this
    exact this
   ·have h1 := filt_swap f14 (x := undef) fun bb hbb => by cases hbb
    simpa [blk] using h1) (fun r' c' hr' => by
   simp only [List.mem_cons, Prod.mk.injEq, List.not_mem_nil, or_false] at hr'
   obtain ⟨rfl, rfl⟩ := hr'
   rw [md]
   exact ⟨cells, q2, zab (fun _ _ => rep_ext (fun _ _ _ => rfl) km k.t) q3⟩)
 exact ⟨m2, hR.reslot t1 (by show vv = m2 d; rw [md])⟩
end Go.Ev
namespace Go.Ev
open Go Go.RowKit
variable [Dr]
variable {cx : Cx} {m m' : Nat -> Value} {st st' : St} {T : Array Value} {w w' : World}
def rkOf (P : Program) (e0 : TypeId) : Option RK :=
 match ty P e0, P.underlying e0 with
 | some (.sl t), some (.slice e) => match ty P e with
  | some t' => bif t.beq t' && !(Nat.beq t.cells 0) then some ⟨.sl t, 0, e, t⟩ else none
  | none => none
 | some u, some (.struct fs) => match fs.toList.getLast? with
  | some fd => match P.underlying fd.type with
   | some (.slice e) => match ty P e with
    | some t => bif !(Nat.beq t.cells 0) then some ⟨u, fd.offset, e, t⟩ else none
    | none => none
   | _ => none
  | none => none
 | _, _ => none
def rrNew (E : Env) (st : St) (o : Oper) (orc : List TV) : Option (St × List TV × List Prop) :=
 match o.dst, orc with
 | some d, ⟨.unit, _⟩ :: orc' => match Nat.blt d E.n, o.op with
  | true, .assign (.const (.slice none 0 0)) => match elemOf? E.P o.type with
   | some (e, _) => match rkOf E.P e with
    | some k => some ((st.exch [d] [(d, .rr e k [] none)] [] (SV.scrubL [d])).put d (.osl d), orc', [])
    | none => none
   | none => none
  | true, .move (.const (.slice none 0 0)) => match elemOf? E.P o.type with
   | some (e, _) => match rkOf E.P e with
    | some k => some ((st.exch [d] [(d, .rr e k [] none)] [] (SV.scrubL [d])).put d (.osl d), orc', [])
    | none => none
   | none => none
  | true, .makeSlice t l c => match elemOf? E.P t, intOf? (getSV st l), intOf? (getSV st c) with
   | some (e, u), some n, some kk => match rkOf E.P e, bytesOK E.P e, zeroOf E.P e, (E.P.info? e).bind (·.zero) with
    | some k, true, some u', some z => match u.beq u' && u.beq k.u, z.cells.toList[k.off]? with
     | true, some (.slice none 0 0) => some ((st.exch [d] [(d, .rr e k (List.replicate n.toNat (zeroEl k.u)) none)] [] (SV.scrubL [d])).put d (.osl d), orc',
       [0 <= n /\ n <= kk /\ kk <= (lim : Int), setT k.u (zeroEl k.u) k.off ⟨.sl k.t, []⟩ = some (zeroEl k.u), getT k.u (zeroEl k.u) k.off (.sl k.t) = some (show (Ty.sl k.t).el from [])])
     | _, _ => none
    | _, _, _, _ => none
   | _, _, _ => none
  | _, _ => none
 | _, _ => none
theorem Rm.newRR (h : Rm cx m st T w) {d e : Nat} (hd : d < cx.n) {hd0 : Value} {k : RK} {xs : List k.u.el} {cells us : List Value} {w' : World} (hw : Ext w w') (hb : ∀ g, g ∈ (hd0 :: us).filterMap blk -> w.heap.size <= g /\ g < w'.heap.size) (hown : w'.ownsRow 0 e k.u.cells hd0 xs.length cells)
  (hin : ∀ M' : Nat -> Prop, (∀ b, b < w.heap.size -> M' b -> Mut cx m st.ids b) -> rrIn w' M' k none 0 xs cells us) (hnd : ((hd0 :: us).filterMap blk).Nodup) :
  Rm cx (upd m d (.tuple (hd0 :: us).toArray)) ((st.exch [d] [(d, .rr e k xs none)] [] (SV.scrubL [d])).put d (.osl d)) (T.setIfInBounds d hd0) w' := by
 obtain ⟨v2, hv2⟩ : ∃ v2, v2 = Value.tuple (hd0 :: us).toArray := ⟨_, rfl⟩
 rw [<- hv2]
 have X : Exch cx m (upd m d v2) st w w' [d] [(d, .rr e k xs none)] [] := {
  same := hw.toSame
  block := fun kk hk _ => hw.block kk hk
  old := fun j _ hj => zan _ _ fun e => hj (by simp [e])
  new := fun j hj kk hk => by
   have : j = d := by simpa using hj
   subst this
   rw [zam, hv2] at hk
   exact .inr (hb kk (own_hd.1 hk))
  apart := fun j j' hj hj' hne => by
   have : j = d := by simpa using hj
   have : j' = d := by simpa using hj'
   omega
  keys := by simp
  disj := fun j hj _ => by
   have : j = d := by simpa using hj
   simp [this]
  bn := fun b' c' hb' _ => by simp at hb'; rw [hb'.1]; exact hd
  rn := fun r' c' hr' => by cases hr' }
 refine (h.exch X (fun M v s hs => scrubL_rep (fun j hj => zan _ _ fun e => hj (by simp [e])) hs) (fun b' c' hb' => ?_) (fun r' c' hr' => by cases hr')).put hd ⟨us, by rw [zam, hv2]⟩
 simp only [List.mem_cons, Prod.mk.injEq, List.not_mem_nil, or_false] at hb'
 obtain ⟨rfl, rfl⟩ := hb'
 rw [zam]
 exact ⟨0, ⟨_, _, hv2⟩, hd0, us, cells, hv2, hown, hin _ (X.mut (f := SV.scrubL [b'])), hnd⟩
theorem rrIn_made {M : Nat -> Prop} {k : RK} {z : Array Value} {x : k.u.el} (hz : rep w M k.u z.toList x) (hn : z.toList[k.off]? = some (.slice none 0 0)) (h1 : setT k.u x k.off ⟨.sl k.t, []⟩ = some x) (h2 : getT k.u x k.off (.sl k.t) = some (show (Ty.sl k.t).el from [])) :
  ∀ (n i : Nat), rrIn w M k none i (List.replicate n x) (madeCells z (n * k.u.cells)).toList (List.replicate n (.slice none 0 0)) := by
 have hl : z.toList.length = k.u.cells := zag k.u hz
 intro n
 induction n with
 | zero => intro i; exact ⟨by simp [madeCells], rfl⟩
 | succ n ih =>
  intro i
  refine ⟨z.toList, (madeCells z (n * k.u.cells)).toList, .slice none 0 0, List.replicate n (.slice none 0 0), made_succ (by simpa using hl) n, hl, List.replicate_succ, ?_, ih (i + 1)⟩
  exact ⟨z.toList, .slice none 0 0, x, (set_same hn).symm, hn, rfl, h1, hz, (fun ⟨_, h, _⟩ => by cases h), fun _ => ⟨rfl, [], [], h2, World.ownsRow_nil w 0 _ _, rfl⟩⟩
theorem rrNew_sound {E : Env} (hE : EnvOK E cx) (h : R cx st T w) {o : Oper} {orc : List TV} {st' : St} {orc' : List TV} {ob : List Prop} (hev : rrNew E st o orc = some (st', orc', ob)) (hob : allP ob)
  {K : Act -> World -> Prop} {Q : Exit -> Act -> World -> Prop} (hK : ∀ T' w', R cx st' T' w' -> K ⟨T', []⟩ w') : o.wp cx.P ⟨T, []⟩ w K Q := by
 obtain ⟨m, hm⟩ := h
 unfold rrNew at hev
 split at hev
 case h_2 => cases hev
 rename_i d pu orc2 hd
 have nil : ∀ (e : Nat) (k : RK), d < cx.n -> (execOp (Act.eval ⟨T, []⟩) o).run cx.P w = .ok (.value (.slice none 0 0)) w -> st' = (st.exch [d] [(d, .rr e k [] none)] [] (SV.scrubL [d])).put d (.osl d) -> o.wp cx.P ⟨T, []⟩ w K Q := by
  intro e k hdn hr e'
  refine zbn hr ?_
  rw [hd]
  refine hK _ _ ⟨_, e' ▸ hm.newRR hdn (hd0 := .slice none 0 0) (e := e) (k := k) (xs := []) (us := []) (cells := []) (Ext.refl w) (fun g hg => by simp [blk] at hg) (World.ownsRow_nil w 0 _ _) (fun _ _ => ⟨rfl, rfl⟩) List.nodup_nil⟩
 split at hev
 ·rename_i hdn hop
  have hdn : d < cx.n := by rw [hE.n]; exact zax hdn
  split at hev
  case h_2 => cases hev
  split at hev
  case h_2 => cases hev
  cases hev
  exact nil _ _ hdn (by simp only [execOp, hop]; rfl) rfl
 ·rename_i hdn hop
  have hdn : d < cx.n := by rw [hE.n]; exact zax hdn
  split at hev
  case h_2 => cases hev
  split at hev
  case h_2 => cases hev
  cases hev
  exact nil _ _ hdn (by simp only [execOp, hop]; rfl) rfl
 ·rename_i t l c hdn hop
  have hdn : d < cx.n := by rw [hE.n]; exact zax hdn
  split at hev
  case h_2 => cases hev
  rename_i e u n kk he hl hc
  split at hev
  case h_2 => cases hev
  rename_i k u' z hk hby hz hzi
  split at hev
  case h_2 => cases hev
  rename_i hq hnil
  cases hev
  simp only [Bool.and_eq_true] at hq
  obtain rfl := Ty.eq_of_beq hq.1
  obtain ⟨⟨h0, h1, h2⟩, ob2, ob3, _⟩ := hob
  rw [<- hE.P] at he hby hz hzi
  have hku := Ty.eq_of_beq hq.2
  obtain ⟨hu, hty, hp⟩ := elemOf?_facts he
  obtain ⟨i, z', _, hi, hs, hzz, hzr⟩ := zbd hz
  rw [hi] at hzi
  have hzi : i.zero = some z := hzi
  rw [hzz] at hzi
  cases hzi
  obtain ⟨i2, hi2, hbytes⟩ := bytesOK_facts hby
  rw [hi] at hi2
  cases hi2
  obtain ⟨kl, hkl⟩ := intOf?_sound hm hl
  obtain ⟨kc, hkc⟩ := intOf?_sound hm hc
  have hlim : (lim : Int) = 2147483648 := rfl
  have hk0 : 0 <= kk := by omega
  have hkb : (i.bytes : Int) * kk <= 281474976710656 := by
   have h3 : (i.bytes : Int) <= 65536 := by omega
   calc (i.bytes : Int) * kk <= 65536 * kk := Int.mul_le_mul_of_nonneg_right h3 hk0
    _ <= 281474976710656 := by omega
  have hrun := run_make (P := cx.P) w t e i z hu hi hzz kl kc n kk h0 h1 hkb (by omega)
  subst hku
  have hlen : (List.replicate n.toNat (zeroEl k.u)).length = n.toNat := List.length_replicate
  have htk : (madeCells z.cells (kk.toNat * i.size)).toList.take ((List.replicate n.toNat (zeroEl k.u)).length * k.u.cells) = (madeCells z.cells (n.toNat * k.u.cells)).toList := by
   rw [hlen, hs]
   simp only [madeCells, Array.toList_map, Array.toList_range, <- List.map_take]
   rw [List.take_range]
   congr 2
   have : n.toNat * k.u.cells <= kk.toNat * k.u.cells := Nat.mul_le_mul_right _ (by omega)
   omega
  have hx : Ext w (w.alloc (.cells (madeCells z.cells (kk.toNat * i.size)) e)) := zbj _ _
  have hin : ∀ (w' : World) (M' : Nat -> Prop), rrIn w' M' k none 0 (List.replicate n.toNat (zeroEl k.u)) (madeCells z.cells (n.toNat * k.u.cells)).toList (List.replicate n.toNat (.slice none 0 0)) := fun w' M' => rrIn_made (hzr w' M') hnil ob2 ob3 _ _
  have hfil : ((Value.slice (some ⟨w.heap.size, 0, none⟩) n.toNat kk.toNat) :: List.replicate n.toNat (Value.slice none 0 0)).filterMap blk = [w.heap.size] := by
   rw [List.filterMap_cons]
   show w.heap.size :: _ = _
   congr 1
   rw [List.filterMap_eq_nil_iff]
   intro u hu
   rw [List.eq_of_mem_replicate hu]
   rfl
  refine zbn (zbk (s := Instr.makeSlice t (.int kl n) (.int kc kk)) (by simp only [execOp, hop, hkl, hkc]) hrun) ?_
  rw [hd]
  refine hK _ _ ⟨_, hm.newRR hdn hx (us := List.replicate n.toNat (.slice none 0 0)) (fun g hg => ?_) ⟨?_, .inr ⟨w.heap.size, kk.toNat, madeCells z.cells (kk.toNat * i.size), ?_, Nat.zero_le _, heap_alloc_new w _, ?_, ?_, ?_, htk⟩⟩ (fun M' _ => hin _ M') (by rw [hfil]; simp)⟩
  ·rw [hfil] at hg
   simp at hg
   subst hg
   exact ⟨Nat.le_refl _, by simp⟩
  ·rw [hlen, Array.length_toList, size_madeCells]
  ·rw [hlen]
  ·rw [hlen]; omega
  ·simp only [maxLen]; omega
  ·rw [size_madeCells, hs]
 ·cases hev
end Go.Ev
