/- Calls that turn the elements of an owned slice in place. -/
import Derived.Test.YtgkgdfmldioddaaGreatDoorMM4
import Derived.Lib.SliceRun
import Derived.OrdersHeld
set_option linter.unusedSectionVars false
set_option linter.unusedVariables false
set_option linter.unusedSimpArgs false
namespace Go.Ev
open Go Go.RowKit
variable [Dr]
variable {cx : Cx} {m : Nat -> Value} {st st' : St} {T : Array Value} {w w' : World} {E : Env} {Q : Post} {ops : Array Oper} {l : List Oper}
structure IC (P : Program) (G : World -> Prop) (f e : Nat) (t : Ty) (rel : List t.el -> List t.el -> Prop) : Prop where
 enters : ∀ args w, (callFunc f args).run P w = .ok (.enter f args) w
 calls : ∀ (w : World) (M : Nat -> Prop) (v : Value) (xs ys : List t.el) (cells : List Value), G w -> rel xs ys -> w.ownsRow 0 e t.cells v xs.length cells -> repL (rep w M t) cells xs ->
  Calls P f #[v] w fun x w' => ∃ u cells', x = .returned u /\ Same w w' /\ (∀ b, b < w.heap.size -> blk v ≠ some b -> w'.heap[b]? = w.heap[b]?) /\ w'.ownsRow 0 e t.cells v ys.length cells' /\ repL (rep w M t) cells' ys
def enterI (st : St) (o : Oper) (f : Nat) : Option Nat :=
 match o.op with
 | .call c => match c.callee, c.args.toList with
  | .value x, [a] => match getSV st x, getSV st a with
   | some (.clos f' []), some (.row r) => bif Nat.beq f' f then some r else none
   | _, _ => none
  | _, _ => none
 | _ => none
def nilQ (P : Program) (n : Nat) (st : St) (o : Oper) : Option (Nat × TV) :=
 match o.dst, o.op with
 | some d, .binOp .eql t x (.const (.slice none 0 0)) _ => match getSV st x, P.underlying t, Nat.blt d n with
  | some (.val (.sl u) xs), some (.slice _), true => some (d, ⟨.sl u, xs⟩)
  | _, _, _ => none
 | _, _ => none
theorem WL_nilq (hE : EnvOK E cx) {o : Oper} {d : Nat} {u : Ty} {xs : List u.el} (hw : wantSV ops st o = some true) (hq : nilQ E.P E.n st o = some (d, ⟨.sl u, xs⟩))
  (h : ∀ b : Bool, (b = true -> xs = []) -> WL cx ops Q l (st.put d (.val .bool b))) : WL cx ops Q (o :: l) st := by
 rintro T w ⟨m, hm⟩
 refine wpList_step fun K hK => ?_
 rw [zbo ⟨m, hm⟩ hw]
 simp only [if_true]
 unfold nilQ at hq
 split at hq
 case h_2 => cases hq
 rename_i d' t x t2 hd hop
 split at hq
 case h_2 => cases hq
 rename_i u' xs' e hx hu hlt
 cases hq
 have hv := (za3 (t := .sl u) rfl).1 (za6 hm hx)
 obtain ⟨a, cap, cells, hcv, hcap, hmax, hnil, _⟩ := hv
 simp only [List.cons.injEq, and_true] at hcv
 rw [<- hE.P] at hu
 have hrun : (execOp (Act.eval ⟨T, []⟩) o).run cx.P w = .ok (.value (.bool a.isNone)) w := by
  refine zbk (s := do eqGuard .eql t x (.const (.slice none 0 0)) (Act.eval ⟨T, []⟩ x) (.slice none 0 0); binOp .eql t (Act.eval ⟨T, []⟩ x) (.slice none 0 0)) (by simp only [execOp, hop]; rfl) ?_
  rw [hcv, Sem.run_bind]
  have hg : (eqGuard .eql t x (.const (.slice none 0 0)) (.slice a xs.length cap) (.slice none 0 0)).run cx.P w = .ok () w := rfl
  rw [hg]
  exact Lib.run_eql_slice_nil w t e a _ cap 0 0 hu
 refine zbn hrun ?_
 rw [hd]
 have hlt : d < cx.n := by rw [hE.n]; exact zax hlt
 refine hK _ _ (h a.isNone (fun hb => ?_) _ _ ⟨m, hm.put hlt (s := .val .bool a.isNone) (za1.2 rfl)⟩)
 have ha : a = none := by simpa using hb
 have := hnil ha
 exact List.length_eq_zero_iff.1 (by omega)
end Go.Ev
namespace Go.Ev
open Go Go.RowKit
variable [Dr]
variable {cx : Cx} {m : Nat -> Value} {st st' : St} {T : Array Value} {w w' : World} {E : Env} {Q : Post} {ops : Array Oper} {l : List Oper}
def nextQ (n : Nat) (st : St) (o : Oper) : Option (Nat × Nat) :=
 match o.op, o.dst, o.guard with
 | .next x false, some d, none => match getSV st x, Nat.blt d n with
  | some (.iter b), true => some (d, b)
  | _, _ => none
 | _, _, _ => none
theorem nextQ_facts {n : Nat} {o : Oper} {d b : Nat} (h : nextQ n st o = some (d, b)) : ∃ x, o.op = .next x false /\ o.dst = some d /\ o.guard = none /\ getSV st x = some (.iter b) /\ Nat.blt d n = true := by
 unfold nextQ at h
 split at h
 case h_2 => cases h
 rename_i x d' ho hd hg
 split at h
 case h_2 => cases h
 rename_i b' hx hlt
 cases h
 exact ⟨x, ho, hd, hg, hx, hlt⟩
theorem WL_next0 (hE : EnvOK E cx) {o : Oper} {d b : Nat} {k v : Ty} {left last : List (k.el × v.el)} (hq : nextQ E.n st o = some (d, b)) (hb : look st.bx b = some (.mit k v left last)) (hl : left = [])
  (hs : (st.put d (.tup [⟨.bool, false⟩])).norm (keysOf st'.sl) (keysOf st'.bx) (keysOf st'.rw) = some st') (h : WL cx ops Q l st') : WL cx ops Q (o :: l) st := by
 obtain ⟨x, ho, hd, hg, hx, hlt⟩ := nextQ_facts hq
 rintro T w ⟨m, hm⟩
 obtain ⟨u, w', m', h1, h2, h3⟩ := evM_overMap (T := T) hm ho hx hb hl (orc := []) (ob := [])
 refine wpList_step fun K hK => ?_
 have hw : wantSV ops st o = some true := by unfold wantSV; rw [hg]
 rw [zbo ⟨m, hm⟩ hw]
 simp only [if_true]
 refine zbn h1 ?_
 refine hK _ _ ?_
 rw [hd]
 exact h _ _ ⟨m', (h2.put (by rw [hE.n]; exact zax hlt) h3).norm hs⟩
theorem WL_next1 (hE : EnvOK E cx) {o : Oper} {d b : Nat} {k v : Ty} {left last : List (k.el × v.el)} {p : k.el × v.el} (hq : nextQ E.n st o = some (d, b)) (hb : look st.bx b = some (.mit k v left last)) (hl : left = [p])
  (hs : ((st.setBox b (.mit k v [] [p])).put d (.tup [⟨.bool, true⟩, ⟨k, p.1⟩, ⟨v, p.2⟩])).norm (keysOf st'.sl) (keysOf st'.bx) (keysOf st'.rw) = some st') (h : WL cx ops Q l st') : WL cx ops Q (o :: l) st := by
 obtain ⟨x, ho, hd, hg, hx, hlt⟩ := nextQ_facts hq
 refine WL_nextM hE.n ho hd hlt hg hx hb (by rw [hl]; simp) fun j q hj => ?_
 rw [hl] at hj ⊢
 match j, hj with
 | 0, hj =>
  simp at hj
  subst hj
  rintro T w ⟨m, hm⟩
  exact h T w ⟨m, hm.norm hs⟩
end Go.Ev
namespace Go.Ev
open Go Go.RowKit
variable [Dr]
variable {cx : Cx} {m : Nat -> Value} {st st' : St} {T : Array Value} {w : World} {E : Env} {Q : Post} {ops : Array Oper} {l : List Oper}
def leaveI0 (st : St) (o : Oper) (n r : Nat) (c : RowC) : Option St :=
 match o.dst with
 | none => some (st.setRow r c)
 | some d => match Nat.blt d n with
  | true => some ((st.setRow r c).put d .any)
  | false => none
theorem WL_callI0 (hE : EnvOK E cx) {f e : Nat} {t : Ty} {rel : List t.el -> List t.el -> Prop} (hI : IC E.P E.G f e t rel) (xs ys : List t.el) (hr : rel xs ys) {o : Oper} (r : Nat)
  (hw : wantSV ops st o = some true) (hen : enterI st o f = some r) (hc : look st.rw r = some ⟨e, t, xs⟩) (hlv : leaveI0 st o E.n r ⟨e, t, ys⟩ = some st') (h : WL cx ops Q l st') : WL cx ops Q (o :: l) st := by
 rintro T w ⟨m, hm⟩
 refine wpList_step fun K hK => ?_
 rw [zbo ⟨m, hm⟩ hw]
 simp only [if_true]
 unfold enterI at hen
 split at hen
 case h_2 => cases hen
 rename_i c hop
 split at hen
 case h_2 => cases hen
 rename_i xo a hcal hargs
 split at hen
 case h_2 => cases hen
 rename_i f' r' hx ha
 cases hb : Nat.beq f' f with
 | false => rw [hb] at hen; cases hen
 | true =>
 rw [hb] at hen
 cases hen
 have hf := Nat.eq_of_beq_eq_true hb
 subst hf
 have hv : Act.eval ⟨T, []⟩ xo = .func (.func f') #[] (([] : List Nat).map m).toArray := za6 hm hx
 have hva : Act.eval ⟨T, []⟩ a = m r := za6 hm ha
 have hcm := zak hc
 obtain ⟨cells, hown, hout, hL⟩ := hm.rows r _ hcm
 have hI' := hI
 rw [<- hE.P] at hI'
 have hcalls := hI'.calls w (Mut cx m st.ids) (m r) xs ys cells (hE.glob w hm.frame) hr hown hL
 unfold Oper.wp
 rw [evCall_run hop hcal hv hI'.enters w, hargs]
 simp only [List.map_cons, List.map_nil, List.append_nil, hva]
 refine hcalls.mono ?_
 rintro x w' ⟨u, cells', rfl, hs, hk, ho, hl⟩
 show K (Act.put ⟨T, []⟩ o.dst u) w'
 have hri : r ∈ st.ids := List.mem_append.2 (.inr (List.mem_map.2 ⟨_, hcm, rfl⟩))
 have ht : Touch m w r w' := ⟨hs, fun b hb hn => hk b hb fun e => hn (zal e)⟩
 obtain ⟨hids, _⟩ := setRow_ids hcm hm.keys ⟨e, t, ys⟩
 obtain ⟨q1, q2⟩ := Rm.touch_keeps (cx := cx) hri ht hids
 have h2 : Rm cx m (st.setRow r ⟨e, t, ys⟩) T w' := hm.setRow hcm ht ho (zab (fun _ _ => rep_ext q1 q2 t) hl)
 unfold leaveI0 at hlv
 split at hlv
 ·rename_i hd
  rw [hd]
  cases hlv
  exact hK _ _ (h _ _ ⟨m, h2⟩)
 ·rename_i d hd
  split at hlv
  ·rename_i hlt
   rw [hd]
   have hlt : d < cx.n := by rw [hE.n]; exact zax hlt
   cases hlv
   exact hK _ _ (h _ _ ⟨m, h2.put hlt (s := .any) trivial⟩)
  ·cases hlv
def ghost (P : Program) (st : St) (o : Oper) (i j : Nat) : Option St :=
 match o.op with
 | .call c => match c.argTypes.toList[i]? with
  | some t => match elemOf? P t with
   | some (e, _) => match rkOf P e, memB j st.ids with
    | some k, false => some (st.exch [j] [(j, .rr e k [] none)] [] (SV.scrubL [j]))
    | _, _ => none
   | none => none
  | none => none
 | _ => none
def nilT : Value := .tuple #[.slice none 0 0]
theorem ghost_sound (h : Rm cx m st T w) {P : Program} {o : Oper} {i j : Nat} (hg : ghost P st o i j = some st') : Rm cx (upd m j nilT) st' T w := by
 unfold ghost at hg
 split at hg
 case h_2 => cases hg
 split at hg
 case h_2 => cases hg
 split at hg
 case h_2 => cases hg
 split at hg
 case h_2 => cases hg
 rename_i e _ _ _ _ k hj hk
 cases hg
 have X : Exch cx m (upd m j nilT) st w w [j] [(j, .rr e k [] none)] [] := {
  same := ⟨rfl, rfl, rfl, Nat.le_refl _, fun _ => Nat.le_refl _⟩
  block := fun _ _ _ => rfl
  old := fun b _ hb => zan _ _ fun e => hb (by simp [e])
  new := fun b hb g hg => by
   have : b = j := by simpa using hb
   subst this
   rw [zam] at hg
   obtain ⟨u, hu, hub⟩ := hg
   have : u = .slice none 0 0 := by simpa [nilT] using hu
   subst this
   cases hub
  apart := fun a b ha hb hne => by
   have : a = j := by simpa using ha
   have : b = j := by simpa using hb
   omega
  keys := by simp
  disj := fun b hb _ => by
   have : b = j := by simpa using hb
   simp [this]
  bn := fun b c hb h1 => by simp at hb; rw [hb.2] at h1; cases h1
  rn := fun r c hr => by cases hr }
 refine h.exch X (fun M v s hs => scrubL_rep (fun b hb => zan _ _ fun e => hb (by simp [e])) hs) (fun b c hb => ?_) (fun r c hr => by cases hr)
 simp only [List.mem_cons, Prod.mk.injEq, List.not_mem_nil, or_false] at hb
 obtain ⟨rfl, rfl⟩ := hb
 rw [zam]
 exact ⟨0, ⟨_, [], rfl⟩, .slice none 0 0, [], [], rfl, World.ownsRow_nil w 0 e k.u.cells, ⟨rfl, rfl⟩, (show ([] : List Nat).Nodup from List.nodup_nil)⟩
def argNVs (P : Program) (st : St) (i j : Nat) : Nat -> List TypeId -> List Operand -> Option (List SV)
 | _, [], [] => some []
 | n, t :: ts, x :: xs => match (match Nat.beq n i, x with
   | true, .const (.slice none 0 0) => some (SV.osl j)
   | _, _ => argSV P st t x), argNVs P st i j (n + 1) ts xs with
  | some v, some vs => some (v :: vs)
  | _, _ => none
 | _, _, _ => none
theorem argNVs_sound (h : Rm cx m st T w) {i j : Nat} (hj : m j = nilT) : ∀ {n : Nat} {ts : List TypeId} {xs : List Operand} {ss : List SV}, argNVs cx.P st i j n ts xs = some ss -> repSs w (Mut cx m st.ids) m (xs.map (Act.eval ⟨T, []⟩)) ss
 | _, [], [], _, ha => by cases ha; trivial
 | _, [], _ :: _, _, ha => by cases ha
 | _, _ :: _, [], _, ha => by cases ha
 | n, t :: ts, x :: xs, ss, ha => by
  unfold argNVs at ha
  split at ha
  ·rename_i v vs' h1 h2
   cases ha
   refine ⟨?_, argNVs_sound h hj h2⟩
   split at h1
   ·cases h1
    exact ⟨[], hj⟩
   ·exact argSV_sound h h1
  ·cases ha
def enterN (E : Env) (st : St) (o : Oper) (n f : Nat) (ρ : List (Nat × Nat)) (i j : Nat) : Option St :=
 match o.op with
 | .call c => match c.callee with
  | .value x => match getSV st x with
   | some (.clos f' bs) => match Nat.beq f' f, boxesB st bs, argNVs E.P st i j 0 c.argTypes.toList c.args.toList with
    | true, true, some as0 => enterSt st n ρ (as0 ++ bs.map fun b => SV.ptr b 0)
    | _, _, _ => none
   | _ => none
  | _ => none
 | _ => none
theorem WL_callN (hE : EnvOK E cx) {α β : Type} {F : FnB α β} {f : Nat} (hB : BC E.P E.G f F) (x : α) (y : β) (hxy : F.rel x y) {o : Oper} {ρ ρ' : List (Nat × Nat)} {n i j : Nat} {st0 : St} (hn : F.n = n) (hg : ghost E.P st0 o i j = some st)
  (hw : wantSV ops st0 o = some true) (hen : enterN E st o n f ρ i j = some (F.S x)) (hlv : leaveB0 st (F.S' x y) o n E.n ρ ρ' (F.rs x y) = some st') (h : WL cx ops Q l st') : WL cx ops Q (o :: l) st0 := by
 subst hn
 rintro T w ⟨m0, hm0⟩
 refine wpList_step fun K hK => ?_
 rw [zbo ⟨m0, hm0⟩ hw]
 simp only [if_true]
 have hm := ghost_sound hm0 hg
 have hj : upd m0 j nilT j = nilT := zam _ _ _
 generalize upd m0 j nilT = m at hm hj
 have hB' := hB
 rw [<- hE.P] at hB'
 have main : ∀ (as0 : List SV) (vs : List Value), enterSt st F.n ρ as0 = some (F.S x) -> repSs w (Mut cx m st.ids) m vs as0 -> (execOp (Act.eval ⟨T, []⟩) o).run cx.P w = .ok (.enter f vs.toArray) w -> o.wp cx.P ⟨T, []⟩ w K Q := by
  intro as0 vs hen hargs hrun
  have hent := enter_sound hm hen hargs
  obtain ⟨k1, k2⟩ := enterSt_nodup hen
  have hlen := zbg hargs
  have hsl : (F.S x).sl.length = as0.length := enterSt_len hen
  have hcalls := hB'.calls (sub cx m st w F.n ρ) rfl rfl (fun w' hf => hE.glob w' (sub_frame hm hf)) x y hxy _ w (by rw [hsl]; exact hlen) ⟨_, hent⟩
  unfold Oper.wp
  rw [hrun]
  refine hcalls.mono ?_
  rintro e w' ⟨v, m', T', rfl, h1, hr⟩
  unfold leaveB0 at hlv
  split at hlv
  case h_2 => cases hlv
  rename_i st1 s hl hs
  rw [<- hE.n] at hl
  obtain ⟨m2, h2, hren⟩ := leave_sound hm k1 k2 h1 hl
  show K (Act.put ⟨T, []⟩ o.dst v) w'
  split at hlv
  ·rename_i hd
   rw [hd]
   cases hlv
   exact hK _ _ (h _ _ ⟨m2, h2⟩)
  ·rename_i d hd
   split at hlv
   ·rename_i hlt
    rw [hd]
    have hlt : d < cx.n := by rw [hE.n]; exact zax hlt
    cases hlv
    exact hK _ _ (h _ _ ⟨m2, h2.put hlt (hren v s (resSVof_rep hs hr))⟩)
   ·cases hlv
 unfold enterN at hen
 split at hen
 case h_2 => cases hen
 rename_i c hop
 split at hen
 case h_2 => cases hen
 rename_i xo hc
 split at hen
 case h_2 => cases hen
 rename_i f' cb hx
 split at hen
 case h_2 => cases hen
 rename_i as0 hf hbb has
 have hf := Nat.eq_of_beq_eq_true hf
 subst hf
 rw [<- hE.P] at has
 have hv : Act.eval ⟨T, []⟩ xo = .func (.func f') #[] (cb.map m).toArray := za6 hm hx
 exact main _ _ hen (zbf (argNVs_sound hm hj has) (boxesB_rep hm hbb)) (evCall_run hop hc hv hB'.enters w)
end Go.Ev
namespace Go.Ev
open Go Go.RowKit
variable [Dr]
section
variable {P : Program}
def Calm {α : Type} (P : Program) (s : Sem α) : Prop := ∀ w x w1, s.run P w = .ok x w1 -> w1 = w /\ ∀ w', s.run P w' = .ok x w'
theorem Calm.pure {α : Type} (x : α) : Calm P (Pure.pure x : Sem α) := fun w y w1 h => by cases h; exact ⟨rfl, fun _ => rfl⟩
theorem Calm.bind {α β : Type} {s : Sem α} {f : α -> Sem β} (hs : Calm P s) (hf : ∀ x, Calm P (f x)) : Calm P (s >>= f) := fun w y w1 h => by
 rw [Sem.run_bind] at h
 cases hr : s.run P w with
 | halt e w2 => rw [hr] at h; cases h
 | ok x w2 =>
  rw [hr] at h
  obtain ⟨rfl, h1⟩ := hs w x w2 hr
  obtain ⟨rfl, h2⟩ := hf x _ y w1 h
  exact ⟨rfl, fun w' => by rw [Sem.run_bind, h1 w']; exact h2 w'⟩
theorem Calm.stuck {α : Type} (s : String) : Calm P (stuck s : Sem α) := fun w y w1 h => by cases h
theorem Calm.unsup {α : Type} (s : Unsupported) : Calm P (unsupported s : Sem α) := fun w y w1 h => by cases h
theorem Calm.program : Calm P program := fun w y w1 h => by cases h; exact ⟨rfl, fun _ => rfl⟩
theorem Calm.never {α : Type} {s : Sem α} (h : ∀ w x w1, s.run P w ≠ .ok x w1) : Calm P s := fun w x w1 e => absurd e (h w x w1)
theorem never_bind {α β : Type} {s : Sem α} {f : α -> Sem β} (hf : ∀ x w y w1, (f x).run P w ≠ .ok y w1) : ∀ w y w1, (s >>= f).run P w ≠ .ok y w1 := fun w y w1 h => by
 rw [Sem.run_bind] at h
 cases hr : s.run P w with
 | halt e w2 => rw [hr] at h; cases h
 | ok x w2 => rw [hr] at h; exact hf _ _ _ _ h
theorem zb0 {α : Type} (e : RuntimeError) : ∀ w (x : α) w1, (runtimePanic e : Sem α).run P w ≠ .ok x w1 := by
 unfold runtimePanic
 refine never_bind fun p => ?_
 cases e <;> simp only
 case typeAssertion => exact never_bind fun _ => never_bind fun _ w x w1 h => by cases h
 case panicNil => exact never_bind fun _ => never_bind fun _ w x w1 h => by cases h
 all_goals exact fun w x w1 h => by cases h
theorem Calm.panic {α : Type} (e : RuntimeError) : Calm P (runtimePanic e : Sem α) := .never (zb0 e)
theorem Calm.bounds {α : Type} (k : IntKind) (x y : Int) (c : BoundsCode) : Calm P (boundsPanic k x y c : Sem α) := .never (by
 unfold boundsPanic
 dsimp only
 split
 ·exact never_bind fun _ => zb0 _
 ·exact never_bind fun _ => zb0 _)
theorem Calm.underlying (t : TypeId) : Calm P (underlying t) := Calm.program.bind fun p => by
 split
 ·exact .pure _
 ·exact .stuck _
theorem Calm.typeInfo (t : TypeId) : Calm P (typeInfo t) := Calm.program.bind fun p => by
 split
 ·exact .pure _
 ·exact .stuck _
theorem Calm.sizeOf (t : TypeId) : Calm P (sizeOf t) := by
 unfold Go.sizeOf
 first
 | exact Calm.bind (.typeInfo t) fun _ => .pure _
 | exact Calm.bind .program fun _ => .pure _
theorem Calm.asBool (v : Value) : Calm P (asBool v) := by
 unfold Go.asBool
 split
 ·exact .pure _
 ·exact .stuck _
theorem Calm.asIntOf (v : Value) : Calm P (asIntOf v) := by
 unfold Go.asIntOf
 split
 ·exact .pure _
 ·exact .unsup _
 ·exact .stuck _
theorem Calm.sureAddr (v : Value) : Calm P (Instr.sureAddr v) := by
 unfold Instr.sureAddr
 split
 ·exact .pure _
 ·exact .stuck _
theorem Calm.indexAt (t : TypeId) (x i : Value) : Calm P (Instr.indexAt t x i) := by
 unfold Instr.indexAt
 refine Calm.bind (.asIntOf i) fun p => ?_
 refine Calm.bind (.underlying t) fun d => ?_
 have key : ∀ q : Option Addr × Nat × TypeId, Calm P (match q with
   | (base, len, elem) => do
    let __do_lift <- Go.underlying t
    have tiny : Bool := decide (len <= 1) && match __do_lift with
      | TypeDesc.array len elem => true
      | x => false
    match base with
     | some a =>
      if 0 <= p.snd /\ p.snd < ↑len then do
       let __do_lift <- Go.sizeOf elem
       Pure.pure (Value.pointer (some (a.add (p.snd.toNat * __do_lift))))
      else
       if tiny = true then
        unsupported (Unsupported.noEntry "op/indexAddr.an index out of range at an array of length 0 or 1 (ledger 616)")
       else boundsPanic p.fst p.snd (↑len) BoundsCode.index
     | none => boundsPanic p.fst p.snd 0 BoundsCode.index) := by
  rintro ⟨base, len, elem⟩
  refine Calm.bind (.underlying t) fun d2 => ?_
  dsimp only
  generalize (decide (len <= 1) && match d2 with
      | TypeDesc.array len elem => true
      | x => false) = tiny
  cases base with
  | some a =>
   dsimp only
   split
   ·exact Calm.bind (.sizeOf _) fun _ => .pure _
   ·split
    ·exact .unsup _
    ·exact .bounds _ _ _ _
  | none => exact .bounds _ _ _ _
 dsimp only
 split
 ·exact Calm.bind (.sureAddr _) fun _ => Calm.bind (.pure _) key
 ·exact Calm.bind (.pure _) key
 ·exact Calm.bind (.stuck _) key
theorem sureAddr_cases (v : Value) : (∃ a, v = .pointer (some a)) \/ ∃ s, Instr.sureAddr v = stuck s := by
 unfold Instr.sureAddr
 split
 ·exact .inl ⟨_, rfl⟩
 ·exact .inr ⟨_, rfl⟩
theorem Calm.fieldAt {s : TypeId} {f off : Nat} {u : Ty} (h : zbb P s f = some (off, u)) (v : Value) : Calm P (Instr.fieldAt s v f) := by
 rcases sureAddr_cases v with ⟨a, rfl⟩ | ⟨m, hm⟩
 ·intro w x w1 e
  rw [zbc h] at e
  cases e
  exact ⟨rfl, fun w' => zbc h a w'⟩
 ·unfold Instr.fieldAt
  refine Calm.bind (.underlying s) fun d => ?_
  split
  ·split
   ·rw [hm]
    exact fun w x w1 e => by cases e
   ·exact .stuck _
  ·exact .stuck _
theorem min2_int {x y : Value} {w w1 : World} {k : IntKind} {n : Int} (h : (Builtin.min2 x y).run P w = .ok (.int k n) w1) : ∃ m, x = .int k m /\ w1 = w /\ ∀ w', (Builtin.min2 x y).run P w' = .ok (.int k n) w' := by
 unfold Builtin.min2 at h ⊢
 split at h
 ·cases h
  exact ⟨_, rfl, rfl, fun _ => rfl⟩
 ·split at h
  ·rw [Sem.run_bind] at h
   generalize Sem.run P (choose _) w = r at h
   cases r with
   | ok a w2 => cases h
   | halt e w2 => cases h
  ·cases h
  ·cases h
  ·cases h
 ·rename_i a b
  rw [Sem.run_bind] at h
  generalize Sem.run P (Op.stringOp _ a b) w = r at h
  cases r with
  | halt e w2 => cases h
  | ok a w2 =>
   rw [Result.andThen_ok, Sem.run_bind] at h
   generalize Sem.run P (asBool a) w2 = r at h
   cases r with
   | halt e w2 => cases h
   | ok a w2 => cases h
 ·cases h
 ·cases h
 ·cases h
theorem min_fold : ∀ (rest : List Value) (x : Value) (w w1 : World) (k : IntKind) (n : Int), (rest.foldlM Builtin.min2 x).run P w = .ok (.int k n) w1 -> (∃ m, x = .int k m) /\ w1 = w /\ ∀ w', (rest.foldlM Builtin.min2 x).run P w' = .ok (.int k n) w'
 | [], x, w, w1, k, n, h => by
  rw [List.foldlM_nil] at h ⊢
  cases h
  exact ⟨⟨_, rfl⟩, rfl, fun _ => rfl⟩
 | y :: rest, x, w, w1, k, n, h => by
  rw [List.foldlM_cons, Sem.run_bind] at h
  cases hr : (Builtin.min2 x y).run P w with
  | halt e w2 => rw [hr] at h; cases h
  | ok z w2 =>
   rw [hr] at h
   obtain ⟨⟨m, rfl⟩, e1, e2⟩ := min_fold rest z w2 w1 k n h
   obtain ⟨m', rfl, e3, e4⟩ := min2_int hr
   exact ⟨⟨_, rfl⟩, e1.trans e3, fun w' => by rw [List.foldlM_cons, Sem.run_bind, e4 w']; exact e2 w'⟩
def valB (o : Oper) : Bool := match o.op with
 | .move _ => true
 | .assign _ => true
 | .nilCheck _ => true
 | .fieldAddr _ _ _ => true
 | .indexAddr _ _ _ => true
 | .call { callee := .builtin .min, .. } => true
 | .binOp _ _ _ _ _ => true
 | _ => false
def isPtrS : SV -> Bool
 | .ptr _ _ => true
 | .vptr _ _ => true
 | .rptr _ _ _ _ => true
 | .bp _ _ => true
 | .rrp _ _ _ _ => true
 | .ssp _ _ _ _ _ => true
 | _ => false
def isIntS : SV -> Bool
 | .val (.int _) _ => true
 | _ => false
def calmS (P : Program) (o : Oper) (s : SV) : Bool := match o.op with
 | .nilCheck _ => isPtrS s
 | .fieldAddr t _ f => (zbb P t f).isSome
 | .call _ => valB o && isIntS s
 | .binOp _ _ _ _ _ => false
 | _ => valB o
theorem val_op {o : Oper} (h : valB o = true) {ρ : Operand -> Value} {w w1 : World} {n : Next} (hr : (execOp ρ o).run P w = .ok n w1) : ∃ v, n = .value v := by
 have key : ∀ (s : Sem Value), (do Pure.pure (Next.value (<- s)) : Sem Next).run P w = .ok n w1 -> ∃ v, n = .value v := fun s h => by
  rw [Sem.run_bind] at h
  cases hr : s.run P w with
  | halt e w2 => rw [hr] at h; cases h
  | ok v w2 => rw [hr] at h; cases h; exact ⟨v, rfl⟩
 unfold valB at h
 split at h
 ·rename_i x hop; simp only [execOp, hop] at hr; cases hr; exact ⟨_, rfl⟩
 ·rename_i x hop; simp only [execOp, hop] at hr; cases hr; exact ⟨_, rfl⟩
 ·rename_i x hop
  simp only [execOp, hop] at hr
  split at hr
  ·exact absurd hr (zb0 _ _ _ _)
  ·exact absurd hr (zb0 _ _ _ _)
  ·exact absurd hr (zb0 _ _ _ _)
  ·split at hr
   ·exact absurd hr (zb0 _ _ _ _)
   ·rw [Sem.run_bind] at hr
    rw [run_program, Result.andThen_ok, Sem.run_bind] at hr
    generalize Sem.run P (nilAhead _ _ _ _) w = q at hr
    cases q with
    | halt e w2 => cases hr
    | ok a w2 =>
     rw [Result.andThen_ok] at hr
     split at hr
     ·rw [Sem.run_bind] at hr; cases hr
     ·cases hr; exact ⟨_, rfl⟩
   ·cases hr; exact ⟨_, rfl⟩
  ·cases hr; exact ⟨_, rfl⟩
 ·rename_i t x f hop; simp only [execOp, hop] at hr; exact key _ hr
 ·rename_i t x i hop; simp only [execOp, hop] at hr; exact key _ hr
 ·rename_i args ts hop
  simp only [execOp, hop] at hr
  exact key (Builtin.min_ _ _ _) hr
 ·rename_i op t x y u hop; simp only [execOp, hop] at hr; exact key _ hr
 ·cases h
theorem calm_run {o : Oper} {s : SV} (h : calmS P o s = true) {ρ : Operand -> Value} {w w1 w2 : World} {v : Value} {M : Nat -> Prop} {m : Nat -> Value} (hr : (execOp ρ o).run P w = .ok (.value v) w1) (hs : repS w2 M m v s) :
  valB o = true /\ ∀ w', (execOp ρ o).run P w' = .ok (.value v) w' := by
 have key : ∀ (s : Sem Value), Calm P s -> execOp ρ o = (do Pure.pure (Next.value (<- s))) -> ∀ w', (execOp ρ o).run P w' = .ok (.value v) w' := fun s hc he => by
  rw [he] at hr ⊢
  exact (Calm.bind hc (fun v => Calm.pure (Next.value v)) _ _ _ hr).2
 unfold calmS at h
 split at h
 ·rename_i x hop
  refine ⟨by unfold valB; rw [hop], ?_⟩
  have hp : ∃ a, v = .pointer (some a) := by
   cases s <;> first | (cases h; done) | skip
   all_goals unfold repS at hs
   ·obtain ⟨g, _, rfl⟩ := hs; exact ⟨_, rfl⟩
   ·obtain ⟨g, _, rfl, _⟩ := hs; exact ⟨_, rfl⟩
   ·obtain ⟨g, _, _, _, rfl⟩ := hs; exact ⟨_, rfl⟩
   ·obtain ⟨g, _, rfl⟩ := hs; exact ⟨_, rfl⟩
   ·obtain ⟨g, _, _, _, _, rfl⟩ := hs; exact ⟨_, rfl⟩
   ·obtain ⟨_, _, g, _, _, _, _, rfl⟩ := hs; exact ⟨_, rfl⟩
  obtain ⟨a, rfl⟩ := hp
  have e : ρ x = .pointer (some a) := by
   simp only [execOp, hop] at hr
   generalize ρ x = y at hr
   split at hr
   ·exact absurd hr (zb0 _ _ _ _)
   ·exact absurd hr (zb0 _ _ _ _)
   ·exact absurd hr (zb0 _ _ _ _)
   ·split at hr
    ·exact absurd hr (zb0 _ _ _ _)
    ·rw [Sem.run_bind] at hr
     rw [run_program, Result.andThen_ok, Sem.run_bind] at hr
     generalize Sem.run P (nilAhead _ _ _ _) w = q at hr
     cases q with
     | halt e w2 => cases hr
     | ok a w2 =>
      rw [Result.andThen_ok] at hr
      split at hr
      ·rw [Sem.run_bind] at hr; cases hr
      ·cases hr
    ·cases hr
   ·cases hr; rfl
  intro w'
  simp only [execOp, hop, e]
  rfl
 ·rename_i t x f hop
  refine ⟨by unfold valB; rw [hop], ?_⟩
  cases hf : zbb P t f with
  | none => rw [hf] at h; cases h
  | some p => exact key (Instr.fieldAt t (ρ x) f) (Calm.fieldAt hf _) (by simp only [execOp, hop])
 ·rename_i c hop
  simp only [Bool.and_eq_true] at h
  refine ⟨h.1, ?_⟩
  have h1 := h.1
  unfold valB at h1
  rw [hop] at h1
  split at h1
  all_goals first | (rename_i e; cases e; done) | skip
  ·rename_i args ts e
   cases e
   have hv : ∃ k n, v = .int k n := by
    have h2 := h.2
    unfold isIntS at h2
    split at h2
    ·rename_i k n
     exact ⟨k, n, za0.1 hs⟩
    ·cases h2
   obtain ⟨k, n, rfl⟩ := hv
   have he : execOp ρ o = (do Pure.pure (Next.value (<- Builtin.min_ ts o.type (args.map ρ)))) := by simp only [execOp, hop]; rfl
   rw [he] at hr ⊢
   rw [Sem.run_bind] at hr
   unfold Builtin.min_ at hr ⊢
   split at hr
   ·cases hr
   ·rename_i x rest hx
    cases hq : Sem.run P (List.foldlM Builtin.min2 x rest) w with
    | halt e w2 => rw [hq] at hr; cases hr
    | ok z w2 =>
     rw [hq] at hr
     cases hr
     intro w'
     rw [Sem.run_bind, (min_fold rest x _ _ _ _ hq).2.2 w']
     rfl
  ·cases h1
 ·cases h
 ·rename_i hn1 hn2 hn3 hn4
  refine ⟨h, ?_⟩
  unfold valB at h
  split at h
  ·rename_i x hop; exact key (Pure.pure (ρ x)) (.pure _) (by simp only [execOp, hop]; rfl)
  ·rename_i x hop; exact key (Pure.pure (ρ x)) (.pure _) (by simp only [execOp, hop]; rfl)
  ·rename_i x hop; exact absurd hop (hn1 x)
  ·rename_i t x f hop; exact absurd hop (hn2 t x f)
  ·rename_i t x i hop; exact key (Instr.indexAt t (ρ x) (ρ i)) (.indexAt _ _ _) (by simp only [execOp, hop])
  ·rename_i args ts hop; exact absurd hop (hn3 _)
  ·rename_i op t x y u hop; exact absurd hop (hn4 op t x y u)
  ·cases h
end
section
variable {P : Program} {ops : Array Oper} {md : Region.Mode}
def pickO (ops : Array Oper) : List Nat -> List Oper
 | [] => []
 | i :: is => match ops[i]? with
  | some o => o :: pickO ops is
  | none => pickO ops is
def headB (md : Region.Mode) (ops : Array Oper) (K : Array Bool -> Bool) : List Nat -> Array Bool -> Bool
 | [], done => K done
 | i :: is, done => (Region.ready md ops done).contains i && Region.free md ops done i && headB md ops K is (done.setIfInBounds i true)
def calmB (ops : Array Oper) : List Nat -> Bool
 | [] => true
 | i :: is => (match ops[i]? with
  | some o => valB o
  | none => false) && calmB ops is
def oneB (md : Region.Mode) (ops : Array Oper) : List Nat -> Array Bool -> Bool
 | [], done => (Region.ready md ops done).isEmpty
 | i :: is, done => decide (Region.ready md ops done = [i]) && oneB md ops is (done.setIfInBounds i true)
def closedB (md : Region.Mode) (ops : Array Oper) (done : Array Bool) : Bool :=
 (List.range ops.size).all fun j => !done.getD j false || (match ops[j]? with
  | some o => o.after.all fun e => !Region.binds md e || done.getD e.on false
  | none => true)
def endsB (md : Region.Mode) (ops : Array Oper) (B : List Nat) : List Nat := B.filter fun i => !(B.any fun j => Nat.blt i j && Region.waitsFor md ops j i)
def gateB (md : Region.Mode) (ops : Array Oper) (done : Array Bool) (B : List Nat) : Bool :=
 (List.range ops.size).all fun t => done.getD t false || memN t B || (match ops[t]? with
  | some o => (o.after.any fun e => Region.binds md e && (!memN e.on B && !done.getD e.on true)) || (endsB md ops B).all fun i => Region.waitsFor md ops t i
  | none => true)
def mixG (md : Region.Mode) (ops : Array Oper) (A B rdy : List Nat) (KB : Array Bool -> Bool) : Bool :=
 Region.noSelect ops && calmB ops A && (rdy.all fun i => !memN i B) && headB md ops (fun d => match B.reverse with
  | [] => KB d
  | _ :: _ => closedB md ops d && gateB md ops d B && headB md ops KB B d) A (Array.replicate ops.size false)
def mixB (md : Region.Mode) (ops : Array Oper) (A B C : List Nat) : Bool := mixG md ops A B C (oneB md ops C)
theorem wpAny_calm {g : Nat} {Q : Exit -> Act -> World -> Prop} {K : Act -> Prop} {KB : Array Bool -> Bool} {w : World} (hsel : Region.noSelect ops = true) (hQ : ∀ c a w, ¬ Q (.panic c) a w) (hK : ∀ done a, KB done = true -> K a -> wpAny P md ops Q g done a w) :
  ∀ (A : List Nat) (done : Array Bool) (a : Act), calmB ops A = true -> headB md ops KB A done = true -> wpQuiet P ops (fun _ => True) K (pickO ops A) a -> wpAny P md ops Q (A.length + g) done a w := by
 intro A
 induction A with
 | nil => intro done a _ hB h; rw [List.length_nil, Nat.zero_add]; exact hK _ _ hB h
 | cons i is ih =>
  intro done a hc hB h
  unfold calmB at hc
  unfold headB at hB
  simp only [Bool.and_eq_true] at hc hB
  obtain ⟨⟨hr, hf⟩, hB⟩ := hB
  obtain ⟨hc1, hc⟩ := hc
  unfold pickO at h
  split at hc1
  ·rename_i o ho
   rw [ho] at h
   rw [List.length_cons, Nat.succ_add]
   by_cases hw : Region.wanted o (yielded ops a.tmps) = true
   ·unfold wpQuiet at h
    rw [if_pos hw] at h
    obtain ⟨v, hq, hn⟩ := h
    refine wpAny_first ho (Region.noSelect_spec hsel) (fun c a w hp => absurd hp (hQ _ _ _)) (is.length + g) done a w (Region.free_spec ho hf) (by simpa using hr) (v := v) (.inl ⟨hw, fun w' => ?_⟩) (ih _ _ hc hB hn)
    have := hq w' trivial
    unfold Oper.quietAt at this
    cases hx : (execOp a.eval o).run P w' with
    | halt e w2 => rw [hx] at this; exact this.elim
    | ok n w2 =>
     obtain ⟨u, rfl⟩ := val_op hc1 hx
     rw [hx] at this
     obtain ⟨rfl, rfl⟩ := this
     rfl
   ·unfold wpQuiet at h
    rw [if_neg hw] at h
    exact wpAny_first ho (Region.noSelect_spec hsel) (fun c a w hp => absurd hp (hQ _ _ _)) (is.length + g) done a w (Region.free_spec ho hf) (by simpa using hr) (v := undef) (.inr ⟨by simpa using hw, rfl⟩) (ih _ _ hc hB h)
  ·cases hc1
def headL (P : Program) (md : Region.Mode) (ops : Array Oper) (C : World -> Prop) (B : List Nat) (L : Array Bool -> Act -> Prop) : Nat -> Array Bool -> Act -> Prop
 | 0, done, a => L done a
 | f + 1, done, a => Region.ready md ops done ≠ [] /\ ∀ i, i ∈ Region.ready md ops done -> i ∈ B /\ qOp P ops C i (headL P md ops C B L f (done.setIfInBounds i true)) a
variable {C : World -> Prop}
theorem headL_run {B : List Nat} {g : Nat} {L : Array Bool -> Act -> Prop} {Q' : Exit -> Act -> World -> Prop} (hL : ∀ done a w, C w -> L done a -> wpAny P md ops Q' g done a w) :
  ∀ (f : Nat) (done : Array Bool) (a : Act) (w : World), C w -> headL P md ops C B L f done a -> wpAny P md ops Q' (f + g) done a w := by
 intro f
 induction f with
 | zero => intro done a w hw h; rw [Nat.zero_add]; exact hL _ _ _ hw h
 | succ f ih =>
  intro done a w hw h
  rw [Nat.succ_add]
  exact ⟨fun h0 => absurd h0 h.1, fun i hi => wpOp_of_qOp hw (fun a' w' hw' h' => ih _ a' w' hw' h') (h.2 i hi).2⟩
structure InvL (md : Region.Mode) (ops : Array Oper) (done0 : Array Bool) (B : List Nat) (done : Array Bool) : Prop where
 size : done.size = ops.size
 closed : ∀ j oj, ops[j]? = some oj -> done.getD j false = true -> ∀ e ∈ oj.after, Region.binds md e = true -> done.getD e.on false = true
 rest : ∀ t, t ∉ B -> done0.getD t true = false -> done.getD t true = false
theorem InvL.set {done0 done : Array Bool} {B : List Nat} {i : Nat} (inv : InvL md ops done0 B done) (hi : i ∈ Region.ready md ops done) (hB : i ∈ B) : InvL md ops done0 B (done.setIfInBounds i true) := by
 obtain ⟨_, oi, hoi, hall⟩ := mem_ready.1 hi
 refine ⟨by simp [inv.size], fun j oj hj hl e he hb => ?_, fun t ht ht' => by rw [getD_set_ne true (fun h => ht (by subst h; exact hB))]; exact inv.rest t ht ht'⟩
 by_cases hij : i = j
 ·subst hij
  have : oj = oi := Option.some.inj (hj.symm.trans hoi)
  subst this
  exact getD_set_true (hall e he hb)
 ·rw [getD_set_ne false hij] at hl
  exact getD_set_true (inv.closed j oj hj hl e he hb)
theorem gate {done0 done : Array Bool} {B : List Nat} (hg : gateB md ops done0 B = true) (hmono : ∀ t, done0.getD t false = true -> done.getD t false = true) (inv : InvL md ops done0 B done) :
  ∀ (d i : Nat), ops.size - i = d -> i ∈ B -> done.getD i true = false -> ∀ t, t ∈ Region.ready md ops done -> t ∈ B := by
 intro d
 induction d using Nat.strongRecOn with
 | _ d ih =>
  intro i hd hi hun t hr
  obtain ⟨htun, ot, hot, hall⟩ := mem_ready.1 hr
  by_cases hti : t ∈ B
  ·exact hti
  by_cases hend : (B.any fun j => Nat.blt i j && Region.waitsFor md ops j i) = true
  ·obtain ⟨j, hj, h2⟩ := List.any_eq_true.1 hend
   simp only [Bool.and_eq_true] at h2
   obtain ⟨hij, hw⟩ := h2
   have hij := zax hij
   obtain ⟨oj, hoj, e, he, hb, hon⟩ := Region.waitsFor_spec hw
   have hjo : j < ops.size := (Array.getElem?_eq_some_iff.1 hoj).1
   have hjsz : j < done.size := by rw [inv.size]; exact hjo
   cases hl : done.getD j false with
   | true =>
    have h2 := inv.closed j oj hoj hl e he hb
    rw [hon, getD_both hun] at h2
    cases h2
   | false => exact ih (ops.size - j) (by omega) j rfl hj (getD_in hjsz hl) t hr
  ·have hie : i ∈ endsB md ops B := List.mem_filter.2 ⟨hi, by simpa using hend⟩
   have htlt : t < ops.size := (Array.getElem?_eq_some_iff.1 hot).1
   have h1 := List.all_eq_true.1 hg t (List.mem_range.2 htlt)
   rw [hot] at h1
   simp only [Bool.or_eq_true] at h1
   rcases h1 with (h1 | h1) | h1 | h1
   ·have := hmono t h1
    rw [getD_both htun] at this
    cases this
   ·exact absurd (memN_iff.1 h1) hti
   ·obtain ⟨e, he, h2⟩ := Array.any_eq_true'.1 h1
    simp only [Bool.and_eq_true, Bool.not_eq_true'] at h2
    have h3 := hall e he h2.1
    have h7 := inv.rest e.on (fun h => by have := h2.2.1; rw [memN_iff.2 h] at this; cases this) h2.2.2
    rw [getD_both h7] at h3
    cases h3
   ·have h2 := List.all_eq_true.1 h1 i hie
    obtain ⟨ot', hot', e, he, hb, hon⟩ := Region.waitsFor_spec h2
    have : ot' = ot := Option.some.inj (hot'.symm.trans hot)
    subst this
    have h3 := hall e he hb
    rw [hon, getD_both hun] at h3
    cases h3
theorem headL_take {done0 : Array Bool} {B : List Nat} {i : Nat} {o : Oper} {v : Value} {L : Array Bool -> Act -> Prop} (hi : ops[i]? = some o) (hsel : ∀ (j : Nat) (o : Oper) cs b, ops[j]? = some o -> o.op ≠ .select cs b)
  (hg : gateB md ops done0 B = true) (hin : i ∈ B) (hL : ∀ done a, L done a -> ∀ j, j ∈ Region.ready md ops done -> j ∉ B) :
  ∀ (f : Nat) (done : Array Bool) (a : Act), (∀ t, done0.getD t false = true -> done.getD t false = true) -> InvL md ops done0 B done ->
   (∀ j oj, ops[j]? = some oj -> j ≠ i -> done.getD j true = false -> (∀ e ∈ oj.after, Region.binds md e = true -> e.on ≠ i) -> o.apart ops oj = true) ->
   i ∈ Region.ready md ops done -> YieldsIn P ops C o v a -> headL P md ops C B L f (done.setIfInBounds i true) (a.put o.dst v) -> headL P md ops C B L (f + 1) done a := by
 intro f
 induction f with
 | zero =>
  intro done a hm inv _ hr hy H
  have hun := (mem_ready.1 hr).1
  refine ⟨fun h0 => (by rw [h0] at hr; cases hr), fun j hj => ?_⟩
  have hjB : j ∈ B := gate hg hm inv _ i rfl hin hun j hj
  refine ⟨hjB, ?_⟩
  by_cases e : j = i
  ·subst e; exact hy.qOp hi H
  ·exact absurd hjB (hL _ _ H j (ready_mono hj e))
 | succ f ih =>
  intro done a hm inv hfree hr hy H
  have hun := (mem_ready.1 hr).1
  refine ⟨fun h0 => (by rw [h0] at hr; cases hr), fun j hj => ?_⟩
  have hjB : j ∈ B := gate hg hm inv _ i rfl hin hun j hj
  refine ⟨hjB, ?_⟩
  by_cases e : j = i
  ·subst e; exact hy.qOp hi H
  obtain ⟨hjun, oj, hoj, hall⟩ := mem_ready.1 hj
  have hap := hfree j oj hoj e hjun fun d hd hb hq => by
   have h1 := hall d hd hb
   rw [hq, getD_both hun] at h1
   cases h1
  refine qOp_mono (fun a' h3 => ih (done.setIfInBounds j true) a' (fun t ht => getD_set_true (hm t ht)) (inv.set hj hjB) (fun k ok hk hki hku hno => hfree k ok hk hki ?_ hno) (ready_mono hr (Ne.symm e)) h3.1 ?_)
   (qOp_put hoj hap (fun cs b => hsel i o cs b hi) (fun cs b => hsel j oj cs b hoj) hy (H.2 j (ready_mono hj e)).2)
  ·by_cases q : j = k
   ·subst q; exact hjun
   ·rwa [getD_set_ne true q] at hku
  ·rw [Array.setIfInBounds_comm _ _ e]; exact h3.2
theorem oneB_ready {C : List Nat} {done : Array Bool} (h : oneB md ops C done = true) {j : Nat} (hj : j ∈ Region.ready md ops done) : j ∈ C := by
 cases C with
 | nil => simp only [oneB, List.isEmpty_iff] at h; rw [h] at hj; cases hj
 | cons i is =>
  simp only [oneB, Bool.and_eq_true, decide_eq_true_eq] at h
  rw [h.1] at hj
  cases hj with
  | head => exact List.mem_cons_self
  | tail _ h => cases h
theorem headL_lex {done0 : Array Bool} {B : List Nat} {KB : Array Bool -> Bool} {Lq : Act -> Prop} (hsel : Region.noSelect ops = true) (hg : gateB md ops done0 B = true) (hCB : ∀ d j, KB d = true -> j ∈ Region.ready md ops d -> j ∉ B) :
  ∀ (l : List Nat) (done : Array Bool) (a : Act), (∀ i ∈ l, i ∈ B) -> (∀ t, done0.getD t false = true -> done.getD t false = true) -> InvL md ops done0 B done -> headB md ops KB l done = true ->
   wpQuiet P ops C Lq (pickO ops l) a -> headL P md ops C B (fun d a' => KB d = true /\ Lq a') l.length done a := by
 intro l
 induction l with
 | nil => intro done a _ _ _ hB h; exact ⟨hB, h⟩
 | cons i l ih =>
  intro done a hlB hm inv hB h
  unfold headB at hB
  simp only [Bool.and_eq_true] at hB
  obtain ⟨⟨hr, hf⟩, hB⟩ := hB
  have hr' : i ∈ Region.ready md ops done := by simpa using hr
  obtain ⟨_, o, h0, _⟩ := mem_ready.1 hr'
  unfold pickO at h
  rw [h0] at h
  obtain ⟨v, hy, hK⟩ := yieldsIn_of_qOp (K := wpQuiet P ops C Lq (pickO ops l)) h0 (by unfold qOp; rw [h0]; exact h)
  have hi := hlB i List.mem_cons_self
  exact headL_take h0 (Region.noSelect_spec hsel) hg hi (fun d a' hL j hj => hCB d j hL.1 hj) l.length done a hm inv (Region.free_spec h0 hf) hr' hy
   (ih _ _ (fun k hk => hlB k (List.mem_cons_of_mem _ hk)) (fun t ht => getD_set_true (hm t ht)) (inv.set hr' hi) hB hK)
theorem wpAny_one {Q' : Exit -> Act -> World -> Prop} : ∀ (l : List Nat) (done : Array Bool) (a : Act) (w : World), oneB md ops l done = true -> wpList P ops Q' (pickO ops l) a w -> wpAny P md ops Q' l.length done a w
 | [], _, _, _, hB, h => ⟨by simpa [oneB] using hB, h⟩
 | i :: l, done, a, w, hB, h => by
  simp only [oneB, Bool.and_eq_true, decide_eq_true_eq] at hB
  have hi : i ∈ Region.ready md ops done := by rw [hB.1]; exact List.mem_cons_self
  obtain ⟨_, o, h0, _⟩ := mem_ready.1 hi
  unfold pickO at h
  rw [h0] at h
  refine ⟨fun h1 => (by rw [hB.1] at h1; cases h1), fun k hk => ?_⟩
  rw [hB.1] at hk
  have hki : k = i := by simpa using hk
  subst hki
  have hw : wpOp P ops Q' k (wpList P ops Q' (pickO ops l)) a w := by unfold wpOp; simp only [h0]; exact h
  exact wpOp_mono (fun a' w' h' => wpAny_one l _ a' w' hB.2 h') hw
theorem closedB_spec {done : Array Bool} (h : closedB md ops done = true) : ∀ j oj, ops[j]? = some oj -> done.getD j false = true -> ∀ e ∈ oj.after, Region.binds md e = true -> done.getD e.on false = true := by
 intro j oj hj hd e he hb
 have h1 := List.all_eq_true.1 h j (List.mem_range.2 (Array.getElem?_eq_some_iff.1 hj).1)
 rw [hj] at h1
 simp only [Bool.or_eq_true, Bool.not_eq_true'] at h1
 rcases h1 with h1 | h1
 ·rw [hd] at h1; cases h1
 ·have h2 := Array.all_eq_true_iff_forall_mem.1 h1 e he
  simp only [Bool.or_eq_true, Bool.not_eq_true'] at h2
  rcases h2 with h2 | h2
  ·rw [hb] at h2; cases h2
  ·exact h2
theorem headB_size {Ka : Array Bool -> Bool} {n : Nat} : ∀ (l : List Nat) (done : Array Bool), done.size = n -> headB md ops Ka l done = true -> headB md ops (fun d => Ka d && decide (d.size = n)) l done = true
 | [], d, hs, hh => by
  show (Ka d && decide (d.size = n)) = true
  rw [show Ka d = true from hh, decide_eq_true hs]; rfl
 | i :: l, d, hs, hh => by
  unfold headB at hh ⊢
  simp only [Bool.and_eq_true] at hh ⊢
  exact ⟨hh.1, headB_size l _ (by simpa using hs) hh.2⟩
theorem wp_region_mixG {id g : Nat} {Q : Exit -> Act -> World -> Prop} {a : Act} {w : World} {l : List Oper} (A B rdy : List Nat) (KB : Array Bool -> Bool) (W : Act -> World -> Prop) (hm : P.follows .mixedOrders = true) (hB : mixG .any l.toArray A B rdy KB = true)
  (hrd : ∀ d j, KB d = true -> j ∈ Region.ready .any l.toArray d -> j ∈ rdy) (hQ : ∀ e a w, Q e a w -> e = .normal) (hW : ∀ d a w, KB d = true -> W a w -> wpAny P .any l.toArray Q g d a w) (hn : A.length + (B.length + g) = l.length)
  (hC : C { w with drawn := w.drawn + 1 })
  (h : wpQuiet P l.toArray (fun _ => True) (wpQuiet P l.toArray C (fun a' => ∀ w', C w' -> W a' w') (pickO l.toArray B)) (pickO l.toArray A) a) :
  (Code.region id l.toArray true).wp P Q a w := by
 unfold mixG at hB
 simp only [Bool.and_eq_true] at hB
 obtain ⟨⟨⟨hsel, hcalm⟩, hCB⟩, hA⟩ := hB
 have hCB' : ∀ d j, KB d = true -> j ∈ Region.ready .any l.toArray d -> j ∉ B := fun d j hd hj hb => by
  have := List.all_eq_true.1 hCB j (hrd d j hd hj)
  rw [memN_iff.2 hb] at this
  cases this
 have hA' := headB_size (n := l.toArray.size) A _ (by simp) hA
 have R := wpAny_calm (g := B.length + g) (Q := Q) hsel (fun c a w h => Exit.noConfusion (hQ _ _ _ h)) (w := { w with drawn := w.drawn + 1 }) (K := wpQuiet P l.toArray C (fun a' => ∀ w', C w' -> W a' w') (pickO l.toArray B)) (fun done a hk hK => ?_) A _ a hcalm hA' h
 ·rw [hn] at R
  refine wp_region_any hm ?_
  simpa using R
 ·simp only [Bool.and_eq_true, decide_eq_true_eq] at hk
  obtain ⟨hk, hsz⟩ := hk
  split at hk
  ·rename_i hb
   have hb : B = [] := by simpa using hb
   subst hb
   rw [List.length_nil, Nat.zero_add]
   exact hW done a _ hk (hK _ hC)
  ·rename_i s r hb
   simp only [Bool.and_eq_true] at hk
   obtain ⟨⟨h1, h2⟩, h3⟩ := hk
   have inv : InvL .any l.toArray done B done := ⟨hsz, closedB_spec h1, fun t _ ht => ht⟩
   exact headL_run (fun d a' w' hw' hL => hW d a' w' hL.1 (hL.2 w' hw')) _ _ _ _ hC (headL_lex hsel h2 hCB' B done a (fun i hi => hi) (fun t ht => ht) inv h3 hK)
def OnlyN (Q : Exit -> Act -> World -> Prop) : Exit -> Act -> World -> Prop := fun e a w => e = .normal /\ Q .normal a w
theorem wp_region_mix {id : Nat} {Q : Exit -> Act -> World -> Prop} {a : Act} {w : World} {l : List Oper} (A B Ct : List Nat) (hm : P.follows .mixedOrders = true) (hB : mixB .any l.toArray A B Ct = true) (hn : A.length + (B.length + Ct.length) = l.length)
  (hC : C { w with drawn := w.drawn + 1 })
  (h : wpQuiet P l.toArray (fun _ => True) (wpQuiet P l.toArray C (fun a' => ∀ w', C w' -> wpList P l.toArray (OnlyN Q) (pickO l.toArray Ct) a' w') (pickO l.toArray B)) (pickO l.toArray A) a) :
  (Code.region id l.toArray true).wp P Q a w :=
 Code.wp_mono (Q := OnlyN Q) (fun e a w h => by obtain ⟨rfl, h⟩ := h; exact h)
  (wp_region_mixG A B Ct (oneB .any l.toArray Ct) _ hm hB (fun d j hd hj => oneB_ready hd hj) (fun e a w h => h.1) (fun d a w hd hW => wpAny_one Ct d a w hd hW) hn hC h)
/-! One that may come up behind others that leave what it reads. -/
def flt (P : Program) (ops : Array Oper) (Q : Exit -> Act -> World -> Prop) (o : Oper) (d : Nat) (C2 : List Nat) : List Nat -> Act -> World -> Prop
 | [], a, w => wpList P ops Q (pickO ops C2) a w
 | c :: C1, a, w => wpOp P ops Q c (fun a' w' => (execOp a'.eval o).run P w' = .ok (.value (a'.tmps.getD d undef)) w' /\ flt P ops Q o d C2 C1 a' w') a w
def floatB (md : Region.Mode) (ops : Array Oper) (i : Nat) (C2 : List Nat) : List Nat -> Array Bool -> Bool
 | [], done => decide (Region.ready md ops done = [i]) && oneB md ops C2 (done.setIfInBounds i true)
 | c :: C1, done => ((Region.ready md ops done).all fun j => Nat.beq j i || Nat.beq j c) && (Region.ready md ops done).contains i && Region.free md ops done i && oneB md ops (c :: C1 ++ C2) (done.setIfInBounds i true) && floatB md ops i C2 C1 (done.setIfInBounds c true)
theorem flt_one {Q : Exit -> Act -> World -> Prop} {o : Oper} {d : Nat} {C2 : List Nat} : ∀ (C1 : List Nat) (done : Array Bool) (a : Act) (w : World), oneB md ops (C1 ++ C2) done = true -> flt P ops Q o d C2 C1 a w -> wpAny P md ops Q (C1.length + C2.length) done a w
 | [], done, a, w, hB, h => by rw [List.length_nil, Nat.zero_add]; exact wpAny_one C2 done a w hB h
 | c :: C1, done, a, w, hB, h => by
  simp only [List.cons_append, oneB, Bool.and_eq_true, decide_eq_true_eq] at hB
  rw [List.length_cons, Nat.succ_add]
  refine ⟨fun h1 => (by rw [hB.1] at h1; cases h1), fun k hk => ?_⟩
  rw [hB.1] at hk
  have hkc : k = c := by simpa using hk
  subst hkc
  exact wpOp_mono (fun a' w' h' => flt_one C1 _ a' w' hB.2 h'.2) h
structure KeepO (o : Oper) (a a' : Act) : Prop where
 exec : execOp a'.eval o = execOp a.eval o
 size : a'.tmps.size = a.tmps.size
theorem KeepO.put {oi : Oper} {a : Act} {dst : Option Nat} {u : Value} (hsi : ∀ cs b, oi.op ≠ .select cs b) (h3 : ∀ d, dst = some d -> d ∉ oi.looksAt ops) : KeepO oi a (a.put dst u) :=
 ⟨execOp_put oi hsi a dst u h3, by cases dst <;> simp [Act.put]⟩
theorem KeepO.trans {oi : Oper} {a b c : Act} (h : KeepO oi a b) (k : KeepO oi b c) : KeepO oi a c := ⟨k.exec.trans h.exec, k.size.trans h.size⟩
theorem wpOp_float {Q Q' : Exit -> Act -> World -> Prop} {j : Nat} {oi oj : Oper} {v : Value} (hj : ops[j]? = some oj) (hap : oi.apart ops oj = true)
  (hsi : ∀ cs b, oi.op ≠ .select cs b) (hsj : ∀ cs b, oj.op ≠ .select cs b) (hQ : ∀ e a w, Q e a w -> e = .normal) {K : Act -> World -> Prop} {a : Act} {w : World} (h : wpOp P ops Q j K (a.put oi.dst v) w) :
  wpOp P ops Q' j (fun a' w' => KeepO oi a a' /\ K (a'.put oi.dst v) w') a w := by
 obtain ⟨h1, h2, h3⟩ := Oper.apart_spec hap
 have keep : ∀ u, KeepO oi a (a.put oj.dst u) := fun u => KeepO.put hsi h3
 have hlo : ¬ LetsOut Q := fun ⟨a, w, h⟩ => Exit.noConfusion (hQ _ _ _ h)
 unfold wpOp at *
 simp only [hj] at *
 rw [wanted_put oj a oi.dst v h1] at h
 split
 ·rename_i hw
  simp only [hw, if_true] at h
  rcases h with h | ⟨_, hlets⟩
  case inr => exact absurd hlets hlo
  refine .inl ?_
  unfold Oper.wp at *
  rw [execOp_put oj hsj a oi.dst v h1] at h
  generalize (execOp a.eval oj).run P w = r at *
  cases r with
  | ok n w' =>
   cases n <;> simp only [Oper.upon] at h ⊢
   case value u => exact ⟨keep u, by rw [<- Act.put_comm a v u h2]; exact h⟩
   case skip => exact ⟨keep _, by rw [<- Act.put_comm a v undef h2]; exact h⟩
   case defer d =>
    refine ⟨KeepO.trans (b := { a with defers := d :: a.defers }) ⟨rfl, rfl⟩ (KeepO.put hsi h3), ?_⟩
    rw [<- Act.put_comm _ v undef h2, <- Act.put_defers]
    exact h
   case enter f args =>
    refine Calls.mono h fun e w'' he => ?_
    cases e with
    | returned u => exact ⟨keep u, by rw [<- Act.put_comm a v u h2]; exact he⟩
    | panicked c => cases hQ _ _ _ he
    | outgrown => exact absurd he hlo
   case row row args => exact Rows.mono h fun u w'' he => ⟨keep u, by rw [<- Act.put_comm a v u h2]; exact he⟩
  | halt x w' =>
   cases x <;> simp only [Oper.upon] at h ⊢
   case panic u => cases hQ _ _ _ h
 ·rename_i hw
  simp only [hw] at h
  exact ⟨keep _, by rw [<- Act.put_comm a v undef h2]; exact h⟩
theorem wpAny_float {Q : Exit -> Act -> World -> Prop} {i d : Nat} {o : Oper} {v : Value} {C2 : List Nat} (hi : ops[i]? = some o) (hd : o.dst = some d) (hgd : o.guard = none) (hlk : d ∉ o.looksAt ops) (hsel : Region.noSelect ops = true) (hQ : ∀ e a w, Q e a w -> e = .normal) :
  ∀ (C1 : List Nat) (done : Array Bool) (a : Act) (w : World), floatB md ops i C2 C1 done = true -> d < a.tmps.size -> (execOp a.eval o).run P w = .ok (.value v) w -> flt P ops Q o d C2 C1 (a.put o.dst v) w ->
   wpAny P md ops Q (C1.length + C2.length + 1) done a w := by
 have hnow : ∀ (done : Array Bool) (a : Act) (w : World) (C1 : List Nat), (execOp a.eval o).run P w = .ok (.value v) w -> oneB md ops (C1 ++ C2) (done.setIfInBounds i true) = true -> flt P ops Q o d C2 C1 (a.put o.dst v) w ->
   wpOp P ops Q i (wpAny P md ops Q (C1.length + C2.length) (done.setIfInBounds i true)) a w := fun done a w C1 hr hB h => by
  unfold wpOp
  simp only [hi]
  have hw : Region.wanted o (yielded ops a.tmps) = true := by unfold Region.wanted; rw [hgd]
  rw [if_pos hw]
  refine .inl ?_
  unfold Oper.wp
  rw [hr]
  exact flt_one C1 _ _ _ hB h
 intro C1
 induction C1 with
 | nil =>
  intro done a w hB hsz hr h
  simp only [floatB, Bool.and_eq_true, decide_eq_true_eq] at hB
  refine ⟨fun h1 => (by rw [hB.1] at h1; cases h1), fun k hk => ?_⟩
  rw [hB.1] at hk
  have hki : k = i := by simpa using hk
  subst hki
  exact hnow done a w [] hr hB.2 h
 | cons c C1 ih =>
  intro done a w hB hsz hr h
  simp only [floatB, Bool.and_eq_true] at hB
  obtain ⟨⟨⟨⟨hall, hc⟩, hf⟩, hone⟩, hB⟩ := hB
  have hri : i ∈ Region.ready md ops done := by simpa using hc
  refine ⟨fun h1 => (by rw [h1] at hri; cases hri), fun k hk => ?_⟩
  by_cases hki : k = i
  ·subst hki
   exact hnow done a w (c :: C1) hr hone h
  ·have := List.all_eq_true.1 hall k hk
   rw [Bool.or_eq_true] at this
   have hkc : k = c := by
    rcases this with h1 | h1
    ·exact absurd (Nat.eq_of_beq_eq_true h1) hki
    ·exact Nat.eq_of_beq_eq_true h1
   subst hkc
   obtain ⟨hun, ok, hok, hwait⟩ := mem_ready.1 hk
   have hap : o.apart ops ok = true := Region.free_spec hi hf k ok hok hki hun fun e he hb hon => by
    have h1 := hwait e he hb
    rw [hon, getD_both (mem_ready.1 hri).1] at h1
    cases h1
   have hsi : ∀ cs b, o.op ≠ .select cs b := fun cs b => Region.noSelect_spec hsel i o cs b hi
   rw [show (k :: C1).length + C2.length = (C1.length + C2.length) + 1 by simp only [List.length_cons]; omega]
   refine wpOp_mono (fun a' w' h' => ?_) (wpOp_float (Q' := Q) hok hap hsi (fun cs b => Region.noSelect_spec hsel k ok cs b hok) hQ h)
   obtain ⟨hk', hrd, hfl⟩ := h'
   have hsz' : d < a'.tmps.size := by rw [hk'.size]; exact hsz
   refine ih _ a' w' hB hsz' ?_ hfl
   rw [execOp_put o hsi a' o.dst v (fun x hx => by rw [hd] at hx; cases hx; exact hlk)] at hrd
   rw [hrd, hd]
   simp [Act.put, hsz']
def fltI (md : Region.Mode) (ops : Array Oper) (A B : List Nat) (i : Nat) (C1 C2 : List Nat) : Bool := mixG md ops A B (i :: C1 ++ C2) (floatB md ops i C2 C1)
theorem floatB_ready {i : Nat} {C1 C2 : List Nat} {done : Array Bool} (h : floatB md ops i C2 C1 done = true) {j : Nat} (hj : j ∈ Region.ready md ops done) : j ∈ i :: C1 ++ C2 := by
 cases C1 with
 | nil =>
  simp only [floatB, Bool.and_eq_true, decide_eq_true_eq] at h
  rw [h.1] at hj
  have : j = i := by simpa using hj
  subst this
  simp
 | cons c C1 =>
  simp only [floatB, Bool.and_eq_true] at h
  have := List.all_eq_true.1 h.1.1.1.1 j hj
  rw [Bool.or_eq_true] at this
  rcases this with h1 | h1
  ·rw [Nat.eq_of_beq_eq_true h1]; simp
  ·rw [Nat.eq_of_beq_eq_true h1]; simp
theorem wp_region_float {id : Nat} {Q : Exit -> Act -> World -> Prop} {a : Act} {w : World} {l : List Oper} (A B : List Nat) (i : Nat) (C1 C2 : List Nat) {o : Oper} {d : Nat} (hm : P.follows .mixedOrders = true) (hB : fltI .any l.toArray A B i C1 C2 = true)
  (hn : A.length + (B.length + (C1.length + C2.length + 1)) = l.length) (hi : l[i]? = some o) (hd : o.dst = some d) (hgd : o.guard = none) (hlk : (o.looksAt l.toArray).contains d = false)
  (hC : C { w with drawn := w.drawn + 1 })
  (h : wpQuiet P l.toArray (fun _ => True) (wpQuiet P l.toArray C (fun a' => ∀ w', C w' -> d < a'.tmps.size /\ ∃ v, (execOp a'.eval o).run P w' = .ok (.value v) w' /\ flt P l.toArray (OnlyN Q) o d C2 C1 (a'.put o.dst v) w') (pickO l.toArray B)) (pickO l.toArray A) a) :
  (Code.region id l.toArray true).wp P Q a w := by
 have hsel : Region.noSelect l.toArray = true := by
  unfold fltI mixG at hB
  simp only [Bool.and_eq_true] at hB
  exact hB.1.1.1
 exact Code.wp_mono (Q := OnlyN Q) (fun e a w h => by obtain ⟨rfl, h⟩ := h; exact h)
  (wp_region_mixG A B (i :: C1 ++ C2) (floatB .any l.toArray i C2 C1) _ hm hB (fun d j hd hj => floatB_ready hd hj) (fun e a w h => h.1)
   (fun d' a w hd' hW => by
    obtain ⟨hsz, v, hr, hf⟩ := hW
    exact wpAny_float (by simpa using hi) hd hgd (by simpa using hlk) hsel (fun e a w h => h.1) C1 d' a w hd' hsz hr hf) hn hC h)
end
end Go.Ev
namespace Go.Ev
open Go Go.RowKit
variable [Dr]
variable {cx : Cx} {m : Nat -> Value} {st st' : St} {T : Array Value} {w w' : World} {E : Env} {Q : Post} {ops : Array Oper} {l : List Oper}
def isBin (o : Oper) : Bool := match o.op with
 | .binOp _ _ _ _ _ => true
 | _ => false
def calmT (P : Program) (o : Oper) (s : SV) : Bool := isBin o || calmS P o s
theorem bin_calm (h : Rm cx m st T w) {o : Oper} {orc : List TV} {r : PR} (hb : isBin o = true) (hev : evP cx.P st o.op orc = some r) (hob : allP r.ob) :
  ∃ v, (∀ w', (execOp (Act.eval ⟨T, []⟩) o).run cx.P w' = .ok (.value v) w') /\ repS w (Mut cx m st.ids) m v r.sv := by
 unfold isBin at hb
 split at hb
 case h_2 => cases hb
 rename_i op t x y t' hop
 rw [hop] at hev
 simp only [evP] at hev
 split at hev
 ·rename_i a b ha hb'
  split at hev
  ·rename_i r ob hr
   cases hev
   obtain ⟨v, h1, h2⟩ := bin_sound (ox := x) (oy := y) (za7 h ha) (za7 h hb') hr hob
   exact ⟨v, fun w' => zbk (by simp only [execOp, hop]) (h1 w'), h2 _ _⟩
  ·split at hev
   ·rename_i r ob hr
    cases hev
    obtain ⟨v, h1, h2⟩ := binErr_sound (ox := x) (oy := y) (za7 h ha) (za7 h hb') (fun hy => by subst hy; rfl) hr hob
    exact ⟨v, fun w' => zbk (by simp only [execOp, hop]) (h1 w'), h2 _ _⟩
   ·cases hev
 ·cases hev
theorem evC1_sound (hE : EnvOK E cx) (h : Rm cx m st T w) {o : Oper} {orc : List TV} {r : PR} (hev : evD1 E st o orc = some r) (hob : allP r.ob) (hct : calmT E.P o r.sv = true) :
  ∃ v, (∀ w', (execOp (Act.eval ⟨T, []⟩) o).run cx.P w' = .ok (.value v) w') /\ repS w (Mut cx m st.ids) m v r.sv := by
 cases hbin : isBin o with
 | true =>
  have hev2 : evP cx.P st o.op orc = some r := by
   unfold evD1 at hev
   rw [<- hE.P] at hev
   cases hp : evP cx.P st o.op orc with
   | some r' => rw [hp] at hev; simpa using hev
   | none =>
    rw [hp] at hev
    unfold isBin at hbin
    split at hbin
    case h_2 => cases hbin
    rename_i hop
    simp [rrQ, hop] at hev
  exact bin_calm h hbin hev2 hob
 | false =>
 have hc : calmS E.P o r.sv = true := by unfold calmT at hct; rw [hbin] at hct; simpa using hct
 obtain ⟨v, hq, hv⟩ := evD1_sound hE h hev hob
 refine ⟨v, ?_, hv⟩
 rw [<- hE.P] at hc
 have h1 := hq w (Ext.refl w)
 unfold Oper.quietAt at h1
 have hval : valB o = true := by
  unfold calmS at hc
  split at hc
  ·rename_i hop; unfold valB; rw [hop]
  ·rename_i hop; unfold valB; rw [hop]
  ·simp only [Bool.and_eq_true] at hc; exact hc.1
  ·cases hc
  ·exact hc
 cases hx : (execOp (Act.eval ⟨T, []⟩) o).run cx.P w with
 | halt e w2 => rw [hx] at h1; exact h1.elim
 | ok n w2 =>
  obtain ⟨u, rfl⟩ := val_op hval hx
  rw [hx] at h1
  obtain ⟨rfl, rfl⟩ := h1
  exact (calm_run hc hx hv).2
def evC (E : Env) (ops : Array Oper) : List Oper -> St -> List TV -> Option (St × List TV × List Prop)
 | [], st, orc => some (st, orc, [])
 | o :: l, st, orc => match wantSV ops st o with
  | some true => match o.dst, evD1 E st o orc with
   | some d, some r => match Nat.blt d E.n, calmT E.P o r.sv, evC E ops l (st.put d r.sv) r.orc with
    | true, true, some (st2, orc2, ob2) => some (st2, orc2, r.ob ++ ob2)
    | _, _, _ => none
   | _, _ => none
  | some false => match o.dst with
   | some d => match Nat.blt d E.n with
    | true => evC E ops l (st.put d .undef) orc
    | false => none
   | none => evC E ops l st orc
  | none => none
theorem evC_sound (hE : EnvOK E cx) {Q' : Act -> Prop} : ∀ {l : List Oper} {st : St} {T : Array Value} {orc orc' : List TV} {st' : St} {ob : List Prop}, R cx st T w -> evC E ops l st orc = some (st', orc', ob) -> allP ob ->
  (∀ T', R cx st' T' w -> Q' ⟨T', []⟩) -> wpQuiet cx.P ops (fun _ => True) Q' l ⟨T, []⟩
 | [], st, T, _, _, _, _, h, hev, _, hQ => by
  cases hev
  exact hQ T h
 | o :: l, st, T, orc, orc', st', ob, h, hev, hob, hQ => by
  unfold evC at hev
  unfold wpQuiet
  split at hev
  ·rename_i hw
   rw [zbo h hw]
   simp only [if_true]
   split at hev
   ·rename_i d r hd hr
    split at hev
    ·rename_i st2 orc2 ob2 hdn hcs hl
     cases hev
     obtain ⟨ha, hb⟩ := allP_append hob
     obtain ⟨m, hm⟩ := h
     obtain ⟨v, hq, hv⟩ := evC1_sound hE hm hr ha hcs
     refine ⟨v, fun w' _ => by unfold Oper.quietAt; rw [hq w']; exact ⟨rfl, rfl⟩, ?_⟩
     rw [hd]
     exact evC_sound hE ⟨m, hm.put (by rw [hE.n]; exact zax hdn) hv⟩ hl hb hQ
    ·cases hev
   ·cases hev
  ·rename_i hw
   rw [zbo h hw]
   simp only [Bool.false_eq_true, if_false]
   split at hev
   ·rename_i d hd
    split at hev
    ·rename_i hdn
     obtain ⟨m, hm⟩ := h
     rw [hd]
     exact evC_sound hE ⟨m, hm.put (d := d) (s := .undef) (v := undef) (by rw [hE.n]; exact zax hdn) rfl⟩ hev hob hQ
    ·cases hev
   ·rename_i hd
    rw [hd]
    exact evC_sound hE h hev hob hQ
  ·cases hev
theorem W_mixK {id : Nat} {l : List Oper} (A B Ct : List Nat) (hm : cx.P.follows .mixedOrders = true) (hB : mixB .any l.toArray A B Ct = true) (hn : A.length + (B.length + Ct.length) = l.length)
  (h : ∀ T w, R cx st T w -> wpQuiet cx.P l.toArray (fun _ => True) (wpQuiet cx.P l.toArray (Ext w) (fun a' => ∀ w', Ext w w' -> wpList cx.P l.toArray (OnlyN Q) (pickO l.toArray Ct) a' w') (pickO l.toArray B)) (pickO l.toArray A) ⟨T, []⟩) :
  W cx Q (.region id l.toArray true) st := by
 intro T w hR
 exact wp_region_mix (C := Ext w) A B Ct hm hB hn (Ext.refl w).drew (h T w hR)
/-! Quiet ones again behind those that come one by one. -/
section
variable {P : Program} {md : Region.Mode} {C : World -> Prop}
def oneK (md : Region.Mode) (ops : Array Oper) (K : Array Bool -> Bool) : List Nat -> Array Bool -> Bool
 | [], done => K done
 | i :: is, done => decide (Region.ready md ops done = [i]) && oneK md ops K is (done.setIfInBounds i true)
theorem wpOp_only {Q Q' : Post} {j : Nat} (hQ : ∀ e a w, Q e a w -> e = .normal) {K : Act -> World -> Prop} {a : Act} {w : World} (h : wpOp P ops Q j K a w) : wpOp P ops Q' j K a w := by
 have hlo : ¬ LetsOut Q := fun ⟨a, w, h⟩ => Exit.noConfusion (hQ _ _ _ h)
 unfold wpOp at *
 split
 ·rename_i ho; simp only [ho] at h; exact h
 ·rename_i o ho
  simp only [ho] at h
  split
  ·rename_i hw
   simp only [hw, if_true] at h
   rcases h with h | ⟨_, hlets⟩
   case inr => exact absurd hlets hlo
   refine .inl ?_
   unfold Oper.wp at *
   generalize (execOp a.eval o).run P w = r at *
   cases r with
   | ok n w' =>
    cases n <;> simp only [Oper.upon] at h ⊢
    case value u => exact h
    case skip => exact h
    case defer d => exact h
    case enter f args =>
     refine Calls.mono h fun e w'' he => ?_
     cases e with
     | returned u => exact he
     | panicked c => cases hQ _ _ _ he
     | outgrown => exact absurd he hlo
    case row row args => exact h
   | halt x w' =>
    cases x <;> simp only [Oper.upon] at h ⊢
    case panic u => cases hQ _ _ _ h
  ·rename_i hw
   simp only [hw] at h
   exact h
theorem wpAny_oneK {Q1 Q : Post} {g : Nat} {KD : Array Bool -> Bool} (hQ1 : ∀ e a w, Q1 e a w -> e = .normal) (hK : ∀ d a w, KD d = true -> Q1 .normal a w -> wpAny P md ops Q g d a w) :
  ∀ (l : List Nat) (done : Array Bool) (a : Act) (w : World), oneK md ops KD l done = true -> wpList P ops Q1 (pickO ops l) a w -> wpAny P md ops Q (l.length + g) done a w
 | [], done, a, w, hB, h => by rw [List.length_nil, Nat.zero_add]; exact hK done a w hB h
 | i :: l, done, a, w, hB, h => by
  simp only [oneK, Bool.and_eq_true, decide_eq_true_eq] at hB
  have hi : i ∈ Region.ready md ops done := by rw [hB.1]; exact List.mem_cons_self
  obtain ⟨_, o, h0, _⟩ := mem_ready.1 hi
  unfold pickO at h
  rw [h0] at h
  rw [List.length_cons, Nat.succ_add]
  refine ⟨fun h1 => (by rw [hB.1] at h1; cases h1), fun k hk => ?_⟩
  rw [hB.1] at hk
  have hki : k = i := by simpa using hk
  subst hki
  have hw : wpOp P ops Q1 k (wpList P ops Q1 (pickO ops l)) a w := by unfold wpOp; simp only [h0]; exact h
  exact wpOp_mono (fun a' w' h' => wpAny_oneK hQ1 hK l _ a' w' hB.2 h') (wpOp_only hQ1 hw)
theorem wpAnyQ_list {Q : Act -> Prop} (hs : Region.noSelect ops = true) : ∀ (l : List Nat) (done : Array Bool) (a : Act), headB md ops (fun d => (Region.ready md ops d).isEmpty) l done = true -> wpQuiet P ops C Q (pickO ops l) a -> wpAnyQ P md ops C Q l.length done a
 | [], done, a, hB, h => ⟨by simpa [headB] using hB, h⟩
 | i :: l, done, a, hB, h => by
  unfold headB at hB
  simp only [Bool.and_eq_true] at hB
  obtain ⟨⟨hr, hf⟩, hB⟩ := hB
  have hr' : i ∈ Region.ready md ops done := by simpa using hr
  obtain ⟨_, o, h0, _⟩ := mem_ready.1 hr'
  unfold pickO at h
  rw [h0] at h
  obtain ⟨v, hy, hK⟩ := yieldsIn_of_qOp (K := wpQuiet P ops C Q (pickO ops l)) h0 (by unfold qOp; rw [h0]; exact h)
  exact wpAnyQ_first h0 (Region.noSelect_spec hs) l.length done a (Region.free_spec h0 hf) hr' hy (wpAnyQ_list hs l _ _ hB hK)
end
def mdB (md : Region.Mode) (ops : Array Oper) (A B Ct D : List Nat) : Bool := !Ct.isEmpty && mixG md ops A B Ct (oneK md ops (headB md ops (fun d => (Region.ready md ops d).isEmpty) D) Ct)
def MdQ (cx : Cx) (ops : Array Oper) (D : List Nat) (Q : Post) : Post := fun e a w => e = .normal /\ wpQuiet cx.P ops (Ext w) (fun a' => ∀ w', Ext w w' -> OnlyN Q .normal a' w') (pickO ops D) a
theorem W_mdK {id : Nat} {l : List Oper} (A B Ct D : List Nat) (hm : cx.P.follows .mixedOrders = true) (hB : mdB .any l.toArray A B Ct D = true) (hn : A.length + (B.length + (Ct.length + D.length)) = l.length)
  (h : ∀ T w, R cx st T w -> wpQuiet cx.P l.toArray (fun _ => True) (wpQuiet cx.P l.toArray (Ext w) (fun a' => ∀ w', Ext w w' -> wpList cx.P l.toArray (MdQ cx l.toArray D Q) (pickO l.toArray Ct) a' w') (pickO l.toArray B)) (pickO l.toArray A) ⟨T, []⟩) :
  W cx Q (.region id l.toArray true) st := by
 intro T w hR
 unfold mdB at hB
 rw [Bool.and_eq_true] at hB
 obtain ⟨hne, hB⟩ := hB
 have hsel : Region.noSelect l.toArray = true := by
  unfold mixG at hB
  simp only [Bool.and_eq_true] at hB
  exact hB.1.1.1
 refine Code.wp_mono (Q := OnlyN Q) (fun e a w h => by obtain ⟨rfl, h⟩ := h; exact h)
  (wp_region_mixG (C := Ext w) A B Ct _ _ hm hB (fun d j hd hj => ?_) (fun e a w h => h.1) (fun d a w hd hW => ?_) hn (Ext.refl w).drew (h T w hR))
 ·cases Ct with
  | nil => simp at hne
  | cons i is =>
   simp only [oneK, Bool.and_eq_true, decide_eq_true_eq] at hd
   rw [hd.1] at hj
   have : j = i := by simpa using hj
   subst this
   exact List.mem_cons_self
 ·refine wpAny_oneK (Q1 := MdQ cx l.toArray D Q) (KD := headB .any l.toArray (fun d => (Region.ready .any l.toArray d).isEmpty) D) (fun e a w h => h.1) (fun d a w hd h => ?_) Ct d a w hd hW
  exact wpAny_of_quiet (C := Ext w) (fun a w' hw' h => h w' hw') D.length d a w (Ext.refl w) (wpAnyQ_list hsel D d a hd h.2)
def WCK (cx : Cx) (ops : Array Oper) (K : World -> Act -> Prop) (l : List Oper) (st : St) : Prop := ∀ T w, R cx st T w -> wpQuiet cx.P ops (fun _ => True) (K w) l ⟨T, []⟩
theorem WCK_nil {K : World -> Act -> Prop} (h : ND cx K st) : WCK cx ops K [] st := fun T w hR => h T w hR
theorem WCK_take {K : World -> Act -> Prop} (hE : EnvOK E cx) {o : Oper} {orc : List TV} {ob : List Prop} (hev : evC E ops [o] st orc = some (st', [], ob)) (hob : allP ob) (h : WCK cx ops K l st') : WCK cx ops K (o :: l) st := by
 intro T w hR
 exact zbx (P := cx.P) (ops := ops) (l1 := [o]) (l2 := l) (C := fun _ => True) (Q' := K w) (a := ⟨T, []⟩) (evC_sound hE hR hev hob fun T' hR' => h T' w hR')
theorem WCK_join {α : Type} {K0 : World -> Act -> Prop} (F : α -> Prop) (S : α -> St) (n : Nat) (hy : ∀ a, F a -> WCK cx ops K0 (l.drop n) (S a))
  (hx : ∀ K, (∀ a, F a -> ND cx K (S a)) -> WCK cx ops K (l.take n) st) : WCK cx ops K0 l st := by
 intro T w hR
 have := zbx (P := cx.P) (ops := ops) (l1 := l.take n) (l2 := l.drop n)
  (hx (fun w => wpQuiet cx.P ops (fun _ => True) (K0 w) (l.drop n)) (fun a ha T w hR => hy a ha T w hR) T w hR)
 rwa [List.take_append_drop] at this
/-! One that floats past others. -/
def detS : SV -> Bool
 | .val t _ => t.flat
 | .ptr _ _ => true
 | .row _ => true
 | .osl _ => true
 | _ => false
theorem detS_eq {w : World} {M : Nat -> Prop} {m : Nat -> Value} {v v' : Value} {s : SV} (hd : detS s = true) (h : repS w M m v s) (h' : repS w M m v' s) : v = v' := by
 cases s <;> first | (cases hd; done) | skip
 all_goals unfold repS at h h'
 ·exact flat_detV hd h h'
 ·obtain ⟨g, e1, rfl⟩ := h
  obtain ⟨g', e2, rfl⟩ := h'
  rw [e1] at e2
  injection e2 with e2
  injection e2 with e2
  injection e2 with e2
  rw [e2]
 ·rw [h, h']
 ·obtain ⟨us, e1⟩ := h
  obtain ⟨us', e2⟩ := h'
  rw [e1] at e2
  injection e2 with e2
  have := congrArg Array.toList e2
  simp at this
  exact this.1
def isLd (o : Oper) : Bool := match o.op with
 | .load _ _ => true
 | _ => false
theorem isLd_val {P : Program} {o : Oper} (h : isLd o = true) {ρ : Operand -> Value} {w w1 : World} {n : Next} (hr : (execOp ρ o).run P w = .ok n w1) : ∃ v, n = .value v := by
 unfold isLd at h
 split at h
 ·rename_i t x hop
  simp only [execOp, hop] at hr
  rw [Sem.run_bind] at hr
  generalize Sem.run P (Instr.loadAt t (ρ x)) w = q at hr
  cases q with
  | halt e w2 => cases hr
  | ok v w2 => cases hr; exact ⟨v, rfl⟩
 ·cases h
theorem ld_run (hE : EnvOK E cx) (h : Rm cx m st T w) {o : Oper} (hl : isLd o = true) {orc : List TV} {r : PR} (hev : evD1 E st o orc = some r) (hob : allP r.ob) :
  ∃ v, (∀ w', Ext w w' -> (execOp (Act.eval ⟨T, []⟩) o).run cx.P w' = .ok (.value v) w') /\ repS w (Mut cx m st.ids) m v r.sv := by
 obtain ⟨v, hq, hv⟩ := evD1_sound hE h hev hob
 refine ⟨v, fun w' he => ?_, hv⟩
 have h1 := hq w' he
 unfold Oper.quietAt at h1
 cases hx : (execOp (Act.eval ⟨T, []⟩) o).run cx.P w' with
 | halt e w2 => rw [hx] at h1; exact h1.elim
 | ok n w2 =>
  obtain ⟨u, rfl⟩ := isLd_val hl hx
  rw [hx] at h1
  obtain ⟨rfl, rfl⟩ := h1
  rfl
theorem redo (hE : EnvOK E cx) (hR : R cx st T w) {o : Oper} (hl : isLd o = true) {orc : List TV} {r : PR} (hev : evD1 E st o orc = some r) (hob : allP r.ob) {d : Nat} (hs : look st.sl d = some r.sv) (hd : detS r.sv = true) :
  (execOp (Act.eval ⟨T, []⟩) o).run cx.P w = .ok (.value (T.getD d undef)) w := by
 obtain ⟨m, hm⟩ := hR
 obtain ⟨v, h1, h2⟩ := ld_run hE hm hl hev hob
 obtain ⟨u, h3, h4⟩ := hm.slots d _ (zak hs)
 have := detS_eq hd h2 h4
 subst this
 have e : T.getD d undef = v := by simp [h3]
 rw [e]
 exact h1 w (Ext.refl w)
def FlQ (cx : Cx) (ops : Array Oper) (o : Oper) (d : Nat) (C2 C1 : List Nat) (Q : Post) : Post := fun e a w => e = .normal /\ (execOp a.eval o).run cx.P w = .ok (.value (a.tmps.getD d undef)) w /\ flt cx.P ops (OnlyN Q) o d C2 C1 a w
theorem flt_cons {o oc : Oper} {d c : Nat} {C2 C1 : List Nat} (hc : ops[c]? = some oc) (h : WL cx ops (FlQ cx ops o d C2 C1 Q) [oc] st) (hR : R cx st T w) : flt cx.P ops (OnlyN Q) o d C2 (c :: C1) ⟨T, []⟩ w := by
 have h1 := h T w hR
 refine wpOp_mono (K := FlQ cx ops o d C2 C1 Q .normal) (fun a w h => h.2) (wpOp_only (Q := FlQ cx ops o d C2 C1 Q) (fun e a w h => h.1) ?_)
 unfold wpOp
 rw [hc]
 exact h1
theorem W_floatK {id : Nat} {l : List Oper} (hE : EnvOK E cx) (A B : List Nat) (i : Nat) (C1 C2 : List Nat) {o : Oper} {d : Nat} (hm : E.P.follows .mixedOrders = true) (hB : fltI .any l.toArray A B i C1 C2 = true)
  (hn : A.length + (B.length + (C1.length + C2.length + 1)) = l.length) (hi : l[i]? = some o) (hd : o.dst = some d) (hgd : o.guard = none) (hlk : (o.looksAt l.toArray).contains d = false) (hdn : Nat.blt d E.n = true)
  (h : ∀ T w, R cx st T w -> wpQuiet cx.P l.toArray (fun _ => True) (wpQuiet cx.P l.toArray (Ext w) (fun a' => ∀ w', Ext w w' -> d < a'.tmps.size /\ ∃ v, (execOp a'.eval o).run cx.P w' = .ok (.value v) w' /\ flt cx.P l.toArray (OnlyN Q) o d C2 C1 (a'.put o.dst v) w') (pickO l.toArray B)) (pickO l.toArray A) ⟨T, []⟩) :
  W cx Q (.region id l.toArray true) st := by
 intro T w hR
 exact wp_region_float (C := Ext w) A B i C1 C2 (by rw [hE.P]; exact hm) hB hn hi hd hgd hlk (Ext.refl w).drew (h T w hR)
end Go.Ev
namespace Go.Ev
open Go Go.RowKit
variable [Dr]
section
variable {P : Program} {w w' : World} {M : Nat -> Prop}
theorem mget_app {α β : Type} {eq : α -> α -> Bool} {key : α} {x : β} : ∀ (ps : List (α × β)), mget eq ps key = none -> eq key key = true -> mget eq (ps ++ [(key, x)]) key = some x
 | [], _, h => by simp [mget, h]
 | p :: ps, hn, h => by
  unfold mget at hn
  rw [List.cons_append]
  unfold mget
  cases hb : eq key p.1 with
  | true => rw [hb] at hn; simp at hn
  | false => rw [hb] at hn; simp at hn ⊢; exact mget_app ps hn h
theorem modify_same {α : Type} (f : α -> α) : ∀ (l : List α) (n : Nat) (e : α), l[n]? = some e -> f e = e -> l.modify n f = l
 | [], n, e, h, _ => by simp at h
 | x :: l, 0, e, h, he => by
  simp at h
  subst h
  show f x :: l = x :: l
  rw [he]
 | x :: l, n + 1, e, h, he => by
  rw [List.modify_succ_cons, modify_same f l n e (by simpa using h) he]
theorem eqL_self {α : Type} {f : α -> α -> Bool} (h : ∀ x, f x x = true) : ∀ xs : List α, eqL f xs xs = true
 | [] => rfl
 | x :: xs => by simp only [eqL, h x, eqL_self h xs, Bool.and_self]
theorem eqEl_self : ∀ (t : Ty) (x : t.el), t.flat = true -> eqEl t x x = true := by
 intro t
 induction t with
 | int k => intro x _; exact beq_self_eq_true (α := Int) x
 | bool => intro x _; exact beq_self_eq_true (α := Bool) x
 | str => intro x _; exact beq_self_eq_true (α := List UInt8) x
 | unit => intro x _; rfl
 | pair a b iha ihb =>
  intro x h
  simp only [Ty.flat, Bool.and_eq_true] at h
  simp only [eqEl, iha x.1 h.1, ihb x.2 h.2, Bool.and_self]
 | arr n t ih => intro x h; exact eqL_self (fun y => ih y h) x
 | sl t _ => intro x h; cases h
 | ptr t _ => intro x h; cases h
 | fn f t _ => intro x h; cases h
 | err => intro x h; cases h
 | opq => intro x h; cases h
 | map k v _ _ => intro x h; cases h
theorem lookup_after {mt kt et : TypeId} {d d' : Nat} {u v : Ty} (hm : P.underlying mt = some (.map kt et)) (ht : tyOf P d kt = some u) (hok : eqOK P d' kt = true) (hd : d' <= 10000) (hfl : u.flat = true) (hfv : v.flat = true)
  {z : Value} (hz : ∀ w, (zeroValue et).run P w = .ok z w) (hzr : ∀ w M, repV w M z v (zeroEl v))
  {kv : Value} {key : u.el} (hk : repV w M kv u key) {g : Nat} {es : Array MapEntry} {clock : Nat} {ps : List (u.el × v.el)}
  (hg : w.heap[g]? = some (.map es clock)) (hr : repM (repV' w M u) (repV' w M v) es.toList ps)
  {t : Value} {w1 : World} (hrun : (Instr.mapEntry mt (.map (some g)) kv).run P w = .ok t w1) :
  ∃ r, repV w M r v ((mget (eqEl u) ps key).getD (zeroEl v)) /\ (Instr.lookup mt (.map (some g)) kv false).run P w = .ok r w /\ (Instr.lookup mt (.map (some g)) kv false).run P w1 = .ok r w1 := by
 obtain ⟨r, h1, h2⟩ := lookup_val hm ht hok hd hz hzr hk hr
 have h3 := h2 w (.map (some g)) (.inr ⟨g, clock, rfl, hg⟩) false
 simp only [Bool.false_eq_true, if_false] at h3
 refine ⟨r, h1, h3, ?_⟩
 have hc := zbe (P := P) false d kt u ht d' hok 10000 hd w w M kv key hk
 have hf := findKey_sound ht hok hd hk w hr
 have hobj : (getObj g).run P w = .ok (.map es clock) w := by simp [getObj, Sem.run, hg]
 have hset : ∀ o, (setObj g o).run P w = .ok () { w with heap := w.heap.setIfInBounds g o } := fun o => by simp [setObj, Sem.run, hg]
 have hlt := zad hg
 have fin : ∀ (es1 : Array MapEntry) (clock1 : Nat) (ps1 : List (u.el × v.el)), repM (repV' w M u) (repV' w M v) es1.toList ps1 -> (mget (eqEl u) ps1 key).getD (zeroEl v) = (mget (eqEl u) ps key).getD (zeroEl v) ->
   (Instr.lookup mt (.map (some g)) kv false).run P { w with heap := w.heap.setIfInBounds g (.map es1 clock1) } = .ok r { w with heap := w.heap.setIfInBounds g (.map es1 clock1) } := by
  intro es1 clock1 ps1 hr1 hm1
  obtain ⟨r1, k1, k2⟩ := lookup_val hm ht hok hd hz hzr hk hr1
  have k3 := k2 { w with heap := w.heap.setIfInBounds g (.map es1 clock1) } (.map (some g)) (.inr ⟨g, clock1, rfl, by show (w.heap.setIfInBounds g _)[g]? = _; rw [Array.getElem?_setIfInBounds_self_of_lt hlt]⟩) false
  simp only [Bool.false_eq_true, if_false] at k3
  rw [hm1] at k1
  rw [flat_detV hfv h1 k1]
  exact k3
 rcases fkx_set (kv := kv) (vv := z) (val := zeroEl v) (eq := eqEl u) (key := key) hk (hzr w M) es.toList ps 0 hr with ⟨e1, e2⟩ | ⟨n, e, q, e1, e2, e3, e4, e5⟩
 ·rw [e1] at hf
  unfold Instr.mapEntry at hrun
  simp only [Sem.run_bind, run_underlying hm, Result.andThen_ok, hobj, hc, hf, hset, hz, Sem.run_pure] at hrun
  cases hrun
  have hnone : mget (eqEl u) ps key = none := by
   rcases fkx_get (eq := eqEl u) (key := key) es.toList ps 0 hr with ⟨_, h⟩ | ⟨n, e, y, h, _⟩
   ·exact h
   ·rw [e1] at h; cases h
  refine fin _ _ (ps ++ [(key, zeroEl v)]) ?_ ?_
  ·rw [Array.toList_push]
   exact repM_app hr ⟨hk, hzr _ _, trivial⟩
  ·rw [mget_app ps hnone (eqEl_self u key hfl), hnone]
   rfl
 ·rw [e1, Nat.zero_add] at hf
  have heq : key = q := eqEl_eq u e4
  subst heq
  have hkk : e.key = kv := flat_detV hfl e3 hk
  have hget : es[n]? = some e := by rw [<- Array.getElem?_toList]; exact e2
  have hold : ((es[n]?).map (·.key)).getD kv = kv := by rw [hget]; simp [hkk]
  have hst : ∀ w2, (Instr.keyThatStays kv kv).run P w2 = .ok kv w2 := fun w2 => by
   unfold Instr.keyThatStays
   rw [if_pos (flat_same hfl hk)]
   rfl
  have hsame : es.modify n (fun e => { e with key := kv }) = es := by
   apply Array.ext'
   rw [Array.toList_modify]
   exact modify_same _ es.toList n e e2 (by rw [<- hkk])
  unfold Instr.mapEntry at hrun
  simp only [Sem.run_bind, run_underlying hm, Result.andThen_ok, hobj, hc, hf, hold, hst, hset, Sem.run_pure, hsame] at hrun
  cases hrun
  exact fin es clock ps hr rfl
end
section
variable {P : Program} {ops : Array Oper} {md : Region.Mode} {Q : Exit -> Act -> World -> Prop}
theorem wpl_value {o : Oper} {l : List Oper} {a : Act} {w w' : World} {v : Value} (hg : o.guard = none) (hr : (execOp a.eval o).run P w = .ok (.value v) w') (h : wpList P ops Q l (a.put o.dst v) w') : wpList P ops Q (o :: l) a w := by
 unfold wpList
 rw [if_pos (show Region.wanted o (yielded ops a.tmps) = true from by unfold Region.wanted; rw [hg])]
 refine .inl ?_
 unfold Oper.wp
 rw [hr]
 exact h
theorem wpl_skip {o : Oper} {l : List Oper} {a : Act} {w w' : World} (hg : o.guard = none) (hr : (execOp a.eval o).run P w = .ok .skip w') (h : wpList P ops Q l (a.put o.dst undef) w') : wpList P ops Q (o :: l) a w := by
 unfold wpList
 rw [if_pos (show Region.wanted o (yielded ops a.tmps) = true from by unfold Region.wanted; rw [hg])]
 refine .inl ?_
 unfold Oper.wp
 rw [hr]
 exact h
structure Cnt5 where
 o2 : Oper
 o3 : Oper
 o4 : Oper
 o5 : Oper
 o6 : Oper
 d2 : Nat
 d3 : Nat
 d4 : Nat
 d5 : Nat
def Cnt5.ok (C : Cnt5) (ops : Array Oper) : Bool :=
 C.o2.guard.isNone && (C.o3.guard.isNone && (C.o4.guard.isNone && (C.o5.guard.isNone && (C.o6.guard.isNone &&
 (decide (C.o2.dst = some C.d2) && (decide (C.o3.dst = some C.d3) && (decide (C.o4.dst = some C.d4) && (decide (C.o5.dst = some C.d5) && (decide (C.o6.dst = none) &&
 (!(C.o2.looksAt ops).contains C.d4 && (!(C.o2.looksAt ops).contains C.d5 && (!(C.o3.looksAt ops).contains C.d4 && (!(C.o3.looksAt ops).contains C.d5 &&
 (!(C.o4.looksAt ops).contains C.d2 && (!(C.o4.looksAt ops).contains C.d3 && (!(C.o5.looksAt ops).contains C.d2 && (!(C.o5.looksAt ops).contains C.d3 &&
 (!Nat.beq C.d2 C.d4 && (!Nat.beq C.d2 C.d5 && (!Nat.beq C.d3 C.d4 && !Nat.beq C.d3 C.d5))))))))))))))))))))
def cn5 (ops : Array Oper) (c2 c3 c4 c5 c6 : Nat) : Option Cnt5 := match ops[c2]?, ops[c3]?, ops[c4]?, ops[c5]?, ops[c6]? with
 | some o2, some o3, some o4, some o5, some o6 => match o2.dst, o3.dst, o4.dst, o5.dst with
  | some d2, some d3, some d4, some d5 => match Cnt5.ok ⟨o2, o3, o4, o5, o6, d2, d3, d4, d5⟩ ops with
   | true => some ⟨o2, o3, o4, o5, o6, d2, d3, d4, d5⟩
   | false => none
  | _, _, _, _ => none
 | _, _, _, _, _ => none
structure CnFacts (P : Program) (Q : Exit -> Act -> World -> Prop) (C : Cnt5) (a : Act) (w : World) (v2 v3 v4 v5 : Value) (w1 w2 : World) : Prop where
 r2 : (execOp a.eval C.o2).run P w = .ok (.value v2) w
 r2' : (execOp a.eval C.o2).run P w1 = .ok (.value v2) w1
 r3 : ∀ w', (execOp (a.put (some C.d2) v2).eval C.o3).run P w' = .ok (.value v3) w'
 r4 : (execOp a.eval C.o4).run P w = .ok (.value v4) w1
 r5 : ∀ w', (execOp (a.put (some C.d4) v4).eval C.o5).run P w' = .ok (.value v5) w'
 r6 : (execOp ((((a.put (some C.d2) v2).put (some C.d3) v3).put (some C.d4) v4).put (some C.d5) v5).eval C.o6).run P w1 = .ok .skip w2
 fin : Q .normal ((((a.put (some C.d2) v2).put (some C.d3) v3).put (some C.d4) v4).put (some C.d5) v5) w2
def cntB (md : Region.Mode) (ops : Array Oper) (c2 c3 c4 c5 c6 : Nat) (done : Array Bool) : Bool :=
 ((Region.ready md ops done).all fun j => Nat.beq j c2 || Nat.beq j c4) && (Region.ready md ops done).contains c2 &&
 headB md ops (oneB md ops [c4, c5, c6]) [c3] (done.setIfInBounds c2 true) && headB md ops (oneB md ops [c2, c3, c6]) [c5] (done.setIfInBounds c4 true)
theorem ne_beq {a b : Nat} (h : (!Nat.beq a b) = true) : a ≠ b := fun e => by subst e; simp at h
theorem wpAny_cnt {c2 c3 c4 c5 c6 : Nat} {C : Cnt5} (hsel : Region.noSelect ops = true) (hQ : ∀ e a w, Q e a w -> e = .normal) (hC : cn5 ops c2 c3 c4 c5 c6 = some C) {done : Array Bool} {a : Act} {w : World} (hB : cntB md ops c2 c3 c4 c5 c6 done = true) {v2 v3 v4 v5 : Value} {w1 w2 : World} (F : CnFacts P Q C a w v2 v3 v4 v5 w1 w2) :
  wpAny P md ops Q 5 done a w := by
 unfold cn5 at hC
 split at hC
 case h_2 => cases hC
 rename_i o2 o3 o4 o5 o6 e2 e3 e4 e5 e6
 split at hC
 case h_2 => cases hC
 rename_i d2 d3 d4 d5 _ _ _ _
 split at hC
 case h_2 => cases hC
 rename_i hok
 cases hC
 simp only [Cnt5.ok, Bool.and_eq_true, Option.isNone_iff_eq_none, decide_eq_true_eq, Bool.not_eq_true'] at hok
 obtain ⟨g2, g3, g4, g5, g6, k2, k3, k4, k5, k6, l24, l25, l34, l35, l42, l43, l52, l53, n24, n25, n34, n35⟩ := hok
 have n24 : d2 ≠ d4 := fun e => by subst e; simp at n24
 have n25 : d2 ≠ d5 := fun e => by subst e; simp at n25
 have n34 : d3 ≠ d4 := fun e => by subst e; simp at n34
 have n35 : d3 ≠ d5 := fun e => by subst e; simp at n35
 have put : ∀ (c : Nat) (o : Oper) (a : Act) (d : Nat) (v : Value), ops[c]? = some o -> (o.looksAt ops).contains d = false -> execOp (a.put (some d) v).eval o = execOp a.eval o := fun c o a d v ho h =>
  execOp_put o (fun cs b => Region.noSelect_spec hsel c o cs b ho) a (some d) v fun x hx => by cases hx; simpa using h
 have comm : ∀ (a : Act) (d e : Nat) (u v : Value), d ≠ e -> (a.put (some d) u).put (some e) v = (a.put (some e) v).put (some d) u := fun a d e u v h => by simp only [Act.put]; rw [Array.setIfInBounds_comm _ _ h]
 obtain ⟨r2, r2', r3, r4, r5, r6, fin⟩ := F
 dsimp only at r2 r2' r3 r4 r5 r6 fin
 simp only [cntB, Bool.and_eq_true] at hB
 obtain ⟨⟨⟨hall, hc⟩, hA⟩, hBB⟩ := hB
 have hr2 : c2 ∈ Region.ready md ops done := by simpa using hc
 refine ⟨fun h1 => (by rw [h1] at hr2; cases hr2), fun k hk => ?_⟩
 have := List.all_eq_true.1 hall k hk
 rw [Bool.or_eq_true] at this
 rcases this with h1 | h1
 ·have := Nat.eq_of_beq_eq_true h1
  subst this
  simp only [headB, Bool.and_eq_true] at hA
  obtain ⟨⟨hr, hf⟩, ho⟩ := hA
  unfold wpOp
  simp only [e2]
  rw [if_pos (show Region.wanted o2 (yielded ops a.tmps) = true from by unfold Region.wanted; rw [g2])]
  refine .inl ?_
  unfold Oper.wp
  rw [r2]
  show wpAny P md ops Q 4 (done.setIfInBounds k true) (a.put o2.dst v2) w
  rw [k2]
  refine wpAny_first e3 (Region.noSelect_spec hsel) (fun c a w h => Exit.noConfusion (hQ _ _ _ h)) 3 _ _ w (Region.free_spec e3 hf) (by simpa using hr) (v := v3) (.inl ⟨by unfold Region.wanted; rw [g3], r3⟩) ?_
  refine wpAny_one [c4, c5, c6] _ _ w ho ?_
  simp only [pickO, e4, e5, e6]
  rw [k3]
  refine wpl_value g4 (w' := w1) (v := v4) (by rw [put c4 o4 _ d3 _ e4 l43, put c4 o4 _ d2 _ e4 l42]; exact r4) ?_
  rw [k4]
  refine wpl_value g5 (w' := w1) (v := v5) (by rw [comm _ d3 d4 _ _ n34, put c5 o5 _ d3 _ e5 l53, comm _ d2 d4 _ _ n24, put c5 o5 _ d2 _ e5 l52]; exact r5 w1) ?_
  rw [k5]
  refine wpl_skip g6 r6 ?_
  rw [k6]
  exact fin
 ·have := Nat.eq_of_beq_eq_true h1
  subst this
  simp only [headB, Bool.and_eq_true] at hBB
  obtain ⟨⟨hr, hf⟩, ho⟩ := hBB
  unfold wpOp
  simp only [e4]
  rw [if_pos (show Region.wanted o4 (yielded ops a.tmps) = true from by unfold Region.wanted; rw [g4])]
  refine .inl ?_
  unfold Oper.wp
  rw [r4]
  show wpAny P md ops Q 4 (done.setIfInBounds k true) (a.put o4.dst v4) w1
  rw [k4]
  refine wpAny_first e5 (Region.noSelect_spec hsel) (fun c a w h => Exit.noConfusion (hQ _ _ _ h)) 3 _ _ w1 (Region.free_spec e5 hf) (by simpa using hr) (v := v5) (.inl ⟨by unfold Region.wanted; rw [g5], r5⟩) ?_
  refine wpAny_one [c2, c3, c6] _ _ w1 ho ?_
  simp only [pickO, e2, e3, e6]
  rw [k5]
  refine wpl_value g2 (w' := w1) (v := v2) (by rw [put c2 o2 _ d5 _ e2 l25, put c2 o2 _ d4 _ e2 l24]; exact r2') ?_
  rw [k2]
  have q1 : (((a.put (some d4) v4).put (some d5) v5).put (some d2) v2) = (((a.put (some d2) v2).put (some d4) v4).put (some d5) v5) := by
   rw [comm _ d5 d2 _ _ n25.symm, comm _ d4 d2 _ _ n24.symm]
  rw [q1]
  refine wpl_value g3 (w' := w1) (v := v3) (by rw [put c3 o3 _ d5 _ e3 l35, put c3 o3 _ d4 _ e3 l34]; exact r3 w1) ?_
  rw [k3]
  have q2 : (((a.put (some d2) v2).put (some d4) v4).put (some d5) v5).put (some d3) v3 = (((a.put (some d2) v2).put (some d3) v3).put (some d4) v4).put (some d5) v5 := by
   rw [comm _ d5 d3 _ _ n35.symm, comm _ d4 d3 _ _ n34.symm]
  rw [q2]
  refine wpl_skip g6 r6 ?_
  rw [k6]
  exact fin
def cntI (md : Region.Mode) (ops : Array Oper) (A B : List Nat) (c2 c3 c4 c5 c6 : Nat) : Bool := mixG md ops A B [c2, c4] (cntB md ops c2 c3 c4 c5 c6)
end
section
variable {cx : Cx} {m : Nat -> Value} {st st' : St} {T : Array Value} {w w' : World} {E : Env} {Q : Post} {ops : Array Oper} {l : List Oper}
def cnForm (C : Cnt5) : Option (TypeId × Nat × Nat × BinOp × TypeId × Operand × Operand × TypeId × TypeId × Operand) := match C.o2.op, C.o3.op, C.o4.op, C.o5.op, C.o6.op with
 | .lookup mt (.tmp x) (.tmp k) false, .binOp op t a b t', .mapEntry mt' (.tmp x') (.tmp k'), .extract (.tmp a4) 1, .entryStore mt2 (.tmp xb) (.tmp a5) v =>
  match Nat.beq mt mt' && (Nat.beq x x' && (Nat.beq k k' && (Nat.beq a4 C.d4 && (Nat.beq x xb && (Nat.beq a5 C.d5 && (opNe (.tmp x) C.d2 && (opNe (.tmp x) C.d3 && (opNe (.tmp x) C.d4 && (opNe (.tmp x) C.d5 && (opNe (.tmp k) C.d2 && (opNe (.tmp k) C.d3 && (opNe v C.d4 && (opNe v C.d5 && !Nat.beq C.d2 C.d3))))))))))))) with
  | true => some (mt, x, k, op, t, a, b, t', mt2, v)
  | false => none
 | _, _, _, _, _ => none
theorem cnForm_some {C : Cnt5} {mt t t' mt2 : TypeId} {x k : Nat} {op : BinOp} {a b v : Operand} (h : cnForm C = some (mt, x, k, op, t, a, b, t', mt2, v)) :
  C.o2.op = .lookup mt (.tmp x) (.tmp k) false /\ C.o3.op = .binOp op t a b t' /\ C.o4.op = .mapEntry mt (.tmp x) (.tmp k) /\ C.o5.op = .extract (.tmp C.d4) 1 /\ C.o6.op = .entryStore mt2 (.tmp x) (.tmp C.d5) v /\
  opNe (.tmp x) C.d2 = true /\ opNe (.tmp x) C.d3 = true /\ opNe (.tmp x) C.d4 = true /\ opNe (.tmp x) C.d5 = true /\ opNe (.tmp k) C.d2 = true /\ opNe (.tmp k) C.d3 = true /\ opNe v C.d4 = true /\ opNe v C.d5 = true /\ C.d2 ≠ C.d3 := by
 unfold cnForm at h
 split at h
 case h_2 => cases h
 rename_i mt x k op t a b t' mt' x' k' a4 mt2 xb a5 v h2 h3 h4 h5 h6
 split at h
 case h_2 => cases h
 rename_i hh
 simp only [Option.some.injEq, Prod.mk.injEq] at h
 obtain ⟨rfl, rfl, rfl, rfl, rfl, rfl, rfl, rfl, rfl, rfl⟩ := h
 simp only [Bool.and_eq_true] at hh
 obtain ⟨q1, q2, q3, q4, q5, q6, q7, q8, q9, q10, q11, q12, q13, q14, q15⟩ := hh
 have q1 := Nat.eq_of_beq_eq_true q1
 have q2 := Nat.eq_of_beq_eq_true q2
 have q3 := Nat.eq_of_beq_eq_true q3
 have q4 := Nat.eq_of_beq_eq_true q4
 have q5 := Nat.eq_of_beq_eq_true q5
 have q6 := Nat.eq_of_beq_eq_true q6
 rw [<- q1, <- q2, <- q3] at h4
 rw [q4] at h5
 rw [<- q5, q6] at h6
 exact ⟨h2, h3, h4, h5, h6, q7, q8, q9, q10, q11, q12, q13, q14, ne_beq q15⟩
def keyFlat (P : Program) (mt : TypeId) : Bool := match P.underlying mt with
 | some (.map kt _) => match ty P kt with
  | some u => u.flat
  | none => false
 | _ => false
def evCnt (E : Env) (st : St) (C : Cnt5) : Option St := match cnForm C with
 | some (mt, x, k, op, t, a, b, _, _, v) => match evLk E.P st mt (.tmp x) (.tmp k) false [] with
  | some ⟨.val vt y, [], []⟩ => match Nat.blt C.d2 E.n && (Nat.blt C.d3 E.n && (Nat.blt C.d4 E.n && (Nat.blt C.d5 E.n && (vt.flat && keyFlat E.P mt)))), getTV (st.put C.d2 (.val vt y)) a, getTV (st.put C.d2 (.val vt y)) b with
   | true, some ua, some ub => match bin E.P op t ua ub with
    | some (r, []) => match evEnt E.P ((st.put C.d2 (.val vt y)).put C.d3 (.val r.t r.x)) mt (.tmp x) (.tmp k) v with
     | some st1 => some ((st1.put C.d4 .any).put C.d5 .any)
     | none => none
    | _ => none
   | _, _, _ => none
  | _ => none
 | none => none
theorem cnt_sound (hE : EnvOK E cx) (h : Rm cx m st T w) {C : Cnt5} (hev : evCnt E st C = some st') : ∃ v2 v3 v4 v5 w1 w2, (∀ {Q : Post}, N cx Q .normal st' -> CnFacts cx.P (OnlyN Q) C ⟨T, []⟩ w v2 v3 v4 v5 w1 w2) := by
 unfold evCnt at hev
 split at hev
 case h_2 => cases hev
 rename_i mt x k op t a b t' mt2 v hform
 obtain ⟨p2, p3, p4, p5, p6, x2, x3, x4, x5, kk2, kk3, y4, y5, n23⟩ := cnForm_some hform
 split at hev
 case h_2 => cases hev
 rename_i vt y hlk
 split at hev
 case h_2 => cases hev
 rename_i ua ub hh hua hub
 simp only [Bool.and_eq_true] at hh
 obtain ⟨b2, b3, b4, b5, hfv, hkf⟩ := hh
 split at hev
 case h_2 => cases hev
 rename_i r hbin
 split at hev
 case h_2 => cases hev
 rename_i st1 hent
 cases hev
 rw [<- hE.P] at hlk hbin hent hkf
 have d2n : C.d2 < cx.n := by rw [hE.n]; exact zax b2
 have d3n : C.d3 < cx.n := by rw [hE.n]; exact zax b3
 have d4n : C.d4 < cx.n := by rw [hE.n]; exact zax b4
 have d5n : C.d5 < cx.n := by rw [hE.n]; exact zax b5
 unfold evLk at hlk
 split at hlk
 case h_2 => cases hlk
 rename_i mv kt et key hx hmt hk
 split at hlk
 case h_2 => cases hlk
 rename_i ku vu ky hku hvu hky
 split at hlk
 case h_1 => cases hlk
 case h_3 => cases hlk
 rename_i hb _
 simp only [Option.some.injEq, PR.mk.injEq, SV.val.injEq, and_true] at hlk
 obtain ⟨rfl, hy⟩ := hlk
 have hy := eq_of_heq hy
 subst hy
 obtain ⟨s, hs, hmv⟩ := Option.bind_eq_some_iff.1 hx
 have hkv := za7 h hk
 have ekey := TV.as_some hky
 subst ekey
 obtain ⟨z, _, hz, hzr'⟩ := zeroV_facts hvu
 simp only [Bool.and_eq_true] at hb
 have e1 := Ty.eq_of_beq hb.1.1
 have e2 := Ty.eq_of_beq hb.1.2
 subst e1
 subst e2
 have hkfl : mv.k.flat = true := by
  unfold keyFlat at hkf
  rw [hmt] at hkf
  simp only [hku] at hkf
  exact hkf
 -- the state behind the sum
 have hTs : T.size = cx.n := h.size
 have main : ∀ (v2 : Value), repV w (Mut cx m st.ids) v2 mv.v ((mget (eqEl mv.k) mv.ps ky).getD (zeroEl mv.v)) ->
   ∃ v3 v4 v5 w1 w2 s v0, (∀ w', (execOp (Act.eval ((⟨T, []⟩ : Act).put (some C.d2) v2)) C.o3).run cx.P w' = .ok (.value v3) w') /\
    (Instr.mapEntry mt (Act.eval ⟨T, []⟩ (.tmp x)) (Act.eval ⟨T, []⟩ (.tmp k))).run cx.P w = .ok (.tuple #[v0, .int .i64 s]) w1 /\ v4 = .tuple #[v0, .int .i64 s] /\ v5 = .int .i64 s /\
    (execOp (Act.eval (((((⟨T, []⟩ : Act).put (some C.d2) v2).put (some C.d3) v3).put (some C.d4) v4).put (some C.d5) v5)) C.o6).run cx.P w1 = .ok .skip w2 /\
    R cx ((st1.put C.d4 .any).put C.d5 .any) (((T.setIfInBounds C.d2 v2).setIfInBounds C.d3 v3).setIfInBounds C.d4 v4 |>.setIfInBounds C.d5 v5) w2 := by
  intro v2 hv2
  have h2 := h.put (d := C.d2) (s := .val mv.v ((mget (eqEl mv.k) mv.ps ky).getD (zeroEl mv.v))) (v := v2) d2n hv2
  obtain ⟨v3, hg3, hr3⟩ := bin_sound (ox := a) (oy := b) (za7 h2 hua) (za7 h2 hub) hbin trivial
  have h3 := h2.put (d := C.d3) (s := .val r.t r.x) (v := v3) d3n (hr3 _ _)
  obtain ⟨v0, s, w1, w2, q1, q2, q3⟩ := evEnt_sound h3 hent
  have ex : Act.eval ⟨(T.setIfInBounds C.d2 v2).setIfInBounds C.d3 v3, []⟩ (.tmp x) = Act.eval ⟨T, []⟩ (.tmp x) := (zbu x3).trans (zbu x2)
  have ek : Act.eval ⟨(T.setIfInBounds C.d2 v2).setIfInBounds C.d3 v3, []⟩ (.tmp k) = Act.eval ⟨T, []⟩ (.tmp k) := (zbu kk3).trans (zbu kk2)
  rw [ex, ek] at q1
  refine ⟨v3, _, _, w1, w2, s, v0, fun w' => zbk (by simp only [execOp, p3]) (hg3 w'), q1, rfl, rfl, ?_, ⟨m, (q3.put d4n (s := .any) trivial).put d5n (s := .any) trivial⟩⟩
  have ec : Act.eval ⟨(((T.setIfInBounds C.d2 v2).setIfInBounds C.d3 v3).setIfInBounds C.d4 (.tuple #[v0, .int .i64 s])).setIfInBounds C.d5 (.int .i64 s), []⟩ (.tmp C.d5) = .int .i64 s := eval_put (by simp only [Array.size_setIfInBounds]; rw [hTs]; exact d5n)
  have ex2 : Act.eval ⟨(((T.setIfInBounds C.d2 v2).setIfInBounds C.d3 v3).setIfInBounds C.d4 (.tuple #[v0, .int .i64 s])).setIfInBounds C.d5 (.int .i64 s), []⟩ (.tmp x) = Act.eval ⟨(T.setIfInBounds C.d2 v2).setIfInBounds C.d3 v3, []⟩ (.tmp x) := (zbu x5).trans (zbu x4)
  have ev2 : Act.eval ⟨(((T.setIfInBounds C.d2 v2).setIfInBounds C.d3 v3).setIfInBounds C.d4 (.tuple #[v0, .int .i64 s])).setIfInBounds C.d5 (.int .i64 s), []⟩ v = Act.eval ⟨(T.setIfInBounds C.d2 v2).setIfInBounds C.d3 v3, []⟩ v := (zbu y5).trans (zbu y4)
  show (execOp (Act.eval ⟨(((T.setIfInBounds C.d2 v2).setIfInBounds C.d3 v3).setIfInBounds C.d4 (.tuple #[v0, .int .i64 s])).setIfInBounds C.d5 (.int .i64 s), []⟩) C.o6).run cx.P w1 = .ok .skip w2
  simp only [execOp, p6, Sem.run_bind, ec, ex2, ev2, q2, Result.andThen_ok, Sem.run_pure]
 rcases mapOf_sound h (za6 h hs) hmv with ⟨hn, hp⟩ | ⟨g, es, clock, hn, hg, hr⟩
 ·obtain ⟨v2, h1, _⟩ := lookup_val (w' := w) (M' := Mut cx m st.ids) (d := dep) (d' := 16) hmt hku hb.2 (by decide) hz hzr' hkv (es := #[]) (ps := mv.ps) (by rw [hp]; trivial)
  obtain ⟨v3, v4, v5, w1, w2, s, v0, _, q, _⟩ := main v2 h1
  rw [hn] at q
  unfold Instr.mapEntry at q
  simp only [Sem.run_bind, run_underlying hmt, Result.andThen_ok] at q
  exact absurd q (zb0 _ _ _ _)
 ·obtain ⟨v2, h1, _⟩ := lookup_val (d := dep) (d' := 16) hmt hku hb.2 (by decide) hz hzr' hkv hr
  obtain ⟨v3, v4, v5, w1, w2, s, v0, q3, q4, e4, e5, q6, hR⟩ := main v2 h1
  rw [hn] at q4
  obtain ⟨v2', k1, k2, k3⟩ := lookup_after (d := dep) (d' := 16) hmt hku hb.2 (by decide) hkfl hfv hz hzr' hkv hg hr q4
  have : v2' = v2 := flat_detV hfv k1 h1
  subst this
  refine ⟨v2', v3, v4, v5, w1, w2, fun {Q} hN => ⟨?_, ?_, q3, ?_, ?_, q6, rfl, hN _ _ hR⟩⟩
  ·exact zbk (s := Instr.lookup mt (Act.eval ⟨T, []⟩ (.tmp x)) (Act.eval ⟨T, []⟩ (.tmp k)) false) (by simp only [execOp, p2]) (by rw [hn]; exact k2)
  ·exact zbk (s := Instr.lookup mt (Act.eval ⟨T, []⟩ (.tmp x)) (Act.eval ⟨T, []⟩ (.tmp k)) false) (by simp only [execOp, p2]) (by rw [hn]; exact k3)
  ·exact zbk (s := Instr.mapEntry mt (Act.eval ⟨T, []⟩ (.tmp x)) (Act.eval ⟨T, []⟩ (.tmp k))) (by simp only [execOp, p4]) (by rw [hn, e4]; exact q4)
  ·intro w'
   have ev1 : Act.eval ⟨T.setIfInBounds C.d4 v4, []⟩ (.tmp C.d4) = v4 := eval_put (by rw [hTs]; exact d4n)
   show (execOp (Act.eval ⟨T.setIfInBounds C.d4 v4, []⟩) C.o5).run cx.P w' = _
   subst e4
   subst e5
   simp only [execOp, p5, ev1, Instr.extract]
   rfl
theorem W_cntK {id : Nat} {l : List Oper} (hE : EnvOK E cx) (A B : List Nat) (c2 c3 c4 c5 c6 : Nat) {C : Cnt5} (hm : E.P.follows .mixedOrders = true) (hB : cntI .any l.toArray A B c2 c3 c4 c5 c6 = true) (hn : A.length + (B.length + 5) = l.length) (hC : cn5 l.toArray c2 c3 c4 c5 c6 = some C)
  (h : ∀ T w, R cx st T w -> wpQuiet cx.P l.toArray (fun _ => True) (wpQuiet cx.P l.toArray (Ext w) (fun a' => ∀ w', Ext w w' -> ∃ v2 v3 v4 v5 w1 w2, CnFacts cx.P (OnlyN Q) C a' w' v2 v3 v4 v5 w1 w2) (pickO l.toArray B)) (pickO l.toArray A) ⟨T, []⟩) :
  W cx Q (.region id l.toArray true) st := by
 intro T w hR
 have hsel : Region.noSelect l.toArray = true := by
  unfold cntI mixG at hB
  simp only [Bool.and_eq_true] at hB
  exact hB.1.1.1
 refine Code.wp_mono (Q := OnlyN Q) (fun e a w h => by obtain ⟨rfl, h⟩ := h; exact h)
  (wp_region_mixG (C := Ext w) A B [c2, c4] (cntB .any l.toArray c2 c3 c4 c5 c6) _ (by rw [hE.P]; exact hm) hB (fun d j hd hj => ?_) (fun e a w h => h.1)
   (fun d a w hd hW => by
    obtain ⟨v2, v3, v4, v5, w1, w2, F⟩ := hW
    exact wpAny_cnt hsel (fun e a w h => h.1) hC hd F) hn (Ext.refl w).drew (h T w hR))
 simp only [cntB, Bool.and_eq_true] at hd
 have := List.all_eq_true.1 hd.1.1.1 j hj
 rw [Bool.or_eq_true] at this
 rcases this with h1 | h1
 ·rw [Nat.eq_of_beq_eq_true h1]; simp
 ·rw [Nat.eq_of_beq_eq_true h1]; simp
end
end Go.Ev
namespace Go.Ev
open Go Go.RowKit
variable [Dr]
section
variable {P : Program} {ops : Array Oper} {md : Region.Mode} {S : World -> Prop} {Q : Exit -> Act -> World -> Prop}
def wpListH (P : Program) (ops : Array Oper) (Q : Exit -> Act -> World -> Prop) (S : World -> Prop) : List Oper -> Act -> World -> Prop
 | [], a, w => Q .normal a w
 | o :: l, a, w => if Region.wanted o (yielded ops a.tmps) then o.wp P a w (fun a' w' => S w' /\ wpListH P ops Q S l a' w') Q else S w /\ wpListH P ops Q S l (a.put o.dst undef) w
theorem wpAnyH_one : ∀ (l : List Nat) (done : Array Bool) (a : Act) (w : World), oneB md ops l done = true -> wpListH P ops Q S (pickO ops l) a w -> wpAnyH P md ops Q S l.length done a w
 | [], _, _, _, hB, h => ⟨by simpa [oneB] using hB, h⟩
 | i :: l, done, a, w, hB, h => by
  simp only [oneB, Bool.and_eq_true, decide_eq_true_eq] at hB
  have hi : i ∈ Region.ready md ops done := by rw [hB.1]; exact List.mem_cons_self
  obtain ⟨_, o, h0, _⟩ := mem_ready.1 hi
  unfold pickO at h
  rw [h0] at h
  refine ⟨fun h1 => (by rw [hB.1] at h1; cases h1), fun k hk => ?_⟩
  rw [hB.1] at hk
  have hki : k = i := by simpa using hk
  subst hki
  have hw : wpOp P ops Q k (fun a' w' => S w' /\ wpListH P ops Q S (pickO ops l) a' w') a w := by
   unfold wpOp
   simp only [h0]
   unfold wpListH at h
   split
   ·rename_i hwt; rw [if_pos hwt] at h; exact .inl h
   ·rename_i hwt; rw [if_neg hwt] at h; exact h
  exact wpOp_mono (fun a' w' h' => ⟨h'.1, wpAnyH_one l _ a' w' hB.2 h'.2⟩) hw
def valK (o : Oper) : Bool := valB o || isLd o
def kindsB (ops : Array Oper) : List Nat -> Bool
 | [] => true
 | i :: is => (match ops[i]? with
  | some o => valK o
  | none => false) && kindsB ops is
theorem valK_val {o : Oper} (h : valK o = true) {ρ : Operand -> Value} {w w1 : World} {n : Next} (hr : (execOp ρ o).run P w = .ok n w1) : ∃ v, n = .value v := by
 unfold valK at h
 rw [Bool.or_eq_true] at h
 rcases h with h | h
 ·exact val_op h hr
 ·exact isLd_val h hr
theorem wpAnyH_quiet {g : Nat} {KB : Array Bool -> Bool} {K : Act -> Prop} {w : World} (hw0 : S w) (hsel : Region.noSelect ops = true) (hQ : ∀ c a w, ¬ Q (.panic c) a w) (hK : ∀ done a, KB done = true -> K a -> wpAnyH P md ops Q S g done a w) :
  ∀ (B : List Nat) (done : Array Bool) (a : Act), kindsB ops B = true -> headB md ops KB B done = true -> wpQuiet P ops S K (pickO ops B) a -> wpAnyH P md ops Q S (B.length + g) done a w := by
 intro B
 induction B with
 | nil => intro done a _ hB h; rw [List.length_nil, Nat.zero_add]; exact hK _ _ hB h
 | cons i is ih =>
  intro done a hc hB h
  unfold kindsB at hc
  unfold headB at hB
  simp only [Bool.and_eq_true] at hc hB
  obtain ⟨⟨hr, hf⟩, hB⟩ := hB
  obtain ⟨hc1, hc⟩ := hc
  unfold pickO at h
  split at hc1
  ·rename_i o ho
   rw [ho] at h
   rw [List.length_cons, Nat.succ_add]
   by_cases hw : Region.wanted o (yielded ops a.tmps) = true
   ·unfold wpQuiet at h
    rw [if_pos hw] at h
    obtain ⟨v, hq, hn⟩ := h
    refine wpAnyH_first ho (Region.noSelect_spec hsel) (fun c a w hp => absurd hp (hQ _ _ _)) (is.length + g) done a w (Region.free_spec ho hf) (by simpa using hr) (v := v) (.inl ⟨hw, fun w' hS => ?_⟩) hw0 (ih _ _ hc hB hn)
    have := hq w' hS
    unfold Oper.quietAt at this
    cases hx : (execOp a.eval o).run P w' with
    | halt e w2 => rw [hx] at this; exact this.elim
    | ok n w2 =>
     obtain ⟨u, rfl⟩ := valK_val hc1 hx
     rw [hx] at this
     obtain ⟨rfl, rfl⟩ := this
     rfl
   ·unfold wpQuiet at h
    rw [if_neg hw] at h
    exact wpAnyH_first ho (Region.noSelect_spec hsel) (fun c a w hp => absurd hp (hQ _ _ _)) (is.length + g) done a w (Region.free_spec ho hf) (by simpa using hr) (v := undef) (.inr ⟨by simpa using hw, rfl⟩) hw0 (ih _ _ hc hB h)
  ·cases hc1
def heldB (md : Region.Mode) (ops : Array Oper) (B Ct : List Nat) : Bool := Region.noSelect ops && (kindsB ops B && headB md ops (oneB md ops Ct) B (Array.replicate ops.size false))
theorem wp_region_heldQ {id : Nat} {a : Act} {w : World} {l : List Oper} (B Ct : List Nat) (hm : P.follows .mixedOrders = true) (hB : heldB .any l.toArray B Ct = true) (hn : B.length + Ct.length = l.length)
  (hC : S { w with drawn := w.drawn + 1 }) (h : wpQuiet P l.toArray S (fun a' => ∀ w', S w' -> wpListH P l.toArray (OnlyN Q) S (pickO l.toArray Ct) a' w') (pickO l.toArray B) a) : (Code.region id l.toArray true).wp P Q a w := by
 refine Code.wp_mono (Q := OnlyN Q) (fun e a w h => by obtain ⟨rfl, h⟩ := h; exact h) ?_
 unfold heldB at hB
 simp only [Bool.and_eq_true] at hB
 obtain ⟨hsel, hk, hh⟩ := hB
 refine wp_region_any hm (wpAny_of_held (S := S) _ _ _ _ ?_)
 have R := wpAnyH_quiet (Q := OnlyN Q) (S := S) (w := { w with drawn := w.drawn + 1 }) (g := Ct.length) hC hsel (fun c a w h => Exit.noConfusion h.1) (fun done a hd hK => wpAnyH_one Ct done a _ hd (hK _ hC)) B _ a hk hh h
 rw [hn] at R
 simpa using R
end
end Go.Ev
namespace Go.Ev
open Go Go.RowKit
variable [Dr]
variable {cx : Cx} {m : Nat -> Value} {st st' : St} {T : Array Value} {w w' : World} {E : Env} {Q : Post} {ops : Array Oper} {l : List Oper}
def evE1 (E : Env) (st : St) (o : Oper) (orc : List TV) : Option PR :=
 match evP E.P st o.op orc with
 | some r => some r
 | none => match rrQ E.P st o orc with
 | some r => some r
 | none => match o.op with
  | .load t x => evLoad E.P st t x orc
  | .call c => evCall E st c orc
  | _ => none
theorem evE1_sound (hE : EnvOK E cx) (h : Rm cx m st T w) {o : Oper} {orc : List TV} {r : PR} (hev : evE1 E st o orc = some r) (hob : allP r.ob) {K : Act -> World -> Prop}
  (hK : ∀ v w', Ext w w' -> repS w' (Mut cx m st.ids) m v r.sv -> K (Act.put ⟨T, []⟩ o.dst v) w') : o.wp cx.P ⟨T, []⟩ w K Q := by
 unfold evE1 at hev
 split at hev
 ·rename_i r' hp
  cases hev
  rw [<- hE.P] at hp
  obtain ⟨v, hd, hv⟩ := evP_sound h hp hob
  exact zbn (hd w (Ext.refl w)) (hK v w (Ext.refl w) hv)
 ·split at hev
  ·rename_i r' hp
   cases hev
   rw [<- hE.P] at hp
   obtain ⟨v, hs, hv⟩ := rrQ_sound h hp hob
   exact zbn (hs w (Ext.refl w)) (hK v w (Ext.refl w) hv)
  split at hev
  ·rename_i t x hop
   rw [<- hE.P] at hev
   obtain ⟨v, hs, hv⟩ := evLoad_sound h hev hob
   exact zbn (zbk (by simp only [execOp, hop]) (hs w (Ext.refl w))) (hK v w (Ext.refl w) hv)
  ·rename_i c hop
   obtain ⟨f0, args, hrun, hcalls⟩ := evCall_sound hE h hop hev hob
   unfold Oper.wp
   rw [hrun w]
   refine hcalls.mono ?_
   rintro e w' ⟨v, rfl, hext, hv⟩
   exact hK v w' hext hv
  ·cases hev
theorem W_heldK {id : Nat} {l : List Oper} (B Ct : List Nat) (hm : cx.P.follows .mixedOrders = true) (hB : heldB .any l.toArray B Ct = true) (hn : B.length + Ct.length = l.length)
  (h : ∀ T w, R cx st T w -> wpQuiet cx.P l.toArray (Ext w) (fun a' => ∀ w', Ext w w' -> wpListH cx.P l.toArray (OnlyN Q) (Ext w) (pickO l.toArray Ct) a' w') (pickO l.toArray B) ⟨T, []⟩) :
  W cx Q (.region id l.toArray true) st := by
 intro T w hR
 exact wp_region_heldQ (S := Ext w) B Ct hm hB hn (Ext.refl w).drew (h T w hR)
theorem heldH_cons {w0 : World} {o : Oper} {d : Nat} {orc : List TV} {r : PR} (hE : EnvOK E cx) (hw : wantSV ops st o = some true) (hd : o.dst = some d) (hdn : Nat.blt d E.n = true) (hev : evE1 E st o orc = some r) (hob : allP r.ob)
  (hl : ∀ T w, R cx (st.put d r.sv) T w -> Ext w0 w -> wpListH cx.P ops (OnlyN Q) (Ext w0) l ⟨T, []⟩ w) : ∀ T w, R cx st T w -> Ext w0 w -> wpListH cx.P ops (OnlyN Q) (Ext w0) (o :: l) ⟨T, []⟩ w := by
 intro T w hR he
 unfold wpListH
 rw [if_pos (show Region.wanted o (yielded ops T) = true from zbo hR hw)]
 obtain ⟨m, hm⟩ := hR
 refine evE1_sound hE hm hev hob fun v w' hx hv => ⟨he.trans hx, ?_⟩
 rw [hd]
 exact hl _ w' ⟨m, (hm.ext hx).put (by rw [hE.n]; exact zax hdn) hv⟩ (he.trans hx)
end Go.Ev
namespace Go.Ev
open Go Go.RowKit
variable [Dr]
variable {cx : Cx} {st st' : St} {T : Array Value} {w : World} {Q : Post} {ops : Array Oper} {md : Region.Mode}
def Leads (cx : Cx) (ops : Array Oper) (o : Oper) (s s' : St) : Prop := ∀ Q : Post, N cx Q .normal s' -> WL cx ops Q [o] s
def LatQ (cx : Cx) (s : St) : Post := fun e a w => e = .normal /\ ∃ T, a = ⟨T, []⟩ /\ R cx s T w
theorem wpAny_lat {Sg : Nat -> Array Bool -> St -> Prop} (hstep : ∀ g done s, Sg (g + 1) done s -> ∀ i ∈ Region.ready md ops done, ∃ o s', ops[i]? = some o /\ Sg g (done.setIfInBounds i true) s' /\ Leads cx ops o s s')
  (hz : ∀ done s, Sg 0 done s -> Region.ready md ops done = []) (hfin : ∀ g done s, Sg g done s -> Region.ready md ops done = [] -> N cx Q .normal s) :
  ∀ g done s T w, Sg g done s -> R cx s T w -> wpAny cx.P md ops Q g done ⟨T, []⟩ w
 | 0, done, s, T, w, hs, hR => ⟨hz done s hs, hfin 0 done s hs (hz done s hs) T w hR⟩
 | g + 1, done, s, T, w, hs, hR => by
  refine ⟨fun h => hfin (g + 1) done s hs h T w hR, fun i hi => ?_⟩
  obtain ⟨o, s', ho, hs', hl⟩ := hstep g done s hs i hi
  have h := hl (LatQ cx s') (fun T w h => ⟨rfl, T, rfl, h⟩) T w hR
  have hw : wpOp cx.P ops (LatQ cx s') i (wpList cx.P ops (LatQ cx s') []) ⟨T, []⟩ w := by unfold wpOp; simp only [ho]; exact h
  refine wpOp_mono (fun a' w' h' => ?_) (wpOp_only (fun e a w h => h.1) hw)
  obtain ⟨_, T', rfl, hR'⟩ : LatQ cx s' .normal a' w' := h'
  exact wpAny_lat hstep hz hfin g _ s' T' w' hs' hR'
theorem W_lat {id : Nat} (hm : cx.P.follows .mixedOrders = true) {Sg : Nat -> Array Bool -> St -> Prop} (hstep : ∀ g done s, Sg (g + 1) done s -> ∀ i ∈ Region.ready .any ops done, ∃ o s', ops[i]? = some o /\ Sg g (done.setIfInBounds i true) s' /\ Leads cx ops o s s')
  (hz : ∀ done s, Sg 0 done s -> Region.ready .any ops done = []) (hfin : ∀ g done s, Sg g done s -> Region.ready .any ops done = [] -> N cx Q .normal s) (h0 : Sg ops.size (Array.replicate ops.size false) st) :
  W cx Q (.region id ops true) st := fun T w hR =>
 wp_region_any hm (wpAny_lat hstep hz hfin _ _ _ T _ h0 (hR.ext (Ext.refl w).drew))
/-! Sets of operations that are done, as0 lists, the last one first. -/
def doneOf (n : Nat) (D : List Nat) : Array Bool := ((List.range n).map fun i => memB i D).toArray
def insD (i : Nat) : List Nat -> List Nat
 | [] => [i]
 | j :: D => bif Nat.blt j i then i :: j :: D else j :: insD i D
def eqBL : List Bool -> List Bool -> Bool
 | [], [] => true
 | a :: l, b :: m => (bif a then b else !b) && eqBL l m
 | _, _ => false
theorem eqBL_sound : ∀ {l m : List Bool}, eqBL l m = true -> l = m
 | [], [], _ => rfl
 | a :: l, b :: m, h => by
  unfold eqBL at h
  rw [Bool.and_eq_true] at h
  rw [eqBL_sound h.2]
  cases a <;> cases b <;> simp_all
 | [], _ :: _, h => by cases h
 | _ :: _, [], h => by cases h
def eqNL : List Nat -> List Nat -> Bool
 | [], [] => true
 | a :: l, b :: m => Nat.beq a b && eqNL l m
 | _, _ => false
theorem eqNL_sound : ∀ {l m : List Nat}, eqNL l m = true -> l = m
 | [], [], _ => rfl
 | a :: l, b :: m, h => by
  unfold eqNL at h
  rw [Bool.and_eq_true] at h
  rw [eqNL_sound h.2, Nat.eq_of_beq_eq_true h.1]
 | [], _ :: _, h => by cases h
 | _ :: _, [], h => by cases h
def memNL (D : List Nat) (ds : List (List Nat)) : Bool := ds.any (eqNL D)
theorem memNL_sound {D : List Nat} {ds : List (List Nat)} (h : memNL D ds = true) : D ∈ ds := by
 obtain ⟨x, hx, e⟩ := List.any_eq_true.1 h
 rw [eqNL_sound e]; exact hx
def latB1 (md : Region.Mode) (ops : Array Oper) (ds : List (List Nat)) (D : List Nat) (i : Nat) : Bool :=
 memNL (insD i D) ds && (Nat.beq (insD i D).length (D.length + 1) && eqBL (doneOf ops.size (insD i D)).toList ((doneOf ops.size D).setIfInBounds i true).toList)
def latB (md : Region.Mode) (ops : Array Oper) (F : List Nat) (ds : List (List Nat)) : Bool :=
 memNL [] ds && (eqBL (doneOf ops.size []).toList (Array.replicate ops.size false).toList && ds.all fun D =>
  (Region.ready md ops (doneOf ops.size D)).all (latB1 md ops ds D) && ((!(Region.ready md ops (doneOf ops.size D)).isEmpty && !Nat.beq D.length ops.size) || (eqNL D F && (Region.ready md ops (doneOf ops.size D)).isEmpty)))
theorem W_latS {id : Nat} (hm : cx.P.follows .mixedOrders = true) {F : List Nat} {ds : List (List Nat)} (hB : latB .any ops F ds = true) {S : List Nat -> Option St}
  (hS : ∀ D ∈ ds, ∀ i ∈ Region.ready .any ops (doneOf ops.size D), ∃ o s s', ops[i]? = some o /\ S D = some s /\ S (insD i D) = some s' /\ Leads cx ops o s s') (h0 : S [] = some st) (hF : ∀ s, S F = some s -> N cx Q .normal s) :
  W cx Q (.region id ops true) st := by
 unfold latB at hB
 simp only [Bool.and_eq_true] at hB
 obtain ⟨b1, b2, b3⟩ := hB
 rw [List.all_eq_true] at b3
 refine W_lat hm (Sg := fun g done s => ∃ D ∈ ds, g + D.length = ops.size /\ done = doneOf ops.size D /\ S D = some s) ?_ ?_ ?_ ?_
 ·rintro g done s ⟨D, hD, hg, rfl, hs⟩ i hi
  obtain ⟨o, s1, s', ho, e1, e2, hl⟩ := hS D hD i hi
  rw [hs] at e1
  cases e1
  have h3 := b3 D hD
  rw [Bool.and_eq_true] at h3
  have h4 := List.all_eq_true.1 h3.1 i hi
  unfold latB1 at h4
  simp only [Bool.and_eq_true] at h4
  refine ⟨o, s', ho, ⟨insD i D, memNL_sound h4.1, ?_, ?_, e2⟩, hl⟩
  ·have := Nat.eq_of_beq_eq_true h4.2.1
   omega
  ·exact (Array.ext' (eqBL_sound h4.2.2)).symm
 ·rintro done s ⟨D, hD, hg, rfl, hs⟩
  have h3 := b3 D hD
  simp only [Bool.and_eq_true, Bool.or_eq_true, Bool.not_eq_true'] at h3
  rcases h3.2 with ⟨_, h4⟩ | ⟨_, h4⟩
  ·rw [Nat.zero_add] at hg
   rw [hg] at h4
   rw [show Nat.beq ops.size ops.size = true from Nat.beq_refl _] at h4
   cases h4
  ·simpa using h4
 ·rintro g done s ⟨D, hD, hg, rfl, hs⟩ hr
  have h3 := b3 D hD
  simp only [Bool.and_eq_true, Bool.or_eq_true, Bool.not_eq_true'] at h3
  rcases h3.2 with ⟨h4, _⟩ | ⟨h4, _⟩
  ·rw [hr] at h4
   cases h4
  ·rw [eqNL_sound h4] at hs
   exact hF s hs
 ·refine ⟨[], memNL_sound b1, by simp, ?_, h0⟩
  exact (Array.ext' (eqBL_sound b2)).symm
end Go.Ev
namespace Go.Ev
open Go Go.RowKit
variable [Dr]
/-! Trees. -/
structure KQ where
 u : Ty
 o : Option u.el
structure KN where
 u : Ty
 o : Option u.el
 v : u.el
inductive Tr (R : Type) : Type 1
 | ret (e : Option R)
 | ask {β : Type} (o : Option β) (f : β -> Tr R)
 | ite (b : Bool) (x y : Tr R)
 | eqb (a b : Bool) (t : Tr R)
 | eqp (a b : List Prop) (t : Tr R)
 | eqs (a b : Option St) (t : Tr R)
 | eqq (a b : KQ) (t : Tr R)
 | lab {A : Type} (body : A -> Tr R) (J : A -> Option R) (t : Tr R)
 | lop {A : Type} (body : (A -> Option R) -> A -> Tr R) (F : Nat -> A -> Option R) (t : Tr R)
variable {R : Type}
def Tr.den : Tr R -> Option R
 | .ret e => e
 | .ask o f => Option.bind o fun x => (f x).den
 | .ite b x y => if b then x.den else y.den
 | .eqb _ _ t => t.den
 | .eqp _ _ t => t.den
 | .eqs _ _ t => t.den
 | .eqq _ _ t => t.den
 | .lab _ _ t => t.den
 | .lop _ _ t => t.den
def Tr.Ok : Tr R -> Prop
 | .ret _ => True
 | .ask _ f => ∀ x, (f x).Ok
 | .ite _ x y => x.Ok /\ y.Ok
 | .eqb a b t => a = b /\ t.Ok
 | .eqp a b t => a = b /\ t.Ok
 | .eqs a b t => a = b /\ t.Ok
 | .eqq a b t => a = b /\ t.Ok
 | .lab body J t => (∀ z, (body z).den = J z) /\ (∀ z, (body z).Ok) /\ t.Ok
 | .lop body F t => (∀ z, F 0 z = none) /\ (∀ n z, (body (F n) z).den = F (n + 1) z) /\ (∀ n z, (body (F n) z).Ok) /\ t.Ok
inductive Cq (R : Type) : Type 1
 | nil
 | ask {β : Type} (o : Option β) (f : β -> Cq R)
 | ite (b : Bool) (x y : Cq R)
 | b (a : Bool) (c : Cq R)
 | p (a : List Prop) (c : Cq R)
 | s (a : Option St) (c : Cq R)
 | q (a : KQ) (c : Cq R)
 | lab {A : Type} (g : A -> Option R) (body : A -> Cq R) (c : Cq R)
 | lop {A : Type} (g0 : A -> Option R) (g : Nat -> A -> Option R) (body : Nat -> A -> Cq R) (c : Cq R)
def Tr.lft : Tr R -> Cq R
 | .ret _ => .nil
 | .ask o f => .ask o fun x => (f x).lft
 | .ite b x y => .ite b x.lft y.lft
 | .eqb a _ t => .b a t.lft
 | .eqp a _ t => .p a t.lft
 | .eqs a _ t => .s a t.lft
 | .eqq a _ t => .q a t.lft
 | .lab body _ t => .lab (fun z => (body z).den) (fun z => (body z).lft) t.lft
 | .lop body F t => .lop (F 0) (fun n z => (body (F n) z).den) (fun n z => (body (F n) z).lft) t.lft
def Tr.rgt : Tr R -> Cq R
 | .ret _ => .nil
 | .ask o f => .ask o fun x => (f x).rgt
 | .ite b x y => .ite b x.rgt y.rgt
 | .eqb _ b t => .b b t.rgt
 | .eqp _ b t => .p b t.rgt
 | .eqs _ b t => .s b t.rgt
 | .eqq _ b t => .q b t.rgt
 | .lab body J t => .lab J (fun z => (body z).rgt) t.rgt
 | .lop body F t => .lop (fun _ => none) (fun n => F (n + 1)) (fun n z => (body (F n) z).rgt) t.rgt
theorem Tr.ok_of : ∀ (t : Tr R), t.lft = t.rgt -> t.Ok
 | .ret _, _ => trivial
 | .ask o f, h => by
  simp only [lft, rgt, Cq.ask.injEq, heq_eq_eq, true_and] at h
  exact fun x => ok_of (f x) (congrFun h x)
 | .ite b x y, h => by
  simp only [lft, rgt, Cq.ite.injEq, true_and] at h
  exact ⟨ok_of x h.1, ok_of y h.2⟩
 | .eqb a b t, h => by
  simp only [lft, rgt, Cq.b.injEq] at h
  exact ⟨h.1, ok_of t h.2⟩
 | .eqp a b t, h => by
  simp only [lft, rgt, Cq.p.injEq] at h
  exact ⟨h.1, ok_of t h.2⟩
 | .eqs a b t, h => by
  simp only [lft, rgt, Cq.s.injEq] at h
  exact ⟨h.1, ok_of t h.2⟩
 | .eqq a b t, h => by
  simp only [lft, rgt, Cq.q.injEq] at h
  exact ⟨h.1, ok_of t h.2⟩
 | .lab body J t, h => by
  simp only [lft, rgt, Cq.lab.injEq, heq_eq_eq, true_and] at h
  exact ⟨fun z => congrFun h.1 z, fun z => ok_of _ (congrFun h.2.1 z), ok_of t h.2.2⟩
 | .lop body F t, h => by
  simp only [lft, rgt, Cq.lop.injEq, heq_eq_eq, true_and] at h
  exact ⟨fun z => congrFun h.1 z, fun n z => congrFun (congrFun h.2.1 n) z, fun n z => ok_of _ (congrFun (congrFun h.2.2.1 n) z), ok_of t h.2.2.2⟩
/-! Lists of data of given shapes. -/
def PE : List Ty -> Type
 | [] => Unit
 | [t] => t.el
 | t :: u :: us => t.el × PE (u :: us)
def splitTV : (us : List Ty) -> PE us -> List TV
 | [], _ => []
 | [t], x => [⟨t, x⟩]
 | t :: u :: us, x => ⟨t, x.1⟩ :: splitTV (u :: us) x.2
def castL : (us : List Ty) -> List TV -> Option (PE us)
 | [], vs => match vs with
  | [] => some ()
  | _ => none
 | [t], vs => match vs with
  | [v] => v.as t
  | _ => none
 | t :: u :: us, vs => match vs with
  | v :: vs => match v.as t, castL (u :: us) vs with
   | some x, some y => some (x, y)
   | _, _ => none
  | [] => none
theorem Ty.beq_refl : ∀ t : Ty, t.beq t = true
 | .int k => by cases k <;> rfl
 | .bool => rfl
 | .str => rfl
 | .sl t => beq_refl t
 | .unit => rfl
 | .pair a b => by simp only [Ty.beq, beq_refl a, beq_refl b, Bool.and_self]
 | .ptr t => beq_refl t
 | .fn f t => by simp only [Ty.beq, Nat.beq_refl, beq_refl t, Bool.and_self]
 | .err => rfl
 | .opq => rfl
 | .arr n t => by simp only [Ty.beq, Nat.beq_refl, beq_refl t, Bool.and_self]
 | .map a b => by simp only [Ty.beq, beq_refl a, beq_refl b, Bool.and_self]
theorem TV.as_self (t : Ty) (x : t.el) : TV.as ⟨t, x⟩ t = some x := by
 unfold TV.as
 split
 ·rfl
 ·rename_i h
  exact absurd (Ty.beq_refl t) (by rw [h]; decide)
theorem castL_split : ∀ (us : List Ty) (x : PE us), castL us (splitTV us x) = some x
 | [], _ => rfl
 | [t], x => TV.as_self t x
 | t :: u :: us, x => by
  have h := castL_split (u :: us) x.2
  show (match TV.as ⟨t, x.1⟩ t, castL (u :: us) (splitTV (u :: us) x.2) with
   | some x, some y => some (x, y)
   | _, _ => none) = some x
  rw [TV.as_self, h]
  rfl
theorem split_castL : ∀ (us : List Ty) (vs : List TV) (x : PE us), castL us vs = some x -> vs = splitTV us x
 | [], vs, x, h => by
  unfold castL at h
  split at h
  ·rfl
  ·cases h
 | [t], vs, x, h => by
  match vs, h with
  | [v], h =>
   have e := TV.as_some (v := v) (u := t) (x := x) h
   subst e
   rfl
  | [], h => cases h
  | _ :: _ :: _, h => cases h
 | t :: u :: us, vs, x, h => by
  unfold castL at h
  split at h
  ·rename_i v vs
   split at h
   ·rename_i a b h1 h2
    cases h
    show v :: vs = ⟨t, a⟩ :: splitTV (u :: us) b
    rw [<- split_castL (u :: us) vs b h2, TV.as_some h1]
   ·cases h
  ·cases h
theorem split_len : ∀ (us : List Ty) (x : PE us), (splitTV us x).length = us.length
 | [], _ => rfl
 | [_], _ => rfl
 | _ :: u :: us, x => by
  show (splitTV (u :: us) x.2).length + 1 = _
  rw [split_len (u :: us) x.2]
  rfl
theorem split_ty : ∀ (us : List Ty) (x : PE us) (v : TV), v ∈ splitTV us x -> v.t ∈ us
 | [], _, v, h => by cases h
 | [_], _, v, h => by
  rcases List.mem_cons.1 h with rfl | h
  ·exact List.mem_cons_self
  ·cases h
 | t :: u :: us, x, v, h => by
  rcases List.mem_cons.1 (show v ∈ ⟨t, x.1⟩ :: splitTV (u :: us) x.2 from h) with rfl | h
  ·exact List.mem_cons_self
  ·exact List.mem_cons_of_mem _ (split_ty (u :: us) x.2 v h)
/-! What is known of functions, as0 functions. -/
structure FnF where
 dom : List Ty
 cod : List Ty
 caps : List Ty
 fn : PE dom -> Option (PE cod)
def FnF.toC (F : FnF) : FnC := ⟨F.cod.all Ty.flat, F.cod.length, F.caps, fun as0 rs => match castL F.dom as0, castL F.cod rs with
 | some x, some y => F.fn x = some y
 | _, _ => False⟩
structure PF (P : Program) (G : World -> Prop) where
 f : Nat
 F : FnF
 ok : Contract P G f F.toC
structure PB (P : Program) (G : World -> Prop) (α β : Type) where
 f : Nat
 F : FnB α β
 X : St -> Option α
 fn : α -> Option β
 ok : BC P G f F
 rel : ∀ x y, fn x = some y -> F.rel x y
structure PI (P : Program) (G : World -> Prop) where
 f : Nat
 e : Nat
 t : Ty
 fn : List t.el -> List t.el
 ok : IC P G f e t fun xs ys => ys = fn xs
def envOf (P : Program) (G : World -> Prop) (n : Nat) (l : List (PF P G)) : Env := ⟨P, G, n, l.map fun p => (p.f, p.F.toC)⟩
def lookF {P : Program} {G : World -> Prop} : List (PF P G) -> Nat -> Option FnF
 | [], _ => none
 | p :: l, n => bif Nat.beq p.f n then some p.F else lookF l n
theorem envOf_ok {P : Program} {G : World -> Prop} {n : Nat} {l : List (PF P G)} {cx : Cx} (hP : cx.P = P) (hn : cx.n = n) (hG : ∀ w, Frame cx.w0 w cx.X -> G w) : EnvOK (envOf P G n l) cx :=
 ⟨hP, hn, hG, fun f F h => by
  obtain ⟨p, hp, e⟩ := List.mem_map.1 h
  cases e
  exact p.ok⟩
/-! Holes of a state. -/
inductive Ho where
 | sl (i : Nat) (t : Ty)
 | rw (r e : Nat) (t : Ty)
 | bx (b i : Nat) (t : Ty)
 | it (b : Nat)
 | mp (b : Nat) (k v : Ty)
 | bk (b : Nat) (t : Ty)
 | rr (b : Nat) (t : Ty)
def Ho.T : Ho -> Type
 | .sl _ t => t.el
 | .rw _ _ t => List t.el
 | .bx _ _ t => t.el
 | .it _ => Nat
 | .mp _ k v => List (k.el × v.el)
 | .bk _ t => t.el
 | .rr _ t => List t.el
def HT : List Ho -> Type
 | [] => Unit
 | [h] => h.T
 | h :: g :: hs => h.T × HT (g :: hs)
def asRow (c : RowC) (t : Ty) : Option (List t.el) := TV.as ⟨.sl c.t, c.xs⟩ (.sl t)
def svAs (s : Option SV) (t : Ty) : Option t.el := match s with
 | some (.val u x) => TV.as ⟨u, x⟩ t
 | some (.vptr u x) => TV.as ⟨u, x⟩ t
 | _ => none
def Ho.get (st : St) : (h : Ho) -> Option h.T
 | .sl i t => svAs (look st.sl i) t
 | .rw r _ t => match look st.rw r with
  | some c => asRow c t
  | none => none
 | .bx b i t => match look st.bx b with
  | some (.cells l _) => svAs l[i]? t
  | _ => none
 | .it b => match look st.bx b with
  | some (.iter _ p) => some p
  | _ => none
 | .mp b k v => match look st.bx b with
  | some (.mp k' v' ps) => TV.as ⟨.map k' v', some ps⟩ (.map k v) |>.bind id
  | _ => none
 | .bk b t => match look st.bx b with
  | some (.blk u x _) => TV.as ⟨u, x⟩ t
  | _ => none
 | .rr b t => match look st.bx b with
  | some (.rr _ k xs _) => TV.as ⟨.sl k.u, xs⟩ (.sl t)
  | _ => none
def getH (st : St) : (hs : List Ho) -> Option (HT hs)
 | [] => some ()
 | [h] => h.get st
 | h :: g :: hs => match h.get st, getH st (g :: hs) with
  | some x, some y => some (x, y)
  | _, _ => none
def repl {α : Type} : List (Nat × α) -> Nat -> α -> List (Nat × α)
 | [], i, v => [(i, v)]
 | (k, u) :: r, i, v => bif Nat.beq k i then (k, v) :: r else (k, u) :: repl r i v
def Ho.put (st : St) : (h : Ho) -> h.T -> St
 | .sl i t, x => { st with sl := repl st.sl i (.val t x) }
 | .rw r e t, xs => { st with rw := repl st.rw r ⟨e, t, xs⟩ }
 | .bx b i t, x => match look st.bx b with
  | some (.cells l e) => { st with bx := repl st.bx b (.cells (l.set i (.val t x)) e) }
  | _ => st
 | .it b, p => match look st.bx b with
  | some (.iter s _) => { st with bx := repl st.bx b (.iter s p) }
  | _ => st
 | .mp b k v, ps => { st with bx := repl st.bx b (.mp k v ps) }
 | .bk b t, x => match look st.bx b with
  | some (.blk _ _ e) => { st with bx := repl st.bx b (.blk t x e) }
  | _ => st
 | .rr b t, z => match look st.bx b with
  | some (.rr e k _ h) => match TV.as ⟨.sl t, z⟩ (.sl k.u) with
   | some ys => { st with bx := repl st.bx b (.rr e k ys h) }
   | none => st
  | _ => st
def putH (st : St) : (hs : List Ho) -> HT hs -> St
 | [], _ => st
 | [h], x => h.put st x
 | h :: g :: hs, x => putH (h.put st x.1) (g :: hs) x.2
def pickS {α : Type} (l : List (Nat × α)) : List Nat -> List (Nat × α)
 | [] => []
 | k :: ks => match look l k with
  | some v => (k, v) :: pickS l ks
  | none => pickS l ks
def sB (ks bs rs : List Nat) {hs : List Ho} (st : St) (z : HT hs) : St := putH ⟨pickS st.sl ks, pickS st.bx bs, pickS st.rw rs⟩ hs z
/-! Hints: where ways meet, where rounds begin, which answers are wanted again. -/
inductive Hi (P : Program) (G : World -> Prop) (R : Type) : Type 1
 | z
 | sk (n : Nat) (h : Hi P G R)
 | a (u : Ty) (f : u.el -> Hi P G R)
 | ac (us : List Ty) (f : PE us -> Hi P G R)
 | u (i : Nat) (h : Hi P G R)
 | t (h : Hi P G R)
 | f (h : Hi P G R)
 | c (x y : Hi P G R)
 | T (h : Hi P G R)
 | F (h : Hi P G R)
 | j (hs : List Ho) (S : St -> HT hs -> St) (J : HT hs -> Option R) (x : Hi P G R) (y : HT hs -> Hi P G R)
 | lp (hs : List Ho) (S : St -> HT hs -> St) (F : Nat -> HT hs -> Option R) (k : Nat) (y : (HT hs -> Option R) -> HT hs -> Hi P G R)
 | pg (m : Nat) (h : Hi P G R)
 | pj (m : Nat) (J : Bool -> Option R) (h : Bool -> Hi P G R)
 | g (m : Nat) (J : Bool -> Option R) (x y : Hi P G R) (h : Bool -> Hi P G R)
 | gj (m : Nat) (hs : List Ho) (S : St -> HT hs -> St) (J : HT hs -> Option R) (x y : Hi P G R) (h : HT hs -> Hi P G R)
 | cb {α β : Type} (B : PB P G α β) (ρ ρ' : List (Nat × Nat)) (h : β -> Hi P G R)
 | cn {α β : Type} (B : PB P G α β) (i j : Nat) (ρ ρ' : List (Nat × Nat)) (h : β -> Hi P G R)
 | ci (I : PI P G) (h : Hi P G R)
 | fz (r : Nat) (h : Hi P G R)
 | tl (n : Nat) (h : Hi P G R)
 | mx (a b c : List Nat) (h : Hi P G R)
 | hq (b c : List Nat) (h : Hi P G R)
 | fr (r : Nat) (h : Hi P G R)
 | md (a b c d : List Nat) (h : Hi P G R)
 | ct (a b : List Nat) (c2 c3 c4 c5 c6 : Nat) (h : Hi P G R)
 | fl (a b : List Nat) (i : Nat) (c d : List Nat) (h : Hi P G R)
 | mk (h : Hi P G R)
 | la (ds : List (List Nat)) (h : Hi P G R)
 | rn (ks bs rs : List Nat) (ρ : List (Nat × Nat))
 | un (d : Nat) (h : Hi P G R)
 | nm (ks bs rs : List Nat) (h : Hi P G R)
variable {P : Program} {G : World -> Prop}
def Hi.dec : Hi P G R -> Hi P G R
 | .sk n h => match n with
  | 0 => h
  | 1 => h
  | n + 2 => .sk (n + 1) h
 | h => h
def Hi.fork : Hi P G R -> Hi P G R × Hi P G R
 | .t h => (h, .z)
 | .f h => (.z, h)
 | .c x y => (x, y)
 | _ => (.z, .z)
/-! Questions of an operation. -/
inductive Qs : Type 1
 | nil
 | k (p : Prop) (d : Decidable p) (q : Qs)
 | t (u : Ty) (o : Option u.el) (p : u.el -> Prop) (ok : ∀ y, o = some y -> p y) (q : u.el -> Qs)
 | c (us : List Ty) (o : Option (PE us)) (p : PE us -> Prop) (ok : ∀ y, o = some y -> p y)
 | e (u : Ty) (a b : Option u.el) (p : Prop) (ok : a = b -> p) (q : Qs)
def KnOK (kn : List KN) : Prop := ∀ e ∈ kn, e.o = some e.v
def askTr : Qs -> Hi P G R -> List KN -> List TV -> List Prop -> (List TV -> List Prop -> Hi P G R -> List KN -> Tr R) -> Tr R
 | .nil, h, kn, orc, ps, k => k orc ps h kn
 | .k p d q, h, kn, orc, ps, k => .ask (@chk p d) fun _ => askTr q h kn orc (ps ++ [p]) k
 | .t u o p _ q, h, kn, orc, ps, k => match h with
  | .u i h' => match kn[i]? with
   | some e => .eqq ⟨u, o⟩ ⟨e.u, e.o⟩ (match TV.as ⟨e.u, e.v⟩ u with
    | some y => askTr (q y) h' kn (orc ++ [⟨u, y⟩]) (ps ++ [p y]) k
    | none => .ret none)
   | none => .ret none
  | .a u' g => .ask o fun y => match TV.as ⟨u, y⟩ u' with
   | some y' => askTr (q y) (g y') (⟨u, o, y⟩ :: kn) (orc ++ [⟨u, y⟩]) (ps ++ [p y]) k
   | none => .ret none
  | h => .ask o fun y => askTr (q y) h.dec (⟨u, o, y⟩ :: kn) (orc ++ [⟨u, y⟩]) (ps ++ [p y]) k
 | .c us o p _, h, kn, orc, ps, k => match h with
  | .ac us' g => .ask o fun y => match castL us' (splitTV us y) with
   | some y' => k (orc ++ splitTV us y) (ps ++ [p y]) (g y') kn
   | none => .ret none
  | h => .ask o fun y => k (orc ++ splitTV us y) (ps ++ [p y]) h.dec kn
 | .e u a b p _ q, h, kn, orc, ps, k => .eqq ⟨u, a⟩ ⟨u, b⟩ (askTr q h kn orc (ps ++ [p]) k)
abbrev Qs.same (u : Ty) (a b : Option u.el) (q : Qs) : Qs := .e u a b (a = b) id q
theorem allP_snoc : ∀ {l : List Prop} {p : Prop}, allP l -> p -> allP (l ++ [p])
 | [], _, _, h => ⟨h, trivial⟩
 | _ :: _, _, ⟨h1, h2⟩, h => ⟨h1, allP_snoc h2 h⟩
theorem KnOK.cons {kn : List KN} (h : KnOK kn) {u : Ty} {o : Option u.el} {y : u.el} (ho : o = some y) : KnOK (⟨u, o, y⟩ :: kn) := fun e he => by
 rcases List.mem_cons.1 he with rfl | he
 ·exact ho
 ·exact h e he
theorem KnOK.nil : KnOK [] := fun _ h => by cases h
structure Gd (t : Tr R) (r : R) : Prop where
 ok : t.Ok
 den : t.den = some r
theorem Gd.no {p : Prop} {r : R} (h : Gd (.ret none) r) : p := by cases h.den
theorem Gd.ask {r : R} {β : Type} {o : Option β} {f : β -> Tr R} (h : Gd (.ask o f) r) : ∃ x, o = some x /\ Gd (f x) r :=
 let ⟨x, h1, h2⟩ := bind_some h.den
 ⟨x, h1, h.ok x, h2⟩
theorem Gd.ite {r : R} {b : Bool} {x y : Tr R} (h : Gd (.ite b x y) r) : (b = true /\ Gd x r) \/ (b = false /\ Gd y r) := by
 cases b with
 | true => exact .inl ⟨rfl, h.ok.1, h.den⟩
 | false => exact .inr ⟨rfl, h.ok.2, h.den⟩
theorem Gd.eqb {r : R} {a b : Bool} {t : Tr R} (h : Gd (.eqb a b t) r) : a = b /\ Gd t r := ⟨h.ok.1, h.ok.2, h.den⟩
theorem Gd.eqp {r : R} {a b : List Prop} {t : Tr R} (h : Gd (.eqp a b t) r) : a = b /\ Gd t r := ⟨h.ok.1, h.ok.2, h.den⟩
theorem Gd.eqs {r : R} {a b : Option St} {t : Tr R} (h : Gd (.eqs a b t) r) : a = b /\ Gd t r := ⟨h.ok.1, h.ok.2, h.den⟩
theorem Gd.eqq {r : R} {a b : KQ} {t : Tr R} (h : Gd (.eqq a b t) r) : a = b /\ Gd t r := ⟨h.ok.1, h.ok.2, h.den⟩
theorem Gd.lab {r : R} {A : Type} {body : A -> Tr R} {J : A -> Option R} {t : Tr R} (h : Gd (.lab body J t) r) : (∀ z, J z = some r -> Gd (body z) r) /\ Gd t r :=
 ⟨fun z hz => ⟨h.ok.2.1 z, (h.ok.1 z).trans hz⟩, h.ok.2.2, h.den⟩
theorem Gd.lop {r : R} {A : Type} {body : (A -> Option R) -> A -> Tr R} {F : Nat -> A -> Option R} {t : Tr R} (h : Gd (.lop body F t) r) :
  (∀ z, F 0 z = none) /\ (∀ n z, F (n + 1) z = some r -> Gd (body (F n) z) r) /\ Gd t r :=
 ⟨h.ok.1, fun n z hz => ⟨h.ok.2.2.1 n z, (h.ok.2.1 n z).trans hz⟩, h.ok.2.2.2, h.den⟩
def Asked (k : List TV -> List Prop -> Hi P G R -> List KN -> Tr R) (r : R) : Prop :=
 ∃ orc ps h kn, allP ps /\ KnOK kn /\ Gd (k orc ps h kn) r
theorem zb1 {r : R} {k : List TV -> List Prop -> Hi P G R -> List KN -> Tr R} : ∀ (q : Qs) {h : Hi P G R} {kn : List KN} {orc : List TV} {ps : List Prop}, KnOK kn -> allP ps ->
  Gd (askTr q h kn orc ps k) r -> Asked k r
 | .nil, h, kn, orc, ps, hk, hp, hg => ⟨orc, ps, h, kn, hp, hk, hg⟩
 | .k p d q, h, kn, orc, ps, hk, hp, hg => by
  obtain ⟨x, h1, h2⟩ := hg.ask
  exact zb1 q hk (allP_snoc hp (zbw h1)) h2
 | .t u o p ok q, h, kn, orc, ps, hk, hp, hg => by
  unfold askTr at hg
  split at hg
  ·rename_i i h'
   split at hg
   ·rename_i e he
    obtain ⟨hq, hg⟩ := hg.eqq
    have hv := hk e (List.mem_of_getElem? he)
    obtain ⟨eu, eo, ev⟩ := e
    simp only [KQ.mk.injEq] at hq
    obtain ⟨rfl, hq⟩ := hq
    simp only [heq_eq_eq] at hq
    subst hq
    simp only [TV.as_self] at hg
    exact zb1 (q ev) hk (allP_snoc hp (ok ev hv)) hg
   ·exact hg.no
  ·rename_i u' g
   obtain ⟨y, h1, h2⟩ := hg.ask
   split at h2
   ·exact zb1 (q y) (hk.cons h1) (allP_snoc hp (ok y h1)) h2
   ·exact h2.no
  ·obtain ⟨y, h1, h2⟩ := hg.ask
   exact zb1 (q y) (hk.cons h1) (allP_snoc hp (ok y h1)) h2
 | .c us o p ok, h, kn, orc, ps, hk, hp, hg => by
  unfold askTr at hg
  split at hg
  ·obtain ⟨y, h1, h2⟩ := hg.ask
   split at h2
   ·exact ⟨_, _, _, _, allP_snoc hp (ok y h1), hk, h2⟩
   ·exact h2.no
  ·obtain ⟨y, h1, h2⟩ := hg.ask
   exact ⟨_, _, _, _, allP_snoc hp (ok y h1), hk, h2⟩
 | .e u a b p ok q, h, kn, orc, ps, hk, hp, hg => by
  obtain ⟨hq, hg⟩ := hg.eqq
  simp only [KQ.mk.injEq, heq_eq_eq, true_and] at hq
  exact zb1 q hk (allP_snoc hp (ok hq)) hg
end Go.Ev
namespace Go.Ev
open Go Go.RowKit
variable [Dr]
variable {R : Type} {P : Program} {G : World -> Prop}
def atQ {u : Ty} (xs : List u.el) (n : Int) : Qs := .t u (at? xs n) (fun y => at? xs n = some y) (fun _ h => h) (fun _ => .nil)
def pathQ : (t : Ty) -> t.el -> List PS -> Qs
 | _, _, [] => .nil
 | t, x, .f off u :: p => match getT t x off u with
  | some y => pathQ u y p
  | none => .nil
 | .arr _ u, xs, .x j _ :: p => .t u (at? (show List u.el from xs) j) (fun y => at? (show List u.el from xs) j = some y) (fun _ h => h) (fun y => pathQ u y p)
 | _, _, .x _ _ :: _ => .nil
def qNe (b : Int) : Qs := .k (b ≠ 0) inferInstance .nil
def qGe (b : Int) : Qs := .k (0 <= b) inferInstance .nil
def qCat (a b : List UInt8) : Qs := .k (a.length + b.length <= lim) inferInstance .nil
def qErr (a : Option (Option (Nat × Int))) : Qs := .k (a ≠ some none) inferInstance .nil
def qTxt (s : List UInt8) : Qs := .k (s.length <= lim) inferInstance .nil
def binQ (op : BinOp) (y : Operand) (a b : TV) : Qs :=
 match a, b with
 | ⟨.int _, _⟩, ⟨.int _, b⟩ => match op with
  | .quo => qNe b
  | .rem => qNe b
  | .shl => qGe b
  | .shr => qGe b
  | _ => .nil
 | ⟨.str, a⟩, ⟨.str, b⟩ => match op with
  | .add => qCat a b
  | _ => .nil
 | ⟨.err, a⟩, ⟨.err, _⟩ => match isNilC y with
  | true => .nil
  | false => qErr a
 | _, _ => .nil
def convQ (P : Program) (st : St) (src dst : TypeId) (x : Operand) : Qs :=
 match (getSV st x).map (thaw st), P.underlying dst with
 | some (.val (.sl (.int .i32)) xs), some .string => qTxt (za9 xs)
 | some (.val .str s), some (.slice e) => match P.underlying e with
  | some (.int .i32) => qTxt s
  | _ => .nil
 | _, _ => .nil
theorem rel_ok {F : FnF} {as0 : List TV} {x : PE F.dom} (h : castL F.dom as0 = some x) (y : PE F.cod) (hy : F.fn x = some y) : F.toC.rel as0 (splitTV F.cod y) := by
 show (match castL F.dom as0, castL F.cod (splitTV F.cod y) with
  | some x, some y => F.fn x = some y
  | _, _ => False)
 rw [h, castL_split]
 exact hy
def callQ (fs : List (PF P G)) (E : Env) (st : St) (c : Call) : Qs :=
 match c.callee with
 | .value x => match calleeOf E st x with
  | some (f, F, l) => match argTVs E st F.flat c.argTypes.toList c.args.toList, lookF fs f with
   | some as0, some F' => match h : castL F'.dom (as0 ++ l) with
    | some x => .c F'.cod (F'.fn x) (fun y => F'.toC.rel (as0 ++ l) (splitTV F'.cod y)) (rel_ok h)
    | none => .nil
   | _, _ => .nil
  | none => .nil
 | .builtin .len => match c.args.toList with
  | [x] => match getSV st x with
   | some (.sub b i) => match look st.bx b with
    | some (.rr _ k xs none) => atQ (u := k.u) xs i
    | _ => .nil
   | _ => .nil
  | _ => .nil
 | .builtin .append => match c.args.toList, c.argTypes.toList with
  | [.tmp a, x], [t, t'] => match look st.sl a with
   | some (.sub b i) => match look st.bx b with
    | some (.rr _ k xs none) => .t k.u (at? xs i) (fun y => at? xs i = some y) (fun _ h => h) fun x1 => match getT k.u x1 k.off (.sl k.t) with
     | some ys => match srcList E.P st k.t t' x with
      | some zs => .k ((lst ys).length + zs.length <= lim) inferInstance .nil
      | none => .nil
     | none => .nil
    | _ => .nil
   | some (.osl b) => match look st.bx b, getSV st x with
    | some (.rr _ k xs none), some (.osl b2) => match look st.bx b2 with
     | some (.rr _ k2 xs2 none) => match TV.as ⟨.sl k2.u, xs2⟩ (.sl k.u) with
      | some ys => .k (xs.length + (lst ys).length <= lim) inferInstance .nil
      | none => .nil
     | _ => .nil
    | _, _ => .nil
   | _ => match baseRow E.P st 0 t (.tmp a) with
    | some (_, r) => match srcList E.P st r.t t' x with
     | some ys => .k (r.xs.length + ys.length <= lim) inferInstance .nil
     | none => .nil
    | none => .nil
  | [s, x], [t, t'] => match baseRow E.P st 0 t s with
   | some (_, r) => match srcList E.P st r.t t' x with
    | some ys => .k (r.xs.length + ys.length <= lim) inferInstance .nil
    | none => .nil
   | none => .nil
  | _, _ => .nil
 | .builtin .copy => match c.args.toList, c.argTypes.toList with
  | [x, y], [_, t'] => match getSV st x with
   | some (.row r) => match look st.rw r with
    | some c => match srcList E.P st c.t t' y with
     | some ys => .k (ys.length <= c.xs.length) inferInstance .nil
     | none => .nil
    | none => .nil
   | _ => .nil
  | _, _ => .nil
 | _ => .nil
def innerQ (k : RK) (xs : List k.u.el) (i j : Int) (q : k.u.el -> (Ty.sl k.t).el -> k.t.el -> Qs) : Qs :=
 .t k.u (at? xs i) (fun y => at? xs i = some y) (fun _ h => h) fun x1 => match getT k.u x1 k.off (.sl k.t) with
  | some ys => .t k.t (at? (lst ys) j) (fun y => at? (lst ys) j = some y) (fun _ h => h) fun z => q x1 ys z
  | none => .nil
def isVC : Op -> Bool
 | .call c => match c.callee with
  | .value _ => true
  | _ => false
 | _ => false
def isMk : Op -> Bool
 | .assign (.const (.slice none 0 0)) => true
 | .move (.const (.slice none 0 0)) => true
 | .makeSlice _ _ _ => true
 | _ => false
def mkQ (E : Env) (st : St) (o : Oper) : Qs :=
 match o.op with
 | .makeSlice t l c => match elemOf? E.P t, intOf? (getSV st l), intOf? (getSV st c) with
  | some (e, _), some n, some kk => match rkOf E.P e with
   | some k => .k (0 <= n /\ n <= kk /\ kk <= (lim : Int)) inferInstance (.same k.u (setT k.u (zeroEl k.u) k.off ⟨.sl k.t, []⟩) (some (zeroEl k.u)) (.same (.sl k.t) (getT k.u (zeroEl k.u) k.off (.sl k.t)) (some (show (Ty.sl k.t).el from [])) .nil))
   | none => .nil
  | _, _, _ => .nil
 | _ => .nil
def askOf (fs : List (PF P G)) (E : Env) (st0 : St) (o : Oper) : Qs :=
 let st := zbl (rrFz st0 (prepOps E o.op)) (prepOps E o.op)
 match o.op with
 | .binOp op _ x y _ => match getTV st x, getTV st y with
  | some a, some b => binQ op y a b
  | _, _ => .nil
 | .convert src dst x => convQ E.P st src dst x
 | .index _ x i => match getTV st x, intOf? (getSV st i) with
  | some ⟨.str, s⟩, some n => .t (.int .u8) (byteAt s n) (fun b => byteAt s n = some b) (fun _ h => h) (fun _ => .nil)
  | some ⟨.arr _ u, xs⟩, some n => atQ (u := u) xs n
  | _, _ => .nil
 | .indexAddr t x i => match getSV st x, intOf? (getSV st i) with
  | some (.val (.sl u) xs), some n => atQ (u := u) xs n
  | some (.row r), some n => match look st.rw r with
   | some c => atQ c.xs n
   | none => .nil
  | some (.vptr (.arr _ u) xs), some n => atQ (u := u) xs n
  | some (.bp _ _), some n => match ty E.P t with
   | some (.arr len _) => .k (0 <= n /\ n < (len : Int)) inferInstance .nil
   | _ => .nil
  | some (.rptr r i0 off0 sz), some n => match look st.rw r, ty E.P t with
   | some c, some (.arr len u) => match c.t.beq u && (i0 == 0 && (Nat.beq off0 0 && Nat.beq sz c.t.cells)) with
    | true => .t c.t (at? c.xs n) (fun y => at? c.xs n = some y) (fun _ h => h) (fun _ => .k (c.xs.length = len) inferInstance .nil)
    | false => .nil
   | _, _ => .nil
  | some (.osl b), some n => match look st.bx b with
   | some (.o2 _ _ xs) => .k (0 <= n /\ n < (xs.length : Int)) inferInstance .nil
   | some (.rr _ _ xs _) => .k (0 <= n /\ n < (xs.length : Int)) inferInstance .nil
   | _ => .nil
  | some (.sub b i0), some n => match look st.bx b with
   | some (.rr _ k xs none) => .t k.u (at? xs i0) (fun y => at? xs i0 = some y) (fun _ h => h) fun x1 => match getT k.u x1 k.off (.sl k.t) with
    | some ys => .k (0 <= n /\ n < ((lst ys).length : Int)) inferInstance .nil
    | none => .nil
   | _ => .nil
  | _, _ => .nil
 | .load _ x => match getSV st x with
  | some (.rrp b i _ _) => match look st.bx b with
   | some (.rr _ k xs none) => atQ (u := k.u) xs i
   | _ => .nil
  | some (.ssp b i j _ _) => match look st.bx b with
   | some (.rr _ k xs none) => innerQ k xs i j fun _ _ _ => .nil
   | _ => .nil
  | some (.rptr r i _ _) => match look st.rw r with
   | some c => atQ c.xs i
   | none => .nil
  | some (.bp b p) => match look st.bx b with
   | some (.blk t x _) => pathQ t x p
   | _ => .nil
  | _ => .nil
 | .store _ x v => match getSV st0 x with
  | some (.rrp b i off _) => match look st0.bx b, getSV st0 v with
   | some (.rr _ k xs none), some (.val t' z) => .t k.u (at? xs i) (fun y => at? xs i = some y) (fun _ h => h) fun x1 => match setT k.u x1 off ⟨t', z⟩, setT k.u x1 k.off ⟨.sl k.t, []⟩ with
    | some x2, some x0 => .same k.u (setT k.u x2 k.off ⟨.sl k.t, []⟩) (some ((setT k.u x0 off ⟨t', z⟩).getD x0)) (.same (.sl k.t) (getT k.u x2 k.off (.sl k.t)) (getT k.u x1 k.off (.sl k.t)) .nil)
    | _, _ => .nil
   | some (.rr _ k xs h), some (.row r) => match look st0.rw r with
    | some c => match TV.as ⟨.sl c.t, c.xs⟩ (.sl k.t) with
     | some ys => .t k.u (at? xs i) (fun y => at? xs i = some y) (fun _ h => h) fun x1 => match setT k.u x1 k.off ⟨.sl k.t, ys⟩ with
      | some x2 => .same k.u (setT k.u x2 k.off ⟨.sl k.t, []⟩) (setT k.u x1 k.off ⟨.sl k.t, []⟩) (.same (.sl k.t) (getT k.u x2 k.off (.sl k.t)) (some ys) (match h with
       | none => .nil
       | some i0 => .e (.int .i64) (some i0) (some i) (i0 = i) Option.some.inj .nil))
      | none => .nil
     | none => .nil
    | none => .nil
   | _, _ => .nil
  | some (.ssp b i j off _) => match look st0.bx b, getSV st0 v with
   | some (.rr _ k xs none), some (.val t' z) => innerQ k xs i j fun x1 ys z0 => match setT k.t z0 off ⟨t', z⟩ with
    | some z1 => match setT k.u x1 k.off ⟨.sl k.t, (lst ys).set j.toNat z1⟩ with
     | some x2 => .same k.u (setT k.u x2 k.off ⟨.sl k.t, []⟩) (setT k.u x1 k.off ⟨.sl k.t, []⟩) (.same (.sl k.t) (getT k.u x2 k.off (.sl k.t)) (some ((lst ys).set j.toNat z1)) .nil)
     | none => .nil
    | none => .nil
   | _, _ => .nil
  | some (.rptr r i _ _) => match look st0.rw r with
   | some c => atQ c.xs i
   | none => .nil
  | some (.bp b p) => match look st0.bx b with
   | some (.blk t x _) => pathQ t x p
   | _ => .nil
  | some (.optr b n) => match look st0.bx b with
   | some (.o2 _ _ xs) => .k (0 <= n /\ n < (xs.length : Int)) inferInstance .nil
   | _ => .nil
  | _ => .nil
 | .slice _ x lo hi none => match getSV st x with
  | some (.val .str s) => match evP.loSV st lo, evP.hiSV st hi (List.length (α := UInt8) s) with
   | some l, some h => .t .str (sub? (show List UInt8 from s) l h) (fun y => sub? (show List UInt8 from s) l h = some y) (fun _ h => h) (fun _ => .nil)
   | _, _ => .nil
  | some (.val (.sl u) xs) => match evP.loSV st lo, evP.hiSV st hi (List.length (α := u.el) xs) with
   | some l, some h => .t (.sl u) (sub? (show List u.el from xs) l h) (fun y => sub? (show List u.el from xs) l h = some y) (fun _ h => h) (fun _ => .nil)
   | _, _ => .nil
  | some (.row r) => match look st.rw r, hi with
   | some c, some h => match intOf? (getSV st h) with
    | some n => .k (0 <= n /\ n <= (c.xs.length : Int)) inferInstance .nil
    | none => .nil
   | _, _ => .nil
  | some (.rptr r _ _ _) => match look st.rw r, lo with
   | some c, some l => match intOf? (getSV st l), arrTy E.P (match o.op with | .slice t _ _ _ _ => t | _ => 0) with
    | some n, some (len, _) => .t (.sl c.t) (sub? c.xs n (c.xs.length : Int)) (fun y => sub? c.xs n (c.xs.length : Int) = some y) (fun _ h => h) (fun _ => .k (c.xs.length = len) inferInstance .nil)
    | _, _ => .nil
   | _, _ => .nil
  | _ => .nil
 | .makeSlice _ l c => match intOf? (getSV st l), intOf? (getSV st c) with
  | some n, some k => .k (0 <= n /\ n <= k /\ k <= (lim : Int)) inferInstance .nil
  | _, _ => .nil
 | .buildSlice t _ ps => match ps.toList with
  | [(0, x)] => match getSV st x, elemOf? E.P t with
   | some (.sa l), some (e, _) => match rkOf E.P e with
    | some k => match l[k.off]?, svOf k.off k.t 0 l with
     | some (.r r), some svs => match look st.rw r, pack k.u svs with
      | some c, some (x0, []) => match TV.as ⟨.sl c.t, c.xs⟩ (.sl k.t) with
       | some ys => match setT k.u x0 k.off ⟨.sl k.t, ys⟩ with
        | some x1 => .same k.u (setT k.u x1 k.off ⟨.sl k.t, []⟩) (some x0) (.same (.sl k.t) (getT k.u x1 k.off (.sl k.t)) (some ys) .nil)
        | none => .nil
       | none => .nil
      | _, _ => .nil
     | _, _ => .nil
    | none => .nil
   | _, _ => .nil
  | _ => .nil
 | .call c => callQ fs E st c
 | _ => .nil
variable {cx : Cx} {st st' : St} {T : Array Value} {w : World} {E : Env} {Q : Post} {ops : Array Oper} {l : List Oper}
def KT (P : Program) (G : World -> Prop) (R : Type) := St -> Hi P G R -> List KN -> Tr R
def fin (E : Env) (st : St) (o : Oper) (k : KT P G R) (orc : List TV) (ps : List Prop) (h : Hi P G R) (kn : List KN) : Tr R :=
 match evO E st o orc with
 | some (st', [], ob) => .eqp ob ps (k st' h kn)
 | _ => .ret none
def stepO1 (fs : List (PF P G)) (E : Env) (st : St) (o : Oper) (h : Hi P G R) (kn : List KN) (k : KT P G R) : Tr R :=
 match isVC o.op, h with
 | true, .ci I h => match enterI st o I.f with
  | some r => match look st.rw r with
   | some c => match TV.as ⟨.sl c.t, c.xs⟩ (.sl I.t), Nat.beq c.e I.e with
    | some xs, true => match leaveI0 st o E.n r ⟨I.e, I.t, I.fn xs⟩ with
     | some st' => k st' h kn
     | none => .ret none
    | _, _ => .ret none
   | none => .ret none
  | none => .ret none
 | true, .cb B ρ ρ' hf => match enterB E st o B.F.n B.f ρ with
  | some S0 => match B.X S0 with
   | some x => .eqs (some S0) (some (B.F.S x)) (.ask (B.fn x) fun y => match leaveB0 st (B.F.S' x y) o B.F.n E.n ρ ρ' (B.F.rs x y) with
    | some st' => k st' (hf y) kn
    | none => .ret none)
   | none => .ret none
  | none => .ret none
 | true, .cn B i j ρ ρ' hf => match ghost E.P st o i j with
  | some st1 => match enterN E st1 o B.F.n B.f ρ i j with
   | some S0 => match B.X S0 with
    | some x => .eqs (some S0) (some (B.F.S x)) (.ask (B.fn x) fun y => match leaveB0 st1 (B.F.S' x y) o B.F.n E.n ρ ρ' (B.F.rs x y) with
     | some st' => k st' (hf y) kn
     | none => .ret none)
    | none => .ret none
   | none => .ret none
  | none => .ret none
 | _, h => match isMk o.op with
  | true => match h with
   | .mk h => askTr (mkQ E st o) h kn [⟨.unit, ()⟩] [] (fin E st o k)
   | h => askTr (askOf fs E st o) h.dec kn [] [] (fin E st o k)
  | false => match o.op with
  | .next x true => match getSV st x with
   | some (.iter b) => match look st.bx b with
    | some (.iter s p) => .ite (decide (p < s.length)) (fin E st o k [tB true] [p < s.length] h.fork.1 kn) (fin E st o k [tB false] [s.length <= p] h.fork.2 kn)
    | _ => .ret none
   | _ => .ret none
  | _ => match h with
   | .un d h => match Nat.beq (o.dst.getD 0) d with
    | true => askTr (askOf fs E st o) h kn [⟨.unit, ()⟩] [] (fin E st o k)
    | false => askTr (askOf fs E st o) (.un d h) kn [] [] (fin E st o k)
   | h => askTr (askOf fs E st o) h kn [] [] (fin E st o k)
def stepO (fs : List (PF P G)) (E : Env) (st : St) (o : Oper) (h : Hi P G R) (kn : List KN) (k : KT P G R) : Tr R :=
 match isVC o.op, h with
 | true, .fz r h' => match look st.rw r, o.guard with
  | some c, none => stepO1 fs E (st.freeze r c) o h' kn k
  | _, _ => .ret none
 | _, h => stepO1 fs E st o h kn k
def gSlot (ops : Array Oper) (st : St) (g : Nat × Bool) : Option (Nat × Bool) :=
 match (ops[g.1]?).bind (·.dst) with
 | some d => match look st.sl d with
  | some (.val .bool b) => some (d, b)
  | _ => none
 | none => none
def delS (st : St) (gs : Nat) : St := { st with sl := del st.sl gs }
def segB (seg : List Oper -> St -> Option (St × List TV × List Prop)) (l : List Oper) (st : St) (gs : Nat) (b : Bool) (d : Nat) : Option (St × Bool) :=
 match seg l (setB st gs b) with
 | some (s, [], []) => match look s.sl d with
  | some (.val .bool x) => match s.norm (d :: keysOf (del (delS st gs).sl d)) (keysOf st.bx) (keysOf st.rw) with
   | some s' => some (s', x)
   | none => none
  | _ => none
 | _ => none
def arrive (hs : List Ho) (S : HT hs -> St) (J : HT hs -> Option R) (st : St) : Tr R :=
 match getH st hs with
 | some z => .eqs (st.norm (keysOf (S z).sl) (keysOf (S z).bx) (keysOf (S z).rw)) (some (S z)) (.ret (J z))
 | none => .ret none
def arriveB (st0 : St) (d : Nat) (J : Bool -> Option R) (st : St) : Tr R :=
 match look st.sl d with
 | some (.val .bool v) => .eqs (st.norm (d :: keysOf (del st0.sl d)) (keysOf st0.bx) (keysOf st0.rw)) (some (st0.put d (.val .bool v))) (.ret (J v))
 | _ => .ret none
def dstAt (l : List Oper) (m : Nat) : Option Nat := match l[m]? with
 | some o => o.dst
 | none => none
abbrev StepT (P : Program) (G : World -> Prop) (R : Type) := St -> Oper -> Hi P G R -> List KN -> KT P G R -> Tr R
def runX (nc : Nat) (mu : St -> List Oper -> Option (St × List Oper)) (step : StepT P G R) (seg : List Oper -> St -> Option (St × List TV × List Prop)) (ops : Array Oper) : Nat -> List Oper -> St -> Hi P G R -> List KN -> KT P G R -> Tr R
 | 0, _, _, _, _, _ => .ret none
 | n + 1, l0, st, h, kn, K => match l0 with
  | [] => K st h kn
  | o :: l => match o.guard with
   | none => match mu st (o :: l) with
    | some (st', l') => runX nc mu step seg ops n l' st' h kn K
    | none => step st o h kn fun st' h' kn' => runX nc mu step seg ops n l st' h' kn' K
   | some g => match h with
    | .pg m h' => match gSlot ops st g, dstAt (o :: l) m with
     | some (gs, b), some d => match segB seg ((o :: l).take (m + 1)) st gs true d, segB seg ((o :: l).take (m + 1)) st gs false d with
      | some (s1, x1), some (s2, x2) => .eqs (some (setB st gs b)) (some st) (.eqs (some s1) (some ((delS st gs).put d (.val .bool x1))) (.eqs (some s2) (some ((delS st gs).put d (.val .bool x2)))
        (runX nc mu step seg ops n (l.drop m) ((delS st gs).put d (.val .bool (bif b then x1 else x2))) h' kn K)))
      | _, _ => .ret none
     | _, _ => .ret none
    | .pj m J hz => match gSlot ops st g, dstAt (o :: l) m with
     | some (gs, b), some d => match segB seg ((o :: l).take (m + 1)) st gs true d, segB seg ((o :: l).take (m + 1)) st gs false d with
      | some (s1, x1), some (s2, x2) => .eqs (some (setB st gs b)) (some st) (.eqs (some s1) (some ((delS st gs).put d (.val .bool x1))) (.eqs (some s2) (some ((delS st gs).put d (.val .bool x2)))
        (.lab (fun v => runX nc mu step seg ops n (l.drop m) ((delS st gs).put d (.val .bool v)) (hz v) [] K) J (.ret (J (bif b then x1 else x2))))))
      | _, _ => .ret none
     | _, _ => .ret none
    | .g m J hx hy hz => match gSlot ops st g, dstAt (o :: l) m with
     | some (gs, b), some d => .eqs (some (setB st gs b)) (some st) (.lab (fun v => runX nc mu step seg ops n (l.drop m) ((delS st gs).put d (.val .bool v)) (hz v) [] K) J
       (.ite b (runX nc mu step seg ops n ((o :: l).take (m + 1)) (setB st gs true) hx kn fun st' _ _ => arriveB (delS st gs) d J st')
        (runX nc mu step seg ops n ((o :: l).take (m + 1)) (setB st gs false) hy kn fun st' _ _ => arriveB (delS st gs) d J st')))
     | _, _ => .ret none
    | .gj m hs S J hx hy hz => match gSlot ops st g with
     | some (gs, b) => .eqs (some (setB st gs b)) (some st) (.lab (fun z => runX nc mu step seg ops n (l.drop m) (S st z) (hz z) [] K) J
       (.ite b (runX nc mu step seg ops n ((o :: l).take (m + 1)) (setB st gs true) hx kn fun st' _ _ => arrive hs (S st) J st')
        (runX nc mu step seg ops n ((o :: l).take (m + 1)) (setB st gs false) hy kn fun st' _ _ => arrive hs (S st) J st')))
     | none => .ret none
    | h => match wantSV ops st o with
     | some true => step st o h.dec kn fun st' h' kn' => runX nc mu step seg ops n l st' h' kn' K
     | some false => match o.dst with
      | some d => match Nat.blt d nc with
       | true => runX nc mu step seg ops n l (st.put d .undef) h.dec kn K
       | false => .ret none
      | none => runX nc mu step seg ops n l st h.dec kn K
     | none => .ret none
def finD (E : Env) (st : St) (o : Oper) (d : Nat) (k : KT P G R) (orc : List TV) (ps : List Prop) (h : Hi P G R) (kn : List KN) : Tr R :=
 match evD1 E st o orc with
 | some ⟨sv, [], ob⟩ => .eqp ob ps (k (st.put d sv) h kn)
 | _ => .ret none
def stepD (fs : List (PF P G)) (E : Env) : StepT P G R := fun st o h kn k =>
 match o.dst with
 | some d => match Nat.blt d E.n with
  | true => askTr (askOf fs E st o) h kn [] [] (finD E st o d k)
  | false => .ret none
 | none => .ret none
def finC (E : Env) (st : St) (o : Oper) (d : Nat) (k : KT P G R) (orc : List TV) (ps : List Prop) (h : Hi P G R) (kn : List KN) : Tr R :=
 match evD1 E st o orc with
 | some ⟨sv, [], ob⟩ => match calmT E.P o sv with
  | true => .eqp ob ps (k (st.put d sv) h kn)
  | false => .ret none
 | _ => .ret none
def stepC (fs : List (PF P G)) (E : Env) : StepT P G R := fun st o h kn k =>
 match o.dst with
 | some d => match Nat.blt d E.n with
  | true => askTr (askOf fs E st o) h kn [] [] (finC E st o d k)
  | false => .ret none
 | none => .ret none
def runLs (fs : List (PF P G)) (E : Env) (ops : Array Oper) (l : List Oper) : St -> Hi P G R -> List KN -> KT P G R -> Tr R := runX E.n (upd3 E) (stepO fs E) (fun l st => evL E ops l st []) ops 5000 l
def runDs (fs : List (PF P G)) (E : Env) (ops : Array Oper) (l : List Oper) : St -> Hi P G R -> List KN -> KT P G R -> Tr R := runX E.n (fun _ _ => none) (stepD fs E) (fun l st => evD E ops l st []) ops 5000 l
def runCs (fs : List (PF P G)) (E : Env) (ops : Array Oper) (l : List Oper) : St -> Hi P G R -> List KN -> KT P G R -> Tr R := runX E.n (fun _ _ => none) (stepC fs E) (fun _ _ => none) ops 5000 l
def runF (fs : List (PF P G)) (E : Env) (ops : Array Oper) (o : Oper) (d : Nat) (orc : List TV) (ps : List Prop) (C2 : List Nat) (K : KT P G R) : List Nat -> St -> Hi P G R -> List KN -> Tr R
 | [], st, h, kn => runLs fs E ops (pickO ops C2) st h kn K
 | c :: C1, st, h, kn => match ops[c]? with
  | some oc => match wantSV ops st oc with
   | some true => stepO fs E st oc h kn fun st' h' kn' => match evD1 E st' o orc, look st'.sl d with
    | some r, some sv => match detS sv with
     | true => .eqs (some ⟨[(d, r.sv)], [], []⟩) (some ⟨[(d, sv)], [], []⟩) (.eqp r.ob ps (runF fs E ops o d orc ps C2 K C1 st' h' kn'))
     | false => .ret none
    | _, _ => .ret none
   | _ => .ret none
  | none => .ret none
def askF (fs : List (PF P G)) (E : Env) (o : Oper) (d : Nat) (K : List TV -> List Prop -> KT P G R) : KT P G R := fun st h kn =>
 askTr (askOf fs E st o) h kn [] [] fun orc ps h kn => match evD1 E st o orc with
  | some r => .eqp r.ob ps (K orc ps (st.put d r.sv) h kn)
  | none => .ret none
def runE (fs : List (PF P G)) (E : Env) (ops : Array Oper) (K : KT P G R) : List Nat -> St -> Hi P G R -> List KN -> Tr R
 | [], st, h, kn => K st h kn
 | c :: C, st, h, kn => match ops[c]? with
  | some o => match wantSV ops st o, o.dst with
   | some true, some d => match Nat.blt d E.n with
    | true => askTr (askOf fs E st o) h kn [] [] fun orc ps h kn => match evE1 E st o orc with
     | some ⟨sv, _, ob⟩ => .eqp ob ps (runE fs E ops K C (st.put d sv) h kn)
     | none => .ret none
    | false => .ret none
   | _, _ => .ret none
  | none => .ret none
/-! Regions gone through in any order. -/
inductive LA (P : Program) (G : World -> Prop) : Type 1
 | o (orc : List TV) (ps : List Prop)
 | b {α β : Type} (z : Option Nat) (B : PB P G α β) (ρ ρ' : List (Nat × Nat)) (x : α) (y : β)
def LAOK : LA P G -> Prop
 | .o _ ps => allP ps
 | .b _ B _ _ x y => B.fn x = some y
def frz (st : St) : Option Nat -> Option St
 | none => some st
 | some r => match look st.rw r with
  | some c => some (st.freeze r c)
  | none => none
def isAny : SV -> Bool
 | .any => true
 | _ => false
def dropA (s : St) : Option St := s.norm (keysOf (s.sl.filter fun p => !isAny p.2)) (keysOf s.bx) (keysOf s.rw)
def laStep (E : Env) (st : St) (o : Oper) : LA P G -> Option St
 | .o orc _ => match evO E st o orc with
  | some (st', [], _) => dropA st'
  | _ => none
 | .b z B ρ ρ' x y => match frz st z with
  | some st => match leaveB0 st (B.F.S' x y) o B.F.n E.n ρ ρ' (B.F.rs x y) with
   | some st' => dropA st'
   | none => none
  | none => none
def lookLA : List (Nat × LA P G) -> Nat -> Option (LA P G)
 | [], _ => none
 | (k, v) :: r, n => bif Nat.beq k n then some v else lookLA r n
def latS (E : Env) (ops : Array Oper) (las : List (Nat × LA P G)) (st : St) : List Nat -> Option St
 | [] => some st
 | i :: D => match latS E ops las st D with
  | some s => match ops[i]?, lookLA las i with
   | some o, some la => laStep E s o la
   | _, _ => none
  | none => none
def latChk (E : Env) (s : St) (o : Oper) (t : St) (rest : Tr R) : LA P G -> Tr R
 | .o orc ps => match evO E s o orc with
  | some (s', [], ob) => .eqs (s'.norm (keysOf t.sl) (keysOf t.bx) (keysOf t.rw)) (some t) (.eqp ob ps rest)
  | _ => .ret none
 | .b z B ρ ρ' x y => match frz s z with
  | some s => match enterB E s o B.F.n B.f ρ, leaveB0 s (B.F.S' x y) o B.F.n E.n ρ ρ' (B.F.rs x y) with
   | some S0, some s' => .eqs (some S0) (some (B.F.S x)) (.eqs (s'.norm (keysOf t.sl) (keysOf t.bx) (keysOf t.rw)) (some t) rest)
   | _, _ => .ret none
  | none => .ret none
def latAll (E : Env) (ops : Array Oper) (las : List (Nat × LA P G)) (st : St) : List (List Nat × Nat) -> Tr R -> Tr R
 | [], rest => rest
 | (D, i) :: l, rest => match latS E ops las st D, latS E ops las st (insD i D), ops[i]?, lookLA las i with
  | some s, some t, some o, some la => match o.guard with
   | none => latChk E s o t (latAll E ops las st l rest) la
   | some _ => .ret none
  | _, _, _, _ => .ret none
def latFin (E : Env) (st : St) (o : Oper) (K : St -> Hi P G R -> List KN -> LA P G -> Tr R) (orc : List TV) (ps : List Prop) (h : Hi P G R) (kn : List KN) : Tr R :=
 match evO E st o orc with
 | some (st', [], _) => K st' h kn (.o orc ps)
 | _ => .ret none
def latCB (E : Env) (st : St) (o : Oper) (z : Option Nat) (h : Hi P G R) (kn : List KN) (K : St -> Hi P G R -> List KN -> LA P G -> Tr R) : Tr R :=
 match h with
 | .cb B ρ ρ' hf => match frz st z with
  | some st => match enterB E st o B.F.n B.f ρ with
   | some S0 => match B.X S0 with
    | some x => .eqs (some S0) (some (B.F.S x)) (.ask (B.fn x) fun y => match leaveB0 st (B.F.S' x y) o B.F.n E.n ρ ρ' (B.F.rs x y) with
     | some st' => K st' (hf y) kn (.b z B ρ ρ' x y)
     | none => .ret none)
    | none => .ret none
   | none => .ret none
  | none => .ret none
 | _ => .ret none
def latOne (fs : List (PF P G)) (E : Env) (st : St) (o : Oper) (h : Hi P G R) (kn : List KN) (K : St -> Hi P G R -> List KN -> LA P G -> Tr R) : Tr R :=
 match isVC o.op, h with
 | true, .fz r h' => latCB E st o (some r) h' kn K
 | true, .cb B ρ ρ' hf => latCB E st o none (.cb B ρ ρ' hf) kn K
 | _, h => match isMk o.op with
  | true => match h with
   | .mk h => askTr (mkQ E st o) h kn [⟨.unit, ()⟩] [] (latFin E st o K)
   | h => askTr (askOf fs E st o) h.dec kn [] [] (latFin E st o K)
  | false => match h with
   | .un d h => match Nat.beq (o.dst.getD 0) d with
    | true => askTr (askOf fs E st o) h kn [⟨.unit, ()⟩] [] (latFin E st o K)
    | false => askTr (askOf fs E st o) (.un d h) kn [] [] (latFin E st o K)
   | h => askTr (askOf fs E st o) h kn [] [] (latFin E st o K)
def latRun (fs : List (PF P G)) (E : Env) (ops : Array Oper) : List Nat -> St -> Hi P G R -> List KN -> List (Nat × LA P G) -> (Hi P G R -> List KN -> List (Nat × LA P G) -> Tr R) -> Tr R
 | [], _, h, kn, las, K => K h kn las
 | i :: is, st, h, kn, las, K => match ops[i]? with
  | some o => latOne fs E st o h kn fun st' h' kn' la => latRun fs E ops is st' h' kn' ((i, la) :: las) K
  | none => .ret none
def latPairs (ops : Array Oper) (ds : List (List Nat)) : List (List Nat × Nat) := ds.flatMap fun D => (Region.ready .any ops (doneOf ops.size D)).map fun i => (D, i)
def latT (fs : List (PF P G)) (E : Env) (ops : Array Oper) (ds : List (List Nat)) (st : St) (h : Hi P G R) (kn : List KN) (K : KT P G R) : Tr R :=
 match E.P.follows .mixedOrders, latB .any ops (List.range ops.size).reverse ds with
 | true, true => latRun fs E ops (List.range ops.size) st h kn [] fun h' kn' las => match latS E ops las st (List.range ops.size).reverse with
  | some t => latAll E ops las st (latPairs ops ds) (K t h' kn')
  | none => .ret none
 | _, _ => .ret none
abbrev KC (P : Program) (G : World -> Prop) (R : Type) := Exit -> St -> Hi P G R -> List KN -> Tr R
def preR (h : Hi P G R) (st : St) : Option St := match h with
 | .rn ks bs rs ρ => (st.norm ks bs rs).bind (·.ren ρ)
 | _ => some st
def ends (a : St -> Tr R) (K : KC P G R) : KC P G R := fun e st h kn => match e with
 | .normal => match preR h st with
  | some s => a s
  | none => .ret none
 | e => K e st h kn
def runR (fs : List (PF P G)) (E : Env) (ops : Array Oper) (draw : Bool) (st : St) (h : Hi P G R) (kn : List KN) (K : KC P G R) : Tr R :=
 match draw with
  | false => runLs fs E ops ops.toList st h kn fun st' h' kn' => K .normal st' h' kn'
  | true => match h with
   | .tl m h' => match E.P.follows .mixedOrders, Region.lexTailB .any ops m with
    | true, true => runDs fs E ops (ops.toList.take m) st h' kn fun st' h' kn' => runLs fs E ops (ops.toList.drop m) st' h' kn' fun st' h' kn' => K .normal st' h' kn'
    | _, _ => .ret none
   | .mx a b c h' => match E.P.follows .mixedOrders, mixB .any ops a b c, Nat.beq (a.length + (b.length + c.length)) ops.toList.length with
    | true, true, true => runCs fs E ops (pickO ops a) st h' kn fun st' h' kn' => runDs fs E ops (pickO ops b) st' h' kn' fun st' h' kn' => runLs fs E ops (pickO ops c) st' h' kn' fun st' h' kn' => K .normal st' h' kn'
    | _, _, _ => .ret none
   | .fl a b i c c2 h' => match ops.toList[i]? with
    | some o => match o.dst, o.guard, isLd o && (!(o.looksAt ops.toList.toArray).contains (o.dst.getD 0) && (Nat.blt (o.dst.getD 0) E.n && Nat.beq (a.length + (b.length + (c.length + c2.length + 1))) ops.toList.length)), E.P.follows .mixedOrders, fltI .any ops a b i c c2 with
     | some d, none, true, true, true => runCs fs E ops (pickO ops a) st h' kn fun st' h' kn' => runDs fs E ops (pickO ops b) st' h' kn' (askF fs E o d fun orc ps st' h' kn' => runF fs E ops o d orc ps c2 (fun st' h' kn' => K .normal st' h' kn') c st' h' kn')
     | _, _, _, _, _ => .ret none
    | none => .ret none
   | .ct a b c2 c3 c4 c5 c6 h' => match E.P.follows .mixedOrders, cntI .any ops a b c2 c3 c4 c5 c6, Nat.beq (a.length + (b.length + 5)) ops.toList.length, cn5 ops.toList.toArray c2 c3 c4 c5 c6 with
    | true, true, true, some C => runCs fs E ops (pickO ops a) st h' kn fun st' h' kn' => runDs fs E ops (pickO ops b) st' h' kn' fun st' h' kn' => match evCnt E st' C with
     | some st' => K .normal st' h' kn'
     | none => .ret none
    | _, _, _, _ => .ret none
   | .md a b c d h' => match E.P.follows .mixedOrders, mdB .any ops a b c d, Nat.beq (a.length + (b.length + (c.length + d.length))) ops.toList.length with
    | true, true, true => runCs fs E ops (pickO ops a) st h' kn fun st' h' kn' => runDs fs E ops (pickO ops b) st' h' kn' fun st' h' kn' => runLs fs E ops (pickO ops c) st' h' kn' fun st' h' kn' =>
      runDs fs E ops (pickO ops d) st' h' kn' fun st' h' kn' => K .normal st' h' kn'
    | _, _, _ => .ret none
   | .hq b c h' => match E.P.follows .mixedOrders, heldB .any ops b c, Nat.beq (b.length + c.length) ops.toList.length with
    | true, true, true => runDs fs E ops (pickO ops b) st h' kn fun st' h' kn' => runE fs E ops (fun st' h' kn' => K .normal st' h' kn') c st' h' kn'
    | _, _, _ => .ret none
   | .la ds h' => latT fs E ops ds st h' kn fun st' h' kn' => K .normal st' h' kn'
   | h => match E.P.follows .mixedOrders, Region.lexB .any ops with
    | true, true => runDs fs E ops ops.toList st h.dec kn fun st' h' kn' => K .normal st' h' kn'
    | _, _ => .ret none
def run (fs : List (PF P G)) (E : Env) : Code -> St -> Hi P G R -> List KN -> KC P G R -> Tr R
 | .skip, st, h, kn, K => K .normal st h kn
 | .exit id, st, h, kn, K => K (.exit id) st h kn
 | .ret, st, h, kn, K => K .ret st h kn
 | .block id c, st, h, kn, K => run fs E c st h kn fun e st' h' kn' => match e with
  | .normal => K .normal st' h' kn'
  | .ret => K .ret st' h' kn'
  | .exit i => match Nat.beq i id with
   | true => K .normal st' h' kn'
   | false => K (.exit i) st' h' kn'
  | _ => .ret none
 | .seq x y, st, h, kn, K => match h with
  | .j hs S J hx hy => .lab (fun z => run fs E y (S st z) (hy z) [] K) J (run fs E x st hx kn (ends (arrive hs (S st) J) K))
  | h => run fs E x st h.dec kn fun e st' h' kn' => match e with
   | .normal => run fs E y st' h' kn' K
   | e => K e st' h' kn'
 | .cond c x y, st, h, kn, K => match getSV st c with
  | some (.val .bool b) => match h with
   | .T h' => .eqb b true (run fs E x st h' kn K)
   | .F h' => .eqb b false (run fs E y st h' kn K)
   | h => .ite b (run fs E x st h.fork.1 kn K) (run fs E y st h.fork.2 kn K)
  | _ => .ret none
 | .loop c, st, h, _, K => match h with
  | .lp hs S F k hb => match getH st hs with
   | some z0 => .lop (fun go z => run fs E c (S st z) (hb go z) [] (ends (arrive hs (S st) go) K)) F (.eqs (st.norm (keysOf (S st z0).sl) (keysOf (S st z0).bx) (keysOf (S st z0).rw)) (some (S st z0)) (.ret (F k z0)))
   | none => .ret none
  | _ => .ret none
 | .region _ ops draw, st, h, kn, K => match h with
  | .fr r h' => match look st.rw r with
   | some c => runR fs E ops draw (st.freeze r c) h' kn K
   | none => .ret none
  | .nm ks bs rs h' => match st.norm ks bs rs with
   | some st' => runR fs E ops draw st' h' kn K
   | none => .ret none
  | h => runR fs E ops draw st h kn K
 | _, _, _, _, _ => .ret none
end Go.Ev
