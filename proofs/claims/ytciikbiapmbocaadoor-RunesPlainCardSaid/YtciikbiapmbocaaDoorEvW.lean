/- Contracts of functions that change boxed variables and owned slices of their caller; calls by them. -/
import Derived.Test.YtciikbiapmbocaaDoorEvV
import Derived.StillTail
namespace Go.Ev
open Go Go.RowKit
variable {cx : Cx} {m : Nat → Value} {st st' : St} {T : Array Value} {w w' : World} {E : Env} {Q : Post} {ops : Array Oper} {l : List Oper}

/-- What such a function is known to do: the state of its frame when it is entered; the boxes and rows when it returns; its results. -/
structure FnB (α β : Type) where
  n : Nat
  S : α → St
  S' : α → β → St
  rs : α → β → List SV
  rel : α → β → Prop

def repResS (w : World) (M : Nat → Prop) (m : Nat → Value) (v : Value) : List SV → Prop
  | [] => True
  | [s] => repS w M m v s
  | l => ∃ vs : List Value, v = .tuple vs.toArray ∧ repSs w M m vs l

structure BC {α β : Type} (P : Program) (G : World → Prop) (f : Nat) (F : FnB α β) : Prop where
  enters : ∀ args w, (callFunc f args).run P w = .ok (.enter f args) w
  calls : ∀ (cx : Cx), cx.P = P → cx.n = F.n → (∀ w, Frame cx.w0 w cx.X → G w) → ∀ x y, F.rel x y → ∀ (vs : List Value) (w : World), vs.length = (F.S x).sl.length → R cx (F.S x) (vs.toArray ++ Array.replicate (F.n - vs.toArray.size) undef) w →
    Calls P f vs.toArray w fun e w' => ∃ v m' T', e = .returned v ∧ Rm cx m' (F.S' x y) T' w' ∧ repResS w' (Mut cx m' (F.S' x y).ids) m' v (F.rs x y)

def toTRs : List SV → Option (List TR)
  | [] => some []
  | .val t x :: l => match toTRs l with
    | some r => some (.v ⟨t, x⟩ :: r)
    | none => none
  | .row b :: l => match toTRs l with
    | some r => some (.r b :: r)
    | none => none
  | .iter b :: l => match toTRs l with
    | some r => some (.r b :: r)
    | none => none
  | _ => none
def resSVof : List SV → Option SV
  | [] => some .any
  | [s] => some s
  | l => match toTRs l with
    | some r => some (.tups r)
    | none => none
theorem toTRs_rep {M : Nat → Prop} : ∀ {vs : List Value} {l : List SV} {r : List TR}, toTRs l = some r → repSs w M m vs l → repTRs w M m vs r
  | [], [], _, h, _ => by cases h; trivial
  | _ :: _, [], _, _, hr => hr.elim
  | [], _ :: _, _, _, hr => hr.elim
  | v :: vs, s :: l, r, h, ⟨h1, h2⟩ => by
    unfold toTRs at h
    split at h
    · rename_i e; cases e
    · rename_i t x l' e
      cases e
      split at h
      · rename_i r' hr'; cases h; exact ⟨h1, toTRs_rep hr' h2⟩
      · cases h
    · rename_i b l' e
      cases e
      split at h
      · rename_i r' hr'; cases h; exact ⟨h1, toTRs_rep hr' h2⟩
      · cases h
    · rename_i b l' e
      cases e
      split at h
      · rename_i r' hr'; cases h; exact ⟨h1, toTRs_rep hr' h2⟩
      · cases h
    · cases h
theorem resSVof_rep {M : Nat → Prop} {v : Value} {l : List SV} {s : SV} (h : resSVof l = some s) (hr : repResS w M m v l) : repS w M m v s := by
  unfold resSVof at h
  split at h
  · cases h; trivial
  · cases h; exact hr
  · rename_i n1 n2
    split at h
    · rename_i r hr'
      cases h
      match l, n1, n2, hr, hr' with
      | a :: b :: l, _, _, ⟨vs, e, hh⟩, hr' => exact ⟨vs, e, toTRs_rep hr' hh⟩
      | [], n1, _, _, _ => exact absurd rfl n1
      | [a], _, n2, _, _ => exact absurd rfl (n2 a)
    · cases h

def argSV (P : Program) (st : St) (t : TypeId) (x : Operand) : Option SV :=
  match x with
  | .const (.slice none 0 0) => match elemOf? P t with
    | some (_, u) => some (.val (.sl u) [])
    | none => none
  | x => getSV st x
def argSVs (P : Program) (st : St) : List TypeId → List Operand → Option (List SV)
  | [], [] => some []
  | t :: ts, x :: xs => match argSV P st t x, argSVs P st ts xs with
    | some v, some vs => some (v :: vs)
    | _, _ => none
  | _, _ => none
theorem argSV_sound (h : Rm cx m st T w) {t : TypeId} {x : Operand} {s : SV} (ha : argSV cx.P st t x = some s) : repS w (Mut cx m st.ids) m (Act.eval ⟨T, []⟩ x) s := by
  unfold argSV at ha
  split at ha
  · split at ha
    · rename_i e u he
      cases ha
      exact (repV_plain (t := .sl u) rfl).2 ⟨none, 0, [], rfl, Nat.le_refl _, by decide, fun _ => rfl, rfl, fun j v hj => by simp at hj⟩
    · cases ha
  · exact getSV_sound h ha
theorem argSVs_sound (h : Rm cx m st T w) : ∀ {ts : List TypeId} {xs : List Operand} {ss : List SV}, argSVs cx.P st ts xs = some ss → repSs w (Mut cx m st.ids) m (xs.map (Act.eval ⟨T, []⟩)) ss
  | [], [], _, ha => by cases ha; trivial
  | [], _ :: _, _, ha => by cases ha
  | _ :: _, [], _, ha => by cases ha
  | t :: ts, x :: xs, ss, ha => by
    unfold argSVs at ha
    split at ha
    · rename_i v vs' h1 h2
      cases ha
      exact ⟨argSV_sound h h1, argSVs_sound h h2⟩
    · cases ha

def boxesB (st : St) (bs : List Nat) : Bool := bs.all fun b => match look st.bx b with
  | some (.cells _ _) => true
  | _ => false
theorem boxesB_rep (h : Rm cx m st T w) : ∀ {bs : List Nat}, boxesB st bs = true → repSs w (Mut cx m st.ids) m (bs.map m) (bs.map fun b => SV.ptr b 0)
  | [], _ => trivial
  | b :: bs, hb => by
    unfold boxesB at hb
    rw [List.all_cons, Bool.and_eq_true] at hb
    refine ⟨?_, boxesB_rep h hb.2⟩
    have h1 := hb.1
    split at h1
    · rename_i c hc
      obtain ⟨g, hg⟩ := box_place h hc
      exact ⟨g, hg, hg⟩
    · cases h1

/-- The callee's state when it is entered by this operation. -/
def enterB (E : Env) (st : St) (o : Oper) (n f : Nat) (ρ : List (Nat × Nat)) : Option St :=
  match o.op with
  | .call c => match c.callee with
    | .value x => match getSV st x with
      | some (.clos f' bs) => match Nat.beq f' f, boxesB st bs, argSVs E.P st c.argTypes.toList c.args.toList with
        | true, true, some as => enterSt st n ρ (as ++ bs.map fun b => SV.ptr b 0)
        | _, _, _ => none
      | _ => none
    | _ => none
  | _ => none
/-- The caller's state behind this operation; what is kept of it. -/
def leaveB (st S1 : St) (o : Oper) (n nc : Nat) (ρ ρ' : List (Nat × Nat)) (rs : List SV) (ks bs rws : List Nat) : Option St :=
  match leaveSt st S1 n nc ρ ρ', resSVof rs with
  | some st1, some s => match o.dst with
    | none => st1.norm ks bs rws
    | some d => match Nat.blt d nc with
      | true => (st1.put d (s.ren ρ')).norm ks bs rws
      | false => none
  | _, _ => none

theorem enterSt_nodup {n : Nat} {ρ : List (Nat × Nat)} {as : List SV} {S0 : St} (he : enterSt st n ρ as = some S0) : (ρ.map (·.1)).Nodup ∧ (ρ.map (·.2)).Nodup := by
  unfold enterSt at he
  split at he
  · rename_i k1 k2 k3 k4; exact ⟨nodupB_sound k1, nodupB_sound k2⟩
  · cases he

theorem argSlS_len : ∀ (l : List SV) (k : Nat), (argSlS k l).length = l.length
  | [], _ => rfl
  | _ :: l, k => by simp [argSlS, argSlS_len l]
theorem enterSt_len {n : Nat} {ρ : List (Nat × Nat)} {as : List SV} {S0 : St} (he : enterSt st n ρ as = some S0) : S0.sl.length = as.length := by
  unfold enterSt at he
  split at he
  · cases he; simp [argSlS_len]
  · cases he
theorem sub_frame (h : Rm cx m st T w) {n : Nat} {ρ : List (Nat × Nat)} (hf : Frame w w' (sub cx m st w n ρ).X) : Frame cx.w0 w' cx.X := by
  refine ⟨hf.os.trans h.frame.os, hf.tape.trans h.frame.tape, hf.output.trans h.frame.output, Nat.le_trans h.frame.size hf.size, fun b hb hX => ?_⟩
  rw [← h.frame.block b hb hX]
  refine hf.block b (Nat.lt_of_lt_of_le hb h.frame.size) ?_
  rintro ⟨i0, _, _, hi0, hb0⟩
  rcases (h.lt hi0 hb0).2 with hh | hh
  · omega
  · exact hX hh

/-- Such a call, and what is behind it. -/
theorem WL_callB (hE : EnvOK E cx) {α β : Type} {F : FnB α β} {f : Nat} (hB : BC E.P E.G f F) (x : α) (y : β) (hxy : F.rel x y) {o : Oper} {ρ ρ' : List (Nat × Nat)} {n : Nat} (hn : F.n = n) (ks bs rws : List Nat)
    (hw : wantSV ops st o = some true) (hen : enterB E st o n f ρ = some (F.S x)) (hlv : leaveB st (F.S' x y) o n E.n ρ ρ' (F.rs x y) ks bs rws = some st') (h : WL cx ops Q l st') : WL cx ops Q (o :: l) st := by
  subst hn
  rintro T w ⟨m, hm⟩
  refine wpList_step fun K hK => ?_
  rw [wantSV_sound ⟨m, hm⟩ hw]
  simp only [if_true]
  unfold enterB at hen
  split at hen
  case h_2 => cases hen
  rename_i c hop
  split at hen
  case h_2 => cases hen
  rename_i xo hc
  split at hen
  case h_2 => cases hen
  rename_i f' cb hx
  split at hen
  case h_2 => cases hen
  rename_i as hf hbb has
  have hf := Nat.eq_of_beq_eq_true hf
  subst hf
  rw [← hE.P] at has
  have hv : Act.eval ⟨T, []⟩ xo = .func (.func f') #[] (cb.map m).toArray := getSV_sound hm hx
  have hargs := repSs_append (argSVs_sound hm has) (boxesB_rep hm hbb)
  have hent := enter_sound hm hen hargs
  obtain ⟨k1, k2⟩ := enterSt_nodup hen
  have hB' := hB
  rw [← hE.P] at hB'
  have hlen := repSs_length hargs
  have hsl : (F.S x).sl.length = (as ++ cb.map fun b => SV.ptr b 0).length := enterSt_len hen
  have hcalls := hB'.calls (sub cx m st w F.n ρ) rfl rfl (fun w' hf => hE.glob w' (sub_frame hm hf)) x y hxy _ w (by rw [hsl]; exact hlen) ⟨_, hent⟩
  unfold Oper.wp
  rw [evCall_run hop hc hv hB'.enters w]
  refine hcalls.mono ?_
  rintro e w' ⟨v, m', T', rfl, h1, hr⟩
  unfold leaveB at hlv
  split at hlv
  case h_2 => cases hlv
  rename_i st1 s hl hs
  rw [← hE.n] at hl
  obtain ⟨m2, h2, hren⟩ := leave_sound hm k1 k2 h1 hl
  show K (Act.put ⟨T, []⟩ o.dst v) w'
  split at hlv
  · rename_i hd
    rw [hd]
    exact hK _ _ (h _ _ ⟨m2, h2.norm hlv⟩)
  · rename_i d hd
    split at hlv
    · rename_i hlt
      rw [hd]
      have hlt : d < cx.n := by rw [hE.n]; exact blt_true hlt
      exact hK _ _ (h _ _ ⟨m2, (h2.put hlt (hren v s (resSVof_rep hs hr))).norm hlv⟩)
    · cases hlv

/-- Other names for rows. -/
def St.ren (st : St) (ρ : List (Nat × Nat)) : Option St :=
  match nodupB (ρ.map (·.1)), nodupB (ρ.map (·.2)), ρ.all (fun p => Nat.beq p.1 p.2 || (look st.bx p.1).isNone), nodupB (St.ids ⟨[], passBx ρ st.bx ρ, passRw st.rw ρ⟩) with
  | true, true, true, true => some ⟨st.sl.map fun p => (p.1, p.2.ren ρ), passBx ρ st.bx ρ, passRw st.rw ρ⟩
  | _, _, _, _ => none
theorem Rm.ren (h : Rm cx m st T w) {ρ : List (Nat × Nat)} (hn : st.ren ρ = some st') : ∃ m', Rm cx m' st' T w := by
  unfold St.ren at hn
  split at hn
  case h_2 => cases hn
  rename_i k1 k2 k3 k4
  cases hn
  have k1 := nodupB_sound k1
  have k2 := nodupB_sound k2
  have k4 := nodupB_sound k4
  obtain ⟨m', hm'⟩ : ∃ m' : Nat → Value, m' = fun j => match inv ρ j with | some i => m i | none => undef := ⟨_, rfl⟩
  have hm : ∀ i j, (i, j) ∈ ρ → m' j = m i := by
    intro i j hij
    rw [hm']
    simp only
    rw [inv_mem k2 hij]
  have hids : ∀ {j : Nat}, j ∈ St.ids ⟨st.sl.map fun p => (p.1, p.2.ren ρ), passBx ρ st.bx ρ, passRw st.rw ρ⟩ → ∃ i, (i, j) ∈ ρ ∧ i ∈ st.ids := fun hj => pass_ids hj
  have hmut : ∀ b, b < w.heap.size → Mut cx m' (St.ids ⟨st.sl.map fun p => (p.1, p.2.ren ρ), passBx ρ st.bx ρ, passRw st.rw ρ⟩) b → Mut cx m st.ids b := by
    rintro b _ (hA | ⟨j, hj, hb⟩)
    · exact .inl hA
    · obtain ⟨i, hij, hi⟩ := hids hj
      rw [hm i j hij] at hb
      exact .inr ⟨i, hi, hb⟩
  have kw : ∀ b, b < w.heap.size → ¬ Mut cx m st.ids b → w.heap[b]? = w.heap[b]? := fun _ _ _ => rfl
  have hs : ∀ v s, repS w (Mut cx m st.ids) m v s → repS w (Mut cx m' (St.ids ⟨st.sl.map fun p => (p.1, p.2.ren ρ), passBx ρ st.bx ρ, passRw st.rw ρ⟩)) m' v (s.ren ρ) :=
    fun v s hv => ren_rep hm (repS_ext kw hmut hv)
  refine ⟨m', { size := h.size, frame := h.frame, outer := h.outer, slots := ?_, boxes := ?_, rows := ?_, apart := ?_, keys := k4, fixed := ?_ }⟩
  · intro i sv hi
    obtain ⟨⟨j, s⟩, hp, he⟩ := List.mem_map.1 hi
    cases he
    obtain ⟨v, e1, e2⟩ := h.slots j s hp
    exact ⟨v, e1, hs v s e2⟩
  · intro j c' hj
    obtain ⟨i, c, hij, hi, rfl⟩ := passBx_mem hj
    obtain ⟨g, e1, e2, e3⟩ := h.boxes i c hi
    exact ⟨g, by rw [hm i j hij, mval_map]; exact e1, e2, objOK_map kw hmut rfl hs e3⟩
  · intro j c hj
    obtain ⟨i, hij, hi⟩ := passRw_mem hj
    obtain ⟨cells, e1, e2, e3⟩ := h.rows i c hi
    exact ⟨cells, by rw [hm i j hij]; exact e1, fun g hg => e2 g (by rw [hm i j hij] at hg; exact hg), repL_mono (fun _ _ => rep_ext kw hmut c.t) e3⟩
  · intro j1 j2 h1 h2 hne g hg hg'
    obtain ⟨i1, a1, b1⟩ := hids h1
    obtain ⟨i2, a2, b2⟩ := hids h2
    rw [hm _ _ a1] at hg
    rw [hm _ _ a2] at hg'
    refine h.apart i1 i2 b1 b2 ?_ g hg hg'
    rintro rfl
    exact hne (nodup_fst k1 a1 a2)
  · intro b c hb hle
    obtain ⟨i, c0, hij, hi, _⟩ := passBx_mem hb
    have h3 := List.all_eq_true.1 k3 _ hij
    simp only [Bool.or_eq_true] at h3
    rcases h3 with h3 | h3
    · have e := Nat.eq_of_beq_eq_true h3
      subst e
      rw [hm _ _ hij]
      exact h.fixed _ _ hi hle
    · have h4 := look_isSome hi
      cases hl : look st.bx i with
      | none => rw [hl] at h4; cases h4
      | some x => rw [hl] at h3; cases h3
theorem R.ren (h : R cx st T w) {ρ : List (Nat × Nat)} (hn : st.ren ρ = some st') : R cx st' T w := let ⟨_, hm⟩ := h; hm.ren hn
theorem N.ren {e : Exit} (ρ : List (Nat × Nat)) (hn : st.ren ρ = some st') (h : N cx Q e st') : N cx Q e st := fun T w hR => h T w (hR.ren hn)
theorem W.ren {c : Code} (ρ : List (Nat × Nat)) (hn : st.ren ρ = some st') (h : W cx Q c st') : W cx Q c st := fun T w hR => h T w (hR.ren hn)
theorem WL.ren (ρ : List (Nat × Nat)) (hn : st.ren ρ = some st') (h : WL cx ops Q l st') : WL cx ops Q l st := fun T w hR => h T w (hR.ren hn)

/-- The results, whatever they are. -/
def evResS (P : Program) (st : St) : List ResultVar → Option (List SV)
  | [] => some []
  | .tmp t :: l => match look st.sl t, evResS P st l with
    | some s, some r => some (s :: r)
    | _, _ => none
  | .cell a ty' :: l => match evRes P st [.cell a ty'], evResS P st l with
    | some [u], some r => some (.val u.t u.x :: r)
    | _, _ => none
theorem evResS_sound (h : Rm cx m st T w) : ∀ {l : List ResultVar} {rs : List SV}, evResS cx.P st l = some rs →
    ∃ vs, (l.mapM (resOf T)).run cx.P w = .ok vs w ∧ repSs w (Mut cx m st.ids) m vs rs
  | [], _, hs => by cases hs; exact ⟨[], by simp, trivial⟩
  | .tmp t :: l, rs, hs => by
    simp only [evResS] at hs
    split at hs
    · rename_i s r hl hr
      cases hs
      obtain ⟨vs, h1, h2⟩ := evResS_sound h hr
      obtain ⟨v, h3, h4⟩ := h.slots t _ (look_mem hl)
      refine ⟨v :: vs, ?_, h4, h2⟩
      have hg : T.getD t undef = v := by rw [Array.getD_eq_getD_getElem?, h3]; rfl
      have h5 : (resOf T (.tmp t)).run cx.P w = .ok v w := by show Sem.run cx.P (pure (T.getD t undef)) w = _; rw [hg, Sem.run_pure]
      rw [List.mapM_cons, Sem.run_bind, h5]
      simp only [Result.andThen_ok, Sem.run_bind, h1, Sem.run_pure]
    · cases hs
  | .cell a t :: l, rs, hs => by
    simp only [evResS] at hs
    split at hs
    · rename_i u r he hr
      cases hs
      obtain ⟨vs, h1, h2⟩ := evResS_sound h hr
      obtain ⟨us, h3, h4⟩ := evRes_sound h he
      match us, h4 with
      | [v], ⟨h5, _⟩ =>
        refine ⟨v :: vs, ?_, h5, h2⟩
        have h6 : (resOf T (.cell a t)).run cx.P w = .ok v w := by
          rw [List.mapM_cons, Sem.run_bind] at h3
          cases hh : (resOf T (.cell a t)).run cx.P w with
          | ok v' w2 =>
            rw [hh] at h3
            simp only [Result.andThen_ok, List.mapM_nil, Sem.run_bind, Sem.run_pure] at h3
            cases h3
            rfl
          | _ => rw [hh] at h3; cases h3
        rw [List.mapM_cons, Sem.run_bind, h6]
        simp only [Result.andThen_ok, Sem.run_bind, h1, Sem.run_pure]
      | [], h4 => exact h4.elim
      | _ :: _ :: _, ⟨_, h4⟩ => exact h4.elim
    · cases hs

def OwesB (P : Program) (fn : Func) (cx : Cx) (S1 : St) (rs : List SV) : Post :=
  bodyPost P fn fun e w' => ∃ v m' T', e = .returned v ∧ Rm cx m' S1 T' w' ∧ repResS w' (Mut cx m' S1.ids) m' v rs

theorem N_endB {P : Program} (hP : cx.P = P) {fn : Func} {rs : List SV} {S1 : St} {e : Exit} (bs rws : List Nat) (he : e = .ret ∨ e = .normal) (hev : evResS P st fn.results.toList = some rs) (hn : st.norm [] bs rws = some S1) :
    N cx (OwesB cx.P fn cx S1 rs) e st := by
  subst hP
  rintro T w ⟨m, hm⟩
  obtain ⟨vs, h1, h2⟩ := evResS_sound hm hev
  have hrun := run_results h1
  have hm' := hm.norm hn
  have hsub : ∀ i, i ∈ S1.ids → i ∈ st.ids := by
    unfold St.norm at hn
    split at hn
    · rename_i sl bx rw' q1 q2 q3 _
      cases hn
      intro i hi
      rcases List.mem_append.1 hi with hi | hi
      · obtain ⟨p, hp, rfl⟩ := List.mem_map.1 hi; exact List.mem_append.2 (.inl (List.mem_map.2 ⟨p, pickL_mem q2 p hp, rfl⟩))
      · obtain ⟨p, hp, rfl⟩ := List.mem_map.1 hi; exact List.mem_append.2 (.inr (List.mem_map.2 ⟨p, pickL_mem q3 p hp, rfl⟩))
    · cases hn
  have h3 : repSs w (Mut cx m S1.ids) m vs rs := repSs_ext (fun _ _ _ => rfl) (fun b _ hb => mut_mono hsub hb) h2
  have hres : repResS w (Mut cx m S1.ids) m (if h : vs.toArray.size = 1 then vs.toArray[0] else .tuple vs.toArray) rs := by
    match vs, rs, h3 with
    | [], [], _ => trivial
    | [v], [u], ⟨h, _⟩ => exact h
    | v1 :: v2 :: vs, u1 :: u2 :: us, h =>
      have hne : ¬ (v1 :: v2 :: vs).toArray.size = 1 := by simp
      rw [dif_neg hne]
      exact ⟨_, rfl, h⟩
    | [], _ :: _, h => exact h.elim
    | _ :: _, [], h => exact h.elim
    | [_], _ :: _ :: _, ⟨_, h⟩ => exact h.elim
    | _ :: _ :: _, [_], ⟨_, h⟩ => exact h.elim
  rcases he with rfl | rfl <;> exact ⟨rfl, _, hrun, _, m, _, rfl, hm', hres⟩

/-- Such a contract, from the body. -/
theorem bc_of {P : Program} {G : World → Prop} {f : FuncId} {fn : Func} {c : Code} {α β : Type} {F : FnB α β} (hf : P.funcs[f]? = some fn) (hname : (fn.name == "runtime.NumGoroutine") = false) (hb : fn.body = some c) (hn : fn.ntmps = F.n)
    (body : ∀ cx : Cx, cx.P = P → cx.n = F.n → (∀ w, Frame cx.w0 w cx.X → G w) → ∀ x y, F.rel x y → W cx (OwesB cx.P fn cx (F.S' x y) (F.rs x y)) c (F.S x)) : BC P G f F where
  enters := enters_of hf hname hb
  calls := fun cx hP hn' hG x y hr vs w _ h => by
    subst hP
    refine calls_of_wp hf hb ?_
    rw [hn]
    exact body cx rfl hn' hG x y hr _ _ h
/-- No call of a function. -/
def notCall (o : Oper) : Bool := match o.op with
  | .call c => match c.callee with
    | .value _ => false
    | _ => true
  | _ => true
theorem evS1_sound (hE : EnvOK E cx) (h : Rm cx m st T w) {o : Oper} (hnc : notCall o = true) {orc : List TV} {r : PR} (hev : evD1 E st o orc = some r) (hob : allP r.ob) :
    ∃ v, (execOp (Act.eval ⟨T, []⟩) o).run cx.P w = .ok (.value v) w ∧ repS w (Mut cx m st.ids) m v r.sv := by
  unfold evD1 at hev
  split at hev
  · rename_i r' hp
    cases hev
    rw [← hE.P] at hp
    obtain ⟨v, hd, hv⟩ := evP_sound h hp hob
    exact ⟨v, hd w (Ext.refl w), hv⟩
  · split at hev
    · rename_i t x hop
      rw [← hE.P] at hev
      obtain ⟨v, hs, hv⟩ := evLoad_sound h hev hob
      exact ⟨v, exec_value (by simp only [execOp, hop]) (hs w (Ext.refl w)), hv⟩
    · rename_i c hop
      unfold notCall at hnc
      rw [hop] at hnc
      simp only at hnc
      split at hev
      · rename_i xo hc
        rw [hc] at hnc
        cases hnc
      · cases hev
    · cases hev
theorem evS_sound (hE : EnvOK E cx) {Q' : Act → Prop} : ∀ {l : List Oper} {st : St} {T : Array Value} {orc orc' : List TV} {st' : St} {ob : List Prop}, R cx st T w → l.all notCall = true → evD E ops l st orc = some (st', orc', ob) → allP ob →
    (∀ T', R cx st' T' w → Q' ⟨T', []⟩) → wpStill cx.P ops w Q' l ⟨T, []⟩
  | [], st, T, _, _, _, _, h, _, hev, _, hQ => by
    cases hev
    exact hQ T h
  | o :: l, st, T, orc, orc', st', ob, h, hnc, hev, hob, hQ => by
    rw [List.all_cons, Bool.and_eq_true] at hnc
    unfold evD at hev
    unfold wpStill
    split at hev
    · rename_i hw
      rw [wantSV_sound h hw]
      simp only [if_true]
      split at hev
      · rename_i d r hd hr
        split at hev
        · rename_i st2 orc2 ob2 hdn hl
          cases hev
          obtain ⟨ha, hb⟩ := allP_append hob
          obtain ⟨m, hm⟩ := h
          obtain ⟨v, hq, hv⟩ := evS1_sound hE hm hnc.1 hr ha
          unfold Oper.still
          have hq' : (execOp (Act.eval { tmps := T, defers := [] }) o).run cx.P w = .ok (.value v) w := hq
          rw [hq']
          refine ⟨rfl, ?_⟩
          rw [hd]
          exact evS_sound hE ⟨m, hm.put (by rw [hE.n]; exact blt_true hdn) hv⟩ hnc.2 hl hb hQ
        · cases hev
      · cases hev
    · rename_i hw
      rw [wantSV_sound h hw]
      simp only [Bool.false_eq_true, if_false]
      split at hev
      · rename_i d hd
        split at hev
        · rename_i hdn
          obtain ⟨m, hm⟩ := h
          rw [hd]
          exact evS_sound hE ⟨m, hm.put (d := d) (s := .undef) (v := undef) (by rw [hE.n]; exact blt_true hdn) rfl⟩ hnc.2 hev hob hQ
        · cases hev
      · rename_i hd
        rw [hd]
        exact evS_sound hE h hnc.2 hev hob hQ
    · cases hev

/-- A region that draws the order of its first n operations alone. -/
theorem W_tail {id : Nat} {l : List Oper} (hE : EnvOK E cx) (n : Nat) (ks bs rs : List Nat) {orc : List TV} {ob : List Prop} (hm : cx.P.follows .mixedOrders = true) (hB : Region.lexTailB .any l.toArray n = true) (hnc : (l.take n).all notCall = true)
    (hev : evDK E l.toArray (l.take n) st orc ks bs rs = some (st', [], ob)) (hob : allP ob) (h : WL cx l.toArray Q (l.drop n) st') : W cx Q (.region id l.toArray true) st := by
  intro T w hR
  obtain ⟨s, h1, h2⟩ := evDK_some hev
  refine wp_region_still_tail n hm hB ?_
  have hR' : R cx st T { w with drawn := w.drawn + 1 } := hR.ext (Ext.refl w).drew
  exact evS_sound hE hR' hnc h1 hob fun T' hT => h _ _ (hT.norm h2)

/-- What is known under a weaker condition on package-level variables is known under a stronger one. -/
theorem Contract.weaken {P : Program} {G G' : World → Prop} {f : Nat} {F : FnC} (hG : ∀ w, G' w → G w) (h : Contract P G f F) : Contract P G' f F :=
  ⟨h.enters, h.shape, fun w M vs as rs hg => h.calls w M vs as rs (hG w hg)⟩
theorem BC.weaken {α β : Type} {P : Program} {G G' : World → Prop} {f : Nat} {F : FnB α β} (hG : ∀ w, G' w → G w) (h : BC P G f F) : BC P G' f F :=
  ⟨h.enters, fun cx hP hn hg => h.calls cx hP hn fun w hf => hG w (hg w hf)⟩
end Go.Ev
