/- Operations that make memory or go on in it. -/
import Derived.Test.YtciikbiapmbocaaDoorEvL
import Derived.Laws.IdiomRangeMap
namespace Go.Ev
open Go Go.RowKit

/-- What a memory-making operation gives: the value, the state beneath it, the answers that are left, what has to hold. -/
structure MR where
  sv : SV
  st : St
  orc : List TV
  ob : List Prop

/-- A slice type: its elements' type; its zero is the nil slice. -/
def rowZero (P : Program) (t : TypeId) : Option (TypeId × Ty) :=
  match P.info? t with
  | some i => match i.zero with
    | some (.slice none 0 0) => elemOf0 P t
    | _ => none
  | none => none
where
  elemOf0 (P : Program) (t : TypeId) : Option (TypeId × Ty) :=
    match P.underlying t with
    | some (.slice e) => match ty P e with
      | some u => bif Nat.beq u.cells 0 then none else some (e, u)
      | none => none
    | _ => none

/-- An array of numbers of one kind, all zero at first: its length; the kind. -/
def arrZero (P : Program) (t : TypeId) : Option (Nat × Ty) :=
  match P.info? t, arrTy P t with
  | some i, some (n, .int k) => match i.zero with
    | some (.agg cs) => match zeroInts k n cs.toList && Nat.ble n maxLen with
      | true => some (n, .int k)
      | false => none
    | _ => none
  | _, _ => none
where
  zeroInts (k : IntKind) : Nat → List Value → Bool
    | 0, [] => true
    | n + 1, .int k' x :: l => kbeq k k' && (x == 0 && zeroInts k n l)
    | _, _ => false

/-- A struct of a pointer to itself and a buffer of bytes, both nil at first: the buffer's elements' type. -/
def bldZero (P : Program) (t : TypeId) : Option TypeId :=
  match P.info? t, P.underlying t with
  | some i, some (.struct fs) => match i.zero, fs.toList with
    | some (.agg cs), [_, f1] => match cs.toList, rowZero.elemOf0 P f1.type with
      | [.pointer none, .slice none 0 0], some (e, .int .u8) => some e
      | _, _ => none
    | _, _ => none
  | _, _ => none

def rowOK (st : St) : SV → Bool
  | .row r => (look st.rw r).isSome
  | _ => true

/-- The values of a literal's parts, in their order, all of them. -/
def litParts (st : St) (u : Ty) : Nat → List (Nat × Operand) → Option (List u.el)
  | _, [] => some []
  | k, (i, o) :: r => match Nat.beq i k, getTV st o with
    | true, some v => match v.as u, litParts st u (k + 1) r with
      | some x, some xs => some (x :: xs)
      | _, _ => none
    | _, _ => none

def elemOf? (P : Program) (t : TypeId) : Option (TypeId × Ty) :=
  match P.underlying t with
  | some (.slice e) => match ty P e with
    | some u => bif Nat.beq u.cells 0 then none else some (e, u)
    | none => none
  | _ => none

/-- The place and content of an owned slice that is appended to: an owned one, or a new one. -/
def baseRow (P : Program) (st : St) (d : Nat) (t : TypeId) : Operand → Option (Nat × RowC)
  | .const (.slice none 0 0) => match elemOf? P t with
    | some (e, u) => some (d, ⟨e, u, []⟩)
    | none => none
  | x => match getSV st x with
    | some (.row r) => match look st.rw r with
      | some c => some (r, c)
      | none => none
    | _ => none

def bytesEl (s : List UInt8) : List Int := s.map fun b => (b.toNat : Int)

/-- What is appended. -/
def srcList (P : Program) (st : St) (u : Ty) (t : TypeId) (x : Operand) : Option (List u.el) :=
  match getSV st x with
  | some (.row r) => match P.underlying t with
    | some (.slice _) => match look st.rw r with
      | some c => TV.as ⟨.sl c.t, c.xs⟩ (.sl u)
      | none => none
    | _ => none
  | some (.val (.sl t') xs) => match P.underlying t with
    | some (.slice _) => TV.as ⟨.sl t', xs⟩ (.sl u)
    | _ => none
  | some (.val .str s) => match P.underlying t with
    | some .string => TV.as ⟨.sl (.int .u8), bytesEl s⟩ (.sl u)
    | _ => none
  | _ => none

def bytesOK (P : Program) (e : TypeId) : Bool :=
  match P.info? e with
  | some i => Nat.ble i.bytes 65536
  | none => false

/-- The rune at a place of a text, and its bytes. -/
def runeAt (s : List UInt8) (p : Nat) : Int := ((Utf8.decode (bytesOf s) p).1 : Int)
def widthAt (s : List UInt8) (p : Nat) : Nat := (Utf8.decode (bytesOf s) p).2

def hintOK (st : St) : Option Operand → Bool
  | none => true
  | some x => (intOf? (getSV st x)).isSome
def evM (P : Program) (st : St) (o : Oper) (d : Nat) (orc : List TV) : Option MR :=
  match o.op with
  | .move (.const (.slice none 0 0)) => match elemOf? P o.type with
    | some (e, u) => some ⟨.row d, st.addRow d ⟨e, u, []⟩, orc, []⟩
    | none => none
  | .assign (.const (.slice none 0 0)) => match elemOf? P o.type with
    | some (e, u) => some ⟨.row d, st.addRow d ⟨e, u, []⟩, orc, []⟩
    | none => none
  | .alloc t => match arrZero P t with
   | some (n, u) => some ⟨.rptr d 0 0 u.cells, st.addRow d ⟨t, u, List.replicate n (zeroEl u)⟩, orc, []⟩
   | none => match rowZero P t with
    | some (e, u) => some ⟨.ptr d 0, (st.addRow (d + 1000000) ⟨e, u, []⟩).addBox d (.cells ([SV.row (d + 1000000)].map (SV.scrub d)) t), orc, []⟩
    | none => match bldZero P t with
     | some e => some ⟨.ptr d 0, (st.addRow (d + 1000000) ⟨e, .int .u8, []⟩).addBox d (.cells [.selfp d, .row (d + 1000000)] t), orc, []⟩
     | none => match zeroOf P t with
      | some u => bif hasArr u then some ⟨.bp d [], st.addBox d (.blk u (zeroEl u) t), orc, []⟩ else some ⟨.ptr d 0, st.addBox d (.cells (leaves u (zeroEl u)) t), orc, []⟩
      | none => none
  | .box t x => match ty P t, getSV st x with
    | some u, some s => match cellsSV u s, rowOK st s with
      | some l, true => some ⟨.ptr d 0, st.addBox d (.cells (l.map (SV.scrub d)) t), orc, []⟩
      | _, _ => none
    | _, _ => none
  | .buildSlice t n parts => match elemOf? P t with
    | some (e, u) => match litParts st u 0 parts.toList with
      | some xs => match Nat.beq xs.length n, Nat.ble (n * u.cells) 16777216, zeroOf P e with
        | true, true, some _ => some ⟨.row d, st.addRow d ⟨e, u, xs⟩, orc, []⟩
        | _, _, _ => none
      | none => none
    | none => none
  | .build t parts => match ty P t, P.underlying t, P.info? t with
    | some (.arr n u), some (.array _ e), some i => match litParts st u 0 parts.toList, ty P e, i.zero with
      | some xs, some u', some z => match Nat.beq xs.length n && u.beq u' && Nat.beq z.cells.size (n * u.cells) with
        | true => some ⟨.val (.arr n u) xs, st, orc, []⟩
        | false => none
      | _, _, _ => none
    | _, _, _ => none
  | .makeSlice t l c => match elemOf? P t, intOf? (getSV st l), intOf? (getSV st c) with
    | some (e, u), some n, some k => match bytesOK P e, zeroOf P e with
      | true, some u' => bif u.beq u' then some ⟨.row d, st.addRow d ⟨e, u, List.replicate n.toNat (zeroEl u)⟩, orc, [0 ≤ n ∧ n ≤ k ∧ k ≤ (lim : Int)]⟩ else none
      | _, _ => none
    | _, _, _ => none
  | .range t x => match getTV st x, P.underlying t with
    | some ⟨.str, s⟩, some .string => some ⟨.iter d, st.addBox d (.iter s 0), orc, []⟩
    | some ⟨.map k v, y⟩, some (.map _ _) => some ⟨.iter d, st.addBox d (.mit k v ((show Option (List (k.el × v.el)) from y).getD []) []), orc, []⟩
    | _, _ => none
  | .makeMap t r => match P.underlying t with
    | some (.map kt et) => match ty P kt, ty P et with
      | some k, some v => match k.flat && eqOK P 16 kt && hintOK st r with
        | true => some ⟨.iter d, st.addBox d (.mp k v []), orc, []⟩
        | false => none
      | _, _ => none
    | _ => none
  | .next x false => match getSV st x with
    | some (.iter b) => match look st.bx b with
      | some (.mit _ _ left _) => some ⟨.tup [⟨.bool, false⟩], st, orc, [left = []]⟩
      | _ => none
    | _ => none
  | .entry x => match getSV st x with
    | some (.iter b) => match look st.bx b with
      | some (.mit k v _ [p]) => some ⟨.tup [⟨k, p.1⟩, ⟨v, p.2⟩], st, orc, []⟩
      | _ => none
    | _ => none
  | .next x true => match getSV st x, orc with
    | some (.iter b), ⟨.bool, more⟩ :: orc' => match look st.bx b with
      | some (.iter s p) => match more with
        | true => some ⟨.tup [⟨.bool, true⟩, ⟨.int .i64, (p : Int)⟩, ⟨.int .i32, runeAt s p⟩], st.setBox b (.iter s (p + widthAt s p)), orc', [p < s.length]⟩
        | false => some ⟨.tup [⟨.bool, false⟩], st, orc', [s.length ≤ p]⟩
      | _ => none
    | _, _ => none
  | .convert src dst x => match getTV st x, P.underlying src, elemOf? P dst with
    | some ⟨.str, s⟩, some .string, some (e, .int .i32) => some ⟨.row d, st.addRow d ⟨e, .int .i32, strRunes s⟩, orc, [s.length ≤ lim]⟩
    | some ⟨.str, s⟩, some .string, some (_, .int .u8) => some ⟨.val (.sl (.int .u8)) (bytesEl s), st, orc, []⟩
    | _, _, _ => none
  | .makeFunc (.func f) first caps => match first.toList, evM.capsOf st caps.toList with
    | [], some bs => some ⟨.clos f bs, st, orc, []⟩
    | _, _ => none
  | .slice t x none (some h) none => match getSV st x, elemOf? P t, intOf? (getSV st h) with
    | some (.row r), some (e, u), some n => match look st.rw r with
      | some c => match Nat.beq c.e e, c.t.beq u with
        | true, true => some ⟨.row r, st.addRow r ⟨c.e, c.t, c.xs.take n.toNat⟩, orc, [0 ≤ n ∧ n ≤ (c.xs.length : Int)]⟩
        | _, _ => none
      | none => none
    | _, _, _ => none
  | .slice t x (some l) none none => match getSV st x, intOf? (getSV st l), arrTy P t, orc with
    | some (.rptr r i0 off0 sz), some n, some (len, u), v :: orc' => match look st.rw r with
      | some c => match c.t.beq u && (i0 == 0 && (Nat.beq off0 0 && Nat.beq sz c.t.cells)), v.as (.sl c.t) with
        | true, some ys => some ⟨.val (.sl c.t) ys, st.freeze r c, orc', [sub? c.xs n (c.xs.length : Int) = some ys, c.xs.length = len]⟩
        | _, _ => none
      | none => none
    | _, _, _, _ => none
  | .call c => match c with
    | { callee := .builtin .append, args := args, argTypes := ts } => match args.toList, ts.toList with
      | [s, x], [t, t'] => match elemOf? P t, baseRow P st d t s with
        | some (e, u), some (r, c) => match Nat.beq c.e e, c.t.beq u, bytesOK P e, zeroOf P e, srcList P st c.t t' x with
          | true, true, true, some u', some ys => bif u.beq u' then some ⟨.row r, st.addRow r ⟨c.e, c.t, c.xs ++ ys⟩, orc, [c.xs.length + ys.length ≤ lim]⟩ else none
          | _, _, _, _, _ => none
        | _, _ => none
      | _, _ => none
    | _ => none
  | _ => none
where
  capsOf (st : St) : List Operand → Option (List Nat)
    | [] => some []
    | x :: r => match getSV st x, capsOf st r with
      | some (.ptr b 0), some bs => some (b :: bs)
      | _, _ => none

variable {cx : Cx} {m : Nat → Value} {st : St} {T : Array Value} {w w' : World}

theorem elemOf?_facts {P : Program} {t : TypeId} {e : TypeId} {u : Ty} (h : elemOf? P t = some (e, u)) : P.underlying t = some (.slice e) ∧ ty P e = some u ∧ 0 < u.cells := by
  unfold elemOf? at h
  split at h
  · rename_i e' hu
    split at h
    · rename_i u' hy
      cases hb : Nat.beq u'.cells 0 with
      | true => rw [hb] at h; cases h
      | false => rw [hb] at h; cases h; exact ⟨hu, hy, Nat.pos_of_ne_zero (beq_false hb)⟩
    · cases h
  · cases h

/-- The operation's step gives a value and a world in which the new state reads. -/
def Makes (cx : Cx) (T : Array Value) (w : World) (o : Oper) (r : MR) : Prop :=
  ∃ v w' m', (execOp (Act.eval ⟨T, []⟩) o).run cx.P w = .ok (.value v) w' ∧ Rm cx m' r.st T w' ∧ repS w' (Mut cx m' r.st.ids) m' v r.sv

theorem exec_value {o : Oper} {s : Sem Value} {v : Value} (he : execOp (Act.eval ⟨T, []⟩) o = (do pure (Next.value (← s)))) (hs : s.run cx.P w = .ok v w') :
    (execOp (Act.eval ⟨T, []⟩) o).run cx.P w = .ok (.value v) w' := by
  rw [he, Sem.run_bind, hs]
  rfl

theorem fresh_place (h : Rm cx m st T w) : cx.w0.heap.size ≤ w.heap.size := h.frame.size

/-- A new boxed variable. -/
theorem new_box (h : Rm cx m st T w) {d : Nat} (hd : d < cx.n) {cells : Array Value} {e : Nat} {l : List SV} (hl : repSs w (Mut cx m st.ids) m cells.toList l) :
    Rm cx (upd m d (.pointer (some ⟨w.heap.size, 0, none⟩))) (st.addBox d (.cells (l.map (SV.scrub d)) e)) T (w.alloc (.cells cells e)) := by
  have hn : Renew cx m st w d (mval w.heap.size (.cells (l.map (SV.scrub d)) e)) (w.alloc (.cells cells e)) :=
    Renew.fresh h d _ (same_alloc0 _ _) fun g hg => by rw [mval_blk] at hg; cases hg; exact ⟨Nat.le_refl _, by simp⟩
  have hids : ∀ i, i ∈ (st.addBox d (.cells (l.map (SV.scrub d)) e)).ids → i = d ∨ i ∈ st.ids := by
    intro i hi
    rw [addBox_ids] at hi
    rcases List.mem_cons.1 hi with hi | hi
    · exact .inl hi
    · exact .inr ((scrub_ids st d i).1 hi).1
  refine h.addBox hd hn (.inl (fresh_place h)) ⟨cells, heap_alloc_new w _, ?_⟩
  exact repSs_map (fun v s hh => repS_scrub d _ (repS_ext hn.keeps (hn.mut hids) hh : repS _ (Mut cx _ _) m v s)) hl

theorem addRow_ids {r : Nat} {c : RowC} : ∀ i, i ∈ (st.addRow r c).ids → i = r ∨ i ∈ st.ids := by
  intro i hi
  rcases (addRow_mem st r c i).1 hi with hi | hi
  · exact .inl hi
  · exact .inr ((scrub_ids st r i).1 hi).1

theorem leaves_scrub (d : Nat) : ∀ (t : Ty) (x : t.el), (leaves t x).map (SV.scrub d) = leaves t x := by
  intro t
  induction t with
  | pair a b iha ihb => intro x; simp only [leaves, List.map_append, iha, ihb]
  | arr n t ih =>
    intro x
    show ((x : List t.el).flatMap (leaves t)).map (SV.scrub d) = (x : List t.el).flatMap (leaves t)
    induction (x : List t.el) with
    | nil => rfl
    | cons y ys ihy => rw [List.flatMap_cons, List.map_append, ih, ihy]
  | _ => intro x; rfl

theorem evM_alloc (h : Rm cx m st T w) {o : Oper} {d : Nat} (hd : d < cx.n) {t : TypeId} {u : Ty} (ho : o.op = .alloc t) (hz : zeroOf cx.P t = some u) {orc : List TV} :
    Makes cx T w o ⟨.ptr d 0, st.addBox d (.cells (leaves u (zeroEl u)) t), orc, []⟩ := by
  obtain ⟨i, z, hu, hi, hs, hzz, hr⟩ := zeroOf_facts hz
  have := new_box h hd (cells := z.cells) (e := t) (leaves_rep u (hr w (Mut cx m st.ids)))
  rw [leaves_scrub] at this
  refine ⟨_, _, _, exec_value (s := Instr.alloc t true (.tuple #[])) (by simp only [execOp, ho]) ?_, this, w.heap.size, upd_same _ _ _, rfl⟩
  simp [Instr.alloc, zeroValue, typeInfo, hi, hzz, newVar, newRow]

theorem evM_allocBlk (h : Rm cx m st T w) {o : Oper} {d : Nat} (hd : d < cx.n) {t : TypeId} {u : Ty} (ho : o.op = .alloc t) (hz : zeroOf cx.P t = some u) {orc : List TV} :
    Makes cx T w o ⟨.bp d [], st.addBox d (.blk u (zeroEl u) t), orc, []⟩ := by
  obtain ⟨i, z, hu, hi, hs, hzz, hr⟩ := zeroOf_facts hz
  have hn : Renew cx m st w d (mval w.heap.size (.blk u (zeroEl u) t)) (w.alloc (.cells z.cells t)) :=
    Renew.fresh h d _ (same_alloc0 _ _) fun g hg => by rw [mval_blk] at hg; cases hg; exact ⟨Nat.le_refl _, by simp⟩
  refine ⟨.pointer (some ⟨w.heap.size, 0, none⟩), w.alloc (.cells z.cells t), _, exec_value (s := Instr.alloc t true (.tuple #[])) (by simp only [execOp, ho]) ?_,
    h.addBox hd hn (.inl h.frame.size) ⟨z.cells, heap_alloc_new w _, hr _ _⟩, w.heap.size, by rw [upd_same]; rfl, rfl⟩
  simp [Instr.alloc, zeroValue, typeInfo, hi, hzz, newVar, newRow, Value.cells]

theorem evM_box (h : Rm cx m st T w) {o : Oper} {d : Nat} (hd : d < cx.n) {t : TypeId} {u : Ty} {x : Operand} {s : SV} {l : List SV} (ho : o.op = .box t x) (hx : getSV st x = some s) (hl : cellsSV u s = some l) (hrow : rowOK st s = true) {orc : List TV} :
    Makes cx T w o ⟨.ptr d 0, st.addBox d (.cells (l.map (SV.scrub d)) t), orc, []⟩ := by
  have hrow' : ∀ r, s = .row r → (m r).oneCell' = true := by
    rintro r rfl
    simp only [rowOK] at hrow
    obtain ⟨c', hc'⟩ := Option.isSome_iff_exists.1 hrow
    exact row_one h (look_mem hc')
  obtain ⟨k1, k2, k3⟩ := cellsSV_sound hrow' (getSV_sound h hx) hl
  have := new_box h hd (cells := (Act.eval ⟨T, []⟩ x).cells) (e := t) k1
  refine ⟨_, _, _, exec_value (s := Instr.box t (Act.eval ⟨T, []⟩ x)) (by simp only [execOp, ho]) ?_, this, w.heap.size, upd_same _ _ _, rfl⟩
  simp [Instr.box, newVar, newRow]

/-- A new owned slice of some elements. -/
theorem new_row (h : Rm cx m st T w) (d : Nat) {cur : Array Value} {cells : List Value} {e cap : Nat} {u : Ty} {xs : List u.el} (w' : World) (hw : Ext w w') (hh : w'.heap[w.heap.size]? = some (.cells cur e (0, 0)))
    (hcap : xs.length ≤ cap) (hmax : cap ≤ maxLen) (hcur : cur.size = cap * u.cells) (htk : cur.toList.take (xs.length * u.cells) = cells) (hr : repL (rep w (Mut cx m st.ids) u) cells xs) :
    Rm cx (upd m d (.slice (some ⟨w.heap.size, 0, none⟩) xs.length cap)) (st.addRow d ⟨e, u, xs⟩) T w' := by
  have hn : Renew cx m st w d (.slice (some ⟨w.heap.size, 0, none⟩) xs.length cap) w' :=
    Renew.fresh h d _ hw fun g hg => by cases hg; exact ⟨Nat.le_refl _, heap_lt hh⟩
  have hlen := repL_length (fun _ _ => rep_length u) _ _ hr
  refine h.addRow hn (fun g hg => by cases hg; exact .inl (fresh_place h)) ⟨hlen, .inr ⟨w.heap.size, cap, cur, rfl, Nat.zero_le _, hh, hcap, hmax, hcur, htk⟩⟩ (repL_mono (fun _ _ => rep_ext hn.keeps (hn.mut addRow_ids) u) hr)

/-- A new owned slice that is nil. -/
theorem nil_row (h : Rm cx m st T w) (d e : Nat) (u : Ty) : Rm cx (upd m d (.slice none 0 0)) (st.addRow d ⟨e, u, []⟩) T w := by
  have hn : Renew cx m st w d (.slice none 0 0) w := Renew.fresh h d _ (Ext.refl w) fun g hg => by cases hg
  exact h.addRow hn (fun g hg => by cases hg) (World.ownsRow_nil w 0 e u.cells) rfl

theorem evM_allocRow (h : Rm cx m st T w) {o : Oper} {d : Nat} (hd : d < cx.n) {t e : TypeId} {u : Ty} (ho : o.op = .alloc t) (hz : rowZero cx.P t = some (e, u)) {orc : List TV} :
    Makes cx T w o ⟨.ptr d 0, (st.addRow (d + 1000000) ⟨e, u, []⟩).addBox d (.cells ([SV.row (d + 1000000)].map (SV.scrub d)) t), orc, []⟩ := by
  unfold rowZero at hz
  split at hz
  · rename_i i hi
    split at hz
    · rename_i hzz
      have h1 := nil_row h (d + 1000000) e u
      have := new_box h1 hd (cells := #[.slice none 0 0]) (e := t) (l := [SV.row (d + 1000000)]) ⟨(upd_same _ _ _).symm, trivial⟩
      refine ⟨_, _, _, exec_value (s := Instr.alloc t true (.tuple #[])) (by simp only [execOp, ho]) ?_, this, w.heap.size, upd_same _ _ _, rfl⟩
      simp [Instr.alloc, zeroValue, typeInfo, hi, hzz, newVar, newRow, Value.cells]
    · cases hz
  · cases hz

theorem evM_allocBld (h : Rm cx m st T w) {o : Oper} {d : Nat} (hd : d < cx.n) {t e : TypeId} (ho : o.op = .alloc t) (hz : bldZero cx.P t = some e) {orc : List TV} :
    Makes cx T w o ⟨.ptr d 0, (st.addRow (d + 1000000) ⟨e, .int .u8, []⟩).addBox d (.cells [.selfp d, .row (d + 1000000)] t), orc, []⟩ := by
  unfold bldZero at hz
  split at hz
  · rename_i i fs hi hu
    split at hz
    · rename_i cs f0 f1 hzz hfs
      split at hz
      · rename_i e' hcs he
        cases hz
        have hcs' : cs = #[.pointer none, .slice none 0 0] := Array.ext' (by rw [hcs])
        have h1 := nil_row h (d + 1000000) e (.int .u8)
        have hn : Renew cx (upd m (d + 1000000) (.slice none 0 0)) (st.addRow (d + 1000000) ⟨e, .int .u8, []⟩) w d (mval w.heap.size (.cells [.selfp d, .row (d + 1000000)] t)) (w.alloc (.cells #[.pointer none, .slice none 0 0] t)) :=
          Renew.fresh h1 d _ (same_alloc0 _ _) fun g hg => by rw [mval_blk] at hg; cases hg; exact ⟨Nat.le_refl _, by simp⟩
        have := h1.addBox hd hn (.inl (fresh_place h1)) ⟨#[.pointer none, .slice none 0 0], heap_alloc_new w _, .inl rfl, by
          show _ = upd _ d _ (d + 1000000)
          rw [upd_other _ _ (by omega), upd_same], trivial⟩
        refine ⟨_, _, _, exec_value (s := Instr.alloc t true (.tuple #[])) (by simp only [execOp, ho]) ?_, this, w.heap.size, upd_same _ _ _, rfl⟩
        simp [Instr.alloc, zeroValue, typeInfo, hi, hzz, newVar, newRow, Value.cells, hcs']
      · cases hz
    · cases hz
  · cases hz

theorem zeroInts_eq {k : IntKind} : ∀ {n : Nat} {l : List Value}, arrZero.zeroInts k n l = true → l = List.replicate n (.int k 0)
  | 0, [], _ => rfl
  | 0, _ :: _, h => by cases h
  | n + 1, [], h => by cases h
  | n + 1, v :: l, h => by
    cases v <;> simp only [arrZero.zeroInts, Bool.false_eq_true] at h
    simp only [Bool.and_eq_true, beq_iff_eq] at h
    obtain ⟨h1, h2, h3⟩ := h
    rw [← keq h1, h2, zeroInts_eq h3]
    rfl
theorem zeros_rep {M : Nat → Prop} {k : IntKind} : ∀ (n : Nat), repL (rep w M (.int k)) (List.replicate n (.int k 0)) (List.replicate n (zeroEl (.int k)))
  | 0 => rfl
  | n + 1 => ⟨[.int k 0], List.replicate n (.int k 0), rfl, rfl, zeros_rep n⟩
theorem evM_allocArr (h : Rm cx m st T w) {o : Oper} {d : Nat} {t : TypeId} {n : Nat} {u : Ty} (ho : o.op = .alloc t) (hz : arrZero cx.P t = some (n, u)) {orc : List TV} :
    Makes cx T w o ⟨.rptr d 0 0 u.cells, st.addRow d ⟨t, u, List.replicate n (zeroEl u)⟩, orc, []⟩ := by
  unfold arrZero at hz
  split at hz
  · rename_i i n' k hi ha
    split at hz
    · rename_i cs hzz
      split at hz
      · rename_i hc
        cases hz
        rw [Bool.and_eq_true] at hc
        have hcs := zeroInts_eq hc.1
        have hle := Nat.le_of_ble_eq_true hc.2
        have hsz : cs.size = n := by rw [← Array.length_toList, hcs, List.length_replicate]
        have := new_row h d (xs := List.replicate n (zeroEl (.int k))) (cells := cs.toList) (cur := cs) (u := .int k) (e := t) (cap := n) (w.alloc (.cells cs t)) (same_alloc0 _ _) (heap_alloc_new w _) (by rw [List.length_replicate]; exact Nat.le_refl _) hle (by rw [hsz]; simp [Ty.cells])
          (by rw [List.length_replicate]; simp only [Ty.cells, Nat.mul_one]; rw [List.take_of_length_le (by rw [Array.length_toList, hsz]; exact Nat.le_refl _)]) (by rw [hcs]; exact zeros_rep n)
        rw [List.length_replicate] at this
        refine ⟨.pointer (some ⟨w.heap.size, 0, none⟩), _, _, exec_value (s := Instr.alloc t true (.tuple #[])) (by simp only [execOp, ho]) ?_, this, w.heap.size, _, _, upd_same _ _ _, by simp⟩
        simp [Instr.alloc, zeroValue, typeInfo, hi, hzz, newVar, newRow, Value.cells]
      · cases hz
    · cases hz
  · cases hz

theorem evM_nil (h : Rm cx m st T w) {o : Oper} {d e : Nat} {u : Ty} (ho : o.op = .move (.const (.slice none 0 0)) ∨ o.op = .assign (.const (.slice none 0 0))) {orc : List TV} :
    Makes cx T w o ⟨.row d, st.addRow d ⟨e, u, []⟩, orc, []⟩ := by
  refine ⟨.slice none 0 0, w, _, ?_, nil_row h d e u, (upd_same _ _ _).symm⟩
  rcases ho with ho | ho <;> simp [execOp, ho, Act.eval]

theorem evM_range (h : Rm cx m st T w) {o : Oper} {d : Nat} (hd : d < cx.n) {t : TypeId} {x : Operand} {s : List UInt8} (ho : o.op = .range t x) (hx : getTV st x = some ⟨.str, s⟩) (ht : cx.P.underlying t = some .string) {orc : List TV} :
    Makes cx T w o ⟨.iter d, st.addBox d (.iter s 0), orc, []⟩ := by
  obtain ⟨hv, _⟩ := repV_str.1 (getTV_sound h hx)
  have hn : Renew cx m st w d (mval w.heap.size (.iter s 0)) (w.iter (bytesOf s) 0) :=
    Renew.fresh h d _ (same_alloc0 _ _) fun g hg => by rw [mval_blk] at hg; cases hg; exact ⟨Nat.le_refl _, by simp [World.iter]⟩
  refine ⟨.pointer (some ⟨w.heap.size, 0, none⟩), w.iter (bytesOf s) 0, _, exec_value (s := Instr.range t (.string (bytesOf s))) (by simp only [execOp, ho, hv]; rfl) (run_range_string _ _ _ ht),
    h.addBox hd hn (.inl (fresh_place h)) (World.iter_heap _ _ _), (upd_same _ _ _).symm⟩

theorem same_setObj (w : World) (g : Nat) (o : Obj) : Same w { w with heap := w.heap.setIfInBounds g o } := ⟨rfl, rfl, rfl, by simp⟩

theorem evM_rangeMap (h : Rm cx m st T w) {o : Oper} {d : Nat} (hd : d < cx.n) {t : TypeId} {x : Operand} {k v : Ty} {y : (Ty.map k v).el} {kt et : TypeId} (ho : o.op = .range t x) (hx : getTV st x = some ⟨.map k v, y⟩) (ht : cx.P.underlying t = some (.map kt et)) {orc : List TV} :
    Makes cx T w o ⟨.iter d, st.addBox d (.mit k v ((show Option (List (k.el × v.el)) from y).getD []) []), orc, []⟩ := by
  have hv := (repV_plain (t := .map k v) rfl).1 (getTV_sound h hx)
  match y, hv with
  | none, hv =>
    have hv : [Act.eval ⟨T, []⟩ x] = [Value.map none] := hv
    simp only [List.cons.injEq, and_true] at hv
    have hn : Renew cx m st w d (mval w.heap.size (.mit k v [] [])) (w.alloc (.mapIter none 0 #[] 0)) :=
      Renew.fresh h d _ (same_alloc0 _ _) fun g hg => by rw [mval_blk] at hg; cases hg; exact ⟨Nat.le_refl _, by simp⟩
    refine ⟨.pointer (some ⟨w.heap.size, 0, none⟩), w.alloc (.mapIter none 0 #[] 0), _, exec_value (s := Instr.range t (.map none)) (by simp only [execOp, ho, hv]) ?_,
      h.addBox hd hn (.inl h.frame.size) (.inl ⟨heap_alloc_new w _, rfl, rfl⟩), ?_⟩
    · simp [Instr.range, run_underlying ht, newObj, Sem.run]
    · show _ = upd m d _ d
      rw [upd_same]; rfl
  | some ps, ⟨b, es, clock, e, h1, h2, h3, h4, h5⟩ =>
    simp only [List.cons.injEq, and_true] at e
    have hlt := heap_some_lt h1
    have hn : Renew cx m st w d (mval w.heap.size (.mit k v ps [])) (w.alloc (.mapIter (some b) clock #[] clock)) :=
      Renew.fresh h d _ (same_alloc0 _ _) fun g hg => by rw [mval_blk] at hg; cases hg; exact ⟨Nat.le_refl _, by simp⟩
    have hmut := hn.mut (ids := (st.addBox d (.mit k v ps [])).ids) (fun i hi => by rcases List.mem_cons.1 hi with hi | hi; exact .inl hi; exact .inr ((scrub_ids st d i).1 hi).1)
    refine ⟨.pointer (some ⟨w.heap.size, 0, none⟩), w.alloc (.mapIter (some b) clock #[] clock), _, exec_value (s := Instr.range t (.map (some b))) (by simp only [execOp, ho, e]) ?_,
      h.addBox hd hn (.inl h.frame.size) (.inr ⟨b, es, clock, #[], heap_alloc_new w _, ?_, fun hc => h2 (hmut b hlt hc), h3, h4, ?_, .inl rfl⟩), ?_⟩
    · simp [Instr.range, run_underlying ht, newObj, getObj, Sem.run, h1]
    · rw [Below.heap_alloc w _ b hlt]; exact h1
    · have hf : es.toList.filter (fun e => !(#[] : Array Nat).contains e.born) = es.toList := List.filter_eq_self.2 fun a _ => by simp
      rw [hf]
      exact repM_mono (fun _ _ h => repV_ext hn.keeps hmut h) (fun _ _ h => repV_ext hn.keeps hmut h) h5
    · show _ = upd m d _ d
      rw [upd_same]; rfl

theorem evM_makeMap (h : Rm cx m st T w) {o : Oper} {d : Nat} (hd : d < cx.n) {t : TypeId} {r : Option Operand} {k v : Ty} {kt et : TypeId} (ho : o.op = .makeMap t r) (ht : cx.P.underlying t = some (.map kt et)) (hr : hintOK st r = true) {orc : List TV} :
    Makes cx T w o ⟨.iter d, st.addBox d (.mp k v []), orc, []⟩ := by
  have hn : Renew cx m st w d (mval w.heap.size (.mp k v [])) (w.alloc (.map #[] 0)) :=
    Renew.fresh h d _ (same_alloc0 _ _) fun g hg => by rw [mval_blk] at hg; cases hg; exact ⟨Nat.le_refl _, by simp⟩
  refine ⟨.map (some w.heap.size), w.alloc (.map #[] 0), _, exec_value (s := Instr.makeMap t (r.map (Act.eval ⟨T, []⟩))) (by simp only [execOp, ho]) ?_,
    h.addBox hd hn (.inl h.frame.size) ⟨#[], 0, heap_alloc_new w _, fun e he => by simp at he, by simp, trivial⟩, ?_⟩
  · cases r with
    | none => rfl
    | some x =>
      unfold hintOK at hr
      obtain ⟨n, hn'⟩ := Option.isSome_iff_exists.1 hr
      obtain ⟨k', hk⟩ := intOf?_sound h hn'
      simp [Instr.makeMap, run_underlying ht, hk, asInt, asIntOf, newObj, Sem.run]
  · show _ = upd m d _ d
    rw [upd_same]; rfl

theorem evM_overMap (h : Rm cx m st T w) {o : Oper} {x : Operand} {b : Nat} {k v : Ty} {left last : List (k.el × v.el)} (ho : o.op = .next x false) (hx : getSV st x = some (.iter b)) (hb : look st.bx b = some (.mit k v left last)) (hl : left = []) {orc : List TV} {ob : List Prop} :
    Makes cx T w o ⟨.tup [⟨.bool, false⟩], st, orc, ob⟩ := by
  subst hl
  obtain ⟨g, e1, _, e3⟩ := h.boxes b _ (look_mem hb)
  have hv : Act.eval ⟨T, []⟩ x = .pointer (some ⟨g, 0, none⟩) := by have : Act.eval ⟨T, []⟩ x = m b := getSV_sound h hx; rw [this, e1]; rfl
  rcases e3 with ⟨h1, _⟩ | ⟨mb, es, clock, seen, h1, h2, _, h4, h5, h6, _⟩
  · refine ⟨.tuple #[.bool false], w, m, exec_value (s := Instr.next (.pointer (some ⟨g, 0, none⟩)) false o.type) (by simp only [execOp, ho, hv]) ?_, h, ⟨[.bool false], rfl, repV_bool.2 rfl, trivial⟩⟩
    simp [Instr.next, getObj, Sem.run, h1]
  · have hnil : es.toList.filter (fun e => !seen.contains e.born) = [] := List.eq_nil_of_length_eq_zero (by rw [repM_len h6]; rfl)
    refine ⟨.tuple #[.bool false], w, m, exec_value (s := Instr.next (.pointer (some ⟨g, 0, none⟩)) false o.type) (by simp only [execOp, ho, hv]) ?_, h, ⟨[.bool false], rfl, repV_bool.2 rfl, trivial⟩⟩
    have hnil' : es.filter (fun e => !seen.contains e.born) = #[] := by
      apply Array.toList_inj.1
      rw [Array.toList_filter]
      exact hnil
    simp only [Instr.next, getObj, Sem.run_bind, Sem.run, h1, h2, Result.andThen, next_test_false seen es clock clock h4 (Nat.le_refl _), Bool.false_eq_true, if_false, hnil']
    simp [choose, Sem.run, Question.forced]

theorem find_born : ∀ (l : List MapEntry) (e : MapEntry), (l.map (·.born)).Nodup → e ∈ l → l.find? (fun x => x.born == e.born) = some e
  | [], e, _, he => by cases he
  | x :: l, e, hn, he => by
    rw [List.map_cons, List.nodup_cons] at hn
    rw [List.find?_cons]
    by_cases hx : x.born = e.born
    · rw [show (x.born == e.born) = true from beq_iff_eq.2 hx]
      rcases List.mem_cons.1 he with he | he
      · rw [he]
      · exact absurd (List.mem_map.2 ⟨e, he, hx.symm⟩) hn.1
    · rw [show (x.born == e.born) = false from beq_eq_false_iff_ne.2 hx]
      rcases List.mem_cons.1 he with he | he
      · exact absurd (by rw [he]) hx
      · exact find_born l e hn.2 he
theorem evM_entry (h : Rm cx m st T w) {o : Oper} {x : Operand} {b : Nat} {k v : Ty} {left : List (k.el × v.el)} {p : k.el × v.el} (ho : o.op = .entry x) (hx : getSV st x = some (.iter b)) (hb : look st.bx b = some (.mit k v left [p])) {orc : List TV} :
    Makes cx T w o ⟨.tup [⟨k, p.1⟩, ⟨v, p.2⟩], st, orc, []⟩ := by
  obtain ⟨g, e1, _, e3⟩ := h.boxes b _ (look_mem hb)
  have hv : Act.eval ⟨T, []⟩ x = .pointer (some ⟨g, 0, none⟩) := by have : Act.eval ⟨T, []⟩ x = m b := getSV_sound h hx; rw [this, e1]; rfl
  rcases e3 with ⟨_, _, h1⟩ | ⟨mb, es, clock, seen, h1, h2, _, h4, h5, h6, h7⟩
  · cases h1
  · rcases h7 with h7 | ⟨e, q, a1, a2, a3, a4, a5⟩
    · cases h7
    · cases a1
      refine ⟨.tuple #[e.key, e.val], w, m, exec_value (s := Instr.entry (.pointer (some ⟨g, 0, none⟩))) (by simp only [execOp, ho, hv]) ?_, h, ⟨[e.key, e.val], rfl, a4, a5, trivial⟩⟩
      have hfind : es.find? (fun x => x.born == e.born) = some e := by rw [← Array.find?_toList]; exact find_born es.toList e h5 a2
      simp [Instr.entry, getObj, Sem.run, h1, h2, a3, hfind]

theorem evM_next (h : Rm cx m st T w) {o : Oper} {x : Operand} {b p : Nat} {s : List UInt8} (ho : o.op = .next x true) (hx : getSV st x = some (.iter b)) (hb : look st.bx b = some (.iter s p)) {orc : List TV} :
    (p < s.length → Makes cx T w o ⟨.tup [⟨.bool, true⟩, ⟨.int .i64, (p : Int)⟩, ⟨.int .i32, runeAt s p⟩], st.setBox b (.iter s (p + widthAt s p)), orc, [p < s.length]⟩) ∧
    (s.length ≤ p → Makes cx T w o ⟨.tup [⟨.bool, false⟩], st, orc, [s.length ≤ p]⟩) := by
  have hv : Act.eval ⟨T, []⟩ x = m b := getSV_sound h hx
  have hbm := look_mem hb
  obtain ⟨g, hg1, _, hh⟩ := h.boxes b _ hbm
  have hh : w.heap[g]? = some (.stringIter (bytesOf s) p) := hh
  have hg1 : m b = .pointer (some ⟨g, 0, none⟩) := hg1
  constructor
  · intro hlt
    have hlt' : p < (bytesOf s).size := by rw [bytesOf_size]; exact hlt
    have hn : Touch m w b { w with heap := w.heap.setIfInBounds g (.stringIter (bytesOf s) (p + widthAt s p)) } :=
      ⟨same_setObj _ _ _, fun k _ hne => by
        show (w.heap.setIfInBounds g _)[k]? = _
        rw [Array.getElem?_setIfInBounds_ne]
        intro e
        exact hne (by rw [hg1, e]; rfl)⟩
    refine ⟨.tuple #[.bool true, .int .i64 p, .int .i32 (runeAt s p)], _, m, exec_value (s := Instr.next (.pointer (some ⟨g, 0, none⟩)) true o.type) (by simp only [execOp, ho, hv, hg1]) ?_,
      h.setBox hbm hn (g := g) hg1 ?_, ⟨[.bool true, .int .i64 p, .int .i32 (runeAt s p)], rfl, repV_bool.2 rfl, repV_int.2 rfl, repV_int.2 rfl, trivial⟩⟩
    · simp [Instr.next, getObj, setObj, Sem.run, hh, hlt', goInt, runeAt, widthAt]
    · show (w.heap.setIfInBounds g _)[g]? = _
      rw [Array.getElem?_setIfInBounds_self_of_lt (heap_lt hh)]
  · intro hle
    have hlt' : ¬ p < (bytesOf s).size := by rw [bytesOf_size]; omega
    refine ⟨.tuple #[.bool false], w, m, exec_value (s := Instr.next (.pointer (some ⟨g, 0, none⟩)) true o.type) (by simp only [execOp, ho, hv, hg1]) ?_, h, ⟨[.bool false], rfl, repV_bool.2 rfl, trivial⟩⟩
    simp [Instr.next, getObj, Sem.run, hh, hlt']

end Go.Ev
