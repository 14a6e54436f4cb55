/- The evaluator of operations that change nothing, and that it is right. -/
import Derived.Test.YtciikbiapmbocaaDoorEvX
namespace Go.Ev
open Go Go.RowKit

/-- What an operation gives: the value, the answers that are left, what has to hold. -/
structure PR where
  sv : SV
  orc : List TV
  ob : List Prop

/-- What a map reads as, its own or one that is only read. -/
structure MV where
  k : Ty
  v : Ty
  ps : List (k.el × v.el)
def mapOf (st : St) : SV → Option MV
  | .val (.map k v) x => some ⟨k, v, (show Option (List (k.el × v.el)) from x).getD []⟩
  | .iter b => match look st.bx b with
    | some (.mp k v ps) => some ⟨k, v, ps⟩
    | _ => none
  | _ => none
def evLk (P : Program) (st : St) (mt : TypeId) (x k : Operand) (ok : Bool) (orc : List TV) : Option PR :=
  match (getSV st x).bind (mapOf st), P.underlying mt, getTV st k with
  | some mv, some (.map kt et), some key => match ty P kt, zeroV P et, key.as mv.k with
    | some ku, some vu, some ky => match ku.beq mv.k && vu.beq mv.v && eqOK P 16 kt, ok with
      | true, true => some ⟨.tup [⟨mv.v, (mget (eqEl mv.k) mv.ps ky).getD (zeroEl mv.v)⟩, ⟨.bool, (mget (eqEl mv.k) mv.ps ky).isSome⟩], orc, []⟩
      | true, false => some ⟨.val mv.v ((mget (eqEl mv.k) mv.ps ky).getD (zeroEl mv.v)), orc, []⟩
      | false, _ => none
    | _, _, _ => none
  | _, _, _ => none

/-- A length. -/
def lenOf (P : Program) (st : St) (s : SV) (t : TypeId) : Option Int :=
  match s, ty P t with
  | .val .str s, some .str => some (s.length : Int)
  | .val (.sl _) xs, some (.sl _) => some (xs.length : Int)
  | .row r, some (.sl _) => match look st.rw r with
    | some c => some (c.xs.length : Int)
    | none => none
  | s, some (.map _ _) => match mapOf st s with
    | some mv => some (mv.ps.length : Int)
    | none => none
  | _, _ => none

def mkParts (P : Program) (st : St) (t : TypeId) (u : Ty) : List (Nat × Operand) → u.el → Option u.el
  | [], x => some x
  | (i, o) :: r, x =>
    match fieldInfo P t i, getTV st o with
    | some (off, fu), some v => match v.t.beq fu, setT u x off v with
      | true, some y => mkParts P st t u r y
      | _, _ => none
    | _, _ => none

def intOf? (s : Option SV) : Option Int :=
  match s with
  | some (.val (.int _) n) => some n
  | _ => none

/-- An array type: its length; the shape of its elements. -/
def arrTy (P : Program) (t : TypeId) : Option (Nat × Ty) :=
  match P.underlying t with
  | some (.array n e) => match ty P e with
    | some u => some (n, u)
    | none => none
  | _ => none

/-- Slices made texts. -/
def convS (P : Program) (st : St) (src dst : TypeId) (x : Operand) (orc : List TV) : Option PR :=
  match (getSV st x).map (thaw st), P.underlying src, P.underlying dst with
  | some (.val (.sl (.int .u8)) xs), some (.slice e), some .string => match P.underlying e with
    | some (.int .u8) => some ⟨.val .str (bytesStr xs), orc, []⟩
    | _ => none
  | some (.val (.sl (.int .i32)) xs), some (.slice e), some .string => match P.underlying e with
    | some (.int .i32) => some ⟨.val .str (runesStr xs), orc, [(runesStr xs).length ≤ lim]⟩
    | _ => none
  | _, _, _ => none

/-- Errors: nil; a number of a named type; whatever else. -/
def errIs (a : Option (Option (Nat × Int))) (u : Nat) (m : Int) : Bool :=
  match a with
  | some (some (t, n)) => Nat.beq t u && n == m
  | _ => false
def isNilC : Operand → Bool
  | .const .nilIface => true
  | _ => false
def binErr (P : Program) (op : BinOp) (t : TypeId) (y : Operand) (a b : TV) : Option (Bool × List Prop) :=
  match a, b with
  | ⟨.err, a⟩, ⟨.err, b⟩ => match P.underlying t, isNilC y with
    | some (.interface _), true => neg op (Option.isNone (α := Option (Nat × Int)) a) []
    | some (.interface _), false => match (show Option (Option (Nat × Int)) from b) with
      | some (some (u, m)) => match P.info? u, P.underlying u with
        | some i, some (.int _) => bif i.comparable then neg op (errIs a u m) [(show Option (Option (Nat × Int)) from a) ≠ some none] else none
        | _, _ => none
      | _ => none
    | _, _ => none
  | _, _ => none
where
  neg (op : BinOp) (b : Bool) (ob : List Prop) : Option (Bool × List Prop) :=
    match op with
    | .eql => some (b, ob)
    | .neq => some (!b, ob)
    | _ => none
def mkErr (t : TypeId) (v : Option TV) : Option (Option (Nat × Int)) :=
  match v with
  | some ⟨.int k, n⟩ => bif kbeq k .i64 then some (some (t, n)) else some none
  | _ => some none
/-- The greater, the smaller of two numbers. -/
def mxI (a b : Int) : Int := if b > a then b else a
def mnI (a b : Int) : Int := if b < a then b else a
def mx2 (st : St) (mx : Bool) (args : List Operand) : Option TV :=
  match args with
  | [x, y] => match getTV st x, getTV st y with
    | some ⟨.int k, a⟩, some ⟨.int k', b⟩ => bif kbeq k k' then some ⟨.int k, bif mx then mxI a b else mnI a b⟩ else none
    | _, _ => none
  | _ => none

/-- Operations that change nothing. -/
def evP (P : Program) (st : St) (o : Op) (orc : List TV) : Option PR :=
  match o with
  | .move x => match getSV st x with
    | some s => some ⟨s, orc, []⟩
    | none => none
  | .assign x => match getSV st x with
    | some s => some ⟨s, orc, []⟩
    | none => none
  | .pick c a b => match getTV st c with
    | some ⟨.bool, true⟩ => match getSV st a with
      | some s => some ⟨s, orc, []⟩
      | none => none
    | some ⟨.bool, false⟩ => match getSV st b with
      | some s => some ⟨s, orc, []⟩
      | none => none
    | _ => none
  | .binOp op t x y _ => match getTV st x, getTV st y with
    | some a, some b => match bin P op t a b with
      | some (r, ob) => some ⟨.val r.t r.x, orc, ob⟩
      | none => match binErr P op t y a b with
        | some (r, ob) => some ⟨.val .bool r, orc, ob⟩
        | none => none
    | _, _ => none
  | .unOp op _ x => match getTV st x with
    | some a => match un op a with
      | some r => some ⟨.val r.t r.x, orc, []⟩
      | none => none
    | none => none
  | .convert src dst x => match getTV st x with
    | some a => match conv P src dst a with
      | some r => some ⟨.val r.t r.x, orc, []⟩
      | none => convS P st src dst x orc
    | none => convS P st src dst x orc
  | .index t x i => match getTV st x, intOf? (getSV st i), orc, P.underlying t with
    | some ⟨.str, s⟩, some n, ⟨.int .u8, b⟩ :: orc', some .string => some ⟨.val (.int .u8) b, orc', [byteAt s n = some b]⟩
    | some ⟨.arr k u, xs⟩, some n, v :: orc', some (.array k' e) => match Nat.beq k k', ty P e, v.as u with
      | true, some u', some y => bif u.beq u' then some ⟨.val u y, orc', [at? (show List u.el from xs) n = some y]⟩ else none
      | _, _, _ => none
    | _, _, _, _ => none
  | .field t x f => match getTV st x, fieldInfo P t f with
    | some a, some (off, u) => match a.t.agg, getT a.t a.x off u with
      | true, some y => some ⟨.val u y, orc, []⟩
      | _, _ => none
    | _, _ => none
  | .build t parts => match ty P t, P.info? t with
    | some u, some i => match i.zero, u.isSt with
      | some z, true => match zeroChk u z.cells.toList, mkParts P st t u parts.toList (zeroEl u) with
        | some [], some y => some ⟨.val u y, orc, []⟩
        | _, _ => none
      | _, _ => none
    | _, _ => none
  | .extract x i => match getSV st x with
    | some (.tup l) => match l[i]? with
      | some v => some ⟨.val v.t v.x, orc, []⟩
      | none => none
    | some (.tups l) => match l[i]? with
      | some (.v v) => some ⟨.val v.t v.x, orc, []⟩
      | some (.r r) => some ⟨bif (look st.bx r).isSome then .iter r else .row r, orc, []⟩
      | none => none
    | _ => none
  | .nilCheck x => match getSV st x with
    | some (.ptr b off) => some ⟨.ptr b off, orc, []⟩
    | some (.vptr t y) => some ⟨.vptr t y, orc, []⟩
    | some (.rptr r i off sz) => some ⟨.rptr r i off sz, orc, []⟩
    | some (.bp b p) => some ⟨.bp b p, orc, []⟩
    | _ => none
  | .fieldAddr t x f => match getSV st x, fieldInfo P t f with
    | some (.ptr b off), some (fo, _) => some ⟨.ptr b (off + fo), orc, []⟩
    | some (.vptr u y), some (fo, fu) => match getT u y fo fu with
      | some z => some ⟨.vptr fu z, orc, []⟩
      | none => none
    | some (.rptr r i off sz), some (fo, _) => some ⟨.rptr r i (off + fo) sz, orc, []⟩
    | some (.bp b p), some (fo, fu) => some ⟨.bp b (p ++ [.f fo fu]), orc, []⟩
    | _, _ => none
  | .indexAddr t x i => match getSV st x, intOf? (getSV st i), ty P t, orc with
    | some (.val (.sl u) xs), some n, some (.sl u'), v :: orc' => match u.beq u', v.as u with
      | true, some y => some ⟨.vptr u y, orc', [at? xs n = some y]⟩
      | _, _ => none
    | some (.row r), some n, some (.sl u'), v :: orc' => match look st.rw r with
      | some c => match c.t.beq u', v.as c.t with
        | true, some y => some ⟨.rptr r n 0 c.t.cells, orc', [at? c.xs n = some y]⟩
        | _, _ => none
      | none => none
    | some (.vptr (.arr k u) xs), some n, some (.arr k' u'), v :: orc' => match Nat.beq k k' && u.beq u', v.as u with
      | true, some y => some ⟨.vptr u y, orc', [at? (show List u.el from xs) n = some y]⟩
      | _, _ => none
    | some (.bp b p), some n, some (.arr len u), orc => some ⟨.bp b (p ++ [.x n u.cells]), orc, [0 ≤ n ∧ n < (len : Int)]⟩
    | some (.ptr b off), some n, some (.arr len u), orc => bif decide (0 ≤ n) && decide (n < len) then some ⟨.ptr b (off + n.toNat * u.cells), orc, []⟩ else none
    | some (.rptr r i0 off0 sz), some n, some (.arr len u), orc => match look st.rw r with
      | some c => match c.t.beq u && (i0 == 0 && (Nat.beq off0 0 && Nat.beq sz c.t.cells)), orc with
        | true, v :: orc' => match v.as c.t with
          | some y => some ⟨.rptr r n 0 c.t.cells, orc', [at? c.xs n = some y, c.xs.length = len]⟩
          | none => none
        | true, [] => none
        | false, orc => bif decide (0 ≤ n) && decide (n < len) then some ⟨.rptr r i0 (off0 + n.toNat * u.cells) sz, orc, []⟩ else none
      | none => none
    | _, _, _, _ => none
  | .load t x => match getSV st x, ty P t with
    | some (.vptr u y), some u' => match u.beq u', Nat.beq u.cells 0 with
      | true, false => some ⟨.val u y, orc, []⟩
      | _, _ => none
    | _, _ => none
  | .slice t x lo hi none => match getSV st x, orc with
    | some (.val .str s), ⟨.str, r⟩ :: orc' => match P.underlying t, loSV st lo, hiSV st hi s.length with
      | some .string, some l, some h => some ⟨.val .str r, orc', [sub? s l h = some r]⟩
      | _, _, _ => none
    | some (.val (.sl u) xs), v :: orc' => match ty P t, loSV st lo, hiSV st hi xs.length, v.as (.sl u) with
      | some (.sl u'), some l, some h, some r => bif u.beq u' then some ⟨.val (.sl u) r, orc', [sub? xs l h = some r]⟩ else none
      | _, _, _, _ => none
    | _, _ => none
  | .call c => match c with
    | { callee := .builtin .len, args := args, argTypes := ts } => match args.toList, ts.toList with
      | [x], [t] => match getSV st x with
        | some s => match lenOf P st s t with
          | some n => some ⟨.val (.int .i64) n, orc, []⟩
          | none => none
        | none => none
      | _, _ => none
    | { callee := .builtin .max, args := args, .. } => match mx2 st true args.toList with
      | some r => some ⟨.val r.t r.x, orc, []⟩
      | none => none
    | { callee := .builtin .min, args := args, .. } => match mx2 st false args.toList with
      | some r => some ⟨.val r.t r.x, orc, []⟩
      | none => none
    | _ => none
  | .makeInterface t x => bif P.concrete t then some ⟨.val .err (mkErr t (getTV st x)), orc, []⟩ else none
  | .lookup mt x k ok => evLk P st mt x k ok orc
  | _ => none
where
  loSV (st : St) : Option Operand → Option Int
    | none => some 0
    | some x => intOf? (getSV st x)
  hiSV (st : St) : Option Operand → Nat → Option Int
    | none, n => some (n : Int)
    | some x, _ => intOf? (getSV st x)

variable {cx : Cx} {m : Nat → Value} {st : St} {T : Array Value} {w w' : World}

theorem intOf?_sound (h : Rm cx m st T w) {x : Operand} {n : Int} (hs : intOf? (getSV st x) = some n) : ∃ k, Act.eval ⟨T, []⟩ x = .int k n := by
  unfold intOf? at hs
  split at hs
  · rename_i k n' hy
    cases hs
    exact ⟨k, repV_int.1 (getSV_sound h hy)⟩
  · cases hs

/-- What a map of the evaluator is in memory. -/
theorem mapOf_sound (h : Rm cx m st T w) {v : Value} {s : SV} (hv : repS w (Mut cx m st.ids) m v s) {mv : MV} (hm : mapOf st s = some mv) :
    (v = .map none ∧ mv.ps = []) ∨ ∃ (g : Nat) (es : Array MapEntry) (clock : Nat), v = .map (some g) ∧ w.heap[g]? = some (.map es clock) ∧ repM (repV' w (Mut cx m st.ids) mv.k) (repV' w (Mut cx m st.ids) mv.v) es.toList mv.ps := by
  unfold mapOf at hm
  split at hm
  · rename_i k v' x
    cases hm
    have hv := (repV_plain (t := .map k v') rfl).1 hv
    match x, hv with
    | none, hv =>
      have hv : [v] = [Value.map none] := hv
      simp only [List.cons.injEq, and_true] at hv
      exact .inl ⟨hv, rfl⟩
    | some ps, ⟨b, es, clock, e, h1, _, _, _, h2⟩ =>
      simp only [List.cons.injEq, and_true] at e
      exact .inr ⟨b, es, clock, e, h1, h2⟩
  · rename_i b
    split at hm
    · rename_i k v' ps hb
      cases hm
      obtain ⟨g, e1, _, es, clock, h1, _, _, h2⟩ := h.boxes b _ (look_mem hb)
      have e2 : v = m b := hv
      exact .inr ⟨g, es, clock, by rw [e2, e1]; rfl, h1, h2⟩
    · cases hm
  · cases hm
theorem lenOf_sound (h : Rm cx m st T w) {v : Value} {s : SV} (hv : repS w (Mut cx m st.ids) m v s) {n : Int} {t : TypeId} (hs : lenOf cx.P st s t = some n) {ty' : TypeId} :
    Steady cx.P w (Builtin.len_ #[t] ty' #[v]) (.int .i64 n) := by
  intro w' he
  unfold lenOf at hs
  split at hs
  · rename_i l ht
    cases hs
    obtain ⟨i, _, _, hf⟩ := tyOf_facts ht
    obtain ⟨rfl, _⟩ := repV_str.1 hv
    simp only at hf
    have hsz := bytesOf_size l
    simp only [bytesOf] at hsz
    simp [Builtin.len_, run_underlying hf, goInt, hsz]
  · rename_i e xs e' ht
    cases hs
    obtain ⟨i, _, _, te, _, hf, _⟩ := tyOf_facts ht
    obtain ⟨a, cap, cells, hc, _⟩ := (repV_plain (t := .sl e) rfl).1 hv
    simp only [List.cons.injEq, and_true] at hc
    subst hc
    simp [Builtin.len_, run_underlying hf, goInt]
  · rename_i r e' ht
    split at hs
    · rename_i c hc
      cases hs
      obtain ⟨i, _, _, te, _, hf, _⟩ := tyOf_facts ht
      obtain ⟨cells, h1, _⟩ := h.rows r c (look_mem hc)
      have hv' : v = m r := hv
      rcases h1.2 with ⟨hn, hz⟩ | ⟨g, cap, cur, hn, _⟩
      · rw [hv', hn, hz]
        simp [Builtin.len_, run_underlying hf, goInt]
      · rw [hv', hn]
        simp [Builtin.len_, run_underlying hf, goInt]
    · cases hs
  · rename_i kt vt ht
    split at hs
    · rename_i mv hm
      cases hs
      obtain ⟨i, _, _, k, e, _, hf, _, _⟩ := tyOf_facts ht
      rcases mapOf_sound h hv hm with ⟨rfl, hp⟩ | ⟨g, es, clock, rfl, hg, hr⟩
      · rw [hp]
        simp [Builtin.len_, run_underlying hf, goInt]
      · have hg' : w'.heap[g]? = some (.map es clock) := by rw [he.block g (heap_some_lt hg)]; exact hg
        have hl := repM_len hr
        rw [Array.length_toList] at hl
        simp [Builtin.len_, run_underlying hf, goInt, getObj, Sem.run, hg', hl]
    · cases hs
  · cases hs

/-- What the operation's own step gives, in each world that has grown out of this one. -/
def Does (cx : Cx) (T : Array Value) (w : World) (o : Oper) (v : Value) : Prop := ∀ w', Ext w w' → (execOp (Act.eval ⟨T, []⟩) o).run cx.P w' = .ok (.value v) w'
theorem Does.of {o : Oper} {s : Sem Value} {v : Value} (he : execOp (Act.eval ⟨T, []⟩) o = (do pure (Next.value (← s)))) (hs : Steady cx.P w s v) : Does cx T w o v := by
  intro w' hw
  rw [he, Sem.run_bind, hs w' hw]
  rfl

theorem index_sound {P : Program} {t : TypeId} {s : List UInt8} {n b : Int} {k : IntKind} (ht : P.underlying t = some .string) (h : byteAt s n = some b) :
    Gives P (Instr.index t (.string (bytesOf s)) (.int k n)) (.int .u8 b) := by
  intro w'
  unfold byteAt at h
  split at h
  · rename_i c hc
    cases h
    obtain ⟨h0, h1, h2⟩ := at?_some hc
    rw [run_index_string _ t _ k n ht]
    have hlt : n < (bytesOf s).size := by rw [bytesOf_size]; exact h1
    rw [dif_pos ⟨h0, hlt⟩]
    have : (bytesOf s)[n.toNat]'(by omega) = c := by
      have hg : (bytesOf s).data[n.toNat]? = some c := by simpa [bytesOf] using h2
      have := (Array.getElem?_eq_some_iff.1 hg).2
      exact this
    rw [this]
  · cases h

theorem slice_str {P : Program} {t : TypeId} {s r : List UInt8} {lo hi : Option Value} {l h : Int} (ht : P.underlying t = some .string)
    (hlo : (lo = none ∧ l = 0) ∨ ∃ k, lo = some (.int k l)) (hhi : (hi = none ∧ h = s.length) ∨ ∃ k, hi = some (.int k h)) (hs : sub? s l h = some r) :
    Gives P (Instr.sliceAt t (.string (bytesOf s)) lo hi none) (.string (bytesOf r)) := by
  intro w'
  obtain ⟨h0, h1, h2, rfl⟩ := sub?_some hs
  have hsz : ((bytesOf s).size : Int) = s.length := by rw [bytesOf_size]
  have ex : ∀ a b : Nat, (bytesOf s).extract a b = bytesOf ((s.take b).drop a) := by
    intro a b
    apply ByteArray.ext
    apply Array.ext'
    have := Lib.extract_data (bytesOf s) a b
    rw [this]
    simp only [bytesOf]
    rw [List.drop_take]
  have hat : Instr.sliceAt t (.string (bytesOf s)) lo hi none = (do match ← underlying t with
    | .array n elem =>
      let a ← Instr.sureAddr (.string (bytesOf s))
      let (l, h, m) ← Instr.sliceBounds false n n lo hi none
      let size ← sizeOf elem
      pure (.slice (some (if m = l then a else a.add (l * size))) (h - l) (m - l))
    | _ => Instr.slice t (.string (bytesOf s)) lo hi none) := rfl
  rw [hat, Sem.run_bind, run_underlying ht]
  simp only [Result.andThen_ok]
  have hb : ∀ (x : Value) (k : IntKind) (n : Int) (y : Nat) (c : BoundsCode) (w : World), x = .int k n → 0 ≤ n → n ≤ y → (Instr.sliceBound x y c).run P w = .ok n.toNat w := by
    rintro x k n y c w rfl h3 h4
    simp [Instr.sliceBound, asIntOf, h3, h4]
  have main : (Instr.sliceBounds false (bytesOf s).size (bytesOf s).size lo hi none).run P w' = .ok (l.toNat, h.toNat, (bytesOf s).size) w' := by
    rcases hlo with ⟨rfl, rfl⟩ | ⟨k1, rfl⟩ <;> rcases hhi with ⟨rfl, rfl⟩ | ⟨k2, rfl⟩
    · simp [Instr.sliceBounds, bytesOf_size]
    · simp only [Instr.sliceBounds, Sem.run_bind, Sem.run_pure, Result.andThen_ok]
      rw [hb _ k2 h _ _ _ rfl (by omega) (by omega)]
      simp
    · simp only [Instr.sliceBounds, Sem.run_bind, Sem.run_pure, Result.andThen_ok]
      rw [hb _ k1 l _ _ _ rfl (by omega) (by omega)]
      simp [bytesOf_size]
    · simp only [Instr.sliceBounds, Sem.run_bind, Sem.run_pure, Result.andThen_ok]
      rw [hb _ k2 h _ _ _ rfl (by omega) (by omega)]
      simp only [Result.andThen_ok, Sem.run_bind]
      rw [hb _ k1 l _ _ _ rfl (by omega) (by omega)]
      simp
  simp only [Instr.slice, Sem.run_bind, run_underlying ht, Result.andThen_ok, Option.isSome_none, Bool.false_eq_true, if_false, Sem.run_pure, main, ex]

theorem slice_val {P : Program} {M : Nat → Prop} {t e : TypeId} {u : Ty} {xs r : List u.el} {d : Nat} {v : Value} {lo hi : Option Value} {l h : Int} (ht : P.underlying t = some (.slice e)) (hte : tyOf P d e = some u)
    (hv : rep w M (.sl u) [v] xs) (hlo : (lo = none ∧ l = 0) ∨ ∃ k, lo = some (.int k l)) (hhi : (hi = none ∧ h = xs.length) ∨ ∃ k, hi = some (.int k h)) (hs : sub? xs l h = some r) :
    ∃ v', Gives P (Instr.sliceAt t v lo hi none) v' ∧ rep w M (.sl u) [v'] r := by
  obtain ⟨h0, h1, h2, rfl⟩ := sub?_some hs
  obtain ⟨a, cap, cells, hc, hcap, hmax, hnil, hL, hcell⟩ := hv
  simp only [List.cons.injEq, and_true] at hc
  subst hc
  have hat : Instr.sliceAt t (.slice a xs.length cap) lo hi none = (do match ← underlying t with
    | .array n elem =>
      let a' ← Instr.sureAddr (.slice a xs.length cap)
      let (l, h, m) ← Instr.sliceBounds false n n lo hi none
      let size ← sizeOf elem
      pure (.slice (some (if m = l then a' else a'.add (l * size))) (h - l) (m - l))
    | _ => Instr.slice t (.slice a xs.length cap) lo hi none) := rfl
  have hb : ∀ (x : Value) (k : IntKind) (n : Int) (y : Nat) (c : BoundsCode) (w : World), x = .int k n → 0 ≤ n → n ≤ y → (Instr.sliceBound x y c).run P w = .ok n.toNat w := by
    rintro x k n y c w rfl h3 h4
    simp [Instr.sliceBound, asIntOf, h3, h4]
  have main : ∀ w', (Instr.sliceBounds true xs.length cap lo hi none).run P w' = .ok (l.toNat, h.toNat, cap) w' := by
    intro w'
    rcases hlo with ⟨rfl, rfl⟩ | ⟨k1, rfl⟩ <;> rcases hhi with ⟨rfl, rfl⟩ | ⟨k2, rfl⟩
    · simp [Instr.sliceBounds]
    · simp only [Instr.sliceBounds, Sem.run_bind, Sem.run_pure, Result.andThen_ok]
      rw [hb _ k2 h _ _ _ rfl (by omega) (by omega)]
      simp
    · simp only [Instr.sliceBounds, Sem.run_bind, Sem.run_pure, Result.andThen_ok]
      rw [hb _ k1 l _ _ _ rfl (by omega) (by omega)]
      simp
    · simp only [Instr.sliceBounds, Sem.run_bind, Sem.run_pure, Result.andThen_ok]
      rw [hb _ k2 h _ _ _ rfl (by omega) (by omega)]
      simp only [Result.andThen_ok, Sem.run_bind]
      rw [hb _ k1 l _ _ _ rfl (by omega) (by omega)]
      simp
  have hlen : ((xs.take h.toNat).drop l.toNat).length = h.toNat - l.toNat := by
    rw [List.length_drop, List.length_take]; omega
  refine ⟨.slice (if cap = l.toNat then a else a.map (·.add (l.toNat * u.cells))) (h.toNat - l.toNat) (cap - l.toNat), fun w' => ?_, ?_⟩
  · rw [hat, Sem.run_bind, run_underlying ht]
    simp only [Result.andThen_ok, Instr.slice, Sem.run_bind, run_underlying ht, main, ty_sizeOf hte, Sem.run_pure]
  · have split : ∀ (ys : List u.el) (cs : List Value) (n : Nat), repL (rep w M u) cs ys → n ≤ ys.length → ∃ c1 c2, cs = c1 ++ c2 ∧ c1.length = n * u.cells ∧ repL (rep w M u) c1 (ys.take n) ∧ repL (rep w M u) c2 (ys.drop n) := by
      intro ys
      induction ys with
      | nil =>
        intro cs n hh hn
        have h0 : n = 0 := Nat.le_zero.1 hn
        rw [h0]
        exact ⟨[], cs, rfl, by simp, rfl, hh⟩
      | cons y ys ih =>
        intro cs n hh hn
        cases n with
        | zero => exact ⟨[], cs, rfl, by simp, rfl, hh⟩
        | succ n =>
          obtain ⟨d1, d2, e1, e2, e3⟩ := hh
          obtain ⟨f1, f2, g1, g2, g3, g4⟩ := ih d2 n e3 (by simpa using hn)
          exact ⟨d1 ++ f1, f2, by rw [e1, g1]; simp, by rw [List.length_append, rep_length u e2, g2, Nat.succ_mul, Nat.add_comm], ⟨d1, f1, rfl, e2, g3⟩, g4⟩
    obtain ⟨c1, c2, hc12, hl1, hr1, _⟩ := split xs cells h.toNat hL (by omega)
    obtain ⟨d1, d2, hd12, hl2, _, hr2⟩ := split (xs.take h.toNat) c1 l.toNat hr1 (by rw [List.length_take]; omega)
    refine ⟨(if cap = l.toNat then a else a.map (·.add (l.toNat * u.cells))), cap - l.toNat, d2, by rw [hlen], by rw [hlen]; omega, by omega, ?_, hr2, fun j v hj => ?_⟩
    · intro hn
      split at hn
      · have := hnil hn; omega
      · cases a with
        | none => have := hnil rfl; omega
        | some a => simp at hn
    · have hj2 := (List.getElem?_eq_some_iff.1 hj).1
      have hk : cells[l.toNat * u.cells + j]? = some v := by
        rw [hc12, hd12, List.append_assoc, List.getElem?_append_right (by omega), List.getElem?_append_left (by omega), ← hj]
        congr 1
        omega
      obtain ⟨b, hb1, hb2, hb3⟩ := hcell _ _ hk
      subst hb1
      split
      · rename_i hcl
        have hz : d2 = [] := by
          have := repL_length (fun cs x => rep_length u) _ _ hr2
          rw [hlen] at this
          have hx : h.toNat - l.toNat = 0 := by omega
          rw [hx, Nat.zero_mul] at this
          exact List.eq_nil_of_length_eq_zero this
        rw [hz] at hj
        simp at hj
      · exact ⟨_, rfl, by rw [add_add]; exact hb2, by rw [add_block]; exact hb3⟩

theorem places_of {P : Program} : ∀ (fs : List Field), (∀ f ∈ fs, ∃ i, P.info? f.type = some i) →
    fs.mapM (fun f => (P.info? f.type).map fun i => (f.offset, i.size)) = some (fs.map fun f => (f.offset, P.cellsOf f.type))
  | [], _ => rfl
  | f :: fs, h => by
    obtain ⟨i, hi⟩ := h f List.mem_cons_self
    rw [List.mapM_cons, places_of fs (fun g hg => h g (List.mem_cons_of_mem _ hg))]
    simp [hi, Program.cellsOf]

theorem fieldsOf_size {P : Program} {d : Nat} : ∀ {fs : List Field} {off : Nat} {u : Ty}, fieldsOf (tyOf P d) off fs = some u → ∀ f ∈ fs, ∃ i, P.info? f.type = some i
  | [], _, _, _, f, hf => by simp at hf
  | fd :: fs, off, u, h, f, hf => by
    unfold fieldsOf at h
    cases hb : Nat.beq fd.offset off with
    | false => rw [hb] at h; cases h
    | true =>
      rw [hb, cond_true] at h
      split at h
      · rename_i a ha
        split at h
        · rename_i b hb2
          rcases List.mem_cons.1 hf with rfl | hf
          · obtain ⟨i, hi, _⟩ := tyOf_facts ha; exact ⟨i, hi⟩
          · exact fieldsOf_size hb2 f hf
        · cases h
      · cases h

/-- The foldl by which 'build' lays a part. -/
theorem lay_part (vc : List Value) : ∀ (k : Nat) (pre post old : List Value), old.length = vc.length →
    ((vc.zipIdx k).foldl (fun cs (x : Value × Nat) => Array.setIfInBounds cs (pre.length + x.2 - k) x.1) (pre ++ old ++ post).toArray) = (pre ++ vc ++ post).toArray := by
  induction vc with
  | nil => intro k pre post old h; have : old = [] := List.eq_nil_of_length_eq_zero h; subst this; rfl
  | cons v vc ih =>
    intro k pre post old h
    match old, h with
    | o :: old, h =>
      have h' : old.length = vc.length := by simpa using h
      have e0 : Array.setIfInBounds (pre ++ (o :: old) ++ post).toArray (pre.length + k - k) v = ((pre ++ [v]) ++ old ++ post).toArray := by
        rw [show pre.length + k - k = pre.length by omega]
        simp
      rw [List.zipIdx_cons, List.foldl_cons, e0]
      have := ih (k + 1) (pre ++ [v]) post old h'
      rw [List.length_append, List.length_singleton] at this
      have e1 : (fun (cs : Array Value) (x : Value × Nat) => Array.setIfInBounds cs (pre.length + 1 + x.2 - (k + 1)) x.1) = (fun cs x => Array.setIfInBounds cs (pre.length + x.2 - k) x.1) := by
        funext cs x
        congr 1
        omega
      rw [e1] at this
      rw [this]
      simp

theorem lay_part0 (vc pre post old : List Value) (h : old.length = vc.length) :
    (vc.toArray.zipIdx.foldl (fun cs (x : Value × Nat) => Array.setIfInBounds cs (pre.length + x.2) x.1) (pre ++ old ++ post).toArray) = (pre ++ vc ++ post).toArray := by
  have := lay_part vc 0 pre post old h
  simpa using this

theorem fill_sound {P : Program} {t : TypeId} {u : Ty} {fs : Array Field} (hu : P.underlying t = some (.struct fs)) (h : Rm cx m st T w) (hP : P = cx.P)
    {place : Nat → Option (Nat × Nat)} (hpl : ∀ i off fu, fieldInfo P t i = some (off, fu) → place i = some (off, fu.cells)) :
    ∀ (parts : List (Nat × Operand)) (x y : u.el) (cs : List Value), rep w (Mut cx m st.ids) u cs x → mkParts P st t u parts x = some y →
      ∃ cs', Instr.fill place cs.toArray (parts.map fun p => (p.1, Act.eval ⟨T, []⟩ p.2)) = some cs'.toArray ∧ rep w (Mut cx m st.ids) u cs' y
  | [], x, y, cs, hr, hm => by cases hm; exact ⟨cs, rfl, hr⟩
  | (i, o) :: r, x, y, cs, hr, hm => by
    unfold mkParts at hm
    split at hm
    · rename_i off fu v hf hv
      split at hm
      · rename_i y' hb hy
        have hvv := getTV_sound h hv
        have hvc := repV_cells hvv
        obtain ⟨c1, c2, c3, rfl, hl1, hl2, hr'⟩ := setT_rep hvc u hr hy
        have hcells : v.t.cells = fu.cells := by rw [Ty.eq_of_beq hb]
        have hvl : (Act.eval ⟨T, []⟩ o).cells.toList.length = fu.cells := by rw [rep_length v.t hvc, hcells]
        have hsz : (Act.eval ⟨T, []⟩ o).cells.size = fu.cells := by rw [← hvl]; simp
        obtain ⟨cs', hf', hr2⟩ := fill_sound hu h hP hpl r y' y _ hr' hm
        refine ⟨cs', ?_, hr2⟩
        rw [List.map_cons, Instr.fill, hpl i off fu hf]
        have hfit : ¬ (((Act.eval ⟨T, []⟩ o).cells.size ≠ fu.cells || decide (off + (Act.eval ⟨T, []⟩ o).cells.size > (c1 ++ c2 ++ c3).toArray.size)) = true) := by
          simp only [hsz, List.size_toArray, List.length_append, hl1, hl2, hvl]
          simp
        simp only []
        rw [if_neg hfit]
        have hlay := lay_part0 (Act.eval ⟨T, []⟩ o).cells.toList c1 c3 c2 hl2
        rw [hl1, Array.toArray_toList] at hlay
        rw [hlay]
        exact hf'
      · cases hm
    · cases hm

end Go.Ev
