/- The evaluator of operations that change nothing, and that it is right. -/
import Derived.Test.YtgkgdfmldioddaaGreatDoorMM1
import Derived.Laws.IdiomRangeMap
set_option linter.unusedSectionVars false
set_option linter.unusedVariables false
set_option linter.unusedSimpArgs false
namespace Go.Ev
open Go Go.RowKit
variable [Dr]
structure PR where
 sv : SV
 orc : List TV
 ob : List Prop
structure MV where
 k : Ty
 v : Ty
 ps : List (k.el × v.el)
def mapOf (st : St) : SV -> Option MV
 | .val (.map k v) x => some ⟨k, v, (show Option (List (k.el × v.el)) from x).getD []⟩
 | .iter b => match look st.bx b with
  | some (.mp k v ps) => some ⟨k, v, ps⟩
  | _ => none
 | _ => none
def evLk (P : Program) (st : St) (mt : TypeId) (x k : Operand) (ok : Bool) (orc : List TV) : Option PR :=
 match (getSV st x).bind (mapOf st), P.underlying mt, getTV st k with
 | some mv, some (.map kt et), some key => match ty P kt, zeroV P et, key.as mv.k with
  | some ku, some vu, some ky => match ku.beq mv.k && vu.beq mv.v && eqOK P 16 kt, ok with
   | true, true => some ⟨.tup [⟨mv.v, (mget (eqEl mv.k) mv.ps ky).getD (zeroEl mv.v)⟩, ⟨.bool, (mget (eqEl mv.k) mv.ps ky).isSome⟩], orc, []⟩
   | true, false => some ⟨.val mv.v ((mget (eqEl mv.k) mv.ps ky).getD (zeroEl mv.v)), orc, []⟩
   | false, _ => none
  | _, _, _ => none
 | _, _, _ => none
def lenOf (P : Program) (st : St) (s : SV) (t : TypeId) : Option Int :=
 match s, ty P t with
 | .val .str s, some .str => some (s.length : Int)
 | .val (.sl _) xs, some (.sl _) => some (xs.length : Int)
 | .row r, some (.sl _) => match look st.rw r with
  | some c => some (c.xs.length : Int)
  | none => none
 | s, some (.map _ _) => match mapOf st s with
  | some mv => some (mv.ps.length : Int)
  | none => none
 | _, _ => none
def mkParts (P : Program) (st : St) (t : TypeId) (u : Ty) : List (Nat × Operand) -> u.el -> Option u.el
 | [], x => some x
 | (i, o) :: r, x =>
  match zbb P t i, getTV st o with
  | some (off, fu), some v => match v.t.beq fu, setT u x off v with
   | true, some y => mkParts P st t u r y
   | _, _ => none
  | _, _ => none
def intOf? (s : Option SV) : Option Int :=
 match s with
 | some (.val (.int _) n) => some n
 | _ => none
def arrTy (P : Program) (t : TypeId) : Option (Nat × Ty) :=
 match P.underlying t with
 | some (.array n e) => match ty P e with
  | some u => some (n, u)
  | none => none
 | _ => none
def convS (P : Program) (st : St) (src dst : TypeId) (x : Operand) (orc : List TV) : Option PR :=
 match (getSV st x).map (thaw st), P.underlying src, P.underlying dst with
 | some (.val (.sl (.int .u8)) xs), some (.slice e), some .string => match P.underlying e with
  | some (.int .u8) => some ⟨.val .str (za8 xs), orc, []⟩
  | _ => none
 | some (.val (.sl (.int .i32)) xs), some (.slice e), some .string => match P.underlying e with
  | some (.int .i32) => some ⟨.val .str (za9 xs), orc, [(za9 xs).length <= lim]⟩
  | _ => none
 | _, _, _ => none
def errIs (a : Option (Option (Nat × Int))) (u : Nat) (m : Int) : Bool :=
 match a with
 | some (some (t, n)) => Nat.beq t u && n == m
 | _ => false
def isNilC : Operand -> Bool
 | .const .nilIface => true
 | _ => false
def binErr (P : Program) (op : BinOp) (t : TypeId) (y : Operand) (a b : TV) : Option (Bool × List Prop) :=
 match a, b with
 | ⟨.err, a⟩, ⟨.err, b⟩ => match P.underlying t, isNilC y with
  | some (.interface _), true => neg op (Option.isNone (α := Option (Nat × Int)) a) []
  | some (.interface _), false => match (show Option (Option (Nat × Int)) from b) with
   | some (some (u, m)) => match P.info? u, P.underlying u with
    | some i, some (.int _) => bif i.comparable then neg op (errIs a u m) [(show Option (Option (Nat × Int)) from a) ≠ some none] else none
    | _, _ => none
   | _ => none
  | _, _ => none
 | _, _ => none
where
 neg (op : BinOp) (b : Bool) (ob : List Prop) : Option (Bool × List Prop) :=
  match op with
  | .eql => some (b, ob)
  | .neq => some (!b, ob)
  | _ => none
def mkErr (t : TypeId) (v : Option TV) : Option (Option (Nat × Int)) :=
 match v with
 | some ⟨.int k, n⟩ => bif kbeq k .i64 then some (some (t, n)) else some none
 | _ => some none
def mxI (a b : Int) : Int := if b > a then b else a
def mnI (a b : Int) : Int := if b < a then b else a
def mx2 (st : St) (mx : Bool) (args : List Operand) : Option TV :=
 match args with
 | [x, y] => match getTV st x, getTV st y with
  | some ⟨.int k, a⟩, some ⟨.int k', b⟩ => bif kbeq k k' then some ⟨.int k, bif mx then mxI a b else mnI a b⟩ else none
  | _, _ => none
 | _ => none
def evP (P : Program) (st : St) (o : Op) (orc : List TV) : Option PR :=
 match o with
 | .move x => match getSV st x with
  | some s => some ⟨s, orc, []⟩
  | none => none
 | .assign x => match getSV st x with
  | some s => some ⟨s, orc, []⟩
  | none => none
 | .pick c a b => match getTV st c with
  | some ⟨.bool, true⟩ => match getSV st a with
   | some s => some ⟨s, orc, []⟩
   | none => none
  | some ⟨.bool, false⟩ => match getSV st b with
   | some s => some ⟨s, orc, []⟩
   | none => none
  | _ => none
 | .binOp op t x y _ => match getTV st x, getTV st y with
  | some a, some b => match bin P op t a b with
   | some (r, ob) => some ⟨.val r.t r.x, orc, ob⟩
   | none => match binErr P op t y a b with
    | some (r, ob) => some ⟨.val .bool r, orc, ob⟩
    | none => none
  | _, _ => none
 | .unOp op _ x => match getTV st x with
  | some a => match un op a with
   | some r => some ⟨.val r.t r.x, orc, []⟩
   | none => none
  | none => none
 | .convert src dst x => match getTV st x with
  | some a => match conv P src dst a with
   | some r => some ⟨.val r.t r.x, orc, []⟩
   | none => convS P st src dst x orc
  | none => convS P st src dst x orc
 | .index t x i => match getTV st x, intOf? (getSV st i), orc, P.underlying t with
  | some ⟨.str, s⟩, some n, ⟨.int .u8, b⟩ :: orc', some .string => some ⟨.val (.int .u8) b, orc', [byteAt s n = some b]⟩
  | some ⟨.arr k u, xs⟩, some n, v :: orc', some (.array k' e) => match Nat.beq k k', ty P e, v.as u with
   | true, some u', some y => bif u.beq u' then some ⟨.val u y, orc', [at? (show List u.el from xs) n = some y]⟩ else none
   | _, _, _ => none
  | _, _, _, _ => none
 | .field t x f => match getTV st x, zbb P t f with
  | some a, some (off, u) => match a.t.agg, getT a.t a.x off u with
   | true, some y => some ⟨.val u y, orc, []⟩
   | _, _ => none
  | _, _ => none
 | .build t parts => match ty P t, P.info? t with
  | some u, some i => match i.zero, u.isSt with
   | some z, true => match zeroChk u z.cells.toList, mkParts P st t u parts.toList (zeroEl u) with
    | some [], some y => some ⟨.val u y, orc, []⟩
    | _, _ => none
   | _, _ => none
  | _, _ => none
 | .extract x i => match getSV st x with
  | some (.tup l) => match l[i]? with
   | some v => some ⟨.val v.t v.x, orc, []⟩
   | none => none
  | some (.tups l) => match l[i]? with
   | some (.v v) => some ⟨.val v.t v.x, orc, []⟩
   | some (.r r) => some ⟨match look st.bx r with
    | some (.cells _ _) => .ptr r 0
    | some (.blk _ _ _) => .bp r []
    | some _ => .iter r
    | none => .row r, orc, []⟩
   | some .a => some ⟨.any, orc, []⟩
   | none => none
  | _ => none
 | .nilCheck x => match getSV st x with
  | some (.ptr b off) => some ⟨.ptr b off, orc, []⟩
  | some (.vptr t y) => some ⟨.vptr t y, orc, []⟩
  | some (.rptr r i off sz) => some ⟨.rptr r i off sz, orc, []⟩
  | some (.bp b p) => some ⟨.bp b p, orc, []⟩
  | _ => none
 | .fieldAddr t x f => match getSV st x, zbb P t f with
  | some (.ptr b off), some (fo, _) => some ⟨.ptr b (off + fo), orc, []⟩
  | some (.vptr u y), some (fo, fu) => match getT u y fo fu with
   | some z => some ⟨.vptr fu z, orc, []⟩
   | none => none
  | some (.rptr r i off sz), some (fo, _) => some ⟨.rptr r i (off + fo) sz, orc, []⟩
  | some (.bp b p), some (fo, fu) => some ⟨.bp b (p ++ [.f fo fu]), orc, []⟩
  | _, _ => none
 | .indexAddr t x i => match getSV st x, intOf? (getSV st i), ty P t, orc with
  | some (.val (.sl u) xs), some n, some (.sl u'), v :: orc' => match u.beq u', v.as u with
   | true, some y => some ⟨.vptr u y, orc', [at? xs n = some y]⟩
   | _, _ => none
  | some (.row r), some n, some (.sl u'), v :: orc' => match look st.rw r with
   | some c => match c.t.beq u', v.as c.t with
    | true, some y => some ⟨.rptr r n 0 c.t.cells, orc', [at? c.xs n = some y]⟩
    | _, _ => none
   | none => none
  | some (.vptr (.arr k u) xs), some n, some (.arr k' u'), v :: orc' => match Nat.beq k k' && u.beq u', v.as u with
   | true, some y => some ⟨.vptr u y, orc', [at? (show List u.el from xs) n = some y]⟩
   | _, _ => none
  | some (.bp b p), some n, some (.arr len u), orc => some ⟨.bp b (p ++ [.x n u.cells]), orc, [0 <= n /\ n < (len : Int)]⟩
  | some (.ptr b off), some n, some (.arr len u), orc => bif decide (0 <= n) && decide (n < len) then some ⟨.ptr b (off + n.toNat * u.cells), orc, []⟩ else none
  | some (.rptr r i0 off0 sz), some n, some (.arr len u), orc => match look st.rw r with
   | some c => match c.t.beq u && (i0 == 0 && (Nat.beq off0 0 && Nat.beq sz c.t.cells)), orc with
    | true, v :: orc' => match v.as c.t with
     | some y => some ⟨.rptr r n 0 c.t.cells, orc', [at? c.xs n = some y, c.xs.length = len]⟩
     | none => none
    | true, [] => none
    | false, orc => bif decide (0 <= n) && decide (n < len) then some ⟨.rptr r i0 (off0 + n.toNat * u.cells) sz, orc, []⟩ else none
   | none => none
  | _, _, _, _ => none
 | .load t x => match getSV st x, ty P t with
  | some (.vptr u y), some u' => match u.beq u', Nat.beq u.cells 0 with
   | true, false => some ⟨.val u y, orc, []⟩
   | _, _ => none
  | _, _ => none
 | .slice t x lo hi none => match getSV st x, orc with
  | some (.val .str s), ⟨.str, r⟩ :: orc' => match P.underlying t, loSV st lo, hiSV st hi s.length with
   | some .string, some l, some h => some ⟨.val .str r, orc', [sub? s l h = some r]⟩
   | _, _, _ => none
  | some (.val (.sl u) xs), v :: orc' => match ty P t, loSV st lo, hiSV st hi xs.length, v.as (.sl u) with
   | some (.sl u'), some l, some h, some r => bif u.beq u' then some ⟨.val (.sl u) r, orc', [sub? xs l h = some r]⟩ else none
   | _, _, _, _ => none
  | _, _ => none
 | .call c => match c with
  | { callee := .builtin .len, args := args, argTypes := ts } => match args.toList, ts.toList with
   | [x], [t] => match getSV st x with
    | some s => match lenOf P st s t with
     | some n => some ⟨.val (.int .i64) n, orc, []⟩
     | none => none
    | none => none
   | _, _ => none
  | { callee := .builtin .max, args := args, .. } => match mx2 st true args.toList with
   | some r => some ⟨.val r.t r.x, orc, []⟩
   | none => none
  | { callee := .builtin .min, args := args, .. } => match mx2 st false args.toList with
   | some r => some ⟨.val r.t r.x, orc, []⟩
   | none => none
  | _ => none
 | .makeInterface t x => bif P.concrete t then some ⟨.val .err (mkErr t (getTV st x)), orc, []⟩ else none
 | .lookup mt x k ok => evLk P st mt x k ok orc
 | _ => none
where
 loSV (st : St) : Option Operand -> Option Int
  | none => some 0
  | some x => intOf? (getSV st x)
 hiSV (st : St) : Option Operand -> Nat -> Option Int
  | none, n => some (n : Int)
  | some x, _ => intOf? (getSV st x)
variable {cx : Cx} {m : Nat -> Value} {st : St} {T : Array Value} {w w' : World}
theorem intOf?_sound (h : Rm cx m st T w) {x : Operand} {n : Int} (hs : intOf? (getSV st x) = some n) : ∃ k, Act.eval ⟨T, []⟩ x = .int k n := by
 unfold intOf? at hs
 split at hs
 ·rename_i k n' hy
  cases hs
  exact ⟨k, za0.1 (za6 h hy)⟩
 ·cases hs
theorem mapOf_sound (h : Rm cx m st T w) {v : Value} {s : SV} (hv : repS w (Mut cx m st.ids) m v s) {mv : MV} (hm : mapOf st s = some mv) :
  (v = .map none /\ mv.ps = []) \/ ∃ (g : Nat) (es : Array MapEntry) (clock : Nat), v = .map (some g) /\ w.heap[g]? = some (.map es clock) /\ repM (repV' w (Mut cx m st.ids) mv.k) (repV' w (Mut cx m st.ids) mv.v) es.toList mv.ps := by
 unfold mapOf at hm
 split at hm
 ·rename_i k v' x
  cases hm
  have hv := (za3 (t := .map k v') rfl).1 hv
  match x, hv with
  | none, hv =>
   have hv : [v] = [Value.map none] := hv
   simp only [List.cons.injEq, and_true] at hv
   exact .inl ⟨hv, rfl⟩
  | some ps, ⟨b, es, clock, e, h1, _, _, _, h2⟩ =>
   simp only [List.cons.injEq, and_true] at e
   exact .inr ⟨b, es, clock, e, h1, h2⟩
 ·rename_i b
  split at hm
  ·rename_i k v' ps hb
   cases hm
   obtain ⟨g, e1, _, es, clock, h1, _, _, h2⟩ := h.box (zak hb)
   have e2 : v = m b := hv
   exact .inr ⟨g, es, clock, by rw [e2, e1]; rfl, h1, h2⟩
  ·cases hm
 ·cases hm
theorem lenOf_sound (h : Rm cx m st T w) {v : Value} {s : SV} (hv : repS w (Mut cx m st.ids) m v s) {n : Int} {t : TypeId} (hs : lenOf cx.P st s t = some n) {ty' : TypeId} :
  Steady cx.P w (Builtin.len_ #[t] ty' #[v]) (.int .i64 n) := by
 intro w' he
 unfold lenOf at hs
 split at hs
 ·rename_i l ht
  cases hs
  obtain ⟨i, _, _, hf⟩ := zav ht
  obtain ⟨rfl, _⟩ := za2.1 hv
  simp only at hf
  have hsz := za5 l
  simp only [bytesOf] at hsz
  simp [Builtin.len_, run_underlying hf, goInt, hsz]
 ·rename_i e xs e' ht
  cases hs
  obtain ⟨i, _, _, te, _, hf, _⟩ := zav ht
  obtain ⟨a, cap, cells, hc, _⟩ := (za3 (t := .sl e) rfl).1 hv
  simp only [List.cons.injEq, and_true] at hc
  subst hc
  simp [Builtin.len_, run_underlying hf, goInt]
 ·rename_i r e' ht
  split at hs
  ·rename_i c hc
   cases hs
   obtain ⟨i, _, _, te, _, hf, _⟩ := zav ht
   obtain ⟨cells, h1, _⟩ := h.rows r c (zak hc)
   have hv' : v = m r := hv
   rcases h1.2 with ⟨hn, hz⟩ | ⟨g, cap, cur, hn, _⟩
   ·rw [hv', hn, hz]
    simp [Builtin.len_, run_underlying hf, goInt]
   ·rw [hv', hn]
    simp [Builtin.len_, run_underlying hf, goInt]
  ·cases hs
 ·rename_i kt vt ht
  split at hs
  ·rename_i mv hm
   cases hs
   obtain ⟨i, _, _, k, e, _, hf, _, _⟩ := zav ht
   rcases mapOf_sound h hv hm with ⟨rfl, hp⟩ | ⟨g, es, clock, rfl, hg, hr⟩
   ·rw [hp]
    simp [Builtin.len_, run_underlying hf, goInt]
   ·have hg' : w'.heap[g]? = some (.map es clock) := by rw [he.block g (zad hg)]; exact hg
    have hl := repM_len hr
    rw [Array.length_toList] at hl
    simp [Builtin.len_, run_underlying hf, goInt, getObj, Sem.run, hg', hl]
  ·cases hs
 ·cases hs
def Does (cx : Cx) (T : Array Value) (w : World) (o : Oper) (v : Value) : Prop := ∀ w', Ext w w' -> (execOp (Act.eval ⟨T, []⟩) o).run cx.P w' = .ok (.value v) w'
theorem Does.of {o : Oper} {s : Sem Value} {v : Value} (he : execOp (Act.eval ⟨T, []⟩) o = (do pure (Next.value (<- s)))) (hs : Steady cx.P w s v) : Does cx T w o v := by
 intro w' hw
 rw [he, Sem.run_bind, hs w' hw]
 rfl
theorem index_sound {P : Program} {t : TypeId} {s : List UInt8} {n b : Int} {k : IntKind} (ht : P.underlying t = some .string) (h : byteAt s n = some b) :
  Gives P (Instr.index t (.string (bytesOf s)) (.int k n)) (.int .u8 b) := by
 intro w'
 unfold byteAt at h
 split at h
 ·rename_i c hc
  cases h
  obtain ⟨h0, h1, h2⟩ := at?_some hc
  rw [run_index_string _ t _ k n ht]
  have hlt : n < (bytesOf s).size := by rw [za5]; exact h1
  rw [dif_pos ⟨h0, hlt⟩]
  have : (bytesOf s)[n.toNat]'(by omega) = c := by
   have hg : (bytesOf s).data[n.toNat]? = some c := by simpa [bytesOf] using h2
   have := (Array.getElem?_eq_some_iff.1 hg).2
   exact this
  rw [this]
 ·cases h
theorem slice_str {P : Program} {t : TypeId} {s r : List UInt8} {lo hi : Option Value} {l h : Int} (ht : P.underlying t = some .string)
  (hlo : (lo = none /\ l = 0) \/ ∃ k, lo = some (.int k l)) (hhi : (hi = none /\ h = s.length) \/ ∃ k, hi = some (.int k h)) (hs : sub? s l h = some r) :
  Gives P (Instr.sliceAt t (.string (bytesOf s)) lo hi none) (.string (bytesOf r)) := by
 intro w'
 obtain ⟨h0, h1, h2, rfl⟩ := sub?_some hs
 have hsz : ((bytesOf s).size : Int) = s.length := by rw [za5]
 have ex : ∀ a b : Nat, (bytesOf s).extract a b = bytesOf ((s.take b).drop a) := by
  intro a b
  apply ByteArray.ext
  apply Array.ext'
  have := Lib.extract_data (bytesOf s) a b
  rw [this]
  simp only [bytesOf]
  rw [List.drop_take]
 have hat : Instr.sliceAt t (.string (bytesOf s)) lo hi none = (do match <- underlying t with
  | .array n elem =>
   let a <- Instr.sureAddr (.string (bytesOf s))
   let (l, h, m) <- Instr.sliceBounds false n n lo hi none
   let size <- sizeOf elem
   pure (.slice (some (if m = l then a else a.add (l * size))) (h - l) (m - l))
  | _ => Instr.slice t (.string (bytesOf s)) lo hi none) := rfl
 rw [hat, Sem.run_bind, run_underlying ht]
 simp only [Result.andThen_ok]
 have hb : ∀ (x : Value) (k : IntKind) (n : Int) (y : Nat) (c : BoundsCode) (w : World), x = .int k n -> 0 <= n -> n <= y -> (Instr.sliceBound x y c).run P w = .ok n.toNat w := by
  rintro x k n y c w rfl h3 h4
  simp [Instr.sliceBound, asIntOf, h3, h4]
 have main : (Instr.sliceBounds false (bytesOf s).size (bytesOf s).size lo hi none).run P w' = .ok (l.toNat, h.toNat, (bytesOf s).size) w' := by
  rcases hlo with ⟨rfl, rfl⟩ | ⟨k1, rfl⟩ <;> rcases hhi with ⟨rfl, rfl⟩ | ⟨k2, rfl⟩
  ·simp [Instr.sliceBounds, za5]
  ·simp only [Instr.sliceBounds, Sem.run_bind, Sem.run_pure, Result.andThen_ok]
   rw [hb _ k2 h _ _ _ rfl (by omega) (by omega)]
   simp
  ·simp only [Instr.sliceBounds, Sem.run_bind, Sem.run_pure, Result.andThen_ok]
   rw [hb _ k1 l _ _ _ rfl (by omega) (by omega)]
   simp [za5]
  ·simp only [Instr.sliceBounds, Sem.run_bind, Sem.run_pure, Result.andThen_ok]
   rw [hb _ k2 h _ _ _ rfl (by omega) (by omega)]
   simp only [Result.andThen_ok, Sem.run_bind]
   rw [hb _ k1 l _ _ _ rfl (by omega) (by omega)]
   simp
 simp only [Instr.slice, Sem.run_bind, run_underlying ht, Result.andThen_ok, Option.isSome_none, Bool.false_eq_true, if_false, Sem.run_pure, main, ex]
theorem slice_val {P : Program} {M : Nat -> Prop} {t e : TypeId} {u : Ty} {xs r : List u.el} {d : Nat} {v : Value} {lo hi : Option Value} {l h : Int} (ht : P.underlying t = some (.slice e)) (hte : tyOf P d e = some u)
  (hv : rep w M (.sl u) [v] xs) (hlo : (lo = none /\ l = 0) \/ ∃ k, lo = some (.int k l)) (hhi : (hi = none /\ h = xs.length) \/ ∃ k, hi = some (.int k h)) (hs : sub? xs l h = some r) :
  ∃ v', Gives P (Instr.sliceAt t v lo hi none) v' /\ rep w M (.sl u) [v'] r := by
 obtain ⟨h0, h1, h2, rfl⟩ := sub?_some hs
 obtain ⟨a, cap, cells, hc, hcap, hmax, hnil, hL, hcell⟩ := hv
 simp only [List.cons.injEq, and_true] at hc
 subst hc
 have hat : Instr.sliceAt t (.slice a xs.length cap) lo hi none = (do match <- underlying t with
  | .array n elem =>
   let a' <- Instr.sureAddr (.slice a xs.length cap)
   let (l, h, m) <- Instr.sliceBounds false n n lo hi none
   let size <- sizeOf elem
   pure (.slice (some (if m = l then a' else a'.add (l * size))) (h - l) (m - l))
  | _ => Instr.slice t (.slice a xs.length cap) lo hi none) := rfl
 have hb : ∀ (x : Value) (k : IntKind) (n : Int) (y : Nat) (c : BoundsCode) (w : World), x = .int k n -> 0 <= n -> n <= y -> (Instr.sliceBound x y c).run P w = .ok n.toNat w := by
  rintro x k n y c w rfl h3 h4
  simp [Instr.sliceBound, asIntOf, h3, h4]
 have main : ∀ w', (Instr.sliceBounds true xs.length cap lo hi none).run P w' = .ok (l.toNat, h.toNat, cap) w' := by
  intro w'
  rcases hlo with ⟨rfl, rfl⟩ | ⟨k1, rfl⟩ <;> rcases hhi with ⟨rfl, rfl⟩ | ⟨k2, rfl⟩
  ·simp [Instr.sliceBounds]
  ·simp only [Instr.sliceBounds, Sem.run_bind, Sem.run_pure, Result.andThen_ok]
   rw [hb _ k2 h _ _ _ rfl (by omega) (by omega)]
   simp
  ·simp only [Instr.sliceBounds, Sem.run_bind, Sem.run_pure, Result.andThen_ok]
   rw [hb _ k1 l _ _ _ rfl (by omega) (by omega)]
   simp
  ·simp only [Instr.sliceBounds, Sem.run_bind, Sem.run_pure, Result.andThen_ok]
   rw [hb _ k2 h _ _ _ rfl (by omega) (by omega)]
   simp only [Result.andThen_ok, Sem.run_bind]
   rw [hb _ k1 l _ _ _ rfl (by omega) (by omega)]
   simp
 have hlen : ((xs.take h.toNat).drop l.toNat).length = h.toNat - l.toNat := by
  rw [List.length_drop, List.length_take]; omega
 refine ⟨.slice (if cap = l.toNat then a else a.map (·.add (l.toNat * u.cells))) (h.toNat - l.toNat) (cap - l.toNat), fun w' => ?_, ?_⟩
 ·rw [hat, Sem.run_bind, run_underlying ht]
  simp only [Result.andThen_ok, Instr.slice, Sem.run_bind, run_underlying ht, main, zaw hte, Sem.run_pure]
 ·have split : ∀ (ys : List u.el) (cs : List Value) (n : Nat), repL (rep w M u) cs ys -> n <= ys.length -> ∃ c1 c2, cs = c1 ++ c2 /\ c1.length = n * u.cells /\ repL (rep w M u) c1 (ys.take n) /\ repL (rep w M u) c2 (ys.drop n) := by
   intro ys
   induction ys with
   | nil =>
    intro cs n hh hn
    have h0 : n = 0 := Nat.le_zero.1 hn
    rw [h0]
    exact ⟨[], cs, rfl, by simp, rfl, hh⟩
   | cons y ys ih =>
    intro cs n hh hn
    cases n with
    | zero => exact ⟨[], cs, rfl, by simp, rfl, hh⟩
    | succ n =>
     obtain ⟨d1, d2, e1, e2, e3⟩ := hh
     obtain ⟨f1, f2, g1, g2, g3, g4⟩ := ih d2 n e3 (by simpa using hn)
     exact ⟨d1 ++ f1, f2, by rw [e1, g1]; simp, by rw [List.length_append, zag u e2, g2, Nat.succ_mul, Nat.add_comm], ⟨d1, f1, rfl, e2, g3⟩, g4⟩
  obtain ⟨c1, c2, hc12, hl1, hr1, _⟩ := split xs cells h.toNat hL (by omega)
  obtain ⟨d1, d2, hd12, hl2, _, hr2⟩ := split (xs.take h.toNat) c1 l.toNat hr1 (by rw [List.length_take]; omega)
  refine ⟨(if cap = l.toNat then a else a.map (·.add (l.toNat * u.cells))), cap - l.toNat, d2, by rw [hlen], by rw [hlen]; omega, by omega, ?_, hr2, fun j v hj => ?_⟩
  ·intro hn
   split at hn
   ·have := hnil hn; omega
   ·cases a with
    | none => have := hnil rfl; omega
    | some a => simp at hn
  ·have hj2 := (List.getElem?_eq_some_iff.1 hj).1
   have hk : cells[l.toNat * u.cells + j]? = some v := by
    rw [hc12, hd12, List.append_assoc, List.getElem?_append_right (by omega), List.getElem?_append_left (by omega), <- hj]
    congr 1
    omega
   obtain ⟨b, hb1, hb2, hb3⟩ := hcell _ _ hk
   subst hb1
   split
   ·rename_i hcl
    have hz : d2 = [] := by
     have := zaf (fun cs x => zag u) _ _ hr2
     rw [hlen] at this
     have hx : h.toNat - l.toNat = 0 := by omega
     rw [hx, Nat.zero_mul] at this
     exact List.eq_nil_of_length_eq_zero this
    rw [hz] at hj
    simp at hj
   ·exact ⟨_, rfl, by rw [add_add]; exact hb2, by rw [zae]; exact hb3⟩
theorem places_of {P : Program} : ∀ (fs : List Field), (∀ f ∈ fs, ∃ i, P.info? f.type = some i) ->
  fs.mapM (fun f => (P.info? f.type).map fun i => (f.offset, i.size)) = some (fs.map fun f => (f.offset, P.cellsOf f.type))
 | [], _ => rfl
 | f :: fs, h => by
  obtain ⟨i, hi⟩ := h f List.mem_cons_self
  rw [List.mapM_cons, places_of fs (fun g hg => h g (List.mem_cons_of_mem _ hg))]
  simp [hi, Program.cellsOf]
theorem fieldsOf_size {P : Program} {d : Nat} : ∀ {fs : List Field} {off : Nat} {u : Ty}, fieldsOf (tyOf P d) off fs = some u -> ∀ f ∈ fs, ∃ i, P.info? f.type = some i
 | [], _, _, _, f, hf => by simp at hf
 | fd :: fs, off, u, h, f, hf => by
  unfold fieldsOf at h
  cases hb : Nat.beq fd.offset off with
  | false => rw [hb] at h; cases h
  | true =>
   rw [hb, cond_true] at h
   split at h
   ·rename_i a ha
    split at h
    ·rename_i b hb2
     rcases List.mem_cons.1 hf with rfl | hf
     ·obtain ⟨i, hi, _⟩ := zav ha; exact ⟨i, hi⟩
     ·exact fieldsOf_size hb2 f hf
    ·cases h
   ·cases h
theorem lay_part (vc : List Value) : ∀ (k : Nat) (pre post old : List Value), old.length = vc.length ->
  ((vc.zipIdx k).foldl (fun cs (x : Value × Nat) => Array.setIfInBounds cs (pre.length + x.2 - k) x.1) (pre ++ old ++ post).toArray) = (pre ++ vc ++ post).toArray := by
 induction vc with
 | nil => intro k pre post old h; have : old = [] := List.eq_nil_of_length_eq_zero h; subst this; rfl
 | cons v vc ih =>
  intro k pre post old h
  match old, h with
  | o :: old, h =>
   have h' : old.length = vc.length := by simpa using h
   have e0 : Array.setIfInBounds (pre ++ (o :: old) ++ post).toArray (pre.length + k - k) v = ((pre ++ [v]) ++ old ++ post).toArray := by
    rw [show pre.length + k - k = pre.length by omega]
    simp
   rw [List.zipIdx_cons, List.foldl_cons, e0]
   have := ih (k + 1) (pre ++ [v]) post old h'
   rw [List.length_append, List.length_singleton] at this
   have e1 : (fun (cs : Array Value) (x : Value × Nat) => Array.setIfInBounds cs (pre.length + 1 + x.2 - (k + 1)) x.1) = (fun cs x => Array.setIfInBounds cs (pre.length + x.2 - k) x.1) := by
    funext cs x
    congr 1
    omega
   rw [e1] at this
   rw [this]
   simp
theorem lay_part0 (vc pre post old : List Value) (h : old.length = vc.length) :
  (vc.toArray.zipIdx.foldl (fun cs (x : Value × Nat) => Array.setIfInBounds cs (pre.length + x.2) x.1) (pre ++ old ++ post).toArray) = (pre ++ vc ++ post).toArray := by
 have := lay_part vc 0 pre post old h
 simpa using this
theorem fill_sound {P : Program} {t : TypeId} {u : Ty} {fs : Array Field} (hu : P.underlying t = some (.struct fs)) (h : Rm cx m st T w) (hP : P = cx.P)
  {place : Nat -> Option (Nat × Nat)} (hpl : ∀ i off fu, zbb P t i = some (off, fu) -> place i = some (off, fu.cells)) :
  ∀ (parts : List (Nat × Operand)) (x y : u.el) (cs : List Value), rep w (Mut cx m st.ids) u cs x -> mkParts P st t u parts x = some y ->
   ∃ cs', Instr.fill place cs.toArray (parts.map fun p => (p.1, Act.eval ⟨T, []⟩ p.2)) = some cs'.toArray /\ rep w (Mut cx m st.ids) u cs' y
 | [], x, y, cs, hr, hm => by cases hm; exact ⟨cs, rfl, hr⟩
 | (i, o) :: r, x, y, cs, hr, hm => by
  unfold mkParts at hm
  split at hm
  ·rename_i off fu v hf hv
   split at hm
   ·rename_i y' hb hy
    have hvv := za7 h hv
    have hvc := zai hvv
    obtain ⟨c1, c2, c3, rfl, hl1, hl2, hr'⟩ := setT_rep hvc u hr hy
    have hcells : v.t.cells = fu.cells := by rw [Ty.eq_of_beq hb]
    have hvl : (Act.eval ⟨T, []⟩ o).cells.toList.length = fu.cells := by rw [zag v.t hvc, hcells]
    have hsz : (Act.eval ⟨T, []⟩ o).cells.size = fu.cells := by rw [<- hvl]; simp
    obtain ⟨cs', hf', hr2⟩ := fill_sound hu h hP hpl r y' y _ hr' hm
    refine ⟨cs', ?_, hr2⟩
    rw [List.map_cons, Instr.fill, hpl i off fu hf]
    have hfit : ¬ (((Act.eval ⟨T, []⟩ o).cells.size ≠ fu.cells || decide (off + (Act.eval ⟨T, []⟩ o).cells.size > (c1 ++ c2 ++ c3).toArray.size)) = true) := by
     simp only [hsz, List.size_toArray, List.length_append, hl1, hl2, hvl]
     simp
    simp only []
    rw [if_neg hfit]
    have hlay := lay_part0 (Act.eval ⟨T, []⟩ o).cells.toList c1 c3 c2 hl2
    rw [hl1, Array.toArray_toList] at hlay
    rw [hlay]
    exact hf'
   ·cases hm
  ·cases hm
end Go.Ev
namespace Go.Ev
open Go Go.RowKit
variable [Dr]
variable {cx : Cx} {m : Nat -> Value} {st : St} {T : Array Value} {w w' : World}
theorem loSV_sound (h : Rm cx m st T w) {lo : Option Operand} {l : Int} (hs : evP.loSV st lo = some l) :
  (lo.map (Act.eval ⟨T, []⟩) = none /\ l = 0) \/ ∃ k, lo.map (Act.eval ⟨T, []⟩) = some (.int k l) := by
 cases lo with
 | none => cases hs; exact .inl ⟨rfl, rfl⟩
 | some x => obtain ⟨k, hk⟩ := intOf?_sound h hs; exact .inr ⟨k, by simp [hk]⟩
theorem hiSV_sound (h : Rm cx m st T w) {hi : Option Operand} {n : Nat} {l : Int} (hs : evP.hiSV st hi n = some l) :
  (hi.map (Act.eval ⟨T, []⟩) = none /\ l = n) \/ ∃ k, hi.map (Act.eval ⟨T, []⟩) = some (.int k l) := by
 cases hi with
 | none => cases hs; exact .inl ⟨rfl, rfl⟩
 | some x => obtain ⟨k, hk⟩ := intOf?_sound h hs; exact .inr ⟨k, by simp [hk]⟩
theorem vptr_holds {M : Nat -> Prop} {v : Value} {t : Ty} {x : t.el} (h : repS w M m v (.vptr t x)) : ∃ a, v = .pointer (some a) /\ Holds w M a t x := by
 obtain ⟨a, cells, e, h1, h2⟩ := h
 exact ⟨a, e, cells, h1, h2⟩
theorem holds_vptr {M : Nat -> Prop} {a : Addr} {t : Ty} {x : t.el} (h : Holds w M a t x) : repS w M m (.pointer (some a)) (.vptr t x) := by
 obtain ⟨cells, h1, h2⟩ := h
 exact ⟨a, cells, rfl, h1, h2⟩
theorem sub?_len {α : Type} {s r : List α} {lo hi : Int} (h : sub? s lo hi = some r) : r.length <= s.length := by
 obtain ⟨_, _, _, rfl⟩ := sub?_some h
 rw [List.length_drop, List.length_take]
 omega
theorem convS_sound {cx : Cx} {m : Nat -> Value} {st : St} {T : Array Value} {w : World} (h : Rm cx m st T w) {o : Oper} {src dst : TypeId} {x : Operand} (hop : o.op = .convert src dst x) {orc : List TV} {pr : PR} (hev : convS cx.P st src dst x orc = some pr) (hob : allP pr.ob) :
  ∃ v, Does cx T w o v /\ repS w (Mut cx m st.ids) m v pr.sv := by
 have key : ∀ s, (getSV st x).map (thaw st) = some s -> repS w (fun _ => False) m (Act.eval ⟨T, []⟩ x) s := by
  intro s hs
  obtain ⟨s0, h1, h2⟩ := Option.map_eq_some_iff.1 hs
  rw [<- h2]
  exact thaw_sound h (za6 h h1)
 unfold convS at hev
 split at hev
 ·rename_i xs e hx hs hd
  split at hev
  ·rename_i he
   cases hev
   obtain ⟨h1, h2⟩ := conv_bytes hs he hd (key _ hx)
   exact ⟨_, Does.of (by simp only [execOp, hop]) h1, za2.2 ⟨rfl, h2⟩⟩
  ·cases hev
 ·rename_i xs e hx hs hd
  split at hev
  ·rename_i he
   cases hev
   have h1 := conv_runes hs he hd (key _ hx)
   exact ⟨_, Does.of (by simp only [execOp, hop]) h1, za2.2 ⟨rfl, Nat.le_trans hob.1 lim_max⟩⟩
  ·cases hev
 ·cases hev
theorem isNilC_eq {y : Operand} (h : isNilC y = true) : y = .const .nilIface := by
 cases y with
 | const c => cases c <;> first | rfl | (simp [isNilC] at h)
 | _ => simp [isNilC] at h
theorem equal_nn {P : Program} {t : TypeId} {ms} (hu : P.underlying t = some (.interface ms)) (w : World) : (Op.equal t .nilIface .nilIface).run P w = .ok true w := by
 unfold Op.equal Op.maxDepth
 rw [Op.equalIn]
 simp only [Sem.run_bind, run_underlying hu, Result.andThen_ok]
 rfl
theorem equal_in {P : Program} {t u : TypeId} {v : Value} {ms} (hu : P.underlying t = some (.interface ms)) (w : World) : (Op.equal t (.iface u v) .nilIface).run P w = .ok false w := by
 unfold Op.equal Op.maxDepth
 rw [Op.equalIn]
 simp only [Sem.run_bind, run_underlying hu, Result.andThen_ok]
 rfl
theorem equal_ni {P : Program} {t u : TypeId} {v : Value} {ms} (hu : P.underlying t = some (.interface ms)) (w : World) : (Op.equal t .nilIface (.iface u v)).run P w = .ok false w := by
 unfold Op.equal Op.maxDepth
 rw [Op.equalIn]
 simp only [Sem.run_bind, run_underlying hu, Result.andThen_ok]
 rfl
theorem binOp_eql_of {P : Program} {t : TypeId} {vx vy : Value} {b : Bool} (hs : binOp .eql t vx vy = (do pure (.bool (<- Op.equal t vx vy)))) (h : ∀ w, (Op.equal t vx vy).run P w = .ok b w) (w : World) : (binOp .eql t vx vy).run P w = .ok (.bool b) w := by
 rw [hs, Sem.run_bind, h w]; rfl
theorem binOp_neq_of {P : Program} {t : TypeId} {vx vy : Value} {b : Bool} (hs : binOp .neq t vx vy = (do pure (.bool (!(<- Op.equal t vx vy))))) (h : ∀ w, (Op.equal t vx vy).run P w = .ok b w) (w : World) : (binOp .neq t vx vy).run P w = .ok (.bool (!b)) w := by
 rw [hs, Sem.run_bind, h w]; rfl
theorem binErr_sound {P : Program} {M : Nat -> Prop} {op : BinOp} {t : TypeId} {x y : TV} {vx vy : Value} {ox oy : Operand} {r : Bool} {ob : List Prop} (hx : repV w M vx x.t x.x) (hy : repV w M vy y.t y.x)
  (hc : oy = .const .nilIface -> vy = .nilIface) (h : binErr P op t oy x y = some (r, ob)) (hob : allP ob) :
  ∃ v, Gives P (do eqGuard op t ox oy vx vy; binOp op t vx vy) v /\ ∀ w M, repV w M v .bool r := by
 have fin : ∀ (b : Bool) (ob0 : List Prop), binErr.neg op b ob0 = some (r, ob) -> (∀ w, (eqGuard .eql t ox oy vx vy).run P w = .ok () w) -> (∀ w, (eqGuard .neq t ox oy vx vy).run P w = .ok () w) ->
   (∀ w, (binOp .eql t vx vy).run P w = .ok (.bool b) w) -> (∀ w, (binOp .neq t vx vy).run P w = .ok (.bool (!b)) w) -> ∃ v, Gives P (do eqGuard op t ox oy vx vy; binOp op t vx vy) v /\ ∀ w M, repV w M v .bool r := by
  intro b ob0 h g1 g2 b1 b2
  unfold binErr.neg at h
  split at h
  ·cases h; exact ⟨_, fun w => by rw [Sem.run_bind, g1 w]; exact b1 w, fun _ _ => za1.2 rfl⟩
  ·cases h; exact ⟨_, fun w => by rw [Sem.run_bind, g2 w]; exact b2 w, fun _ _ => za1.2 rfl⟩
  ·cases h
 have ob0 : ∀ (b : Bool) (o : List Prop), binErr.neg op b o = some (r, ob) -> ob = o := by
  intro b o h
  unfold binErr.neg at h
  split at h <;> cases h <;> rfl
 unfold binErr at h
 split at h
 ·rename_i a b
  have hx := (za3 (t := .err) rfl).1 hx
  have hy := (za3 (t := .err) rfl).1 hy
  split at h
  ·rename_i ms hu hn
   have e1 := isNilC_eq hn
   have e2 := hc e1
   subst e1
   subst e2
   rcases hx with ⟨rfl, e⟩ | ⟨rfl, u, v, e⟩ | ⟨u, n, rfl, e⟩ <;> simp only [List.cons.injEq, and_true] at e <;> subst e
   ·exact fin _ _ h (fun w => by cases ox <;> rfl) (fun w => by cases ox <;> rfl) (binOp_eql_of rfl (equal_nn hu)) (binOp_neq_of rfl (equal_nn hu))
   ·exact fin _ _ h (fun w => rfl) (fun w => rfl) (binOp_eql_of rfl (equal_in hu)) (binOp_neq_of rfl (equal_in hu))
   ·exact fin _ _ h (fun w => rfl) (fun w => rfl) (binOp_eql_of rfl (equal_in hu)) (binOp_neq_of rfl (equal_in hu))
  ·rename_i ms hu hn
   split at h
   ·rename_i u m hb
    have hb : b = some (some (u, m)) := hb
    subst hb
    have hy : vy = .iface u (.int .i64 m) := by
     rcases hy with ⟨e, _⟩ | ⟨e, _⟩ | ⟨u', n', e, e2⟩
     ·cases e
     ·cases e
     ·cases e; simpa using e2
    subst hy
    split at h
    ·rename_i i k hi hui
     cases hcp : i.comparable with
     | false => rw [hcp] at h; cases h
     | true =>
      rw [hcp, cond_true] at h
      have := ob0 _ _ h
      subst this
      have ha := hob.1
      have hti : ∀ w, (typeInfo u).run P w = .ok i w := fun w => run_typeInfo w hi
      rcases hx with ⟨rfl, e⟩ | ⟨rfl, _⟩ | ⟨u', n, rfl, e⟩
      ·simp only [List.cons.injEq, and_true] at e; subst e
       exact fin _ _ h (fun w => rfl) (fun w => rfl) (binOp_eql_of rfl (equal_ni hu)) (binOp_neq_of rfl (equal_ni hu))
      ·exact absurd rfl ha
      ·simp only [List.cons.injEq, and_true] at e; subst e
       have key : ∀ w, (Op.equal t (.iface u' (.int .i64 n)) (.iface u (.int .i64 m))).run P w = .ok (errIs (some (some (u', n))) u m) w := by
        intro w
        unfold Op.equal Op.maxDepth
        rw [Op.equalIn]
        simp only [Sem.run_bind, run_underlying hu, Result.andThen_ok]
        by_cases hq : u' = u
        ·subst hq
         simp only [ne_eq, not_true_eq_false, if_false, Sem.run_bind, hti, Result.andThen_ok, hcp, Bool.not_true, Bool.false_eq_true]
         rw [run_equalIn_int (h := hui)]
         simp [errIs]
        ·simp [hq, errIs, Sem.run_pure]
       exact fin _ _ h (fun w => rfl) (fun w => rfl) (binOp_eql_of rfl key) (binOp_neq_of rfl key)
    ·cases h
   ·cases h
  ·cases h
 ·cases h
theorem mx2_sound (h : Rm cx m st T w) {mx : Bool} {args : Array Operand} {r : TV} (hr : mx2 st mx args.toList = some r) :
  ∃ x y k a b, args = #[x, y] /\ Act.eval ⟨T, []⟩ x = .int k a /\ Act.eval ⟨T, []⟩ y = .int k b /\ r = ⟨.int k, bif mx then mxI a b else mnI a b⟩ := by
 unfold mx2 at hr
 split at hr
 ·rename_i x y he
  split at hr
  ·rename_i k a k' b hx hy
   cases hk : kbeq k k' with
   | false => rw [hk] at hr; cases hr
   | true =>
    rw [hk, cond_true] at hr
    cases hr
    obtain rfl := keq hk
    exact ⟨x, y, k, a, b, by rw [<- Array.toArray_toList (xs := args), he], za0.1 (za7 h hx), za0.1 (za7 h hy), rfl⟩
  ·cases hr
 ·cases hr
set_option maxHeartbeats 1000000 in
theorem evP_sound (h : Rm cx m st T w) {o : Oper} {orc : List TV} {pr : PR} (hev : evP cx.P st o.op orc = some pr) (hob : allP pr.ob) :
  ∃ v, Does cx T w o v /\ repS w (Mut cx m st.ids) m v pr.sv := by
 cases hop : o.op <;> rw [hop] at hev
 case move x =>
  simp only [evP] at hev
  split at hev
  ·rename_i s hs
   cases hev
   exact ⟨_, fun w' _ => by simp [execOp, hop], za6 h hs⟩
  ·cases hev
 case assign x =>
  simp only [evP] at hev
  split at hev
  ·rename_i s hs
   cases hev
   exact ⟨_, fun w' _ => by simp [execOp, hop], za6 h hs⟩
  ·cases hev
 case pick c a b =>
  simp only [evP] at hev
  split at hev
  ·rename_i hc
   have hcv := za1.1 (za7 h hc)
   split at hev
   ·rename_i s hs
    cases hev
    refine ⟨_, fun w' _ => ?_, za6 h hs⟩
    simp [execOp, hop, hcv, asBool]
   ·cases hev
  ·rename_i hc
   have hcv := za1.1 (za7 h hc)
   split at hev
   ·rename_i s hs
    cases hev
    refine ⟨_, fun w' _ => ?_, za6 h hs⟩
    simp [execOp, hop, hcv, asBool]
   ·cases hev
  ·cases hev
 case binOp op t x y t' =>
  simp only [evP] at hev
  split at hev
  ·rename_i a b ha hb
   split at hev
   ·rename_i r ob hr
    cases hev
    obtain ⟨v, h1, h2⟩ := bin_sound (ox := x) (oy := y) (za7 h ha) (za7 h hb) hr hob
    exact ⟨v, Does.of (by simp only [execOp, hop]) h1.steady, h2 _ _⟩
   ·split at hev
    ·rename_i r ob hr
     cases hev
     obtain ⟨v, h1, h2⟩ := binErr_sound (ox := x) (oy := y) (za7 h ha) (za7 h hb) (fun hy => by subst hy; rfl) hr hob
     exact ⟨v, Does.of (by simp only [execOp, hop]) h1.steady, h2 _ _⟩
    ·cases hev
  ·cases hev
 case unOp op t x =>
  simp only [evP] at hev
  split at hev
  ·rename_i a ha
   split at hev
   ·rename_i r hr
    cases hev
    obtain ⟨v, h1, h2⟩ := un_sound (P := cx.P) (za7 h ha) hr
    exact ⟨v, Does.of (by simp only [execOp, hop]) h1.steady, h2 _ _⟩
   ·cases hev
  ·cases hev
 case convert src dst x =>
  simp only [evP] at hev
  split at hev
  ·rename_i a ha
   split at hev
   ·rename_i r hr
    cases hev
    obtain ⟨v, h1, h2⟩ := conv_sound (za7 h ha) hr
    exact ⟨v, Does.of (by simp only [execOp, hop]) h1.steady, h2 _ _⟩
   ·exact convS_sound h hop hev hob
  ·exact convS_sound h hop hev hob
 case index t x i =>
  simp only [evP] at hev
  split at hev
  ·rename_i s n b orc' hx hi ht
   cases hev
   obtain ⟨k, hk⟩ := intOf?_sound h hi
   obtain ⟨hv, _⟩ := za2.1 (za7 h hx)
   refine ⟨.int .u8 b, Does.of (s := Instr.index t (.string (bytesOf s)) (.int k n)) (by simp only [execOp, hop, hv, hk]; rfl) (index_sound ht hob.1).steady, za0.2 rfl⟩
  ·rename_i k u xs n v orc' k' e hx hi ht
   split at hev
   ·rename_i u' y hb hte hy
    cases hb2 : u.beq u' <;> rw [hb2] at hev <;> cases hev
    obtain rfl := Nat.eq_of_beq_eq_true hb
    obtain rfl := Ty.eq_of_beq hb2
    obtain ⟨q, hq⟩ := intOf?_sound h hi
    obtain ⟨h0, h1, h2⟩ := at?_some hob.1
    obtain ⟨cs, hv, hr1, hr2⟩ := (za4 (t := .arr k u) rfl).1 (za7 h hx)
    obtain ⟨c1, c2, c3, rfl, hl, hr⟩ := repL_nth hr2 h2
    obtain ⟨r, hp, hrep⟩ := part_all hte (pre := c1) (post := c3) hr
    refine ⟨r, Does.of (s := Instr.index t (.agg (c1 ++ c2 ++ c3).toArray) (.int q n)) (by simp only [execOp, hop, hv, hq]) (fun w' _ => ?_), hrep⟩
    have hlt : n < (k : Int) := by rw [<- hr1]; exact h1
    simp only [Instr.index, asIntOf, Sem.run_bind, Sem.run_pure, Result.andThen_ok, run_underlying ht]
    rw [if_pos ⟨h0, hlt⟩]
    simp only [Sem.run_bind, zaw hte, Result.andThen_ok]
    have := hp w'
    rw [hl] at this
    exact this
   ·cases hev
  ·cases hev
 case field t x f =>
  simp only [evP] at hev
  split at hev
  ·rename_i a off u ha hf
   split at hev
   ·rename_i y hag hg
    cases hev
    obtain ⟨r, h1, h2⟩ := field_run hf hag (za7 h ha) hg
    exact ⟨r, Does.of (by simp only [execOp, hop]) h1.steady, h2⟩
   ·cases hev
  ·cases hev
 case build t parts =>
  simp only [evP] at hev
  split at hev
  ·rename_i u i hu hi
   split at hev
   ·rename_i z hz hst
    have hag := Ty.isSt_agg hst
    split at hev
    ·rename_i y hzc hmk
     cases hev
     obtain ⟨c0, hc0, hr0⟩ := zeroChk_rep (w := w) (M := Mut cx m st.ids) u hzc
     rw [List.append_nil] at hc0
     obtain ⟨i', hi', hsz, hf⟩ := zav hu
     have hstruct : ∃ fs d', cx.P.underlying t = some (.struct fs) /\ fieldsOf (tyOf cx.P d') 0 fs.toList = some u := by
      cases u <;> first | exact hf | (simp [Ty.isSt] at hst)
     obtain ⟨fs, d', hfs, hfo⟩ := hstruct
     obtain ⟨cs', hfill, hrep⟩ := fill_sound hfs h rfl (place := fun k => (fs.map fun f => (f.offset, cx.P.cellsOf f.type))[k]?) (fun k off fu hfi => by
      obtain ⟨fs2, fd, h1, h2, h3, h4, h5⟩ := fieldInfo_facts hfi
      have : fs2 = fs := by rw [hfs] at h1; cases h1; rfl
      subst this
      obtain ⟨i3, hi3, hs3, _⟩ := zav h3
      rw [Array.getElem?_map, h2]
      simp [h4, Program.cellsOf, hi3, hs3]) parts.toList (zeroEl u) y c0 hr0 hmk
     refine ⟨.agg cs'.toArray, Does.of (by simp only [execOp, hop]) (s := Instr.build t (parts.map fun p => (p.1, Act.eval ⟨T, []⟩ p.2))) ?_, (za4 hag).2 ⟨cs', rfl, hrep⟩⟩
     intro w' _
     have hc0' : z.cells = c0.toArray := by rw [<- hc0]
     refine run_build w' t _ _ ?_
     unfold Program.built
     simp only [hi, hfs, hz, places_of fs.toList (fun f hf => fieldsOf_size hfo f hf)]
     rw [hc0', Array.toList_map, <- hfill]
     congr 1
     funext k
     simp
    ·cases hev
   ·cases hev
  ·cases hev
 case extract x i =>
  simp only [evP] at hev
  split at hev
  ·rename_i l hx
   split at hev
   ·rename_i v hv
    cases hev
    obtain ⟨vs, hvs, hr⟩ := za6 h hx
    have key : ∀ (vs : List Value) (l : List TV) (i : Nat) (u : TV), repVs w (Mut cx m st.ids) vs l -> l[i]? = some u -> ∃ v, vs[i]? = some v /\ repV w (Mut cx m st.ids) v u.t u.x := by
     intro vs
     induction vs with
     | nil => intro l i u hr hu; cases l with
      | nil => simp at hu
      | cons _ _ => exact hr.elim
     | cons v vs ih => intro l i u hr hu; cases l with
      | nil => exact hr.elim
      | cons u' l => cases i with
       | zero => simp at hu; subst hu; exact ⟨v, rfl, hr.1⟩
       | succ i => exact ih l i u hr.2 (by simpa using hu)
    obtain ⟨v', h1, h2⟩ := key vs l i v hr hv
    refine ⟨v', fun w' _ => ?_, h2⟩
    simp only [execOp, hop, hvs, Instr.extract]
    rw [List.getElem?_toArray, h1]
    rfl
   ·cases hev
  ·rename_i l hx
   have key : ∀ (vs : List Value) (l : List TR) (i : Nat) (u : TR), repTRs w (Mut cx m st.ids) m vs l -> l[i]? = some u -> ∃ v, vs[i]? = some v /\ (match u with | .v u => repV w (Mut cx m st.ids) v u.t u.x | .r r => v = m r | .a => True) := by
    intro vs
    induction vs with
    | nil => intro l i u hr hu; cases l with
     | nil => simp at hu
     | cons _ _ => exact hr.elim
    | cons v vs ih => intro l i u hr hu; cases l with
     | nil => exact hr.elim
     | cons u' l => cases i with
      | zero => simp at hu; subst hu; cases u' with
       | v _ => exact ⟨v, rfl, hr.1⟩
       | r _ => exact ⟨v, rfl, hr.1⟩
       | a => exact ⟨v, rfl, trivial⟩
      | succ i => cases u' with
       | v _ => exact ih l i u hr.2 (by simpa using hu)
       | r _ => exact ih l i u hr.2 (by simpa using hu)
       | a => exact ih l i u hr (by simpa using hu)
   obtain ⟨vs, hvs, hr⟩ := za6 h hx
   split at hev
   ·rename_i v hv
    cases hev
    obtain ⟨v', h1, h2⟩ := key vs l i _ hr hv
    refine ⟨v', fun w' _ => ?_, h2⟩
    simp only [execOp, hop, hvs, Instr.extract]
    rw [List.getElem?_toArray, h1]
    rfl
   ·rename_i r hv
    cases hev
    obtain ⟨v', h1, h2⟩ := key vs l i _ hr hv
    refine ⟨v', fun w' _ => ?_, ?_⟩
    ·simp only [execOp, hop, hvs, Instr.extract]
     rw [List.getElem?_toArray, h1]
     rfl
    ·show repS _ _ _ _ _
     split
     ·rename_i l e hl
      obtain ⟨g, hg, _⟩ := h.box (zak hl)
      have h2 : v' = m r := h2
      exact ⟨g, hg, h2.trans hg⟩
     ·rename_i t x e hl
      obtain ⟨g, hg, _⟩ := h.box (zak hl)
      have h2 : v' = m r := h2
      exact ⟨g, hg, h2.trans hg⟩
     ·exact h2
     ·exact h2
   ·rename_i hv
    cases hev
    obtain ⟨v', h1, _⟩ := key vs l i _ hr hv
    refine ⟨v', fun w' _ => ?_, trivial⟩
    simp only [execOp, hop, hvs, Instr.extract]
    rw [List.getElem?_toArray, h1]
    rfl
   ·cases hev
  ·cases hev
 case nilCheck x =>
  simp only [evP] at hev
  split at hev
  ·rename_i b off hx
   cases hev
   have hv := za6 h hx
   obtain ⟨g, h1, h2⟩ := hv
   exact ⟨_, fun w' _ => by simp only [execOp, hop, h2]; rfl, g, h1, h2⟩
  ·rename_i t y hx
   cases hev
   have hv := za6 h hx
   obtain ⟨a, h1, h2⟩ := vptr_holds hv
   exact ⟨_, fun w' _ => by simp only [execOp, hop, h1]; rfl, h1 ▸ hv⟩
  ·rename_i r i off sz hx
   cases hev
   have hv := za6 h hx
   obtain ⟨g, n, cap, h1, h2⟩ := hv
   exact ⟨_, fun w' _ => by simp only [execOp, hop, h2]; rfl, g, n, cap, h1, h2⟩
  ·rename_i b p hx
   cases hev
   have hv := za6 h hx
   obtain ⟨g, h1, h2⟩ := hv
   exact ⟨_, fun w' _ => by simp only [execOp, hop, h2]; rfl, g, h1, h2⟩
  ·cases hev
 case fieldAddr t x f =>
  simp only [evP] at hev
  split at hev
  ·rename_i b off fo fu hx hf
   cases hev
   obtain ⟨g, h1, h2⟩ := za6 h hx
   refine ⟨.pointer (some ⟨g, off + fo, none⟩), Does.of (by simp only [execOp, hop]) (s := Instr.fieldAt t (Act.eval ⟨T, []⟩ x) f) ?_, g, h1, rfl⟩
   intro w' _
   rw [h2, zbc hf, add_mk]
  ·rename_i u y fo fu hx hf
   split at hev
   ·rename_i z hz
    cases hev
    obtain ⟨a, h1, h2⟩ := vptr_holds (za6 h hx)
    refine ⟨.pointer (some (a.add fo)), Does.of (by simp only [execOp, hop]) (s := Instr.fieldAt t (Act.eval ⟨T, []⟩ x) f) ?_, holds_vptr (h2.part hz)⟩
    intro w' _
    rw [h1, zbc hf]
   ·cases hev
  ·rename_i r i off sz fo fu hx hf
   cases hev
   obtain ⟨g, n, cap, h1, h2⟩ := za6 h hx
   refine ⟨.pointer (some ⟨g, i.toNat * sz + (off + fo), none⟩), Does.of (by simp only [execOp, hop]) (s := Instr.fieldAt t (Act.eval ⟨T, []⟩ x) f) ?_, g, n, cap, h1, rfl⟩
   intro w' _
   rw [h2, zbc hf, add_mk, Nat.add_assoc]
  ·rename_i b p fo fu hx hf
   cases hev
   obtain ⟨g, h1, h2⟩ := za6 h hx
   refine ⟨.pointer (some ⟨g, poff (p ++ [.f fo fu]), none⟩), Does.of (by simp only [execOp, hop]) (s := Instr.fieldAt t (Act.eval ⟨T, []⟩ x) f) ?_, g, h1, rfl⟩
   intro w' _
   rw [h2, zbc hf, add_mk, poff_append]
   rfl
  ·cases hev
 case indexAddr t x i =>
  simp only [evP] at hev
  split at hev
  ·rename_i u xs n u' v orc' hx hi ht
   split at hev
   ·rename_i y hb hy
    cases hev
    obtain ⟨k, hk⟩ := intOf?_sound h hi
    obtain ⟨h0, h1, h2⟩ := at?_some hob.1
    obtain ⟨a, cap, cells, hc, hcap, _, hnil, hL, hcell⟩ := (za3 (t := .sl u) rfl).1 (za6 h hx)
    simp only [List.cons.injEq, and_true] at hc
    obtain ⟨c1, c2, c3, rfl, hl, hr⟩ := repL_nth hL h2
    obtain ⟨_, _, _, te, d', hte, hty⟩ := zav ht
    obtain rfl := Ty.eq_of_beq hb
    have hne : ∃ b, a = some b := by
     cases a with
     | some b => exact ⟨b, rfl⟩
     | none =>
      have h3 : cap = 0 := hnil rfl
      have h4 : (List.length xs : Int) <= cap := by exact_mod_cast hcap
      have h5 : n < ((List.length xs : Nat) : Int) := h1
      omega
    obtain ⟨b, rfl⟩ := hne
    refine ⟨.pointer (some (b.add (n.toNat * u.cells))), Does.of (by simp only [execOp, hop]) (s := Instr.indexAt t (Act.eval ⟨T, []⟩ x) (Act.eval ⟨T, []⟩ i)) ?_, ?_⟩
    ·intro w' _
     have hlt : n < ((List.length xs : Nat) : Int) := h1
     simp only [hc, hk, Instr.indexAt, asIntOf, Sem.run_bind, Sem.run_pure, Result.andThen_ok, run_underlying hte]
     rw [if_pos ⟨h0, hlt⟩]
     simp only [Sem.run_bind, zaw hty, Result.andThen_ok, Sem.run_pure]
    ·refine holds_vptr ⟨c2, hr, fun j v hj => ?_⟩
     have hj2 := (List.getElem?_eq_some_iff.1 hj).1
     have hk2 : (c1 ++ c2 ++ c3)[n.toNat * u.cells + j]? = some v := by
      rw [List.append_assoc, List.getElem?_append_right (by omega), List.getElem?_append_left (by omega), <- hj]
      congr 1
      omega
     obtain ⟨b', hb1, hb2, hb3⟩ := hcell _ _ hk2
     cases hb1
     exact ⟨by rw [add_add]; exact hb2, by rw [zae]; exact hb3⟩
   ·cases hev
  ·rename_i r n u' v orc' hx hi ht
   split at hev
   ·rename_i c hc
    split at hev
    ·rename_i y hb hy
     cases hev
     obtain ⟨k, hk⟩ := intOf?_sound h hi
     obtain ⟨h0, h1, h2⟩ := at?_some hob.1
     obtain ⟨_, _, _, te, d', hte, hty⟩ := zav ht
     have hty' : tyOf cx.P d' te = some c.t := by rw [Ty.eq_of_beq hb]; exact hty
     have hv : Act.eval ⟨T, []⟩ x = m r := za6 h hx
     obtain ⟨cells, hown, _⟩ := h.rows r c (zak hc)
     rcases hown.2 with ⟨hn, hz⟩ | ⟨g, cap, cur, hn, _⟩
     ·omega
     ·refine ⟨.pointer (some ⟨g, n.toNat * c.t.cells + 0, none⟩), Does.of (by simp only [execOp, hop]) (s := Instr.indexAt t (Act.eval ⟨T, []⟩ x) (Act.eval ⟨T, []⟩ i)) ?_, g, _, cap, hn, rfl⟩
      intro w' _
      simp only [hv, hn, hk, Instr.indexAt, asIntOf, Sem.run_bind, Sem.run_pure, Result.andThen_ok, run_underlying hte]
      rw [if_pos ⟨h0, h1⟩]
      simp only [Sem.run_bind, zaw hty', Result.andThen_ok, Sem.run_pure, add_mk, Nat.zero_add, Nat.add_zero]
    ·cases hev
   ·cases hev
  ·rename_i k u xs n k' u' v orc' hx hi ht
   split at hev
   ·rename_i y hb hy
    cases hev
    simp only [Bool.and_eq_true] at hb
    obtain rfl := Nat.eq_of_beq_eq_true hb.1
    obtain rfl := Ty.eq_of_beq hb.2
    obtain ⟨q, hq⟩ := intOf?_sound h hi
    obtain ⟨h0, h1, h2⟩ := at?_some hob.1
    obtain ⟨_, _, _, e, d', hu, hu'⟩ := zav ht
    obtain ⟨a, hv, cs, ⟨hr1, hr2⟩, hcell⟩ := vptr_holds (za6 h hx)
    obtain ⟨c1, c2, c3, rfl, hl, hr⟩ := repL_nth hr2 h2
    refine ⟨.pointer (some (a.add (n.toNat * u.cells))), Does.of (by simp only [execOp, hop]) (s := Instr.indexAt t (Act.eval ⟨T, []⟩ x) (Act.eval ⟨T, []⟩ i)) (fun w' _ => ?_), ?_⟩
    ·rw [hv, hq]
     exact indexAt_arr hu hu' h0 (by rw [<- hr1]; exact h1) w'
    ·refine holds_vptr ⟨c2, hr, fun j v hj => ?_⟩
     have hj2 := (List.getElem?_eq_some_iff.1 hj).1
     have hk2 : (c1 ++ c2 ++ c3)[n.toNat * u.cells + j]? = some v := by
      rw [List.append_assoc, List.getElem?_append_right (by omega), List.getElem?_append_left (by omega), <- hj]
      congr 1
      omega
     obtain ⟨hb2, hb3⟩ := hcell _ _ hk2
     exact ⟨by rw [add_add]; exact hb2, by rw [zae]; exact hb3⟩
   ·cases hev
  ·rename_i b p n len u hx hi ht
   cases hev
   obtain ⟨q, hq⟩ := intOf?_sound h hi
   obtain ⟨_, _, _, e, d', hu, hu'⟩ := zav ht
   obtain ⟨g, hg1, hg2⟩ := za6 h hx
   refine ⟨.pointer (some ⟨g, poff (p ++ [.x n u.cells]), none⟩), Does.of (by simp only [execOp, hop]) (s := Instr.indexAt t (Act.eval ⟨T, []⟩ x) (Act.eval ⟨T, []⟩ i)) (fun w' _ => ?_), g, hg1, rfl⟩
   rw [hg2, hq, indexAt_arr hu hu' hob.1.1 hob.1.2 w', add_mk, poff_append]
   rfl
  ·rename_i b off n len u hx hi ht
   cases hb : (decide (0 <= n) && decide (n < (len : Int))) <;> rw [hb] at hev <;> cases hev
   simp only [Bool.and_eq_true, decide_eq_true_eq] at hb
   obtain ⟨q, hq⟩ := intOf?_sound h hi
   obtain ⟨_, _, _, e, d', hu, hu'⟩ := zav ht
   obtain ⟨g, hg1, hg2⟩ := za6 h hx
   refine ⟨.pointer (some ⟨g, off + n.toNat * u.cells, none⟩), Does.of (by simp only [execOp, hop]) (s := Instr.indexAt t (Act.eval ⟨T, []⟩ x) (Act.eval ⟨T, []⟩ i)) (fun w' _ => ?_), g, hg1, rfl⟩
   rw [hg2, hq, indexAt_arr hu hu' hb.1 hb.2 w', add_mk]
  ·rename_i r i0 off0 sz n len u hx hi ht
   split at hev
   ·rename_i c hc
    split at hev
    ·rename_i v orc2 hb
     split at hev
     ·rename_i y hy
      cases hev
      simp only [Bool.and_eq_true, beq_iff_eq] at hb
      obtain ⟨hb1, hb2, hb3, hb4⟩ := hb
      have hb3 := Nat.eq_of_beq_eq_true hb3
      have hb4 := Nat.eq_of_beq_eq_true hb4
      obtain ⟨k, hk⟩ := intOf?_sound h hi
      obtain ⟨h0, h1, h2⟩ := at?_some hob.1
      have hlen : c.xs.length = len := hob.2.1
      obtain ⟨_, _, _, e, d', hu, hu'⟩ := zav ht
      obtain rfl := Ty.eq_of_beq hb1
      obtain ⟨g, n0, cap, hn, hv⟩ := za6 h hx
      have hv : Act.eval ⟨T, []⟩ x = .pointer (some ⟨g, 0, none⟩) := by rw [hv, hb2, hb3]; simp
      refine ⟨.pointer (some ⟨g, n.toNat * c.t.cells + 0, none⟩), Does.of (by simp only [execOp, hop]) (s := Instr.indexAt t (Act.eval ⟨T, []⟩ x) (Act.eval ⟨T, []⟩ i)) (fun w' _ => ?_), g, _, cap, hn, rfl⟩
      have hlt : n < (len : Int) := by rw [<- hlen]; exact h1
      rw [hv, hk, indexAt_arr hu hu' h0 hlt w', add_mk, Nat.zero_add, Nat.add_zero]
     ·cases hev
    ·cases hev
    ·rename_i orc2 hb0
     cases hb : (decide (0 <= n) && decide (n < (len : Int))) <;> rw [hb] at hev <;> cases hev
     simp only [Bool.and_eq_true, decide_eq_true_eq] at hb
     obtain ⟨q, hq⟩ := intOf?_sound h hi
     obtain ⟨_, _, _, e, d', hu, hu'⟩ := zav ht
     obtain ⟨g, n0, cap, hn, hv⟩ := za6 h hx
     refine ⟨.pointer (some ⟨g, i0.toNat * sz + (off0 + n.toNat * u.cells), none⟩), Does.of (by simp only [execOp, hop]) (s := Instr.indexAt t (Act.eval ⟨T, []⟩ x) (Act.eval ⟨T, []⟩ i)) (fun w' _ => ?_), g, _, cap, hn, rfl⟩
     rw [hv, hq, indexAt_arr hu hu' hb.1 hb.2 w', add_mk, Nat.add_assoc]
   ·cases hev
  ·cases hev
 case load t x =>
  simp only [evP] at hev
  split at hev
  ·rename_i u y u' hx ht
   split at hev
   ·rename_i hb hz
    cases hev
    obtain ⟨a, h1, h2⟩ := vptr_holds (za6 h hx)
    have hp : 0 < u.cells := Nat.pos_of_ne_zero (zao hz)
    obtain rfl := Ty.eq_of_beq hb
    obtain ⟨v, h3, h4⟩ := load_sound ht h2 hp
    refine ⟨v, Does.of (by simp only [execOp, hop]) (s := Instr.loadAt t (Act.eval ⟨T, []⟩ x)) ?_, h4⟩
    intro w' he
    simp only [Instr.loadAt, h1, Instr.sureAddr, Sem.run_bind, Sem.run_pure, Result.andThen_ok]
    exact h3 w' he
   ·cases hev
  ·cases hev
 case slice t x lo hi mx =>
  cases mx with
  | some _ => simp only [evP] at hev; cases hev
  | none =>
   simp only [evP] at hev
   split at hev
   ·rename_i s r orc' hx
    split at hev
    ·rename_i l hh ht hl hhi
     cases hev
     obtain ⟨hv, hlen⟩ := za2.1 (za6 h hx)
     have hs := slice_str ht (loSV_sound h hl) (hiSV_sound h hhi) hob.1
     refine ⟨.string (bytesOf r), Does.of (by simp only [execOp, hop, hv]; rfl) hs.steady, za2.2 ⟨rfl, ?_⟩⟩
     exact Nat.le_trans (sub?_len hob.1) hlen
    ·cases hev
   ·rename_i u xs v orc' hx
    split at hev
    ·rename_i u' l hh r ht hl hhi hr
     cases hb : u.beq u' with
     | false => rw [hb] at hev; cases hev
     | true =>
      rw [hb] at hev
      cases hev
      obtain rfl := Ty.eq_of_beq hb
      obtain ⟨_, _, _, te, d', hte, hty⟩ := zav ht
      obtain ⟨v', h1, h2⟩ := slice_val hte hty ((za3 (t := .sl u) rfl).1 (za6 h hx)) (loSV_sound h hl) (hiSV_sound h hhi) hob.1
      exact ⟨v', Does.of (by simp only [execOp, hop]; rfl) h1.steady, (za3 (t := .sl u) rfl).2 h2⟩
    ·cases hev
   ·cases hev
 case call c =>
  simp only [evP] at hev
  split at hev
  ·rename_i c' args ts
   split at hev
   ·rename_i x t hx ht
    split at hev
    ·rename_i s hs
     split at hev
     ·rename_i n hn
      cases hev
      have hl := lenOf_sound h (za6 h hs) hn (ty' := o.type)
      have ea : args = #[x] := by rw [<- Array.toArray_toList (xs := args), hx]
      have et : ts = #[t] := by rw [<- Array.toArray_toList (xs := ts), ht]
      subst ea
      subst et
      refine ⟨.int .i64 n, fun w' he => ?_, za0.2 rfl⟩
      simp only [execOp, hop, resolve, invoke, builtin, Sem.run_bind, Sem.run_pure, Result.andThen_ok, List.map_toArray, List.map_cons, List.map_nil, hl w' he]
     ·cases hev
    ·cases hev
   ·cases hev
  ·rename_i args ts
   split at hev
   ·rename_i r hr
    cases hev
    obtain ⟨x, y, k, a, b, ea, hx, hy, e⟩ := mx2_sound h hr
    subst ea
    subst e
    refine ⟨.int k (mxI a b), fun w' he => ?_, za0.2 rfl⟩
    simp only [execOp, hop, resolve, invoke, builtin, Sem.run_bind, Sem.run_pure, Result.andThen_ok, List.map_toArray, List.map_cons, List.map_nil, hx, hy, run_max_int2]
    rfl
   ·cases hev
  ·rename_i args ts
   split at hev
   ·rename_i r hr
    cases hev
    obtain ⟨x, y, k, a, b, ea, hx, hy, e⟩ := mx2_sound h hr
    subst ea
    subst e
    refine ⟨.int k (mnI a b), fun w' he => ?_, za0.2 rfl⟩
    simp only [execOp, hop, resolve, invoke, builtin, Sem.run_bind, Sem.run_pure, Result.andThen_ok, List.map_toArray, List.map_cons, List.map_nil, hx, hy, run_min_int2]
    rfl
   ·cases hev
  ·cases hev
 case makeInterface t x =>
  simp only [evP] at hev
  cases hc : cx.P.concrete t with
  | false => rw [hc] at hev; cases hev
  | true =>
   rw [hc, cond_true] at hev
   cases hev
   refine ⟨_, Does.of (by simp only [execOp, hop]) (s := Instr.makeInterface t (Act.eval ⟨T, []⟩ x)) (fun w' _ => run_makeInterface w' t _ hc), (za3 (t := .err) rfl).2 ?_⟩
   unfold mkErr
   split
   ·rename_i k n hx
    cases hk : kbeq k .i64 with
    | true =>
     obtain rfl := keq hk
     have := za0.1 (za7 h hx)
     exact .inr (.inr ⟨t, n, rfl, by rw [this]⟩)
    | false => exact .inr (.inl ⟨rfl, _, _, rfl⟩)
   ·exact .inr (.inl ⟨rfl, _, _, rfl⟩)
 case lookup mt x k ok =>
  simp only [evP] at hev
  unfold evLk at hev
  split at hev
  ·rename_i mv kt et key hx hmt hk
   split at hev
   ·rename_i ku vu ky hku hvu hky
    obtain ⟨s, hs, hmv⟩ := Option.bind_eq_some_iff.1 hx
    have hkv := za7 h hk
    have ekey := TV.as_some hky
    subst ekey
    obtain ⟨z, _, hz, hzr'⟩ := zeroV_facts hvu
    have fin : (ku.beq mv.k && vu.beq mv.v && eqOK cx.P 16 kt) = true -> ∃ r, repV w (Mut cx m st.ids) r mv.v ((mget (eqEl mv.k) mv.ps ky).getD (zeroEl mv.v)) /\ ∀ w', Ext w w' -> ∀ ok, (Instr.lookup mt (Act.eval ⟨T, []⟩ x) (Act.eval ⟨T, []⟩ k) ok).run cx.P w' = .ok (if ok then .tuple #[r, .bool (mget (eqEl mv.k) mv.ps ky).isSome] else r) w' := by
     intro hb
     simp only [Bool.and_eq_true] at hb
     have e1 := Ty.eq_of_beq hb.1.1
     have e2 := Ty.eq_of_beq hb.1.2
     subst e1
     subst e2
     rcases mapOf_sound h (za6 h hs) hmv with ⟨hn, hp⟩ | ⟨g, es, clock, hn, hg, hr⟩
     ·obtain ⟨r, h1, h2⟩ := lookup_val (w' := w) (M' := Mut cx m st.ids) (d := dep) (d' := 16) hmt hku hb.2 (by decide) hz hzr' hkv (es := #[]) (ps := mv.ps) (by rw [hp]; trivial)
      exact ⟨r, h1, fun w' _ => h2 w' _ (.inl ⟨hn, rfl⟩)⟩
     ·obtain ⟨r, h1, h2⟩ := lookup_val (d := dep) (d' := 16) hmt hku hb.2 (by decide) hz hzr' hkv hr
      exact ⟨r, h1, fun w' he => h2 w' _ (.inr ⟨g, clock, hn, by rw [he.block g (zad hg)]; exact hg⟩)⟩
    split at hev
    ·rename_i hb
     cases hev
     obtain ⟨r, h1, h2⟩ := fin hb
     exact ⟨.tuple #[r, .bool (mget (eqEl mv.k) mv.ps ky).isSome], Does.of (by simp only [execOp, hop]) (fun w' he => h2 w' he true), [r, .bool (mget (eqEl mv.k) mv.ps ky).isSome], rfl, h1, za1.2 rfl, trivial⟩
    ·rename_i hb
     cases hev
     obtain ⟨r, h1, h2⟩ := fin hb
     exact ⟨r, Does.of (by simp only [execOp, hop]) (fun w' he => h2 w' he false), h1⟩
    ·cases hev
   ·cases hev
  ·cases hev
 all_goals (simp only [evP] at hev; cases hev)
end Go.Ev
namespace Go.Ev
open Go Go.RowKit
variable [Dr]
variable {cx : Cx} {m : Nat -> Value} {st : St} {T : Array Value} {w w' : World}
def leaves : (t : Ty) -> t.el -> List SV
 | .int k, n => [.val (.int k) n]
 | .bool, b => [.val .bool b]
 | .str, s => [.val .str s]
 | .sl t, xs => [.val (.sl t) xs]
 | .unit, _ => []
 | .pair a b, x => leaves a x.1 ++ leaves b x.2
 | .ptr t, x => [.val (.ptr t) x]
 | .fn f t, x => [.val (.fn f t) x]
 | .err, x => [.val .err x]
 | .opq, x => [.val .opq x]
 | .arr _ t, xs => List.flatMap (leaves t) xs
 | .map k v, x => [.val (.map k v) x]
def pack1 (t : Ty) : List SV -> Option (t.el × List SV)
 | .val u x :: r => match TV.as ⟨u, x⟩ t with
  | some y => some (y, r)
  | none => none
 | _ => none
def packL {α : Type} (f : List SV -> Option (α × List SV)) : Nat -> List SV -> Option (List α × List SV)
 | 0, l => some ([], l)
 | n + 1, l => match f l with
  | some (x, r) => match packL f n r with
   | some (xs, r') => some (x :: xs, r')
   | none => none
  | none => none
def pack : (t : Ty) -> List SV -> Option (t.el × List SV)
 | .unit, l => some ((), l)
 | .pair a b, l => match pack a l with
  | some (x, r) => match pack b r with
   | some (y, r') => some ((x, y), r')
   | none => none
  | none => none
 | .int k, l => pack1 (.int k) l
 | .bool, l => pack1 .bool l
 | .str, l => pack1 .str l
 | .sl t, l => pack1 (.sl t) l
 | .ptr t, l => pack1 (.ptr t) l
 | .fn f t, l => pack1 (.fn f t) l
 | .err, l => pack1 .err l
 | .opq, l => pack1 .opq l
 | .arr n t, l => packL (pack t) n l
 | .map k v, l => pack1 (.map k v) l
theorem zbf {M : Nat -> Prop} : ∀ {c1 c2 : List Value} {l1 l2 : List SV}, repSs w M m c1 l1 -> repSs w M m c2 l2 -> repSs w M m (c1 ++ c2) (l1 ++ l2)
 | [], _, [], _, _, h => h
 | [], _, _ :: _, _, h, _ => h.elim
 | _ :: _, _, [], _, h, _ => h.elim
 | _ :: _, _, _ :: _, _, ⟨h1, h2⟩, h => ⟨h1, zbf h2 h⟩
theorem zbg {M : Nat -> Prop} : ∀ {c : List Value} {l : List SV}, repSs w M m c l -> c.length = l.length
 | [], [], _ => rfl
 | [], _ :: _, h => h.elim
 | _ :: _, [], h => h.elim
 | _ :: _, _ :: _, ⟨_, h⟩ => by simp [zbg h]
theorem zbh {M : Nat -> Prop} : ∀ (n : Nat) {c : List Value} {l : List SV}, repSs w M m c l -> repSs w M m (c.take n) (l.take n) /\ repSs w M m (c.drop n) (l.drop n)
 | 0, _, _, h => ⟨trivial, h⟩
 | n + 1, [], [], _ => ⟨trivial, trivial⟩
 | n + 1, [], _ :: _, h => h.elim
 | n + 1, _ :: _, [], h => h.elim
 | n + 1, _ :: _, _ :: _, ⟨h1, h2⟩ => ⟨⟨h1, (zbh n h2).1⟩, (zbh n h2).2⟩
theorem leavesL_rep {M : Nat -> Prop} {t : Ty} (h : ∀ {cs : List Value} {x : t.el}, rep w M t cs x -> repSs w M m cs (leaves t x)) : ∀ {xs : List t.el} {cs : List Value}, repL (rep w M t) cs xs -> repSs w M m cs (xs.flatMap (leaves t))
 | [], _, hh => by cases hh; trivial
 | _ :: _, _, ⟨c1, c2, e, h1, h2⟩ => by subst e; rw [List.flatMap_cons]; exact zbf (h h1) (leavesL_rep h h2)
theorem leaves_rep {M : Nat -> Prop} : ∀ (t : Ty) {cs : List Value} {x : t.el}, rep w M t cs x -> repSs w M m cs (leaves t x) := by
 intro t
 induction t with
 | int k => intro cs x h; cases h; exact ⟨za0.2 rfl, trivial⟩
 | bool => intro cs x h; cases h; exact ⟨za1.2 rfl, trivial⟩
 | str => intro cs x h; obtain ⟨h1, h2⟩ := h; cases h1; exact ⟨za2.2 ⟨rfl, h2⟩, trivial⟩
 | sl t ih => intro cs x h; obtain ⟨a, cap, cells, e, r⟩ := h; subst e; exact ⟨(za3 (t := .sl t) rfl).2 ⟨a, cap, cells, rfl, r⟩, trivial⟩
 | unit => intro cs x h; cases h; trivial
 | ptr t ih => intro cs x h; obtain ⟨a, cells, e, r⟩ := h; subst e; exact ⟨(za3 (t := .ptr t) rfl).2 ⟨a, cells, rfl, r⟩, trivial⟩
 | fn f t ih => intro cs x h; obtain ⟨bs, e, r⟩ := h; subst e; exact ⟨(za3 (t := .fn f t) rfl).2 ⟨bs, rfl, r⟩, trivial⟩
 | err => intro cs x h; rcases h with ⟨hb, e⟩ | ⟨hb, t, v, e⟩ | ⟨t, n, hb, e⟩ <;> subst e; exact ⟨(za3 (t := .err) rfl).2 (.inl ⟨hb, rfl⟩), trivial⟩; exact ⟨(za3 (t := .err) rfl).2 (.inr (.inl ⟨hb, t, v, rfl⟩)), trivial⟩; exact ⟨(za3 (t := .err) rfl).2 (.inr (.inr ⟨t, n, hb, rfl⟩)), trivial⟩
 | opq => intro cs x h; obtain ⟨v, e, r⟩ := h; subst e; exact ⟨(za3 (t := .opq) rfl).2 ⟨v, rfl, r⟩, trivial⟩
 | arr n t ih => intro cs x h; exact leavesL_rep ih h.2
 | map k v _ _ =>
  intro cs x h
  match x, h with
  | none, h => have h : cs = [.map none] := h; subst h; exact ⟨(za3 (t := .map k v) rfl).2 rfl, trivial⟩
  | some ps, ⟨b, es, clock, e, r⟩ => subst e; exact ⟨(za3 (t := .map k v) rfl).2 ⟨b, es, clock, rfl, r⟩, trivial⟩
 | pair a b iha ihb => rintro cs x ⟨c1, c2, rfl, h1, h2⟩; exact zbf (iha h1) (ihb h2)
theorem pack1_rep {M : Nat -> Prop} {t : Ty} (ht : t.agg = false) {cs : List Value} {c r : List SV} {x : t.el} (h : repSs w M m cs c) (hp : pack1 t c = some (x, r)) :
  ∃ c1 c2, cs = c1 ++ c2 /\ rep w M t c1 x /\ repSs w M m c2 r := by
 unfold pack1 at hp
 split at hp
 ·rename_i u y r'
  split at hp
  ·rename_i z hz
   cases hp
   have e := TV.as_some hz
   match cs, h with
   | v :: vs, ⟨h1, h2⟩ =>
    refine ⟨[v], vs, rfl, ?_, h2⟩
    have h1' : repV w M v u y := h1
    cases e
    exact (za3 ht).1 h1'
   | [], h => exact h.elim
  ·cases hp
 ·cases hp
theorem packL_rep {M : Nat -> Prop} {t : Ty} (h : ∀ {cs : List Value} {c r : List SV} {x : t.el}, repSs w M m cs c -> pack t c = some (x, r) -> ∃ c1 c2, cs = c1 ++ c2 /\ rep w M t c1 x /\ repSs w M m c2 r) :
  ∀ (n : Nat) {cs : List Value} {c r : List SV} {xs : List t.el}, repSs w M m cs c -> packL (pack t) n c = some (xs, r) -> ∃ c1 c2, cs = c1 ++ c2 /\ (xs.length = n /\ repL (rep w M t) c1 xs) /\ repSs w M m c2 r
 | 0, cs, c, r, xs, hs, hp => by cases hp; exact ⟨[], cs, rfl, ⟨rfl, rfl⟩, hs⟩
 | n + 1, cs, c, r, xs, hs, hp => by
  unfold packL at hp
  split at hp
  ·rename_i y r1 h1
   split at hp
   ·rename_i ys r2 h2
    cases hp
    obtain ⟨c1, c2, rfl, g1, g2⟩ := h hs h1
    obtain ⟨d1, d2, rfl, ⟨g3, g3'⟩, g4⟩ := packL_rep h n g2 h2
    exact ⟨c1 ++ d1, d2, by simp, ⟨by simp [g3], c1, d1, rfl, g1, g3'⟩, g4⟩
   ·cases hp
  ·cases hp
theorem pack_rep {M : Nat -> Prop} : ∀ (t : Ty) {cs : List Value} {c r : List SV} {x : t.el}, repSs w M m cs c -> pack t c = some (x, r) -> ∃ c1 c2, cs = c1 ++ c2 /\ rep w M t c1 x /\ repSs w M m c2 r := by
 intro t
 induction t with
 | int k => intro cs c r x h hp; exact pack1_rep rfl h hp
 | bool => intro cs c r x h hp; exact pack1_rep rfl h hp
 | str => intro cs c r x h hp; exact pack1_rep rfl h hp
 | sl t ih => intro cs c r x h hp; exact pack1_rep rfl h hp
 | unit => intro cs c r x h hp; cases hp; exact ⟨[], cs, rfl, rfl, h⟩
 | ptr t ih => intro cs c r x h hp; exact pack1_rep rfl h hp
 | fn f t ih => intro cs c r x h hp; exact pack1_rep rfl h hp
 | err => intro cs c r x h hp; exact pack1_rep rfl h hp
 | opq => intro cs c r x h hp; exact pack1_rep rfl h hp
 | arr n t ih => intro cs c r x h hp; exact packL_rep ih n h hp
 | map k v _ _ => intro cs c r x h hp; exact pack1_rep rfl h hp
 | pair a b iha ihb =>
  intro cs c r x h hp
  unfold pack at hp
  split at hp
  ·rename_i y r1 h1
   split at hp
   ·rename_i z r2 h2
    cases hp
    obtain ⟨c1, c2, rfl, g1, g2⟩ := iha h h1
    obtain ⟨d1, d2, rfl, g3, g4⟩ := ihb g2 h2
    exact ⟨c1 ++ d1, d2, by simp, ⟨c1, d1, rfl, g1, g3⟩, g4⟩
   ·cases hp
  ·cases hp
def evLoad (P : Program) (st : St) (t : TypeId) (x : Operand) (orc : List TV) : Option PR :=
 match getSV st x, ty P t with
 | some (.ptr b off), some u => match look st.bx b with
  | some (.cells c _) => match u.agg with
   | true => match pack u (c.drop off) with
    | some (y, _) => some ⟨.val u y, orc, []⟩
    | none => none
   | false => match c.drop off with
    | s :: _ => some ⟨s, orc, []⟩
    | [] => none
  | _ => none
 | some (.rptr r i off sz), some u => match look st.rw r, orc with
  | some c, v :: orc' => match v.as c.t, Nat.beq sz c.t.cells, Nat.beq u.cells 0 with
   | some x, true, false => match getT c.t x off u with
    | some y => some ⟨.val u y, orc', [at? c.xs i = some x]⟩
    | none => none
   | _, _, _ => none
  | _, _ => none
 | some (.bp b p), some u => match look st.bx b with
  | some (.blk t' x _) => match getP t' x p orc with
   | some (r, orc', ob) => match r.as u, Nat.beq u.cells 0 with
    | some y, false => some ⟨.val u y, orc', ob⟩
    | _, _ => none
   | none => none
  | _ => none
 | _, _ => none
theorem heap_lt {w : World} {g : Nat} {o : Obj} (h : w.heap[g]? = some o) : g < w.heap.size := by
 rcases Nat.lt_or_ge g w.heap.size with h1 | h1
 ·exact h1
 ·rw [Array.getElem?_eq_none h1] at h; cases h
theorem cell_in {w : World} {g : Nat} {cells : Array Value} {e : Nat} {fr : Nat × Nat} (h : w.heap[g]? = some (.cells cells e fr)) (o : Nat) : w.cell? ⟨g, o, none⟩ = cells[o]? := by
 simp [World.cell?, h]
theorem load_raw {P : Program} {tid d : Nat} {u : Ty} (ht : tyOf P d tid = some u) {g off : Nat} {cells : Array Value} {e : Nat} {fr : Nat × Nat} {c : List Value} (hh : w.heap[g]? = some (.cells cells e fr))
  (hc : ∀ j v, c[j]? = some v -> cells[off + j]? = some v) (hl : c.length = u.cells) (hp : u.agg = false -> 0 < u.cells) :
  ∃ v, Steady P w (loadVar tid ⟨g, off, none⟩) v /\ (if u.agg then v = .agg c.toArray else c = [v]) := by
 have hcell : ∀ w', Ext w w' -> ∀ j v, c[j]? = some v -> w'.cell? ((⟨g, off, none⟩ : Addr).add j) = some v := by
  intro w' he j v hj
  rw [add_mk]
  have hh' : w'.heap[g]? = some (.cells cells e fr) := by rw [he.block g (heap_lt hh)]; exact hh
  rw [cell_in hh']
  exact hc j v hj
 cases hag : u.agg with
 | true =>
  refine ⟨.agg c.toArray, fun w' he => ?_, by simp⟩
  unfold loadVar
  rw [Sem.run_bind, ty_isAgg ht, hag]
  simp only [Result.andThen_ok, if_true, Sem.run_bind, zaw ht]
  rw [<- hl, run_cells (hcell w' he)]
  rfl
 | false =>
  have h1c : u.cells = 1 := by cases u <;> first | rfl | (simp [Ty.agg] at hag)
  match c, hl with
  | [v], _ =>
   refine ⟨v, fun w' he => ?_, by simp⟩
   have hcv := hcell w' he 0 v rfl
   rw [add_zero] at hcv
   unfold loadVar
   rw [Sem.run_bind, ty_isAgg ht, hag]
   simp only [Result.andThen_ok, Bool.false_eq_true, if_false]
   simp [load, Sem.run, hcv]
  | [], hl => simp at hl; omega
  | _ :: _ :: _, hl => simp at hl; omega
theorem nth_mid {α : Type} (a b c d e : List α) (j : Nat) (hj : j < c.length) : (a ++ (b ++ c ++ d) ++ e)[a.length + b.length + j]? = c[j]? := by
 have e1 : a ++ (b ++ c ++ d) ++ e = (a ++ b) ++ (c ++ (d ++ e)) := by simp
 rw [e1, List.getElem?_append_right (by rw [List.length_append]; omega), List.getElem?_append_left (by rw [List.length_append]; omega), List.length_append]
 congr 1
 omega
theorem evLoad_sound (h : Rm cx m st T w) {t : TypeId} {x : Operand} {orc : List TV} {pr : PR} (hev : evLoad cx.P st t x orc = some pr) (hob : allP pr.ob) :
  ∃ v, Steady cx.P w (Instr.loadAt t (Act.eval ⟨T, []⟩ x)) v /\ repS w (Mut cx m st.ids) m v pr.sv := by
 unfold evLoad at hev
 split at hev
 ·rename_i b off u hx ht
  obtain ⟨g, hg1, hg2⟩ := za6 h hx
  have hla : Instr.loadAt t (Act.eval ⟨T, []⟩ x) = loadVar t ⟨g, off, none⟩ := by rw [hg2]; rfl
  rw [hla]
  split at hev
  ·rename_i c hc
   obtain ⟨g', e1, _, cells, e3, e4⟩ := h.box (zak hc)
   have : g' = g := by rw [hg1] at e1; cases e1; rfl
   subst this
   obtain ⟨_, hd⟩ := zbh (w := w) (m := m) off e4
   split at hev
   ·rename_i hag
    split at hev
    ·rename_i y r hp
     cases hev
     obtain ⟨c1, c2, hcs, hr, _⟩ := pack_rep u hd hp
     obtain ⟨v, hv1, hv2⟩ := load_raw (c := c1) ht e3 (fun j v hj => by
      have : (cells.toList.drop off)[j]? = some v := by rw [hcs, List.getElem?_append_left (List.getElem?_eq_some_iff.1 hj).1]; exact hj
      rw [List.getElem?_drop] at this
      simpa using this) (zag u hr) (fun hn => by rw [hag] at hn; cases hn)
     rw [hag, if_pos rfl] at hv2
     exact ⟨v, hv1, (za4 hag).2 ⟨c1, hv2, hr⟩⟩
    ·cases hev
   ·rename_i hag
    split at hev
    ·rename_i s r hs
     cases hev
     rw [hs] at hd
     match hcs : cells.toList.drop off, hd with
     | v0 :: vs, ⟨hv, _⟩ =>
      have h1c : u.cells = 1 := by cases u <;> first | rfl | (simp [Ty.agg] at hag)
      obtain ⟨v, hv1, hv2⟩ := load_raw (c := [v0]) ht e3 (fun j v hj => by
       have hj0 : j = 0 := by have := (List.getElem?_eq_some_iff.1 hj).1; simpa using this
       subst hj0
       simp at hj
       subst hj
       have : (cells.toList.drop off)[0]? = some v0 := by rw [hcs]; rfl
       rw [List.getElem?_drop] at this
       simpa using this) (by rw [h1c]; rfl) (fun _ => by omega)
      rw [hag] at hv2
      simp at hv2
      subst hv2
      exact ⟨v0, hv1, hv⟩
     | [], hd => exact hd.elim
    ·cases hev
  ·cases hev
 ·rename_i r i off sz u hx ht
  obtain ⟨g, n, cap, hg1, hg2⟩ := za6 h hx
  have hla : Instr.loadAt t (Act.eval ⟨T, []⟩ x) = loadVar t ⟨g, i.toNat * sz + off, none⟩ := by rw [hg2]; rfl
  rw [hla]
  split at hev
  ·rename_i c v orc' hc
   split at hev
   ·rename_i x0 hv hsz hz
    split at hev
    ·rename_i y hy
     cases hev
     obtain ⟨h0, h1, h2⟩ := at?_some hob.1
     obtain ⟨cells, hown, _, hL⟩ := h.rows r c (zak hc)
     have hsz' := Nat.eq_of_beq_eq_true hsz
     subst hsz'
     rcases hown.2 with ⟨hn, _⟩ | ⟨g', cap', cur, hn, _, hh, _, _, _, htk⟩
     ·rw [hg1] at hn; cases hn
     ·have : g' = g := by rw [hg1] at hn; cases hn; rfl
      subst this
      obtain ⟨c1, c2, c3, rfl, hl, hr⟩ := repL_nth hL h2
      obtain ⟨d1, d2, d3, rfl, hdl, hr2⟩ := getT_rep c.t hr hy
      have hp : 0 < u.cells := Nat.pos_of_ne_zero (zao hz)
      obtain ⟨v', hv1, hv2⟩ := load_raw (c := d2) ht hh (fun j v hj => by
       have hj2 := (List.getElem?_eq_some_iff.1 hj).1
       have hk : (cur.toList.take (c.xs.length * c.t.cells))[i.toNat * c.t.cells + off + j]? = some v := by
        rw [htk, <- hl, <- hdl, <- hj]
        exact nth_mid c1 d1 d2 d3 c3 j hj2
       rw [List.getElem?_take] at hk
       split at hk
       ·simpa using hk
       ·cases hk) (zag u hr2) (fun _ => hp)
      refine ⟨v', hv1, ?_⟩
      cases hag : u.agg with
      | true => rw [hag, if_pos rfl] at hv2; exact (za4 hag).2 ⟨d2, hv2, hr2⟩
      | false => rw [hag] at hv2; simp at hv2; subst hv2; exact (za3 hag).2 hr2
    ·cases hev
   ·cases hev
  ·cases hev
 ·rename_i b p u hx ht
  obtain ⟨g, hg1, hg2⟩ := za6 h hx
  split at hev
  ·rename_i t' x0 e hb
   split at hev
   ·rename_i r orc2 ob hp
    split at hev
    ·rename_i y hy hz
     cases hev
     obtain ⟨g', e1, _, cells, e3, e4⟩ := h.box (zak hb)
     have : g' = g := by rw [hg1] at e1; cases e1; rfl
     subst this
     obtain ⟨c1, c2, c3, hcs, hl, hr⟩ := getP_rep p t' e4 hp hob
     have er := TV.as_some hy
     subst er
     have hpos : 0 < u.cells := Nat.pos_of_ne_zero (zao hz)
     obtain ⟨v, hv1, hv2⟩ := load_raw (off := poff p) (c := c2) ht e3 (fun j v hj => by
      have hj2 := (List.getElem?_eq_some_iff.1 hj).1
      rw [<- Array.getElem?_toList, hcs, List.append_assoc, List.getElem?_append_right (by omega), List.getElem?_append_left (by omega), <- hj]
      congr 1
      omega) (zag u hr) (fun _ => hpos)
     refine ⟨v, by rw [hg2]; exact hv1, ?_⟩
     cases hag : u.agg with
     | true => rw [hag, if_pos rfl] at hv2; exact (za4 hag).2 ⟨c2, hv2, hr⟩
     | false => rw [hag] at hv2; simp at hv2; subst hv2; exact (za3 hag).2 hr
    ·cases hev
   ·cases hev
  ·cases hev
 ·cases hev
def isRR : Option BX -> Bool
 | some (.rr _ _ _ _) => true
 | _ => false
def leafOK : SV -> Bool
 | .val t _ => !t.agg
 | .row _ => true
 | .clos _ _ => true
 | .ptr _ _ => true
 | .vptr _ _ => true
 | .osl _ => true
 | .iter _ => true
 | _ => false
def isMp : Option BX -> Bool
 | some (.mp _ _ _) => true
 | _ => false
theorem leafOK_one {M : Nat -> Prop} {v : Value} {s : SV} (hs : leafOK s = true) (hrow : ∀ r, s = .row r \/ s = .osl r \/ s = .iter r -> v.oneCell' = true) (hv : repS w M m v s) : v.oneCell' = true /\ v.cells = #[v] := by
 cases s <;> simp only [leafOK, Bool.false_eq_true] at hs
 case val t x =>
  have hag : t.agg = false := by simpa using hs
  have h1 := (za3 hag).1 hv
  have h2 := zah t h1 v (by simp)
  refine ⟨h2, ?_⟩
  cases v <;> first | rfl | (simp [Value.oneCell'] at h2)
 case row r =>
  have := hrow r (.inl rfl)
  refine ⟨this, ?_⟩
  cases v <;> first | rfl | (simp [Value.oneCell'] at this)
 case osl b =>
  have := hrow b (.inr (.inl rfl))
  refine ⟨this, ?_⟩
  cases v <;> first | rfl | (simp [Value.oneCell'] at this)
 case iter b =>
  have := hrow b (.inr (.inr rfl))
  refine ⟨this, ?_⟩
  cases v <;> first | rfl | (simp [Value.oneCell'] at this)
 case clos f bs =>
  have e : v = _ := hv
  subst e
  exact ⟨rfl, rfl⟩
 case ptr b off => obtain ⟨g, _, e⟩ := hv; subst e; exact ⟨rfl, rfl⟩
 case vptr t x => obtain ⟨a, c, e, _⟩ := hv; subst e; exact ⟨rfl, rfl⟩
def cellsSV (u : Ty) (s : SV) : Option (List SV) :=
 match u.agg with
 | true => match s with
  | .val t x => bif t.beq u then some (leaves t x) else none
  | _ => none
 | false => match s with
  | .val t x => bif t.beq u then some [.val t x] else none
  | s => bif leafOK s && Nat.beq u.cells 1 then some [s] else none
theorem row_one (h : Rm cx m st T w) {r : Nat} {c : RowC} (hr : (r, c) ∈ st.rw) : (m r).oneCell' = true := by
 obtain ⟨cells, hown, _⟩ := h.rows r c hr
 rcases hown.2 with ⟨hn, _⟩ | ⟨g, cap, cur, hn, _⟩ <;> rw [hn] <;> rfl
theorem cellsSV_sound {M : Nat -> Prop} {v : Value} {s : SV} {u : Ty} {l : List SV} (hrow : ∀ r, s = .row r \/ s = .osl r \/ s = .iter r -> v.oneCell' = true) (hv : repS w M m v s) (hc : cellsSV u s = some l) :
  repSs w M m v.cells.toList l /\ (∀ x ∈ v.cells.toList, x.oneCell' = true) /\ v.cells.size = u.cells := by
 unfold cellsSV at hc
 split at hc
 ·rename_i hag
  split at hc
  ·rename_i t x
   cases hb : t.beq u with
   | false => rw [hb] at hc; cases hc
   | true =>
    rw [hb] at hc
    cases hc
    obtain rfl := Ty.eq_of_beq hb
    have h1 := zai hv
    exact ⟨leaves_rep t h1, zah t h1, by rw [<- zag t h1]; simp⟩
  ·cases hc
 ·rename_i hag
  split at hc
  ·rename_i t x
   cases hb : t.beq u with
   | false => rw [hb] at hc; cases hc
   | true =>
    rw [hb] at hc
    cases hc
    obtain rfl := Ty.eq_of_beq hb
    have h1 := zai hv
    have h2 := leafOK_one (s := .val t x) (by simp [leafOK, hag]) hrow hv
    refine ⟨?_, zah t h1, by rw [<- zag t h1]; simp⟩
    rw [h2.2]
    exact ⟨hv, trivial⟩
  ·rename_i s' _
   cases hl : leafOK s && Nat.beq u.cells 1 with
   | false => rw [hl] at hc; cases hc
   | true =>
    rw [hl] at hc
    cases hc
    simp only [Bool.and_eq_true] at hl
    have h2 := leafOK_one hl.1 hrow hv
    rw [h2.2]
    exact ⟨⟨hv, trivial⟩, by simp [h2.1], by rw [Nat.eq_of_beq_eq_true hl.2]; rfl⟩
theorem osl_one (h : Rm cx m st T w) {b : Nat} (hb : isRR (look st.bx b) = true) {M : Nat -> Prop} {v : Value} (hv : repS w M m v (.osl b)) : v.oneCell' = true := by
 unfold isRR at hb
 split at hb
 ·rename_i e k xs hh hc
  obtain ⟨g, _, _, hd, us, cells, e1, e2, _⟩ := h.boxes b _ (zak hc)
  obtain ⟨us2, e3⟩ := hv
  have e4 : v = hd := by
   rw [e1] at e3
   simp only [Value.tuple.injEq, Array.mk.injEq, List.cons.injEq] at e3
   exact e3.1.symm
  rw [e4]
  rcases e2.2 with ⟨hn, _⟩ | ⟨g, cap, cur, hn, _⟩ <;> rw [hn] <;> rfl
 ·cases hb
theorem iter_one (h : Rm cx m st T w) {b : Nat} (hb : isMp (look st.bx b) = true) {M : Nat -> Prop} {v : Value} (hv : repS w M m v (.iter b)) : v.oneCell' = true := by
 unfold isMp at hb
 split at hb
 ·rename_i hc
  obtain ⟨g, e1, _⟩ := h.box (zak hc)
  have hv : v = m b := hv
  rw [hv, e1]
  rfl
 ·cases hb
theorem zbi (w : World) (g : Nat) (cs : Array Value) : Same w (w.setRow g cs) := by
 refine { os := rfl, tape := rfl, output := rfl, size := ?_, drawn := fun _ => Nat.le_refl _ }
 simp [World.setRow]
theorem store_run {P : Program} {tid d : Nat} {u : Ty} (ht : tyOf P d tid = some u) {g off : Nat} {cur : Array Value} {e : Nat} {v : Value} (hh : w.heap[g]? = some (.cells cur e (0, 0)))
  (hs : v.cells.size = u.cells) (hfit : off + u.cells <= cur.size) (h1 : ∀ x ∈ v.cells.toList, x.oneCell' = true) :
  (Instr.storeAt tid (.pointer (some ⟨g, off, none⟩)) v).run P w = .ok () (w.setRow g (cur.toList.take off ++ v.cells.toList ++ cur.toList.drop (off + u.cells)).toArray) := by
 have hl : v.cells.toList.length = u.cells := by rw [<- hs]; simp
 have hst := run_storeCells_at (P := P) g off e v.cells.toList 0 cur w hh (by rw [hl]; omega) h1
 rw [hl, Nat.add_zero] at hst
 simp only [Instr.storeAt, Instr.sureAddr, Sem.run_bind, Sem.run_pure, Result.andThen_ok, storeVar, zaw ht, hs, ne_eq, not_true_eq_false, if_false]
 exact hst
def evStore (P : Program) (st : St) (t : TypeId) (x y : Operand) (orc : List TV) : Option (St × List TV × List Prop) :=
 match getSV st x, ty P t, getSV st y with
 | some (.ptr b off), some u, some s => match look st.bx b, cellsSV u s, rowOK st s with
  | some (.cells c e), some l, true => bif Nat.ble (off + u.cells) c.length then some (st.setBox b (.cells (c.take off ++ l ++ c.drop (off + u.cells)) e), orc, []) else none
  | _, _, _ => none
 | some (.rptr r i off sz), some u, some (.val t' z) => match look st.rw r, orc with
  | some c, v :: orc' => match v.as c.t, Nat.beq sz c.t.cells, t'.beq u with
   | some x0, true, true => match setT c.t x0 off ⟨t', z⟩ with
    | some x1 => some (st.setRow r { c with xs := c.xs.set i.toNat x1 }, orc', [at? c.xs i = some x0])
    | none => none
   | _, _, _ => none
  | _, _ => none
 | some (.bp b p), some u, some (.val t' z) => match look st.bx b with
  | some (.blk tb x e) => match t'.beq u, setP tb x p orc ⟨t', z⟩ with
   | true, some (y, orc', ob) => some (st.setBox b (.blk tb y e), orc', ob)
   | _, _ => none
  | _ => none
 | _, _, _ => none
where
 rowOK (st : St) : SV -> Bool
  | .row r => (look st.rw r).isSome
  | .osl b => isRR (look st.bx b)
  | .iter b => isMp (look st.bx b)
  | _ => true
end Go.Ev
namespace Go.Ev
open Go Go.RowKit
variable [Dr]
variable {cx : Cx} {m : Nat -> Value} {st : St} {T : Array Value} {w w' : World}
theorem repSs_ext {M M' : Nat -> Prop} (hw : ∀ b, b < w.heap.size -> ¬ M b -> w'.heap[b]? = w.heap[b]?) (hM : ∀ b, b < w.heap.size -> M' b -> M b) {c : List Value} {l : List SV} (h : repSs w M m c l) : repSs w' M' m c l := by
 have := repSs_map (f := id) (fun v s hh => zap (m := m) hw hM hh) h
 simpa using this
theorem evStore_sound (h : Rm cx m st T w) {t : TypeId} {x y : Operand} {orc orc' : List TV} {st' : St} {ob : List Prop} (hev : evStore cx.P st t x y orc = some (st', orc', ob)) (hob : allP ob) :
  ∃ w', (Instr.storeAt t (Act.eval ⟨T, []⟩ x) (Act.eval ⟨T, []⟩ y)).run cx.P w = .ok () w' /\ Rm cx m st' T w' := by
 unfold evStore at hev
 split at hev
 ·rename_i b off u s hx ht hy
  obtain ⟨g, hg1, hg2⟩ := za6 h hx
  split at hev
  ·rename_i c e l hc hl hrow
   cases hb : Nat.ble (off + u.cells) c.length with
   | false => rw [hb] at hev; cases hev
   | true =>
    rw [hb] at hev
    cases hev
    have hle := Nat.le_of_ble_eq_true hb
    have hcm := zak hc
    obtain ⟨g', e1, _, cells, e3, e4⟩ := h.box hcm
    have : g' = g := by rw [hg1] at e1; cases e1; rfl
    subst this
    have hri : b ∈ st.ids := List.mem_append.2 (.inl (List.mem_map.2 ⟨_, hcm, rfl⟩))
    have hclen := zbg e4
    have hrow' : ∀ r, s = .row r \/ s = .osl r \/ s = .iter r -> (Act.eval ⟨T, []⟩ y).oneCell' = true := by
     rintro r (rfl | rfl | rfl)
     ·simp only [evStore.rowOK] at hrow
      obtain ⟨c', hc'⟩ := Option.isSome_iff_exists.1 hrow
      rw [show Act.eval ⟨T, []⟩ y = m r from za6 h hy]
      exact row_one h (zak hc')
     ·exact osl_one h hrow (za6 h hy)
     ·exact iter_one h hrow (za6 h hy)
    obtain ⟨k1, k2, k3⟩ := cellsSV_sound hrow' (za6 h hy) hl
    have hfit : off + u.cells <= cells.size := by rw [<- Array.length_toList, hclen]; exact hle
    have hrun := store_run (P := cx.P) ht e3 k3 hfit k2
    refine ⟨_, by rw [hg2]; exact hrun, ?_⟩
    have hn : Touch m w b (w.setRow g' (cells.toList.take off ++ (Act.eval ⟨T, []⟩ y).cells.toList ++ cells.toList.drop (off + u.cells)).toArray) :=
     ⟨zbi _ _ _, fun k hk hne => setRow_other _ _ _ _ (fun e => hne (by rw [hg1, e]; rfl))⟩
    obtain ⟨hids, _⟩ := zar hcm h.keys (.cells (c.take off ++ l ++ c.drop (off + u.cells)) e)
    obtain ⟨q1, q2⟩ := Rm.touch_keeps (cx := cx) hri hn hids
    refine h.setBox hcm hn (g := g') hg1 ⟨_, setRow_heap _ _ _ _ _ _ e3, ?_⟩
    simp only []
    exact zbf (zbf (repSs_ext q1 q2 (zbh off e4).1) (repSs_ext q1 q2 k1)) (repSs_ext q1 q2 (zbh (off + u.cells) e4).2)
  ·cases hev
 ·rename_i r i off sz u t' z hx ht hy
  obtain ⟨g, n, cap, hg1, hg2⟩ := za6 h hx
  split at hev
  ·rename_i c v orc2 hc
   split at hev
   ·rename_i x0 hv hsz hb
    split at hev
    ·rename_i x1 hx1
     cases hev
     obtain ⟨h0, h1, h2⟩ := at?_some hob.1
     have hcm := zak hc
     obtain ⟨cells, hown, hout, hL⟩ := h.rows r c hcm
     have hri : r ∈ st.ids := List.mem_append.2 (.inr (List.mem_map.2 ⟨_, hcm, rfl⟩))
     have hsz' := Nat.eq_of_beq_eq_true hsz
     subst hsz'
     obtain rfl := Ty.eq_of_beq hb
     have hval : repV w (Mut cx m st.ids) (Act.eval ⟨T, []⟩ y) t' z := za6 h hy
     have hvc := zai hval
     have hvl := zag t' hvc
     have hvs : (Act.eval ⟨T, []⟩ y).cells.size = t'.cells := by rw [<- hvl]; simp
     rcases hown.2 with ⟨hn, _⟩ | ⟨g', cap', cur, hn, hb0, hh, hle, hmax, hcur, htk⟩
     ·rw [hg1] at hn; cases hn
     ·have : g' = g := by rw [hg1] at hn; cases hn; rfl
      subst this
      obtain ⟨c1, c2, c3, rfl, hl, hr, hset⟩ := repL_set hL h2
      obtain ⟨d1, d2, d3, rfl, hdl, hdl2, hr2⟩ := setT_rep (v := ⟨t', z⟩) hvc c.t hr hx1
      obtain ⟨rest, hrest⟩ : ∃ rest, cur.toList = (c1 ++ (d1 ++ d2 ++ d3) ++ c3) ++ rest := ⟨cur.toList.drop (c.xs.length * c.t.cells), by rw [<- htk, List.take_append_drop]⟩
      have hN : (c1 ++ (d1 ++ d2 ++ d3) ++ c3).length = c.xs.length * c.t.cells := hown.1
      have ho : i.toNat * c.t.cells + off = (c1 ++ d1).length := by rw [List.length_append, hl, hdl]
      have hlen : cur.toList.length = (c1 ++ d1).length + d2.length + (d3 ++ c3 ++ rest).length := by rw [hrest]; simp only [List.length_append]; omega
      have hfit : i.toNat * c.t.cells + off + t'.cells <= cur.size := by
       rw [<- Array.length_toList, hlen, ho, <- hvl, hdl2]
       omega
      have hrun := store_run (P := cx.P) ht hh hvs hfit (zah t' hvc)
      have etk : cur.toList.take (i.toNat * c.t.cells + off) = c1 ++ d1 := by
       rw [hrest, ho]
       have : c1 ++ (d1 ++ d2 ++ d3) ++ c3 ++ rest = (c1 ++ d1) ++ (d2 ++ d3 ++ c3 ++ rest) := by simp
       rw [this, List.take_left]
      have edr : cur.toList.drop (i.toNat * c.t.cells + off + t'.cells) = d3 ++ c3 ++ rest := by
       rw [hrest, ho, <- hvl, <- hdl2, <- List.length_append]
       have : c1 ++ (d1 ++ d2 ++ d3) ++ c3 ++ rest = (c1 ++ d1 ++ d2) ++ (d3 ++ c3 ++ rest) := by simp
       rw [this, List.drop_left]
      rw [etk, edr] at hrun
      refine ⟨_, by rw [hg2]; exact hrun, ?_⟩
      have hnt : Touch m w r (w.setRow g' (c1 ++ d1 ++ (Act.eval ⟨T, []⟩ y).cells.toList ++ (d3 ++ c3 ++ rest)).toArray) :=
       ⟨zbi _ _ _, fun k hk hne => setRow_other _ _ _ _ (fun e => hne (by rw [hg1, e]; rfl))⟩
      obtain ⟨hids, _⟩ := setRow_ids hcm h.keys { c with xs := c.xs.set i.toNat x1 }
      obtain ⟨q1, q2⟩ := Rm.touch_keeps (cx := cx) hri hnt hids
      have hnew := hset _ _ hr2
      have hshape : c1 ++ d1 ++ (Act.eval ⟨T, []⟩ y).cells.toList ++ (d3 ++ c3 ++ rest) = (c1 ++ (d1 ++ (Act.eval ⟨T, []⟩ y).cells.toList ++ d3) ++ c3) ++ rest := by simp
      have hl2 : (c1 ++ (d1 ++ (Act.eval ⟨T, []⟩ y).cells.toList ++ d3) ++ c3).length = c.xs.length * c.t.cells := by
       rw [<- hN]; simp only [List.length_append, hdl2]
      refine h.setRow hcm hnt (cells := c1 ++ (d1 ++ (Act.eval ⟨T, []⟩ y).cells.toList ++ d3) ++ c3) ?_ (zab (fun _ _ => rep_ext q1 q2 c.t) hnew)
      refine ⟨by simp only [List.length_set]; exact hl2, .inr ⟨g', cap', _, by rw [hn]; simp only [List.length_set], hb0, setRow_heap _ _ _ _ _ _ hh, by simp only [List.length_set]; exact hle, hmax, ?_, ?_⟩⟩
      ·rw [List.size_toArray, hshape, List.length_append, hl2, <- hcur, <- Array.length_toList, hrest, List.length_append, hN]
      ·simp only [List.length_set]
       rw [hshape, <- hl2, List.take_left]
    ·cases hev
   ·cases hev
  ·cases hev
 ·rename_i b p u t' z hx ht hy0
  have hy := hy0
  obtain ⟨g, hg1, hg2⟩ := za6 h hx
  split at hev
  ·rename_i tb x0 e hb
   split at hev
   ·rename_i yn orc2 ob2 hbe hp
    cases hev
    obtain rfl := Ty.eq_of_beq hbe
    have hcm := zak hb
    obtain ⟨g', e1, _, cells, e3, e4⟩ := h.box hcm
    have : g' = g := by rw [hg1] at e1; cases e1; rfl
    subst this
    have hri : b ∈ st.ids := List.mem_append.2 (.inl (List.mem_map.2 ⟨_, hcm, rfl⟩))
    have hval : repV w (Mut cx m st.ids) (Act.eval ⟨T, []⟩ y) t' z := za6 h hy
    have hvc := zai hval
    have hvl := zag t' hvc
    have hvs : (Act.eval ⟨T, []⟩ y).cells.size = t'.cells := by rw [<- hvl]; simp
    obtain ⟨c1, c2, c3, hcs, hl, hl2, hr⟩ := setP_rep (z := ⟨t', z⟩) hvc p tb e4 hp hob
    have hfit : poff p + t'.cells <= cells.size := by
     rw [<- Array.length_toList, hcs]; simp only [List.length_append]; omega
    have hrun := store_run (P := cx.P) ht e3 hvs hfit (zah t' hvc)
    have etk : cells.toList.take (poff p) = c1 := by rw [hcs, <- hl, List.append_assoc, List.take_left]
    have edr : cells.toList.drop (poff p + t'.cells) = c3 := by
     rw [hcs, <- hl, <- hvl, <- hl2, <- List.length_append, List.drop_left]
    rw [etk, edr] at hrun
    refine ⟨_, by rw [hg2]; exact hrun, ?_⟩
    have hn : Touch m w b (w.setRow g' (c1 ++ (Act.eval ⟨T, []⟩ y).cells.toList ++ c3).toArray) :=
     ⟨zbi _ _ _, fun k hk hne => setRow_other _ _ _ _ (fun e => hne (by rw [hg1, e]; rfl))⟩
    obtain ⟨hids, _⟩ := zar hcm h.keys (.blk tb yn e)
    obtain ⟨q1, q2⟩ := Rm.touch_keeps (cx := cx) hri hn hids
    refine h.setBox hcm hn (g := g') hg1 ⟨_, setRow_heap _ _ _ _ _ _ e3, ?_⟩
    simp only []
    exact rep_ext q1 q2 tb hr
   ·cases hev
  ·cases hev
 ·cases hev
def evUp (P : Program) (st : St) (t : TypeId) (x k v : Operand) : Option St :=
 match getSV st x, P.underlying t, getTV st k, getTV st v with
 | some (.iter b), some (.map kt et), some ky, some vl => match look st.bx b, ty P kt, ty P et with
  | some (.mp ku vu ps), some ku', some vu' => match ky.as ku, vl.as vu, ku'.beq ku && vu'.beq vu && ku.flat && eqOK P 16 kt with
   | some y, some z, true => some (st.setBox b (.mp ku vu (mset (eqEl ku) ps y z)))
   | _, _, _ => none
  | _, _, _ => none
 | _, _, _, _ => none
theorem evUp_sound (h : Rm cx m st T w) {t : TypeId} {x k v : Operand} {st' : St} (hev : evUp cx.P st t x k v = some st') :
  ∃ w', (Instr.mapUpdate t (Act.eval ⟨T, []⟩ x) (Act.eval ⟨T, []⟩ k) (Act.eval ⟨T, []⟩ v)).run cx.P w = .ok () w' /\ Rm cx m st' T w' := by
 unfold evUp at hev
 split at hev
 ·rename_i b kt et ky vl hx hmt hk hv
  split at hev
  ·rename_i ku vu ps ku' vu' hb hku hvu
   split at hev
   ·rename_i y z hy hz hh
    cases hev
    simp only [Bool.and_eq_true] at hh
    obtain ⟨⟨⟨hh1, hh2⟩, hh3⟩, hh4⟩ := hh
    obtain rfl := Ty.eq_of_beq hh1
    obtain rfl := Ty.eq_of_beq hh2
    have ey := TV.as_some hy
    subst ey
    have ez := TV.as_some hz
    subst ez
    have hbm := zak hb
    obtain ⟨g, e1, _, es, clock, h1, h2, h3, h4⟩ := h.box hbm
    have e1 : m b = .map (some g) := e1
    have hxv : Act.eval ⟨T, []⟩ x = .map (some g) := by have : Act.eval ⟨T, []⟩ x = m b := za6 h hx; rw [this, e1]
    obtain ⟨es', clock', hrun, r1, r2, r3⟩ := run_mapUpdate (d := dep) (d' := 16) hmt hku hh4 (by decide) hh3 (za7 h hk) (za7 h hv) h1 h2 h3 h4
    have hn : Touch m w b { w with heap := w.heap.setIfInBounds g (.map es' clock') } :=
     ⟨⟨rfl, rfl, rfl, by simp, fun _ => Nat.le_refl _⟩, fun k _ hne => by
      show (w.heap.setIfInBounds g _)[k]? = _
      rw [Array.getElem?_setIfInBounds_ne]
      intro e
      exact hne (by rw [e1, e]; rfl)⟩
    rw [hxv]
    refine ⟨_, hrun, h.setBox hbm hn (g := g) e1 ?_⟩
    have hbi : b ∈ st.ids := List.mem_append.2 (.inl (List.mem_map.2 ⟨_, hbm, rfl⟩))
    obtain ⟨kk1, kk2⟩ := Rm.touch_keeps (cx := cx) hbi hn (ids := (st.setBox b (.mp ku' vu' (mset (eqEl ku') ps y z))).ids) (zar hbm h.keys _).1
    refine ⟨es', clock', ?_, r1, r2, zac (fun _ _ h => zaj kk1 kk2 h) (fun _ _ h => zaj kk1 kk2 h) r3⟩
    show (w.heap.setIfInBounds g _)[g]? = _
    rw [Array.getElem?_setIfInBounds_self_of_lt (zad h1)]
   ·cases hev
  ·cases hev
 ·cases hev
end Go.Ev
namespace Go.Ev
open Go Go.RowKit
variable [Dr]
variable {P : Program} {w : World}
theorem same_alloc (w : World) (o : Obj) : Same w (w.drew.alloc o) := ⟨rfl, rfl, rfl, by simp, fun _ => Nat.le_succ _⟩
theorem zbj (w : World) (o : Obj) : Ext w (w.alloc o) := { os := rfl, tape := rfl, output := rfl, size := by simp, drawn := by first | exact fun _ => Nat.le_refl _ | exact fun _ => Nat.le_succ _, block := fun b hb => Below.heap_alloc w o b hb }
theorem grown_row {e size m n : Nat} {z : Array Value} {xs news : List Value} (hlx : xs.length = n * size) (hl : news.length = m * size) (hz : z.size = size) (h63 : n + m <= maxLen) (old : Nat) :
  (w.drew.alloc (.cells (xs.toArray ++ news.toArray ++ Builtin.zeroCells z (grownCap w (n + m) old e - (n + m))) e)).ownsRow 0 e size (.slice (some ⟨w.heap.size, 0, none⟩) (n + m) (grownCap w (n + m) old e)) (n + m) (xs ++ news) := by
 have hge := grownCap_ge w (n + m) old e
 have hcm : grownCap w (n + m) old e <= maxLen := grownCap_le_maxLen w (n + m) old e h63
 have hlen : (xs ++ news).length = (n + m) * size := by rw [List.length_append, hlx, hl, Nat.add_mul]
 refine ⟨hlen, .inr ⟨w.heap.size, _, _, rfl, Nat.zero_le _, heap_alloc_new w.drew _, hge, hcm, ?_, ?_⟩⟩
 ·simp only [Array.size_append, List.size_toArray, size_zeroCells, hz, hlx, hl, <- Nat.add_mul]
  congr 1
  omega
 ·simp only [Array.toList_append, List.append_assoc]
  rw [<- List.append_assoc, <- hlen]
  exact List.take_left
theorem run_append_gen (t u ty e : TypeId) (i : TypeInfo) (z : Value) (ht : P.underlying t = some (.slice e)) (hu : (∃ e', P.underlying u = some (.slice e')) \/ P.underlying u = some .string) (hi : P.info? e = some i) (hz : i.zero = some z)
  (hzs : z.cells.size = i.size) (x : Value) (m : Nat) (news : List Value) (hlen : Builtin.lenOf x = pure m)
  (hnews : ∀ w', (∀ b, b < w.heap.size -> w'.heap[b]? = w.heap[b]?) -> (Builtin.firstCells i.size m x).run P w' = .ok news.toArray w')
  (hl : news.length = m * i.size) (h1 : ∀ u ∈ news, u.oneCell' = true) (v : Value) (n : Nat) (xs : List Value) (hown : w.ownsRow 0 e i.size v n xs)
  (h63 : n + m <= maxLen) (hbytes : (n + m) * i.bytes <= 140737488355328) :
  ∃ v' w', (Builtin.append_ #[t, u] ty #[v, x]).run P w = .ok v' w' /\ w'.ownsRow 0 e i.size v' (n + m) (xs ++ news) /\ Same w w' /\
   (∀ b, b < w.heap.size -> blk v ≠ some b -> w'.heap[b]? = w.heap[b]?) /\ (∀ g, blk v' = some g -> blk v = some g \/ (w.heap.size <= g /\ g < w'.heap.size)) := by
 have hsmall : n + m <= 9223372036854775807 := by simp only [maxLen] at h63; omega
 have hn0 := hnews w (fun _ _ => rfl)
 have hnd := hnews w.drew (fun _ _ => rfl)
 have hlx := hown.1
 rcases hown.2 with ⟨rfl, rfl⟩ | ⟨g, cap, cur, rfl, _, hg, hnc, hcm, hcs, htake⟩
 ·have hx : xs = [] := List.eq_nil_of_length_eq_zero (by simpa using hlx)
  subst hx
  by_cases hm : m = 0
  ·subst hm
   have hn : news = [] := List.eq_nil_of_length_eq_zero (by simpa using hl)
   subst hn
   refine ⟨.slice none 0 0, w, ?_, World.ownsRow_nil w 0 e i.size, ⟨rfl, rfl, rfl, Nat.le_refl _, fun _ => Nat.le_refl _⟩, fun _ _ _ => rfl, fun g hg => by simp [blk] at hg⟩
   rcases hu with ⟨e', hu⟩ | hu <;> simp [Builtin.append_, run_underlying ht, run_underlying hu, sizeOf, typeInfo, hi, hlen, hn0]
  ·have h0 : 0 < m := by omega
   have h63' : ¬ (9223372036854775807 < (m : Int)) := by omega
   have hfit := growslice_fits (old := 0) (need := m) (bytes := i.bytes) h0 (by simpa using hbytes)
   have h48' : ¬ (281474976710656 < Builtin.nextslicecap m 0 * i.bytes) := by omega
   have hgr := grown_row (w := w) (e := e) hlx hl hzs h63 0
   simp only [Nat.zero_add] at hgr
   refine ⟨.slice (some ⟨w.heap.size, 0, none⟩) m (grownCap w m 0 e), w.drew.alloc (.cells (([] : List Value).toArray ++ news.toArray ++ Builtin.zeroCells z.cells (grownCap w m 0 e - m)) e), ?_, by simpa using hgr, same_alloc _ _, fun b hb _ => Below.heap_alloc w.drew _ b hb, fun g hg => .inr ?_⟩
   ·rcases hu with ⟨e', hu⟩ | hu <;>
     simp [Builtin.append_, run_underlying ht, run_underlying hu, sizeOf, typeInfo, zeroValue, hi, hz, hlen, hm, h63', h48', Question.forced, run_firstCells_none, hnd, newRow, grownCap]
   ·simp [blk] at hg
    subst hg
    exact ⟨Nat.le_refl _, by simp⟩
 ·by_cases hroom : n + m <= cap
  ·have hfit : n * i.size + news.length <= cur.size := by rw [hl, hcs, <- Nat.add_mul]; exact Nat.mul_le_mul_right _ hroom
   have hst := run_storeCells_at P g (n * i.size) e news 0 cur w hg (by simpa using hfit) h1
   simp only [Nat.add_zero] at hst
   refine ⟨.slice (some ⟨g, 0, none⟩) (n + m) cap, _, ?_, ⟨by rw [List.length_append, hlx, hl, Nat.add_mul], .inr ⟨g, cap, _, rfl, Nat.zero_le _, setRow_heap w g cur (cur.toList.take (n * i.size) ++ news ++ cur.toList.drop (n * i.size + news.length)).toArray e (0, 0) hg, hroom, hcm, ?_, ?_⟩⟩,
    zbi _ _ _, fun b hb hne => setRow_other _ _ _ _ (fun e => hne (by rw [e]; rfl)), fun g' hg' => .inl hg'⟩
   ·rcases hu with ⟨e', hu⟩ | hu <;>
     simp [Builtin.append_, run_underlying ht, run_underlying hu, sizeOf, typeInfo, hi, hlen, hroom, hn0, Addr.add_lit, hst]
   ·simp only [List.size_toArray, List.length_append, List.length_take, List.length_drop, Array.length_toList]
    omega
   ·rw [htake]
    have hlen2 : (xs ++ news).length = (n + m) * i.size := by rw [List.length_append, hlx, hl, Nat.add_mul]
    rw [<- hlen2]
    exact List.take_left
  ·have holds : ∀ j u, xs[j]? = some u -> w.cell? ((⟨g, 0, none⟩ : Addr).add j) = some u := hown.cells (g := g) rfl
   have hfit := growslice_fits (old := cap) (need := n + m) (bytes := i.bytes) (by omega) hbytes
   have h63' : ¬ (9223372036854775807 < (n : Int) + (m : Int)) := by omega
   have h48' : ¬ (281474976710656 < Builtin.nextslicecap (n + m) cap * i.bytes) := by omega
   have hold := run_firstCells_some (P := P) w.drew i.size n ⟨g, 0, none⟩ n cap xs hlx (by simpa using holds)
   have hgr := grown_row (w := w) (e := e) hlx hl hzs h63 cap
   refine ⟨.slice (some ⟨w.heap.size, 0, none⟩) (n + m) (grownCap w (n + m) cap e), _, ?_, hgr, same_alloc _ _, fun b hb _ => Below.heap_alloc w.drew _ b hb, fun g' hg' => .inr ?_⟩
   ·rcases hu with ⟨e', hu⟩ | hu <;>
     simp [Builtin.append_, run_underlying ht, run_underlying hu, sizeOf, typeInfo, zeroValue, hi, hz, hlen, hroom, h63', h48', Question.forced, hold, hnd, newRow, grownCap] <;>
     rw [<- List.append_toArray, Array.append_assoc]
   ·simp [blk] at hg'
    subst hg'
    exact ⟨Nat.le_refl _, by simp⟩
end Go.Ev
namespace Go.Ev
open Go Go.RowKit
variable [Dr]
structure MR where
 sv : SV
 st : St
 orc : List TV
 ob : List Prop
def rowZero (P : Program) (t : TypeId) : Option (TypeId × Ty) :=
 match P.info? t with
 | some i => match i.zero with
  | some (.slice none 0 0) => elemOf0 P t
  | _ => none
 | none => none
where
 elemOf0 (P : Program) (t : TypeId) : Option (TypeId × Ty) :=
  match P.underlying t with
  | some (.slice e) => match ty P e with
   | some u => bif Nat.beq u.cells 0 then none else some (e, u)
   | none => none
  | _ => none
def arrZero (P : Program) (t : TypeId) : Option (Nat × Ty) :=
 match P.info? t, arrTy P t with
 | some i, some (n, .int k) => match i.zero with
  | some (.agg cs) => match zeroInts k n cs.toList && Nat.ble n maxLen with
   | true => some (n, .int k)
   | false => none
  | _ => none
 | _, _ => none
where
 zeroInts (k : IntKind) : Nat -> List Value -> Bool
  | 0, [] => true
  | n + 1, .int k' x :: l => kbeq k k' && (x == 0 && zeroInts k n l)
  | _, _ => false
def bldZero (P : Program) (t : TypeId) : Option TypeId :=
 match P.info? t, P.underlying t with
 | some i, some (.struct fs) => match i.zero, fs.toList with
  | some (.agg cs), [_, f1] => match cs.toList, rowZero.elemOf0 P f1.type with
   | [.pointer none, .slice none 0 0], some (e, .int .u8) => some e
   | _, _ => none
  | _, _ => none
 | _, _ => none
def rowOK (st : St) : SV -> Bool
 | .row r => (look st.rw r).isSome
 | .osl b => isRR (look st.bx b)
 | .iter b => isMp (look st.bx b)
 | _ => true
def litParts (st : St) (u : Ty) : Nat -> List (Nat × Operand) -> Option (List u.el)
 | _, [] => some []
 | k, (i, o) :: r => match Nat.beq i k, getTV st o with
  | true, some v => match v.as u, litParts st u (k + 1) r with
   | some x, some xs => some (x :: xs)
   | _, _ => none
  | _, _ => none
def elemOf? (P : Program) (t : TypeId) : Option (TypeId × Ty) :=
 match P.underlying t with
 | some (.slice e) => match ty P e with
  | some u => bif Nat.beq u.cells 0 then none else some (e, u)
  | none => none
 | _ => none
def baseRow (P : Program) (st : St) (d : Nat) (t : TypeId) : Operand -> Option (Nat × RowC)
 | .const (.slice none 0 0) => match elemOf? P t with
  | some (e, u) => some (d, ⟨e, u, []⟩)
  | none => none
 | x => match getSV st x with
  | some (.row r) => match look st.rw r with
   | some c => some (r, c)
   | none => none
  | _ => none
def bytesEl (s : List UInt8) : List Int := s.map fun b => (b.toNat : Int)
def srcList (P : Program) (st : St) (u : Ty) (t : TypeId) (x : Operand) : Option (List u.el) :=
 match getSV st x with
 | some (.row r) => match P.underlying t with
  | some (.slice _) => match look st.rw r with
   | some c => TV.as ⟨.sl c.t, c.xs⟩ (.sl u)
   | none => none
  | _ => none
 | some (.val (.sl t') xs) => match P.underlying t with
  | some (.slice _) => TV.as ⟨.sl t', xs⟩ (.sl u)
  | _ => none
 | some (.val .str s) => match P.underlying t with
  | some .string => TV.as ⟨.sl (.int .u8), bytesEl s⟩ (.sl u)
  | _ => none
 | _ => none
def bytesOK (P : Program) (e : TypeId) : Bool :=
 match P.info? e with
 | some i => Nat.ble i.bytes 65536
 | none => false
def runeAt (s : List UInt8) (p : Nat) : Int := ((Utf8.decode (bytesOf s) p).1 : Int)
def widthAt (s : List UInt8) (p : Nat) : Nat := (Utf8.decode (bytesOf s) p).2
def hintOK (st : St) : Option Operand -> Bool
 | none => true
 | some x => (intOf? (getSV st x)).isSome
def evM (P : Program) (st : St) (o : Oper) (d : Nat) (orc : List TV) : Option MR :=
 match o.op with
 | .move (.const (.slice none 0 0)) => match elemOf? P o.type with
  | some (e, u) => some ⟨.row d, st.addRow d ⟨e, u, []⟩, orc, []⟩
  | none => none
 | .assign (.const (.slice none 0 0)) => match elemOf? P o.type with
  | some (e, u) => some ⟨.row d, st.addRow d ⟨e, u, []⟩, orc, []⟩
  | none => none
 | .alloc t => match arrZero P t with
  | some (n, u) => some ⟨.rptr d 0 0 u.cells, st.addRow d ⟨t, u, List.replicate n (zeroEl u)⟩, orc, []⟩
  | none => match rowZero P t with
  | some (e, u) => bif Nat.blt (d + 1000000) keptRow then some ⟨.ptr d 0, (st.addRow (d + 1000000) ⟨e, u, []⟩).addBox d (.cells ([SV.row (d + 1000000)].map (SV.scrub d)) t), orc, []⟩ else none
  | none => match bldZero P t with
   | some e => bif Nat.blt (d + 1000000) keptRow then some ⟨.ptr d 0, (st.addRow (d + 1000000) ⟨e, .int .u8, []⟩).addBox d (.cells [.selfp d, .row (d + 1000000)] t), orc, []⟩ else none
   | none => match zeroOf P t with
   | some u => bif hasArr u then some ⟨.bp d [], st.addBox d (.blk u (zeroEl u) t), orc, []⟩ else some ⟨.ptr d 0, st.addBox d (.cells (leaves u (zeroEl u)) t), orc, []⟩
   | none => none
 | .box t x => match ty P t, getSV st x with
  | some u, some s => match cellsSV u s, rowOK st s with
   | some l, true => some ⟨.ptr d 0, st.addBox d (.cells (l.map (SV.scrub d)) t), orc, []⟩
   | _, _ => none
  | _, _ => none
 | .buildSlice t n parts => match elemOf? P t with
  | some (e, u) => match litParts st u 0 parts.toList with
   | some xs => match Nat.beq xs.length n, Nat.ble (n * u.cells) 16777216, zeroOf P e with
    | true, true, some _ => some ⟨.row d, st.addRow d ⟨e, u, xs⟩, orc, []⟩
    | _, _, _ => none
   | none => none
  | none => none
 | .build t parts => match ty P t, P.underlying t, P.info? t with
  | some (.arr n u), some (.array _ e), some i => match litParts st u 0 parts.toList, ty P e, i.zero with
   | some xs, some u', some z => match Nat.beq xs.length n && u.beq u' && Nat.beq z.cells.size (n * u.cells) with
    | true => some ⟨.val (.arr n u) xs, st, orc, []⟩
    | false => none
   | _, _, _ => none
  | _, _, _ => none
 | .makeSlice t l c => match elemOf? P t, intOf? (getSV st l), intOf? (getSV st c) with
  | some (e, u), some n, some k => match bytesOK P e, zeroOf P e with
   | true, some u' => bif u.beq u' then some ⟨.row d, st.addRow d ⟨e, u, List.replicate n.toNat (zeroEl u)⟩, orc, [0 <= n /\ n <= k /\ k <= (lim : Int)]⟩ else none
   | _, _ => none
  | _, _, _ => none
 | .range t x => match getTV st x, P.underlying t with
  | some ⟨.str, s⟩, some .string => some ⟨.iter d, st.addBox d (.iter s 0), orc, []⟩
  | some ⟨.map k v, y⟩, some (.map _ _) => some ⟨.iter d, st.addBox d (.mit k v ((show Option (List (k.el × v.el)) from y).getD []) []), orc, []⟩
  | _, _ => none
 | .makeMap t r => match P.underlying t with
  | some (.map kt et) => match ty P kt, ty P et with
   | some k, some v => match k.flat && eqOK P 16 kt && hintOK st r with
    | true => some ⟨.iter d, st.addBox d (.mp k v []), orc, []⟩
    | false => none
   | _, _ => none
  | _ => none
 | .next x false => match getSV st x with
  | some (.iter b) => match look st.bx b with
   | some (.mit _ _ left _) => some ⟨.tup [⟨.bool, false⟩], st, orc, [left = []]⟩
   | _ => none
  | _ => none
 | .entry x => match getSV st x with
  | some (.iter b) => match look st.bx b with
   | some (.mit k v _ [p]) => some ⟨.tup [⟨k, p.1⟩, ⟨v, p.2⟩], st, orc, []⟩
   | _ => none
  | _ => none
 | .next x true => match getSV st x, orc with
  | some (.iter b), ⟨.bool, more⟩ :: orc' => match look st.bx b with
   | some (.iter s p) => match more with
    | true => some ⟨.tup [⟨.bool, true⟩, ⟨.int .i64, (p : Int)⟩, ⟨.int .i32, runeAt s p⟩], st.setBox b (.iter s (p + widthAt s p)), orc', [p < s.length]⟩
    | false => some ⟨.tup [⟨.bool, false⟩], st, orc', [s.length <= p]⟩
   | _ => none
  | _, _ => none
 | .convert src dst x => match getTV st x, P.underlying src, elemOf? P dst with
  | some ⟨.str, s⟩, some .string, some (e, .int .i32) => some ⟨.row d, st.addRow d ⟨e, .int .i32, zba s⟩, orc, [s.length <= lim]⟩
  | some ⟨.str, s⟩, some .string, some (_, .int .u8) => some ⟨.val (.sl (.int .u8)) (bytesEl s), st, orc, []⟩
  | _, _, _ => none
 | .makeFunc (.func f) first caps => match first.toList, evM.capsOf st caps.toList with
  | [], some bs => some ⟨.clos f bs, st, orc, []⟩
  | [x], some [] => match getSV st x with
   | some (.ptr b 0) => some ⟨.bclos f b, st, orc, []⟩
   | _ => none
  | _, _ => none
 | .slice t x none (some h) none => match getSV st x, elemOf? P t, intOf? (getSV st h) with
  | some (.row r), some (e, u), some n => match look st.rw r with
   | some c => match Nat.beq c.e e, c.t.beq u, Nat.blt r keptRow with
    | true, true, true => some ⟨.row r, st.addRow r ⟨c.e, c.t, c.xs.take n.toNat⟩, orc, [0 <= n /\ n <= (c.xs.length : Int)]⟩
    | _, _, _ => none
   | none => none
  | _, _, _ => none
 | .slice t x (some l) none none => match getSV st x, intOf? (getSV st l), arrTy P t, orc with
  | some (.rptr r i0 off0 sz), some n, some (len, u), v :: orc' => match look st.rw r with
   | some c => match c.t.beq u && (i0 == 0 && (Nat.beq off0 0 && Nat.beq sz c.t.cells)), v.as (.sl c.t) with
    | true, some ys => some ⟨.val (.sl c.t) ys, st.freeze r c, orc', [sub? c.xs n (c.xs.length : Int) = some ys, c.xs.length = len]⟩
    | _, _ => none
   | none => none
  | _, _, _, _ => none
 | .call c => match c with
  | { callee := .builtin .append, args := args, argTypes := ts } => match args.toList, ts.toList with
   | [s, x], [t, t'] => match elemOf? P t, baseRow P st d t s with
    | some (e, u), some (r, c) => match Nat.beq c.e e, c.t.beq u, bytesOK P e, zeroOf P e, srcList P st c.t t' x with
     | true, true, true, some u', some ys => bif u.beq u' && Nat.blt r keptRow then some ⟨.row r, st.addRow r ⟨c.e, c.t, c.xs ++ ys⟩, orc, [c.xs.length + ys.length <= lim]⟩ else none
     | _, _, _, _, _ => none
    | _, _ => none
   | _, _ => none
  | _ => none
 | _ => none
where
 capsOf (st : St) : List Operand -> Option (List Nat)
  | [] => some []
  | x :: r => match getSV st x, capsOf st r with
   | some (.ptr b 0), some bs => some (b :: bs)
   | _, _ => none
variable {cx : Cx} {m : Nat -> Value} {st : St} {T : Array Value} {w w' : World}
theorem elemOf?_facts {P : Program} {t : TypeId} {e : TypeId} {u : Ty} (h : elemOf? P t = some (e, u)) : P.underlying t = some (.slice e) /\ ty P e = some u /\ 0 < u.cells := by
 unfold elemOf? at h
 split at h
 ·rename_i e' hu
  split at h
  ·rename_i u' hy
   cases hb : Nat.beq u'.cells 0 with
   | true => rw [hb] at h; cases h
   | false => rw [hb] at h; cases h; exact ⟨hu, hy, Nat.pos_of_ne_zero (zao hb)⟩
  ·cases h
 ·cases h
def Makes (cx : Cx) (T : Array Value) (w : World) (o : Oper) (r : MR) : Prop :=
 ∃ v w' m', (execOp (Act.eval ⟨T, []⟩) o).run cx.P w = .ok (.value v) w' /\ Rm cx m' r.st T w' /\ repS w' (Mut cx m' r.st.ids) m' v r.sv
theorem zbk {o : Oper} {s : Sem Value} {v : Value} (he : execOp (Act.eval ⟨T, []⟩) o = (do pure (Next.value (<- s)))) (hs : s.run cx.P w = .ok v w') :
  (execOp (Act.eval ⟨T, []⟩) o).run cx.P w = .ok (.value v) w' := by
 rw [he, Sem.run_bind, hs]
 rfl
theorem fresh_place (h : Rm cx m st T w) : cx.w0.heap.size <= w.heap.size := h.frame.size
theorem new_box (h : Rm cx m st T w) {d : Nat} (hd : d < cx.n) {cells : Array Value} {e : Nat} {l : List SV} (hl : repSs w (Mut cx m st.ids) m cells.toList l) :
  Rm cx (upd m d (.pointer (some ⟨w.heap.size, 0, none⟩))) (st.addBox d (.cells (l.map (SV.scrub d)) e)) T (w.alloc (.cells cells e)) := by
 have hn : Renew cx m st w d (mval w.heap.size (.cells (l.map (SV.scrub d)) e)) (w.alloc (.cells cells e)) :=
  Renew.fresh h d _ (zbj _ _) fun g hg => by cases own_plain hg; exact ⟨Nat.le_refl _, by simp⟩
 have hids : ∀ i, i ∈ (st.addBox d (.cells (l.map (SV.scrub d)) e)).ids -> i = d \/ i ∈ st.ids := by
  intro i hi
  rw [addBox_ids] at hi
  rcases List.mem_cons.1 hi with hi | hi
  ·exact .inl hi
  ·exact .inr ((scrub_ids st d i).1 hi).1
 refine h.addBox hd hn (.inl (fresh_place h)) ⟨cells, heap_alloc_new w _, ?_⟩
 exact repSs_map (fun v s hh => repS_scrub d _ (zap hn.keeps (hn.mut hids) hh : repS _ (Mut cx _ _) m v s)) hl
theorem addRow_ids {r : Nat} {c : RowC} : ∀ i, i ∈ (st.addRow r c).ids -> i = r \/ i ∈ st.ids := by
 intro i hi
 rcases (addRow_mem st r c i).1 hi with hi | hi
 ·exact .inl hi
 ·exact .inr ((scrub_ids st r i).1 hi).1
theorem leaves_scrub (d : Nat) : ∀ (t : Ty) (x : t.el), (leaves t x).map (SV.scrub d) = leaves t x := by
 intro t
 induction t with
 | pair a b iha ihb => intro x; simp only [leaves, List.map_append, iha, ihb]
 | arr n t ih =>
  intro x
  show ((x : List t.el).flatMap (leaves t)).map (SV.scrub d) = (x : List t.el).flatMap (leaves t)
  induction (x : List t.el) with
  | nil => rfl
  | cons y ys ihy => rw [List.flatMap_cons, List.map_append, ih, ihy]
 | _ => intro x; rfl
theorem evM_alloc (h : Rm cx m st T w) {o : Oper} {d : Nat} (hd : d < cx.n) {t : TypeId} {u : Ty} (ho : o.op = .alloc t) (hz : zeroOf cx.P t = some u) {orc : List TV} :
  Makes cx T w o ⟨.ptr d 0, st.addBox d (.cells (leaves u (zeroEl u)) t), orc, []⟩ := by
 obtain ⟨i, z, hu, hi, hs, hzz, hr⟩ := zbd hz
 have := new_box h hd (cells := z.cells) (e := t) (leaves_rep u (hr w (Mut cx m st.ids)))
 rw [leaves_scrub] at this
 refine ⟨_, _, _, zbk (s := Instr.alloc t true (.tuple #[])) (by simp only [execOp, ho]) ?_, this, w.heap.size, zam _ _ _, rfl⟩
 simp [Instr.alloc, zeroValue, typeInfo, hi, hzz, newVar, newRow]
theorem evM_allocBlk (h : Rm cx m st T w) {o : Oper} {d : Nat} (hd : d < cx.n) {t : TypeId} {u : Ty} (ho : o.op = .alloc t) (hz : zeroOf cx.P t = some u) {orc : List TV} :
  Makes cx T w o ⟨.bp d [], st.addBox d (.blk u (zeroEl u) t), orc, []⟩ := by
 obtain ⟨i, z, hu, hi, hs, hzz, hr⟩ := zbd hz
 have hn : Renew cx m st w d (mval w.heap.size (.blk u (zeroEl u) t)) (w.alloc (.cells z.cells t)) :=
  Renew.fresh h d _ (zbj _ _) fun g hg => by cases own_plain hg; exact ⟨Nat.le_refl _, by simp⟩
 refine ⟨.pointer (some ⟨w.heap.size, 0, none⟩), w.alloc (.cells z.cells t), _, zbk (s := Instr.alloc t true (.tuple #[])) (by simp only [execOp, ho]) ?_,
  h.addBox hd hn (.inl h.frame.size) ⟨z.cells, heap_alloc_new w _, hr _ _⟩, w.heap.size, by rw [zam]; rfl, rfl⟩
 simp [Instr.alloc, zeroValue, typeInfo, hi, hzz, newVar, newRow, Value.cells]
theorem evM_box (h : Rm cx m st T w) {o : Oper} {d : Nat} (hd : d < cx.n) {t : TypeId} {u : Ty} {x : Operand} {s : SV} {l : List SV} (ho : o.op = .box t x) (hx : getSV st x = some s) (hl : cellsSV u s = some l) (hrow : rowOK st s = true) {orc : List TV} :
  Makes cx T w o ⟨.ptr d 0, st.addBox d (.cells (l.map (SV.scrub d)) t), orc, []⟩ := by
 have hrow' : ∀ r, s = .row r \/ s = .osl r \/ s = .iter r -> (Act.eval ⟨T, []⟩ x).oneCell' = true := by
  rintro r (rfl | rfl | rfl)
  ·simp only [rowOK] at hrow
   obtain ⟨c', hc'⟩ := Option.isSome_iff_exists.1 hrow
   rw [show Act.eval ⟨T, []⟩ x = m r from za6 h hx]
   exact row_one h (zak hc')
  ·exact osl_one h hrow (za6 h hx)
  ·exact iter_one h hrow (za6 h hx)
 obtain ⟨k1, k2, k3⟩ := cellsSV_sound hrow' (za6 h hx) hl
 have := new_box h hd (cells := (Act.eval ⟨T, []⟩ x).cells) (e := t) k1
 refine ⟨_, _, _, zbk (s := Instr.box t (Act.eval ⟨T, []⟩ x)) (by simp only [execOp, ho]) ?_, this, w.heap.size, zam _ _ _, rfl⟩
 simp [Instr.box, newVar, newRow]
theorem new_row (h : Rm cx m st T w) (d : Nat) (hk : d < cx.n \/ d < keptRow) {cur : Array Value} {cells : List Value} {e cap : Nat} {u : Ty} {xs : List u.el} (w' : World) (hw : Ext w w') (hh : w'.heap[w.heap.size]? = some (.cells cur e (0, 0)))
  (hcap : xs.length <= cap) (hmax : cap <= maxLen) (hcur : cur.size = cap * u.cells) (htk : cur.toList.take (xs.length * u.cells) = cells) (hr : repL (rep w (Mut cx m st.ids) u) cells xs) :
  Rm cx (upd m d (.slice (some ⟨w.heap.size, 0, none⟩) xs.length cap)) (st.addRow d ⟨e, u, xs⟩) T w' := by
 have hn : Renew cx m st w d (.slice (some ⟨w.heap.size, 0, none⟩) xs.length cap) w' :=
  Renew.fresh h d _ hw fun g hg => by cases hg; exact ⟨Nat.le_refl _, heap_lt hh⟩
 have hlen := zaf (fun _ _ => zag u) _ _ hr
 refine h.addRow hk hn (fun g hg => by cases hg; exact .inl (fresh_place h)) ⟨hlen, .inr ⟨w.heap.size, cap, cur, rfl, Nat.zero_le _, hh, hcap, hmax, hcur, htk⟩⟩ (zab (fun _ _ => rep_ext hn.keeps (hn.mut addRow_ids) u) hr)
theorem nil_row (h : Rm cx m st T w) (d e : Nat) (hk : d < cx.n \/ d < keptRow) (u : Ty) : Rm cx (upd m d (.slice none 0 0)) (st.addRow d ⟨e, u, []⟩) T w := by
 have hn : Renew cx m st w d (.slice none 0 0) w := Renew.fresh h d _ (Ext.refl w) fun g hg => by cases hg
 exact h.addRow hk hn (fun g hg => by cases hg) (World.ownsRow_nil w 0 e u.cells) rfl
theorem evM_allocRow (h : Rm cx m st T w) {o : Oper} {d : Nat} (hd : d < cx.n) (hk : d + 1000000 < keptRow) {t e : TypeId} {u : Ty} (ho : o.op = .alloc t) (hz : rowZero cx.P t = some (e, u)) {orc : List TV} :
  Makes cx T w o ⟨.ptr d 0, (st.addRow (d + 1000000) ⟨e, u, []⟩).addBox d (.cells ([SV.row (d + 1000000)].map (SV.scrub d)) t), orc, []⟩ := by
 unfold rowZero at hz
 split at hz
 ·rename_i i hi
  split at hz
  ·rename_i hzz
   have h1 := nil_row h (d + 1000000) e (.inr hk) u
   have := new_box h1 hd (cells := #[.slice none 0 0]) (e := t) (l := [SV.row (d + 1000000)]) ⟨(zam _ _ _).symm, trivial⟩
   refine ⟨_, _, _, zbk (s := Instr.alloc t true (.tuple #[])) (by simp only [execOp, ho]) ?_, this, w.heap.size, zam _ _ _, rfl⟩
   simp [Instr.alloc, zeroValue, typeInfo, hi, hzz, newVar, newRow, Value.cells]
  ·cases hz
 ·cases hz
theorem evM_allocBld (h : Rm cx m st T w) {o : Oper} {d : Nat} (hd : d < cx.n) (hk : d + 1000000 < keptRow) {t e : TypeId} (ho : o.op = .alloc t) (hz : bldZero cx.P t = some e) {orc : List TV} :
  Makes cx T w o ⟨.ptr d 0, (st.addRow (d + 1000000) ⟨e, .int .u8, []⟩).addBox d (.cells [.selfp d, .row (d + 1000000)] t), orc, []⟩ := by
 unfold bldZero at hz
 split at hz
 ·rename_i i fs hi hu
  split at hz
  ·rename_i cs f0 f1 hzz hfs
   split at hz
   ·rename_i e' hcs he
    cases hz
    have hcs' : cs = #[.pointer none, .slice none 0 0] := Array.ext' (by rw [hcs])
    have h1 := nil_row h (d + 1000000) e (.inr hk) (.int .u8)
    have hn : Renew cx (upd m (d + 1000000) (.slice none 0 0)) (st.addRow (d + 1000000) ⟨e, .int .u8, []⟩) w d (mval w.heap.size (.cells [.selfp d, .row (d + 1000000)] t)) (w.alloc (.cells #[.pointer none, .slice none 0 0] t)) :=
     Renew.fresh h1 d _ (zbj _ _) fun g hg => by cases own_plain hg; exact ⟨Nat.le_refl _, by simp⟩
    have := h1.addBox hd hn (.inl (fresh_place h1)) ⟨#[.pointer none, .slice none 0 0], heap_alloc_new w _, .inl rfl, by
     show _ = upd _ d _ (d + 1000000)
     rw [zan _ _ (by omega), zam], trivial⟩
    refine ⟨_, _, _, zbk (s := Instr.alloc t true (.tuple #[])) (by simp only [execOp, ho]) ?_, this, w.heap.size, zam _ _ _, rfl⟩
    simp [Instr.alloc, zeroValue, typeInfo, hi, hzz, newVar, newRow, Value.cells, hcs']
   ·cases hz
  ·cases hz
 ·cases hz
theorem zeroInts_eq {k : IntKind} : ∀ {n : Nat} {l : List Value}, arrZero.zeroInts k n l = true -> l = List.replicate n (.int k 0)
 | 0, [], _ => rfl
 | 0, _ :: _, h => by cases h
 | n + 1, [], h => by cases h
 | n + 1, v :: l, h => by
  cases v <;> simp only [arrZero.zeroInts, Bool.false_eq_true] at h
  simp only [Bool.and_eq_true, beq_iff_eq] at h
  obtain ⟨h1, h2, h3⟩ := h
  rw [<- keq h1, h2, zeroInts_eq h3]
  rfl
theorem zeros_rep {M : Nat -> Prop} {k : IntKind} : ∀ (n : Nat), repL (rep w M (.int k)) (List.replicate n (.int k 0)) (List.replicate n (zeroEl (.int k)))
 | 0 => rfl
 | n + 1 => ⟨[.int k 0], List.replicate n (.int k 0), rfl, rfl, zeros_rep n⟩
theorem evM_allocArr (h : Rm cx m st T w) {o : Oper} {d : Nat} (hd : d < cx.n) {t : TypeId} {n : Nat} {u : Ty} (ho : o.op = .alloc t) (hz : arrZero cx.P t = some (n, u)) {orc : List TV} :
  Makes cx T w o ⟨.rptr d 0 0 u.cells, st.addRow d ⟨t, u, List.replicate n (zeroEl u)⟩, orc, []⟩ := by
 unfold arrZero at hz
 split at hz
 ·rename_i i n' k hi ha
  split at hz
  ·rename_i cs hzz
   split at hz
   ·rename_i hc
    cases hz
    rw [Bool.and_eq_true] at hc
    have hcs := zeroInts_eq hc.1
    have hle := Nat.le_of_ble_eq_true hc.2
    have hsz : cs.size = n := by rw [<- Array.length_toList, hcs, List.length_replicate]
    have := new_row h d (.inl hd) (xs := List.replicate n (zeroEl (.int k))) (cells := cs.toList) (cur := cs) (u := .int k) (e := t) (cap := n) (w.alloc (.cells cs t)) (zbj _ _) (heap_alloc_new w _) (by rw [List.length_replicate]; exact Nat.le_refl _) hle (by rw [hsz]; simp [Ty.cells])
     (by rw [List.length_replicate]; simp only [Ty.cells, Nat.mul_one]; rw [List.take_of_length_le (by rw [Array.length_toList, hsz]; exact Nat.le_refl _)]) (by rw [hcs]; exact zeros_rep n)
    rw [List.length_replicate] at this
    refine ⟨.pointer (some ⟨w.heap.size, 0, none⟩), _, _, zbk (s := Instr.alloc t true (.tuple #[])) (by simp only [execOp, ho]) ?_, this, w.heap.size, _, _, zam _ _ _, by simp⟩
    simp [Instr.alloc, zeroValue, typeInfo, hi, hzz, newVar, newRow, Value.cells]
   ·cases hz
  ·cases hz
 ·cases hz
theorem evM_nil (h : Rm cx m st T w) {o : Oper} {d e : Nat} (hd : d < cx.n) {u : Ty} (ho : o.op = .move (.const (.slice none 0 0)) \/ o.op = .assign (.const (.slice none 0 0))) {orc : List TV} :
  Makes cx T w o ⟨.row d, st.addRow d ⟨e, u, []⟩, orc, []⟩ := by
 refine ⟨.slice none 0 0, w, _, ?_, nil_row h d e (.inl hd) u, (zam _ _ _).symm⟩
 rcases ho with ho | ho <;> simp [execOp, ho, Act.eval]
theorem evM_range (h : Rm cx m st T w) {o : Oper} {d : Nat} (hd : d < cx.n) {t : TypeId} {x : Operand} {s : List UInt8} (ho : o.op = .range t x) (hx : getTV st x = some ⟨.str, s⟩) (ht : cx.P.underlying t = some .string) {orc : List TV} :
  Makes cx T w o ⟨.iter d, st.addBox d (.iter s 0), orc, []⟩ := by
 obtain ⟨hv, _⟩ := za2.1 (za7 h hx)
 have hn : Renew cx m st w d (mval w.heap.size (.iter s 0)) (w.iter (bytesOf s) 0) :=
  Renew.fresh h d _ (zbj _ _) fun g hg => by cases own_plain hg; exact ⟨Nat.le_refl _, by simp [World.iter]⟩
 refine ⟨.pointer (some ⟨w.heap.size, 0, none⟩), w.iter (bytesOf s) 0, _, zbk (s := Instr.range t (.string (bytesOf s))) (by simp only [execOp, ho, hv]; rfl) (run_range_string _ _ _ ht),
  h.addBox hd hn (.inl (fresh_place h)) (World.iter_heap _ _ _), (zam _ _ _).symm⟩
theorem same_setObj (w : World) (g : Nat) (o : Obj) : Same w { w with heap := w.heap.setIfInBounds g o } := ⟨rfl, rfl, rfl, by simp, fun _ => Nat.le_refl _⟩
theorem evM_rangeMap (h : Rm cx m st T w) {o : Oper} {d : Nat} (hd : d < cx.n) {t : TypeId} {x : Operand} {k v : Ty} {y : (Ty.map k v).el} {kt et : TypeId} (ho : o.op = .range t x) (hx : getTV st x = some ⟨.map k v, y⟩) (ht : cx.P.underlying t = some (.map kt et)) {orc : List TV} :
  Makes cx T w o ⟨.iter d, st.addBox d (.mit k v ((show Option (List (k.el × v.el)) from y).getD []) []), orc, []⟩ := by
 have hv := (za3 (t := .map k v) rfl).1 (za7 h hx)
 match y, hv with
 | none, hv =>
  have hv : [Act.eval ⟨T, []⟩ x] = [Value.map none] := hv
  simp only [List.cons.injEq, and_true] at hv
  have hn : Renew cx m st w d (mval w.heap.size (.mit k v [] [])) (w.alloc (.mapIter none 0 #[] 0)) :=
   Renew.fresh h d _ (zbj _ _) fun g hg => by cases own_plain hg; exact ⟨Nat.le_refl _, by simp⟩
  refine ⟨.pointer (some ⟨w.heap.size, 0, none⟩), w.alloc (.mapIter none 0 #[] 0), _, zbk (s := Instr.range t (.map none)) (by simp only [execOp, ho, hv]) ?_,
   h.addBox hd hn (.inl h.frame.size) (.inl ⟨heap_alloc_new w _, rfl, rfl⟩), ?_⟩
  ·simp [Instr.range, run_underlying ht, newObj, Sem.run]
  ·show _ = upd m d _ d
   rw [zam]; rfl
 | some ps, ⟨b, es, clock, e, h1, h2, h3, h4, h5⟩ =>
  simp only [List.cons.injEq, and_true] at e
  have hlt := zad h1
  have hn : Renew cx m st w d (mval w.heap.size (.mit k v ps [])) (w.alloc (.mapIter (some b) clock #[] clock)) :=
   Renew.fresh h d _ (zbj _ _) fun g hg => by cases own_plain hg; exact ⟨Nat.le_refl _, by simp⟩
  have hmut := hn.mut (ids := (st.addBox d (.mit k v ps [])).ids) (fun i hi => by rcases List.mem_cons.1 hi with hi | hi; exact .inl hi; exact .inr ((scrub_ids st d i).1 hi).1)
  refine ⟨.pointer (some ⟨w.heap.size, 0, none⟩), w.alloc (.mapIter (some b) clock #[] clock), _, zbk (s := Instr.range t (.map (some b))) (by simp only [execOp, ho, e]) ?_,
   h.addBox hd hn (.inl h.frame.size) (.inr ⟨b, es, clock, #[], heap_alloc_new w _, ?_, fun hc => h2 (hmut b hlt hc), h3, h4, ?_, .inl rfl⟩), ?_⟩
  ·simp [Instr.range, run_underlying ht, newObj, getObj, Sem.run, h1]
  ·rw [Below.heap_alloc w _ b hlt]; exact h1
  ·have hf : es.toList.filter (fun e => !(#[] : Array Nat).contains e.born) = es.toList := List.filter_eq_self.2 fun a _ => by simp
   rw [hf]
   exact zac (fun _ _ h => zaj hn.keeps hmut h) (fun _ _ h => zaj hn.keeps hmut h) h5
  ·show _ = upd m d _ d
   rw [zam]; rfl
theorem evM_makeMap (h : Rm cx m st T w) {o : Oper} {d : Nat} (hd : d < cx.n) {t : TypeId} {r : Option Operand} {k v : Ty} {kt et : TypeId} (ho : o.op = .makeMap t r) (ht : cx.P.underlying t = some (.map kt et)) (hr : hintOK st r = true) {orc : List TV} :
  Makes cx T w o ⟨.iter d, st.addBox d (.mp k v []), orc, []⟩ := by
 have hn : Renew cx m st w d (mval w.heap.size (.mp k v [])) (w.alloc (.map #[] 0)) :=
  Renew.fresh h d _ (zbj _ _) fun g hg => by cases own_plain hg; exact ⟨Nat.le_refl _, by simp⟩
 refine ⟨.map (some w.heap.size), w.alloc (.map #[] 0), _, zbk (s := Instr.makeMap t (r.map (Act.eval ⟨T, []⟩))) (by simp only [execOp, ho]) ?_,
  h.addBox hd hn (.inl h.frame.size) ⟨#[], 0, heap_alloc_new w _, fun e he => by simp at he, by simp, trivial⟩, ?_⟩
 ·cases r with
  | none => rfl
  | some x =>
   unfold hintOK at hr
   obtain ⟨n, hn'⟩ := Option.isSome_iff_exists.1 hr
   obtain ⟨k', hk⟩ := intOf?_sound h hn'
   simp [Instr.makeMap, run_underlying ht, hk, asInt, asIntOf, newObj, Sem.run]
 ·show _ = upd m d _ d
  rw [zam]; rfl
theorem evM_overMap (h : Rm cx m st T w) {o : Oper} {x : Operand} {b : Nat} {k v : Ty} {left last : List (k.el × v.el)} (ho : o.op = .next x false) (hx : getSV st x = some (.iter b)) (hb : look st.bx b = some (.mit k v left last)) (hl : left = []) {orc : List TV} {ob : List Prop} :
  Makes cx T w o ⟨.tup [⟨.bool, false⟩], st, orc, ob⟩ := by
 subst hl
 obtain ⟨g, e1, _, e3⟩ := h.box (zak hb)
 have hv : Act.eval ⟨T, []⟩ x = .pointer (some ⟨g, 0, none⟩) := by have : Act.eval ⟨T, []⟩ x = m b := za6 h hx; rw [this, e1]; rfl
 rcases e3 with ⟨h1, _⟩ | ⟨mb, es, clock, seen, h1, h2, _, h4, h5, h6, _⟩
 ·refine ⟨.tuple #[.bool false], w, m, zbk (s := Instr.next (.pointer (some ⟨g, 0, none⟩)) false o.type) (by simp only [execOp, ho, hv]) ?_, h, ⟨[.bool false], rfl, za1.2 rfl, trivial⟩⟩
  simp [Instr.next, getObj, Sem.run, h1]
 ·have hnil : es.toList.filter (fun e => !seen.contains e.born) = [] := List.eq_nil_of_length_eq_zero (by rw [repM_len h6]; rfl)
  refine ⟨.tuple #[.bool false], w, m, zbk (s := Instr.next (.pointer (some ⟨g, 0, none⟩)) false o.type) (by simp only [execOp, ho, hv]) ?_, h, ⟨[.bool false], rfl, za1.2 rfl, trivial⟩⟩
  have hnil' : es.filter (fun e => !seen.contains e.born) = #[] := by
   apply Array.toList_inj.1
   rw [Array.toList_filter]
   exact hnil
  simp only [Instr.next, getObj, Sem.run_bind, Sem.run, h1, h2, Result.andThen, next_test_false seen es clock clock h4 (Nat.le_refl _), Bool.false_eq_true, if_false, hnil']
  simp [choose, Sem.run, Question.forced]
theorem find_born : ∀ (l : List MapEntry) (e : MapEntry), (l.map (·.born)).Nodup -> e ∈ l -> l.find? (fun x => x.born == e.born) = some e
 | [], e, _, he => by cases he
 | x :: l, e, hn, he => by
  rw [List.map_cons, List.nodup_cons] at hn
  rw [List.find?_cons]
  by_cases hx : x.born = e.born
  ·rw [show (x.born == e.born) = true from beq_iff_eq.2 hx]
   rcases List.mem_cons.1 he with he | he
   ·rw [he]
   ·exact absurd (List.mem_map.2 ⟨e, he, hx.symm⟩) hn.1
  ·rw [show (x.born == e.born) = false from beq_eq_false_iff_ne.2 hx]
   rcases List.mem_cons.1 he with he | he
   ·exact absurd (by rw [he]) hx
   ·exact find_born l e hn.2 he
theorem evM_entry (h : Rm cx m st T w) {o : Oper} {x : Operand} {b : Nat} {k v : Ty} {left : List (k.el × v.el)} {p : k.el × v.el} (ho : o.op = .entry x) (hx : getSV st x = some (.iter b)) (hb : look st.bx b = some (.mit k v left [p])) {orc : List TV} :
  Makes cx T w o ⟨.tup [⟨k, p.1⟩, ⟨v, p.2⟩], st, orc, []⟩ := by
 obtain ⟨g, e1, _, e3⟩ := h.box (zak hb)
 have hv : Act.eval ⟨T, []⟩ x = .pointer (some ⟨g, 0, none⟩) := by have : Act.eval ⟨T, []⟩ x = m b := za6 h hx; rw [this, e1]; rfl
 rcases e3 with ⟨_, _, h1⟩ | ⟨mb, es, clock, seen, h1, h2, _, h4, h5, h6, h7⟩
 ·cases h1
 ·rcases h7 with h7 | ⟨e, q, a1, a2, a3, a4, a5⟩
  ·cases h7
  ·cases a1
   refine ⟨.tuple #[e.key, e.val], w, m, zbk (s := Instr.entry (.pointer (some ⟨g, 0, none⟩))) (by simp only [execOp, ho, hv]) ?_, h, ⟨[e.key, e.val], rfl, a4, a5, trivial⟩⟩
   have hfind : es.find? (fun x => x.born == e.born) = some e := by rw [<- Array.find?_toList]; exact find_born es.toList e h5 a2
   simp [Instr.entry, getObj, Sem.run, h1, h2, a3, hfind]
theorem evM_next (h : Rm cx m st T w) {o : Oper} {x : Operand} {b p : Nat} {s : List UInt8} (ho : o.op = .next x true) (hx : getSV st x = some (.iter b)) (hb : look st.bx b = some (.iter s p)) {orc : List TV} :
  (p < s.length -> Makes cx T w o ⟨.tup [⟨.bool, true⟩, ⟨.int .i64, (p : Int)⟩, ⟨.int .i32, runeAt s p⟩], st.setBox b (.iter s (p + widthAt s p)), orc, [p < s.length]⟩) /\
  (s.length <= p -> Makes cx T w o ⟨.tup [⟨.bool, false⟩], st, orc, [s.length <= p]⟩) := by
 have hv : Act.eval ⟨T, []⟩ x = m b := za6 h hx
 have hbm := zak hb
 obtain ⟨g, hg1, _, hh⟩ := h.box hbm
 have hh : w.heap[g]? = some (.stringIter (bytesOf s) p) := hh
 have hg1 : m b = .pointer (some ⟨g, 0, none⟩) := hg1
 constructor
 ·intro hlt
  have hlt' : p < (bytesOf s).size := by rw [za5]; exact hlt
  have hn : Touch m w b { w with heap := w.heap.setIfInBounds g (.stringIter (bytesOf s) (p + widthAt s p)) } :=
   ⟨same_setObj _ _ _, fun k _ hne => by
    show (w.heap.setIfInBounds g _)[k]? = _
    rw [Array.getElem?_setIfInBounds_ne]
    intro e
    exact hne (by rw [hg1, e]; rfl)⟩
  refine ⟨.tuple #[.bool true, .int .i64 p, .int .i32 (runeAt s p)], _, m, zbk (s := Instr.next (.pointer (some ⟨g, 0, none⟩)) true o.type) (by simp only [execOp, ho, hv, hg1]) ?_,
   h.setBox hbm hn (g := g) hg1 ?_, ⟨[.bool true, .int .i64 p, .int .i32 (runeAt s p)], rfl, za1.2 rfl, za0.2 rfl, za0.2 rfl, trivial⟩⟩
  ·simp [Instr.next, getObj, setObj, Sem.run, hh, hlt', goInt, runeAt, widthAt]
  ·show (w.heap.setIfInBounds g _)[g]? = _
   rw [Array.getElem?_setIfInBounds_self_of_lt (heap_lt hh)]
 ·intro hle
  have hlt' : ¬ p < (bytesOf s).size := by rw [za5]; omega
  refine ⟨.tuple #[.bool false], w, m, zbk (s := Instr.next (.pointer (some ⟨g, 0, none⟩)) true o.type) (by simp only [execOp, ho, hv, hg1]) ?_, h, ⟨[.bool false], rfl, za1.2 rfl, trivial⟩⟩
  simp [Instr.next, getObj, Sem.run, hh, hlt']
end Go.Ev
namespace Go.Ev
open Go Go.RowKit
variable [Dr]
variable {cx : Cx} {m : Nat -> Value} {st : St} {T : Array Value} {w w' : World}
theorem fill_lit (h : Rm cx m st T w) {u : Ty} : ∀ (parts : List (Nat × Operand)) (k : Nat) (xs : List u.el) (pre old : List Value), litParts st u k parts = some xs -> pre.length = k * u.cells -> old.length = xs.length * u.cells ->
  ∃ cells, Instr.fill (fun i => some (i * u.cells, u.cells)) (pre ++ old).toArray (parts.map fun p => (p.1, Act.eval ⟨T, []⟩ p.2)) = some (pre ++ cells).toArray /\ repL (rep w (Mut cx m st.ids) u) cells xs
 | [], k, xs, pre, old, hp, _, hold => by
  cases hp
  have : old = [] := List.eq_nil_of_length_eq_zero (by simpa using hold)
  subst this
  exact ⟨[], rfl, rfl⟩
 | (i, o) :: r, k, xs, pre, old, hp, hpre, hold => by
  unfold litParts at hp
  split at hp
  ·rename_i v hk hv
   split at hp
   ·rename_i x xs' hx hxs
    cases hp
    have hk' := Nat.eq_of_beq_eq_true hk
    subst hk'
    have hvv := zai (za7 h hv)
    have e := TV.as_some hx
    subst e
    have hvl := zag u hvv
    have hsz : (Act.eval ⟨T, []⟩ o).cells.size = u.cells := by rw [<- hvl]; simp
    have hold' : old.length = (xs'.length + 1) * u.cells := hold
    obtain ⟨o1, o2, rfl, ho1⟩ : ∃ o1 o2, old = o1 ++ o2 /\ o1.length = u.cells := ⟨old.take u.cells, old.drop u.cells, (List.take_append_drop _ _).symm, by rw [List.length_take, hold', Nat.succ_mul]; omega⟩
    have ho2 : o2.length = xs'.length * u.cells := by
     rw [List.length_append, Nat.succ_mul] at hold'
     omega
    obtain ⟨cells, hf, hr⟩ := fill_lit h r (i + 1) xs' (pre ++ (Act.eval ⟨T, []⟩ o).cells.toList) o2 hxs (by rw [List.length_append, hpre, hvl, Nat.succ_mul]) ho2
    refine ⟨(Act.eval ⟨T, []⟩ o).cells.toList ++ cells, ?_, (Act.eval ⟨T, []⟩ o).cells.toList, cells, rfl, hvv, hr⟩
    rw [List.map_cons, Instr.fill]
    have hfit : ¬ (((Act.eval ⟨T, []⟩ o).cells.size ≠ u.cells || decide (i * u.cells + (Act.eval ⟨T, []⟩ o).cells.size > (pre ++ (o1 ++ o2)).toArray.size)) = true) := by
     simp only [hsz, List.size_toArray, List.length_append, hpre, ho1]
     simp
    simp only []
    rw [if_neg hfit]
    have hlay := lay_part0 (Act.eval ⟨T, []⟩ o).cells.toList pre o2 o1 (by rw [ho1, hvl])
    rw [hpre, Array.toArray_toList] at hlay
    rw [<- List.append_assoc, hlay, hf]
    simp
   ·cases hp
  ·cases hp
theorem evM_lit (h : Rm cx m st T w) {o : Oper} {d : Nat} (hd : d < cx.n) {t e : TypeId} {u u' : Ty} {n : Nat} {parts : Array (Nat × Operand)} {xs : List u.el} (ho : o.op = .buildSlice t n parts) (he : elemOf? cx.P t = some (e, u))
  (hx : litParts st u 0 parts.toList = some xs) (hn : xs.length = n) (hcap : n * u.cells <= 16777216) (hz : zeroOf cx.P e = some u') {orc : List TV} :
  Makes cx T w o ⟨.row d, st.addRow d ⟨e, u, xs⟩, orc, []⟩ := by
 obtain ⟨hu, hty, hp⟩ := elemOf?_facts he
 obtain ⟨i, z, _, hi, hs, hzz, _⟩ := zbd hz
 have hsz : i.size = u.cells := by
  obtain ⟨i2, hi2, hs2, _⟩ := zav hty
  rw [hi] at hi2
  cases hi2
  exact hs2
 obtain ⟨cells, hf, hr⟩ := fill_lit h parts.toList 0 xs [] ((Array.range (n * u.cells)).map ((if n * u.cells = 0 then #[] else z.cells)[· % (if n * u.cells = 0 then #[] else z.cells).size]!)).toList hx (by simp) (by simp [hn])
 have hlen := zaf (fun _ _ => zag u) _ _ hr
 have hmax : xs.length <= maxLen := by
  have : xs.length <= xs.length * u.cells := Nat.le_mul_of_pos_right _ hp
  have h2 : (16777216 : Nat) <= maxLen := by decide
  rw [hn] at this ⊢
  omega
 have hrow := new_row h d (.inl hd) (cur := cells.toArray) (cells := cells) (e := e) (cap := xs.length) (w.alloc (.cells cells.toArray e)) (zbj _ _) (heap_alloc_new w _) (Nat.le_refl _) hmax (by simp [hlen]) (by rw [<- hlen]; simp) hr
 refine ⟨.slice (some ⟨w.heap.size, 0, none⟩) n n, _, _, zbk (s := Instr.buildSlice t n (parts.map fun p => (p.1, Act.eval ⟨T, []⟩ p.2))) (by simp only [execOp, ho]) ?_, hrow, by show _ = upd _ _ _ _; rw [zam, hn]⟩
 have hcap' : ¬ (n * u.cells > 2 ^ 24) := by omega
 have hf' : Instr.fill (fun i => some (i * u.cells, u.cells)) ((Array.range (n * u.cells)).map ((if n * u.cells = 0 then #[] else z.cells)[· % (if n * u.cells = 0 then #[] else z.cells).size]!)) (parts.map fun p => (p.1, Act.eval ⟨T, []⟩ p.2)).toList = some cells.toArray := by
  rw [List.nil_append, List.nil_append, Array.toArray_toList] at hf
  rw [Array.toList_map]
  exact hf
 simp only [Instr.buildSlice, Sem.run_bind, run_underlying hu, Result.andThen_ok, zaw hty, if_neg hcap']
 by_cases h0 : n * u.cells = 0
 ·rw [if_pos h0]
  rw [if_pos h0] at hf'
  simp only [Sem.run_pure, Result.andThen_ok, hf', Sem.run_bind, newRow, run_newObj_alloc]
 ·rw [if_neg h0]
  rw [if_neg h0] at hf'
  have hzv : (zeroValue e).run cx.P w = .ok z w := by simp [zeroValue, typeInfo, hi, hzz]
  simp only [Sem.run_bind, hzv, Sem.run_pure, Result.andThen_ok, hf', newRow, run_newObj_alloc]
theorem evM_buildArr (h : Rm cx m st T w) {o : Oper} {t e : TypeId} {u : Ty} {n : Nat} {parts : Array (Nat × Operand)} {xs : List u.el} {i : TypeInfo} {z : Value} (ho : o.op = .build t parts) (ht : ty cx.P t = some (.arr n u)) (hi : cx.P.info? t = some i) (hz : i.zero = some z)
  (hu : cx.P.underlying t = some (.array n e)) (hty : ty cx.P e = some u) (hx : litParts st u 0 parts.toList = some xs) (hn : xs.length = n) (hzs : z.cells.size = n * u.cells) {orc : List TV} :
  Makes cx T w o ⟨.val (.arr n u) xs, st, orc, []⟩ := by
 obtain ⟨cells, hf, hr⟩ := fill_lit h parts.toList 0 xs [] z.cells.toList hx (by simp) (by simp [hzs, hn])
 rw [List.nil_append, List.nil_append, Array.toArray_toList] at hf
 refine ⟨.agg cells.toArray, w, m, zbk (s := Instr.build t (parts.map fun p => (p.1, Act.eval ⟨T, []⟩ p.2))) (by simp only [execOp, ho]) ?_, h, (za4 (t := .arr n u) rfl).2 ⟨cells, rfl, hn, hr⟩⟩
 have hzv : (zeroValue t).run cx.P w = .ok z w := by simp [zeroValue, typeInfo, hi, hz]
 have hf' : Instr.fill (fun i => some (i * u.cells, u.cells)) z.cells (parts.map fun p => (p.1, Act.eval ⟨T, []⟩ p.2)).toList = some cells.toArray := by rw [Array.toList_map]; exact hf
 simp only [Instr.build, Sem.run_bind, hzv, Result.andThen_ok, run_underlying hu, zaw hty, hf', Sem.run_pure]
theorem made_succ {z : Array Value} {sz : Nat} (hlen : z.size = sz) (n : Nat) : (madeCells z ((n + 1) * sz)).toList = z.toList ++ (madeCells z (n * sz)).toList := by
 apply List.ext_getElem?
 intro j
 by_cases hj : j < z.toList.length
 ·rw [List.getElem?_append_left hj]
  have hj' : j < sz := by rw [<- hlen]; simpa using hj
  have hj2 : j < (n + 1) * sz := by rw [Nat.succ_mul]; omega
  have hjz : j < z.size := by rw [hlen]; exact hj'
  simp only [madeCells, Array.toList_map, Array.toList_range, List.getElem?_map, List.getElem?_range hj2, Option.map_some, hlen, Nat.mod_eq_of_lt hj']
  rw [getElem!_pos z j hjz]
  simp [hjz]
 ·rw [List.getElem?_append_right (by omega)]
  have hl : z.toList.length = sz := by simpa using hlen
  rw [hl] at hj ⊢
  by_cases hj2 : j < (n + 1) * sz
  ·have hj3 : j - sz < n * sz := by rw [Nat.succ_mul] at hj2; omega
   simp only [madeCells, Array.toList_map, Array.toList_range, List.getElem?_map, List.getElem?_range hj2, List.getElem?_range hj3, Option.map_some, hlen]
   congr 2
   rw [<- Nat.add_mod_right (j - sz) sz]
   congr 1
   omega
  ·rw [List.getElem?_eq_none (by simp [madeCells]; omega), List.getElem?_eq_none (by simp [madeCells]; rw [Nat.succ_mul] at hj2; omega)]
theorem made_rep {M : Nat -> Prop} {u : Ty} {z : Array Value} {x : u.el} (hz : rep w M u z.toList x) (hp : 0 < u.cells) : ∀ (n : Nat), repL (rep w M u) (madeCells z (n * u.cells)).toList (List.replicate n x) := by
 have hlen : z.size = u.cells := by rw [<- zag u hz]; simp
 intro n
 induction n with
 | zero => show _ = _; simp [madeCells]
 | succ n ih =>
  have e := made_succ hlen n
  rw [e, List.replicate_succ]
  exact ⟨_, _, rfl, hz, ih⟩
theorem bytesOK_facts {P : Program} {e : TypeId} (h : bytesOK P e = true) : ∃ i, P.info? e = some i /\ i.bytes <= 65536 := by
 unfold bytesOK at h
 split at h
 ·rename_i i hi; exact ⟨i, hi, Nat.le_of_ble_eq_true h⟩
 ·cases h
theorem evM_make (h : Rm cx m st T w) {o : Oper} {d : Nat} (hd : d < cx.n) {t e : TypeId} {u : Ty} {l c : Operand} {n k : Int} (ho : o.op = .makeSlice t l c) (he : elemOf? cx.P t = some (e, u)) (hl : intOf? (getSV st l) = some n)
  (hc : intOf? (getSV st c) = some k) (hb : bytesOK cx.P e = true) (hz : zeroOf cx.P e = some u) (hob : 0 <= n /\ n <= k /\ k <= (lim : Int)) {orc : List TV} {ob : List Prop} :
  Makes cx T w o ⟨.row d, st.addRow d ⟨e, u, List.replicate n.toNat (zeroEl u)⟩, orc, ob⟩ := by
 obtain ⟨hu, hty, hp⟩ := elemOf?_facts he
 obtain ⟨i, z, _, hi, hs, hzz, hzr⟩ := zbd hz
 obtain ⟨i2, hi2, hbytes⟩ := bytesOK_facts hb
 rw [hi] at hi2
 cases hi2
 obtain ⟨kl, hkl⟩ := intOf?_sound h hl
 obtain ⟨kc, hkc⟩ := intOf?_sound h hc
 obtain ⟨h0, h1, h2⟩ := hob
 have hlim : (lim : Int) = 2147483648 := rfl
 have hk0 : 0 <= k := by omega
 have hkb : (i.bytes : Int) * k <= 281474976710656 := by
  have h3 : (i.bytes : Int) <= 65536 := by omega
  calc (i.bytes : Int) * k <= 65536 * k := Int.mul_le_mul_of_nonneg_right h3 hk0
   _ <= 281474976710656 := by omega
 have hrun := run_make (P := cx.P) w t e i z hu hi hzz kl kc n k h0 h1 hkb (by omega)
 have hmadeN := made_rep (hzr w (Mut cx m st.ids)) hp n.toNat
 have hlen : (List.replicate n.toNat (zeroEl u)).length = n.toNat := List.length_replicate
 have htk : (madeCells z.cells (k.toNat * i.size)).toList.take ((List.replicate n.toNat (zeroEl u)).length * u.cells) = (madeCells z.cells (n.toNat * u.cells)).toList := by
  rw [hlen, hs]
  simp only [madeCells, Array.toList_map, Array.toList_range, <- List.map_take]
  rw [List.take_range]
  congr 2
  have : n.toNat * u.cells <= k.toNat * u.cells := Nat.mul_le_mul_right _ (by omega)
  omega
 have hrow := new_row h d (.inl hd) (cur := madeCells z.cells (k.toNat * i.size)) (e := e) (cap := k.toNat) (xs := List.replicate n.toNat (zeroEl u)) (w.alloc (.cells (madeCells z.cells (k.toNat * i.size)) e)) (zbj _ _) (heap_alloc_new w _)
  (by rw [hlen]; omega) (by simp only [maxLen]; omega) (by rw [size_madeCells, hs]) htk hmadeN
 refine ⟨_, _, _, zbk (s := Instr.makeSlice t (.int kl n) (.int kc k)) (by simp only [execOp, ho, hkl, hkc]) hrun, hrow, ?_⟩
 show _ = upd _ _ _ _
 rw [zam, hlen]
theorem capsOf_sound (h : Rm cx m st T w) : ∀ {l : List Operand} {bs : List Nat}, evM.capsOf st l = some bs -> l.map (Act.eval ⟨T, []⟩) = bs.map m
 | [], _, hs => by cases hs; rfl
 | x :: r, bs, hs => by
  simp only [evM.capsOf] at hs
  split at hs
  ·rename_i b bs' hx hr
   cases hs
   obtain ⟨g, h1, h2⟩ := za6 h hx
   rw [List.map_cons, List.map_cons, capsOf_sound h hr, h2, h1]
  ·cases hs
theorem evM_func (h : Rm cx m st T w) {o : Oper} {f : Nat} {first caps : Array Operand} {bs : List Nat} (ho : o.op = .makeFunc (.func f) first caps) (hf : first.toList = []) (hc : evM.capsOf st caps.toList = some bs) {orc : List TV} :
  Makes cx T w o ⟨.clos f bs, st, orc, []⟩ := by
 refine ⟨.func (.func f) #[] (bs.map m).toArray, w, m, zbk (s := Instr.makeFunc (.func f) (first.map (Act.eval ⟨T, []⟩)) (caps.map (Act.eval ⟨T, []⟩))) (by simp only [execOp, ho]) ?_, h, rfl⟩
 have e1 : first = #[] := by rw [<- Array.toArray_toList (xs := first), hf]
 have e2 : caps.map (Act.eval ⟨T, []⟩) = (bs.map m).toArray := by
  rw [<- capsOf_sound h hc]
  apply Array.ext'
  simp
 rw [e1, e2, Array.map_empty]
 rfl
theorem evM_bfunc (h : Rm cx m st T w) {o : Oper} {f b : Nat} {first caps : Array Operand} {x : Operand} (ho : o.op = .makeFunc (.func f) first caps) (hf : first.toList = [x]) (hc : evM.capsOf st caps.toList = some []) (hx : getSV st x = some (.ptr b 0)) {orc : List TV} :
  Makes cx T w o ⟨.bclos f b, st, orc, []⟩ := by
 refine ⟨.func (.func f) #[m b] #[], w, m, zbk (s := Instr.makeFunc (.func f) (first.map (Act.eval ⟨T, []⟩)) (caps.map (Act.eval ⟨T, []⟩))) (by simp only [execOp, ho]) ?_, h, rfl⟩
 have e1 : first = #[x] := by rw [<- Array.toArray_toList (xs := first), hf]
 have e2 : caps.map (Act.eval ⟨T, []⟩) = #[] := by
  have := capsOf_sound h hc
  apply Array.ext'
  rw [Array.toList_map, this]
  rfl
 obtain ⟨g, g1, g2⟩ := za6 h hx
 have e3 : #[x].map (Act.eval ⟨T, []⟩) = #[m b] := by
  rw [g1, <- g2]
  simp
 rw [e1, e2, e3]
 rfl
theorem repL_take {M : Nat -> Prop} {t : Ty} : ∀ {xs : List t.el} {cs : List Value} (n : Nat), repL (rep w M t) cs xs -> repL (rep w M t) (cs.take ((xs.take n).length * t.cells)) (xs.take n)
 | [], cs, n, h => by cases h; simp; rfl
 | x :: xs, cs, 0, h => by simp; rfl
 | x :: xs, cs, n + 1, ⟨c1, c2, e, h1, h2⟩ => by
  have hl := zag t h1
  rw [List.take_succ_cons, List.length_cons, Nat.succ_mul, Nat.add_comm, e, <- hl, List.take_append, List.take_of_length_le (by omega)]
  rw [show c1.length + (List.take n xs).length * c1.length - c1.length = (List.take n xs).length * t.cells by rw [<- hl]; omega]
  exact ⟨c1, _, rfl, h1, repL_take n h2⟩
theorem evM_shrink (h : Rm cx m st T w) {o : Oper} {t e : TypeId} {u : Ty} {x hi : Operand} {r : Nat} {c : RowC} {n : Int} (ho : o.op = .slice t x none (some hi) none) (hx : getSV st x = some (.row r)) (he : elemOf? cx.P t = some (e, u))
  (hn : intOf? (getSV st hi) = some n) (hc : look st.rw r = some c) (hce : c.e = e) (hct : c.t = u) (hkr : r < keptRow) (hob : 0 <= n /\ n <= (c.xs.length : Int)) {orc : List TV} {ob : List Prop} :
  Makes cx T w o ⟨.row r, st.addRow r ⟨c.e, c.t, c.xs.take n.toNat⟩, orc, ob⟩ := by
 obtain ⟨hu, hty, hp⟩ := elemOf?_facts he
 obtain ⟨k, hk⟩ := intOf?_sound h hn
 have hv : Act.eval ⟨T, []⟩ x = m r := za6 h hx
 have hcm := zak hc
 obtain ⟨cells, hown, hout, hL⟩ := h.rows r c hcm
 have hri : r ∈ st.ids := List.mem_append.2 (.inr (List.mem_map.2 ⟨_, hcm, rfl⟩))
 have htl : (c.xs.take n.toNat).length = n.toNat := by rw [List.length_take]; omega
 have hat : ∀ v hi', Instr.sliceAt t v none (some hi') none = (do match <- underlying t with
  | .array n elem =>
   let a' <- Instr.sureAddr v
   let (l, h, m) <- Instr.sliceBounds false n n none (some hi') none
   let size <- sizeOf elem
   pure (.slice (some (if m = l then a' else a'.add (l * size))) (h - l) (m - l))
  | _ => Instr.slice t v none (some hi') none) := fun _ _ => rfl
 have hb : ∀ (y : Nat) (cc : BoundsCode) (w : World), n <= y -> (Instr.sliceBound (.int k n) y cc).run cx.P w = .ok n.toNat w := by
  intro y cc w hy
  simp [Instr.sliceBound, asIntOf, hob.1, hy]
 have run : ∀ (a : Option Addr) (len cap : Nat) (w' : World), len <= cap -> (len : Int) = c.xs.length -> (Instr.sliceAt t (.slice a len cap) none (some (.int k n)) none).run cx.P w' = .ok (.slice (if cap = 0 then a else a.map (·.add (0 * u.cells))) n.toNat cap) w' := by
  intro a len cap w' hle hlen
  rw [hat, Sem.run_bind, run_underlying hu]
  simp only [Result.andThen_ok, Instr.slice, Sem.run_bind, run_underlying hu, Instr.sliceBounds, Sem.run_pure, zaw hty]
  rw [hb cap _ w' (by omega)]
  simp only [Result.andThen_ok, Sem.run_pure, Sem.run_bind, zaw hty]
  simp
 rcases hown.2 with ⟨hm, hz⟩ | ⟨g, cap, cur, hm, hb0, hh, hle, hmax, hcur, htk⟩
 ·have hn0 : n = 0 := by omega
  have hxs : c.xs.take n.toNat = [] := by rw [hn0]; rfl
  refine ⟨.slice none 0 0, w, upd m r (.slice none 0 0), zbk (s := Instr.sliceAt t (.slice none 0 0) none (some (.int k n)) none) (by simp only [execOp, ho, hv, hm, Option.map_none, Option.map_some, hk]) ?_, ?_, (zam _ _ _).symm⟩
  ·rw [run none 0 0 w (Nat.le_refl _) (by omega), hn0]
   rfl
  ·rw [hxs]
   exact nil_row h r c.e (.inr hkr) c.t
 ·have hn' : Renew cx m st w r (.slice (some ⟨g, 0, none⟩) n.toNat cap) w :=
   ⟨⟨rfl, rfl, rfl, Nat.le_refl _, fun _ => Nat.le_refl _⟩, fun _ _ _ => rfl, fun g' hg' => .inl ⟨hri, by cases hg'; rw [hm]; rfl⟩⟩
  refine ⟨.slice (some ⟨g, 0, none⟩) n.toNat cap, w, _, zbk (s := Instr.sliceAt t (.slice (some ⟨g, 0, none⟩) c.xs.length cap) none (some (.int k n)) none) (by simp only [execOp, ho, hv, hm, Option.map_none, Option.map_some, hk]) ?_,
   h.addRow (.inr hkr) hn' (fun g' hg' => by cases hg'; exact hout g (by rw [hm]; rfl)) (cells := cells.take ((c.xs.take n.toNat).length * c.t.cells)) ⟨by rw [List.length_take, hown.1, Nat.min_eq_left]; exact Nat.mul_le_mul_right _ (by rw [List.length_take]; omega), .inr ⟨g, cap, cur, by simp only [htl], hb0, hh, by simp only [htl]; omega, hmax, hcur, ?_⟩⟩
    (zab (fun _ _ => rep_ext hn'.keeps (hn'.mut addRow_ids) c.t) (repL_take n.toNat hL)), (zam _ _ _).symm⟩
  ·rw [run (some ⟨g, 0, none⟩) c.xs.length cap w hle rfl]
   congr 2
   split
   ·rfl
   ·simp [Addr.add]
  ·simp only []
   rw [<- htk, List.take_take, Nat.min_eq_left]
   exact Nat.mul_le_mul_right _ (by rw [List.length_take]; omega)
end Go.Ev
namespace Go.Ev
open Go Go.RowKit
variable [Dr]
variable {cx : Cx} {m : Nat -> Value} {st : St} {T : Array Value} {w w' : World}
theorem bytes_rep {M : Nat -> Prop} (s : List UInt8) : repL (rep w M (.int .u8)) ((bytesEl s).map (Value.int .u8)) (bytesEl s) := by
 unfold bytesEl
 induction s with
 | nil => rfl
 | cons b s ih => exact ⟨[_], _, rfl, rfl, ih⟩
theorem cells_load {P : Program} {a : Addr} {news : List Value} (h : ∀ j u, news[j]? = some u -> w.cell? (a.add j) = some u) {n size : Nat} (hl : news.length = n * size) :
  ∀ w', (∀ b, b < w.heap.size -> w'.heap[b]? = w.heap[b]?) -> (loadCells a (n * size)).run P w' = .ok news.toArray w' := by
 intro w' hw
 rw [<- hl]
 refine run_cells (w := w') fun j u hj => ?_
 have hc := h j u hj
 rw [World.cell?_of_block (w := w) (hw _ (World.block_lt_of_cell? w _ hc))]
 exact hc
theorem str_src {P : Program} (s : List UInt8) : Builtin.lenOf (.string (bytesOf s)) = pure (bytesEl s).length /\
  ∀ w, (Builtin.firstCells (Ty.int .u8).cells (bytesEl s).length (.string (bytesOf s))).run P w = .ok ((bytesEl s).map (Value.int .u8)).toArray w := by
 constructor
 ·show pure (bytesOf s).size = _
  rw [za5]
  simp [bytesEl]
 ·intro w
  show Sem.run P (pure (((bytesOf s).extract 0 (bytesEl s).length).data.map fun b => Value.int .u8 b.toNat)) w = _
  rw [Sem.run_pure]
  congr 1
  apply Array.ext'
  rw [Array.toList_map, Lib.extract_data]
  simp [bytesOf, bytesEl]
theorem src_facts (h : Rm cx m st T w) {u : Ty} {t : TypeId} {x : Operand} {ys : List u.el} (hs : srcList cx.P st u t x = some ys) :
  ((∃ e', cx.P.underlying t = some (.slice e')) \/ cx.P.underlying t = some .string) /\
  ∃ news : List Value, Builtin.lenOf (Act.eval ⟨T, []⟩ x) = pure ys.length /\
   (∀ w', (∀ b, b < w.heap.size -> w'.heap[b]? = w.heap[b]?) -> (Builtin.firstCells u.cells ys.length (Act.eval ⟨T, []⟩ x)).run cx.P w' = .ok news.toArray w') /\ repL (rep w (Mut cx m st.ids) u) news ys := by
 unfold srcList at hs
 split at hs
 ·rename_i r hx
  split at hs
  case h_2 => cases hs
  rename_i e' ht
  refine ⟨.inl ⟨e', ht⟩, ?_⟩
  split at hs
  ·rename_i c hc
   have hcm := zak hc
   obtain ⟨ce, ct, cxs⟩ := c
   have e := TV.as_some hs
   cases e
   obtain ⟨cells, hown, _, hL⟩ := h.rows r _ hcm
   have hv : Act.eval ⟨T, []⟩ x = m r := za6 h hx
   rcases hown.2 with ⟨hm, hz⟩ | ⟨g, cap, cur, hm, _⟩
   ·have hxs : cxs = [] := List.eq_nil_of_length_eq_zero hz
    subst hxs
    cases hL
    exact ⟨[], by rw [hv, hm]; rfl, fun w' _ => by rw [hv, hm]; rfl, rfl⟩
   ·refine ⟨cells, by rw [hv, hm]; rfl, fun w' hw => ?_, hL⟩
    rw [hv, hm]
    exact cells_load (hown.cells (g := g) (by rw [hm]; rfl)) hown.1 w' hw
  ·cases hs
 ·rename_i t' xs hx
  have hex : ∃ e', cx.P.underlying t = some (.slice e') := by
   cases hd : cx.P.underlying t with
   | none => rw [hd] at hs; exact absurd hs (by simp)
   | some du =>
    rw [hd] at hs
    cases du <;> first | exact ⟨_, rfl⟩ | exact absurd hs (by simp)
  obtain ⟨e', ht⟩ := hex
  rw [ht] at hs
  refine ⟨.inl ⟨e', ht⟩, ?_⟩
  have e := TV.as_some hs
  cases e
  obtain ⟨a, cap, cells, hc, hcap, _, hnil, hL, hcell⟩ := (za3 (t := .sl u) rfl).1 (za6 h hx)
  simp only [List.cons.injEq, and_true] at hc
  have hlen := zaf (fun _ _ => zag u) _ _ hL
  cases a with
  | none =>
   have h0 : cap = 0 := hnil rfl
   have hxs : ys = [] := List.eq_nil_of_length_eq_zero (by have : List.length ys <= cap := hcap; omega)
   subst hxs
   cases hL
   exact ⟨[], by rw [hc]; rfl, fun w' _ => by rw [hc]; rfl, rfl⟩
  | some b =>
   refine ⟨cells, by rw [hc]; rfl, fun w' hw => ?_, hL⟩
   rw [hc]
   refine cells_load (fun j v hj => ?_) hlen w' hw
   obtain ⟨b', hb, hc', _⟩ := hcell j v hj
   cases hb
   exact hc'
 ·rename_i s hx
  have ht : cx.P.underlying t = some .string := by
   cases hd : cx.P.underlying t with
   | none => rw [hd] at hs; exact absurd hs (by simp)
   | some du =>
    rw [hd] at hs
    cases du <;> first | rfl | exact absurd hs (by simp)
  rw [ht] at hs
  refine ⟨.inr ht, ?_⟩
  have e := TV.as_some hs
  cases e
  obtain ⟨hv, _⟩ := za2.1 (za6 h hx)
  exact ⟨(bytesEl s).map (Value.int .u8), by rw [hv]; exact (str_src (P := cx.P) s).1, fun w' _ => by rw [hv]; exact (str_src (P := cx.P) s).2 w', bytes_rep s⟩
 ·cases hs
theorem evM_append (h : Rm cx m st T w) {o : Oper} {d : Nat} {args : Array Operand} {ts : Array TypeId} {s x : Operand} {t t' e r : Nat} {u : Ty} {c : RowC} {ys : List c.t.el}
  (ho : o.op = .call { callee := .builtin .append, args := args, argTypes := ts }) (ha : args.toList = [s, x]) (hts : ts.toList = [t, t']) (he : elemOf? cx.P t = some (e, u)) (hbase : baseRow cx.P st d t s = some (r, c))
  (hce : c.e = e) (hct : c.t = u) (hb : bytesOK cx.P e = true) (hz : zeroOf cx.P e = some u) (hsrc : srcList cx.P st c.t t' x = some ys) (hkr : r < keptRow) (hob : c.xs.length + ys.length <= lim) {orc : List TV} {ob : List Prop} :
  Makes cx T w o ⟨.row r, st.addRow r ⟨c.e, c.t, c.xs ++ ys⟩, orc, ob⟩ := by
 obtain ⟨hu, hty, hp⟩ := elemOf?_facts he
 obtain ⟨i, z, _, hi, hsz, hzz, hzr⟩ := zbd hz
 obtain ⟨i2, hi2, hbytes⟩ := bytesOK_facts hb
 rw [hi] at hi2
 cases hi2
 obtain ⟨hu', news, hlen, hfirst, hL⟩ := src_facts h hsrc
 -- the base
 obtain ⟨v, hv, cells, hown, hout, hrep, hblk⟩ : ∃ v, Act.eval ⟨T, []⟩ s = v /\ ∃ cells, w.ownsRow 0 c.e c.t.cells v c.xs.length cells /\ (∀ g, own v g -> cx.w0.heap.size <= g \/ cx.X g) /\
   repL (rep w (Mut cx m st.ids) c.t) cells c.xs /\ ∀ g, own v g -> r ∈ st.ids /\ own (m r) g := by
  unfold baseRow at hbase
  split at hbase
  ·rename_i hsz'
   split at hbase
   ·rename_i e' u' he'
    cases hbase
    refine ⟨.slice none 0 0, rfl, [], World.ownsRow_nil w 0 _ _, ?_, rfl, ?_⟩
    ·intro g hg; cases hg
    ·intro g hg; cases hg
   ·cases hbase
  ·split at hbase
   ·rename_i r' hx
    split at hbase
    ·rename_i c' hc'
     cases hbase
     have hcm := zak hc'
     obtain ⟨cells, h1, h2, h3⟩ := h.rows r c hcm
     exact ⟨m r, za6 h hx, cells, h1, h2, h3, fun g hg => ⟨List.mem_append.2 (.inr (List.mem_map.2 ⟨_, hcm, rfl⟩)), hg⟩⟩
    ·cases hbase
   ·cases hbase
 have hszc : i.size = c.t.cells := by rw [hct]; exact hsz
 have hzs : z.cells.size = i.size := by
  rw [hsz, <- zag u (hzr w (Mut cx m st.ids))]
  simp
 have hl : news.length = ys.length * i.size := by rw [hszc]; exact zaf (fun _ _ => zag c.t) _ _ hL
 have hone : ∀ v ∈ news, v.oneCell' = true := by
  have key : ∀ (cs : List Value) (xs : List c.t.el), repL (rep w (Mut cx m st.ids) c.t) cs xs -> ∀ v ∈ cs, v.oneCell' = true := by
   intro cs xs
   induction xs generalizing cs with
   | nil => intro hh v hv; cases hh; simp at hv
   | cons y ys ih =>
    rintro ⟨c1, c2, rfl, h1, h2⟩ v hv
    rcases List.mem_append.1 hv with hv | hv
    ·exact zah c.t h1 v hv
    ·exact ih _ h2 v hv
  exact key news ys hL
 have hle : c.xs.length + ys.length <= maxLen := Nat.le_trans hob lim_max
 have hby : (c.xs.length + ys.length) * i.bytes <= 140737488355328 := by
  have h1 : c.xs.length + ys.length <= 2147483648 := hob
  calc (c.xs.length + ys.length) * i.bytes <= 2147483648 * 65536 := Nat.mul_le_mul h1 hbytes
   _ = 140737488355328 := by decide
 obtain ⟨v', w', hrun, hown', hsame, hkeep, hplace⟩ := run_append_gen (P := cx.P) (w := w) t t' o.type e i z hu hu' hi hzz hzs (Act.eval ⟨T, []⟩ x) ys.length news hlen
  (by rw [hszc]; exact hfirst) hl hone v c.xs.length cells (by rw [hszc, <- hce]; exact hown) hle hby
 have hn : Renew cx m st w r v' w' := ⟨hsame, fun b hb' hne => hkeep b hb' fun hbv => hne (hblk b (zal hbv)), fun g hg => by
  rcases hplace g (own_row hown' hg) with h1 | h1
  ·exact .inl (hblk g (zal h1))
  ·exact .inr h1⟩
 have hrow : Rm cx (upd m r v') (st.addRow r ⟨c.e, c.t, c.xs ++ ys⟩) T w' := by
  refine h.addRow (.inr hkr) hn (fun g hg => ?_) (cells := cells ++ news) ?_ ?_
  ·rcases hplace g (own_row hown' hg) with h1 | h1
   ·exact hout g (zal h1)
   ·exact .inl (Nat.le_trans (fresh_place h) h1.1)
  ·simp only [List.length_append]
   rw [<- hszc, hce]
   exact hown'
  ·simp only []
   have app : ∀ (c1 c2 : List Value) (x1 x2 : List c.t.el) (f : List Value -> c.t.el -> Prop), repL f c1 x1 -> repL f c2 x2 -> repL f (c1 ++ c2) (x1 ++ x2) := by
    intro c1 c2 x1 x2 f
    induction x1 generalizing c1 with
    | nil => intro h1 h2; cases h1; exact h2
    | cons y ys ih => rintro ⟨d1, d2, rfl, g1, g2⟩ h2; exact ⟨d1, d2 ++ c2, by simp, g1, ih _ g2 h2⟩
   exact app _ _ _ _ _ (zab (fun _ _ => rep_ext hn.keeps (hn.mut addRow_ids) c.t) hrep) (zab (fun _ _ => rep_ext hn.keeps (hn.mut addRow_ids) c.t) hL)
 have ea : args = #[s, x] := by rw [<- Array.toArray_toList (xs := args), ha]
 have et : ts = #[t, t'] := by rw [<- Array.toArray_toList (xs := ts), hts]
 subst ea
 subst et
 refine ⟨v', w', _, ?_, hrow, (zam _ _ _).symm⟩
 simp only [execOp, ho, resolve, invoke, builtin, Sem.run_bind, Sem.run_pure, Result.andThen_ok, List.map_toArray, List.map_cons, List.map_nil, hv, hrun]
theorem evM_runes (h : Rm cx m st T w) {o : Oper} {d : Nat} (hdn : d < cx.n) {src dst e : TypeId} {x : Operand} {s : List UInt8} (ho : o.op = .convert src dst x) (hx : getTV st x = some ⟨.str, s⟩) (hs : cx.P.underlying src = some .string) (hd : elemOf? cx.P dst = some (e, .int .i32))
  {orc : List TV} {ob : List Prop} (hl : s.length <= lim) : Makes cx T w o ⟨.row d, st.addRow d ⟨e, .int .i32, zba s⟩, orc, ob⟩ := by
 obtain ⟨hv, _⟩ := za2.1 (za7 h hx)
 obtain ⟨hu, hte, _⟩ := elemOf?_facts hd
 have he : cx.P.underlying e = some (.int .i32) := by
  obtain ⟨i, _, _, hf⟩ := zav hte
  exact hf
 have hsz : Conv.runesFrom (bytesOf s) (bytesOf s).size 0 #[] = ((zba s).map (Value.int .i32)).toArray := by
  rw [runesFrom_list, za5]
  simp [zba]
 have hlen : (zba s).length <= s.length := runesAt_length s s.length 0
 have hlim : lim <= 70368744177664 := by decide
 have hmx : (zba s).length <= maxLen := Nat.le_trans hlen (Nat.le_trans hl lim_max)
 have hrun := run_runes_of_string (P := cx.P) w src dst e (bytesOf s) hs hu he (by rw [hsz]; simp only [List.size_toArray, List.length_map]; omega)
 rw [hsz] at hrun
 simp only [List.size_toArray, List.length_map] at hrun
 have hge := grownCap_ge w (zba s).length 0 e
 have hcm := grownCap_le_maxLen w (zba s).length 0 e hmx
 refine ⟨_, _, _, zbk (s := convert src dst (.string (bytesOf s))) (by simp only [execOp, ho, hv]; rfl) hrun,
  new_row h d (.inl hdn) (xs := zba s) (cells := (zba s).map (Value.int .i32)) (u := .int .i32) (e := e) _ { os := rfl, tape := rfl, output := rfl, size := by simp, drawn := by first | exact fun _ => Nat.le_refl _ | exact fun _ => Nat.le_succ _, block := fun b hb => Below.heap_alloc w.drew _ b hb } (heap_alloc_new w.drew _) hge hcm ?_ ?_ ?_, (zam _ _ _).symm⟩
 ·simp only [Array.size_append, List.size_toArray, List.length_map, Array.size_replicate, Ty.cells]
  omega
 ·simp only [Array.toList_append, Ty.cells, Nat.mul_one]
  rw [List.take_append_of_le_length (by rw [List.length_map]; exact Nat.le_refl _)]
  rw [List.take_of_length_le (by rw [List.length_map]; exact Nat.le_refl _)]
 ·have : ∀ (l : List Int), repL (rep w (Mut cx m st.ids) (.int .i32)) (l.map (Value.int .i32)) l := by
   intro l
   induction l with
   | nil => rfl
   | cons b s ih => exact ⟨[_], _, rfl, rfl, ih⟩
  exact this _
theorem evM_bytes (h : Rm cx m st T w) {o : Oper} {src dst e : TypeId} {x : Operand} {s : List UInt8} (ho : o.op = .convert src dst x) (hx : getTV st x = some ⟨.str, s⟩) (hs : cx.P.underlying src = some .string) (hd : elemOf? cx.P dst = some (e, .int .u8))
  {orc : List TV} {ob : List Prop} : Makes cx T w o ⟨.val (.sl (.int .u8)) (bytesEl s), st, orc, ob⟩ := by
 obtain ⟨hv, hlen⟩ := za2.1 (za7 h hx)
 obtain ⟨hu, hte, _⟩ := elemOf?_facts hd
 have he : cx.P.underlying e = some (.int .u8) := by
  obtain ⟨i, _, _, hf⟩ := zav hte
  exact hf
 have hrun := run_bytes_of_string (P := cx.P) w src dst e (bytesOf s) hs hu he
 have hsz : (bytesOf s).size = s.length := za5 s
 rw [hsz] at hrun
 have hge := grownCap_ge w s.length 0 e
 have hcm := grownCap_le_maxLen w s.length 0 e hlen
 have hbl : (bytesEl s).length = s.length := by simp [bytesEl]
 refine ⟨_, _, m, zbk (s := convert src dst (.string (bytesOf s))) (by simp only [execOp, ho, hv]; rfl) hrun, h.ext { os := rfl, tape := rfl, output := rfl, size := by simp, drawn := by first | exact fun _ => Nat.le_refl _ | exact fun _ => Nat.le_succ _, block := fun b hb => Below.heap_alloc w.drew _ b hb },
  (za3 (t := .sl (.int .u8)) rfl).2 ⟨some ⟨w.heap.size, 0, none⟩, grownCap w s.length 0 e, (bytesEl s).map (Value.int .u8), congrArg (fun n => [Value.slice _ n _]) hbl.symm, Nat.le_trans (Nat.le_of_eq hbl) hge, hcm, (fun h => by cases h), ?_, ?_⟩⟩
 ·have : ∀ (w : World) (M : Nat -> Prop) (l : List Int), repL (rep w M (.int .u8)) (l.map (Value.int .u8)) l := by
   intro w M l
   induction l with
   | nil => rfl
   | cons b s ih => exact ⟨[_], _, rfl, rfl, ih⟩
  exact this _ _ _
 ·intro j u hj
  refine ⟨_, rfl, ?_, fun hc => Nat.lt_irrefl _ (h.mut_lt hc)⟩
  have hjl : j < s.length := by have := (List.getElem?_eq_some_iff.1 hj).1; simpa [bytesEl] using this
  have ea : (⟨w.heap.size, 0, none⟩ : Addr).add j = ⟨w.heap.size, 0 + j, none⟩ := by unfold Addr.add; split <;> simp_all
  have hca := cell_in (heap_alloc_new w.drew (.cells (bytesRow (bytesOf s) (grownCap w s.length 0 e)) e ((bytesRow (bytesOf s) (grownCap w s.length 0 e)).size, (bytesRow (bytesOf s) (grownCap w s.length 0 e)).size + 1))) (0 + j)
  rw [ea]
  refine Eq.trans hca ?_
  rw [Nat.zero_add]
  unfold bytesRow
  rw [Array.getElem?_append_left (by simp [bytesOf]; exact hjl)]
  rw [<- Array.getElem?_toList, Array.toList_map]
  simp only [bytesEl, List.map_map, List.getElem?_map] at hj
  simp only [bytesOf, List.getElem?_map]
  exact hj
theorem repL_drop {M : Nat -> Prop} {t : Ty} : ∀ {xs : List t.el} {cs : List Value} (n : Nat), repL (rep w M t) cs xs -> n <= xs.length -> repL (rep w M t) (cs.drop (n * t.cells)) (xs.drop n)
 | xs, cs, 0, h, _ => by rw [Nat.zero_mul]; exact h
 | [], _, n + 1, _, hn => by simp at hn
 | x :: xs, cs, n + 1, ⟨c1, c2, e, h1, h2⟩, hn => by
  have hl := zag t h1
  have hcs : cs.drop ((n + 1) * t.cells) = c2.drop (n * t.cells) := by
   rw [e, Nat.succ_mul, Nat.add_comm, <- List.drop_drop, <- hl, List.drop_left]
  rw [hcs]
  exact repL_drop n h2 (by simpa using hn)
theorem evM_arrSlice (h : Rm cx m st T w) {o : Oper} {t : TypeId} {u : Ty} {len : Nat} {x lo : Operand} {r off0 sz : Nat} {i0 n : Int} {c : RowC} {ys : List c.t.el} (ho : o.op = .slice t x (some lo) none none) (hx : getSV st x = some (.rptr r i0 off0 sz)) (hl : intOf? (getSV st lo) = some n)
  (ha : arrTy cx.P t = some (len, u)) (hc : look st.rw r = some c) (hb : (c.t.beq u && (i0 == 0 && (Nat.beq off0 0 && Nat.beq sz c.t.cells))) = true) (hs : sub? c.xs n (c.xs.length : Int) = some ys) (hlen : c.xs.length = len) {orc : List TV} {ob : List Prop} :
  Makes cx T w o ⟨.val (.sl c.t) ys, st.freeze r c, orc, ob⟩ := by
 simp only [Bool.and_eq_true, beq_iff_eq] at hb
 obtain ⟨hb1, hb2, hb3, hb4⟩ := hb
 have hb3 := Nat.eq_of_beq_eq_true hb3
 obtain rfl := Ty.eq_of_beq hb1
 obtain ⟨k, hk⟩ := intOf?_sound h hl
 obtain ⟨h0, h1, _, hys⟩ := sub?_some hs
 rw [Int.toNat_natCast, List.take_length] at hys
 unfold arrTy at ha
 split at ha
 case h_2 => cases ha
 rename_i len' e hu
 split at ha
 case h_2 => cases ha
 rename_i u' hu'
 cases ha
 obtain ⟨g, n0, cap0, hn, hv⟩ := za6 h hx
 have hv : Act.eval ⟨T, []⟩ x = .pointer (some ⟨g, 0, none⟩) := by rw [hv, hb2, hb3]; simp
 have hfr := h.freeze (zak hc)
 have hcm := zak hc
 have hri : r ∈ st.ids := List.mem_append.2 (.inr (List.mem_map.2 ⟨_, hcm, rfl⟩))
 have hval : rep w (Mut cx m (st.freeze r c).ids) (.sl c.t) [m r] c.xs := by
  have hne : ∀ c', (r, c') ∉ st.bx := fun c' hb => (List.nodup_append.1 h.keys).2.2 r (List.mem_map.2 ⟨_, hb, rfl⟩) r (List.mem_map.2 ⟨_, hcm, rfl⟩) rfl
  have hmem : ∀ i, i ∈ (st.freeze r c).ids -> i ∈ st.ids /\ i ≠ r := by
   intro i hi
   rcases List.mem_append.1 hi with hi | hi
   ·obtain ⟨⟨b, s⟩, hp, rfl⟩ := List.mem_map.1 hi
    obtain ⟨⟨b', s'⟩, hp', he⟩ := List.mem_map.1 hp
    cases he
    exact ⟨List.mem_append.2 (.inl (List.mem_map.2 ⟨_, hp', rfl⟩)), fun e => hne s' (by simp only at e; rw [<- e]; exact hp')⟩
   ·obtain ⟨⟨b, s⟩, hp, rfl⟩ := List.mem_map.1 hi
    obtain ⟨h1, h2⟩ := mem_del.1 hp
    exact ⟨List.mem_append.2 (.inr (List.mem_map.2 ⟨_, h1, rfl⟩)), h2⟩
  refine h.row_val hcm (fun b _ hb => mut_mono (fun i hi => (hmem i hi).1) hb) fun g' hg' => ?_
  rintro (hA | ⟨i, hi, hgi⟩)
  ·have h1 := h.outer g' hA
   rcases (h.lt hri hg').2 with h2 | h2
   ·omega
   ·exact h1.2 h2
  ·obtain ⟨h1, h2⟩ := hmem i hi
   exact h.apart i r h1 hri h2 g' hgi hg'
 obtain ⟨a, cap, cells, hcv, hcap, hmax, hnil, hL, hcell⟩ := hval
 rw [hn] at hcv
 simp only [List.cons.injEq, and_true, Value.slice.injEq] at hcv
 obtain ⟨ha1, hn0, hcap0⟩ := hcv
 subst ha1
 have hnn : n.toNat <= c.xs.length := by omega
 have hcl := zaf (fun _ _ => zag c.t) _ _ hL
 have hyl : ys.length = c.xs.length - n.toNat := by rw [hys, List.length_drop]
 refine ⟨.slice (some (if c.xs.length = n.toNat then ⟨g, 0, none⟩ else (⟨g, 0, none⟩ : Addr).add (n.toNat * c.t.cells))) (c.xs.length - n.toNat) (c.xs.length - n.toNat), w, m,
  zbk (s := Instr.sliceAt t (Act.eval ⟨T, []⟩ x) (some (Act.eval ⟨T, []⟩ lo)) none none) (by simp only [execOp, ho]; rfl) ?_, hfr, ?_⟩
 ·simp only [hv, hk, Instr.sliceAt, Sem.run_bind, run_underlying hu, Result.andThen_ok, Instr.sureAddr, Sem.run_pure]
  have hb : (Instr.sliceBounds false len len (some (.int k n)) none none).run cx.P w = .ok (n.toNat, len, len) w := by
   have hnl : n <= (len : Int) := by rw [<- hlen]; exact h1
   simp [Instr.sliceBounds, Instr.sliceBound, asIntOf, h0, hnl]
  rw [hb]
  simp only [Result.andThen_ok, Sem.run_bind, zaw hu', Sem.run_pure, hlen]
 ·refine (za3 (t := .sl c.t) rfl).2 ⟨_, c.xs.length - n.toNat, cells.drop (n.toNat * c.t.cells), by rw [hyl], by rw [hyl]; exact Nat.le_refl _, by omega, (fun e => by cases e), ?_, ?_⟩
  ·rw [hys]; exact repL_drop _ hL hnn
  ·intro j u hj
   rw [List.getElem?_drop] at hj
   obtain ⟨b, hb1, hb2, hb3⟩ := hcell _ _ hj
   cases hb1
   have hjl := (List.getElem?_eq_some_iff.1 hj).1
   by_cases he : c.xs.length = n.toNat
   ·rw [hcl, he] at hjl
    omega
   ·refine ⟨_, rfl, ?_, ?_⟩
    ·rw [if_neg he, add_add]
     exact hb2
    ·rw [if_neg he, zae]
     exact hb3
theorem evM_sound (h : Rm cx m st T w) {o : Oper} {d : Nat} (hd : d < cx.n) {orc : List TV} {r : MR} (hev : evM cx.P st o d orc = some r) (hob : allP r.ob) : Makes cx T w o r := by
 unfold evM at hev
 split at hev
 ·rename_i ho
  split at hev
  ·cases hev; exact evM_nil h hd (.inl ho)
  ·cases hev
 ·rename_i ho
  split at hev
  ·cases hev; exact evM_nil h hd (.inr ho)
  ·cases hev
 ·rename_i t ho
  split at hev
  ·rename_i n u hz; cases hev; exact evM_allocArr h hd ho hz
  ·split at hev
   ·rename_i e u hz
    cases hq : Nat.blt (d + 1000000) keptRow with
    | false => rw [hq] at hev; cases hev
    | true => rw [hq] at hev; cases hev; exact evM_allocRow h hd (zax hq) ho hz
   ·split at hev
    ·rename_i e hz
     cases hq : Nat.blt (d + 1000000) keptRow with
     | false => rw [hq] at hev; cases hev
     | true => rw [hq] at hev; cases hev; exact evM_allocBld h hd (zax hq) ho hz
    ·split at hev
     ·rename_i u hz
      cases hh : hasArr u <;> rw [hh] at hev <;> cases hev
      ·exact evM_alloc h hd ho hz
      ·exact evM_allocBlk h hd ho hz
     ·cases hev
 ·rename_i t x ho
  split at hev
  ·rename_i u s hu hx
   split at hev
   ·rename_i l hl hr; cases hev; exact evM_box h hd ho hx hl hr
   ·cases hev
  ·cases hev
 ·rename_i t n parts ho
  split at hev
  ·rename_i e u he
   split at hev
   ·rename_i xs hx
    split at hev
    ·rename_i u' h1 h2 h3
     cases hev
     exact evM_lit h hd ho he hx (Nat.eq_of_beq_eq_true h1) (Nat.le_of_ble_eq_true h2) h3
    ·cases hev
   ·cases hev
  ·cases hev
 ·rename_i t parts ho
  split at hev
  ·rename_i n u n' e i ht hu hi
   split at hev
   ·rename_i xs u' z hx hty hz
    split at hev
    ·rename_i hh
     cases hev
     simp only [Bool.and_eq_true] at hh
     obtain ⟨⟨hh1, hh2⟩, hh3⟩ := hh
     obtain rfl := Ty.eq_of_beq hh2
     obtain ⟨_, _, _, e2, d2, hu2, _⟩ := zav ht
     have hu3 : cx.P.underlying t = some (.array n e) := by rw [hu] at hu2; cases hu2; exact hu
     exact evM_buildArr h ho ht hi hz hu3 hty hx (Nat.eq_of_beq_eq_true hh1) (Nat.eq_of_beq_eq_true hh3)
    ·cases hev
   ·cases hev
  ·cases hev
 ·rename_i t l c ho
  split at hev
  ·rename_i e u n k he hl hc
   split at hev
   ·rename_i u' hb hz
    cases hu : u.beq u' with
    | false => rw [hu] at hev; cases hev
    | true =>
     rw [hu] at hev
     cases hev
     obtain rfl := Ty.eq_of_beq hu
     exact evM_make h hd ho he hl hc hb hz hob.1
   ·cases hev
  ·cases hev
 ·rename_i t x ho
  split at hev
  ·rename_i s hx ht; cases hev; exact evM_range h hd ho hx ht
  ·rename_i k v y kt et hx ht; cases hev; exact evM_rangeMap h hd ho hx ht
  ·cases hev
 ·rename_i t r ho
  split at hev
  ·rename_i kt et ht
   split at hev
   ·rename_i k v hk hv
    split at hev
    ·rename_i hh
     cases hev
     simp only [Bool.and_eq_true] at hh
     exact evM_makeMap h hd ho ht hh.2
    ·cases hev
   ·cases hev
  ·cases hev
 ·rename_i x ho
  split at hev
  ·rename_i b hx
   split at hev
   ·rename_i k v left last hb
    cases hev
    exact evM_overMap h ho hx hb hob.1
   ·cases hev
  ·cases hev
 ·rename_i x ho
  split at hev
  ·rename_i b hx
   split at hev
   ·rename_i k v left p hb
    cases hev
    exact evM_entry h ho hx hb
   ·cases hev
  ·cases hev
 ·rename_i x ho
  split at hev
  ·rename_i b more orc' hx
   split at hev
   ·rename_i s p hb
    split at hev
    ·cases hev; exact (evM_next h ho hx hb).1 hob.1
    ·cases hev; exact (evM_next h ho hx hb).2 hob.1
   ·cases hev
  ·cases hev
 ·rename_i src dst x ho
  split at hev
  ·rename_i s e hx hs hd'; cases hev; exact evM_runes h hd ho hx hs hd' hob.1
  ·rename_i s e hx hs hd; cases hev; exact evM_bytes h ho hx hs hd
  ·cases hev
 ·rename_i f first caps ho
  split at hev
  ·rename_i bs hf hc; cases hev; exact evM_func h ho hf hc
  ·rename_i x hf hc
   split at hev
   ·rename_i b hx; cases hev; exact evM_bfunc h ho hf hc hx
   ·cases hev
  ·cases hev
 ·rename_i t x hi ho
  split at hev
  ·rename_i r e u n hx he hn
   split at hev
   ·rename_i c hc
    split at hev
    ·rename_i h1 h2 h3
     cases hev
     exact evM_shrink h ho hx he hn hc (Nat.eq_of_beq_eq_true h1) (Ty.eq_of_beq h2) (zax h3) hob.1
    ·cases hev
   ·cases hev
  ·cases hev
 ·rename_i t x lo ho
  split at hev
  ·rename_i r i0 off0 sz n len u v orc' hx hl ha
   split at hev
   ·rename_i c hc
    split at hev
    ·rename_i ys hb hy
     cases hev
     exact evM_arrSlice h ho hx hl ha hc hb hob.1 hob.2.1
    ·cases hev
   ·cases hev
  ·cases hev
 ·rename_i c ho
  split at hev
  ·rename_i args ts
   split at hev
   ·rename_i s x t t' ha hts
    split at hev
    ·rename_i e u r c he hbase
     split at hev
     ·rename_i u' ys h1 h2 h3 h4 h5
      cases hu : u.beq u' && Nat.blt r keptRow with
      | false => rw [hu] at hev; cases hev
      | true =>
       rw [hu] at hev
       cases hev
       rw [Bool.and_eq_true] at hu
       obtain rfl := Ty.eq_of_beq hu.1
       exact evM_append h ho ha hts he hbase (Nat.eq_of_beq_eq_true h1) (Ty.eq_of_beq h2) h3 h4 h5 (zax hu.2) hob.1
     ·cases hev
    ·cases hev
   ·cases hev
  ·cases hev
 ·cases hev
end Go.Ev
