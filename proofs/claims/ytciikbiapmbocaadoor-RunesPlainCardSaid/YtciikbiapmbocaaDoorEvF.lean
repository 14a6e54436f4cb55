/- Operations on numbers, truth values and texts. -/
import Derived.Test.YtciikbiapmbocaaDoorEvE
import Derived.ChangeKeysEq
import Derived.Lib.Strings
namespace Go.Ev
open Go Go.RowKit

variable {P : Program} {w : World} {M : Nat → Prop} {v : Value}

theorem repV_int {k : IntKind} {n : Int} : repV w M v (.int k) n ↔ v = .int k n := by simp [repV, Ty.agg, rep]
theorem repV_bool {b : Bool} : repV w M v .bool b ↔ v = .bool b := by simp [repV, Ty.agg, rep]
theorem repV_str {s : List UInt8} : repV w M v .str s ↔ v = .string ⟨s.toArray⟩ ∧ s.length ≤ maxLen := by simp [repV, Ty.agg, rep]
theorem repV_plain {t : Ty} {x : t.el} (h : t.agg = false) : repV w M v t x ↔ rep w M t [v] x := by simp [repV, h]
theorem repV_agg {t : Ty} {x : t.el} (h : t.agg = true) : repV w M v t x ↔ ∃ cs : List Value, v = .agg cs.toArray ∧ rep w M t cs x := by simp [repV, h]

/-- The greatest length that a text or a list may grow to here. -/
def lim : Nat := 2147483648
theorem lim_max : lim ≤ maxLen := by decide

theorem bytesOf_size (s : List UInt8) : (bytesOf s).size = s.length := by simp [bytesOf, ByteArray.size]
theorem bytesOf_list (s : List UInt8) : (bytesOf s).toList = s := by rw [Lib.toList_data]; rfl
theorem bytesOf_append (a b : List UInt8) : bytesOf a ++ bytesOf b = bytesOf (a ++ b) := by
  apply ByteArray.ext
  simp [bytesOf]

/-- All of a list hold. -/
def allP : List Prop → Prop
  | [] => True
  | p :: r => p ∧ allP r

def binInt (op : BinOp) (k : IntKind) (a b : Int) : Option (TV × List Prop) :=
  match op with
  | .add => some (⟨.int k, k.wrap (a + b)⟩, [])
  | .sub => some (⟨.int k, k.wrap (a - b)⟩, [])
  | .mul => some (⟨.int k, k.wrap (a * b)⟩, [])
  | .quo => some (⟨.int k, k.wrap (a.tdiv b)⟩, [b ≠ 0])
  | .rem => some (⟨.int k, a.tmod b⟩, [b ≠ 0])
  | .and => some (⟨.int k, k.wrap (BitVec.ofInt k.bits a &&& BitVec.ofInt k.bits b).toNat⟩, [])
  | .or => some (⟨.int k, k.wrap (BitVec.ofInt k.bits a ||| BitVec.ofInt k.bits b).toNat⟩, [])
  | .xor => some (⟨.int k, k.wrap (BitVec.ofInt k.bits a ^^^ BitVec.ofInt k.bits b).toNat⟩, [])
  | .andNot => some (⟨.int k, k.wrap (BitVec.ofInt k.bits a &&& ~~~BitVec.ofInt k.bits b).toNat⟩, [])
  | .eql => some (⟨.bool, a == b⟩, [])
  | .neq => some (⟨.bool, a != b⟩, [])
  | .lss => some (⟨.bool, decide (a < b)⟩, [])
  | .leq => some (⟨.bool, decide (a ≤ b)⟩, [])
  | .gtr => some (⟨.bool, decide (b < a)⟩, [])
  | .geq => some (⟨.bool, decide (b ≤ a)⟩, [])
  | _ => none
def binShift (op : BinOp) (k : IntKind) (a b : Int) : Option (TV × List Prop) :=
  match op with
  | .shl => some (⟨.int k, k.wrap (a * 2 ^ min b.toNat k.bits)⟩, [0 ≤ b])
  | .shr => some (⟨.int k, a.fdiv (2 ^ min b.toNat k.bits)⟩, [0 ≤ b])
  | _ => none
def binBool (op : BinOp) (a b : Bool) : Option (TV × List Prop) :=
  match op with
  | .eql => some (⟨.bool, a == b⟩, [])
  | .neq => some (⟨.bool, !(a == b)⟩, [])
  | _ => none
def binStr (op : BinOp) (a b : List UInt8) : Option (TV × List Prop) :=
  match op with
  | .add => some (⟨.str, a ++ b⟩, [a.length + b.length ≤ lim])
  | .eql => some (⟨.bool, a == b⟩, [])
  | .neq => some (⟨.bool, !(a == b)⟩, [])
  | .lss => some (⟨.bool, Op.bytesLess a b⟩, [])
  | .leq => some (⟨.bool, Op.bytesLess a b || a == b⟩, [])
  | .gtr => some (⟨.bool, !(Op.bytesLess a b || a == b)⟩, [])
  | .geq => some (⟨.bool, !(Op.bytesLess a b)⟩, [])
  | _ => none
/-- Are two values of a shape the same? -/
def eqInt (a b : Int) : Bool := a == b
def eqBool (a b : Bool) : Bool := a == b
def eqStr (a b : List UInt8) : Bool := a == b
def eqL {α : Type} (f : α → α → Bool) : List α → List α → Bool
  | [], [] => true
  | x :: xs, y :: ys => f x y && eqL f xs ys
  | _, _ => false
def eqEl : (t : Ty) → t.el → t.el → Bool
  | .int _, a, b => eqInt a b
  | .bool, a, b => eqBool a b
  | .str, a, b => eqStr a b
  | .unit, _, _ => true
  | .pair s t, a, b => eqEl s a.1 b.1 && eqEl t a.2 b.2
  | .arr _ t, a, b => eqL (eqEl t) a b
  | _, _, _ => false
/-- A type whose values may be compared part by part. -/
def eqOK (P : Program) : Nat → TypeId → Bool
  | 0, _ => false
  | d + 1, t => match P.underlying t with
    | some (.int _) => true
    | some .bool => true
    | some .string => true
    | some (.struct fs) => !P.stoodInHeld t && fs.toList.all fun f => f.name != "_" && eqOK P d f.type
    | some (.array _ e) => eqOK P d e
    | _ => false

theorem part_run {d : Nat} {t : TypeId} {u : Ty} (ht : tyOf P d t = some u) {pre c post : List Value} {x : u.el} (hr : rep w M u c x) (w2 : World) :
    ∃ v, (part t (pre ++ c ++ post).toArray pre.length).run P w2 = .ok v w2 ∧ repV w M v u x := by
  have hl := rep_length u hr
  cases hag : u.agg with
  | true =>
    refine ⟨.agg c.toArray, ?_, by rw [repV, if_pos hag]; exact ⟨c, rfl, hr⟩⟩
    unfold part
    rw [Sem.run_bind, ty_isAgg ht, hag]
    simp only [Result.andThen_ok, if_true, Sem.run_bind, ty_sizeOf ht, Sem.run_pure]
    have e : (pre ++ c ++ post).toArray.extract pre.length (pre.length + u.cells) = c.toArray := by
      rw [← hl]
      apply Array.ext'
      simp [List.extract_eq_take_drop]
    rw [e]
  | false =>
    have h1 : u.cells = 1 := by cases u <;> first | rfl | (simp [Ty.agg] at hag)
    rw [h1] at hl
    match c, hl with
    | [v], _ =>
      refine ⟨v, ?_, by rw [repV, if_neg (by rw [hag]; decide)]; exact hr⟩
      unfold part
      rw [Sem.run_bind, ty_isAgg ht, hag]
      simp only [Result.andThen_ok, Bool.false_eq_true, if_false]
      have e : (pre ++ [v] ++ post).toArray[pre.length]? = some v := by simp
      rw [e]
      rfl

theorem eqFields_sound {d D : Nat} (ih : ∀ (t : TypeId) (u : Ty), tyOf P d t = some u → ∀ d', eqOK P d' t = true → d' ≤ D → ∀ (w w' w2 : World) (M M' : Nat → Prop) (v v' : Value) (x y : u.el), repV w M v u x → repV w' M' v' u y → (Op.equalIn D t v v').run P w2 = .ok (eqEl u x y) w2) :
    ∀ (fs : List Field) (off : Nat) (u : Ty), fieldsOf (tyOf P d) off fs = some u → ∀ d', d' ≤ D → (fs.all fun f => f.name != "_" && eqOK P d' f.type) = true → ∀ (w w' w2 : World) (M M' : Nat → Prop) (pre pre' c c' : List Value) (x y : u.el), pre.length = off → pre'.length = off → rep w M u c x → rep w' M' u c' y →
      (Op.eqFields D (pre ++ c).toArray (pre' ++ c').toArray fs).run P w2 = .ok (eqEl u x y) w2
  | [], off, u, h, _, _, _, w, w', w2, M, M', pre, pre', c, c', x, y, _, _, _, _ => by
    simp only [fieldsOf, Option.some.injEq] at h
    subst h
    simp [Op.eqFields, eqEl]
  | f :: fs, off, u, h, d', hd, hall, w, w', w2, M, M', pre, pre', c, c', x, y, h1, h2, hc, hc' => by
    unfold fieldsOf at h
    cases hb : Nat.beq f.offset off with
    | false => rw [hb] at h; cases h
    | true =>
      have hoff := Nat.eq_of_beq_eq_true hb
      rw [hb, cond_true] at h
      split at h
      · rename_i a ha
        split at h
        · rename_i b hfs
          cases h
          rw [List.all_cons, Bool.and_eq_true, Bool.and_eq_true] at hall
          obtain ⟨c1, c2, rfl, r1, r2⟩ := hc
          obtain ⟨c1', c2', rfl, r1', r2'⟩ := hc'
          obtain ⟨v, e1, e2⟩ := part_run (P := P) ha (pre := pre) (post := c2) r1 w2
          obtain ⟨v', e1', e2'⟩ := part_run (P := P) ha (pre := pre') (post := c2') r1' w2
          have hne : f.name ≠ "_" := by simpa using hall.1.1
          rw [List.append_assoc] at e1 e1'
          rw [h1] at e1
          rw [h2] at e1'
          simp only [Op.eqFields, if_pos hne, hoff, Sem.run_bind, e1, e1', Result.andThen_ok, ih f.type a ha d' hall.1.2 hd w w' w2 M M' v v' x.1 y.1 e2 e2']
          cases he : eqEl a x.1 y.1 with
          | false =>
            simp only [Bool.not_false, if_true, Sem.run_pure]
            simp [eqEl, he]
          | true =>
            simp only [Bool.not_true, Bool.false_eq_true, if_false]
            have := eqFields_sound ih fs (off + a.cells) b hfs d' hd hall.2 w w' w2 M M' (pre ++ c1) (pre' ++ c1') c2 c2' x.2 y.2 (by rw [List.length_append, h1, rep_length a r1]) (by rw [List.length_append, h2, rep_length a r1']) r2 r2'
            rw [List.append_assoc, List.append_assoc] at this
            rw [this]
            simp [eqEl, he]
        · cases h
      · cases h

theorem cells_of {P : Program} {d : Nat} {t : TypeId} {u : Ty} (h : tyOf P d t = some u) : P.cellsOf t = u.cells := by
  obtain ⟨i, hi, hs, _⟩ := tyOf_facts h
  simp [Program.cellsOf, hi, hs]
theorem eqItems_sound {d D : Nat} {e : TypeId} {u : Ty} (ht : tyOf P d e = some u) (ih : ∀ (w w' w2 : World) (M M' : Nat → Prop) (v v' : Value) (x y : u.el), repV w M v u x → repV w' M' v' u y → (Op.equalIn D e v v').run P w2 = .ok (eqEl u x y) w2) :
    ∀ (xs ys : List u.el) (n : Nat) (w w' w2 : World) (M M' : Nat → Prop) (pre pre' c c' : List Value), pre.length = n * u.cells → pre'.length = n * u.cells → xs.length = ys.length → repL (rep w M u) c xs → repL (rep w' M' u) c' ys →
      (Op.eqItems D e u.cells (pre ++ c).toArray (pre' ++ c').toArray (List.range' n xs.length)).run P w2 = .ok (eqL (eqEl u) xs ys) w2
  | [], [], n, w, w', w2, M, M', pre, pre', c, c', _, _, _, _, _ => by simp [Op.eqItems, eqL]
  | [], _ :: _, _, _, _, _, _, _, _, _, _, _, _, _, hl, _, _ => by simp at hl
  | _ :: _, [], _, _, _, _, _, _, _, _, _, _, _, _, hl, _, _ => by simp at hl
  | x :: xs, y :: ys, n, w, w', w2, M, M', pre, pre', c, c', h1, h2, hl, hc, hc' => by
    obtain ⟨c1, c2, rfl, r1, r2⟩ := hc
    obtain ⟨c1', c2', rfl, r1', r2'⟩ := hc'
    obtain ⟨v, e1, e2⟩ := part_run (P := P) ht (pre := pre) (post := c2) r1 w2
    obtain ⟨v', e1', e2'⟩ := part_run (P := P) ht (pre := pre') (post := c2') r1' w2
    rw [List.append_assoc] at e1 e1'
    rw [h1] at e1
    rw [h2] at e1'
    rw [List.length_cons, List.range'_succ]
    simp only [Op.eqItems, Sem.run_bind, e1, e1', Result.andThen_ok, ih w w' w2 M M' v v' x y e2 e2']
    cases he : eqEl u x y with
    | false => simp [eqL, he]
    | true =>
      simp only [Bool.not_true, Bool.false_eq_true, if_false]
      have := eqItems_sound ht ih xs ys (n + 1) w w' w2 M M' (pre ++ c1) (pre' ++ c1') c2 c2' (by rw [List.length_append, h1, rep_length u r1, Nat.succ_mul]) (by rw [List.length_append, h2, rep_length u r1', Nat.succ_mul]) (by simpa using hl) r2 r2'
      rw [List.append_assoc, List.append_assoc] at this
      rw [this]
      simp [eqL, he]

theorem eq_sound : ∀ (d : Nat) (t : TypeId) (u : Ty), tyOf P d t = some u → ∀ d', eqOK P d' t = true → ∀ D, d' ≤ D → ∀ (w w' w2 : World) (M M' : Nat → Prop) (v v' : Value) (x y : u.el), repV w M v u x → repV w' M' v' u y → (Op.equalIn D t v v').run P w2 = .ok (eqEl u x y) w2
  | 0, _, _, h => by cases h
  | d + 1, t, u, h => by
    intro d' hok D hD w w' w2 M M' v v' x y hx hy
    cases d' with
    | zero => cases hok
    | succ d' =>
      obtain ⟨D, rfl⟩ : ∃ k, D = k + 1 := ⟨D - 1, by omega⟩
      unfold eqOK at hok
      unfold tyOf at h
      split at h
      · rename_i i k hi hu
        cases hb : Nat.beq i.size 1 <;> rw [hb] at h <;> cases h
        obtain rfl := repV_int.1 hx
        obtain rfl := repV_int.1 hy
        exact run_equalIn_int w2 D t k k x y hu
      · rename_i i hi hu
        cases hb : Nat.beq i.size 1 <;> rw [hb] at h <;> cases h
        obtain rfl := repV_bool.1 hx
        obtain rfl := repV_bool.1 hy
        exact run_equalIn_bool' w2 D t x y hu
      · rename_i i hi hu
        cases hb : Nat.beq i.size 1 <;> rw [hb] at h <;> cases h
        obtain ⟨rfl, _⟩ := repV_str.1 hx
        obtain ⟨rfl, _⟩ := repV_str.1 hy
        rw [run_equalIn_string w2 D t _ _ hu]
        have e1 := bytesOf_list x
        have e2 := bytesOf_list y
        unfold bytesOf at e1 e2
        rw [e1, e2]
        rfl
      · rename_i i e hi hu
        rw [hu] at hok
        cases hok
      · rename_i i fs hi hu
        rw [hu] at hok
        simp only [Bool.and_eq_true, Bool.not_eq_true'] at hok
        split at h
        · rename_i v0 hv0
          cases hb : Nat.beq i.size v0.cells <;> rw [hb] at h <;> cases h
          have hag := fieldsOf_agg hv0
          obtain ⟨c, rfl, hc⟩ := (repV_agg hag).1 hx
          obtain ⟨c', rfl, hc'⟩ := (repV_agg hag).1 hy
          have hf : P.fieldsOf t = fs := by unfold Program.fieldsOf; rw [hu]
          rw [run_equalIn_struct w2 D t c.toArray c'.toArray (by rw [hf]; exact hu) hok.1, hf]
          exact eqFields_sound (fun t u ht d'' hk hd => eq_sound d t u ht d'' hk D hd) fs.toList 0 u hv0 d' (by omega) hok.2 w w' w2 M M' [] [] c c' x y rfl rfl hc hc'
        · cases h
      · rename_i i ms hi hu
        rw [hu] at hok
        cases hok
      · rename_i i n e hi hu
        rw [hu] at hok
        split at h
        · rename_i v0 hv0
          cases hb : Nat.beq i.size (n * v0.cells) <;> rw [hb] at h <;> cases h
          obtain ⟨c, rfl, hc1, hc2⟩ := (repV_agg (t := .arr n v0) rfl).1 hx
          obtain ⟨c', rfl, hc1', hc2'⟩ := (repV_agg (t := .arr n v0) rfl).1 hy
          obtain ⟨ie, hie, hse, _⟩ := tyOf_facts hv0
          have hall := eqItems_sound hv0 (fun w w' w2 M M' v v' x y => eq_sound d e v0 hv0 d' hok D (by omega) w w' w2 M M' v v' x y) x y 0 w w' w2 M M' [] [] c c' (by simp) (by simp) (hc1.trans hc1'.symm) hc2 hc2'
          rw [run_equalIn_array w2 D c.toArray c'.toArray hu hie, cells_of hv0, List.range_eq_range']
          rw [hc1] at hall
          exact hall
        · cases h
      · rename_i i k e hi hu
        rw [hu] at hok
        cases hok
      · cases h

def isShift : BinOp → Bool
  | .shl => true
  | .shr => true
  | _ => false
def bin (P : Program) (op : BinOp) (t : TypeId) (x y : TV) : Option (TV × List Prop) :=
  match x, y with
  | ⟨.int k, a⟩, ⟨.int k', b⟩ => bif isShift op then binShift op k a b else bif kbeq k k' then binInt op k a b else none
  | ⟨.bool, a⟩, ⟨.bool, b⟩ => match P.underlying t with
    | some .bool => binBool op a b
    | _ => none
  | ⟨.str, a⟩, ⟨.str, b⟩ => binStr op a b
  | ⟨.pair s1 s2, a⟩, y => match y.as (.pair s1 s2), ty P t with
    | some b, some u => match u.beq (.pair s1 s2) && eqOK P 16 t && !(P.eqGuardType P.depth t), op with
      | true, .eql => some (⟨.bool, eqEl (.pair s1 s2) a b⟩, [])
      | true, .neq => some (⟨.bool, !(eqEl (.pair s1 s2) a b)⟩, [])
      | _, _ => none
    | _, _ => none
  | ⟨.arr n1 s1, a⟩, y => match y.as (.arr n1 s1), ty P t with
    | some b, some u => match u.beq (.arr n1 s1) && eqOK P 16 t && !(P.eqGuardType P.depth t), op with
      | true, .eql => some (⟨.bool, eqEl (.arr n1 s1) a b⟩, [])
      | true, .neq => some (⟨.bool, !(eqEl (.arr n1 s1) a b)⟩, [])
      | _, _ => none
    | _, _ => none
  | _, _ => none

/-- An operation that only computes: the same value in every world. -/
def Gives (P : Program) (s : Sem Value) (v : Value) : Prop := ∀ w, s.run P w = .ok v w

theorem guard_int {op : BinOp} {t : TypeId} {x y : Operand} {k k' : IntKind} {a b : Int} (w : World) : (eqGuard op t x y (.int k a) (.int k' b)).run P w = .ok () w := by cases op <;> rfl
theorem guard_bool {op : BinOp} {t : TypeId} {x y : Operand} {a b : Bool} (w : World) : (eqGuard op t x y (.bool a) (.bool b)).run P w = .ok () w := by cases op <;> rfl
theorem guard_str {op : BinOp} {t : TypeId} {x y : Operand} {a b : ByteArray} (w : World) : (eqGuard op t x y (.string a) (.string b)).run P w = .ok () w := by cases op <;> rfl

theorem binOp_int {op : BinOp} {t : TypeId} {k : IntKind} {a b : Int} (hs : isShift op = false) : binOp op t (.int k a) (.int k b) =
    (match op with | .add | .sub | .mul => Op.intArith op k a b | .quo | .rem => Op.intDiv op k a b | .and | .or | .xor | .andNot => Op.intBits op k a b | _ => Op.intCmp op a b) := by
  cases op <;> simp [binOp, isShift] at hs ⊢

theorem binInt_sound {op : BinOp} {k : IntKind} {a b : Int} {t : TypeId} {r : TV} {ob : List Prop} (h : binInt op k a b = some (r, ob)) (hob : allP ob) :
    ∃ v, Gives P (binOp op t (.int k a) (.int k b)) v ∧ ∀ w M, repV w M v r.t r.x := by
  cases op <;> simp only [binInt] at h <;> cases h
  case quo =>
    refine ⟨_, fun w => ?_, fun _ _ => repV_int.2 rfl⟩
    rw [binOp_int rfl]
    show (if b = 0 then _ else _ : Sem Value).run P w = _
    rw [if_neg hob.1]
    rfl
  case rem =>
    refine ⟨_, fun w => ?_, fun _ _ => repV_int.2 rfl⟩
    rw [binOp_int rfl]
    show (if b = 0 then _ else _ : Sem Value).run P w = _
    rw [if_neg hob.1]
    rfl
  all_goals first
    | exact ⟨_, fun w => by rw [binOp_int rfl]; rfl, fun _ _ => repV_int.2 rfl⟩
    | exact ⟨_, fun w => by rw [binOp_int rfl]; rfl, fun _ _ => repV_bool.2 rfl⟩

theorem binShift_sound {op : BinOp} {k k' : IntKind} {a b : Int} {t : TypeId} {r : TV} {ob : List Prop} (h : binShift op k a b = some (r, ob)) (hob : allP ob) :
    ∃ v, Gives P (binOp op t (.int k a) (.int k' b)) v ∧ ∀ w M, repV w M v r.t r.x := by
  cases op <;> simp only [binShift] at h <;> cases h
  all_goals
    have hb0 : 0 ≤ b := hob.1
    have hn : ¬ b < 0 := by omega
    exact ⟨_, fun w => by simp [binOp, Op.shift, hn], fun _ _ => repV_int.2 rfl⟩

theorem equalIn_bool {t : TypeId} (ht : P.underlying t = some .bool) {a b : Bool} (d : Nat) (w : World) : (Op.equalIn (d + 1) t (.bool a) (.bool b)).run P w = .ok (a == b) w := by
  simp [Op.equalIn, run_underlying ht]

theorem binBool_sound {op : BinOp} {a b : Bool} {t : TypeId} (ht : P.underlying t = some .bool) {r : TV} {ob : List Prop} (h : binBool op a b = some (r, ob)) :
    ∃ v, Gives P (binOp op t (.bool a) (.bool b)) v ∧ ∀ w M, repV w M v r.t r.x := by
  have e : ∀ w, (Op.equal t (.bool a) (.bool b)).run P w = .ok (a == b) w := fun w => by
    exact equalIn_bool ht 9999 w
  cases op <;> simp only [binBool] at h <;> cases h
  all_goals exact ⟨_, fun w => by simp [binOp, e], fun _ _ => repV_bool.2 rfl⟩

theorem binStr_sound {op : BinOp} {a b : List UInt8} {t : TypeId} {r : TV} {ob : List Prop} (h : binStr op a b = some (r, ob)) (hob : allP ob) :
    ∃ v, Gives P (binOp op t (.string (bytesOf a)) (.string (bytesOf b))) v ∧ ∀ w M, repV w M v r.t r.x := by
  cases op <;> simp only [binStr] at h <;> cases h
  case add =>
    have hl : a.length + b.length ≤ maxLen := Nat.le_trans hob.1 lim_max
    have hi : ¬ (((bytesOf a).size + (bytesOf b).size : Nat) : Int) > IntKind.i64.max := by
      rw [bytesOf_size, bytesOf_size]
      have : IntKind.i64.max = 9223372036854775807 := by decide
      rw [this]
      simp only [maxLen] at hl
      omega
    refine ⟨.string (bytesOf (a ++ b)), fun w => ?_, fun _ _ => repV_str.2 ⟨rfl, by rw [List.length_append]; exact hl⟩⟩
    simp only [binOp, Op.stringOp]
    rw [if_neg hi, bytesOf_append]
    rfl
  all_goals exact ⟨_, fun w => by simp [binOp, Op.stringOp, bytesOf_list], fun _ _ => repV_bool.2 rfl⟩

theorem bin_sound {op : BinOp} {t : TypeId} {x y : TV} {vx vy : Value} {ox oy : Operand} {r : TV} {ob : List Prop} (hx : repV w M vx x.t x.x) (hy : repV w M vy y.t y.x)
    (h : bin P op t x y = some (r, ob)) (hob : allP ob) :
    ∃ v, Gives P (do eqGuard op t ox oy vx vy; binOp op t vx vy) v ∧ ∀ w M, repV w M v r.t r.x := by
  have lift : ∀ v, (∀ w, (eqGuard op t ox oy vx vy).run P w = .ok () w) → Gives P (binOp op t vx vy) v → Gives P (do eqGuard op t ox oy vx vy; binOp op t vx vy) v := by
    intro v hg hv w
    rw [Sem.run_bind, hg w]
    exact hv w
  unfold bin at h
  split at h
  · rename_i k a k' b
    obtain rfl := repV_int.1 hx
    obtain rfl := repV_int.1 hy
    cases hs : isShift op with
    | true =>
      rw [hs, cond_true] at h
      obtain ⟨v, h1, h2⟩ := binShift_sound (P := P) (t := t) (k' := k') h hob
      exact ⟨v, lift v (fun _ => by first | exact guard_int _ | exact guard_bool _ | exact guard_str _) h1, h2⟩
    | false =>
      rw [hs, cond_false] at h
      cases hk : kbeq k k' with
      | false => rw [hk] at h; cases h
      | true =>
        rw [hk, cond_true] at h
        obtain rfl := keq hk
        obtain ⟨v, h1, h2⟩ := binInt_sound (P := P) (t := t) h hob
        exact ⟨v, lift v (fun _ => by first | exact guard_int _ | exact guard_bool _ | exact guard_str _) h1, h2⟩
  · rename_i a b
    obtain rfl := repV_bool.1 hx
    obtain rfl := repV_bool.1 hy
    split at h
    · rename_i hu
      obtain ⟨v, h1, h2⟩ := binBool_sound hu h
      exact ⟨v, lift v (fun _ => by first | exact guard_int _ | exact guard_bool _ | exact guard_str _) h1, h2⟩
    · cases h
  · rename_i a b
    obtain ⟨rfl, _⟩ := repV_str.1 hx
    obtain ⟨rfl, _⟩ := repV_str.1 hy
    obtain ⟨v, h1, h2⟩ := binStr_sound (P := P) (t := t) h hob
    exact ⟨v, lift v (fun _ => by first | exact guard_int _ | exact guard_bool _ | exact guard_str _) h1, h2⟩
  · rename_i s1 s2 a
    split at h
    · rename_i b u hb hu
      have hy1 := TV.as_some hb
      subst hy1
      have e : ∀ w2 : World, (u.beq (.pair s1 s2) && eqOK P 16 t && !(P.eqGuardType P.depth t)) = true → (Op.equalIn 10000 t vx vy).run P w2 = .ok (eqEl (.pair s1 s2) a b) w2 := by
        intro w2 hh
        simp only [Bool.and_eq_true] at hh
        have := Ty.eq_of_beq hh.1.1
        subst this
        exact eq_sound dep t _ hu 16 hh.1.2 10000 (by decide) w w w2 M M vx vy a b hx hy
      obtain ⟨c, rfl, _⟩ := (repV_agg (t := .pair s1 s2) rfl).1 hx
      obtain ⟨c', rfl, _⟩ := (repV_agg (t := .pair s1 s2) rfl).1 hy
      split at h
      · rename_i hh
        cases h
        refine ⟨.bool (eqEl (.pair s1 s2) a b), lift _ (fun w2 => ?_) (fun w2 => ?_), fun _ _ => repV_bool.2 rfl⟩
        · simp only [Bool.and_eq_true, Bool.not_eq_true'] at hh
          exact run_eqGuard_agg w2 .eql t ox oy c.toArray c'.toArray hh.2
        · rw [run_eql_struct, e w2 hh]
          rfl
      · rename_i hh
        cases h
        refine ⟨.bool (!eqEl (.pair s1 s2) a b), lift _ (fun w2 => ?_) (fun w2 => ?_), fun _ _ => repV_bool.2 rfl⟩
        · simp only [Bool.and_eq_true, Bool.not_eq_true'] at hh
          exact run_eqGuard_agg w2 .neq t ox oy c.toArray c'.toArray hh.2
        · rw [run_neq_struct, e w2 hh]
          rfl
      · cases h
    · cases h
  · rename_i n1 s1 a
    split at h
    · rename_i b u hb hu
      have hy1 := TV.as_some hb
      subst hy1
      have e : ∀ w2 : World, (u.beq (.arr n1 s1) && eqOK P 16 t && !(P.eqGuardType P.depth t)) = true → (Op.equalIn 10000 t vx vy).run P w2 = .ok (eqEl (.arr n1 s1) a b) w2 := by
        intro w2 hh
        simp only [Bool.and_eq_true] at hh
        have := Ty.eq_of_beq hh.1.1
        subst this
        exact eq_sound dep t _ hu 16 hh.1.2 10000 (by decide) w w w2 M M vx vy a b hx hy
      obtain ⟨c, rfl, _⟩ := (repV_agg (t := .arr n1 s1) rfl).1 hx
      obtain ⟨c', rfl, _⟩ := (repV_agg (t := .arr n1 s1) rfl).1 hy
      split at h
      · rename_i hh
        cases h
        refine ⟨.bool (eqEl (.arr n1 s1) a b), lift _ (fun w2 => ?_) (fun w2 => ?_), fun _ _ => repV_bool.2 rfl⟩
        · simp only [Bool.and_eq_true, Bool.not_eq_true'] at hh
          exact run_eqGuard_agg w2 .eql t ox oy c.toArray c'.toArray hh.2
        · rw [run_eql_struct, e w2 hh]
          rfl
      · rename_i hh
        cases h
        refine ⟨.bool (!eqEl (.arr n1 s1) a b), lift _ (fun w2 => ?_) (fun w2 => ?_), fun _ _ => repV_bool.2 rfl⟩
        · simp only [Bool.and_eq_true, Bool.not_eq_true'] at hh
          exact run_eqGuard_agg w2 .neq t ox oy c.toArray c'.toArray hh.2
        · rw [run_neq_struct, e w2 hh]
          rfl
      · cases h
    · cases h
  · cases h

def negI (k : IntKind) (n : Int) : Int := k.wrap (0 - n)
def un (op : UnOp) (x : TV) : Option TV :=
  match op, x with
  | .not, ⟨.bool, b⟩ => some ⟨.bool, !b⟩
  | .neg, ⟨.int k, n⟩ => some ⟨.int k, negI k n⟩
  | _, _ => none
theorem un_sound {op : UnOp} {x r : TV} {vx : Value} (hx : repV w M vx x.t x.x) (h : un op x = some r) : ∃ v, Gives P (Op.unary op vx) v ∧ ∀ w M, repV w M v r.t r.x := by
  unfold un at h
  split at h
  · obtain rfl := repV_bool.1 hx
    cases h
    exact ⟨_, fun w => by simp [Op.unary], fun _ _ => repV_bool.2 rfl⟩
  · obtain rfl := repV_int.1 hx
    cases h
    exact ⟨_, fun w => rfl, fun _ _ => repV_int.2 rfl⟩
  · cases h

/-- Conversions that make no memory. -/
def conv (P : Program) (src dst : TypeId) (x : TV) : Option TV :=
  match x, P.underlying src, P.underlying dst with
  | ⟨.int _, n⟩, some _, some (.int k) => some ⟨.int k, k.wrap n⟩
  | ⟨.int _, n⟩, some _, some .string => some ⟨.str, (Utf8.encode n).data.toList⟩
  | ⟨.str, s⟩, some .string, some .string => some ⟨.str, s⟩
  | _, _, _ => none
theorem encode_len (n : Int) : (Utf8.encode n).data.toList.length ≤ maxLen := by
  have : (Utf8.encode n).data.toList.length ≤ 4 := by
    unfold Utf8.encode
    dsimp only
    repeat' split
    all_goals simp
  exact Nat.le_trans this (by decide)
theorem conv_sound {src dst : TypeId} {x r : TV} {vx : Value} (hx : repV w M vx x.t x.x) (h : conv P src dst x = some r) : ∃ v, Gives P (convert src dst vx) v ∧ ∀ w M, repV w M v r.t r.x := by
  unfold conv at h
  split at h
  · rename_i k0 n d k hs hd
    obtain rfl := repV_int.1 hx
    cases h
    exact ⟨_, fun w => by simp [convert, run_underlying hs, run_underlying hd, Conv.intToInt], fun _ _ => repV_int.2 rfl⟩
  · rename_i k0 n d hs hd
    obtain rfl := repV_int.1 hx
    cases h
    refine ⟨.string (Utf8.encode n), fun w => ?_, fun _ _ => repV_str.2 ⟨?_, encode_len n⟩⟩
    · simp [convert, run_underlying hs, run_underlying hd, Conv.intToString]
    · congr 1
  · rename_i s hs hd
    obtain ⟨rfl, hl⟩ := repV_str.1 hx
    cases h
    exact ⟨_, fun w => by simp [convert, run_underlying hs, run_underlying hd], fun _ _ => repV_str.2 ⟨rfl, hl⟩⟩
  · cases h

end Go.Ev
