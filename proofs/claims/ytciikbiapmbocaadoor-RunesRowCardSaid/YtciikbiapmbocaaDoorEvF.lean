/- Operations on numbers, truth values and texts. -/
import Derived.Test.YtciikbiapmbocaaDoorEvE
import Derived.Lib.Strings
namespace Go.Ev
open Go Go.RowKit

variable {P : Program} {w : World} {M : Nat → Prop} {v : Value}

theorem repV_int {k : IntKind} {n : Int} : repV w M v (.int k) n ↔ v = .int k n := by simp [repV, Ty.agg, rep]
theorem repV_bool {b : Bool} : repV w M v .bool b ↔ v = .bool b := by simp [repV, Ty.agg, rep]
theorem repV_str {s : List UInt8} : repV w M v .str s ↔ v = .string ⟨s.toArray⟩ ∧ s.length ≤ maxLen := by simp [repV, Ty.agg, rep]
theorem repV_plain {t : Ty} {x : t.el} (h : t.agg = false) : repV w M v t x ↔ rep w M t [v] x := by simp [repV, h]
theorem repV_agg {t : Ty} {x : t.el} (h : t.agg = true) : repV w M v t x ↔ ∃ cs : List Value, v = .agg cs.toArray ∧ rep w M t cs x := by simp [repV, h]

/-- The greatest length that a text or a list may grow to here. -/
def lim : Nat := 2147483648
theorem lim_max : lim ≤ maxLen := by decide

theorem bytesOf_size (s : List UInt8) : (bytesOf s).size = s.length := by simp [bytesOf, ByteArray.size]
theorem bytesOf_list (s : List UInt8) : (bytesOf s).toList = s := by rw [Lib.toList_data]; rfl
theorem bytesOf_append (a b : List UInt8) : bytesOf a ++ bytesOf b = bytesOf (a ++ b) := by
  apply ByteArray.ext
  simp [bytesOf]

/-- All of a list hold. -/
def allP : List Prop → Prop
  | [] => True
  | p :: r => p ∧ allP r

def binInt (op : BinOp) (k : IntKind) (a b : Int) : Option (TV × List Prop) :=
  match op with
  | .add => some (⟨.int k, k.wrap (a + b)⟩, [])
  | .sub => some (⟨.int k, k.wrap (a - b)⟩, [])
  | .mul => some (⟨.int k, k.wrap (a * b)⟩, [])
  | .quo => some (⟨.int k, k.wrap (a.tdiv b)⟩, [b ≠ 0])
  | .rem => some (⟨.int k, a.tmod b⟩, [b ≠ 0])
  | .and => some (⟨.int k, k.wrap (BitVec.ofInt k.bits a &&& BitVec.ofInt k.bits b).toNat⟩, [])
  | .or => some (⟨.int k, k.wrap (BitVec.ofInt k.bits a ||| BitVec.ofInt k.bits b).toNat⟩, [])
  | .xor => some (⟨.int k, k.wrap (BitVec.ofInt k.bits a ^^^ BitVec.ofInt k.bits b).toNat⟩, [])
  | .andNot => some (⟨.int k, k.wrap (BitVec.ofInt k.bits a &&& ~~~BitVec.ofInt k.bits b).toNat⟩, [])
  | .eql => some (⟨.bool, a == b⟩, [])
  | .neq => some (⟨.bool, a != b⟩, [])
  | .lss => some (⟨.bool, decide (a < b)⟩, [])
  | .leq => some (⟨.bool, decide (a ≤ b)⟩, [])
  | .gtr => some (⟨.bool, decide (b < a)⟩, [])
  | .geq => some (⟨.bool, decide (b ≤ a)⟩, [])
  | _ => none
def binShift (op : BinOp) (k : IntKind) (a b : Int) : Option (TV × List Prop) :=
  match op with
  | .shl => some (⟨.int k, k.wrap (a * 2 ^ min b.toNat k.bits)⟩, [0 ≤ b])
  | .shr => some (⟨.int k, a.fdiv (2 ^ min b.toNat k.bits)⟩, [0 ≤ b])
  | _ => none
def binBool (op : BinOp) (a b : Bool) : Option (TV × List Prop) :=
  match op with
  | .eql => some (⟨.bool, a == b⟩, [])
  | .neq => some (⟨.bool, !(a == b)⟩, [])
  | _ => none
def binStr (op : BinOp) (a b : List UInt8) : Option (TV × List Prop) :=
  match op with
  | .add => some (⟨.str, a ++ b⟩, [a.length + b.length ≤ lim])
  | .eql => some (⟨.bool, a == b⟩, [])
  | .neq => some (⟨.bool, !(a == b)⟩, [])
  | .lss => some (⟨.bool, Op.bytesLess a b⟩, [])
  | .leq => some (⟨.bool, Op.bytesLess a b || a == b⟩, [])
  | .gtr => some (⟨.bool, !(Op.bytesLess a b || a == b)⟩, [])
  | .geq => some (⟨.bool, !(Op.bytesLess a b)⟩, [])
  | _ => none
def isShift : BinOp → Bool
  | .shl => true
  | .shr => true
  | _ => false
def bin (P : Program) (op : BinOp) (t : TypeId) (x y : TV) : Option (TV × List Prop) :=
  match x, y with
  | ⟨.int k, a⟩, ⟨.int k', b⟩ => bif isShift op then binShift op k a b else bif kbeq k k' then binInt op k a b else none
  | ⟨.bool, a⟩, ⟨.bool, b⟩ => match P.underlying t with
    | some .bool => binBool op a b
    | _ => none
  | ⟨.str, a⟩, ⟨.str, b⟩ => binStr op a b
  | _, _ => none

/-- An operation that only computes: the same value in every world. -/
def Gives (P : Program) (s : Sem Value) (v : Value) : Prop := ∀ w, s.run P w = .ok v w

theorem guard_int {op : BinOp} {t : TypeId} {x y : Operand} {k k' : IntKind} {a b : Int} (w : World) : (eqGuard op t x y (.int k a) (.int k' b)).run P w = .ok () w := by cases op <;> rfl
theorem guard_bool {op : BinOp} {t : TypeId} {x y : Operand} {a b : Bool} (w : World) : (eqGuard op t x y (.bool a) (.bool b)).run P w = .ok () w := by cases op <;> rfl
theorem guard_str {op : BinOp} {t : TypeId} {x y : Operand} {a b : ByteArray} (w : World) : (eqGuard op t x y (.string a) (.string b)).run P w = .ok () w := by cases op <;> rfl

theorem binOp_int {op : BinOp} {t : TypeId} {k : IntKind} {a b : Int} (hs : isShift op = false) : binOp op t (.int k a) (.int k b) =
    (match op with | .add | .sub | .mul => Op.intArith op k a b | .quo | .rem => Op.intDiv op k a b | .and | .or | .xor | .andNot => Op.intBits op k a b | _ => Op.intCmp op a b) := by
  cases op <;> simp [binOp, isShift] at hs ⊢

theorem binInt_sound {op : BinOp} {k : IntKind} {a b : Int} {t : TypeId} {r : TV} {ob : List Prop} (h : binInt op k a b = some (r, ob)) (hob : allP ob) :
    ∃ v, Gives P (binOp op t (.int k a) (.int k b)) v ∧ ∀ w M, repV w M v r.t r.x := by
  cases op <;> simp only [binInt] at h <;> cases h
  case quo =>
    refine ⟨_, fun w => ?_, fun _ _ => repV_int.2 rfl⟩
    rw [binOp_int rfl]
    show (if b = 0 then _ else _ : Sem Value).run P w = _
    rw [if_neg hob.1]
    rfl
  case rem =>
    refine ⟨_, fun w => ?_, fun _ _ => repV_int.2 rfl⟩
    rw [binOp_int rfl]
    show (if b = 0 then _ else _ : Sem Value).run P w = _
    rw [if_neg hob.1]
    rfl
  all_goals first
    | exact ⟨_, fun w => by rw [binOp_int rfl]; rfl, fun _ _ => repV_int.2 rfl⟩
    | exact ⟨_, fun w => by rw [binOp_int rfl]; rfl, fun _ _ => repV_bool.2 rfl⟩

theorem binShift_sound {op : BinOp} {k k' : IntKind} {a b : Int} {t : TypeId} {r : TV} {ob : List Prop} (h : binShift op k a b = some (r, ob)) (hob : allP ob) :
    ∃ v, Gives P (binOp op t (.int k a) (.int k' b)) v ∧ ∀ w M, repV w M v r.t r.x := by
  cases op <;> simp only [binShift] at h <;> cases h
  all_goals
    have hb0 : 0 ≤ b := hob.1
    have hn : ¬ b < 0 := by omega
    exact ⟨_, fun w => by simp [binOp, Op.shift, hn], fun _ _ => repV_int.2 rfl⟩

theorem equalIn_bool {t : TypeId} (ht : P.underlying t = some .bool) {a b : Bool} (d : Nat) (w : World) : (Op.equalIn (d + 1) t (.bool a) (.bool b)).run P w = .ok (a == b) w := by
  simp [Op.equalIn, run_underlying ht]

theorem binBool_sound {op : BinOp} {a b : Bool} {t : TypeId} (ht : P.underlying t = some .bool) {r : TV} {ob : List Prop} (h : binBool op a b = some (r, ob)) :
    ∃ v, Gives P (binOp op t (.bool a) (.bool b)) v ∧ ∀ w M, repV w M v r.t r.x := by
  have e : ∀ w, (Op.equal t (.bool a) (.bool b)).run P w = .ok (a == b) w := fun w => by
    exact equalIn_bool ht 9999 w
  cases op <;> simp only [binBool] at h <;> cases h
  all_goals exact ⟨_, fun w => by simp [binOp, e], fun _ _ => repV_bool.2 rfl⟩

theorem binStr_sound {op : BinOp} {a b : List UInt8} {t : TypeId} {r : TV} {ob : List Prop} (h : binStr op a b = some (r, ob)) (hob : allP ob) :
    ∃ v, Gives P (binOp op t (.string (bytesOf a)) (.string (bytesOf b))) v ∧ ∀ w M, repV w M v r.t r.x := by
  cases op <;> simp only [binStr] at h <;> cases h
  case add =>
    have hl : a.length + b.length ≤ maxLen := Nat.le_trans hob.1 lim_max
    have hi : ¬ (((bytesOf a).size + (bytesOf b).size : Nat) : Int) > IntKind.i64.max := by
      rw [bytesOf_size, bytesOf_size]
      have : IntKind.i64.max = 9223372036854775807 := by decide
      rw [this]
      simp only [maxLen] at hl
      omega
    refine ⟨.string (bytesOf (a ++ b)), fun w => ?_, fun _ _ => repV_str.2 ⟨rfl, by rw [List.length_append]; exact hl⟩⟩
    simp only [binOp, Op.stringOp]
    rw [if_neg hi, bytesOf_append]
    rfl
  all_goals exact ⟨_, fun w => by simp [binOp, Op.stringOp, bytesOf_list], fun _ _ => repV_bool.2 rfl⟩

theorem bin_sound {op : BinOp} {t : TypeId} {x y : TV} {vx vy : Value} {ox oy : Operand} {r : TV} {ob : List Prop} (hx : repV w M vx x.t x.x) (hy : repV w M vy y.t y.x)
    (h : bin P op t x y = some (r, ob)) (hob : allP ob) :
    ∃ v, Gives P (do eqGuard op t ox oy vx vy; binOp op t vx vy) v ∧ ∀ w M, repV w M v r.t r.x := by
  have lift : ∀ v, (∀ w, (eqGuard op t ox oy vx vy).run P w = .ok () w) → Gives P (binOp op t vx vy) v → Gives P (do eqGuard op t ox oy vx vy; binOp op t vx vy) v := by
    intro v hg hv w
    rw [Sem.run_bind, hg w]
    exact hv w
  unfold bin at h
  split at h
  · rename_i k a k' b
    obtain rfl := repV_int.1 hx
    obtain rfl := repV_int.1 hy
    cases hs : isShift op with
    | true =>
      rw [hs, cond_true] at h
      obtain ⟨v, h1, h2⟩ := binShift_sound (P := P) (t := t) (k' := k') h hob
      exact ⟨v, lift v (fun _ => by first | exact guard_int _ | exact guard_bool _ | exact guard_str _) h1, h2⟩
    | false =>
      rw [hs, cond_false] at h
      cases hk : kbeq k k' with
      | false => rw [hk] at h; cases h
      | true =>
        rw [hk, cond_true] at h
        obtain rfl := keq hk
        obtain ⟨v, h1, h2⟩ := binInt_sound (P := P) (t := t) h hob
        exact ⟨v, lift v (fun _ => by first | exact guard_int _ | exact guard_bool _ | exact guard_str _) h1, h2⟩
  · rename_i a b
    obtain rfl := repV_bool.1 hx
    obtain rfl := repV_bool.1 hy
    split at h
    · rename_i hu
      obtain ⟨v, h1, h2⟩ := binBool_sound hu h
      exact ⟨v, lift v (fun _ => by first | exact guard_int _ | exact guard_bool _ | exact guard_str _) h1, h2⟩
    · cases h
  · rename_i a b
    obtain ⟨rfl, _⟩ := repV_str.1 hx
    obtain ⟨rfl, _⟩ := repV_str.1 hy
    obtain ⟨v, h1, h2⟩ := binStr_sound (P := P) (t := t) h hob
    exact ⟨v, lift v (fun _ => by first | exact guard_int _ | exact guard_bool _ | exact guard_str _) h1, h2⟩
  · cases h

def negI (k : IntKind) (n : Int) : Int := k.wrap (0 - n)
def un (op : UnOp) (x : TV) : Option TV :=
  match op, x with
  | .not, ⟨.bool, b⟩ => some ⟨.bool, !b⟩
  | .neg, ⟨.int k, n⟩ => some ⟨.int k, negI k n⟩
  | _, _ => none
theorem un_sound {op : UnOp} {x r : TV} {vx : Value} (hx : repV w M vx x.t x.x) (h : un op x = some r) : ∃ v, Gives P (Op.unary op vx) v ∧ ∀ w M, repV w M v r.t r.x := by
  unfold un at h
  split at h
  · obtain rfl := repV_bool.1 hx
    cases h
    exact ⟨_, fun w => by simp [Op.unary], fun _ _ => repV_bool.2 rfl⟩
  · obtain rfl := repV_int.1 hx
    cases h
    exact ⟨_, fun w => rfl, fun _ _ => repV_int.2 rfl⟩
  · cases h

/-- Conversions that make no memory. -/
def conv (P : Program) (src dst : TypeId) (x : TV) : Option TV :=
  match x, P.underlying src, P.underlying dst with
  | ⟨.int _, n⟩, some _, some (.int k) => some ⟨.int k, k.wrap n⟩
  | ⟨.int _, n⟩, some _, some .string => some ⟨.str, (Utf8.encode n).data.toList⟩
  | ⟨.str, s⟩, some .string, some .string => some ⟨.str, s⟩
  | _, _, _ => none
theorem encode_len (n : Int) : (Utf8.encode n).data.toList.length ≤ maxLen := by
  have : (Utf8.encode n).data.toList.length ≤ 4 := by
    unfold Utf8.encode
    dsimp only
    repeat' split
    all_goals simp
  exact Nat.le_trans this (by decide)
theorem conv_sound {src dst : TypeId} {x r : TV} {vx : Value} (hx : repV w M vx x.t x.x) (h : conv P src dst x = some r) : ∃ v, Gives P (convert src dst vx) v ∧ ∀ w M, repV w M v r.t r.x := by
  unfold conv at h
  split at h
  · rename_i k0 n d k hs hd
    obtain rfl := repV_int.1 hx
    cases h
    exact ⟨_, fun w => by simp [convert, run_underlying hs, run_underlying hd, Conv.intToInt], fun _ _ => repV_int.2 rfl⟩
  · rename_i k0 n d hs hd
    obtain rfl := repV_int.1 hx
    cases h
    refine ⟨.string (Utf8.encode n), fun w => ?_, fun _ _ => repV_str.2 ⟨?_, encode_len n⟩⟩
    · simp [convert, run_underlying hs, run_underlying hd, Conv.intToString]
    · congr 1
  · rename_i s hs hd
    obtain ⟨rfl, hl⟩ := repV_str.1 hx
    cases h
    exact ⟨_, fun w => by simp [convert, run_underlying hs, run_underlying hd], fun _ _ => repV_str.2 ⟨rfl, hl⟩⟩
  · cases h

end Go.Ev
