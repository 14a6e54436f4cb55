/- A typed reading of the model's values as plain data (lists, numbers, pairs), and how it outlives changes of the memory. -/
import Derived.WalkKit
import Derived.IntWalk
namespace Go.Ev
open Go

/-- The shapes of plain data. 'unit', 'pair': the fields of a struct, one behind the other. -/
inductive Ty where
  | int (k : IntKind)
  | bool
  | str
  | sl (t : Ty)
  | unit
  | pair (a b : Ty)
  | ptr (t : Ty)
  | fn (f : Nat) (t : Ty)
  | err
  | arr (n : Nat) (t : Ty)
  | map (k v : Ty)

def Ty.el : Ty → Type
  | .int _ => Int
  | .bool => Bool
  | .str => List UInt8
  | .sl t => List t.el
  | .unit => Unit
  | .pair a b => a.el × b.el
  | .ptr t => t.el
  | .fn _ t => t.el
  | .err => Option (Option (Nat × Int))
  | .arr _ t => List t.el
  | .map k v => Option (List (k.el × v.el))

def Ty.cells : Ty → Nat
  | .int _ => 1
  | .bool => 1
  | .str => 1
  | .sl _ => 1
  | .unit => 0
  | .pair a b => a.cells + b.cells
  | .ptr _ => 1
  | .fn _ _ => 1
  | .err => 1
  | .arr n t => n * t.cells
  | .map _ _ => 1

def Ty.isSt : Ty → Bool
  | .unit => true
  | .pair _ _ => true
  | _ => false

/-- No memory hangs on such a value. -/
def Ty.flat : Ty → Bool
  | .int _ => true
  | .bool => true
  | .str => true
  | .sl _ => false
  | .unit => true
  | .pair a b => a.flat && b.flat
  | .ptr _ => false
  | .fn _ _ => false
  | .err => false
  | .arr _ t => t.flat
  | .map _ _ => false

def Ty.agg : Ty → Bool
  | .unit => true
  | .pair _ _ => true
  | .arr _ _ => true
  | _ => false

theorem Ty.isSt_agg {t : Ty} (h : t.isSt = true) : t.agg = true := by cases t <;> first | rfl | (simp [Ty.isSt] at h)

def kbeq : IntKind → IntKind → Bool
  | .i8, .i8 => true
  | .i16, .i16 => true
  | .i32, .i32 => true
  | .i64, .i64 => true
  | .u8, .u8 => true
  | .u16, .u16 => true
  | .u32, .u32 => true
  | .u64, .u64 => true
  | _, _ => false
theorem keq {a b : IntKind} (h : kbeq a b = true) : a = b := by cases a <;> cases b <;> first | rfl | (simp [kbeq] at h)

def Ty.beq : Ty → Ty → Bool
  | .int k, .int l => kbeq k l
  | .bool, .bool => true
  | .str, .str => true
  | .sl a, .sl b => a.beq b
  | .unit, .unit => true
  | .pair a b, .pair c d => a.beq c && b.beq d
  | .ptr a, .ptr b => a.beq b
  | .fn f a, .fn g b => Nat.beq f g && a.beq b
  | .err, .err => true
  | .arr n a, .arr m b => Nat.beq n m && a.beq b
  | .map a b, .map c d => a.beq c && b.beq d
  | _, _ => false
theorem Ty.eq_of_beq : ∀ {a b : Ty}, a.beq b = true → a = b := by
  intro a
  induction a with
  | int k => intro b h; cases b <;> simp only [Ty.beq, Bool.false_eq_true] at h; rw [keq h]
  | bool => intro b h; cases b <;> first | rfl | (simp only [Ty.beq, Bool.false_eq_true] at h)
  | str => intro b h; cases b <;> first | rfl | (simp only [Ty.beq, Bool.false_eq_true] at h)
  | sl t ih => intro b h; cases b <;> simp only [Ty.beq, Bool.false_eq_true] at h; rw [ih h]
  | unit => intro b h; cases b <;> first | rfl | (simp only [Ty.beq, Bool.false_eq_true] at h)
  | pair x y ihx ihy =>
    intro b h
    cases b <;> simp only [Ty.beq, Bool.false_eq_true, Bool.and_eq_true] at h
    rw [ihx h.1, ihy h.2]
  | ptr t ih => intro b h; cases b <;> simp only [Ty.beq, Bool.false_eq_true] at h; rw [ih h]
  | fn f t ih => intro b h; cases b <;> simp only [Ty.beq, Bool.false_eq_true, Bool.and_eq_true] at h; rw [Nat.eq_of_beq_eq_true h.1, ih h.2]
  | err => intro b h; cases b <;> first | rfl | (simp only [Ty.beq, Bool.false_eq_true] at h)
  | arr n t ih => intro b h; cases b <;> simp only [Ty.beq, Bool.false_eq_true, Bool.and_eq_true] at h; rw [Nat.eq_of_beq_eq_true h.1, ih h.2]
  | map x y ihx ihy =>
    intro b h
    cases b <;> simp only [Ty.beq, Bool.false_eq_true, Bool.and_eq_true] at h
    rw [ihx h.1, ihy h.2]

/-- A value with its shape. -/
structure TV where
  t : Ty
  x : t.el

/-- The same value at a shape that is known to be its own. -/
def TV.as (v : TV) (u : Ty) : Option u.el :=
  match h : v.t.beq u with
  | true => some (Ty.eq_of_beq h ▸ v.x)
  | false => none

/-- Cells that are the elements, one behind the other. -/
def repL {α : Type} (f : List Value → α → Prop) : List Value → List α → Prop
  | cs, [] => cs = []
  | cs, x :: xs => ∃ c1 c2, cs = c1 ++ c2 ∧ f c1 x ∧ repL f c2 xs

/-- A value that is an '.agg' of cells, or stands for itself. -/
def asV {α : Type} (agg : Bool) (f : List Value → α → Prop) (v : Value) (x : α) : Prop :=
  if agg then ∃ cs : List Value, v = .agg cs.toArray ∧ f cs x else f [v] x
/-- A map's entries, one behind the other. -/
def repM {α β : Type} (fk : Value → α → Prop) (fv : Value → β → Prop) : List MapEntry → List (α × β) → Prop
  | [], [] => True
  | e :: es, p :: ps => fk e.key p.1 ∧ fv e.val p.2 ∧ repM fk fv es ps
  | _, _ => False
/-- A map that is only read. -/
def repMap {α β : Type} (w : World) (M : Nat → Prop) (fk : Value → α → Prop) (fv : Value → β → Prop) (cs : List Value) : Option (List (α × β)) → Prop
  | none => cs = [.map none]
  | some ps => ∃ (b : Nat) (es : Array MapEntry) (clock : Nat), cs = [.map (some b)] ∧ w.heap[b]? = some (.map es clock) ∧ ¬ M b ∧ (∀ e ∈ es.toList, e.born < clock) ∧ (es.toList.map (·.born)).Nodup ∧ repM fk fv es.toList ps

/-- Cells that read as a value of a shape, in a world; M: the blocks that may still be written: none of them is read. -/
def rep (w : World) (M : Nat → Prop) : (t : Ty) → List Value → t.el → Prop
  | .int k, cs, n => cs = [.int k n]
  | .bool, cs, b => cs = [.bool b]
  | .str, cs, s => cs = [.string ⟨s.toArray⟩] ∧ s.length ≤ maxLen
  | .sl t, cs, xs => ∃ (a : Option Addr) (cap : Nat) (cells : List Value), cs = [.slice a xs.length cap] ∧ xs.length ≤ cap ∧ cap ≤ maxLen ∧ (a = none → cap = 0) ∧
      repL (rep w M t) cells xs ∧ ∀ j u, cells[j]? = some u → ∃ b, a = some b ∧ w.cell? (b.add j) = some u ∧ ¬ M b.block
  | .unit, cs, _ => cs = []
  | .pair a b, cs, x => ∃ c1 c2, cs = c1 ++ c2 ∧ rep w M a c1 x.1 ∧ rep w M b c2 x.2
  | .ptr t, cs, x => ∃ (a : Addr) (cells : List Value), cs = [.pointer (some a)] ∧ rep w M t cells x ∧ ∀ j u, cells[j]? = some u → w.cell? (a.add j) = some u ∧ ¬ M a.block
  | .fn f t, cs, x => ∃ bs : List Value, cs = [.func (.func f) #[] bs.toArray] ∧ rep w M t bs x
  | .err, cs, b => (b = none ∧ cs = [.nilIface]) ∨ (b = some none ∧ ∃ t v, cs = [.iface t v]) ∨ (∃ t n, b = some (some (t, n)) ∧ cs = [.iface t (.int .i64 n)])
  | .arr n t, cs, xs => List.length (α := t.el) xs = n ∧ repL (rep w M t) cs xs
  | .map k v, cs, x => repMap w M (asV k.agg (rep w M k)) (asV v.agg (rep w M v)) cs x

theorem repL_mono {α : Type} {f g : List Value → α → Prop} (h : ∀ c x, f c x → g c x) : ∀ {xs : List α} {cs : List Value}, repL f cs xs → repL g cs xs
  | [], _, hh => hh
  | _ :: _, _, ⟨c1, c2, e, h1, h2⟩ => ⟨c1, c2, e, h _ _ h1, repL_mono h h2⟩

theorem asV_mono {α : Type} {agg : Bool} {f g : List Value → α → Prop} (h : ∀ c x, f c x → g c x) {v : Value} {x : α} (hv : asV agg f v x) : asV agg g v x := by
  unfold asV at *
  split at hv
  · rename_i hp; rw [if_pos hp]; obtain ⟨cs, e, hc⟩ := hv; exact ⟨cs, e, h _ _ hc⟩
  · rename_i hp; rw [if_neg hp]; exact h _ _ hv
theorem repM_mono {α β : Type} {fk gk : Value → α → Prop} {fv gv : Value → β → Prop} (hk : ∀ v x, fk v x → gk v x) (hv : ∀ v x, fv v x → gv v x) : ∀ {es : List MapEntry} {ps : List (α × β)}, repM fk fv es ps → repM gk gv es ps
  | [], [], h => h
  | [], _ :: _, h => h.elim
  | _ :: _, [], h => h.elim
  | _ :: _, _ :: _, ⟨h1, h2, h3⟩ => ⟨hk _ _ h1, hv _ _ h2, repM_mono hk hv h3⟩
theorem repM_len {α β : Type} {fk : Value → α → Prop} {fv : Value → β → Prop} : ∀ {es : List MapEntry} {ps : List (α × β)}, repM fk fv es ps → es.length = ps.length
  | [], [], _ => rfl
  | [], _ :: _, h => h.elim
  | _ :: _, [], h => h.elim
  | _ :: _, _ :: _, ⟨_, _, h⟩ => by simp [repM_len h]
theorem heap_some_lt {w : World} {b : Nat} {o : Obj} (h : w.heap[b]? = some o) : b < w.heap.size := by
  rcases Nat.lt_or_ge b w.heap.size with h1 | h1
  · exact h1
  · rw [Array.getElem?_eq_none h1] at h; cases h

theorem add_block (a : Addr) (n : Nat) : (a.add n).block = a.block := by unfold Addr.add; split <;> rfl

/-- What is read in blocks that stand stays; fewer blocks may be written. -/
theorem rep_ext {w w' : World} {M M' : Nat → Prop} (hw : ∀ b, b < w.heap.size → ¬ M b → w'.heap[b]? = w.heap[b]?) (hM : ∀ b, b < w.heap.size → M' b → M b) :
    ∀ (t : Ty) {cs : List Value} {x : t.el}, rep w M t cs x → rep w' M' t cs x := by
  intro t
  induction t with
  | int k => exact fun h => h
  | bool => exact fun h => h
  | str => exact fun h => h
  | unit => exact fun h => h
  | pair a b iha ihb => exact fun ⟨c1, c2, e, h1, h2⟩ => ⟨c1, c2, e, iha h1, ihb h2⟩
  | sl t ih =>
    rintro cs x ⟨a, cap, cells, e, h1, h2, h3, h4, h5⟩
    refine ⟨a, cap, cells, e, h1, h2, h3, repL_mono (fun _ _ => ih) h4, fun j u hj => ?_⟩
    obtain ⟨b, hb, hc, hm⟩ := h5 j u hj
    have hlt : b.block < w.heap.size := by
      have := World.block_lt_of_cell? w (b.add j) hc
      rwa [add_block] at this
    refine ⟨b, hb, ?_, fun h => hm (hM _ hlt h)⟩
    rw [World.cell?_of_block (w := w) (by rw [add_block]; exact hw _ hlt hm)]
    exact hc
  | ptr t ih =>
    rintro cs x ⟨a, cells, e, h1, h2⟩
    refine ⟨a, cells, e, ih h1, fun j u hj => ?_⟩
    obtain ⟨hc, hm⟩ := h2 j u hj
    have hlt : a.block < w.heap.size := by
      have := World.block_lt_of_cell? w (a.add j) hc
      rwa [add_block] at this
    refine ⟨?_, fun h => hm (hM _ hlt h)⟩
    rw [World.cell?_of_block (w := w) (by rw [add_block]; exact hw _ hlt hm)]
    exact hc
  | fn f t ih => exact fun ⟨bs, e, h⟩ => ⟨bs, e, ih h⟩
  | err => exact fun h => h
  | arr n t ih => exact fun ⟨h1, h2⟩ => ⟨h1, repL_mono (fun _ _ => ih) h2⟩
  | map k v ihk ihv =>
    intro cs x h
    match x, h with
    | none, h => exact h
    | some ps, ⟨b, es, clock, e, h1, h2, hb, hn, h3⟩ =>
      have hlt := heap_some_lt h1
      exact ⟨b, es, clock, e, by rw [hw b hlt h2]; exact h1, fun hc => h2 (hM b hlt hc), hb, hn, repM_mono (fun _ _ => asV_mono fun _ _ => ihk) (fun _ _ => asV_mono fun _ _ => ihv) h3⟩

theorem repL_length {w : World} {M : Nat → Prop} {t : Ty} (hl : ∀ (cs : List Value) (x : t.el), rep w M t cs x → cs.length = t.cells) :
    ∀ (xs : List t.el) (cs : List Value), repL (rep w M t) cs xs → cs.length = xs.length * t.cells
  | [], _, h => by cases h; simp
  | x :: xs, cs, ⟨c1, c2, e, h1, h2⟩ => by
    subst e
    rw [List.length_append, hl _ _ h1, repL_length hl xs c2 h2, List.length_cons, Nat.succ_mul, Nat.add_comm]

theorem rep_length {w : World} {M : Nat → Prop} : ∀ (t : Ty) {cs : List Value} {x : t.el}, rep w M t cs x → cs.length = t.cells := by
  intro t
  induction t with
  | int k => intro cs x h; cases h; rfl
  | bool => intro cs x h; cases h; rfl
  | str => intro cs x h; cases h.1; rfl
  | unit => intro cs x h; cases h; rfl
  | pair a b iha ihb => rintro cs x ⟨c1, c2, e, h1, h2⟩; subst e; rw [List.length_append, iha h1, ihb h2]; rfl
  | sl t ih => rintro cs x ⟨a, cap, cells, e, _⟩; subst e; rfl
  | ptr t ih => rintro cs x ⟨a, cells, e, _⟩; subst e; rfl
  | fn f t ih => rintro cs x ⟨bs, e, _⟩; subst e; rfl
  | err => rintro cs x (⟨_, e⟩ | ⟨_, t, v, e⟩ | ⟨t, n, _, e⟩) <;> subst e <;> rfl
  | arr n t ih =>
    rintro cs x ⟨h1, h2⟩
    have := repL_length (fun cs x => ih) x cs h2
    rw [this, h1]
    rfl
  | map k v ihk ihv =>
    intro cs x h
    match x, h with
    | none, h => have h : cs = [.map none] := h; rw [h]; rfl
    | some ps, ⟨b, es, clock, e, _⟩ => rw [e]; rfl

theorem repL_oneCell {α : Type} {f : List Value → α → Prop} (h : ∀ c x, f c x → ∀ u ∈ c, u.oneCell' = true) : ∀ {xs : List α} {cs : List Value}, repL f cs xs → ∀ u ∈ cs, u.oneCell' = true
  | [], _, hh, u, hu => by cases hh; cases hu
  | _ :: _, _, ⟨c1, c2, e, h1, h2⟩, u, hu => by
    subst e
    rcases List.mem_append.1 hu with hu | hu
    · exact h _ _ h1 u hu
    · exact repL_oneCell h h2 u hu
/-- Each cell is the value of one cell. -/
theorem rep_oneCell {w : World} {M : Nat → Prop} : ∀ (t : Ty) {cs : List Value} {x : t.el}, rep w M t cs x → ∀ u ∈ cs, u.oneCell' = true := by
  intro t
  induction t with
  | int k => intro cs x h u hu; cases h; simp at hu; subst hu; rfl
  | bool => intro cs x h u hu; cases h; simp at hu; subst hu; rfl
  | str => intro cs x h u hu; cases h.1; simp at hu; subst hu; rfl
  | unit => intro cs x h u hu; cases h; simp at hu
  | pair a b iha ihb =>
    rintro cs x ⟨c1, c2, e, h1, h2⟩ u hu
    subst e
    rcases List.mem_append.1 hu with hu | hu
    · exact iha h1 u hu
    · exact ihb h2 u hu
  | sl t ih => rintro cs x ⟨a, cap, cells, e, _⟩ u hu; subst e; simp at hu; subst hu; rfl
  | ptr t ih => rintro cs x ⟨a, cells, e, _⟩ u hu; subst e; simp at hu; subst hu; rfl
  | fn f t ih => rintro cs x ⟨bs, e, _⟩ u hu; subst e; simp at hu; subst hu; rfl
  | err => rintro cs x (⟨_, e⟩ | ⟨_, t, v, e⟩ | ⟨t, n, _, e⟩) u hu <;> subst e <;> simp at hu <;> subst hu <;> rfl
  | arr n t ih => rintro cs x ⟨h1, h2⟩ u hu; exact repL_oneCell (fun _ _ => ih) h2 u hu
  | map k v ihk ihv =>
    intro cs x h u hu
    match x, h with
    | none, h => have h : cs = [.map none] := h; rw [h] at hu; simp at hu; subst hu; rfl
    | some ps, ⟨b, es, clock, e, _⟩ => rw [e] at hu; simp at hu; subst hu; rfl

/-- No memory is read of a flat value. -/
theorem rep_flat {w w' : World} {M M' : Nat → Prop} : ∀ (t : Ty) {cs : List Value} {x : t.el}, t.flat = true → rep w M t cs x → rep w' M' t cs x := by
  intro t
  induction t with
  | int k => exact fun _ h => h
  | bool => exact fun _ h => h
  | str => exact fun _ h => h
  | unit => exact fun _ h => h
  | pair a b iha ihb => intro cs x hf ⟨c1, c2, e, h1, h2⟩; simp only [Ty.flat, Bool.and_eq_true] at hf; exact ⟨c1, c2, e, iha hf.1 h1, ihb hf.2 h2⟩
  | sl t ih => intro cs x hf; simp [Ty.flat] at hf
  | ptr t ih => intro cs x hf; simp [Ty.flat] at hf
  | fn f t ih => intro cs x hf; simp [Ty.flat] at hf
  | err => intro cs x hf; simp [Ty.flat] at hf
  | arr n t ih => intro cs x hf ⟨h1, h2⟩; exact ⟨h1, repL_mono (fun _ _ => ih hf) h2⟩
  | map k v ihk ihv => intro cs x hf; simp [Ty.flat] at hf

/-- A value of the model that reads as a value of a shape: a struct is an '.agg', all else stands for itself. -/
def repV (w : World) (M : Nat → Prop) (v : Value) (t : Ty) (x : t.el) : Prop :=
  if t.agg then ∃ cs : List Value, v = .agg cs.toArray ∧ rep w M t cs x else rep w M t [v] x

theorem repV_cells {w : World} {M : Nat → Prop} {v : Value} {t : Ty} {x : t.el} (h : repV w M v t x) : rep w M t v.cells.toList x := by
  unfold repV at h
  split at h
  · obtain ⟨cs, rfl, h⟩ := h; simpa [Value.cells] using h
  · rename_i hn
    cases t with
    | int k => cases h; rfl
    | bool => cases h; rfl
    | str => obtain ⟨h, h2⟩ := h; cases h; exact ⟨rfl, h2⟩
    | sl t => obtain ⟨a, cap, cells, e, r⟩ := h; cases e; exact ⟨a, cap, cells, rfl, r⟩
    | ptr t => obtain ⟨a, cells, e, r⟩ := h; cases e; exact ⟨a, cells, rfl, r⟩
    | fn f t => obtain ⟨bs, e, r⟩ := h; cases e; exact ⟨bs, rfl, r⟩
    | err => rcases h with ⟨hb, e⟩ | ⟨hb, t, v, e⟩ | ⟨t, n, hb, e⟩ <;> cases e; exact .inl ⟨hb, rfl⟩; exact .inr (.inl ⟨hb, t, v, rfl⟩); exact .inr (.inr ⟨t, n, hb, rfl⟩)
    | map k v' =>
      match x, h with
      | none, h => have h : [v] = [.map none] := h; cases h; rfl
      | some ps, ⟨b, es, clock, e, r⟩ => cases e; exact ⟨b, es, clock, rfl, r⟩
    | arr n t => simp [Ty.agg] at hn
    | unit => simp [Ty.agg] at hn
    | pair a b => simp [Ty.agg] at hn

theorem repV_ext {w w' : World} {M M' : Nat → Prop} (hw : ∀ b, b < w.heap.size → ¬ M b → w'.heap[b]? = w.heap[b]?) (hM : ∀ b, b < w.heap.size → M' b → M b)
    {v : Value} {t : Ty} {x : t.el} (h : repV w M v t x) : repV w' M' v t x := by
  unfold repV at *
  split at h
  · rename_i hp; rw [if_pos hp]; obtain ⟨cs, rfl, h⟩ := h; exact ⟨cs, rfl, rep_ext hw hM t h⟩
  · rename_i hp; rw [if_neg hp]; exact rep_ext hw hM t h

theorem repV_flat {w w' : World} {M M' : Nat → Prop} {v : Value} {t : Ty} {x : t.el} (hf : t.flat = true) (h : repV w M v t x) : repV w' M' v t x := by
  unfold repV at *
  split at h
  · rename_i hp; rw [if_pos hp]; obtain ⟨cs, rfl, h⟩ := h; exact ⟨cs, rfl, rep_flat t hf h⟩
  · rename_i hp; rw [if_neg hp]; exact rep_flat t hf h

end Go.Ev
