/- The layouts of library functions at this program, as the kit's own tool wrote them. -/
import Derived.Test.YtgkgdfmldioddaaGreatDoorProg
import Derived.Shelf.Unicode.DecodeAny
import Derived.KernelRfl
import Derived.WalkKit
import Derived.IntWalk
import Derived.ChangeKeysEq
import Derived.Lib.Strings
import Derived.Laws.IdiomStrings
import Derived.Laws.Cover4
import Derived.WideKeyRuns
import Derived.MapKept
set_option linter.unusedSectionVars false
set_option linter.unusedVariables false
set_option linter.unusedSimpArgs false
namespace Go.Ev
open Go Go.Proofs Go.Shelf
set_option maxRecDepth 100000
def Llays197_ren : Go.Shelf.Ren := ⟨fun | 197 => 113 | 260 => 147 | n => n, fun | 9 => 9 | 21 => 21 | 3 => 3 | 4 => 4 | 5 => 5 | 105 => 193 | 119 => 270 | 0 => 0 | 46 => 153 | 139 => 273 | 138 => 272 | n => n, fun | 3 => 1 | 4 => 2 | n => n⟩
theorem Llays197 : Go.Proofs.Lays.n197 Tryz.prog Llays197_ren := {
 mixed := by kernel_rfl
 f197 := Tryz.func113.trans (congrArg some (by kernel_rfl))
 f260 := Tryz.func147.trans (congrArg some (by kernel_rfl))
 t0 := Tryz.underlying0
 a0 := Tryz.isAgg0
 z0 := Tryz.sizeOf0
 v0 := Tryz.zeroValue0
 t3 := Tryz.underlying3
 a3 := Tryz.isAgg3
 z3 := Tryz.sizeOf3
 v3 := Tryz.zeroValue3
 t4 := Tryz.underlying4
 a4 := Tryz.isAgg4
 z4 := Tryz.sizeOf4
 v4 := Tryz.zeroValue4
 t5 := Tryz.underlying5
 a5 := Tryz.isAgg5
 z5 := Tryz.sizeOf5
 v5 := Tryz.zeroValue5
 t9 := Tryz.underlying9
 a9 := Tryz.isAgg9
 z9 := Tryz.sizeOf9
 v9 := Tryz.zeroValue9
 t21 := Tryz.underlying21
 a21 := Tryz.isAgg21
 z21 := Tryz.sizeOf21
 v21 := Tryz.zeroValue21
 t46 := Tryz.underlying153
 a46 := Tryz.isAgg153
 z46 := Tryz.sizeOf153
 v46 := Tryz.zeroValue153
 t105 := Tryz.underlying193
 a105 := Tryz.isAgg193
 z105 := Tryz.sizeOf193
 v105 := Tryz.zeroValue193
 t119 := Tryz.underlying270
 a119 := Tryz.isAgg270
 z119 := Tryz.sizeOf270
 t138 := Tryz.underlying272
 a138 := Tryz.isAgg272
 z138 := Tryz.sizeOf272
 v138 := Tryz.zeroValue272
 t139 := Tryz.underlying273
 a139 := Tryz.isAgg273
 z139 := Tryz.sizeOf273
 v139 := Tryz.zeroValue273
 g3 := by kernel_rfl
 g4 := by kernel_rfl }
def Llays260_ren : Go.Shelf.Ren := ⟨fun | 260 => 147 | n => n, fun | 9 => 9 | 21 => 21 | 3 => 3 | 4 => 4 | 5 => 5 | 119 => 270 | 0 => 0 | 46 => 153 | 139 => 273 | 138 => 272 | n => n, fun | 3 => 1 | 4 => 2 | n => n⟩
theorem Llays260 : Go.Proofs.Lays.n260 Tryz.prog Llays260_ren := {
 mixed := by kernel_rfl
 f260 := Tryz.func147.trans (congrArg some (by kernel_rfl))
 t0 := Tryz.underlying0
 a0 := Tryz.isAgg0
 z0 := Tryz.sizeOf0
 v0 := Tryz.zeroValue0
 t3 := Tryz.underlying3
 a3 := Tryz.isAgg3
 z3 := Tryz.sizeOf3
 v3 := Tryz.zeroValue3
 t4 := Tryz.underlying4
 a4 := Tryz.isAgg4
 z4 := Tryz.sizeOf4
 v4 := Tryz.zeroValue4
 t5 := Tryz.underlying5
 a5 := Tryz.isAgg5
 z5 := Tryz.sizeOf5
 v5 := Tryz.zeroValue5
 t9 := Tryz.underlying9
 a9 := Tryz.isAgg9
 z9 := Tryz.sizeOf9
 v9 := Tryz.zeroValue9
 t21 := Tryz.underlying21
 a21 := Tryz.isAgg21
 z21 := Tryz.sizeOf21
 v21 := Tryz.zeroValue21
 t46 := Tryz.underlying153
 a46 := Tryz.isAgg153
 z46 := Tryz.sizeOf153
 v46 := Tryz.zeroValue153
 t119 := Tryz.underlying270
 a119 := Tryz.isAgg270
 z119 := Tryz.sizeOf270
 t138 := Tryz.underlying272
 a138 := Tryz.isAgg272
 z138 := Tryz.sizeOf272
 v138 := Tryz.zeroValue272
 t139 := Tryz.underlying273
 a139 := Tryz.isAgg273
 z139 := Tryz.sizeOf273
 v139 := Tryz.zeroValue273
 g3 := by kernel_rfl
 g4 := by kernel_rfl }
end Go.Ev
namespace Go.Ev
open Go
inductive Ty where
 | int (k : IntKind)
 | bool
 | str
 | sl (t : Ty)
 | unit
 | pair (a b : Ty)
 | ptr (t : Ty)
 | fn (f : Nat) (t : Ty)
 | err
 | arr (n : Nat) (t : Ty)
 | map (k v : Ty)
 | opq
def Ty.el : Ty -> Type
 | .int _ => Int
 | .bool => Bool
 | .str => List UInt8
 | .sl t => List t.el
 | .unit => Unit
 | .pair a b => a.el × b.el
 | .ptr t => t.el
 | .fn _ t => t.el
 | .err => Option (Option (Nat × Int))
 | .arr _ t => List t.el
 | .map k v => Option (List (k.el × v.el))
 | .opq => Unit
def Ty.cells : Ty -> Nat
 | .int _ => 1
 | .bool => 1
 | .str => 1
 | .sl _ => 1
 | .unit => 0
 | .pair a b => a.cells + b.cells
 | .ptr _ => 1
 | .fn _ _ => 1
 | .err => 1
 | .arr n t => n * t.cells
 | .map _ _ => 1
 | .opq => 1
def Ty.isSt : Ty -> Bool
 | .unit => true
 | .pair _ _ => true
 | _ => false
def Ty.flat : Ty -> Bool
 | .int _ => true
 | .bool => true
 | .str => true
 | .sl _ => false
 | .unit => true
 | .pair a b => a.flat && b.flat
 | .ptr _ => false
 | .fn _ _ => false
 | .err => false
 | .arr _ t => t.flat
 | .map _ _ => false
 | .opq => false
def Ty.agg : Ty -> Bool
 | .unit => true
 | .pair _ _ => true
 | .arr _ _ => true
 | _ => false
theorem Ty.isSt_agg {t : Ty} (h : t.isSt = true) : t.agg = true := by cases t <;> first | rfl | (simp [Ty.isSt] at h)
def kbeq : IntKind -> IntKind -> Bool
 | .i8, .i8 => true
 | .i16, .i16 => true
 | .i32, .i32 => true
 | .i64, .i64 => true
 | .u8, .u8 => true
 | .u16, .u16 => true
 | .u32, .u32 => true
 | .u64, .u64 => true
 | _, _ => false
theorem keq {a b : IntKind} (h : kbeq a b = true) : a = b := by cases a <;> cases b <;> first | rfl | (simp [kbeq] at h)
def Ty.beq : Ty -> Ty -> Bool
 | .int k, .int l => kbeq k l
 | .bool, .bool => true
 | .str, .str => true
 | .sl a, .sl b => a.beq b
 | .unit, .unit => true
 | .pair a b, .pair c d => a.beq c && b.beq d
 | .ptr a, .ptr b => a.beq b
 | .fn f a, .fn g b => Nat.beq f g && a.beq b
 | .err, .err => true
 | .arr n a, .arr m b => Nat.beq n m && a.beq b
 | .map a b, .map c d => a.beq c && b.beq d
 | .opq, .opq => true
 | _, _ => false
theorem Ty.eq_of_beq : ∀ {a b : Ty}, a.beq b = true -> a = b := by
 intro a
 induction a with
 | int k => intro b h; cases b <;> simp only [Ty.beq, Bool.false_eq_true] at h; rw [keq h]
 | bool => intro b h; cases b <;> first | rfl | (simp only [Ty.beq, Bool.false_eq_true] at h)
 | str => intro b h; cases b <;> first | rfl | (simp only [Ty.beq, Bool.false_eq_true] at h)
 | sl t ih => intro b h; cases b <;> simp only [Ty.beq, Bool.false_eq_true] at h; rw [ih h]
 | unit => intro b h; cases b <;> first | rfl | (simp only [Ty.beq, Bool.false_eq_true] at h)
 | pair x y ihx ihy =>
  intro b h
  cases b <;> simp only [Ty.beq, Bool.false_eq_true, Bool.and_eq_true] at h
  rw [ihx h.1, ihy h.2]
 | ptr t ih => intro b h; cases b <;> simp only [Ty.beq, Bool.false_eq_true] at h; rw [ih h]
 | fn f t ih => intro b h; cases b <;> simp only [Ty.beq, Bool.false_eq_true, Bool.and_eq_true] at h; rw [Nat.eq_of_beq_eq_true h.1, ih h.2]
 | err => intro b h; cases b <;> first | rfl | (simp only [Ty.beq, Bool.false_eq_true] at h)
 | opq => intro b h; cases b <;> first | rfl | (simp only [Ty.beq, Bool.false_eq_true] at h)
 | arr n t ih => intro b h; cases b <;> simp only [Ty.beq, Bool.false_eq_true, Bool.and_eq_true] at h; rw [Nat.eq_of_beq_eq_true h.1, ih h.2]
 | map x y ihx ihy =>
  intro b h
  cases b <;> simp only [Ty.beq, Bool.false_eq_true, Bool.and_eq_true] at h
  rw [ihx h.1, ihy h.2]
structure TV where
 t : Ty
 x : t.el
def TV.as (v : TV) (u : Ty) : Option u.el :=
 match h : v.t.beq u with
 | true => some (Ty.eq_of_beq h ▸ v.x)
 | false => none
def repL {α : Type} (f : List Value -> α -> Prop) : List Value -> List α -> Prop
 | cs, [] => cs = []
 | cs, x :: xs => ∃ c1 c2, cs = c1 ++ c2 /\ f c1 x /\ repL f c2 xs
def asV {α : Type} (agg : Bool) (f : List Value -> α -> Prop) (v : Value) (x : α) : Prop :=
 if agg then ∃ cs : List Value, v = .agg cs.toArray /\ f cs x else f [v] x
def repM {α β : Type} (fk : Value -> α -> Prop) (fv : Value -> β -> Prop) : List MapEntry -> List (α × β) -> Prop
 | [], [] => True
 | e :: es, p :: ps => fk e.key p.1 /\ fv e.val p.2 /\ repM fk fv es ps
 | _, _ => False
def repMap {α β : Type} (w : World) (M : Nat -> Prop) (fk : Value -> α -> Prop) (fv : Value -> β -> Prop) (cs : List Value) : Option (List (α × β)) -> Prop
 | none => cs = [.map none]
 | some ps => ∃ (b : Nat) (es : Array MapEntry) (clock : Nat), cs = [.map (some b)] /\ w.heap[b]? = some (.map es clock) /\ ¬ M b /\ (∀ e ∈ es.toList, e.born < clock) /\ (es.toList.map (·.born)).Nodup /\ repM fk fv es.toList ps
def rep (w : World) (M : Nat -> Prop) : (t : Ty) -> List Value -> t.el -> Prop
 | .int k, cs, n => cs = [.int k n]
 | .bool, cs, b => cs = [.bool b]
 | .str, cs, s => cs = [.string ⟨s.toArray⟩] /\ s.length <= maxLen
 | .sl t, cs, xs => ∃ (a : Option Addr) (cap : Nat) (cells : List Value), cs = [.slice a xs.length cap] /\ xs.length <= cap /\ cap <= maxLen /\ (a = none -> cap = 0) /\
   repL (rep w M t) cells xs /\ ∀ j u, cells[j]? = some u -> ∃ b, a = some b /\ w.cell? (b.add j) = some u /\ ¬ M b.block
 | .unit, cs, _ => cs = []
 | .pair a b, cs, x => ∃ c1 c2, cs = c1 ++ c2 /\ rep w M a c1 x.1 /\ rep w M b c2 x.2
 | .ptr t, cs, x => ∃ (a : Addr) (cells : List Value), cs = [.pointer (some a)] /\ rep w M t cells x /\ ∀ j u, cells[j]? = some u -> w.cell? (a.add j) = some u /\ ¬ M a.block
 | .fn f t, cs, x => ∃ bs : List Value, cs = [.func (.func f) #[] bs.toArray] /\ rep w M t bs x
 | .err, cs, b => (b = none /\ cs = [.nilIface]) \/ (b = some none /\ ∃ t v, cs = [.iface t v]) \/ (∃ t n, b = some (some (t, n)) /\ cs = [.iface t (.int .i64 n)])
 | .arr n t, cs, xs => List.length (α := t.el) xs = n /\ repL (rep w M t) cs xs
 | .map k v, cs, x => repMap w M (asV k.agg (rep w M k)) (asV v.agg (rep w M v)) cs x
 | .opq, cs, _ => ∃ v : Value, cs = [v] /\ v.oneCell' = true
theorem zab {α : Type} {f g : List Value -> α -> Prop} (h : ∀ c x, f c x -> g c x) : ∀ {xs : List α} {cs : List Value}, repL f cs xs -> repL g cs xs
 | [], _, hh => hh
 | _ :: _, _, ⟨c1, c2, e, h1, h2⟩ => ⟨c1, c2, e, h _ _ h1, zab h h2⟩
theorem asV_mono {α : Type} {agg : Bool} {f g : List Value -> α -> Prop} (h : ∀ c x, f c x -> g c x) {v : Value} {x : α} (hv : asV agg f v x) : asV agg g v x := by
 unfold asV at *
 split at hv
 ·rename_i hp; rw [if_pos hp]; obtain ⟨cs, e, hc⟩ := hv; exact ⟨cs, e, h _ _ hc⟩
 ·rename_i hp; rw [if_neg hp]; exact h _ _ hv
theorem zac {α β : Type} {fk gk : Value -> α -> Prop} {fv gv : Value -> β -> Prop} (hk : ∀ v x, fk v x -> gk v x) (hv : ∀ v x, fv v x -> gv v x) : ∀ {es : List MapEntry} {ps : List (α × β)}, repM fk fv es ps -> repM gk gv es ps
 | [], [], h => h
 | [], _ :: _, h => h.elim
 | _ :: _, [], h => h.elim
 | _ :: _, _ :: _, ⟨h1, h2, h3⟩ => ⟨hk _ _ h1, hv _ _ h2, zac hk hv h3⟩
theorem repM_len {α β : Type} {fk : Value -> α -> Prop} {fv : Value -> β -> Prop} : ∀ {es : List MapEntry} {ps : List (α × β)}, repM fk fv es ps -> es.length = ps.length
 | [], [], _ => rfl
 | [], _ :: _, h => h.elim
 | _ :: _, [], h => h.elim
 | _ :: _, _ :: _, ⟨_, _, h⟩ => by simp [repM_len h]
theorem zad {w : World} {b : Nat} {o : Obj} (h : w.heap[b]? = some o) : b < w.heap.size := by
 rcases Nat.lt_or_ge b w.heap.size with h1 | h1
 ·exact h1
 ·rw [Array.getElem?_eq_none h1] at h; cases h
theorem zae (a : Addr) (n : Nat) : (a.add n).block = a.block := by unfold Addr.add; split <;> rfl
theorem rep_ext {w w' : World} {M M' : Nat -> Prop} (hw : ∀ b, b < w.heap.size -> ¬ M b -> w'.heap[b]? = w.heap[b]?) (hM : ∀ b, b < w.heap.size -> M' b -> M b) :
  ∀ (t : Ty) {cs : List Value} {x : t.el}, rep w M t cs x -> rep w' M' t cs x := by
 intro t
 induction t with
 | int k => exact fun h => h
 | bool => exact fun h => h
 | str => exact fun h => h
 | unit => exact fun h => h
 | pair a b iha ihb => exact fun ⟨c1, c2, e, h1, h2⟩ => ⟨c1, c2, e, iha h1, ihb h2⟩
 | sl t ih =>
  rintro cs x ⟨a, cap, cells, e, h1, h2, h3, h4, h5⟩
  refine ⟨a, cap, cells, e, h1, h2, h3, zab (fun _ _ => ih) h4, fun j u hj => ?_⟩
  obtain ⟨b, hb, hc, hm⟩ := h5 j u hj
  have hlt : b.block < w.heap.size := by
   have := World.block_lt_of_cell? w (b.add j) hc
   rwa [zae] at this
  refine ⟨b, hb, ?_, fun h => hm (hM _ hlt h)⟩
  rw [World.cell?_of_block (w := w) (by rw [zae]; exact hw _ hlt hm)]
  exact hc
 | ptr t ih =>
  rintro cs x ⟨a, cells, e, h1, h2⟩
  refine ⟨a, cells, e, ih h1, fun j u hj => ?_⟩
  obtain ⟨hc, hm⟩ := h2 j u hj
  have hlt : a.block < w.heap.size := by
   have := World.block_lt_of_cell? w (a.add j) hc
   rwa [zae] at this
  refine ⟨?_, fun h => hm (hM _ hlt h)⟩
  rw [World.cell?_of_block (w := w) (by rw [zae]; exact hw _ hlt hm)]
  exact hc
 | fn f t ih => exact fun ⟨bs, e, h⟩ => ⟨bs, e, ih h⟩
 | err => exact fun h => h
 | opq => exact fun h => h
 | arr n t ih => exact fun ⟨h1, h2⟩ => ⟨h1, zab (fun _ _ => ih) h2⟩
 | map k v ihk ihv =>
  intro cs x h
  match x, h with
  | none, h => exact h
  | some ps, ⟨b, es, clock, e, h1, h2, hb, hn, h3⟩ =>
   have hlt := zad h1
   exact ⟨b, es, clock, e, by rw [hw b hlt h2]; exact h1, fun hc => h2 (hM b hlt hc), hb, hn, zac (fun _ _ => asV_mono fun _ _ => ihk) (fun _ _ => asV_mono fun _ _ => ihv) h3⟩
theorem zaf {w : World} {M : Nat -> Prop} {t : Ty} (hl : ∀ (cs : List Value) (x : t.el), rep w M t cs x -> cs.length = t.cells) :
  ∀ (xs : List t.el) (cs : List Value), repL (rep w M t) cs xs -> cs.length = xs.length * t.cells
 | [], _, h => by cases h; simp
 | x :: xs, cs, ⟨c1, c2, e, h1, h2⟩ => by
  subst e
  rw [List.length_append, hl _ _ h1, zaf hl xs c2 h2, List.length_cons, Nat.succ_mul, Nat.add_comm]
theorem zag {w : World} {M : Nat -> Prop} : ∀ (t : Ty) {cs : List Value} {x : t.el}, rep w M t cs x -> cs.length = t.cells := by
 intro t
 induction t with
 | int k => intro cs x h; cases h; rfl
 | bool => intro cs x h; cases h; rfl
 | str => intro cs x h; cases h.1; rfl
 | unit => intro cs x h; cases h; rfl
 | pair a b iha ihb => rintro cs x ⟨c1, c2, e, h1, h2⟩; subst e; rw [List.length_append, iha h1, ihb h2]; rfl
 | sl t ih => rintro cs x ⟨a, cap, cells, e, _⟩; subst e; rfl
 | ptr t ih => rintro cs x ⟨a, cells, e, _⟩; subst e; rfl
 | fn f t ih => rintro cs x ⟨bs, e, _⟩; subst e; rfl
 | err => rintro cs x (⟨_, e⟩ | ⟨_, t, v, e⟩ | ⟨t, n, _, e⟩) <;> subst e <;> rfl
 | opq => rintro cs x ⟨v, e, _⟩; subst e; rfl
 | arr n t ih =>
  rintro cs x ⟨h1, h2⟩
  have := zaf (fun cs x => ih) x cs h2
  rw [this, h1]
  rfl
 | map k v ihk ihv =>
  intro cs x h
  match x, h with
  | none, h => have h : cs = [.map none] := h; rw [h]; rfl
  | some ps, ⟨b, es, clock, e, _⟩ => rw [e]; rfl
theorem repL_oneCell {α : Type} {f : List Value -> α -> Prop} (h : ∀ c x, f c x -> ∀ u ∈ c, u.oneCell' = true) : ∀ {xs : List α} {cs : List Value}, repL f cs xs -> ∀ u ∈ cs, u.oneCell' = true
 | [], _, hh, u, hu => by cases hh; cases hu
 | _ :: _, _, ⟨c1, c2, e, h1, h2⟩, u, hu => by
  subst e
  rcases List.mem_append.1 hu with hu | hu
  ·exact h _ _ h1 u hu
  ·exact repL_oneCell h h2 u hu
theorem zah {w : World} {M : Nat -> Prop} : ∀ (t : Ty) {cs : List Value} {x : t.el}, rep w M t cs x -> ∀ u ∈ cs, u.oneCell' = true := by
 intro t
 induction t with
 | int k => intro cs x h u hu; cases h; simp at hu; subst hu; rfl
 | bool => intro cs x h u hu; cases h; simp at hu; subst hu; rfl
 | str => intro cs x h u hu; cases h.1; simp at hu; subst hu; rfl
 | unit => intro cs x h u hu; cases h; simp at hu
 | pair a b iha ihb =>
  rintro cs x ⟨c1, c2, e, h1, h2⟩ u hu
  subst e
  rcases List.mem_append.1 hu with hu | hu
  ·exact iha h1 u hu
  ·exact ihb h2 u hu
 | sl t ih => rintro cs x ⟨a, cap, cells, e, _⟩ u hu; subst e; simp at hu; subst hu; rfl
 | ptr t ih => rintro cs x ⟨a, cells, e, _⟩ u hu; subst e; simp at hu; subst hu; rfl
 | fn f t ih => rintro cs x ⟨bs, e, _⟩ u hu; subst e; simp at hu; subst hu; rfl
 | err => rintro cs x (⟨_, e⟩ | ⟨_, t, v, e⟩ | ⟨t, n, _, e⟩) u hu <;> subst e <;> simp at hu <;> subst hu <;> rfl
 | opq => rintro cs x ⟨v, e, h⟩ u hu; subst e; simp at hu; subst hu; exact h
 | arr n t ih => rintro cs x ⟨h1, h2⟩ u hu; exact repL_oneCell (fun _ _ => ih) h2 u hu
 | map k v ihk ihv =>
  intro cs x h u hu
  match x, h with
  | none, h => have h : cs = [.map none] := h; rw [h] at hu; simp at hu; subst hu; rfl
  | some ps, ⟨b, es, clock, e, _⟩ => rw [e] at hu; simp at hu; subst hu; rfl
theorem rep_flat {w w' : World} {M M' : Nat -> Prop} : ∀ (t : Ty) {cs : List Value} {x : t.el}, t.flat = true -> rep w M t cs x -> rep w' M' t cs x := by
 intro t
 induction t with
 | int k => exact fun _ h => h
 | bool => exact fun _ h => h
 | str => exact fun _ h => h
 | unit => exact fun _ h => h
 | pair a b iha ihb => intro cs x hf ⟨c1, c2, e, h1, h2⟩; simp only [Ty.flat, Bool.and_eq_true] at hf; exact ⟨c1, c2, e, iha hf.1 h1, ihb hf.2 h2⟩
 | sl t ih => intro cs x hf; simp [Ty.flat] at hf
 | ptr t ih => intro cs x hf; simp [Ty.flat] at hf
 | fn f t ih => intro cs x hf; simp [Ty.flat] at hf
 | err => intro cs x hf; simp [Ty.flat] at hf
 | opq => intro cs x hf; simp [Ty.flat] at hf
 | arr n t ih => intro cs x hf ⟨h1, h2⟩; exact ⟨h1, zab (fun _ _ => ih hf) h2⟩
 | map k v ihk ihv => intro cs x hf; simp [Ty.flat] at hf
def repV (w : World) (M : Nat -> Prop) (v : Value) (t : Ty) (x : t.el) : Prop :=
 if t.agg then ∃ cs : List Value, v = .agg cs.toArray /\ rep w M t cs x else rep w M t [v] x
theorem zai {w : World} {M : Nat -> Prop} {v : Value} {t : Ty} {x : t.el} (h : repV w M v t x) : rep w M t v.cells.toList x := by
 unfold repV at h
 split at h
 ·obtain ⟨cs, rfl, h⟩ := h; simpa [Value.cells] using h
 ·rename_i hn
  cases t with
  | int k => cases h; rfl
  | bool => cases h; rfl
  | str => obtain ⟨h, h2⟩ := h; cases h; exact ⟨rfl, h2⟩
  | sl t => obtain ⟨a, cap, cells, e, r⟩ := h; cases e; exact ⟨a, cap, cells, rfl, r⟩
  | ptr t => obtain ⟨a, cells, e, r⟩ := h; cases e; exact ⟨a, cells, rfl, r⟩
  | fn f t => obtain ⟨bs, e, r⟩ := h; cases e; exact ⟨bs, rfl, r⟩
  | err => rcases h with ⟨hb, e⟩ | ⟨hb, t, v, e⟩ | ⟨t, n, hb, e⟩ <;> cases e; exact .inl ⟨hb, rfl⟩; exact .inr (.inl ⟨hb, t, v, rfl⟩); exact .inr (.inr ⟨t, n, hb, rfl⟩)
  | opq =>
   obtain ⟨u, e, hu⟩ := h
   cases e
   have hc : v.cells.toList = [v] := by cases v <;> first | rfl | (simp [Value.oneCell'] at hu)
   exact ⟨v, hc, hu⟩
  | map k v' =>
   match x, h with
   | none, h => have h : [v] = [.map none] := h; cases h; rfl
   | some ps, ⟨b, es, clock, e, r⟩ => cases e; exact ⟨b, es, clock, rfl, r⟩
  | arr n t => simp [Ty.agg] at hn
  | unit => simp [Ty.agg] at hn
  | pair a b => simp [Ty.agg] at hn
theorem zaj {w w' : World} {M M' : Nat -> Prop} (hw : ∀ b, b < w.heap.size -> ¬ M b -> w'.heap[b]? = w.heap[b]?) (hM : ∀ b, b < w.heap.size -> M' b -> M b)
  {v : Value} {t : Ty} {x : t.el} (h : repV w M v t x) : repV w' M' v t x := by
 unfold repV at *
 split at h
 ·rename_i hp; rw [if_pos hp]; obtain ⟨cs, rfl, h⟩ := h; exact ⟨cs, rfl, rep_ext hw hM t h⟩
 ·rename_i hp; rw [if_neg hp]; exact rep_ext hw hM t h
theorem repV_flat {w w' : World} {M M' : Nat -> Prop} {v : Value} {t : Ty} {x : t.el} (hf : t.flat = true) (h : repV w M v t x) : repV w' M' v t x := by
 unfold repV at *
 split at h
 ·rename_i hp; rw [if_pos hp]; obtain ⟨cs, rfl, h⟩ := h; exact ⟨cs, rfl, rep_flat t hf h⟩
 ·rename_i hp; rw [if_neg hp]; exact rep_flat t hf h
def getT : (t : Ty) -> t.el -> Nat -> (u : Ty) -> Option u.el
 | .pair a b, x, off, u =>
  match Nat.beq off 0, TV.as ⟨.pair a b, x⟩ u with
  | true, some y => some y
  | _, _ => bif Nat.blt off a.cells then getT a x.1 off u else getT b x.2 (off - a.cells) u
 | .arr n t, x, off, u =>
  match Nat.beq off 0, TV.as ⟨.arr n t, x⟩ u with
  | true, some y => some y
  | _, _ => bif Nat.beq t.cells 0 then none else (match (show List t.el from x)[off / t.cells]? with
   | some z => getT t z (off % t.cells) u
   | none => none)
 | t, x, off, u => bif Nat.beq off 0 then TV.as ⟨t, x⟩ u else none
def setT : (t : Ty) -> t.el -> Nat -> TV -> Option t.el
 | .pair a b, x, off, v =>
  match Nat.beq off 0, v.as (.pair a b) with
  | true, some y => some y
  | _, _ => bif Nat.blt off a.cells then (match setT a x.1 off v with | some y => some (y, x.2) | none => none)
   else (match setT b x.2 (off - a.cells) v with | some y => some (x.1, y) | none => none)
 | .arr n t, x, off, v =>
  match Nat.beq off 0, v.as (.arr n t) with
  | true, some y => some y
  | _, _ => bif Nat.beq t.cells 0 then none else (match (show List t.el from x)[off / t.cells]? with
   | some z => (match setT t z (off % t.cells) v with | some z' => some (List.set (show List t.el from x) (off / t.cells) z') | none => none)
   | none => none)
 | t, _, off, v => bif Nat.beq off 0 then v.as t else none
end Go.Ev
namespace Go.Ev
open Go
inductive TR where
 | v (u : TV)
 | r (r : Nat)
 | a
def TR.is (b : Nat) : TR -> Bool
 | .r c => Nat.beq c b
 | _ => false
inductive PS where
 | f (off : Nat) (u : Ty)
 | x (j : Int) (sz : Nat)
def poff : List PS -> Nat
 | [] => 0
 | .f off _ :: p => off + poff p
 | .x j sz :: p => j.toNat * sz + poff p
theorem poff_append : ∀ (p q : List PS), poff (p ++ q) = poff p + poff q
 | [], q => by simp [poff]
 | .f off u :: p, q => by simp only [List.cons_append, poff, poff_append p q]; omega
 | .x j sz :: p, q => by simp only [List.cons_append, poff, poff_append p q]; omega
inductive SV where
 | any
 | undef
 | val (t : Ty) (x : t.el)
 | tup (l : List TV)
 | tups (l : List TR)
 | ptr (b off : Nat)
 | selfp (b : Nat)
 | vptr (t : Ty) (x : t.el)
 | row (r : Nat)
 | rptr (r : Nat) (i : Int) (off sz : Nat)
 | clos (f : Nat) (bs : List Nat)
 | iter (b : Nat)
 | bp (b : Nat) (p : List PS)
 | osl (b : Nat)
 | optr (b : Nat) (i : Int)
 | sub (b : Nat) (i : Int)
 | bclos (f b : Nat)
 | rrp (b : Nat) (i : Int) (off sz : Nat)
 | ssp (b : Nat) (i j : Int) (off sz : Nat)
 | hd (n : Int)
 | sa (l : List TR)
structure RowC where
 e : Nat
 t : Ty
 xs : List t.el
inductive IK where
 | mp (k v : Ty)
 | row (e : Nat) (t : Ty)
def IK.el : IK -> Type
 | .mp k v => Option (List (k.el × v.el))
 | .row _ t => List t.el
structure RK where
 u : Ty
 off : Nat
 e : Nat
 t : Ty
inductive BX where
 | cells (l : List SV) (e : Nat)
 | iter (s : List UInt8) (pos : Nat)
 | mp (k v : Ty) (ps : List (k.el × v.el))
 | mit (k v : Ty) (left last : List (k.el × v.el))
 | blk (t : Ty) (x : t.el) (e : Nat)
 | raw (f : World -> (Nat -> Prop) -> Nat -> Prop)
 | o2 (e : Nat) (k : IK) (xs : List (Option k.el))
 | rr (e : Nat) (k : RK) (xs : List k.u.el) (h : Option Int)
structure St where
 sl : List (Nat × SV)
 bx : List (Nat × BX)
 rw : List (Nat × RowC)
def look {α : Type} : List (Nat × α) -> Nat -> Option α
 | [], _ => none
 | (k, v) :: r, n => bif Nat.beq k n then some v else look r n
def del {α : Type} : List (Nat × α) -> Nat -> List (Nat × α)
 | [], _ => []
 | (k, v) :: r, n => bif Nat.beq k n then del r n else (k, v) :: del r n
theorem zak {α : Type} {l : List (Nat × α)} {n : Nat} {v : α} (h : look l n = some v) : (n, v) ∈ l := by
 induction l with
 | nil => simp [look] at h
 | cons p r ih =>
  obtain ⟨k, u⟩ := p
  unfold look at h
  cases hb : Nat.beq k n with
  | true => rw [hb] at h; simp only [cond_true, Option.some.injEq] at h; subst h; rw [Nat.eq_of_beq_eq_true hb]; exact List.mem_cons_self
  | false => rw [hb] at h; exact List.mem_cons_of_mem _ (ih h)
theorem mem_del {α : Type} {l : List (Nat × α)} {n k : Nat} {v : α} : (k, v) ∈ del l n ↔ (k, v) ∈ l /\ k ≠ n := by
 induction l with
 | nil => simp [del]
 | cons p r ih =>
  obtain ⟨j, u⟩ := p
  unfold del
  cases hb : Nat.beq j n with
  | true =>
   have hj := Nat.eq_of_beq_eq_true hb
   simp only [cond_true, ih, List.mem_cons, Prod.mk.injEq]
   constructor
   ·rintro ⟨h1, h2⟩; exact ⟨.inr h1, h2⟩
   ·rintro ⟨⟨h1, _⟩ | h1, h2⟩
    ·exact absurd (h1.trans hj) h2
    ·exact ⟨h1, h2⟩
  | false =>
   have hj : j ≠ n := fun h => by rw [h] at hb; rw [Nat.beq_refl] at hb; cases hb
   simp only [cond_false, List.mem_cons, Prod.mk.injEq, ih]
   constructor
   ·rintro (⟨h1, h2⟩ | ⟨h1, h2⟩)
    ·exact ⟨.inl ⟨h1, h2⟩, h1 ▸ hj⟩
    ·exact ⟨.inr h1, h2⟩
   ·rintro ⟨h1 | h1, h2⟩
    ·exact .inl h1
    ·exact .inr ⟨h1, h2⟩
theorem del_keys {α : Type} (l : List (Nat × α)) (n : Nat) : (del l n).map (·.1) = (l.map (·.1)).filter (fun k => !Nat.beq k n) := by
 induction l with
 | nil => rfl
 | cons p r ih =>
  obtain ⟨j, u⟩ := p
  unfold del
  cases hb : Nat.beq j n <;> simp [ih, hb]
def SV.refs (r : Nat) : SV -> Bool
 | .ptr b _ => Nat.beq b r
 | .selfp b => Nat.beq b r
 | .row b => Nat.beq b r
 | .rptr b _ _ _ => Nat.beq b r
 | .clos _ bs => bs.any (Nat.beq · r)
 | .iter b => Nat.beq b r
 | .bp b _ => Nat.beq b r
 | .osl b => Nat.beq b r
 | .optr b _ => Nat.beq b r
 | .sub b _ => Nat.beq b r
 | .rrp b _ _ _ => Nat.beq b r
 | .ssp b _ _ _ _ => Nat.beq b r
 | .bclos _ b => Nat.beq b r
 | .sa l => l.any (TR.is r)
 | .tups l => l.any (TR.is r)
 | _ => false
def SV.scrub (r : Nat) (s : SV) : SV := bif s.refs r then .any else s
def BX.map (f : SV -> SV) : BX -> BX
 | .cells l e => .cells (l.map f) e
 | .iter s p => .iter s p
 | .mp k v ps => .mp k v ps
 | .mit k v l a => .mit k v l a
 | .blk t x e => .blk t x e
 | .raw f => .raw f
 | .o2 e k xs => .o2 e k xs
 | .rr e k xs h => .rr e k xs h
def St.scrub (st : St) (r : Nat) : St :=
 {sl := st.sl.map fun p => (p.1, p.2.scrub r), bx := (del st.bx r).map fun p => (p.1, p.2.map (SV.scrub r)), rw := del st.rw r }
def St.put (st : St) (d : Nat) (v : SV) : St := { st with sl := (d, v) :: del st.sl d }
def St.ids (st : St) : List Nat := st.bx.map (·.1) ++ st.rw.map (·.1)
def blk : Value -> Option Nat
 | .pointer (some a) => some a.block
 | .slice (some a) _ _ => some a.block
 | .map (some r) => some r
 | _ => none
def own : Value -> Nat -> Prop
 | .tuple us, b => ∃ u ∈ us.toList, blk u = some b
 | v, b => blk v = some b
theorem zal {v : Value} {b : Nat} (h : blk v = some b) : own v b := by
 cases v <;> first | exact h | (simp [blk] at h)
def bytesOf (s : List UInt8) : ByteArray := ⟨s.toArray⟩
structure Cx where
 P : Program
 n : Nat
 w0 : World
 A : Nat -> Prop
 X : Nat -> Prop
 m0 : Nat -> Value
def Mut (cx : Cx) (m : Nat -> Value) (ids : List Nat) (b : Nat) : Prop := cx.A b \/ ∃ i ∈ ids, own (m i) b
def repVs (w : World) (M : Nat -> Prop) : List Value -> List TV -> Prop
 | [], [] => True
 | v :: vs, u :: us => repV w M v u.t u.x /\ repVs w M vs us
 | _, _ => False
def repTRs (w : World) (M : Nat -> Prop) (m : Nat -> Value) : List Value -> List TR -> Prop
 | [], [] => True
 | v :: vs, .v u :: us => repV w M v u.t u.x /\ repTRs w M m vs us
 | v :: vs, .r r :: us => v = m r /\ repTRs w M m vs us
 | _ :: vs, .a :: us => repTRs w M m vs us
 | _, _ => False
def repS (w : World) (M : Nat -> Prop) (m : Nat -> Value) (v : Value) : SV -> Prop
 | .any => True
 | .undef => v = Go.undef
 | .val t x => repV w M v t x
 | .tup l => ∃ vs : List Value, v = .tuple vs.toArray /\ repVs w M vs l
 | .tups l => ∃ vs : List Value, v = .tuple vs.toArray /\ repTRs w M m vs l
 | .ptr b off => ∃ g, m b = .pointer (some ⟨g, 0, none⟩) /\ v = .pointer (some ⟨g, off, none⟩)
 | .selfp b => v = .pointer none \/ v = m b
 | .vptr t x => ∃ a cells, v = .pointer (some a) /\ rep w M t cells x /\ ∀ j u, cells[j]? = some u -> w.cell? (a.add j) = some u /\ ¬ M a.block
 | .row r => v = m r
 | .rptr r i off sz => ∃ g n cap, m r = .slice (some ⟨g, 0, none⟩) n cap /\ v = .pointer (some ⟨g, i.toNat * sz + off, none⟩)
 | .clos f bs => v = .func (.func f) #[] (bs.map m).toArray
 | .iter b => v = m b
 | .bp b p => ∃ g, m b = .pointer (some ⟨g, 0, none⟩) /\ v = .pointer (some ⟨g, poff p, none⟩)
 | .osl b => ∃ us, m b = .tuple (v :: us).toArray
 | .optr b i => ∃ g n cap us, m b = .tuple (.slice (some ⟨g, 0, none⟩) n cap :: us).toArray /\ v = .pointer (some ⟨g, i.toNat, none⟩)
 | .sub b i => ∃ r us, m b = .tuple (r :: us).toArray /\ us[i.toNat]? = some v
 | .bclos f b => v = .func (.func f) #[m b] #[]
 | .rrp b i off sz => ∃ g n cap us, m b = .tuple (.slice (some ⟨g, 0, none⟩) n cap :: us).toArray /\ v = .pointer (some ⟨g, i.toNat * sz + off, none⟩)
 | .ssp b i j off sz => ∃ r us g n cap, m b = .tuple (r :: us).toArray /\ us[i.toNat]? = some (.slice (some ⟨g, 0, none⟩) n cap) /\ v = .pointer (some ⟨g, j.toNat * sz + off, none⟩)
 | .hd n => ∃ a k cap, v = .slice a k cap /\ (k : Int) = n
 | .sa l => ∃ vs : List Value, v = .agg vs.toArray /\ repTRs w M m vs l
def repSs (w : World) (M : Nat -> Prop) (m : Nat -> Value) : List Value -> List SV -> Prop
 | [], [] => True
 | v :: vs, u :: us => repS w M m v u /\ repSs w M m vs us
 | _, _ => False
def repV' (w : World) (M : Nat -> Prop) (t : Ty) (v : Value) (x : t.el) : Prop := asV t.agg (rep w M t) v x
def mval (g : Nat) : BX -> Value
 | .cells _ _ => .pointer (some ⟨g, 0, none⟩)
 | .iter _ _ => .pointer (some ⟨g, 0, none⟩)
 | .mp _ _ _ => .map (some g)
 | .mit _ _ _ _ => .pointer (some ⟨g, 0, none⟩)
 | .blk _ _ _ => .pointer (some ⟨g, 0, none⟩)
 | .raw _ => .pointer (some ⟨g, 0, none⟩)
 | .o2 _ _ _ => .pointer (some ⟨g, 0, none⟩)
 | .rr _ _ _ _ => .pointer (some ⟨g, 0, none⟩)
def isM (v : Value) (g : Nat) : BX -> Prop
 | .o2 _ _ _ => ∃ n cap us, v = .tuple (.slice (some ⟨g, 0, none⟩) n cap :: us).toArray
 | .rr _ _ _ _ => ∃ r us, v = .tuple (r :: us).toArray
 | c => v = mval g c
def BX.one : BX -> Bool
 | .rr _ _ _ _ => false
 | _ => true
theorem one_map {c : BX} {f : SV -> SV} : (c.map f).one = c.one := by cases c <;> rfl
theorem isM_own {v : Value} {g : Nat} {c : BX} (h : isM v g c) (h1 : c.one = true) : own v g := by
 cases c with
 | o2 e k xs => obtain ⟨n, cap, us, rfl⟩ := h; exact ⟨_, List.mem_cons_self, rfl⟩
 | rr e k xs hh => cases h1
 | _ => cases h; rfl
theorem isM_map {v : Value} {g : Nat} {c : BX} {f : SV -> SV} : isM v g (c.map f) ↔ isM v g c := by cases c <;> exact Iff.rfl
def iOK (w : World) (M : Nat -> Prop) (u : Value) : (k : IK) -> k.el -> Prop
 | .mp _ _, none => u = .map none
 | .mp k v, some ps => ∃ (r : Nat) (es : Array MapEntry) (clock : Nat), u = .map (some r) /\ w.heap[r]? = some (.map es clock) /\ (∀ e ∈ es.toList, e.born < clock) /\ (es.toList.map (·.born)).Nodup /\ repM (repV' w M k) (repV' w M v) es.toList ps
 | .row e t, xs => ∃ cells, w.ownsRow 0 e t.cells u (List.length (α := t.el) xs) cells /\ repL (rep w M t) cells xs
def o2in (w : World) (M : Nat -> Prop) (k : IK) : List (Option k.el) -> List Value -> List Value -> Prop
 | [], [], [] => True
 | none :: xs, _ :: us, u' :: us' => u' = undef /\ o2in w M k xs us us'
 | some x :: xs, u :: us, u' :: us' => u' = u /\ iOK w M u k x /\ o2in w M k xs us us'
 | _, _, _ => False
def elR (w : World) (M : Nat -> Prop) (k : RK) (out : Prop) (cs : List Value) (v : Value) (x : k.u.el) : Prop :=
 ∃ L v1 x0, cs = L.set k.off v1 /\ L[k.off]? = some (.slice none 0 0) /\ v1.oneCell' = true /\ setT k.u x k.off ⟨.sl k.t, []⟩ = some x0 /\ rep w M k.u L x0 /\ (out -> v = undef) /\
  (¬ out -> v = v1 /\ ∃ (ys : List k.t.el) (cells : List Value), getT k.u x k.off (.sl k.t) = some ys /\ w.ownsRow 0 k.e k.t.cells v ys.length cells /\ repL (rep w M k.t) cells ys)
def isOut (h : Option Int) (n : Nat) : Prop := ∃ i, h = some i /\ i.toNat = n
def rrIn (w : World) (M : Nat -> Prop) (k : RK) (h : Option Int) : Nat -> List k.u.el -> List Value -> List Value -> Prop
 | _, [], cs, us => cs = [] /\ us = []
 | n, x :: xs, cs, us => ∃ c d v vs, cs = c ++ d /\ c.length = k.u.cells /\ us = v :: vs /\ elR w M k (isOut h n) c v x /\ rrIn w M k h (n + 1) xs d vs
def objOK (w : World) (M : Nat -> Prop) (m : Nat -> Value) (v : Value) (g : Nat) : BX -> Prop
 | .cells l e => ∃ cells, w.heap[g]? = some (.cells cells e (0, 0)) /\ repSs w M m cells.toList l
 | .iter s p => w.heap[g]? = some (.stringIter (bytesOf s) p)
 | .mp k v ps => ∃ (es : Array MapEntry) (clock : Nat), w.heap[g]? = some (.map es clock) /\ (∀ e ∈ es.toList, e.born < clock) /\ (es.toList.map (·.born)).Nodup /\ repM (repV' w M k) (repV' w M v) es.toList ps
 | .mit k v left last => (w.heap[g]? = some (.mapIter none 0 #[] 0) /\ left = [] /\ last = []) \/ ∃ (b : Nat) (es : Array MapEntry) (clock : Nat) (seen : Array Nat), w.heap[g]? = some (.mapIter (some b) clock seen clock) /\ w.heap[b]? = some (.map es clock) /\ ¬ M b /\
   (∀ e ∈ es.toList, e.born < clock) /\ (es.toList.map (·.born)).Nodup /\ repM (repV' w M k) (repV' w M v) (es.toList.filter fun e => !seen.contains e.born) left /\
   (last = [] \/ ∃ e p, last = [p] /\ e ∈ es.toList /\ seen.back? = some e.born /\ repV' w M k e.key p.1 /\ repV' w M v e.val p.2)
 | .blk t x e => ∃ cells, w.heap[g]? = some (.cells cells e (0, 0)) /\ rep w M t cells.toList x
 | .raw f => (∃ o, w.heap[g]? = some o) /\ ∀ (w' : World) (M' : Nat -> Prop), (∀ b, b < w.heap.size -> ¬ M b -> w'.heap[b]? = w.heap[b]?) -> (∀ b, b < w.heap.size -> M' b -> M b) -> w'.heap[g]? = w.heap[g]? -> f w' M' g
 | .o2 e k xs => ∃ n cap us us', v = .tuple (.slice (some ⟨g, 0, none⟩) n cap :: us').toArray /\ w.ownsRow 0 e 1 (.slice (some ⟨g, 0, none⟩) n cap) xs.length us /\ o2in w M k xs us us' /\ (g :: us'.filterMap blk).Nodup
 | .rr e k xs h => ∃ hd us cells, v = .tuple (hd :: us).toArray /\ w.ownsRow 0 e k.u.cells hd xs.length cells /\ rrIn w M k h 0 xs cells us /\ ((hd :: us).filterMap blk).Nodup
class Dr where
 d : Prop
instance (priority := low) drNo : Dr := ⟨False⟩
variable [Dr]
structure Frame (w0 w : World) (X : Nat -> Prop) : Prop where
 os : w.os = w0.os
 tape : w.tape = w0.tape
 output : w.output = w0.output
 size : w0.heap.size <= w.heap.size
 block : ∀ b, b < w0.heap.size -> ¬ X b -> w.heap[b]? = w0.heap[b]?
 drawn : Dr.d -> w0.drawn <= w.drawn
def keptRow : Nat := 10000000
structure Rm (cx : Cx) (m : Nat -> Value) (st : St) (T : Array Value) (w : World) : Prop where
 size : T.size = cx.n
 frame : Frame cx.w0 w cx.X
 outer : ∀ b, cx.A b -> b < cx.w0.heap.size /\ ¬ cx.X b
 slots : ∀ i sv, (i, sv) ∈ st.sl -> ∃ v, T[i]? = some v /\ repS w (Mut cx m st.ids) m v sv
 boxes : ∀ b c, (b, c) ∈ st.bx -> ∃ g, isM (m b) g c /\ (∀ g', own (m b) g' -> cx.w0.heap.size <= g' \/ cx.X g') /\ objOK w (Mut cx m st.ids) m (m b) g c
 rows : ∀ r c, (r, c) ∈ st.rw -> ∃ cells, w.ownsRow 0 c.e c.t.cells (m r) c.xs.length cells /\ (∀ g, own (m r) g -> cx.w0.heap.size <= g \/ cx.X g) /\ repL (rep w (Mut cx m st.ids) c.t) cells c.xs
 apart : ∀ i j, i ∈ st.ids -> j ∈ st.ids -> i ≠ j -> ∀ g, own (m i) g -> ¬ own (m j) g
 keys : st.ids.Nodup
 fixed : ∀ b c, (b, c) ∈ st.bx -> c.one = true -> cx.n <= b -> m b = cx.m0 b
 kept : ∀ r c, (r, c) ∈ st.rw -> cx.n <= r -> keptRow <= r -> m r = cx.m0 r
def R (cx : Cx) (st : St) (T : Array Value) (w : World) : Prop := ∃ m, Rm cx m st T w
def upd (m : Nat -> Value) (r : Nat) (u : Value) : Nat -> Value := fun i => if i = r then u else m i
theorem zam (m : Nat -> Value) (r : Nat) (u : Value) : upd m r u r = u := by simp [upd]
theorem zan (m : Nat -> Value) {r i : Nat} (u : Value) (h : i ≠ r) : upd m r u i = m i := by simp [upd, h]
theorem zao {a b : Nat} (h : Nat.beq a b = false) : a ≠ b := fun e => by rw [e, Nat.beq_refl] at h; cases h
theorem repVs_ext {w w' : World} {M M' : Nat -> Prop} (hw : ∀ b, b < w.heap.size -> ¬ M b -> w'.heap[b]? = w.heap[b]?) (hM : ∀ b, b < w.heap.size -> M' b -> M b) :
  ∀ {vs : List Value} {l : List TV}, repVs w M vs l -> repVs w' M' vs l
 | [], [], _ => trivial
 | [], _ :: _, h => h.elim
 | _ :: _, [], h => h.elim
 | _ :: _, _ :: _, ⟨h1, h2⟩ => ⟨zaj hw hM h1, repVs_ext hw hM h2⟩
theorem repTRs_ext {w w' : World} {M M' : Nat -> Prop} {m : Nat -> Value} (hw : ∀ b, b < w.heap.size -> ¬ M b -> w'.heap[b]? = w.heap[b]?) (hM : ∀ b, b < w.heap.size -> M' b -> M b) :
  ∀ {vs : List Value} {l : List TR}, repTRs w M m vs l -> repTRs w' M' m vs l
 | [], [], _ => trivial
 | [], _ :: _, h => h.elim
 | _ :: _, [], h => h.elim
 | _ :: _, .v _ :: _, ⟨h1, h2⟩ => ⟨zaj hw hM h1, repTRs_ext hw hM h2⟩
 | _ :: _, .r _ :: _, ⟨h1, h2⟩ => ⟨h1, repTRs_ext hw hM h2⟩
 | _ :: vs, .a :: us, h => repTRs_ext (vs := vs) (l := us) hw hM h
theorem repTRs_upd {w : World} {M : Nat -> Prop} {m : Nat -> Value} {r : Nat} {u : Value} : ∀ {vs : List Value} {l : List TR}, l.any (TR.is r) = false -> repTRs w M m vs l -> repTRs w M (upd m r u) vs l
 | [], [], _, _ => trivial
 | [], _ :: _, _, h => h.elim
 | _ :: _, [], _, h => h.elim
 | _ :: _, .v _ :: _, hr, ⟨h1, h2⟩ => ⟨h1, repTRs_upd (by rw [List.any_cons, Bool.or_eq_false_iff] at hr; exact hr.2) h2⟩
 | _ :: vs, .a :: us, hr, h => repTRs_upd (vs := vs) (l := us) (by rw [List.any_cons, Bool.or_eq_false_iff] at hr; exact hr.2) h
 | _ :: _, .r b :: _, hr, ⟨h1, h2⟩ => by
  rw [List.any_cons, Bool.or_eq_false_iff] at hr
  exact ⟨by rw [zan _ _ (zao hr.1)]; exact h1, repTRs_upd hr.2 h2⟩
theorem zap {w w' : World} {M M' : Nat -> Prop} {m : Nat -> Value} (hw : ∀ b, b < w.heap.size -> ¬ M b -> w'.heap[b]? = w.heap[b]?) (hM : ∀ b, b < w.heap.size -> M' b -> M b)
  {v : Value} {s : SV} (h : repS w M m v s) : repS w' M' m v s := by
 cases s with
 | any => trivial
 | undef => exact h
 | val t x => exact zaj hw hM h
 | tup l => obtain ⟨vs, e, h⟩ := h; exact ⟨vs, e, repVs_ext hw hM h⟩
 | tups l => obtain ⟨vs, e, h⟩ := h; exact ⟨vs, e, repTRs_ext hw hM h⟩
 | ptr b off => exact h
 | selfp b => exact h
 | vptr t x =>
  obtain ⟨a, cells, e, h1, h2⟩ := h
  refine ⟨a, cells, e, rep_ext hw hM t h1, fun j u hj => ?_⟩
  obtain ⟨hc, hm⟩ := h2 j u hj
  have hlt : a.block < w.heap.size := by
   have := World.block_lt_of_cell? w (a.add j) hc
   rwa [zae] at this
  refine ⟨?_, fun h => hm (hM _ hlt h)⟩
  rw [World.cell?_of_block (w := w) (by rw [zae]; exact hw _ hlt hm)]
  exact hc
 | row r => exact h
 | rptr r i off sz => exact h
 | clos f bs => exact h
 | iter b => exact h
 | bp b p => exact h
 | osl b => exact h
 | optr b i => exact h
 | sub b i => exact h
 | bclos f b => exact h
 | rrp b i off sz => exact h
 | ssp b i j off sz => exact h
 | hd n => exact h
 | sa l => obtain ⟨vs, e, h⟩ := h; exact ⟨vs, e, repTRs_ext hw hM h⟩
theorem repS_upd {w : World} {M : Nat -> Prop} {m : Nat -> Value} {r : Nat} {u : Value} {v : Value} {s : SV} (hr : s.refs r = false) (h : repS w M m v s) : repS w M (upd m r u) v s := by
 cases s with
 | any => trivial
 | undef => exact h
 | val t x => exact h
 | tup l => exact h
 | tups l => obtain ⟨vs, e, h⟩ := h; exact ⟨vs, e, repTRs_upd hr h⟩
 | vptr t x => exact h
 | ptr b off => obtain ⟨g, h1, h2⟩ := h; exact ⟨g, by rw [zan _ _ (zao hr)]; exact h1, h2⟩
 | selfp b => show _ \/ v = _; rw [zan _ _ (zao hr)]; exact h
 | row b => show v = _; rw [zan _ _ (zao hr)]; exact h
 | rptr b i off sz => obtain ⟨g, n, cap, h1, h2⟩ := h; exact ⟨g, n, cap, by rw [zan _ _ (zao hr)]; exact h1, h2⟩
 | iter b => show v = _; rw [zan _ _ (zao hr)]; exact h
 | bp b p => obtain ⟨g, h1, h2⟩ := h; exact ⟨g, by rw [zan _ _ (zao hr)]; exact h1, h2⟩
 | osl b => obtain ⟨us, h1⟩ := h; exact ⟨us, by rw [zan _ _ (zao hr)]; exact h1⟩
 | optr b i => obtain ⟨g, n, cap, us, h1, h2⟩ := h; exact ⟨g, n, cap, us, by rw [zan _ _ (zao hr)]; exact h1, h2⟩
 | sub b i => obtain ⟨r', us, h1, h2⟩ := h; exact ⟨r', us, by rw [zan _ _ (zao hr)]; exact h1, h2⟩
 | bclos f b => show v = _; rw [zan _ _ (zao hr)]; exact h
 | rrp b i off sz => obtain ⟨g, n, cap, us, h1, h2⟩ := h; exact ⟨g, n, cap, us, by rw [zan _ _ (zao hr)]; exact h1, h2⟩
 | ssp b i j off sz => obtain ⟨r', us, g, n, cap, h1, h2⟩ := h; exact ⟨r', us, g, n, cap, by rw [zan _ _ (zao hr)]; exact h1, h2⟩
 | hd n => exact h
 | sa l => obtain ⟨vs, e, h⟩ := h; exact ⟨vs, e, repTRs_upd hr h⟩
 | clos f bs =>
  have hb : bs.map (upd m r u) = bs.map m := by
   apply List.map_congr_left
   intro b hb
   apply zan
   intro e
   have := List.any_eq_false.1 hr b hb
   rw [e, Nat.beq_refl] at this
   exact this rfl
  show v = _
  rw [hb]
  exact h
theorem repS_scrub {w : World} {M : Nat -> Prop} {m : Nat -> Value} (r : Nat) (u : Value) {v : Value} {s : SV} (h : repS w M m v s) : repS w M (upd m r u) v (s.scrub r) := by
 unfold SV.scrub
 cases hr : s.refs r with
 | true => trivial
 | false => exact repS_upd hr h
theorem repSs_map {w w' : World} {M M' : Nat -> Prop} {m m' : Nat -> Value} {f : SV -> SV} (hf : ∀ v s, repS w M m v s -> repS w' M' m' v (f s)) :
  ∀ {vs : List Value} {l : List SV}, repSs w M m vs l -> repSs w' M' m' vs (l.map f)
 | [], [], _ => trivial
 | [], _ :: _, h => h.elim
 | _ :: _, [], h => h.elim
 | _ :: _, _ :: _, ⟨h1, h2⟩ => ⟨hf _ _ h1, repSs_map hf h2⟩
theorem iOK_map {w w' : World} {M M' : Nat -> Prop} {u : Value} (hw : ∀ b, b < w.heap.size -> ¬ M b -> w'.heap[b]? = w.heap[b]?) (hM : ∀ b, b < w.heap.size -> M' b -> M b) (hh : ∀ b, blk u = some b -> w'.heap[b]? = w.heap[b]?) :
  ∀ {k : IK} {x : k.el}, iOK w M u k x -> iOK w' M' u k x
 | .mp _ _, none, h => h
 | .mp k v, some ps, ⟨r, es, clock, h0, h1, h2, h3, h4⟩ => ⟨r, es, clock, h0, by rw [hh r (by rw [h0]; rfl)]; exact h1, h2, h3, zac (fun _ _ h => zaj hw hM h) (fun _ _ h => zaj hw hM h) h4⟩
 | .row e t, xs, ⟨cells, h1, h2⟩ => by
  refine ⟨cells, ⟨h1.1, ?_⟩, zab (fun _ _ => rep_ext hw hM t) h2⟩
  rcases h1.2 with h3 | ⟨g, cap, cur, hv, hb0, h3, rest⟩
  ·exact .inl h3
  ·exact .inr ⟨g, cap, cur, hv, hb0, by rw [hh g (by rw [hv]; rfl)]; exact h3, rest⟩
theorem o2in_map {w w' : World} {M M' : Nat -> Prop} {k : IK} (hw : ∀ b, b < w.heap.size -> ¬ M b -> w'.heap[b]? = w.heap[b]?) (hM : ∀ b, b < w.heap.size -> M' b -> M b) :
  ∀ {xs : List (Option k.el)} {us us' : List Value}, (∀ u ∈ us', ∀ b, blk u = some b -> w'.heap[b]? = w.heap[b]?) -> o2in w M k xs us us' -> o2in w' M' k xs us us'
 | [], [], [], _, _ => trivial
 | none :: xs, _ :: us, u' :: us', hh, ⟨h1, h2⟩ => ⟨h1, o2in_map hw hM (fun u hu => hh u (List.mem_cons_of_mem _ hu)) h2⟩
 | some x :: xs, u :: us, u' :: us', hh, ⟨h1, h2, h3⟩ => ⟨h1, iOK_map hw hM (h1 ▸ hh u' List.mem_cons_self) h2, o2in_map hw hM (fun u hu => hh u (List.mem_cons_of_mem _ hu)) h3⟩
theorem iOK_lt {w : World} {M : Nat -> Prop} {u : Value} : ∀ {k : IK} {x : k.el}, iOK w M u k x -> ∀ b, blk u = some b -> b < w.heap.size
 | .mp _ _, none, h, b, hb => by cases h; cases hb
 | .mp k v, some ps, ⟨r, es, clock, h0, h1, _⟩, b, hb => by rw [h0] at hb; cases hb; exact zad h1
 | .row e t, xs, ⟨cells, h1, h2⟩, b, hb => by
  rcases h1.2 with ⟨h3, _⟩ | ⟨g, cap, cur, hv, hb0, h3, rest⟩
  ·rw [h3] at hb; cases hb
  ·rw [hv] at hb; cases hb; exact zad h3
theorem o2in_lt {w : World} {M : Nat -> Prop} {k : IK} : ∀ {xs : List (Option k.el)} {us us' : List Value}, o2in w M k xs us us' -> ∀ u ∈ us', ∀ b, blk u = some b -> b < w.heap.size
 | [], [], [], _, u, hu, _, _ => by cases hu
 | none :: xs, _ :: us, u' :: us', ⟨h1, h2⟩, u, hu, b, hb => by
  rcases List.mem_cons.1 hu with rfl | hu
  ·rw [h1] at hb; cases hb
  ·exact o2in_lt h2 u hu b hb
 | some x :: xs, u0 :: us, u' :: us', ⟨h1, h2, h3⟩, u, hu, b, hb => by
  rcases List.mem_cons.1 hu with rfl | hu
  ·rw [h1] at hb; exact iOK_lt h2 b hb
  ·exact o2in_lt h3 u hu b hb
theorem ownsRow_same {w w' : World} {e sz n : Nat} {v : Value} {cells : List Value} (h : w.ownsRow 0 e sz v n cells) (hh : ∀ b, blk v = some b -> w'.heap[b]? = w.heap[b]?) : w'.ownsRow 0 e sz v n cells := by
 refine ⟨h.1, ?_⟩
 rcases h.2 with h3 | ⟨g, cap, cur, hv, hb0, h3, rest⟩
 ·exact .inl h3
 ·exact .inr ⟨g, cap, cur, hv, hb0, by rw [hh g (by rw [hv]; rfl)]; exact h3, rest⟩
theorem elR_map {w w' : World} {M M' : Nat -> Prop} {k : RK} {out out' : Prop} {cs : List Value} {v : Value} {x : k.u.el} (hw : ∀ b, b < w.heap.size -> ¬ M b -> w'.heap[b]? = w.heap[b]?) (hM : ∀ b, b < w.heap.size -> M' b -> M b) (ho : out ↔ out') (hh : ∀ b, blk v = some b -> w'.heap[b]? = w.heap[b]?)
  (h : elR w M k out cs v x) : elR w' M' k out' cs v x := by
 obtain ⟨L, v1, x0, e1, e2, e3, e4, e5, e6, e7⟩ := h
 refine ⟨L, v1, x0, e1, e2, e3, e4, rep_ext hw hM k.u e5, fun h => e6 (ho.2 h), fun h => ?_⟩
 obtain ⟨h1, ys, cells, h2, h3, h4⟩ := e7 fun hn => h (ho.1 hn)
 exact ⟨h1, ys, cells, h2, ownsRow_same h3 hh, zab (fun _ _ => rep_ext hw hM k.t) h4⟩
theorem rrIn_map {w w' : World} {M M' : Nat -> Prop} {k : RK} {h h' : Option Int} (hw : ∀ b, b < w.heap.size -> ¬ M b -> w'.heap[b]? = w.heap[b]?) (hM : ∀ b, b < w.heap.size -> M' b -> M b) :
  ∀ {xs : List k.u.el} {n : Nat} {cs us : List Value}, (∀ m, n <= m -> (isOut h m ↔ isOut h' m)) -> (∀ u ∈ us, ∀ b, blk u = some b -> w'.heap[b]? = w.heap[b]?) -> rrIn w M k h n xs cs us -> rrIn w' M' k h' n xs cs us
 | [], _, _, _, _, _, hr => hr
 | x :: xs, n, cs, us, ho, hh, ⟨c, d, v, vs, e1, e2, e3, e4, e5⟩ => by
  subst e3
  exact ⟨c, d, v, vs, e1, e2, rfl, elR_map hw hM (ho n (Nat.le_refl n)) (hh v List.mem_cons_self) e4, rrIn_map hw hM (fun m hm => ho m (by omega)) (fun u hu => hh u (List.mem_cons_of_mem _ hu)) e5⟩
theorem elR_lt {w : World} {M : Nat -> Prop} {k : RK} {out : Prop} {cs : List Value} {v : Value} {x : k.u.el} (h : elR w M k out cs v x) {b : Nat} (hb : blk v = some b) : b < w.heap.size := by
 obtain ⟨L, v1, x0, _, _, _, _, _, e6, e7⟩ := h
 by_cases ho : out
 ·rw [e6 ho] at hb; cases hb
 ·obtain ⟨_, ys, cells, _, h3, _⟩ := e7 ho
  rcases h3.2 with ⟨h4, _⟩ | ⟨g, cap, cur, hv, _, h4, _⟩
  ·rw [h4] at hb; cases hb
  ·rw [hv] at hb; cases hb; exact zad h4
theorem rrIn_lt {w : World} {M : Nat -> Prop} {k : RK} {h : Option Int} : ∀ {xs : List k.u.el} {n : Nat} {cs us : List Value}, rrIn w M k h n xs cs us -> ∀ u ∈ us, ∀ b, blk u = some b -> b < w.heap.size
 | [], _, _, _, hr, u, hu, _, _ => by rw [hr.2] at hu; cases hu
 | x :: xs, n, cs, us, ⟨c, d, v, vs, _, _, e3, e4, e5⟩, u, hu, b, hb => by
  subst e3
  rcases List.mem_cons.1 hu with rfl | hu
  ·exact elR_lt e4 hb
  ·exact rrIn_lt e5 u hu b hb
theorem own_tup {r : Value} {us : List Value} {b : Nat} : own (.tuple (r :: us).toArray) b ↔ blk r = some b \/ ∃ u ∈ us, blk u = some b := by
 show (∃ u ∈ r :: us, blk u = some b) ↔ _
 simp
theorem zaq {w w' : World} {M M' : Nat -> Prop} {m m' : Nat -> Value} {v0 : Value} {g : Nat} {f : SV -> SV} (hw : ∀ b, b < w.heap.size -> ¬ M b -> w'.heap[b]? = w.heap[b]?) (hM : ∀ b, b < w.heap.size -> M' b -> M b) {c : BX} (hg : c.one = true -> own v0 g) (hh0 : ∀ b, own v0 b -> w'.heap[b]? = w.heap[b]?) (hf : ∀ v s, repS w M m v s -> repS w' M' m' v (f s)) :
  objOK w M m v0 g c -> objOK w' M' m' v0 g (c.map f) := by
 have hh : c.one = true -> w'.heap[g]? = w.heap[g]? := fun h1 => hh0 g (hg h1)
 intro hc
 exact match c, hh, hc with
 | .cells _ _, hh, ⟨cells, h1, h2⟩ => ⟨cells, by rw [hh rfl]; exact h1, repSs_map hf h2⟩
 | .iter _ _, hh, h => by show w'.heap[g]? = _; rw [hh rfl]; exact h
 | .blk t x e, hh, ⟨cells, h1, h2⟩ => ⟨cells, by rw [hh rfl]; exact h1, rep_ext hw hM t h2⟩
 | .raw f, hh, ⟨⟨o, ho⟩, h⟩ => ⟨⟨o, by rw [hh rfl]; exact ho⟩, fun w2 M2 a1 a2 a3 => h w2 M2
   (fun b hb hn => by
    have e := hw b hb hn
    have hb' : b < w'.heap.size := by
     rcases Nat.lt_or_ge b w'.heap.size with h1 | h1
     ·exact h1
     ·rw [Array.getElem?_eq_none h1, Array.getElem?_eq_getElem hb] at e; cases e
    rw [a1 b hb' (fun hc => hn (hM b hb hc)), e])
   (fun b hb hc => by
    refine Classical.byContradiction fun hn => ?_
    have e := hw b hb hn
    have hb' : b < w'.heap.size := by
     rcases Nat.lt_or_ge b w'.heap.size with h1 | h1
     ·exact h1
     ·rw [Array.getElem?_eq_none h1, Array.getElem?_eq_getElem hb] at e; cases e
    exact hn (hM b hb (a2 b hb' hc)))
   (by rw [a3, hh rfl])⟩
 | .mp k v ps, hh, ⟨es, clock, h1, h2, h3, h4⟩ => ⟨es, clock, by rw [hh rfl]; exact h1, h2, h3, zac (fun _ _ h => zaj hw hM h) (fun _ _ h => zaj hw hM h) h4⟩
 | .mit k v l a, hh, .inl ⟨h1, h2⟩ => .inl ⟨by rw [hh rfl]; exact h1, h2⟩
 | .mit k v l a, hh, .inr ⟨b, es, clock, seen, h1, h2, h3, h4, h5, h6, h7⟩ =>
  have hlt := zad h2
  .inr ⟨b, es, clock, seen, by rw [hh rfl]; exact h1, by rw [hw b hlt h3]; exact h2, fun hc => h3 (hM b hlt hc), h4, h5, zac (fun _ _ h => zaj hw hM h) (fun _ _ h => zaj hw hM h) h6,
   h7.imp id fun ⟨e, p, a1, a2, a3, a4, a5⟩ => ⟨e, p, a1, a2, a3, zaj hw hM a4, zaj hw hM a5⟩⟩
 | .o2 e k xs, hh, ⟨n, cap, us, us', h1, h2, h3, h4⟩ => by
  refine ⟨n, cap, us, us', h1, ⟨h2.1, ?_⟩, o2in_map hw hM (fun u hu b hb => hh0 b (by rw [h1]; exact own_tup.2 (.inr ⟨u, hu, hb⟩))) h3, h4⟩
  rcases h2.2 with h5 | ⟨g', cap', cur, hv, hb0, h5, rest⟩
  ·exact .inl h5
  ·exact .inr ⟨g', cap', cur, hv, hb0, by rw [hh0 g' (by rw [h1]; exact own_tup.2 (.inl (by rw [hv]; rfl)))]; exact h5, rest⟩
 | .rr e k xs h, _, ⟨hd, us, cells, h1, h2, h3, h4⟩ => by
  refine ⟨hd, us, cells, h1, ownsRow_same h2 fun b hb => hh0 b (by rw [h1]; exact own_tup.2 (.inl hb)), rrIn_map hw hM (fun _ _ => Iff.rfl) (fun u hu b hb => hh0 b (by rw [h1]; exact own_tup.2 (.inr ⟨u, hu, hb⟩))) h3, h4⟩
theorem objOK_lt {w : World} {M : Nat -> Prop} {m : Nat -> Value} {v0 : Value} {g : Nat} {c : BX} (hm : isM v0 g c) (h : objOK w M m v0 g c) : ∀ b, own v0 b -> b < w.heap.size := by
 have key : (∃ o, w.heap[g]? = some o) -> v0 = mval g c -> ∀ b, own v0 b -> b < w.heap.size := by
  rintro ⟨o, ho⟩ e b hb
  rw [e] at hb
  have h1 : own (mval g c) b -> b = g := by cases c <;> (intro hh; exact (Option.some.inj hh).symm)
  rw [h1 hb]
  exact (Array.getElem?_eq_some_iff.1 ho).1
 cases c with
 | cells l e => obtain ⟨cells, h1, _⟩ := h; exact key ⟨_, h1⟩ hm
 | iter s p => exact key ⟨_, h⟩ hm
 | blk t x e => obtain ⟨cells, h1, _⟩ := h; exact key ⟨_, h1⟩ hm
 | raw f => exact key h.1 hm
 | mp k v ps => obtain ⟨es, clock, h1, _⟩ := h; exact key ⟨_, h1⟩ hm
 | mit k v l a =>
  rcases h with ⟨h1, _⟩ | ⟨b, es, clock, seen, h1, _⟩
  ·exact key ⟨_, h1⟩ hm
  ·exact key ⟨_, h1⟩ hm
 | rr e k xs hh =>
  obtain ⟨hd, us, cells, rfl, h2, h3, _⟩ := h
  intro b hb
  rcases own_tup.1 hb with hb | ⟨u, hu, hb⟩
  ·rcases h2.2 with ⟨h4, _⟩ | ⟨g, cap, cur, hv, _, h4, _⟩
   ·rw [h4] at hb; cases hb
   ·rw [hv] at hb; cases hb; exact zad h4
  ·exact rrIn_lt h3 u hu b hb
 | o2 e k xs =>
  obtain ⟨n, cap, us, us', rfl, h2, h3, _⟩ := h
  intro b hb
  rcases own_tup.1 hb with hb | ⟨u, hu, hb⟩
  ·rcases h2.2 with ⟨h5, _⟩ | ⟨g', cap', cur, hv, hb0, h5, rest⟩
   ·cases h5
   ·cases hv; cases hb; exact zad h5
  ·exact o2in_lt h3 u hu b hb
theorem own_row {w : World} {e sz n : Nat} {v : Value} {cells : List Value} (h : w.ownsRow 0 e sz v n cells) {g : Nat} (hg : own v g) : blk v = some g := by
 rcases h.2 with ⟨hv, _⟩ | ⟨g', cap, cur, hv, _⟩ <;> rw [hv] at hg ⊢ <;> exact hg
theorem BX.map_id (c : BX) : c.map id = c := by cases c <;> simp [BX.map]
theorem objOK_ext {w w' : World} {M M' : Nat -> Prop} {m : Nat -> Value} {v0 : Value} {g : Nat} {c : BX} (hg : c.one = true -> own v0 g) (hh : ∀ b, own v0 b -> w'.heap[b]? = w.heap[b]?) (hw : ∀ b, b < w.heap.size -> ¬ M b -> w'.heap[b]? = w.heap[b]?) (hM : ∀ b, b < w.heap.size -> M' b -> M b)
  (h : objOK w M m v0 g c) : objOK w' M' m v0 g c := by
 have := zaq (f := id) hw hM hg hh (fun v s hs => zap (m := m) hw hM hs) h
 rwa [BX.map_id] at this
end Go.Ev
namespace Go.Ev
open Go Go.RowKit
variable [Dr]
variable {cx : Cx} {m : Nat -> Value} {st : St} {T : Array Value} {w w' : World}
theorem Frame.refl (w : World) (X : Nat -> Prop) : Frame w w X := ⟨rfl, rfl, rfl, Nat.le_refl _, fun _ _ _ => rfl, fun _ => Nat.le_refl _⟩
structure Same (w w' : World) : Prop where
 os : w'.os = w.os
 tape : w'.tape = w.tape
 output : w'.output = w.output
 size : w.heap.size <= w'.heap.size
 drawn : Dr.d -> w.drawn <= w'.drawn
structure Ext (w w' : World) : Prop extends Same w w' where
 block : ∀ b, b < w.heap.size -> w'.heap[b]? = w.heap[b]?
theorem Ext.refl (w : World) : Ext w w := { os := rfl, tape := rfl, output := rfl, size := Nat.le_refl _, drawn := fun _ => Nat.le_refl _, block := fun _ _ => rfl }
theorem Ext.of_below {w w' : World} (h : Below w.heap.size w w') (hd : Dr.d -> w.drawn <= w'.drawn) : Ext w w' := { os := h.os, tape := h.tape, output := h.output, size := h.size, drawn := hd, block := h.block }
theorem Ext.below {w w' : World} (h : Ext w w') : Below w.heap.size w w' := ⟨h.os, h.tape, h.output, h.size, h.block⟩
theorem Ext.trans {a b c : World} (h : Ext a b) (k : Ext b c) : Ext a c := Ext.of_below (h.below.trans (k.below.mono h.size)) (fun d => Nat.le_trans (h.drawn d) (k.drawn d))
theorem Ext.drew {w w' : World} (h : Ext w w') : Ext w w'.drew := Ext.of_below h.below.drew (fun d => Nat.le_succ_of_le (h.drawn d))
theorem Frame.step (h : Frame cx.w0 w cx.X) (hs : Same w w') (hb : ∀ b, b < cx.w0.heap.size -> ¬ cx.X b -> w'.heap[b]? = w.heap[b]?) : Frame cx.w0 w' cx.X :=
 ⟨hs.os.trans h.os, hs.tape.trans h.tape, hs.output.trans h.output, Nat.le_trans h.size hs.size, fun b h1 h2 => (hb b h1 h2).trans (h.block b h1 h2), fun d => Nat.le_trans (h.drawn d) (hs.drawn d)⟩
theorem Rm.put (h : Rm cx m st T w) {d : Nat} (hd : d < cx.n) {v : Value} {s : SV} (hv : repS w (Mut cx m st.ids) m v s) : Rm cx m (st.put d s) (T.setIfInBounds d v) w :=
 {h with
  size := by rw [Array.size_setIfInBounds]; exact h.size
  slots := fun i sv hi => by
   rcases List.mem_cons.1 hi with hi | hi
   ·cases hi
    exact ⟨v, by rw [Array.getElem?_setIfInBounds_self_of_lt (by rw [h.size]; exact hd)], hv⟩
   ·obtain ⟨hi, hne⟩ := mem_del.1 hi
    obtain ⟨v', h1, h2⟩ := h.slots i sv hi
    exact ⟨v', by rw [Array.getElem?_setIfInBounds_ne (fun e => hne e.symm)]; exact h1, h2⟩ }
theorem Rm.lt (h : Rm cx m st T w) {i g : Nat} (hi : i ∈ st.ids) (hg : own (m i) g) : g < w.heap.size /\ (cx.w0.heap.size <= g \/ cx.X g) := by
 rcases List.mem_append.1 hi with hi | hi
 ·obtain ⟨⟨b, c⟩, hp, rfl⟩ := List.mem_map.1 hi
  obtain ⟨g', h1, h2, h3⟩ := h.boxes b c hp
  exact ⟨objOK_lt h1 h3 g hg, h2 g hg⟩
 ·obtain ⟨⟨r, c⟩, hp, rfl⟩ := List.mem_map.1 hi
  obtain ⟨cells, h1, h2, _⟩ := h.rows r c hp
  refine ⟨?_, h2 g hg⟩
  rcases h1.2 with ⟨hv, _⟩ | ⟨g', cap, cur, hv, _, hh, _⟩
  ·dsimp only at hg; rw [hv] at hg; cases hg
  ·dsimp only at hg
   rw [hv] at hg
   cases hg
   rcases Nat.lt_or_ge g' w.heap.size with h | h
   ·exact h
   ·rw [Array.getElem?_eq_none h] at hh; cases hh
theorem Rm.mut_lt (h : Rm cx m st T w) {b : Nat} (hb : Mut cx m st.ids b) : b < w.heap.size := by
 rcases hb with hb | ⟨i, hi, hg⟩
 ·exact Nat.lt_of_lt_of_le (h.outer b hb).1 h.frame.size
 ·exact (h.lt hi hg).1
theorem Rm.ext (h : Rm cx m st T w) (he : Ext w w') : Rm cx m st T w' := by
 have h1 : ∀ b, b < w.heap.size -> ¬ Mut cx m st.ids b -> w'.heap[b]? = w.heap[b]? := fun b hb _ => he.block b hb
 have h2 : ∀ b, b < w.heap.size -> Mut cx m st.ids b -> Mut cx m st.ids b := fun _ _ h => h
 exact { h with
  frame := h.frame.step he.toSame fun b hb _ => he.block b (Nat.lt_of_lt_of_le hb h.frame.size)
  slots := fun i sv hi => let ⟨v, ha, hb⟩ := h.slots i sv hi; ⟨v, ha, zap h1 h2 hb⟩
  boxes := fun b c hb => by
   obtain ⟨g, e1, e2, e3⟩ := h.boxes b c hb
   exact ⟨g, e1, e2, objOK_ext (isM_own e1) (fun b' hb' => he.block b' (objOK_lt e1 e3 b' hb')) h1 h2 e3⟩
  rows := fun r c hr => by
   obtain ⟨cells, e1, e2, e3⟩ := h.rows r c hr
   refine ⟨cells, e1.kept (row := none) ⟨he.os, he.tape, he.output, he.size, fun k hk _ => he.block k hk⟩ ?_, e2, zab (fun _ _ => rep_ext h1 h2 c.t) e3⟩
   cases hv : (m r).ownBlock
   ·exact .inl rfl
   ·exact .inr (by simp) }
theorem scrub_ids (st : St) (r : Nat) : ∀ i, i ∈ (st.scrub r).ids ↔ i ∈ st.ids /\ i ≠ r := by
 intro i
 simp only [St.ids, St.scrub, List.map_map, List.mem_append, List.mem_map, Function.comp]
 constructor
 ·rintro (⟨⟨b, c⟩, hp, rfl⟩ | ⟨⟨b, c⟩, hp, rfl⟩)
  ·obtain ⟨h1, h2⟩ := mem_del.1 hp; exact ⟨.inl ⟨_, h1, rfl⟩, h2⟩
  ·obtain ⟨h1, h2⟩ := mem_del.1 hp; exact ⟨.inr ⟨_, h1, rfl⟩, h2⟩
 ·rintro ⟨⟨⟨b, c⟩, hp, rfl⟩ | ⟨⟨b, c⟩, hp, rfl⟩, hne⟩
  ·exact .inl ⟨(b, c), mem_del.2 ⟨hp, hne⟩, rfl⟩
  ·exact .inr ⟨(b, c), mem_del.2 ⟨hp, hne⟩, rfl⟩
theorem scrub_nodup {st : St} (h : st.ids.Nodup) (r : Nat) : (st.scrub r).ids.Nodup := by
 have e : (st.scrub r).ids = st.ids.filter (fun k => !Nat.beq k r) := by
  have hm : ((del st.bx r).map fun p => (p.1, p.2.map (SV.scrub r))).map (·.1) = (del st.bx r).map (·.1) := by simp [List.map_map, Function.comp_def]
  show ((del st.bx r).map fun p => (p.1, p.2.map (SV.scrub r))).map (·.1) ++ (del st.rw r).map (·.1) = _
  rw [hm, del_keys, del_keys, <- List.filter_append]
  rfl
 rw [e]
 exact h.filter _
structure Renew (cx : Cx) (m : Nat -> Value) (st : St) (w : World) (r : Nat) (u : Value) (w' : World) : Prop where
 same : Same w w'
 block : ∀ b, b < w.heap.size -> ¬ (r ∈ st.ids /\ own (m r) b) -> w'.heap[b]? = w.heap[b]?
 place : ∀ g, own u g -> (r ∈ st.ids /\ own (m r) g) \/ (w.heap.size <= g /\ g < w'.heap.size)
theorem Renew.keeps {r : Nat} {u : Value} (hn : Renew cx m st w r u w') : ∀ b, b < w.heap.size -> ¬ Mut cx m st.ids b -> w'.heap[b]? = w.heap[b]? :=
 fun b hb hm => hn.block b hb fun ⟨h1, h2⟩ => hm (.inr ⟨r, h1, h2⟩)
theorem Renew.mut {r : Nat} {u : Value} {ids : List Nat} (hids : ∀ i, i ∈ ids -> i = r \/ i ∈ st.ids) (hn : Renew cx m st w r u w') :
  ∀ b, b < w.heap.size -> Mut cx (upd m r u) ids b -> Mut cx m st.ids b := by
 rintro b hb (h | ⟨i, hi, hg⟩)
 ·exact .inl h
 ·by_cases e : i = r
  ·subst e
   rw [zam] at hg
   rcases hn.place b hg with h | h
   ·exact .inr ⟨i, h.1, h.2⟩
   ·omega
  ·rw [zan _ _ e] at hg
   exact .inr ⟨i, (hids i hi).resolve_left e, hg⟩
theorem Rm.renew_frame (h : Rm cx m st T w) {r : Nat} {u : Value} (hn : Renew cx m st w r u w') : Frame cx.w0 w' cx.X :=
 h.frame.step hn.same fun b hb hX => hn.block b (Nat.lt_of_lt_of_le hb h.frame.size) fun ⟨h1, h2⟩ => by
  rcases (h.lt h1 h2).2 with h3 | h3
  ·omega
  ·exact hX h3
theorem Rm.renew_slots (h : Rm cx m st T w) {r : Nat} {u : Value} {ids : List Nat} (hids : ∀ i, i ∈ ids -> i = r \/ i ∈ st.ids) (hn : Renew cx m st w r u w') :
  ∀ i sv, (i, sv) ∈ (st.scrub r).sl -> ∃ v, T[i]? = some v /\ repS w' (Mut cx (upd m r u) ids) (upd m r u) v sv := by
 intro i sv hi
 obtain ⟨⟨j, s⟩, hp, he⟩ := List.mem_map.1 hi
 cases he
 obtain ⟨v, h1, h2⟩ := h.slots j s hp
 exact ⟨v, h1, repS_scrub r u (zap hn.keeps (hn.mut hids) h2 : repS w' (Mut cx (upd m r u) ids) m v s)⟩
theorem Rm.renew_boxes (h : Rm cx m st T w) {r : Nat} {u : Value} {ids : List Nat} (hids : ∀ i, i ∈ ids -> i = r \/ i ∈ st.ids) (hn : Renew cx m st w r u w') :
  ∀ b c, (b, c) ∈ (st.scrub r).bx -> ∃ g, isM (upd m r u b) g c /\ (∀ g', own (upd m r u b) g' -> cx.w0.heap.size <= g' \/ cx.X g') /\ objOK w' (Mut cx (upd m r u) ids) (upd m r u) (upd m r u b) g c := by
 intro b c hb
 obtain ⟨⟨j, s⟩, hp, he⟩ := List.mem_map.1 hb
 cases he
 obtain ⟨hp, hne⟩ := mem_del.1 hp
 obtain ⟨g, e1, e2, e3⟩ := h.boxes j s hp
 have hj : j ∈ st.ids := List.mem_append.2 (.inl (List.mem_map.2 ⟨_, hp, rfl⟩))
 have hsame : ∀ b', own (m j) b' -> w'.heap[b']? = w.heap[b']? := fun b' hb' => hn.block b' (h.lt hj hb').1 fun ⟨h1, h2⟩ => h.apart r j h1 hj (fun e => hne e.symm) b' h2 hb'
 rw [zan _ _ hne]
 exact ⟨g, isM_map.2 e1, e2, zaq hn.keeps (hn.mut hids) (isM_own e1) hsame (fun v s hh => repS_scrub r u (zap hn.keeps (hn.mut hids) hh : repS w' (Mut cx (upd m r u) ids) m v s)) e3⟩
theorem Rm.renew_rows (h : Rm cx m st T w) {r : Nat} {u : Value} {ids : List Nat} (hids : ∀ i, i ∈ ids -> i = r \/ i ∈ st.ids) (hn : Renew cx m st w r u w') :
  ∀ b c, (b, c) ∈ (st.scrub r).rw -> ∃ cells, w'.ownsRow 0 c.e c.t.cells (upd m r u b) c.xs.length cells /\ (∀ g, own (upd m r u b) g -> cx.w0.heap.size <= g \/ cx.X g) /\
   repL (rep w' (Mut cx (upd m r u) ids) c.t) cells c.xs := by
 intro b c hb
 obtain ⟨hp, hne⟩ := mem_del.1 hb
 obtain ⟨cells, e1, e2, e3⟩ := h.rows b c hp
 have hj : b ∈ st.ids := List.mem_append.2 (.inr (List.mem_map.2 ⟨_, hp, rfl⟩))
 rw [zan _ _ hne]
 refine ⟨cells, ⟨e1.1, ?_⟩, e2, zab (fun _ _ => rep_ext hn.keeps (hn.mut hids) c.t) e3⟩
 rcases e1.2 with hh | ⟨g, cap, cur, hv, hb0, hh, rest⟩
 ·exact .inl hh
 ·have hg : own (m b) g := by rw [hv]; exact zal rfl
  exact .inr ⟨g, cap, cur, hv, hb0, by rw [hn.block g (h.lt hj hg).1 fun ⟨h1, h2⟩ => h.apart r b h1 hj (fun e => hne e.symm) g h2 hg]; exact hh, rest⟩
theorem Rm.renew_apart (h : Rm cx m st T w) {r : Nat} {u : Value} {ids : List Nat} (hids : ∀ i, i ∈ ids -> i = r \/ i ∈ st.ids) (hn : Renew cx m st w r u w') :
  ∀ i j, i ∈ ids -> j ∈ ids -> i ≠ j -> ∀ g, own (upd m r u i) g -> ¬ own (upd m r u j) g := by
 intro i j hi hj hij g hgi hgj
 by_cases ei : i = r
 ·subst ei
  rw [zam] at hgi
  rw [zan _ _ (fun e => hij e.symm)] at hgj
  have hj' := (hids j hj).resolve_left (fun e => hij e.symm)
  rcases hn.place g hgi with ⟨h1, h2⟩ | ⟨h1, _⟩
  ·exact h.apart i j h1 hj' hij g h2 hgj
  ·have := (h.lt hj' hgj).1; omega
 ·rw [zan _ _ ei] at hgi
  have hi' := (hids i hi).resolve_left ei
  by_cases ej : j = r
  ·subst ej
   rw [zam] at hgj
   rcases hn.place g hgj with ⟨h1, h2⟩ | ⟨h1, _⟩
   ·exact h.apart i j hi' h1 hij g hgi h2
   ·have := (h.lt hi' hgi).1; omega
  ·rw [zan _ _ ej] at hgj
   exact h.apart i j hi' ((hids j hj).resolve_left ej) hij g hgi hgj
def St.addBox (st : St) (r : Nat) (c : BX) : St := { st.scrub r with bx := (r, c) :: (st.scrub r).bx }
def St.addRow (st : St) (r : Nat) (c : RowC) : St := { st.scrub r with rw := (r, c) :: (st.scrub r).rw }
theorem addBox_ids (st : St) (r : Nat) (c : BX) : (st.addBox r c).ids = r :: (st.scrub r).ids := rfl
theorem addRow_mem (st : St) (r : Nat) (c : RowC) : ∀ i, i ∈ (st.addRow r c).ids ↔ i = r \/ i ∈ (st.scrub r).ids := by
 intro i
 simp only [St.ids, St.addRow, List.map_cons, List.mem_append, List.mem_cons]
 constructor
 ·rintro (h | h | h)
  ·exact .inr (.inl h)
  ·exact .inl h
  ·exact .inr (.inr h)
 ·rintro (h | h | h)
  ·exact .inr (.inl h)
  ·exact .inl h
  ·exact .inr (.inr h)
theorem Rm.fixed_scrub (h : Rm cx m st T w) {r : Nat} {u : Value} {b : Nat} {c : BX} (hb : (b, c) ∈ (st.scrub r).bx) (h1' : c.one = true) (hle : cx.n <= b) : upd m r u b = cx.m0 b := by
 obtain ⟨⟨b', c'⟩, hp, he⟩ := List.mem_map.1 hb
 cases he
 obtain ⟨h1, h2⟩ := mem_del.1 hp
 rw [zan _ _ h2]
 exact h.fixed _ _ h1 (one_map.symm.trans h1') hle
theorem Rm.kept_scrub (h : Rm cx m st T w) {r : Nat} {u : Value} {b : Nat} {c : RowC} (hb : (b, c) ∈ (st.scrub r).rw) (hle : cx.n <= b) (hk : keptRow <= b) : upd m r u b = cx.m0 b := by
 obtain ⟨h1, h2⟩ := mem_del.1 hb
 rw [zan _ _ h2]
 exact h.kept _ _ h1 hle hk
theorem Rm.addBoxM (h : Rm cx m st T w) {r : Nat} (hr : r < cx.n) {g : Nat} {c : BX} {u : Value} (hM : isM u g c) (hn : Renew cx m st w r u w')
  (hg : ∀ g', own u g' -> cx.w0.heap.size <= g' \/ cx.X g') (hc : objOK w' (Mut cx (upd m r u) (st.addBox r c).ids) (upd m r u) u g c) :
  Rm cx (upd m r u) (st.addBox r c) T w' := by
 have hids : ∀ i, i ∈ (st.addBox r c).ids -> i = r \/ i ∈ st.ids := by
  intro i hi
  rw [addBox_ids] at hi
  rcases List.mem_cons.1 hi with hi | hi
  ·exact .inl hi
  ·exact .inr ((scrub_ids st r i).1 hi).1
 refine { size := h.size, frame := h.renew_frame hn, outer := h.outer, slots := h.renew_slots hids hn, boxes := ?_, rows := h.renew_rows hids hn, apart := h.renew_apart hids hn, keys := ?_, fixed := ?_, kept := fun b c' hb hle hk => h.kept_scrub hb hle hk }
 ·intro b c' hb
  rcases List.mem_cons.1 hb with hb | hb
  ·cases hb
   rw [zam]
   exact ⟨g, hM, hg, hc⟩
  ·exact h.renew_boxes hids hn b c' hb
 ·rw [addBox_ids]
  exact List.nodup_cons.2 ⟨fun hh => ((scrub_ids st r r).1 hh).2 rfl, scrub_nodup h.keys r⟩
 ·intro b c' hb h1' hle
  rcases List.mem_cons.1 hb with hb | hb
  ·cases hb; omega
  ·exact h.fixed_scrub hb h1' hle
def BX.plainB : BX -> Bool
 | .o2 _ _ _ => false
 | .rr _ _ _ _ => false
 | _ => true
theorem isM_plain {c : BX} (hp : c.plainB = true) (g : Nat) : isM (mval g c) g c := by
 cases c <;> first | rfl | cases hp
theorem own_plain {c : BX} {g b : Nat} (h : own (mval g c) b) : b = g := by
 cases c <;> exact (Option.some.inj h).symm
theorem Rm.addBox (h : Rm cx m st T w) {r : Nat} (hr : r < cx.n) {g : Nat} {c : BX} (hn : Renew cx m st w r (mval g c) w')
  (hg : cx.w0.heap.size <= g \/ cx.X g) (hc : objOK w' (Mut cx (upd m r (mval g c)) (st.addBox r c).ids) (upd m r (mval g c)) (mval g c) g c) (hp : c.plainB = true := by rfl) :
  Rm cx (upd m r (mval g c)) (st.addBox r c) T w' :=
 h.addBoxM hr (isM_plain hp g) hn (fun g' hg' => by rw [own_plain hg']; exact hg) hc
theorem Rm.box (h : Rm cx m st T w) {b : Nat} {c : BX} (hb : (b, c) ∈ st.bx) (hp : c.plainB = true := by rfl) : ∃ g, m b = mval g c /\ (cx.w0.heap.size <= g \/ cx.X g) /\ objOK w (Mut cx m st.ids) m (mval g c) g c := by
 obtain ⟨g, h1, h2, h3⟩ := h.boxes b c hb
 have e : m b = mval g c := by cases c <;> first | exact h1 | cases hp
 exact ⟨g, e, h2 g (isM_own h1 (by cases c <;> first | rfl | cases hp)), by rw [<- e]; exact h3⟩
theorem Rm.addRow (h : Rm cx m st T w) {r : Nat} {u : Value} (hkr : r < cx.n \/ r < keptRow) (hn : Renew cx m st w r u w') {cells : List Value} {c : RowC}
  (hg : ∀ g, own u g -> cx.w0.heap.size <= g \/ cx.X g) (hh : w'.ownsRow 0 c.e c.t.cells u c.xs.length cells)
  (hc : repL (rep w' (Mut cx (upd m r u) (st.addRow r c).ids) c.t) cells c.xs) :
  Rm cx (upd m r u) (st.addRow r c) T w' := by
 have hids : ∀ i, i ∈ (st.addRow r c).ids -> i = r \/ i ∈ st.ids := by
  intro i hi
  rcases (addRow_mem st r c i).1 hi with hi | hi
  ·exact .inl hi
  ·exact .inr ((scrub_ids st r i).1 hi).1
 refine { size := h.size, frame := h.renew_frame hn, outer := h.outer, slots := h.renew_slots hids hn, boxes := h.renew_boxes hids hn, rows := ?_, apart := h.renew_apart hids hn, keys := ?_, fixed := fun b c' hb h1' hle => h.fixed_scrub hb h1' hle, kept := fun b c' hb hle hk => ?_ }
 rotate_left 2
 ·rcases List.mem_cons.1 hb with hb | hb
  ·cases hb
   rcases hkr with hkr | hkr
   ·exact absurd hle (Nat.not_le.2 hkr)
   ·exact absurd hk (Nat.not_le.2 hkr)
  ·exact h.kept_scrub hb hle hk
 ·intro b c' hb
  rcases List.mem_cons.1 hb with hb | hb
  ·cases hb
   rw [zam]
   exact ⟨cells, hh, hg, hc⟩
  ·exact h.renew_rows hids hn b c' hb
 ·have hp : (st.addRow r c).ids.Perm (r :: (st.scrub r).ids) := by
   show ((st.scrub r).bx.map (·.1) ++ r :: (st.scrub r).rw.map (·.1)).Perm _
   exact List.perm_middle
  exact hp.nodup_iff.2 (List.nodup_cons.2 ⟨fun hh => ((scrub_ids st r r).1 hh).2 rfl, scrub_nodup h.keys r⟩)
theorem Renew.fresh (h : Rm cx m st T w) (r : Nat) (u : Value) (he : Ext w w') (hu : ∀ g, own u g -> w.heap.size <= g /\ g < w'.heap.size) : Renew cx m st w r u w' :=
 ⟨he.toSame, fun b hb _ => he.block b hb, fun g hg => .inr (hu g hg)⟩
end Go.Ev
namespace Go.Ev
open Go Go.RowKit
variable [Dr]
variable {cx : Cx} {m : Nat -> Value} {st : St} {T : Array Value} {w w' : World}
theorem mut_mono {ids ids' : List Nat} (h : ∀ i, i ∈ ids' -> i ∈ ids) {b : Nat} (hb : Mut cx m ids' b) : Mut cx m ids b := by
 rcases hb with hb | ⟨i, hi, hg⟩
 ·exact .inl hb
 ·exact .inr ⟨i, h i hi, hg⟩
def St.setBox (st : St) (r : Nat) (c : BX) : St := { st with bx := (r, c) :: del st.bx r }
def St.setRow (st : St) (r : Nat) (c : RowC) : St := { st with rw := (r, c) :: del st.rw r }
theorem del_nodup {l : List (Nat × BX)} {k : List Nat} (h : (l.map (·.1) ++ k).Nodup) (r : Nat) : ((del l r).map (·.1) ++ k).Nodup := by
 rw [del_keys]
 exact h.sublist (List.Sublist.append List.filter_sublist (List.Sublist.refl _))
theorem zar {r : Nat} {c0 : BX} (hr : (r, c0) ∈ st.bx) (hk : st.ids.Nodup) (c : BX) : (∀ i, i ∈ (st.setBox r c).ids ↔ i ∈ st.ids) /\ (st.setBox r c).ids.Nodup := by
 have hmem : ∀ i, i ∈ (st.setBox r c).ids ↔ i ∈ st.ids := by
  intro i
  simp only [St.ids, St.setBox, List.map_cons, List.mem_append, List.mem_cons, List.mem_map]
  constructor
  ·rintro ((h | ⟨⟨b, s⟩, hp, rfl⟩) | h)
   ·exact .inl ⟨(r, c0), hr, h.symm⟩
   ·exact .inl ⟨_, (mem_del.1 hp).1, rfl⟩
   ·exact .inr h
  ·rintro (⟨⟨b, s⟩, hp, rfl⟩ | h)
   ·by_cases e : b = r
    ·exact .inl (.inl e)
    ·exact .inl (.inr ⟨(b, s), mem_del.2 ⟨hp, e⟩, rfl⟩)
   ·exact .inr h
 refine ⟨hmem, ?_⟩
 show (r :: ((del st.bx r).map (·.1) ++ st.rw.map (·.1))).Nodup
 refine List.nodup_cons.2 ⟨fun hh => ?_, del_nodup hk r⟩
 rcases List.mem_append.1 hh with hh | hh
 ·obtain ⟨⟨b, s⟩, hp, e⟩ := List.mem_map.1 hh
  exact (mem_del.1 hp).2 e
 ·exact (List.nodup_append.1 hk).2.2 r (List.mem_map.2 ⟨_, hr, rfl⟩) r hh rfl
theorem setRow_ids {r : Nat} {c0 : RowC} (hr : (r, c0) ∈ st.rw) (hk : st.ids.Nodup) (c : RowC) : (∀ i, i ∈ (st.setRow r c).ids ↔ i ∈ st.ids) /\ (st.setRow r c).ids.Nodup := by
 have hmem : ∀ i, i ∈ (st.setRow r c).ids ↔ i ∈ st.ids := by
  intro i
  simp only [St.ids, St.setRow, List.map_cons, List.mem_append, List.mem_cons, List.mem_map]
  constructor
  ·rintro (h | h | ⟨⟨b, s⟩, hp, rfl⟩)
   ·exact .inl h
   ·exact .inr ⟨(r, c0), hr, h.symm⟩
   ·exact .inr ⟨_, (mem_del.1 hp).1, rfl⟩
  ·rintro (h | ⟨⟨b, s⟩, hp, rfl⟩)
   ·exact .inl h
   ·by_cases e : b = r
    ·exact .inr (.inl e)
    ·exact .inr (.inr ⟨(b, s), mem_del.2 ⟨hp, e⟩, rfl⟩)
 refine ⟨hmem, ?_⟩
 have hp : (st.setRow r c).ids.Perm (r :: (st.bx.map (·.1) ++ (del st.rw r).map (·.1))) := by
  show (st.bx.map (·.1) ++ r :: (del st.rw r).map (·.1)).Perm _
  exact List.perm_middle
 refine hp.nodup_iff.2 (List.nodup_cons.2 ⟨fun hh => ?_, ?_⟩)
 ·rcases List.mem_append.1 hh with hh | hh
  ·exact (List.nodup_append.1 hk).2.2 r hh r (List.mem_map.2 ⟨_, hr, rfl⟩) rfl
  ·obtain ⟨⟨b, s⟩, hp, e⟩ := List.mem_map.1 hh
   exact (mem_del.1 hp).2 e
 ·rw [del_keys]
  exact hk.sublist (List.Sublist.append (List.Sublist.refl _) List.filter_sublist)
structure Touch (m : Nat -> Value) (w : World) (r : Nat) (w' : World) : Prop where
 same : Same w w'
 block : ∀ b, b < w.heap.size -> ¬ own (m r) b -> w'.heap[b]? = w.heap[b]?
theorem Rm.touch_keeps {r : Nat} (hr : r ∈ st.ids) (hn : Touch m w r w') {ids : List Nat} (hids : ∀ i, i ∈ ids ↔ i ∈ st.ids) :
  (∀ b, b < w.heap.size -> ¬ Mut cx m st.ids b -> w'.heap[b]? = w.heap[b]?) /\ (∀ b, b < w.heap.size -> Mut cx m ids b -> Mut cx m st.ids b) :=
 ⟨fun b hb hm => hn.block b hb fun e => hm (.inr ⟨r, hr, e⟩), fun _ _ h => mut_mono (fun i hi => (hids i).1 hi) h⟩
theorem Rm.touch_frame (h : Rm cx m st T w) {r : Nat} (hr : r ∈ st.ids) (hn : Touch m w r w') : Frame cx.w0 w' cx.X :=
 h.frame.step hn.same fun b hb hX => hn.block b (Nat.lt_of_lt_of_le hb h.frame.size) fun e => by
  rcases (h.lt hr e).2 with h3 | h3
  ·omega
  ·exact hX h3
theorem Rm.touch_other (h : Rm cx m st T w) {r : Nat} (hr : r ∈ st.ids) (hn : Touch m w r w') {j g : Nat} (hj : j ∈ st.ids) (hne : j ≠ r) (hg : own (m j) g) : w'.heap[g]? = w.heap[g]? :=
 hn.block g (h.lt hj hg).1 fun e => h.apart r j hr hj (fun e => hne e.symm) g e hg
theorem Rm.touch_boxes (h : Rm cx m st T w) {r : Nat} (hr : r ∈ st.ids) (hn : Touch m w r w') {ids : List Nat} (hids : ∀ i, i ∈ ids ↔ i ∈ st.ids) {b : Nat} {c : BX} (hb : (b, c) ∈ st.bx) (hne : b ≠ r) :
  ∃ g, isM (m b) g c /\ (∀ g', own (m b) g' -> cx.w0.heap.size <= g' \/ cx.X g') /\ objOK w' (Mut cx m ids) m (m b) g c := by
 obtain ⟨k1, k2⟩ := Rm.touch_keeps (cx := cx) hr hn hids
 obtain ⟨g, e1, e2, e3⟩ := h.boxes b c hb
 have hj : b ∈ st.ids := List.mem_append.2 (.inl (List.mem_map.2 ⟨_, hb, rfl⟩))
 exact ⟨g, e1, e2, objOK_ext (isM_own e1) (fun b' hb' => h.touch_other hr hn hj hne hb') k1 k2 e3⟩
theorem Rm.touch_rows (h : Rm cx m st T w) {r : Nat} (hr : r ∈ st.ids) (hn : Touch m w r w') {ids : List Nat} (hids : ∀ i, i ∈ ids ↔ i ∈ st.ids) {b : Nat} {c : RowC} (hb : (b, c) ∈ st.rw) (hne : b ≠ r) :
  ∃ cells, w'.ownsRow 0 c.e c.t.cells (m b) c.xs.length cells /\ (∀ g, own (m b) g -> cx.w0.heap.size <= g \/ cx.X g) /\ repL (rep w' (Mut cx m ids) c.t) cells c.xs := by
 obtain ⟨k1, k2⟩ := Rm.touch_keeps (cx := cx) hr hn hids
 obtain ⟨cells, e1, e2, e3⟩ := h.rows b c hb
 have hj : b ∈ st.ids := List.mem_append.2 (.inr (List.mem_map.2 ⟨_, hb, rfl⟩))
 refine ⟨cells, ⟨e1.1, ?_⟩, e2, zab (fun _ _ => rep_ext k1 k2 c.t) e3⟩
 rcases e1.2 with hh | ⟨g, cap, cur, hv, hb0, hh, rest⟩
 ·exact .inl hh
 ·have hg : own (m b) g := by rw [hv]; exact zal rfl
  exact .inr ⟨g, cap, cur, hv, hb0, by rw [h.touch_other hr hn hj hne hg]; exact hh, rest⟩
theorem Rm.touch_slots (h : Rm cx m st T w) {r : Nat} (hr : r ∈ st.ids) (hn : Touch m w r w') {ids : List Nat} (hids : ∀ i, i ∈ ids ↔ i ∈ st.ids) :
  ∀ i sv, (i, sv) ∈ st.sl -> ∃ v, T[i]? = some v /\ repS w' (Mut cx m ids) m v sv := fun i sv hi => by
 obtain ⟨k1, k2⟩ := Rm.touch_keeps (cx := cx) hr hn hids
 obtain ⟨v, h1, h2⟩ := h.slots i sv hi
 exact ⟨v, h1, zap k1 k2 h2⟩
theorem Rm.setBox (h : Rm cx m st T w) {r : Nat} {c0 c : BX} (hr : (r, c0) ∈ st.bx) (hn : Touch m w r w') {g : Nat}
  (hm : isM (m r) g c) (hc : objOK w' (Mut cx m (st.setBox r c).ids) m (m r) g c) (h1 : c.one = true -> c0.one = true := by first | exact id | exact fun _ => rfl) : Rm cx m (st.setBox r c) T w' := by
 obtain ⟨hids, hnd⟩ := zar hr h.keys c
 have hri : r ∈ st.ids := List.mem_append.2 (.inl (List.mem_map.2 ⟨_, hr, rfl⟩))
 refine { size := h.size, frame := h.touch_frame hri hn, outer := h.outer, slots := h.touch_slots hri hn hids, boxes := ?_, rows := ?_, apart := ?_, keys := hnd, fixed := ?_, kept := h.kept }
 ·intro b c' hb
  rcases List.mem_cons.1 hb with hb | hb
  ·cases hb
   obtain ⟨g', e1, e2, _⟩ := h.boxes r c0 hr
   exact ⟨g, hm, e2, hc⟩
  ·obtain ⟨h1, h2⟩ := mem_del.1 hb
   exact h.touch_boxes hri hn hids h1 h2
 ·intro b c' hb
  refine h.touch_rows hri hn hids hb ?_
  rintro rfl
  exact (List.nodup_append.1 h.keys).2.2 b (List.mem_map.2 ⟨_, hr, rfl⟩) b (List.mem_map.2 ⟨_, hb, rfl⟩) rfl
 ·exact fun i j hi hj => h.apart i j ((hids i).1 hi) ((hids j).1 hj)
 ·intro b c' hb h1' hle
  rcases List.mem_cons.1 hb with hb | hb
  ·cases hb; exact h.fixed _ _ hr (h1 h1') hle
  ·exact h.fixed _ _ (mem_del.1 hb).1 h1' hle
theorem Rm.kept_set (h : Rm cx m st T w) {r : Nat} {c0 c : RowC} (hr : (r, c0) ∈ st.rw) : ∀ b c', (b, c') ∈ (st.setRow r c).rw -> cx.n <= b -> keptRow <= b -> m b = cx.m0 b := by
 intro b c' hb hle hk
 rcases List.mem_cons.1 hb with hb | hb
 ·cases hb; exact h.kept _ _ hr hle hk
 ·exact h.kept _ _ (mem_del.1 hb).1 hle hk
theorem Rm.setRow (h : Rm cx m st T w) {r : Nat} {c0 c : RowC} (hr : (r, c0) ∈ st.rw) (hn : Touch m w r w') {cells : List Value}
  (hh : w'.ownsRow 0 c.e c.t.cells (m r) c.xs.length cells) (hc : repL (rep w' (Mut cx m (st.setRow r c).ids) c.t) cells c.xs) : Rm cx m (st.setRow r c) T w' := by
 obtain ⟨hids, hnd⟩ := setRow_ids hr h.keys c
 have hri : r ∈ st.ids := List.mem_append.2 (.inr (List.mem_map.2 ⟨_, hr, rfl⟩))
 refine { size := h.size, frame := h.touch_frame hri hn, outer := h.outer, slots := h.touch_slots hri hn hids, boxes := ?_, rows := ?_, apart := ?_, keys := hnd, fixed := h.fixed, kept := h.kept_set hr }
 ·intro b c' hb
  refine h.touch_boxes hri hn hids hb ?_
  rintro rfl
  exact (List.nodup_append.1 h.keys).2.2 b (List.mem_map.2 ⟨_, hb, rfl⟩) b (List.mem_map.2 ⟨_, hr, rfl⟩) rfl
 ·intro b c' hb
  rcases List.mem_cons.1 hb with hb | hb
  ·cases hb
   obtain ⟨_, _, e2, _⟩ := h.rows r c0 hr
   exact ⟨cells, hh, e2, hc⟩
  ·obtain ⟨h1, h2⟩ := mem_del.1 hb
   exact h.touch_rows hri hn hids h1 h2
 ·exact fun i j hi hj => h.apart i j ((hids i).1 hi) ((hids j).1 hj)
theorem Rm.weaken (h : Rm cx m st T w) {st' : St} (hs : ∀ i sv, (i, sv) ∈ st'.sl -> (i, sv) ∈ st.sl) (hb : ∀ p, p ∈ st'.bx -> p ∈ st.bx) (hr : ∀ p, p ∈ st'.rw -> p ∈ st.rw) (hnd : st'.ids.Nodup) : Rm cx m st' T w := by
 have hids : ∀ i, i ∈ st'.ids -> i ∈ st.ids := by
  intro i hi
  rcases List.mem_append.1 hi with hi | hi
  ·obtain ⟨p, hp, rfl⟩ := List.mem_map.1 hi; exact List.mem_append.2 (.inl (List.mem_map.2 ⟨p, hb p hp, rfl⟩))
  ·obtain ⟨p, hp, rfl⟩ := List.mem_map.1 hi; exact List.mem_append.2 (.inr (List.mem_map.2 ⟨p, hr p hp, rfl⟩))
 have k1 : ∀ b, b < w.heap.size -> ¬ Mut cx m st.ids b -> w.heap[b]? = w.heap[b]? := fun _ _ _ => rfl
 have k2 : ∀ b, b < w.heap.size -> Mut cx m st'.ids b -> Mut cx m st.ids b := fun _ _ h => mut_mono hids h
 refine { size := h.size, frame := h.frame, outer := h.outer, slots := fun i sv hi => ?_, boxes := fun b c hb' => ?_, rows := fun b c hb' => ?_, apart := fun i j hi hj => h.apart i j (hids i hi) (hids j hj), keys := hnd, fixed := fun b c hb' => h.fixed b c (hb _ hb'), kept := fun b c hb' => h.kept b c (hr _ hb') }
 ·obtain ⟨v, h1, h2⟩ := h.slots i sv (hs i sv hi)
  exact ⟨v, h1, zap k1 k2 h2⟩
 ·obtain ⟨g, e1, e2, e3⟩ := h.boxes b c (hb _ hb')
  exact ⟨g, e1, e2, objOK_ext (isM_own e1) (fun _ _ => rfl) k1 k2 e3⟩
 ·obtain ⟨cells, e1, e2, e3⟩ := h.rows b c (hr _ hb')
  exact ⟨cells, e1, e2, zab (fun _ _ => rep_ext k1 k2 c.t) e3⟩
def pickL {α : Type} (l : List (Nat × α)) : List Nat -> Option (List (Nat × α))
 | [] => some []
 | k :: ks => match look l k, pickL l ks with
  | some v, some r => some ((k, v) :: r)
  | _, _ => none
theorem pickL_mem {α : Type} {l : List (Nat × α)} : ∀ {ks : List Nat} {r : List (Nat × α)}, pickL l ks = some r -> ∀ p, p ∈ r -> p ∈ l
 | [], r, h, p, hp => by cases h; simp at hp
 | k :: ks, r, h, p, hp => by
  unfold pickL at h
  split at h
  ·rename_i v r' h1 h2
   cases h
   rcases List.mem_cons.1 hp with rfl | hp
   ·exact zak h1
   ·exact pickL_mem h2 p hp
  ·cases h
theorem pickL_keys {α : Type} {l : List (Nat × α)} : ∀ {ks : List Nat} {r : List (Nat × α)}, pickL l ks = some r -> r.map (·.1) = ks
 | [], r, h => by cases h; rfl
 | k :: ks, r, h => by
  unfold pickL at h
  split at h
  ·rename_i v r' h1 h2
   cases h
   simp [pickL_keys h2]
  ·cases h
def nodupB : List Nat -> Bool
 | [] => true
 | k :: ks => !(ks.any (Nat.beq k)) && nodupB ks
theorem zas : ∀ {l : List Nat}, nodupB l = true -> l.Nodup
 | [], _ => List.nodup_nil
 | k :: ks, h => by
  simp only [nodupB, Bool.and_eq_true, Bool.not_eq_true'] at h
  refine List.nodup_cons.2 ⟨fun hm => ?_, zas h.2⟩
  have := List.any_eq_false.1 h.1 k hm
  rw [Nat.beq_refl] at this
  exact this rfl
def St.norm (st : St) (ks bs rs : List Nat) : Option St :=
 match pickL st.sl ks, pickL st.bx bs, pickL st.rw rs, nodupB (bs ++ rs) with
 | some a, some b, some c, true => some ⟨a, b, c⟩
 | _, _, _, _ => none
theorem Rm.norm (h : Rm cx m st T w) {ks bs rs : List Nat} {st' : St} (hn : st.norm ks bs rs = some st') : Rm cx m st' T w := by
 unfold St.norm at hn
 split at hn
 ·rename_i a b c h1 h2 h3 h4
  cases hn
  refine h.weaken (fun i sv hi => pickL_mem h1 _ hi) (fun p hp => pickL_mem h2 p hp) (fun p hp => pickL_mem h3 p hp) ?_
  show (b.map (·.1) ++ c.map (·.1)).Nodup
  rw [pickL_keys h2, pickL_keys h3]
  exact zas h4
 ·cases hn
theorem Rm.row_val (h : Rm cx m st T w) {r : Nat} {c : RowC} (hr : (r, c) ∈ st.rw) {M : Nat -> Prop} (hM : ∀ b, b < w.heap.size -> M b -> Mut cx m st.ids b) (hno : ∀ g, own (m r) g -> ¬ M g) :
  rep w M (.sl c.t) [m r] c.xs := by
 obtain ⟨cells, e1, e2, e3⟩ := h.rows r c hr
 rcases e1.2 with ⟨hv, hn⟩ | ⟨g, cap, cur, hv, _, hh, hle, hmax, hsz, htk⟩
 ·have hx : c.xs = [] := List.eq_nil_of_length_eq_zero hn
  rw [hx, hv]
  refine ⟨none, 0, [], rfl, Nat.le_refl _, by decide, fun _ => rfl, rfl, fun j u hj => by simp at hj⟩
 ·refine ⟨some ⟨g, 0, none⟩, cap, cells, by rw [hv], hle, hmax, (fun e => by cases e), zab (fun _ _ => rep_ext (fun _ _ _ => rfl) hM c.t) e3, fun j u hj => ⟨_, rfl, ?_, hno g (by rw [hv]; rfl)⟩⟩
  exact e1.cells (g := g) (by rw [hv]; rfl) j u hj
def TR.freeze (r : Nat) (c : RowC) : TR -> TR
 | .r b => bif Nat.beq b r then .v ⟨.sl c.t, c.xs⟩ else .r b
 | s => s
def SV.freeze (r : Nat) (c : RowC) : SV -> SV
 | .row b => bif Nat.beq b r then .val (.sl c.t) c.xs else .row b
 | .tups l => .tups (l.map (TR.freeze r c))
 | .sa l => .sa (l.map (TR.freeze r c))
 | s => s
theorem zat {w : World} {M : Nat -> Prop} {m : Nat -> Value} {r : Nat} {c : RowC} (hval : rep w M (.sl c.t) [m r] c.xs) : ∀ {vs : List Value} {l : List TR}, repTRs w M m vs l -> repTRs w M m vs (l.map (TR.freeze r c))
 | [], [], _ => trivial
 | [], _ :: _, h => h.elim
 | _ :: _, [], h => h.elim
 | _ :: _, .v _ :: _, ⟨h1, h2⟩ => ⟨h1, zat hval h2⟩
 | _ :: vs, .a :: l, h => zat (vs := vs) (l := l) hval h
 | v :: _, .r b :: _, ⟨h1, h2⟩ => by
  show repTRs _ _ _ _ ((bif Nat.beq b r then .v ⟨.sl c.t, c.xs⟩ else .r b) :: _)
  cases hb : Nat.beq b r with
  | false => exact ⟨h1, zat hval h2⟩
  | true =>
   have e := Nat.eq_of_beq_eq_true hb
   subst e
   subst h1
   exact ⟨hval, zat hval h2⟩
def St.freeze (st : St) (r : Nat) (c : RowC) : St :=
 {sl := st.sl.map fun p => (p.1, p.2.freeze r c), bx := st.bx.map fun p => (p.1, p.2.map (SV.freeze r c)), rw := del st.rw r }
theorem Rm.freeze (h : Rm cx m st T w) {r : Nat} {c : RowC} (hr : (r, c) ∈ st.rw) : Rm cx m (st.freeze r c) T w := by
 have hmem : ∀ i, i ∈ (st.freeze r c).ids -> i ∈ st.ids /\ i ≠ r := by
  intro i hi
  have hne : ∀ c', (r, c') ∉ st.bx := fun c' hb => (List.nodup_append.1 h.keys).2.2 r (List.mem_map.2 ⟨_, hb, rfl⟩) r (List.mem_map.2 ⟨_, hr, rfl⟩) rfl
  rcases List.mem_append.1 hi with hi | hi
  ·obtain ⟨⟨b, s⟩, hp, rfl⟩ := List.mem_map.1 hi
   obtain ⟨⟨b', s'⟩, hp', he⟩ := List.mem_map.1 hp
   cases he
   exact ⟨List.mem_append.2 (.inl (List.mem_map.2 ⟨_, hp', rfl⟩)), fun e => hne s' (by simp only at e; rw [<- e]; exact hp')⟩
  ·obtain ⟨⟨b, s⟩, hp, rfl⟩ := List.mem_map.1 hi
   obtain ⟨h1, h2⟩ := mem_del.1 hp
   exact ⟨List.mem_append.2 (.inr (List.mem_map.2 ⟨_, h1, rfl⟩)), h2⟩
 have hri : r ∈ st.ids := List.mem_append.2 (.inr (List.mem_map.2 ⟨_, hr, rfl⟩))
 have k1 : ∀ b, b < w.heap.size -> ¬ Mut cx m st.ids b -> w.heap[b]? = w.heap[b]? := fun _ _ _ => rfl
 have k2 : ∀ b, b < w.heap.size -> Mut cx m (st.freeze r c).ids b -> Mut cx m st.ids b := fun _ _ h => mut_mono (fun i hi => (hmem i hi).1) h
 have hval : rep w (Mut cx m (st.freeze r c).ids) (.sl c.t) [m r] c.xs := by
  refine h.row_val hr k2 fun g hg => ?_
  rintro (hA | ⟨i, hi, hgi⟩)
  ·have h1 := h.outer g hA
   rcases (h.lt hri hg).2 with h2 | h2
   ·omega
   ·exact h1.2 h2
  ·obtain ⟨h1, h2⟩ := hmem i hi
   exact h.apart i r h1 hri h2 g hgi hg
 have hs : ∀ v s, repS w (Mut cx m st.ids) m v s -> repS w (Mut cx m (st.freeze r c).ids) m v (s.freeze r c) := by
  intro v s hv
  have hv' := zap (w' := w) (m := m) k1 k2 hv
  cases s with
  | row b =>
   show repS _ _ _ _ (bif Nat.beq b r then .val (.sl c.t) c.xs else .row b)
   cases hb : Nat.beq b r with
   | false => exact hv'
   | true =>
    have e := Nat.eq_of_beq_eq_true hb
    subst e
    have : v = m b := hv
    subst this
    exact hval
  | tups l => obtain ⟨vs, e, hl⟩ := hv'; exact ⟨vs, e, zat hval hl⟩
  | sa l => obtain ⟨vs, e, hl⟩ := hv'; exact ⟨vs, e, zat hval hl⟩
  | _ => exact hv'
 have hsub : (st.freeze r c).ids.Sublist st.ids := by
  have e1 : (st.freeze r c).bx.map (·.1) = st.bx.map (·.1) := by simp [St.freeze, List.map_map, Function.comp_def]
  show ((st.freeze r c).bx.map (·.1) ++ (del st.rw r).map (·.1)).Sublist (st.bx.map (·.1) ++ st.rw.map (·.1))
  rw [e1, del_keys]
  exact List.Sublist.append (List.Sublist.refl _) List.filter_sublist
 refine { size := h.size, frame := h.frame, outer := h.outer, slots := fun i sv hi => ?_, boxes := fun b c' hb' => ?_, rows := fun b c' hb' => ?_, apart := fun i j hi hj => h.apart i j (hmem i hi).1 (hmem j hj).1, keys := h.keys.sublist hsub, fixed := ?_, kept := fun b c' hb' => h.kept b c' (mem_del.1 hb').1 }
 ·obtain ⟨⟨j, s⟩, hp, he⟩ := List.mem_map.1 hi
  cases he
  obtain ⟨v, h1, h2⟩ := h.slots j s hp
  exact ⟨v, h1, hs v s h2⟩
 ·obtain ⟨⟨j, s⟩, hp, he⟩ := List.mem_map.1 hb'
  cases he
  obtain ⟨g, e1, e2, e3⟩ := h.boxes j s hp
  exact ⟨g, isM_map.2 e1, e2, zaq k1 k2 (isM_own e1) (fun _ _ => rfl) hs e3⟩
 ·obtain ⟨hp, _⟩ := mem_del.1 hb'
  obtain ⟨cells, e1, e2, e3⟩ := h.rows b c' hp
  exact ⟨cells, e1, e2, zab (fun _ _ => rep_ext k1 k2 c'.t) e3⟩
 ·intro b c' hb' h1' hle
  obtain ⟨⟨j, s⟩, hp, he⟩ := List.mem_map.1 hb'
  cases he
  exact h.fixed _ _ hp (one_map.symm.trans h1') hle
/-! A map given up: it is only read from here on. -/
def TR.freezeM (r : Nat) (k v : Ty) (ps : List (k.el × v.el)) : TR -> TR
 | .v u => .v u
 | .r b => bif Nat.beq b r then .v ⟨.map k v, some ps⟩ else .r b
 | .a => .a
def SV.freezeM (r : Nat) (k v : Ty) (ps : List (k.el × v.el)) : SV -> SV
 | .iter b => bif Nat.beq b r then .val (.map k v) (some ps) else .iter b
 | .row b => bif Nat.beq b r then .val (.map k v) (some ps) else .row b
 | .tups l => .tups (l.map (TR.freezeM r k v ps))
 | .sa l => .sa (l.map (TR.freezeM r k v ps))
 | s => bif s.refs r then .any else s
def St.freezeMp (st : St) (r : Nat) (k v : Ty) (ps : List (k.el × v.el)) : St :=
 {sl := st.sl.map fun p => (p.1, p.2.freezeM r k v ps), bx := (del st.bx r).map fun p => (p.1, p.2.map (SV.freezeM r k v ps)), rw := st.rw }
theorem zau {w : World} {M : Nat -> Prop} {m : Nat -> Value} {r : Nat} {k v : Ty} {ps : List (k.el × v.el)} (hval : rep w M (.map k v) [m r] (some ps)) : ∀ {vs : List Value} {l : List TR}, repTRs w M m vs l -> repTRs w M m vs (l.map (TR.freezeM r k v ps))
 | [], [], _ => trivial
 | [], _ :: _, h => h.elim
 | _ :: _, [], h => h.elim
 | _ :: _, .v u :: _, ⟨h1, h2⟩ => ⟨h1, zau hval h2⟩
 | _ :: vs, .a :: l, h => zau (vs := vs) (l := l) hval h
 | x :: _, .r b :: _, ⟨h1, h2⟩ => by
  show repTRs w M m _ ((bif Nat.beq b r then TR.v ⟨.map k v, some ps⟩ else TR.r b) :: _)
  cases hb : Nat.beq b r with
  | false => exact ⟨h1, zau hval h2⟩
  | true =>
   have e := Nat.eq_of_beq_eq_true hb
   subst e
   refine ⟨?_, zau hval h2⟩
   rw [h1]
   exact hval
theorem Rm.freezeMp (h : Rm cx m st T w) {r : Nat} {k v : Ty} {ps : List (k.el × v.el)} (hr : (r, BX.mp k v ps) ∈ st.bx) : Rm cx m (st.freezeMp r k v ps) T w := by
 have hmem : ∀ i, i ∈ (st.freezeMp r k v ps).ids -> i ∈ st.ids /\ i ≠ r := by
  intro i hi
  have hne : ∀ c', (r, c') ∉ st.rw := fun c' hb => (List.nodup_append.1 h.keys).2.2 r (List.mem_map.2 ⟨_, hr, rfl⟩) r (List.mem_map.2 ⟨_, hb, rfl⟩) rfl
  rcases List.mem_append.1 hi with hi | hi
  ·obtain ⟨⟨b, s⟩, hp, rfl⟩ := List.mem_map.1 hi
   obtain ⟨⟨b', s'⟩, hp', he⟩ := List.mem_map.1 hp
   cases he
   obtain ⟨h1, h2⟩ := mem_del.1 hp'
   exact ⟨List.mem_append.2 (.inl (List.mem_map.2 ⟨_, h1, rfl⟩)), h2⟩
  ·obtain ⟨⟨b, s⟩, hp, rfl⟩ := List.mem_map.1 hi
   exact ⟨List.mem_append.2 (.inr (List.mem_map.2 ⟨_, hp, rfl⟩)), fun e => hne s (by simp only at e; rw [<- e]; exact hp)⟩
 have hri : r ∈ st.ids := List.mem_append.2 (.inl (List.mem_map.2 ⟨_, hr, rfl⟩))
 have k1 : ∀ b, b < w.heap.size -> ¬ Mut cx m st.ids b -> w.heap[b]? = w.heap[b]? := fun _ _ _ => rfl
 have k2 : ∀ b, b < w.heap.size -> Mut cx m (st.freezeMp r k v ps).ids b -> Mut cx m st.ids b := fun _ _ h => mut_mono (fun i hi => (hmem i hi).1) h
 obtain ⟨g0, e1, e2, es, clock, h1, h2, h3, h4⟩ := h.box hr
 have hg0 : own (m r) g0 := by rw [e1]; exact zal rfl
 have hval : rep w (Mut cx m (st.freezeMp r k v ps).ids) (.map k v) [m r] (some ps) := by
  refine ⟨g0, es, clock, by rw [e1]; rfl, h1, ?_, h2, h3, zac (fun _ _ h => zaj k1 k2 h) (fun _ _ h => zaj k1 k2 h) h4⟩
  rintro (hA | ⟨i, hi, hgi⟩)
  ·have h5 := h.outer g0 hA
   rcases (h.lt hri hg0).2 with h6 | h6
   ·omega
   ·exact h5.2 h6
  ·obtain ⟨h5, h6⟩ := hmem i hi
   exact h.apart i r h5 hri h6 g0 hgi hg0
 have hs : ∀ v' s, repS w (Mut cx m st.ids) m v' s -> repS w (Mut cx m (st.freezeMp r k v ps).ids) m v' (s.freezeM r k v ps) := by
  intro v' s hv
  have hv' := zap (w' := w) (m := m) k1 k2 hv
  have dflt : ∀ s : SV, repS w (Mut cx m (st.freezeMp r k v ps).ids) m v' s -> repS w (Mut cx m (st.freezeMp r k v ps).ids) m v' (bif s.refs r then .any else s) := by
   intro s hh
   cases s.refs r with
   | true => trivial
   | false => exact hh
  have hd : ∀ b, v' = m b -> repS w (Mut cx m (st.freezeMp r k v ps).ids) m v' (bif Nat.beq b r then .val (.map k v) (some ps) else .iter b) /\ repS w (Mut cx m (st.freezeMp r k v ps).ids) m v' (bif Nat.beq b r then .val (.map k v) (some ps) else .row b) := by
   intro b e
   cases hb : Nat.beq b r with
   | false => exact ⟨e, e⟩
   | true =>
    have e' := Nat.eq_of_beq_eq_true hb
    subst e'
    subst e
    exact ⟨hval, hval⟩
  cases s with
  | iter b => exact (hd b hv').1
  | row b => exact (hd b hv').2
  | tups l => obtain ⟨vs, e, hl⟩ := hv'; exact ⟨vs, e, zau hval hl⟩
  | sa l => obtain ⟨vs, e, hl⟩ := hv'; exact ⟨vs, e, zau hval hl⟩
  | any => exact dflt _ hv'
  | undef => exact dflt _ hv'
  | val t x => exact dflt _ hv'
  | tup l => exact dflt _ hv'
  | ptr b o => exact dflt _ hv'
  | selfp b => exact dflt _ hv'
  | vptr t x => exact dflt _ hv'
  | rptr a b c d => exact dflt _ hv'
  | clos f bs => exact dflt _ hv'
  | bp b p => exact dflt _ hv'
  | osl b => exact dflt _ hv'
  | optr b i => exact dflt _ hv'
  | sub b i => exact dflt _ hv'
  | bclos f b => exact dflt _ hv'
  | rrp b i o s => exact dflt _ hv'
  | ssp b i j o s => exact dflt _ hv'
  | hd n => exact dflt _ hv'
 have hsub : (st.freezeMp r k v ps).ids.Sublist st.ids := by
  have e1 : (st.freezeMp r k v ps).bx.map (·.1) = (del st.bx r).map (·.1) := by simp [St.freezeMp, List.map_map, Function.comp_def]
  show ((st.freezeMp r k v ps).bx.map (·.1) ++ st.rw.map (·.1)).Sublist (st.bx.map (·.1) ++ st.rw.map (·.1))
  rw [e1, del_keys]
  exact List.Sublist.append List.filter_sublist (List.Sublist.refl _)
 refine { size := h.size, frame := h.frame, outer := h.outer, slots := fun i sv hi => ?_, boxes := fun b c' hb' => ?_, rows := fun b c' hb' => ?_, apart := fun i j hi hj => h.apart i j (hmem i hi).1 (hmem j hj).1, keys := h.keys.sublist hsub, fixed := ?_, kept := fun b c' hb' => h.kept b c' hb' }
 ·obtain ⟨⟨j, s⟩, hp, he⟩ := List.mem_map.1 hi
  cases he
  obtain ⟨v, h1, h2⟩ := h.slots j s hp
  exact ⟨v, h1, hs v s h2⟩
 ·obtain ⟨⟨j, s⟩, hp, he⟩ := List.mem_map.1 hb'
  cases he
  obtain ⟨g, e1, e2, e3⟩ := h.boxes j s (mem_del.1 hp).1
  exact ⟨g, isM_map.2 e1, e2, zaq k1 k2 (isM_own e1) (fun _ _ => rfl) hs e3⟩
 ·obtain ⟨cells, e1, e2, e3⟩ := h.rows b c' hb'
  exact ⟨cells, e1, e2, zab (fun _ _ => rep_ext k1 k2 c'.t) e3⟩
 ·intro b c' hb' h1' hle
  obtain ⟨⟨j, s⟩, hp, he⟩ := List.mem_map.1 hb'
  cases he
  exact h.fixed _ _ (mem_del.1 hp).1 (one_map.symm.trans h1') hle
end Go.Ev
namespace Go.Ev
open Go Go.RowKit
variable [Dr]
theorem TV.as_some {v : TV} {u : Ty} {x : u.el} (h : v.as u = some x) : v = ⟨u, x⟩ := by
 unfold TV.as at h
 split at h
 ·rename_i hb
  obtain ⟨t, y⟩ := v
  have e : t = u := Ty.eq_of_beq hb
  subst e
  simp only [Option.some.injEq] at h
  subst h
  rfl
 ·cases h
def fieldsOf (f : TypeId -> Option Ty) : Nat -> List Field -> Option Ty
 | _, [] => some .unit
 | off, fd :: fs =>
  bif Nat.beq fd.offset off then
   match f fd.type with
   | some a => match fieldsOf f (off + a.cells) fs with
    | some b => some (.pair a b)
    | none => none
   | none => none
  else none
def tyOf (P : Program) : Nat -> TypeId -> Option Ty
 | 0, _ => none
 | d + 1, t =>
  match P.info? t, P.underlying t with
  | some i, some (.int k) => bif Nat.beq i.size 1 then some (.int k) else none
  | some i, some .bool => bif Nat.beq i.size 1 then some .bool else none
  | some i, some .string => bif Nat.beq i.size 1 then some .str else none
  | some i, some (.slice e) => bif Nat.beq i.size 1 then (match tyOf P d e with | some u => some (.sl u) | none => none) else none
  | some i, some (.struct fs) => match fieldsOf (tyOf P d) 0 fs.toList with
   | some u => bif Nat.beq i.size u.cells then some u else none
   | none => none
  | some i, some (.interface _) => bif Nat.beq i.size 1 then some .err else none
  | some i, some (.array n e) => match tyOf P d e with
   | some u => bif Nat.beq i.size (n * u.cells) then some (.arr n u) else none
   | none => none
  | some i, some (.map k e) => bif Nat.beq i.size 1 then (match tyOf P d k, tyOf P d e with
   | some a, some b => some (.map a b)
   | _, _ => none) else none
  | some i, some (.func _ _ _) => bif Nat.beq i.size 1 then some .opq else none
  | some i, some (.pointer _) => bif Nat.beq i.size 1 then some .opq else none
  | _, _ => none
def dep : Nat := 12
def ty (P : Program) (t : TypeId) : Option Ty := tyOf P dep t
theorem fieldsOf_agg {f : TypeId -> Option Ty} {off : Nat} {fs : List Field} {u : Ty} (h : fieldsOf f off fs = some u) : u.agg = true := by
 cases fs with
 | nil => simp only [fieldsOf, Option.some.injEq] at h; subst h; rfl
 | cons fd fs =>
  unfold fieldsOf at h
  cases hb : Nat.beq fd.offset off with
  | false => rw [hb] at h; cases h
  | true =>
   rw [hb, cond_true] at h
   split at h
   ·split at h
    ·cases h; rfl
    ·cases h
   ·cases h
theorem fieldsOf_st {f : TypeId -> Option Ty} {off : Nat} {fs : List Field} {u : Ty} (h : fieldsOf f off fs = some u) : u = .unit \/ ∃ a b, u = .pair a b := by
 cases fs with
 | nil => simp only [fieldsOf, Option.some.injEq] at h; exact .inl h.symm
 | cons fd fs =>
  unfold fieldsOf at h
  cases hb : Nat.beq fd.offset off with
  | false => rw [hb] at h; cases h
  | true =>
   rw [hb, cond_true] at h
   split at h
   ·split at h
    ·cases h; exact .inr ⟨_, _, rfl⟩
    ·cases h
   ·cases h
theorem zav {P : Program} {d : Nat} {t : TypeId} {u : Ty} (h : tyOf P d t = some u) : ∃ i, P.info? t = some i /\ i.size = u.cells /\
  (match u with
   | .ptr _ => False
   | .fn _ _ => False
   | .err => ∃ ms, P.underlying t = some (.interface ms)
   | .opq => (∃ a b c, P.underlying t = some (.func a b c)) \/ ∃ e, P.underlying t = some (.pointer e)
   | .int k => P.underlying t = some (.int k)
   | .bool => P.underlying t = some .bool
   | .str => P.underlying t = some .string
   | .sl v => ∃ e d', P.underlying t = some (.slice e) /\ tyOf P d' e = some v
   | .arr n v => ∃ e d', P.underlying t = some (.array n e) /\ tyOf P d' e = some v
   | .map a b => ∃ k e d', P.underlying t = some (.map k e) /\ tyOf P d' k = some a /\ tyOf P d' e = some b
   | _ => ∃ fs d', P.underlying t = some (.struct fs) /\ fieldsOf (tyOf P d') 0 fs.toList = some u) := by
 cases d with
 | zero => cases h
 | succ d =>
  unfold tyOf at h
  split at h
  ·rename_i i k hi hu
   cases hb : Nat.beq i.size 1 <;> rw [hb] at h <;> cases h
   exact ⟨i, hi, Nat.eq_of_beq_eq_true hb, hu⟩
  ·rename_i i hi hu
   cases hb : Nat.beq i.size 1 <;> rw [hb] at h <;> cases h
   exact ⟨i, hi, Nat.eq_of_beq_eq_true hb, hu⟩
  ·rename_i i hi hu
   cases hb : Nat.beq i.size 1 <;> rw [hb] at h <;> cases h
   exact ⟨i, hi, Nat.eq_of_beq_eq_true hb, hu⟩
  ·rename_i i e hi hu
   cases hb : Nat.beq i.size 1 <;> rw [hb] at h
   ·cases h
   ·rw [cond_true] at h
    split at h
    ·rename_i v hv; cases h; exact ⟨i, hi, Nat.eq_of_beq_eq_true hb, e, d, hu, hv⟩
    ·cases h
  ·rename_i i fs hi hu
   split at h
   ·rename_i v hv
    cases hb : Nat.beq i.size v.cells <;> rw [hb] at h <;> cases h
    have ha := fieldsOf_st hv
    refine ⟨i, hi, Nat.eq_of_beq_eq_true hb, ?_⟩
    rcases ha with rfl | ⟨a, b, rfl⟩ <;> exact ⟨fs, d, hu, hv⟩
   ·cases h
  ·rename_i i ms hi hu
   cases hb : Nat.beq i.size 1 <;> rw [hb] at h <;> cases h
   exact ⟨i, hi, Nat.eq_of_beq_eq_true hb, ms, hu⟩
  ·rename_i i n e hi hu
   split at h
   ·rename_i v hv
    cases hb : Nat.beq i.size (n * v.cells) <;> rw [hb] at h <;> cases h
    exact ⟨i, hi, Nat.eq_of_beq_eq_true hb, e, d, hu, hv⟩
   ·cases h
  ·rename_i i k e hi hu
   cases hb : Nat.beq i.size 1 <;> rw [hb] at h
   ·cases h
   ·rw [cond_true] at h
    split at h
    ·rename_i a b ha hb'; cases h; exact ⟨i, hi, Nat.eq_of_beq_eq_true hb, k, e, d, hu, ha, hb'⟩
    ·cases h
  ·rename_i i a b c hi hu
   cases hb : Nat.beq i.size 1 <;> rw [hb] at h <;> cases h
   exact ⟨i, hi, Nat.eq_of_beq_eq_true hb, .inl ⟨a, b, c, hu⟩⟩
  ·rename_i i e hi hu
   cases hb : Nat.beq i.size 1 <;> rw [hb] at h <;> cases h
   exact ⟨i, hi, Nat.eq_of_beq_eq_true hb, .inr ⟨e, hu⟩⟩
  ·cases h
theorem ty_isAgg {P : Program} {d : Nat} {t : TypeId} {u : Ty} (h : tyOf P d t = some u) (w : World) : (isAgg t).run P w = .ok u.agg w := by
 obtain ⟨i, _, _, hf⟩ := zav h
 unfold isAgg
 cases u with
 | int k => simp [run_underlying hf, Ty.agg]
 | bool => simp [run_underlying hf, Ty.agg]
 | str => simp [run_underlying hf, Ty.agg]
 | sl v => obtain ⟨e, d', hu, _⟩ := hf; simp [run_underlying hu, Ty.agg]
 | ptr v => exact hf.elim
 | fn f v => exact hf.elim
 | err => obtain ⟨ms, hu⟩ := hf; simp [run_underlying hu, Ty.agg]
 | opq => rcases hf with ⟨_, _, _, hu⟩ | ⟨_, hu⟩ <;> simp [run_underlying hu, Ty.agg]
 | arr n v => obtain ⟨e, d', hu, _⟩ := hf; simp [run_underlying hu, Ty.agg]
 | map a b => obtain ⟨k, e, d', hu, _⟩ := hf; simp [run_underlying hu, Ty.agg]
 | unit => obtain ⟨fs, d', hu, _⟩ := hf; simp [run_underlying hu, Ty.agg]
 | pair a b => obtain ⟨fs, d', hu, _⟩ := hf; simp [run_underlying hu, Ty.agg]
theorem zaw {P : Program} {d : Nat} {t : TypeId} {u : Ty} (h : tyOf P d t = some u) (w : World) : (sizeOf t).run P w = .ok u.cells w := by
 obtain ⟨i, hi, hs, _⟩ := zav h
 simp [sizeOf, typeInfo, hi, hs]
theorem repL_nth {w : World} {M : Nat -> Prop} {t : Ty} : ∀ {xs : List t.el} {cs : List Value} {i : Nat} {x : t.el}, repL (rep w M t) cs xs -> xs[i]? = some x ->
  ∃ c1 c2 c3, cs = c1 ++ c2 ++ c3 /\ c1.length = i * t.cells /\ rep w M t c2 x
 | [], _, _, _, _, h => by simp at h
 | y :: ys, cs, 0, x, ⟨c1, c2, e, h1, h2⟩, h => by
  simp at h
  subst h
  exact ⟨[], c1, c2, by simpa using e, by simp, h1⟩
 | y :: ys, cs, i + 1, x, ⟨c1, c2, e, h1, h2⟩, h => by
  obtain ⟨d1, d2, d3, hd, hl, hr⟩ := repL_nth h2 (by simpa using h)
  refine ⟨c1 ++ d1, d2, d3, by rw [e, hd]; simp, ?_, hr⟩
  rw [List.length_append, zag t h1, hl, Nat.succ_mul, Nat.add_comm]
theorem repL_set {w : World} {M : Nat -> Prop} {t : Ty} : ∀ {xs : List t.el} {cs : List Value} {i : Nat} {x : t.el}, repL (rep w M t) cs xs -> xs[i]? = some x ->
  ∃ c1 c2 c3, cs = c1 ++ c2 ++ c3 /\ c1.length = i * t.cells /\ rep w M t c2 x /\ ∀ c2' x', rep w M t c2' x' -> repL (rep w M t) (c1 ++ c2' ++ c3) (xs.set i x')
 | [], _, _, _, _, h => by simp at h
 | y :: ys, cs, 0, x, ⟨c1, c2, e, h1, h2⟩, h => by
  simp at h
  subst h
  exact ⟨[], c1, c2, by simpa using e, by simp, h1, fun c2' x' h' => ⟨c2', c2, by simp, h', h2⟩⟩
 | y :: ys, cs, i + 1, x, ⟨c1, c2, e, h1, h2⟩, h => by
  obtain ⟨d1, d2, d3, hd, hl, hr, hs⟩ := repL_set h2 (by simpa using h)
  refine ⟨c1 ++ d1, d2, d3, by rw [e, hd]; simp, ?_, hr, fun c2' x' h' => ⟨c1, d1 ++ c2' ++ d3, by simp, h1, hs c2' x' h'⟩⟩
  rw [List.length_append, zag t h1, hl, Nat.succ_mul, Nat.add_comm]
theorem zax {a b : Nat} (h : Nat.blt a b = true) : a < b := by
 have : a + 1 <= b := by simpa [Nat.blt] using h
 omega
theorem blt_false {a b : Nat} (h : Nat.blt a b = false) : b <= a := by
 rcases Nat.lt_or_ge a b with h1 | h1
 ·have : Nat.blt a b = true := by
   have : a + 1 <= b := h1
   simpa [Nat.blt] using this
  rw [this] at h; cases h
 ·exact h1
theorem zay {t : Ty} {x : t.el} {off : Nat} {u : Ty} {y : u.el} (h : (bif Nat.beq off 0 then TV.as ⟨t, x⟩ u else none) = some y) : off = 0 /\ (⟨t, x⟩ : TV) = ⟨u, y⟩ := by
 cases hb : Nat.beq off 0 with
 | false => rw [hb] at h; cases h
 | true => rw [hb] at h; exact ⟨Nat.eq_of_beq_eq_true hb, TV.as_some h⟩
theorem getT_rep {w : World} {M : Nat -> Prop} : ∀ (t : Ty) {cs : List Value} {x : t.el} {off : Nat} {u : Ty} {y : u.el}, rep w M t cs x -> getT t x off u = some y ->
  ∃ c1 c2 c3, cs = c1 ++ c2 ++ c3 /\ c1.length = off /\ rep w M u c2 y := by
 intro t
 induction t with
 | int k => intro cs x off u y hr h; obtain ⟨rfl, e⟩ := zay (t := .int k) h; cases e; exact ⟨[], cs, [], by simp, rfl, hr⟩
 | bool => intro cs x off u y hr h; obtain ⟨rfl, e⟩ := zay (t := .bool) h; cases e; exact ⟨[], cs, [], by simp, rfl, hr⟩
 | str => intro cs x off u y hr h; obtain ⟨rfl, e⟩ := zay (t := .str) h; cases e; exact ⟨[], cs, [], by simp, rfl, hr⟩
 | sl t ih => intro cs x off u y hr h; obtain ⟨rfl, e⟩ := zay (t := .sl t) h; cases e; exact ⟨[], cs, [], by simp, rfl, hr⟩
 | ptr t ih => intro cs x off u y hr h; obtain ⟨rfl, e⟩ := zay (t := .ptr t) h; cases e; exact ⟨[], cs, [], by simp, rfl, hr⟩
 | fn f t ih => intro cs x off u y hr h; obtain ⟨rfl, e⟩ := zay (t := .fn f t) h; cases e; exact ⟨[], cs, [], by simp, rfl, hr⟩
 | err => intro cs x off u y hr h; obtain ⟨rfl, e⟩ := zay (t := .err) h; cases e; exact ⟨[], cs, [], by simp, rfl, hr⟩
 | opq => intro cs x off u y hr h; obtain ⟨rfl, e⟩ := zay (t := .opq) h; cases e; exact ⟨[], cs, [], by simp, rfl, hr⟩
 | arr n t ih =>
  intro cs x off u y hr h
  unfold getT at h
  split at h
  ·rename_i y' hb hy
   cases h
   have e := TV.as_some hy
   cases e
   exact ⟨[], cs, [], by simp, (Nat.eq_of_beq_eq_true hb).symm, hr⟩
  ·cases hz : Nat.beq t.cells 0 with
   | true => rw [hz] at h; cases h
   | false =>
    rw [hz, cond_false] at h
    split at h
    ·rename_i z hx
     obtain ⟨c1, c2, c3, rfl, hl, h2⟩ := repL_nth hr.2 hx
     obtain ⟨d1, d2, d3, rfl, hd, hr'⟩ := ih h2 h
     refine ⟨c1 ++ d1, d2, d3 ++ c3, by simp, ?_, hr'⟩
     rw [List.length_append, hl, hd, Nat.mul_comm]
     exact Nat.div_add_mod off t.cells
    ·cases h
 | map a b _ _ => intro cs x off u y hr h; obtain ⟨rfl, e⟩ := zay (t := .map a b) h; cases e; exact ⟨[], cs, [], by simp, rfl, hr⟩
 | unit => intro cs x off u y hr h; obtain ⟨rfl, e⟩ := zay (t := .unit) h; cases e; exact ⟨[], cs, [], by simp, rfl, hr⟩
 | pair a b iha ihb =>
  intro cs x off u y hr h
  unfold getT at h
  split at h
  ·rename_i y' hb hy
   cases h
   have e := TV.as_some hy
   cases e
   exact ⟨[], cs, [], by simp, (Nat.eq_of_beq_eq_true hb).symm, hr⟩
  ·obtain ⟨c1, c2, rfl, h1, h2⟩ := hr
   cases hl : Nat.blt off a.cells with
   | true =>
    rw [hl, cond_true] at h
    obtain ⟨d1, d2, d3, rfl, hd, hr⟩ := iha h1 h
    exact ⟨d1, d2, d3 ++ c2, by simp, hd, hr⟩
   | false =>
    rw [hl, cond_false] at h
    obtain ⟨d1, d2, d3, rfl, hd, hr⟩ := ihb h2 h
    refine ⟨c1 ++ d1, d2, d3, by simp, ?_, hr⟩
    rw [List.length_append, zag a h1, hd]
    have := blt_false hl
    omega
theorem zaz {t : Ty} {off : Nat} {v : TV} {y : t.el} (h : (bif Nat.beq off 0 then v.as t else none) = some y) : off = 0 /\ v = ⟨t, y⟩ := by
 cases hb : Nat.beq off 0 with
 | false => rw [hb] at h; cases h
 | true => rw [hb] at h; exact ⟨Nat.eq_of_beq_eq_true hb, TV.as_some h⟩
theorem setT_rep {w : World} {M : Nat -> Prop} {v : TV} {vc : List Value} (hv : rep w M v.t vc v.x) : ∀ (t : Ty) {cs : List Value} {x : t.el} {off : Nat} {y : t.el}, rep w M t cs x -> setT t x off v = some y ->
  ∃ c1 c2 c3, cs = c1 ++ c2 ++ c3 /\ c1.length = off /\ c2.length = vc.length /\ rep w M t (c1 ++ vc ++ c3) y := by
 intro t
 have base : ∀ (t : Ty) (cs : List Value) (x : t.el) (off : Nat) (y : t.el), rep w M t cs x -> (off = 0 /\ v = ⟨t, y⟩) -> ∃ c1 c2 c3, cs = c1 ++ c2 ++ c3 /\ c1.length = off /\ c2.length = vc.length /\ rep w M t (c1 ++ vc ++ c3) y := by
  rintro t cs x off y hr ⟨rfl, e⟩
  subst e
  exact ⟨[], cs, [], by simp, rfl, by rw [zag t hr, zag t hv], by simpa using hv⟩
 induction t with
 | int k => intro cs x off y hr h; exact base (.int k) cs x off y hr (zaz (t := .int k) h)
 | bool => intro cs x off y hr h; exact base .bool cs x off y hr (zaz (t := .bool) h)
 | str => intro cs x off y hr h; exact base .str cs x off y hr (zaz (t := .str) h)
 | sl t ih => intro cs x off y hr h; exact base (.sl t) cs x off y hr (zaz (t := .sl t) h)
 | ptr t ih => intro cs x off y hr h; exact base (.ptr t) cs x off y hr (zaz (t := .ptr t) h)
 | fn f t ih => intro cs x off y hr h; exact base (.fn f t) cs x off y hr (zaz (t := .fn f t) h)
 | err => intro cs x off y hr h; exact base .err cs x off y hr (zaz (t := .err) h)
 | opq => intro cs x off y hr h; exact base .opq cs x off y hr (zaz (t := .opq) h)
 | arr n t ih =>
  intro cs x off y hr h
  unfold setT at h
  split at h
  ·rename_i y' hb hy
   cases h
   exact base _ cs x off _ hr ⟨Nat.eq_of_beq_eq_true hb, TV.as_some hy⟩
  ·cases hz : Nat.beq t.cells 0 with
   | true => rw [hz] at h; cases h
   | false =>
    rw [hz, cond_false] at h
    split at h
    ·rename_i z hx
     split at h
     ·rename_i z' hz'
      cases h
      obtain ⟨c1, c2, c3, rfl, hl, h2, hset⟩ := repL_set hr.2 hx
      obtain ⟨d1, d2, d3, rfl, hd, hd2, hr'⟩ := ih h2 hz'
      refine ⟨c1 ++ d1, d2, d3 ++ c3, by simp, ?_, hd2, ?_, ?_⟩
      ·rw [List.length_append, hl, hd, Nat.mul_comm]
       exact Nat.div_add_mod off t.cells
      ·rw [List.length_set]; exact hr.1
      ·have := hset _ _ hr'
       simpa using this
     ·cases h
    ·cases h
 | map a b _ _ => intro cs x off y hr h; exact base (.map a b) cs x off y hr (zaz (t := .map a b) h)
 | unit => intro cs x off y hr h; exact base .unit cs x off y hr (zaz (t := .unit) h)
 | pair a b iha ihb =>
  intro cs x off y hr h
  unfold setT at h
  split at h
  ·rename_i y' hb hy
   cases h
   exact base _ cs x off _ hr ⟨Nat.eq_of_beq_eq_true hb, TV.as_some hy⟩
  ·obtain ⟨c1, c2, rfl, h1, h2⟩ := hr
   cases hl : Nat.blt off a.cells with
   | true =>
    rw [hl, cond_true] at h
    split at h
    ·rename_i y' hy
     cases h
     obtain ⟨d1, d2, d3, rfl, hd, hd2, hr⟩ := iha h1 hy
     exact ⟨d1, d2, d3 ++ c2, by simp, hd, hd2, d1 ++ vc ++ d3, c2, by simp, hr, h2⟩
    ·cases h
   | false =>
    rw [hl, cond_false] at h
    split at h
    ·rename_i y' hy
     cases h
     obtain ⟨d1, d2, d3, rfl, hd, hd2, hr⟩ := ihb h2 hy
     refine ⟨c1 ++ d1, d2, d3, by simp, ?_, hd2, c1, d1 ++ vc ++ d3, by simp, h1, hr⟩
     rw [List.length_append, zag a h1, hd]
     have := blt_false hl
     omega
    ·cases h
def zeroEl : (t : Ty) -> t.el
 | .int _ => (0 : Int)
 | .bool => false
 | .str => []
 | .sl _ => []
 | .unit => ()
 | .pair a b => (zeroEl a, zeroEl b)
 | .ptr t => zeroEl t
 | .fn _ t => zeroEl t
 | .err => none
 | .opq => ()
 | .arr n t => List.replicate n (zeroEl t)
 | .map _ _ => none
def iterO (f : List Value -> Option (List Value)) : Nat -> List Value -> Option (List Value)
 | 0, r => some r
 | n + 1, r => match f r with
  | some r' => iterO f n r'
  | none => none
def zeroChk : Ty -> List Value -> Option (List Value)
 | .int k, .int k' n :: r => bif kbeq k k' && n == 0 then some r else none
 | .bool, .bool b :: r => bif b then none else some r
 | .str, .string s :: r => bif s.data.isEmpty then some r else none
 | .sl _, .slice none n c :: r => bif Nat.beq n 0 && Nat.beq c 0 then some r else none
 | .unit, r => some r
 | .err, .nilIface :: r => some r
 | .opq, v :: r => bif v.oneCell' then some r else none
 | .map _ _, .map none :: r => some r
 | .arr n t, r => iterO (zeroChk t) n r
 | .pair a b, r => match zeroChk a r with
  | some r' => zeroChk b r'
  | none => none
 | _, _ => none
theorem iterO_rep {α : Type} {f : List Value -> α -> Prop} {z : List Value -> Option (List Value)} {y : α} (h : ∀ {cs r : List Value}, z cs = some r -> ∃ c, cs = c ++ r /\ f c y) : ∀ (n : Nat) {cs r : List Value}, iterO z n cs = some r -> ∃ c, cs = c ++ r /\ repL f c (List.replicate n y)
 | 0, cs, r, hh => by cases hh; exact ⟨[], rfl, rfl⟩
 | n + 1, cs, r, hh => by
  unfold iterO at hh
  split at hh
  ·rename_i r' hr
   obtain ⟨c1, rfl, h1⟩ := h hr
   obtain ⟨c2, rfl, h2⟩ := iterO_rep h n hh
   exact ⟨c1 ++ c2, by simp, c1, c2, rfl, h1, h2⟩
  ·cases hh
theorem zeroChk_rep {w : World} {M : Nat -> Prop} : ∀ (t : Ty) {cs r : List Value}, zeroChk t cs = some r -> ∃ c, cs = c ++ r /\ rep w M t c (zeroEl t) := by
 intro t
 induction t with
 | int k =>
  intro cs r h
  unfold zeroChk at h
  split at h <;> try contradiction
  ·rename_i hk k' n r' e1; cases e1
   cases hb : (kbeq k k' && n == 0) <;> rw [hb] at h <;> cases h
   simp only [Bool.and_eq_true, beq_iff_eq] at hb
   rw [<- keq hb.1, hb.2]
   exact ⟨[_], rfl, rfl⟩
  all_goals (rename_i e1; cases e1)
 | bool =>
  intro cs r h
  unfold zeroChk at h
  split at h <;> try contradiction
  ·rename_i b r' _
   cases b <;> cases h
   exact ⟨[_], rfl, rfl⟩
  all_goals (rename_i e1; cases e1)
 | str =>
  intro cs r h
  unfold zeroChk at h
  split at h <;> try contradiction
  ·rename_i s r' _
   cases hb : s.data.isEmpty <;> rw [hb] at h <;> cases h
   have : s = ⟨#[]⟩ := by cases s; simp at hb; rw [hb]
   rw [this]
   exact ⟨[_], rfl, rfl, by decide⟩
  all_goals (rename_i e1; cases e1)
 | sl t ih =>
  intro cs r h
  unfold zeroChk at h
  split at h <;> try contradiction
  ·rename_i n c r' e1; cases e1
   cases hb : (Nat.beq n 0 && Nat.beq c 0) <;> rw [hb] at h <;> cases h
   simp only [Bool.and_eq_true] at hb
   rw [Nat.eq_of_beq_eq_true hb.1, Nat.eq_of_beq_eq_true hb.2]
   exact ⟨[_], rfl, none, 0, [], rfl, Nat.le_refl _, by decide, fun _ => rfl, rfl, fun j u hj => by simp at hj⟩
  all_goals (rename_i e1; cases e1)
 | unit => intro cs r h; cases h; exact ⟨[], rfl, rfl⟩
 | ptr t ih => intro cs r h; simp [zeroChk] at h
 | fn f t ih => intro cs r h; simp [zeroChk] at h
 | err =>
  intro cs r h
  unfold zeroChk at h
  split at h <;> try contradiction
  ·cases h; exact ⟨[_], rfl, .inl ⟨rfl, rfl⟩⟩
  all_goals (rename_i e1; cases e1)
 | opq =>
  intro cs r h
  unfold zeroChk at h
  split at h <;> try contradiction
  ·rename_i v r' _
   cases hb : v.oneCell' <;> rw [hb] at h <;> cases h
   exact ⟨[_], rfl, _, rfl, hb⟩
  all_goals (rename_i e1; cases e1)
 | map a b _ _ =>
  intro cs r h
  unfold zeroChk at h
  split at h <;> try contradiction
  ·cases h; exact ⟨[_], rfl, rfl⟩
  all_goals (rename_i e1; cases e1)
 | arr n t ih =>
  intro cs r h
  simp only [zeroChk] at h
  obtain ⟨c, h1, h2⟩ := iterO_rep (f := rep w M t) (y := zeroEl t) (fun hh => ih hh) n h
  exact ⟨c, h1, List.length_replicate, h2⟩
 | pair a b iha ihb =>
  intro cs r h
  simp only [zeroChk] at h
  split at h
  ·rename_i r' hr
   obtain ⟨c1, rfl, h1⟩ := iha hr
   obtain ⟨c2, rfl, h2⟩ := ihb h
   exact ⟨c1 ++ c2, by simp, c1, c2, rfl, h1, h2⟩
  ·cases h
end Go.Ev
namespace Go.Ev
open Go Go.RowKit
variable [Dr]
variable {P : Program} {w : World} {M : Nat -> Prop} {v : Value}
theorem za0 {k : IntKind} {n : Int} : repV w M v (.int k) n ↔ v = .int k n := by simp [repV, Ty.agg, rep]
theorem za1 {b : Bool} : repV w M v .bool b ↔ v = .bool b := by simp [repV, Ty.agg, rep]
theorem za2 {s : List UInt8} : repV w M v .str s ↔ v = .string ⟨s.toArray⟩ /\ s.length <= maxLen := by simp [repV, Ty.agg, rep]
theorem za3 {t : Ty} {x : t.el} (h : t.agg = false) : repV w M v t x ↔ rep w M t [v] x := by simp [repV, h]
theorem za4 {t : Ty} {x : t.el} (h : t.agg = true) : repV w M v t x ↔ ∃ cs : List Value, v = .agg cs.toArray /\ rep w M t cs x := by simp [repV, h]
def lim : Nat := 2147483648
theorem lim_max : lim <= maxLen := by decide
theorem za5 (s : List UInt8) : (bytesOf s).size = s.length := by simp [bytesOf, ByteArray.size]
theorem bytesOf_list (s : List UInt8) : (bytesOf s).toList = s := by rw [Lib.toList_data]; rfl
theorem bytesOf_append (a b : List UInt8) : bytesOf a ++ bytesOf b = bytesOf (a ++ b) := by
 apply ByteArray.ext
 simp [bytesOf]
def allP : List Prop -> Prop
 | [] => True
 | p :: r => p /\ allP r
def binInt (op : BinOp) (k : IntKind) (a b : Int) : Option (TV × List Prop) :=
 match op with
 | .add => some (⟨.int k, k.wrap (a + b)⟩, [])
 | .sub => some (⟨.int k, k.wrap (a - b)⟩, [])
 | .mul => some (⟨.int k, k.wrap (a * b)⟩, [])
 | .quo => some (⟨.int k, k.wrap (a.tdiv b)⟩, [b ≠ 0])
 | .rem => some (⟨.int k, a.tmod b⟩, [b ≠ 0])
 | .and => some (⟨.int k, k.wrap (BitVec.ofInt k.bits a &&& BitVec.ofInt k.bits b).toNat⟩, [])
 | .or => some (⟨.int k, k.wrap (BitVec.ofInt k.bits a ||| BitVec.ofInt k.bits b).toNat⟩, [])
 | .xor => some (⟨.int k, k.wrap (BitVec.ofInt k.bits a ^^^ BitVec.ofInt k.bits b).toNat⟩, [])
 | .andNot => some (⟨.int k, k.wrap (BitVec.ofInt k.bits a &&& ~~~BitVec.ofInt k.bits b).toNat⟩, [])
 | .eql => some (⟨.bool, a == b⟩, [])
 | .neq => some (⟨.bool, a != b⟩, [])
 | .lss => some (⟨.bool, decide (a < b)⟩, [])
 | .leq => some (⟨.bool, decide (a <= b)⟩, [])
 | .gtr => some (⟨.bool, decide (b < a)⟩, [])
 | .geq => some (⟨.bool, decide (b <= a)⟩, [])
 | _ => none
def binShift (op : BinOp) (k : IntKind) (a b : Int) : Option (TV × List Prop) :=
 match op with
 | .shl => some (⟨.int k, k.wrap (a * 2 ^ min b.toNat k.bits)⟩, [0 <= b])
 | .shr => some (⟨.int k, a.fdiv (2 ^ min b.toNat k.bits)⟩, [0 <= b])
 | _ => none
def binBool (op : BinOp) (a b : Bool) : Option (TV × List Prop) :=
 match op with
 | .eql => some (⟨.bool, a == b⟩, [])
 | .neq => some (⟨.bool, !(a == b)⟩, [])
 | _ => none
def binStr (op : BinOp) (a b : List UInt8) : Option (TV × List Prop) :=
 match op with
 | .add => some (⟨.str, a ++ b⟩, [a.length + b.length <= lim])
 | .eql => some (⟨.bool, a == b⟩, [])
 | .neq => some (⟨.bool, !(a == b)⟩, [])
 | .lss => some (⟨.bool, Op.bytesLess a b⟩, [])
 | .leq => some (⟨.bool, Op.bytesLess a b || a == b⟩, [])
 | .gtr => some (⟨.bool, !(Op.bytesLess a b || a == b)⟩, [])
 | .geq => some (⟨.bool, !(Op.bytesLess a b)⟩, [])
 | _ => none
def eqInt (a b : Int) : Bool := a == b
def eqBool (a b : Bool) : Bool := a == b
def eqStr (a b : List UInt8) : Bool := a == b
def eqL {α : Type} (f : α -> α -> Bool) : List α -> List α -> Bool
 | [], [] => true
 | x :: xs, y :: ys => f x y && eqL f xs ys
 | _, _ => false
def eqEl : (t : Ty) -> t.el -> t.el -> Bool
 | .int _, a, b => eqInt a b
 | .bool, a, b => eqBool a b
 | .str, a, b => eqStr a b
 | .unit, _, _ => true
 | .pair s t, a, b => eqEl s a.1 b.1 && eqEl t a.2 b.2
 | .arr _ t, a, b => eqL (eqEl t) a b
 | _, _, _ => false
def eqOK (P : Program) : Nat -> TypeId -> Bool
 | 0, _ => false
 | d + 1, t => match P.underlying t with
  | some (.int _) => true
  | some .bool => true
  | some .string => true
  | some (.struct fs) => !P.stoodInHeld t && fs.toList.all fun f => f.name != "_" && eqOK P d f.type
  | some (.array _ e) => eqOK P d e
  | _ => false
theorem part_run {d : Nat} {t : TypeId} {u : Ty} (ht : tyOf P d t = some u) {pre c post : List Value} {x : u.el} (hr : rep w M u c x) (w2 : World) :
  ∃ v, (part t (pre ++ c ++ post).toArray pre.length).run P w2 = .ok v w2 /\ repV w M v u x := by
 have hl := zag u hr
 cases hag : u.agg with
 | true =>
  refine ⟨.agg c.toArray, ?_, by rw [repV, if_pos hag]; exact ⟨c, rfl, hr⟩⟩
  unfold part
  rw [Sem.run_bind, ty_isAgg ht, hag]
  simp only [Result.andThen_ok, if_true, Sem.run_bind, zaw ht, Sem.run_pure]
  have e : (pre ++ c ++ post).toArray.extract pre.length (pre.length + u.cells) = c.toArray := by
   rw [<- hl]
   apply Array.ext'
   simp [List.extract_eq_take_drop]
  rw [e]
 | false =>
  have h1 : u.cells = 1 := by cases u <;> first | rfl | (simp [Ty.agg] at hag)
  rw [h1] at hl
  match c, hl with
  | [v], _ =>
   refine ⟨v, ?_, by rw [repV, if_neg (by rw [hag]; decide)]; exact hr⟩
   unfold part
   rw [Sem.run_bind, ty_isAgg ht, hag]
   simp only [Result.andThen_ok, Bool.false_eq_true, if_false]
   have e : (pre ++ [v] ++ post).toArray[pre.length]? = some v := by simp
   rw [e]
   rfl
theorem eqFields_sound {d D : Nat} (ih : ∀ (t : TypeId) (u : Ty), tyOf P d t = some u -> ∀ d', eqOK P d' t = true -> d' <= D -> ∀ (w w' w2 : World) (M M' : Nat -> Prop) (v v' : Value) (x y : u.el), repV w M v u x -> repV w' M' v' u y -> (Op.equalIn D t v v').run P w2 = .ok (eqEl u x y) w2) :
  ∀ (fs : List Field) (off : Nat) (u : Ty), fieldsOf (tyOf P d) off fs = some u -> ∀ d', d' <= D -> (fs.all fun f => f.name != "_" && eqOK P d' f.type) = true -> ∀ (w w' w2 : World) (M M' : Nat -> Prop) (pre pre' c c' : List Value) (x y : u.el), pre.length = off -> pre'.length = off -> rep w M u c x -> rep w' M' u c' y ->
   (Op.eqFields D (pre ++ c).toArray (pre' ++ c').toArray fs).run P w2 = .ok (eqEl u x y) w2
 | [], off, u, h, _, _, _, w, w', w2, M, M', pre, pre', c, c', x, y, _, _, _, _ => by
  simp only [fieldsOf, Option.some.injEq] at h
  subst h
  simp [Op.eqFields, eqEl]
 | f :: fs, off, u, h, d', hd, hall, w, w', w2, M, M', pre, pre', c, c', x, y, h1, h2, hc, hc' => by
  unfold fieldsOf at h
  cases hb : Nat.beq f.offset off with
  | false => rw [hb] at h; cases h
  | true =>
   have hoff := Nat.eq_of_beq_eq_true hb
   rw [hb, cond_true] at h
   split at h
   ·rename_i a ha
    split at h
    ·rename_i b hfs
     cases h
     rw [List.all_cons, Bool.and_eq_true, Bool.and_eq_true] at hall
     obtain ⟨c1, c2, rfl, r1, r2⟩ := hc
     obtain ⟨c1', c2', rfl, r1', r2'⟩ := hc'
     obtain ⟨v, e1, e2⟩ := part_run (P := P) ha (pre := pre) (post := c2) r1 w2
     obtain ⟨v', e1', e2'⟩ := part_run (P := P) ha (pre := pre') (post := c2') r1' w2
     have hne : f.name ≠ "_" := by simpa using hall.1.1
     rw [List.append_assoc] at e1 e1'
     rw [h1] at e1
     rw [h2] at e1'
     simp only [Op.eqFields, if_pos hne, hoff, Sem.run_bind, e1, e1', Result.andThen_ok, ih f.type a ha d' hall.1.2 hd w w' w2 M M' v v' x.1 y.1 e2 e2']
     cases he : eqEl a x.1 y.1 with
     | false =>
      simp only [Bool.not_false, if_true, Sem.run_pure]
      simp [eqEl, he]
     | true =>
      simp only [Bool.not_true, Bool.false_eq_true, if_false]
      have := eqFields_sound ih fs (off + a.cells) b hfs d' hd hall.2 w w' w2 M M' (pre ++ c1) (pre' ++ c1') c2 c2' x.2 y.2 (by rw [List.length_append, h1, zag a r1]) (by rw [List.length_append, h2, zag a r1']) r2 r2'
      rw [List.append_assoc, List.append_assoc] at this
      rw [this]
      simp [eqEl, he]
    ·cases h
   ·cases h
theorem cells_of {P : Program} {d : Nat} {t : TypeId} {u : Ty} (h : tyOf P d t = some u) : P.cellsOf t = u.cells := by
 obtain ⟨i, hi, hs, _⟩ := zav h
 simp [Program.cellsOf, hi, hs]
theorem eqItems_sound {d D : Nat} {e : TypeId} {u : Ty} (ht : tyOf P d e = some u) (ih : ∀ (w w' w2 : World) (M M' : Nat -> Prop) (v v' : Value) (x y : u.el), repV w M v u x -> repV w' M' v' u y -> (Op.equalIn D e v v').run P w2 = .ok (eqEl u x y) w2) :
  ∀ (xs ys : List u.el) (n : Nat) (w w' w2 : World) (M M' : Nat -> Prop) (pre pre' c c' : List Value), pre.length = n * u.cells -> pre'.length = n * u.cells -> xs.length = ys.length -> repL (rep w M u) c xs -> repL (rep w' M' u) c' ys ->
   (Op.eqItems D e u.cells (pre ++ c).toArray (pre' ++ c').toArray (List.range' n xs.length)).run P w2 = .ok (eqL (eqEl u) xs ys) w2
 | [], [], n, w, w', w2, M, M', pre, pre', c, c', _, _, _, _, _ => by simp [Op.eqItems, eqL]
 | [], _ :: _, _, _, _, _, _, _, _, _, _, _, _, _, hl, _, _ => by simp at hl
 | _ :: _, [], _, _, _, _, _, _, _, _, _, _, _, _, hl, _, _ => by simp at hl
 | x :: xs, y :: ys, n, w, w', w2, M, M', pre, pre', c, c', h1, h2, hl, hc, hc' => by
  obtain ⟨c1, c2, rfl, r1, r2⟩ := hc
  obtain ⟨c1', c2', rfl, r1', r2'⟩ := hc'
  obtain ⟨v, e1, e2⟩ := part_run (P := P) ht (pre := pre) (post := c2) r1 w2
  obtain ⟨v', e1', e2'⟩ := part_run (P := P) ht (pre := pre') (post := c2') r1' w2
  rw [List.append_assoc] at e1 e1'
  rw [h1] at e1
  rw [h2] at e1'
  rw [List.length_cons, List.range'_succ]
  simp only [Op.eqItems, Sem.run_bind, e1, e1', Result.andThen_ok, ih w w' w2 M M' v v' x y e2 e2']
  cases he : eqEl u x y with
  | false => simp [eqL, he]
  | true =>
   simp only [Bool.not_true, Bool.false_eq_true, if_false]
   have := eqItems_sound ht ih xs ys (n + 1) w w' w2 M M' (pre ++ c1) (pre' ++ c1') c2 c2' (by rw [List.length_append, h1, zag u r1, Nat.succ_mul]) (by rw [List.length_append, h2, zag u r1', Nat.succ_mul]) (by simpa using hl) r2 r2'
   rw [List.append_assoc, List.append_assoc] at this
   rw [this]
   simp [eqL, he]
theorem eq_sound : ∀ (d : Nat) (t : TypeId) (u : Ty), tyOf P d t = some u -> ∀ d', eqOK P d' t = true -> ∀ D, d' <= D -> ∀ (w w' w2 : World) (M M' : Nat -> Prop) (v v' : Value) (x y : u.el), repV w M v u x -> repV w' M' v' u y -> (Op.equalIn D t v v').run P w2 = .ok (eqEl u x y) w2
 | 0, _, _, h => by cases h
 | d + 1, t, u, h => by
  intro d' hok D hD w w' w2 M M' v v' x y hx hy
  cases d' with
  | zero => cases hok
  | succ d' =>
   obtain ⟨D, rfl⟩ : ∃ k, D = k + 1 := ⟨D - 1, by omega⟩
   unfold eqOK at hok
   unfold tyOf at h
   split at h
   ·rename_i i k hi hu
    cases hb : Nat.beq i.size 1 <;> rw [hb] at h <;> cases h
    obtain rfl := za0.1 hx
    obtain rfl := za0.1 hy
    exact run_equalIn_int w2 D t k k x y hu
   ·rename_i i hi hu
    cases hb : Nat.beq i.size 1 <;> rw [hb] at h <;> cases h
    obtain rfl := za1.1 hx
    obtain rfl := za1.1 hy
    exact run_equalIn_bool' w2 D t x y hu
   ·rename_i i hi hu
    cases hb : Nat.beq i.size 1 <;> rw [hb] at h <;> cases h
    obtain ⟨rfl, _⟩ := za2.1 hx
    obtain ⟨rfl, _⟩ := za2.1 hy
    rw [run_equalIn_string w2 D t _ _ hu]
    have e1 := bytesOf_list x
    have e2 := bytesOf_list y
    unfold bytesOf at e1 e2
    rw [e1, e2]
    rfl
   ·rename_i i e hi hu
    rw [hu] at hok
    cases hok
   ·rename_i i fs hi hu
    rw [hu] at hok
    simp only [Bool.and_eq_true, Bool.not_eq_true'] at hok
    split at h
    ·rename_i v0 hv0
     cases hb : Nat.beq i.size v0.cells <;> rw [hb] at h <;> cases h
     have hag := fieldsOf_agg hv0
     obtain ⟨c, rfl, hc⟩ := (za4 hag).1 hx
     obtain ⟨c', rfl, hc'⟩ := (za4 hag).1 hy
     have hf : P.fieldsOf t = fs := by unfold Program.fieldsOf; rw [hu]
     rw [run_equalIn_struct w2 D t c.toArray c'.toArray (by rw [hf]; exact hu) hok.1, hf]
     exact eqFields_sound (fun t u ht d'' hk hd => eq_sound d t u ht d'' hk D hd) fs.toList 0 u hv0 d' (by omega) hok.2 w w' w2 M M' [] [] c c' x y rfl rfl hc hc'
    ·cases h
   ·rename_i i ms hi hu
    rw [hu] at hok
    cases hok
   ·rename_i i n e hi hu
    rw [hu] at hok
    split at h
    ·rename_i v0 hv0
     cases hb : Nat.beq i.size (n * v0.cells) <;> rw [hb] at h <;> cases h
     obtain ⟨c, rfl, hc1, hc2⟩ := (za4 (t := .arr n v0) rfl).1 hx
     obtain ⟨c', rfl, hc1', hc2'⟩ := (za4 (t := .arr n v0) rfl).1 hy
     obtain ⟨ie, hie, hse, _⟩ := zav hv0
     have hall := eqItems_sound hv0 (fun w w' w2 M M' v v' x y => eq_sound d e v0 hv0 d' hok D (by omega) w w' w2 M M' v v' x y) x y 0 w w' w2 M M' [] [] c c' (by simp) (by simp) (hc1.trans hc1'.symm) hc2 hc2'
     rw [run_equalIn_array w2 D c.toArray c'.toArray hu hie, cells_of hv0, List.range_eq_range']
     rw [hc1] at hall
     exact hall
    ·cases h
   ·rename_i i k e hi hu
    rw [hu] at hok
    cases hok
   ·rename_i i a b c hi hu
    rw [hu] at hok
    cases hok
   ·rename_i i e hi hu
    rw [hu] at hok
    cases hok
   ·cases h
def isShift : BinOp -> Bool
 | .shl => true
 | .shr => true
 | _ => false
def bin (P : Program) (op : BinOp) (t : TypeId) (x y : TV) : Option (TV × List Prop) :=
 match x, y with
 | ⟨.int k, a⟩, ⟨.int k', b⟩ => bif isShift op then binShift op k a b else bif kbeq k k' then binInt op k a b else none
 | ⟨.bool, a⟩, ⟨.bool, b⟩ => match P.underlying t with
  | some .bool => binBool op a b
  | _ => none
 | ⟨.str, a⟩, ⟨.str, b⟩ => binStr op a b
 | ⟨.pair s1 s2, a⟩, y => match y.as (.pair s1 s2), ty P t with
  | some b, some u => match u.beq (.pair s1 s2) && eqOK P 16 t && !(P.eqGuardType P.depth t), op with
   | true, .eql => some (⟨.bool, eqEl (.pair s1 s2) a b⟩, [])
   | true, .neq => some (⟨.bool, !(eqEl (.pair s1 s2) a b)⟩, [])
   | _, _ => none
  | _, _ => none
 | ⟨.arr n1 s1, a⟩, y => match y.as (.arr n1 s1), ty P t with
  | some b, some u => match u.beq (.arr n1 s1) && eqOK P 16 t && !(P.eqGuardType P.depth t), op with
   | true, .eql => some (⟨.bool, eqEl (.arr n1 s1) a b⟩, [])
   | true, .neq => some (⟨.bool, !(eqEl (.arr n1 s1) a b)⟩, [])
   | _, _ => none
  | _, _ => none
 | _, _ => none
def Gives (P : Program) (s : Sem Value) (v : Value) : Prop := ∀ w, s.run P w = .ok v w
theorem guard_int {op : BinOp} {t : TypeId} {x y : Operand} {k k' : IntKind} {a b : Int} (w : World) : (eqGuard op t x y (.int k a) (.int k' b)).run P w = .ok () w := by cases op <;> rfl
theorem guard_bool {op : BinOp} {t : TypeId} {x y : Operand} {a b : Bool} (w : World) : (eqGuard op t x y (.bool a) (.bool b)).run P w = .ok () w := by cases op <;> rfl
theorem guard_str {op : BinOp} {t : TypeId} {x y : Operand} {a b : ByteArray} (w : World) : (eqGuard op t x y (.string a) (.string b)).run P w = .ok () w := by cases op <;> rfl
theorem binOp_int {op : BinOp} {t : TypeId} {k : IntKind} {a b : Int} (hs : isShift op = false) : binOp op t (.int k a) (.int k b) =
  (match op with | .add | .sub | .mul => Op.intArith op k a b | .quo | .rem => Op.intDiv op k a b | .and | .or | .xor | .andNot => Op.intBits op k a b | _ => Op.intCmp op a b) := by
 cases op <;> simp [binOp, isShift] at hs ⊢
theorem binInt_sound {op : BinOp} {k : IntKind} {a b : Int} {t : TypeId} {r : TV} {ob : List Prop} (h : binInt op k a b = some (r, ob)) (hob : allP ob) :
  ∃ v, Gives P (binOp op t (.int k a) (.int k b)) v /\ ∀ w M, repV w M v r.t r.x := by
 cases op <;> simp only [binInt] at h <;> cases h
 case quo =>
  refine ⟨_, fun w => ?_, fun _ _ => za0.2 rfl⟩
  rw [binOp_int rfl]
  show (if b = 0 then _ else _ : Sem Value).run P w = _
  rw [if_neg hob.1]
  rfl
 case rem =>
  refine ⟨_, fun w => ?_, fun _ _ => za0.2 rfl⟩
  rw [binOp_int rfl]
  show (if b = 0 then _ else _ : Sem Value).run P w = _
  rw [if_neg hob.1]
  rfl
 all_goals first
  | exact ⟨_, fun w => by rw [binOp_int rfl]; rfl, fun _ _ => za0.2 rfl⟩
  | exact ⟨_, fun w => by rw [binOp_int rfl]; rfl, fun _ _ => za1.2 rfl⟩
theorem binShift_sound {op : BinOp} {k k' : IntKind} {a b : Int} {t : TypeId} {r : TV} {ob : List Prop} (h : binShift op k a b = some (r, ob)) (hob : allP ob) :
  ∃ v, Gives P (binOp op t (.int k a) (.int k' b)) v /\ ∀ w M, repV w M v r.t r.x := by
 cases op <;> simp only [binShift] at h <;> cases h
 all_goals
  have hb0 : 0 <= b := hob.1
  have hn : ¬ b < 0 := by omega
  exact ⟨_, fun w => by simp [binOp, Op.shift, hn], fun _ _ => za0.2 rfl⟩
theorem equalIn_bool {t : TypeId} (ht : P.underlying t = some .bool) {a b : Bool} (d : Nat) (w : World) : (Op.equalIn (d + 1) t (.bool a) (.bool b)).run P w = .ok (a == b) w := by
 simp [Op.equalIn, run_underlying ht]
theorem binBool_sound {op : BinOp} {a b : Bool} {t : TypeId} (ht : P.underlying t = some .bool) {r : TV} {ob : List Prop} (h : binBool op a b = some (r, ob)) :
  ∃ v, Gives P (binOp op t (.bool a) (.bool b)) v /\ ∀ w M, repV w M v r.t r.x := by
 have e : ∀ w, (Op.equal t (.bool a) (.bool b)).run P w = .ok (a == b) w := fun w => by
  exact equalIn_bool ht 9999 w
 cases op <;> simp only [binBool] at h <;> cases h
 all_goals exact ⟨_, fun w => by simp [binOp, e], fun _ _ => za1.2 rfl⟩
theorem binStr_sound {op : BinOp} {a b : List UInt8} {t : TypeId} {r : TV} {ob : List Prop} (h : binStr op a b = some (r, ob)) (hob : allP ob) :
  ∃ v, Gives P (binOp op t (.string (bytesOf a)) (.string (bytesOf b))) v /\ ∀ w M, repV w M v r.t r.x := by
 cases op <;> simp only [binStr] at h <;> cases h
 case add =>
  have hl : a.length + b.length <= maxLen := Nat.le_trans hob.1 lim_max
  have hi : ¬ (((bytesOf a).size + (bytesOf b).size : Nat) : Int) > IntKind.i64.max := by
   rw [za5, za5]
   have : IntKind.i64.max = 9223372036854775807 := by decide
   rw [this]
   simp only [maxLen] at hl
   omega
  refine ⟨.string (bytesOf (a ++ b)), fun w => ?_, fun _ _ => za2.2 ⟨rfl, by rw [List.length_append]; exact hl⟩⟩
  simp only [binOp, Op.stringOp]
  rw [if_neg hi, bytesOf_append]
  rfl
 all_goals exact ⟨_, fun w => by simp [binOp, Op.stringOp, bytesOf_list], fun _ _ => za1.2 rfl⟩
theorem bin_sound {op : BinOp} {t : TypeId} {x y : TV} {vx vy : Value} {ox oy : Operand} {r : TV} {ob : List Prop} (hx : repV w M vx x.t x.x) (hy : repV w M vy y.t y.x)
  (h : bin P op t x y = some (r, ob)) (hob : allP ob) :
  ∃ v, Gives P (do eqGuard op t ox oy vx vy; binOp op t vx vy) v /\ ∀ w M, repV w M v r.t r.x := by
 have lift : ∀ v, (∀ w, (eqGuard op t ox oy vx vy).run P w = .ok () w) -> Gives P (binOp op t vx vy) v -> Gives P (do eqGuard op t ox oy vx vy; binOp op t vx vy) v := by
  intro v hg hv w
  rw [Sem.run_bind, hg w]
  exact hv w
 unfold bin at h
 split at h
 ·rename_i k a k' b
  obtain rfl := za0.1 hx
  obtain rfl := za0.1 hy
  cases hs : isShift op with
  | true =>
   rw [hs, cond_true] at h
   obtain ⟨v, h1, h2⟩ := binShift_sound (P := P) (t := t) (k' := k') h hob
   exact ⟨v, lift v (fun _ => by first | exact guard_int _ | exact guard_bool _ | exact guard_str _) h1, h2⟩
  | false =>
   rw [hs, cond_false] at h
   cases hk : kbeq k k' with
   | false => rw [hk] at h; cases h
   | true =>
    rw [hk, cond_true] at h
    obtain rfl := keq hk
    obtain ⟨v, h1, h2⟩ := binInt_sound (P := P) (t := t) h hob
    exact ⟨v, lift v (fun _ => by first | exact guard_int _ | exact guard_bool _ | exact guard_str _) h1, h2⟩
 ·rename_i a b
  obtain rfl := za1.1 hx
  obtain rfl := za1.1 hy
  split at h
  ·rename_i hu
   obtain ⟨v, h1, h2⟩ := binBool_sound hu h
   exact ⟨v, lift v (fun _ => by first | exact guard_int _ | exact guard_bool _ | exact guard_str _) h1, h2⟩
  ·cases h
 ·rename_i a b
  obtain ⟨rfl, _⟩ := za2.1 hx
  obtain ⟨rfl, _⟩ := za2.1 hy
  obtain ⟨v, h1, h2⟩ := binStr_sound (P := P) (t := t) h hob
  exact ⟨v, lift v (fun _ => by first | exact guard_int _ | exact guard_bool _ | exact guard_str _) h1, h2⟩
 ·rename_i s1 s2 a
  split at h
  ·rename_i b u hb hu
   have hy1 := TV.as_some hb
   subst hy1
   have e : ∀ w2 : World, (u.beq (.pair s1 s2) && eqOK P 16 t && !(P.eqGuardType P.depth t)) = true -> (Op.equalIn 10000 t vx vy).run P w2 = .ok (eqEl (.pair s1 s2) a b) w2 := by
    intro w2 hh
    simp only [Bool.and_eq_true] at hh
    have := Ty.eq_of_beq hh.1.1
    subst this
    exact eq_sound dep t _ hu 16 hh.1.2 10000 (by decide) w w w2 M M vx vy a b hx hy
   obtain ⟨c, rfl, _⟩ := (za4 (t := .pair s1 s2) rfl).1 hx
   obtain ⟨c', rfl, _⟩ := (za4 (t := .pair s1 s2) rfl).1 hy
   split at h
   ·rename_i hh
    cases h
    refine ⟨.bool (eqEl (.pair s1 s2) a b), lift _ (fun w2 => ?_) (fun w2 => ?_), fun _ _ => za1.2 rfl⟩
    ·simp only [Bool.and_eq_true, Bool.not_eq_true'] at hh
     exact run_eqGuard_agg w2 .eql t ox oy c.toArray c'.toArray hh.2
    ·rw [run_eql_struct, e w2 hh]
     rfl
   ·rename_i hh
    cases h
    refine ⟨.bool (!eqEl (.pair s1 s2) a b), lift _ (fun w2 => ?_) (fun w2 => ?_), fun _ _ => za1.2 rfl⟩
    ·simp only [Bool.and_eq_true, Bool.not_eq_true'] at hh
     exact run_eqGuard_agg w2 .neq t ox oy c.toArray c'.toArray hh.2
    ·rw [run_neq_struct, e w2 hh]
     rfl
   ·cases h
  ·cases h
 ·rename_i n1 s1 a
  split at h
  ·rename_i b u hb hu
   have hy1 := TV.as_some hb
   subst hy1
   have e : ∀ w2 : World, (u.beq (.arr n1 s1) && eqOK P 16 t && !(P.eqGuardType P.depth t)) = true -> (Op.equalIn 10000 t vx vy).run P w2 = .ok (eqEl (.arr n1 s1) a b) w2 := by
    intro w2 hh
    simp only [Bool.and_eq_true] at hh
    have := Ty.eq_of_beq hh.1.1
    subst this
    exact eq_sound dep t _ hu 16 hh.1.2 10000 (by decide) w w w2 M M vx vy a b hx hy
   obtain ⟨c, rfl, _⟩ := (za4 (t := .arr n1 s1) rfl).1 hx
   obtain ⟨c', rfl, _⟩ := (za4 (t := .arr n1 s1) rfl).1 hy
   split at h
   ·rename_i hh
    cases h
    refine ⟨.bool (eqEl (.arr n1 s1) a b), lift _ (fun w2 => ?_) (fun w2 => ?_), fun _ _ => za1.2 rfl⟩
    ·simp only [Bool.and_eq_true, Bool.not_eq_true'] at hh
     exact run_eqGuard_agg w2 .eql t ox oy c.toArray c'.toArray hh.2
    ·rw [run_eql_struct, e w2 hh]
     rfl
   ·rename_i hh
    cases h
    refine ⟨.bool (!eqEl (.arr n1 s1) a b), lift _ (fun w2 => ?_) (fun w2 => ?_), fun _ _ => za1.2 rfl⟩
    ·simp only [Bool.and_eq_true, Bool.not_eq_true'] at hh
     exact run_eqGuard_agg w2 .neq t ox oy c.toArray c'.toArray hh.2
    ·rw [run_neq_struct, e w2 hh]
     rfl
   ·cases h
  ·cases h
 ·cases h
def negI (k : IntKind) (n : Int) : Int := k.wrap (0 - n)
def un (op : UnOp) (x : TV) : Option TV :=
 match op, x with
 | .not, ⟨.bool, b⟩ => some ⟨.bool, !b⟩
 | .neg, ⟨.int k, n⟩ => some ⟨.int k, negI k n⟩
 | _, _ => none
theorem un_sound {op : UnOp} {x r : TV} {vx : Value} (hx : repV w M vx x.t x.x) (h : un op x = some r) : ∃ v, Gives P (Op.unary op vx) v /\ ∀ w M, repV w M v r.t r.x := by
 unfold un at h
 split at h
 ·obtain rfl := za1.1 hx
  cases h
  exact ⟨_, fun w => by simp [Op.unary], fun _ _ => za1.2 rfl⟩
 ·obtain rfl := za0.1 hx
  cases h
  exact ⟨_, fun w => rfl, fun _ _ => za0.2 rfl⟩
 ·cases h
def conv (P : Program) (src dst : TypeId) (x : TV) : Option TV :=
 match x, P.underlying src, P.underlying dst with
 | ⟨.int _, n⟩, some _, some (.int k) => some ⟨.int k, k.wrap n⟩
 | ⟨.int _, n⟩, some _, some .string => some ⟨.str, (Utf8.encode n).data.toList⟩
 | ⟨.str, s⟩, some .string, some .string => some ⟨.str, s⟩
 | _, _, _ => none
theorem encode_len (n : Int) : (Utf8.encode n).data.toList.length <= maxLen := by
 have : (Utf8.encode n).data.toList.length <= 4 := by
  unfold Utf8.encode
  dsimp only
  repeat' split
  all_goals simp
 exact Nat.le_trans this (by decide)
theorem conv_sound {src dst : TypeId} {x r : TV} {vx : Value} (hx : repV w M vx x.t x.x) (h : conv P src dst x = some r) : ∃ v, Gives P (convert src dst vx) v /\ ∀ w M, repV w M v r.t r.x := by
 unfold conv at h
 split at h
 ·rename_i k0 n d k hs hd
  obtain rfl := za0.1 hx
  cases h
  exact ⟨_, fun w => by simp [convert, run_underlying hs, run_underlying hd, Conv.intToInt], fun _ _ => za0.2 rfl⟩
 ·rename_i k0 n d hs hd
  obtain rfl := za0.1 hx
  cases h
  refine ⟨.string (Utf8.encode n), fun w => ?_, fun _ _ => za2.2 ⟨?_, encode_len n⟩⟩
  ·simp [convert, run_underlying hs, run_underlying hd, Conv.intToString]
  ·congr 1
 ·rename_i s hs hd
  obtain ⟨rfl, hl⟩ := za2.1 hx
  cases h
  exact ⟨_, fun w => by simp [convert, run_underlying hs, run_underlying hd], fun _ _ => za2.2 ⟨rfl, hl⟩⟩
 ·cases h
end Go.Ev
namespace Go.Ev
open Go Go.RowKit
variable [Dr]
def constSV : Value -> Option SV
 | .bool b => some (.val .bool b)
 | .int k n => some (.val (.int k) n)
 | .string s => bif Nat.ble s.data.toList.length maxLen then some (.val .str s.data.toList) else none
 | .nilIface => some (.val .err none)
 | .pointer none => some .any
 | .nilFunc => some .any
 | _ => none
def getSV (st : St) : Operand -> Option SV
 | .tmp t => look st.sl t
 | .const v => constSV v
 | .func f => some (.clos f [])
 | .global _ => none
def getTV (st : St) (x : Operand) : Option TV :=
 match getSV st x with
 | some (.val t x) => some ⟨t, x⟩
 | _ => none
variable {cx : Cx} {m : Nat -> Value} {st : St} {T : Array Value} {w w' : World}
theorem eval_tmp {t : Nat} {v : Value} (h : T[t]? = some v) : (Act.eval ⟨T, []⟩ (.tmp t)) = v := by
 show T.getD t undef = v
 rw [Array.getD_eq_getD_getElem?, h]
 rfl
theorem za6 (h : Rm cx m st T w) {x : Operand} {s : SV} (hs : getSV st x = some s) : repS w (Mut cx m st.ids) m (Act.eval ⟨T, []⟩ x) s := by
 cases x with
 | tmp t =>
  obtain ⟨v, h1, h2⟩ := h.slots t s (zak hs)
  rw [eval_tmp h1]
  exact h2
 | const v =>
  cases v <;> simp only [getSV, constSV] at hs
  case bool b => cases hs; exact za1.2 rfl
  case int k n => cases hs; exact za0.2 rfl
  case pointer p => cases p with
   | none => cases hs; exact trivial
   | some a => cases hs
  case nilFunc => cases hs; exact trivial
  case nilIface => cases hs; exact (za3 (t := .err) rfl).2 (.inl ⟨rfl, rfl⟩)
  case string s' =>
   cases hl : Nat.ble s'.data.toList.length maxLen with
   | false => rw [hl] at hs; cases hs
   | true =>
    rw [hl] at hs
    cases hs
    exact za2.2 ⟨by cases s'; simp [Act.eval], Nat.le_of_ble_eq_true hl⟩
  all_goals cases hs
 | func f => cases hs; rfl
 | global g => cases hs
theorem za7 (h : Rm cx m st T w) {x : Operand} {u : TV} (hs : getTV st x = some u) : repV w (Mut cx m st.ids) (Act.eval ⟨T, []⟩ x) u.t u.x := by
 unfold getTV at hs
 split at hs
 ·rename_i t y hy
  cases hs
  exact za6 h hy
 ·cases hs
def thaw (st : St) : SV -> SV
 | .row r => match look st.rw r with
  | some c => .val (.sl c.t) c.xs
  | none => .row r
 | .iter b => match look st.bx b with
  | some (.mp k v ps) => .val (.map k v) (some ps)
  | _ => .iter b
 | s => s
theorem thaw_sound (h : Rm cx m st T w) {v : Value} {s : SV} (hv : repS w (Mut cx m st.ids) m v s) : repS w (fun _ => False) m v (thaw st s) := by
 have k1 : ∀ b, b < w.heap.size -> ¬ Mut cx m st.ids b -> w.heap[b]? = w.heap[b]? := fun _ _ _ => rfl
 have k2 : ∀ b, b < w.heap.size -> False -> Mut cx m st.ids b := fun _ _ h => h.elim
 have hv' := zap (M' := fun _ => False) k1 k2 hv
 cases s with
 | row r =>
  simp only [thaw]
  split
  ·rename_i c hc
   have e : v = m r := hv
   rw [e]
   exact (za3 (t := .sl c.t) rfl).2 (h.row_val (zak hc) (fun b _ hb => hb.elim) fun g _ hb => hb)
  ·exact hv'
 | iter b =>
  simp only [thaw]
  split
  ·rename_i k v' ps hc
   have e : v = m b := hv
   obtain ⟨g, e1, _, es, clock, h1, h2, h3, h4⟩ := h.box (zak hc)
   rw [e]
   exact (za3 (t := .map k v') rfl).2 ⟨g, es, clock, by rw [e1]; rfl, h1, fun h => h.elim, h2, h3, zac (fun _ _ h => zaj k1 k2 h) (fun _ _ h => zaj k1 k2 h) h4⟩
  ·exact hv'
 | _ => exact hv'
def at? {α : Type} (xs : List α) (i : Int) : Option α := if 0 <= i then xs[i.toNat]? else none
def byteAt (s : List UInt8) (i : Int) : Option Int := match at? s i with
 | some b => some (b.toNat : Int)
 | none => none
theorem at?_some {α : Type} {xs : List α} {i : Int} {x : α} (h : at? xs i = some x) : 0 <= i /\ i < xs.length /\ xs[i.toNat]? = some x := by
 unfold at? at h
 split at h
 ·rename_i hi
  have := (List.getElem?_eq_some_iff.1 h).1
  exact ⟨hi, by omega, h⟩
 ·cases h
def sub? {α : Type} (s : List α) (lo hi : Int) : Option (List α) := if 0 <= lo /\ lo <= hi /\ hi <= s.length then some ((s.take hi.toNat).drop lo.toNat) else none
theorem sub?_some {α : Type} {s r : List α} {lo hi : Int} (h : sub? s lo hi = some r) : 0 <= lo /\ lo <= hi /\ hi <= s.length /\ r = (s.take hi.toNat).drop lo.toNat := by
 unfold sub? at h
 split at h
 ·rename_i hc; cases h; exact ⟨hc.1, hc.2.1, hc.2.2, rfl⟩
 ·cases h
def Steady (P : Program) (w : World) (s : Sem Value) (v : Value) : Prop := ∀ w', Ext w w' -> s.run P w' = .ok v w'
theorem Gives.steady {P : Program} {s : Sem Value} {v : Value} (h : Gives P s v) : Steady P w s v := fun w' _ => h w'
def za8 (xs : List Int) : List UInt8 := xs.map fun n => UInt8.ofNat n.toNat
def za9 (xs : List Int) : List UInt8 := (runesBytes xs).data.toList
def runesAt (s : List UInt8) : Nat -> Nat -> List Int
 | 0, _ => []
 | n + 1, i => if i < s.length then ((Utf8.decode (bytesOf s) i).1 : Int) :: runesAt s n (i + (Utf8.decode (bytesOf s) i).2) else []
def zba (s : List UInt8) : List Int := runesAt s s.length 0
theorem repL_ints {w : World} {M : Nat -> Prop} {k : IntKind} : ∀ {xs : List Int} {cs : List Value}, repL (rep w M (.int k)) cs xs -> cs = xs.map (Value.int k)
 | [], _, h => h
 | x :: xs, _, ⟨c1, c2, e, h1, h2⟩ => by
  have h1 : c1 = [.int k x] := h1
  rw [e, h1, repL_ints h2]
  rfl
theorem foldl_push : ∀ (l : List Int) (r : ByteArray), l.foldl (fun r n => r.push (UInt8.ofNat n.toNat)) r = ⟨r.data ++ (za8 l).toArray⟩
 | [], r => by simp [za8]
 | b :: l, r => by
  simp only [List.foldl_cons]
  rw [foldl_push l]
  simp [ByteArray.push, za8]
theorem conv_bytes {P : Program} {src dst e : TypeId} (hs : P.underlying src = some (.slice e)) (he : P.underlying e = some (.int .u8)) (hd : P.underlying dst = some .string) {v : Value} {xs : List Int} (hv : repV w (fun _ => False) v (.sl (.int .u8)) xs) :
  Steady P w (convert src dst v) (.string (bytesOf (za8 xs))) /\ (za8 xs).length <= maxLen := by
 obtain ⟨a, cap, cells, hc, hcap, hmax, hnil, hL, hcell⟩ : ∃ (a : Option Addr) (cap : Nat) (cells : List Value), [v] = [.slice a (List.length (α := Int) xs) cap] /\ List.length (α := Int) xs <= cap /\ cap <= maxLen /\ (a = none -> cap = 0) /\
  repL (rep w (fun _ => False) (.int .u8)) cells xs /\ ∀ j u, cells[j]? = some u -> ∃ b, a = some b /\ w.cell? (b.add j) = some u /\ ¬ False := (za3 (t := .sl (.int .u8)) rfl).1 hv
 clear hv
 simp only [List.cons.injEq, and_true] at hc
 subst hc
 have hce := repL_ints hL
 subst hce
 refine ⟨fun w' hw => ?_, by unfold za8; rw [List.length_map]; exact Nat.le_trans hcap hmax⟩
 rw [run_convert_bytes_string w' src dst e a _ _ hs he hd]
 cases a with
 | none =>
  have h0 := hnil rfl
  have hx : xs = [] := List.eq_nil_of_length_eq_zero (by omega)
  subst hx
  rfl
 | some b =>
  have hl := run_loadCells_list (P := P) w' b (xs.map (Value.int .u8)) (fun j u hj => by
   obtain ⟨b', hb, hcl, _⟩ := hcell j u hj
   cases hb
   rw [World.cell?_of_block (w := w) (hw.block _ (World.block_lt_of_cell? w _ hcl))]
   exact hcl)
  rw [List.length_map] at hl
  rw [run_bytesToString w' b xs.length cap xs hl, foldl_push]
  have he0 : ByteArray.empty.data = #[] := rfl
  rw [he0]
  simp [bytesOf]
theorem conv_runes {P : Program} {src dst e : TypeId} (hs : P.underlying src = some (.slice e)) (he : P.underlying e = some (.int .i32)) (hd : P.underlying dst = some .string) {v : Value} {xs : List Int} (hv : repV w (fun _ => False) v (.sl (.int .i32)) xs) :
  Steady P w (convert src dst v) (.string (bytesOf (za9 xs))) := by
 obtain ⟨a, cap, cells, hc, hcap, hmax, hnil, hL, hcell⟩ : ∃ (a : Option Addr) (cap : Nat) (cells : List Value), [v] = [.slice a (List.length (α := Int) xs) cap] /\ List.length (α := Int) xs <= cap /\ cap <= maxLen /\ (a = none -> cap = 0) /\
  repL (rep w (fun _ => False) (.int .i32)) cells xs /\ ∀ j u, cells[j]? = some u -> ∃ b, a = some b /\ w.cell? (b.add j) = some u /\ ¬ False := (za3 (t := .sl (.int .i32)) rfl).1 hv
 clear hv
 simp only [List.cons.injEq, and_true] at hc
 subst hc
 have hce := repL_ints hL
 subst hce
 intro w' hw
 have hb : bytesOf (za9 xs) = runesBytes xs := by unfold bytesOf za9; simp
 rw [hb]
 cases a with
 | none =>
  have h0 := hnil rfl
  have hx : xs = [] := List.eq_nil_of_length_eq_zero (by omega)
  subst hx
  rw [run_convert_runes_nil w' src dst e _ _ hs he hd]
  rfl
 | some b =>
  rw [run_convert_runes w' src dst e b xs.length cap xs (Nat.le_refl _) hs he hd (fun j hj => ?_), List.take_length]
  obtain ⟨b', hb', hcl, _⟩ := hcell j (.int .i32 (xs.getD j 0)) (by rw [List.getElem?_map, List.getElem?_eq_getElem hj]; simp [List.getD_eq_getElem?_getD, hj])
  cases hb'
  rw [World.cell?_of_block (w := w) (hw.block _ (World.block_lt_of_cell? w _ hcl))]
  exact hcl
theorem runesFrom_list (s : List UInt8) : ∀ (n i : Nat) (acc : Array Value), Conv.runesFrom (bytesOf s) n i acc = acc ++ ((runesAt s n i).map (Value.int .i32)).toArray
 | 0, _, acc => by simp [Conv.runesFrom, runesAt]
 | n + 1, i, acc => by
  unfold Conv.runesFrom runesAt
  rw [za5]
  split
  ·simp only []
   rw [runesFrom_list s n]
   simp
  ·simp
theorem runesAt_length (s : List UInt8) : ∀ (n i : Nat), (runesAt s n i).length <= n
 | 0, _ => by simp [runesAt]
 | n + 1, i => by
  unfold runesAt
  split
  ·have := runesAt_length s n (i + (Utf8.decode (bytesOf s) i).2); simp only [List.length_cons]; omega
  ·simp
theorem add_zero (a : Addr) : a.add 0 = a := by simp [Addr.add]
theorem add_add (a : Addr) (i j : Nat) : (a.add i).add j = a.add (i + j) := by
 unfold Addr.add
 by_cases hi : i = 0 <;> by_cases hj : j = 0 <;> simp [hi, hj, Nat.add_assoc]
theorem add_mk (g o n : Nat) : (⟨g, o, none⟩ : Addr).add n = ⟨g, o + n, none⟩ := by
 unfold Addr.add
 split
 ·rename_i h; simp [h]
 ·rfl
def Holds (w : World) (M : Nat -> Prop) (a : Addr) (t : Ty) (x : t.el) : Prop := ∃ cells, rep w M t cells x /\ ∀ j u, cells[j]? = some u -> w.cell? (a.add j) = some u /\ ¬ M a.block
theorem Holds.part {M : Nat -> Prop} {a : Addr} {t : Ty} {x : t.el} (h : Holds w M a t x) {off : Nat} {u : Ty} {y : u.el} (hg : getT t x off u = some y) : Holds w M (a.add off) u y := by
 obtain ⟨cells, h1, h2⟩ := h
 obtain ⟨c1, c2, c3, rfl, hl, hr⟩ := getT_rep t h1 hg
 refine ⟨c2, hr, fun j v hj => ?_⟩
 have hj2 := (List.getElem?_eq_some_iff.1 hj).1
 have hk : (c1 ++ c2 ++ c3)[off + j]? = some v := by
  rw [List.append_assoc, List.getElem?_append_right (by omega), List.getElem?_append_left (by omega), <- hj]
  congr 1
  omega
 obtain ⟨h3, h4⟩ := h2 _ _ hk
 exact ⟨by rw [add_add]; exact h3, by rw [zae]; exact h4⟩
theorem run_cells {P : Program} {w : World} {a : Addr} {cells : List Value} (h : ∀ j u, cells[j]? = some u -> w.cell? (a.add j) = some u) : (loadCells a cells.length).run P w = .ok cells.toArray w :=
 run_loadCells_list (P := P) w a cells h
theorem load_sound {P : Program} {a : Addr} {M : Nat -> Prop} {tid d : Nat} {t : Ty} {x : t.el} (ht : tyOf P d tid = some t) (h : Holds w M a t x) (hp : 0 < t.cells) :
  ∃ v, Steady P w (loadVar tid a) v /\ repV w M v t x := by
 obtain ⟨cells, h1, h2⟩ := h
 have hl := zag t h1
 have hcell : ∀ w', Ext w w' -> ∀ j u, cells[j]? = some u -> w'.cell? (a.add j) = some u := by
  intro w' he j u hj
  have hc := (h2 j u hj).1
  rw [World.cell?_of_block (w := w) (he.block _ (World.block_lt_of_cell? w _ hc))]
  exact hc
 cases hag : t.agg with
 | true =>
  refine ⟨.agg cells.toArray, fun w' he => ?_, (za4 hag).2 ⟨cells, rfl, h1⟩⟩
  unfold loadVar
  rw [Sem.run_bind, ty_isAgg ht, hag]
  simp only [Result.andThen_ok, if_true, Sem.run_bind, zaw ht]
  rw [<- hl, run_cells (hcell w' he)]
  rfl
 | false =>
  have h1c : t.cells = 1 := by cases t <;> first | rfl | (simp [Ty.agg] at hag)
  match cells, hl with
  | [c], _ =>
   refine ⟨c, fun w' he => ?_, (za3 hag).2 h1⟩
   have hc := hcell w' he 0 c rfl
   rw [add_zero] at hc
   unfold loadVar
   rw [Sem.run_bind, ty_isAgg ht, hag]
   simp only [Result.andThen_ok, Bool.false_eq_true, if_false]
   simp [load, Sem.run, hc]
  | [], hl => simp at hl; omega
  | _ :: _ :: _, hl => simp at hl; omega
def zbb (P : Program) (s : TypeId) (f : Nat) : Option (Nat × Ty) :=
 match P.underlying s with
 | some (.struct fs) => match fs[f]? with
  | some fd => match ty P fd.type with
   | some u => bif Nat.beq u.cells 0 then none else some (fd.offset, u)
   | none => none
  | none => none
 | _ => none
theorem fieldInfo_facts {P : Program} {s : TypeId} {f off : Nat} {u : Ty} (h : zbb P s f = some (off, u)) :
  ∃ fs fd, P.underlying s = some (.struct fs) /\ fs[f]? = some fd /\ ty P fd.type = some u /\ fd.offset = off /\ 0 < u.cells := by
 unfold zbb at h
 split at h
 ·rename_i fs hu
  split at h
  ·rename_i fd hf
   split at h
   ·rename_i u' hy
    cases hb : Nat.beq u'.cells 0 with
    | true => rw [hb] at h; cases h
    | false =>
     rw [hb] at h
     cases h
     exact ⟨fs, fd, hu, hf, hy, rfl, Nat.pos_of_ne_zero (zao hb)⟩
   ·cases h
  ·cases h
 ·cases h
theorem zbc {P : Program} {s : TypeId} {f off : Nat} {u : Ty} (h : zbb P s f = some (off, u)) (a : Addr) (w : World) :
  (Instr.fieldAt s (.pointer (some a)) f).run P w = .ok (.pointer (some (a.add off))) w := by
 obtain ⟨fs, fd, hu, hf, hy, rfl, hp⟩ := fieldInfo_facts h
 have hz : ¬ u.cells = 0 := by omega
 simp only [Instr.fieldAt, Sem.run_bind, run_underlying hu, Result.andThen_ok, hf, Instr.sureAddr, Sem.run_pure, fieldPlace, zaw hy, if_neg hz]
theorem field_run {P : Program} {s : TypeId} {f off : Nat} {u : Ty} (h : zbb P s f = some (off, u)) {M : Nat -> Prop} {t : Ty} {x : t.el} {v : Value} (hag : t.agg = true) (hv : repV w M v t x) {y : u.el} (hg : getT t x off u = some y) :
  ∃ r, Gives P (Instr.field s v f) r /\ repV w M r u y := by
 obtain ⟨fs, fd, hu, hf, hy, rfl, hp⟩ := fieldInfo_facts h
 obtain ⟨cs, rfl, hr⟩ := (za4 hag).1 hv
 obtain ⟨c1, c2, c3, rfl, hl, hr2⟩ := getT_rep t hr hg
 have hl2 := zag u hr2
 cases hua : u.agg with
 | true =>
  refine ⟨.agg c2.toArray, fun w' => ?_, (za4 hua).2 ⟨c2, rfl, hr2⟩⟩
  simp only [Instr.field, Sem.run_bind, run_underlying hu, Result.andThen_ok, hf, asAgg, Sem.run_pure, part, ty_isAgg hy, hua, if_true, zaw hy]
  congr 2
  apply Array.ext'
  rw [Array.toList_extract, List.extract_eq_take_drop, <- hl, <- hl2]
  simp
 | false =>
  have h1c : u.cells = 1 := by cases u <;> first | rfl | (simp [Ty.agg] at hua)
  match c2, hl2 with
  | [c], _ =>
   refine ⟨c, fun w' => ?_, (za3 hua).2 hr2⟩
   have hk : (c1 ++ [c] ++ c3).toArray[fd.offset]? = some c := by
    rw [List.getElem?_toArray, <- hl]; simp
   simp only [Instr.field, Sem.run_bind, run_underlying hu, Result.andThen_ok, hf, asAgg, Sem.run_pure, part, ty_isAgg hy, hua, Bool.false_eq_true, if_false, hk]
  | [], hl2 => simp at hl2; omega
  | _ :: _ :: _, hl2 => simp at hl2; omega
end Go.Ev
namespace Go.Ev
open Go Go.RowKit
variable [Dr]
variable {P : Program} {w w' : World} {M M' : Nat -> Prop}
theorem repL_det {α : Type} {f g : List Value -> α -> Prop} (h : ∀ c c' x, f c x -> g c' x -> c = c') : ∀ {xs : List α} {cs cs' : List Value}, repL f cs xs -> repL g cs' xs -> cs = cs'
 | [], _, _, h1, h2 => by cases h1; cases h2; rfl
 | _ :: _, _, _, ⟨a, b, e1, h1, h2⟩, ⟨c, d, e2, h3, h4⟩ => by rw [e1, e2, h _ _ _ h1 h3, repL_det h h2 h4]
theorem flat_det {w w' : World} {M M' : Nat -> Prop} : ∀ (t : Ty) {cs cs' : List Value} {x : t.el}, t.flat = true -> rep w M t cs x -> rep w' M' t cs' x -> cs = cs' := by
 intro t
 induction t with
 | int k => intro cs cs' x _ h h'; rw [h, h']
 | bool => intro cs cs' x _ h h'; rw [h, h']
 | str => intro cs cs' x _ h h'; rw [h.1, h'.1]
 | unit => intro cs cs' x _ h h'; rw [h, h']
 | pair a b iha ihb =>
  rintro cs cs' x hf ⟨c1, c2, rfl, h1, h2⟩ ⟨d1, d2, rfl, h3, h4⟩
  simp only [Ty.flat, Bool.and_eq_true] at hf
  rw [iha hf.1 h1 h3, ihb hf.2 h2 h4]
 | sl t ih => intro cs cs' x hf; simp [Ty.flat] at hf
 | ptr t ih => intro cs cs' x hf; simp [Ty.flat] at hf
 | fn f t ih => intro cs cs' x hf; simp [Ty.flat] at hf
 | err => intro cs cs' x hf; simp [Ty.flat] at hf
 | opq => intro cs cs' x hf; simp [Ty.flat] at hf
 | map k v _ _ => intro cs cs' x hf; simp [Ty.flat] at hf
 | arr n t ih => intro cs cs' x hf h h'; exact repL_det (f := rep w M t) (g := rep w' M' t) (fun _ _ _ h1 h2 => ih hf h1 h2) h.2 h'.2
theorem flat_detV {w w' : World} {M M' : Nat -> Prop} {t : Ty} {v v' : Value} {x : t.el} (hf : t.flat = true) (h : repV w M v t x) (h' : repV w' M' v' t x) : v = v' := by
 cases hag : t.agg with
 | true =>
  obtain ⟨cs, rfl, h1⟩ := (za4 hag).1 h
  obtain ⟨cs', rfl, h2⟩ := (za4 hag).1 h'
  rw [flat_det t hf h1 h2]
 | false =>
  have := flat_det t hf ((za3 hag).1 h) ((za3 hag).1 h')
  simpa using this
theorem indexAt_arr {P : Program} {t e : TypeId} {len d : Nat} {u : Ty} {n : Int} {k : IntKind} {a : Addr} (hu : P.underlying t = some (.array len e)) (hu' : tyOf P d e = some u) (h0 : 0 <= n) (h1 : n < (len : Int)) (w' : World) :
  (Instr.indexAt t (.pointer (some a)) (.int k n)).run P w' = .ok (.pointer (some (a.add (n.toNat * u.cells)))) w' := by
 simp only [Instr.indexAt, asIntOf, Sem.run_bind, Sem.run_pure, Result.andThen_ok, run_underlying hu, Instr.sureAddr]
 rw [if_pos ⟨h0, h1⟩]
 simp only [Sem.run_bind, zaw hu', Result.andThen_ok, Sem.run_pure]
theorem part_all {P : Program} {w : World} {M : Nat -> Prop} {d : Nat} {t : TypeId} {u : Ty} (ht : tyOf P d t = some u) {pre c post : List Value} {x : u.el} (hr : rep w M u c x) :
  ∃ v, (∀ w2, (part t (pre ++ c ++ post).toArray pre.length).run P w2 = .ok v w2) /\ repV w M v u x := by
 obtain ⟨v, h1, h2⟩ := part_run (P := P) ht (pre := pre) (post := post) hr w
 refine ⟨v, fun w2 => ?_, h2⟩
 have hl := zag u hr
 cases hag : u.agg with
 | true =>
  unfold part at h1 ⊢
  rw [Sem.run_bind, ty_isAgg ht, hag] at h1 ⊢
  simp only [Result.andThen_ok, if_true, Sem.run_bind, zaw ht, Sem.run_pure] at h1 ⊢
  injection h1 with h1
  rw [h1]
 | false =>
  unfold part at h1 ⊢
  rw [Sem.run_bind, ty_isAgg ht, hag] at h1 ⊢
  simp only [Result.andThen_ok, Bool.false_eq_true, if_false] at h1 ⊢
  have h1c : u.cells = 1 := by cases u <;> first | rfl | (simp [Ty.agg] at hag)
  rw [h1c] at hl
  match c, hl with
  | [v0], _ =>
   have e : (pre ++ [v0] ++ post).toArray[pre.length]? = some v0 := by simp
   rw [e] at h1 ⊢
   have : v0 = v := by
    have h3 : (pure v0 : Sem Value).run P w = .ok v w := h1
    rw [Sem.run_pure] at h3
    injection h3
   rw [<- this]
   rfl
def zeroOf (P : Program) (t : TypeId) : Option Ty :=
 match ty P t, P.info? t with
 | some u, some i => match i.zero with
  | some z => match zeroChk u z.cells.toList with
   | some [] => some u
   | _ => none
  | none => none
 | _, _ => none
theorem zbd {P : Program} {t : TypeId} {u : Ty} (h : zeroOf P t = some u) : ∃ i z, ty P t = some u /\ P.info? t = some i /\ i.size = u.cells /\ i.zero = some z /\ ∀ w M, rep w M u z.cells.toList (zeroEl u) := by
 unfold zeroOf at h
 split at h
 ·rename_i u' i hu hi
  split at h
  ·rename_i z hz
   split at h
   ·rename_i hc
    cases h
    obtain ⟨i', hi', hs, _⟩ := zav hu
    rw [hi] at hi'
    cases hi'
    refine ⟨i, z, hu, hi, hs, hz, fun w M => ?_⟩
    obtain ⟨c, hc', hr⟩ := zeroChk_rep (w := w) (M := M) u hc
    rw [hc', List.append_nil]
    exact hr
   ·cases h
  ·cases h
 ·cases h
/-! Parts by steps. -/
def getP : (t : Ty) -> t.el -> List PS -> List TV -> Option (TV × List TV × List Prop)
 | t, x, [], orc => some (⟨t, x⟩, orc, [])
 | t, x, .f off u :: p, orc => match getT t x off u with
  | some y => getP u y p orc
  | none => none
 | .arr _ u, xs, .x j sz :: p, v :: orc => match Nat.beq sz u.cells, v.as u with
  | true, some y => match getP u y p orc with
   | some (r, o, ob) => some (r, o, (at? (show List u.el from xs) j = some y) :: ob)
   | none => none
  | _, _ => none
 | _, _, .x _ _ :: _, _ => none
def setP : (t : Ty) -> t.el -> List PS -> List TV -> TV -> Option (t.el × List TV × List Prop)
 | t, _, [], orc, z => match z.as t with
  | some y => some (y, orc, [])
  | none => none
 | t, x, .f off u :: p, orc, z => match getT t x off u with
  | some y => match setP u y p orc z with
   | some (y', o, ob) => match setT t x off ⟨u, y'⟩ with
    | some x' => some (x', o, ob)
    | none => none
   | none => none
  | none => none
 | .arr _ u, xs, .x j sz :: p, v :: orc, z => match Nat.beq sz u.cells, v.as u with
  | true, some y => match setP u y p orc z with
   | some (y', o, ob) => some (List.set (show List u.el from xs) j.toNat y', o, (at? (show List u.el from xs) j = some y) :: ob)
   | none => none
  | _, _ => none
 | _, _, .x _ _ :: _, _, _ => none
theorem getP_rep : ∀ (p : List PS) (t : Ty) {cs : List Value} {x : t.el} {orc orc' : List TV} {r : TV} {ob : List Prop}, rep w M t cs x -> getP t x p orc = some (r, orc', ob) -> allP ob ->
  ∃ c1 c2 c3, cs = c1 ++ c2 ++ c3 /\ c1.length = poff p /\ rep w M r.t c2 r.x
 | [], t, cs, x, orc, orc', r, ob, h, hg, _ => by
  simp only [getP] at hg
  cases hg
  exact ⟨[], cs, [], by simp, rfl, h⟩
 | .f off u :: p, t, cs, x, orc, orc', r, ob, h, hg, hob => by
  simp only [getP] at hg
  split at hg
  ·rename_i y hy
   obtain ⟨c1, c2, c3, rfl, hl, h2⟩ := getT_rep t h hy
   obtain ⟨d1, d2, d3, rfl, hd, h3⟩ := getP_rep p u h2 hg hob
   exact ⟨c1 ++ d1, d2, d3 ++ c3, by simp, by rw [List.length_append, hl, hd]; rfl, h3⟩
  ·cases hg
 | .x j sz :: p, t, cs, x, orc, orc', r, ob, h, hg, hob => by
  cases t with
  | arr n u =>
   cases orc with
   | nil => simp [getP] at hg
   | cons v orc =>
    simp only [getP] at hg
    split at hg
    ·rename_i y hs hv
     split at hg
     ·rename_i r' o ob' hp
      cases hg
      obtain ⟨h0, h1, h2⟩ := at?_some hob.1
      obtain ⟨c1, c2, c3, rfl, hl, h3⟩ := repL_nth h.2 h2
      obtain ⟨d1, d2, d3, rfl, hd, h4⟩ := getP_rep p u h3 hp hob.2
      exact ⟨c1 ++ d1, d2, d3 ++ c3, by simp, by rw [List.length_append, hl, hd, <- Nat.eq_of_beq_eq_true hs]; rfl, h4⟩
     ·cases hg
    ·cases hg
  | _ => simp [getP] at hg
theorem setP_rep {z : TV} {vc : List Value} (hz : rep w M z.t vc z.x) : ∀ (p : List PS) (t : Ty) {cs : List Value} {x : t.el} {orc orc' : List TV} {y : t.el} {ob : List Prop}, rep w M t cs x -> setP t x p orc z = some (y, orc', ob) -> allP ob ->
  ∃ c1 c2 c3, cs = c1 ++ c2 ++ c3 /\ c1.length = poff p /\ c2.length = vc.length /\ rep w M t (c1 ++ vc ++ c3) y
 | [], t, cs, x, orc, orc', y, ob, h, hg, _ => by
  simp only [setP] at hg
  split at hg
  ·rename_i y' hy
   cases hg
   have e := TV.as_some hy
   subst e
   exact ⟨[], cs, [], by simp, rfl, by rw [zag t h, zag t hz], by simpa using hz⟩
  ·cases hg
 | .f off u :: p, t, cs, x, orc, orc', y, ob, h, hg, hob => by
  simp only [setP] at hg
  split at hg
  ·rename_i y0 hy0
   split at hg
   ·rename_i y1 o ob' hp
    split at hg
    ·rename_i x' hx'
     cases hg
     obtain ⟨c1, c2, c3, e, hl, h2⟩ := getT_rep t h hy0
     obtain ⟨d1, d2, d3, e2, hd, hd2, h3⟩ := setP_rep hz p u h2 hp hob
     obtain ⟨k1, k2, k3, e3, hk, hk2, h4⟩ := setT_rep (v := ⟨u, y1⟩) h3 t h hx'
     have hc2 : c2.length = (d1 ++ vc ++ d3).length := by rw [e2]; simp only [List.length_append, hd2]
     have e4 : k1 = c1 /\ k2 = c2 /\ k3 = c3 := by
      have e5 : k1 ++ (k2 ++ k3) = c1 ++ (c2 ++ c3) := by rw [<- List.append_assoc, <- List.append_assoc, <- e3, <- e]
      obtain ⟨a1, a2⟩ := List.append_inj e5 (by rw [hk, hl])
      obtain ⟨a3, a4⟩ := List.append_inj a2 (by rw [hk2, hc2])
      exact ⟨a1, a3, a4⟩
     obtain ⟨rfl, rfl, rfl⟩ := e4
     subst e2
     refine ⟨k1 ++ d1, d2, d3 ++ k3, by rw [e]; simp, by rw [List.length_append, hl, hd]; rfl, hd2, ?_⟩
     have : k1 ++ d1 ++ vc ++ (d3 ++ k3) = k1 ++ (d1 ++ vc ++ d3) ++ k3 := by simp
     rw [this]
     exact h4
    ·cases hg
   ·cases hg
  ·cases hg
 | .x j sz :: p, t, cs, x, orc, orc', y, ob, h, hg, hob => by
  cases t with
  | arr n u =>
   cases orc with
   | nil => simp [setP] at hg
   | cons v orc =>
    simp only [setP] at hg
    split at hg
    ·rename_i y0 hs hv
     split at hg
     ·rename_i y1 o ob' hp
      cases hg
      obtain ⟨h0, h1, h2⟩ := at?_some hob.1
      obtain ⟨c1, c2, c3, rfl, hl, h3, hset⟩ := repL_set h.2 h2
      obtain ⟨d1, d2, d3, rfl, hd, hd2, h4⟩ := setP_rep hz p u h3 hp hob.2
      refine ⟨c1 ++ d1, d2, d3 ++ c3, by simp, by rw [List.length_append, hl, hd, <- Nat.eq_of_beq_eq_true hs]; rfl, hd2, ?_, ?_⟩
      ·exact (@List.length_set _ (show List u.el from x) j.toNat y1).trans h.1
      ·have := hset _ _ h4
       simpa using this
     ·cases hg
    ·cases hg
  | _ => simp [setP] at hg
def hasArr : Ty -> Bool
 | .arr _ _ => true
 | .pair a b => hasArr a || hasArr b
 | _ => false
def formOf (z : Value) (u : Ty) : Bool :=
 match z with
 | .agg _ => u.agg
 | _ => !u.agg
def zeroV (P : Program) (t : TypeId) : Option Ty :=
 match zeroOf P t, P.info? t with
 | some u, some i => match i.zero with
  | some z => bif formOf z u then some u else none
  | none => none
 | _, _ => none
theorem zeroV_facts {P : Program} {t : TypeId} {u : Ty} (h : zeroV P t = some u) : ∃ z, ty P t = some u /\ (∀ w, (zeroValue t).run P w = .ok z w) /\ ∀ w M, repV w M z u (zeroEl u) := by
 unfold zeroV at h
 split at h
 ·rename_i u' i hu hi
  split at h
  ·rename_i z hz
   cases hf : formOf z u' <;> rw [hf] at h <;> cases h
   obtain ⟨i', z', hty, hi', _, hz', hr⟩ := zbd hu
   have e1 : i' = i := by rw [hi] at hi'; cases hi'; rfl
   subst e1
   have e2 : z' = z := by rw [hz] at hz'; cases hz'; rfl
   subst e2
   refine ⟨z', hty, fun w => by simp [zeroValue, typeInfo, hi, hz], fun w M => ?_⟩
   have h1 := hr w M
   cases hag : u.agg with
   | true =>
    cases z' <;> simp only [formOf, hag, Bool.not_true, Bool.false_eq_true] at hf
    rename_i cs
    exact (za4 hag).2 ⟨cs.toList, by simp, h1⟩
   | false =>
    refine (za3 hag).2 ?_
    cases z' <;> first | exact h1 | (simp [formOf, hag] at hf)
  ·cases h
 ·cases h
def mget {α β : Type} (eq : α -> α -> Bool) : List (α × β) -> α -> Option β
 | [], _ => none
 | p :: ps, k => if eq k p.1 then some p.2 else mget eq ps k
def mset {α β : Type} (eq : α -> α -> Bool) : List (α × β) -> α -> β -> List (α × β)
 | [], k, v => [(k, v)]
 | p :: ps, k, v => if eq k p.1 then (k, v) :: ps else p :: mset eq ps k v
theorem eqL_eq {α : Type} {f : α -> α -> Bool} (h : ∀ x y, f x y = true -> x = y) : ∀ {xs ys : List α}, eqL f xs ys = true -> xs = ys
 | [], [], _ => rfl
 | [], _ :: _, hh => by cases hh
 | _ :: _, [], hh => by cases hh
 | x :: xs, y :: ys, hh => by
  simp only [eqL, Bool.and_eq_true] at hh
  rw [h x y hh.1, eqL_eq h hh.2]
theorem eqEl_eq : ∀ (t : Ty) {x y : t.el}, eqEl t x y = true -> x = y := by
 intro t
 induction t with
 | int k => intro x y h; exact eq_of_beq (α := Int) h
 | bool => intro x y h; exact eq_of_beq (α := Bool) h
 | str => intro x y h; exact eq_of_beq (α := List UInt8) h
 | unit => intro x y _; rfl
 | pair a b iha ihb =>
  intro x y h
  simp only [eqEl, Bool.and_eq_true] at h
  exact Prod.ext (iha h.1) (ihb h.2)
 | arr n t ih => intro x y h; exact eqL_eq (fun _ _ => ih) h
 | sl t _ => intro x y h; cases h
 | ptr t _ => intro x y h; cases h
 | fn f t _ => intro x y h; cases h
 | err => intro x y h; cases h
 | opq => intro x y h; cases h
 | map k v _ _ => intro x y h; cases h
theorem fields_parts {d : Nat} : ∀ (fs : List Field) (off : Nat) (u : Ty), fieldsOf (tyOf P d) off fs = some u -> ∀ (pre c : List Value) (x : u.el), pre.length = off -> rep w M u c x ->
  ∀ f ∈ fs, ∃ (a : Value) (uf : Ty) (xf : uf.el), tyOf P d f.type = some uf /\ (∀ w2, (part f.type (pre ++ c).toArray f.offset).run P w2 = .ok a w2) /\ repV w M a uf xf
 | [], off, u, h, pre, c, x, _, _, f, hf => by cases hf
 | fd :: fs, off, u, h, pre, c, x, h1, hc, f, hf => by
  unfold fieldsOf at h
  cases hb : Nat.beq fd.offset off with
  | false => rw [hb] at h; cases h
  | true =>
   have hoff := Nat.eq_of_beq_eq_true hb
   rw [hb, cond_true] at h
   split at h
   ·rename_i a ha
    split at h
    ·rename_i b hfs
     cases h
     obtain ⟨c1, c2, rfl, r1, r2⟩ := hc
     rcases List.mem_cons.1 hf with rfl | hf
     ·obtain ⟨v, e1, e2⟩ := part_all (P := P) ha (pre := pre) (post := c2) r1
      refine ⟨v, a, x.1, ha, fun w2 => ?_, e2⟩
      have := e1 w2
      rw [List.append_assoc, h1, <- hoff] at this
      exact this
     ·have := fields_parts fs (off + a.cells) b hfs (pre ++ c1) c2 x.2 (by rw [List.length_append, h1, zag a r1]) r2 f hf
      rw [List.append_assoc] at this
      exact this
    ·cases h
   ·cases h
theorem items_parts {d : Nat} {e : TypeId} {u : Ty} (ht : tyOf P d e = some u) {c : List Value} {xs : List u.el} (hc : repL (rep w M u) c xs) (j : Nat) (hj : j < xs.length) :
  ∃ (a : Value) (x : u.el), (∀ w2, (part e c.toArray (j * u.cells)).run P w2 = .ok a w2) /\ repV w M a u x := by
 obtain ⟨c1, c2, c3, rfl, hl, hr⟩ := repL_nth hc (List.getElem?_eq_getElem hj)
 obtain ⟨v, e1, e2⟩ := part_all (P := P) ht (pre := c1) (post := c3) hr
 exact ⟨v, _, fun w2 => by have := e1 w2; rw [hl] at this; exact this, e2⟩
theorem zbe (em : Bool) : ∀ (d : Nat) (t : TypeId) (u : Ty), tyOf P d t = some u -> ∀ d', eqOK P d' t = true -> ∀ D, d' <= D -> ∀ (w w2 : World) (M : Nat -> Prop) (v : Value) (x : u.el), repV w M v u x -> (Instr.checkKey em D t v).run P w2 = .ok () w2
 | 0, _, _, h => by cases h
 | d + 1, t, u, h => by
  intro d' hok D hD w w2 M v x hx
  cases d' with
  | zero => cases hok
  | succ d' =>
   obtain ⟨D, rfl⟩ : ∃ k, D = k + 1 := ⟨D - 1, by omega⟩
   have h0 := h
   unfold eqOK at hok
   unfold tyOf at h
   rw [Instr.checkKey]
   split at h
   ·rename_i i k hi hu
    cases hb : Nat.beq i.size 1 <;> rw [hb] at h <;> cases h
    obtain rfl := za0.1 hx
    simp [run_underlying hu]
   ·rename_i i hi hu
    cases hb : Nat.beq i.size 1 <;> rw [hb] at h <;> cases h
    obtain rfl := za1.1 hx
    simp [run_underlying hu]
   ·rename_i i hi hu
    cases hb : Nat.beq i.size 1 <;> rw [hb] at h <;> cases h
    obtain ⟨rfl, _⟩ := za2.1 hx
    simp [run_underlying hu]
   ·rename_i i e hi hu
    rw [hu] at hok
    cases hok
   ·rename_i i fs hi hu
    rw [hu] at hok
    simp only [Bool.and_eq_true, Bool.not_eq_true'] at hok
    split at h
    ·rename_i v0 hv0
     cases hb : Nat.beq i.size v0.cells <;> rw [hb] at h <;> cases h
     have hag := fieldsOf_agg hv0
     obtain ⟨c, rfl, hc⟩ := (za4 hag).1 hx
     simp only [Sem.run_bind, run_underlying hu, Result.andThen_ok]
     rw [<- Array.forIn_toList]
     have each : ∀ f ∈ fs.toList, ∃ a, f.name ≠ "_" /\ (∀ w2, (part f.type c.toArray f.offset).run P w2 = .ok a w2) /\ (Instr.checkKey em D f.type a).run P w2 = .ok () w2 := by
      intro f hf
      obtain ⟨a, uf, xf, h1, h2, h3⟩ := fields_parts fs.toList 0 u hv0 [] c x rfl hc f hf
      have h4 := List.all_eq_true.1 hok.2 f hf
      simp only [Bool.and_eq_true, bne_iff_ne, ne_eq] at h4
      exact ⟨a, h4.1, fun w2 => by have := h2 w2; simpa using this, zbe em d f.type uf h1 d' h4.2 D (by omega) w w2 M a xf h3⟩
     generalize fs.toList = L at each
     induction L with
     | nil => simp
     | cons f L ih =>
      obtain ⟨a, hn, p1, p2⟩ := each f List.mem_cons_self
      simp only [List.forIn_cons, Sem.run_bind, hn, ne_eq, not_false_eq_true, if_true, Result.andThen_ok, p1, p2, Sem.run_pure]
      exact ih fun y hy => each y (List.mem_cons_of_mem _ hy)
    ·cases h
   ·rename_i i ms hi hu
    rw [hu] at hok
    cases hok
   ·rename_i i n e hi hu
    rw [hu] at hok
    split at h
    ·rename_i v0 hv0
     cases hb : Nat.beq i.size (n * v0.cells) <;> rw [hb] at h <;> cases h
     obtain ⟨c, rfl, hc1, hc2⟩ := (za4 (t := .arr n v0) rfl).1 hx
     simp only [Sem.run_bind, run_underlying hu, Result.andThen_ok]
     simp only [Std.Legacy.Range.forIn_eq_forIn_range', Std.Legacy.Range.size, Nat.sub_zero, Nat.add_one_sub_one, Nat.div_one]
     have each : ∀ j ∈ List.range' 0 n, ∃ a, (∀ w2, (part e c.toArray (j * v0.cells)).run P w2 = .ok a w2) /\ (Instr.checkKey em D e a).run P w2 = .ok () w2 := by
      intro j hj
      have hj' : j < n := by simpa using hj
      obtain ⟨a, y, h1, h2⟩ := items_parts hv0 hc2 j (by rw [hc1]; exact hj')
      exact ⟨a, h1, zbe em d e v0 hv0 d' hok D (by omega) w w2 M a y h2⟩
     generalize List.range' 0 n = L at each
     induction L with
     | nil => simp
     | cons j L ih =>
      obtain ⟨a, p1, p2⟩ := each j List.mem_cons_self
      simp only [List.forIn_cons, Sem.run_bind, zaw hv0, Result.andThen_ok, p1, p2, Sem.run_pure]
      exact ih fun y hy => each y (List.mem_cons_of_mem _ hy)
    ·cases h
   ·rename_i i k e hi hu
    rw [hu] at hok
    cases hok
   ·rename_i i a b c hi hu
    rw [hu] at hok
    cases hok
   ·rename_i i e hi hu
    rw [hu] at hok
    cases hok
   ·cases h
def fkx {α β : Type} (eq : α -> α -> Bool) (key : α) : List MapEntry -> List (α × β) -> Nat -> Option (Nat × Value)
 | e :: es, p :: ps, i => if eq key p.1 then some (i, e.val) else fkx eq key es ps (i + 1)
 | _, _, _ => none
theorem findAsking_sound {d d' : Nat} {kt : TypeId} {u : Ty} {β : Type} {fv : Value -> β -> Prop} (ht : tyOf P d kt = some u) (hok : eqOK P d' kt = true) (hd : d' <= 10000) {kv : Value} {key : u.el} (hk : repV w M kv u key) (w2 : World) :
  ∀ (es : List MapEntry) (ps : List (u.el × β)) (i : Nat), repM (repV' w' M' u) fv es ps -> (Instr.findAsking kt kv es i).run P w2 = .ok (fkx (eqEl u) key es ps i) w2
 | [], [], i, _ => by simp [Instr.findAsking, fkx]
 | [], _ :: _, _, h => h.elim
 | _ :: _, [], _, h => h.elim
 | e :: es, p :: ps, i, ⟨h1, _, h3⟩ => by
  have he : (Op.equal kt kv e.key).run P w2 = .ok (eqEl u key p.1) w2 := eq_sound d kt u ht d' hok 10000 hd w w' w2 M M' kv e.key key p.1 hk h1
  rw [Instr.findAsking, Sem.run_bind, he]
  simp only [Result.andThen_ok, fkx]
  cases hb : eqEl u key p.1 with
  | true => simp
  | false => simp only [Bool.false_eq_true, if_false]; exact findAsking_sound ht hok hd hk w2 es ps (i + 1) h3
theorem findNow_sound {kd : TypeDesc} {u : Ty} {β : Type} {fv : Value -> β -> Prop} {kv : Value} {key : u.el} (hsame : ∀ (e : Value) (x : u.el), repV w' M' e u x -> Instr.sameNow kd kv e = some (eqEl u key x)) :
  ∀ (es : List MapEntry) (ps : List (u.el × β)) (i : Nat), repM (repV' w' M' u) fv es ps -> Instr.findNow kd kv es i = some (fkx (eqEl u) key es ps i)
 | [], [], i, _ => rfl
 | [], _ :: _, _, h => h.elim
 | _ :: _, [], _, h => h.elim
 | e :: es, p :: ps, i, ⟨h1, _, h3⟩ => by
  rw [Instr.findNow, hsame e.key p.1 h1, fkx]
  cases hb : eqEl u key p.1 with
  | true => simp
  | false => simp only [Bool.false_eq_true, if_false]; exact findNow_sound hsame es ps (i + 1) h3
theorem str_same (a b : List UInt8) : ((⟨a.toArray⟩ : ByteArray) == ⟨b.toArray⟩) = eqStr a b := by
 unfold eqStr
 rw [Bool.eq_iff_iff, MapKept.bytes_beq, beq_iff_eq]
 constructor
 ·intro e
  have := congrArg (fun b : ByteArray => b.data.toList) e
  simpa using this
 ·intro e; rw [e]
theorem findKey_sound {d d' : Nat} {kt : TypeId} {u : Ty} {β : Type} {fv : Value -> β -> Prop} (ht : tyOf P d kt = some u) (hok : eqOK P d' kt = true) (hd : d' <= 10000) {kv : Value} {key : u.el} (hk : repV w M kv u key) (w2 : World)
  {es : List MapEntry} {ps : List (u.el × β)} (h : repM (repV' w' M' u) fv es ps) : (Instr.findKey kt kv es).run P w2 = .ok (fkx (eqEl u) key es ps 0) w2 := by
 have ask := findAsking_sound ht hok hd hk w2 es ps 0 h
 have now : ∀ kd, P.underlying kt = some kd -> (∀ (e : Value) (x : u.el), repV w' M' e u x -> Instr.sameNow kd kv e = some (eqEl u key x)) -> (Instr.findKey kt kv es).run P w2 = .ok (fkx (eqEl u) key es ps 0) w2 := by
  intro kd hu hs
  exact MapKept.run_findKey hu (findNow_sound hs es ps 0 h)
 obtain ⟨i, hi, hsz, hf⟩ := zav ht
 cases u with
 | int k =>
  obtain rfl := za0.1 hk
  exact now _ hf fun e x hx => by obtain rfl := za0.1 hx; simp [Instr.sameNow, eqEl, eqInt]
 | bool =>
  obtain rfl := za1.1 hk
  exact now _ hf fun e x hx => by obtain rfl := za1.1 hx; simp [Instr.sameNow, eqEl, eqBool]
 | str =>
  obtain ⟨rfl, _⟩ := za2.1 hk
  refine now _ hf fun e x hx => ?_
  obtain ⟨rfl, _⟩ := za2.1 hx
  exact congrArg some (str_same key x)
 | unit => obtain ⟨fs, d2, hu, _⟩ := hf; rw [run_findKey_eq w2 (by rw [hu]) kv es]; exact ask
 | pair a b => obtain ⟨fs, d2, hu, _⟩ := hf; rw [run_findKey_eq w2 (by rw [hu]) kv es]; exact ask
 | arr n t => obtain ⟨e, d2, hu, _⟩ := hf; rw [run_findKey_eq w2 (by rw [hu]) kv es]; exact ask
 | sl t => obtain ⟨e, d2, hu, _⟩ := hf; cases d' <;> simp [eqOK, hu] at hok
 | err => obtain ⟨ms, hu⟩ := hf; cases d' <;> simp [eqOK, hu] at hok
 | opq => rcases hf with ⟨_, _, _, hu⟩ | ⟨_, hu⟩ <;> cases d' <;> simp [eqOK, hu] at hok
 | map a b => obtain ⟨k, e, d2, hu, _⟩ := hf; cases d' <;> simp [eqOK, hu] at hok
 | ptr t => exact hf.elim
 | fn f t => exact hf.elim
theorem fkx_get {α β : Type} {eq : α -> α -> Bool} {key : α} {fk : Value -> α -> Prop} {fv : Value -> β -> Prop} : ∀ (es : List MapEntry) (ps : List (α × β)) (i : Nat), repM fk fv es ps ->
  (fkx eq key es ps i = none /\ mget eq ps key = none) \/ ∃ n e y, fkx eq key es ps i = some (i + n, e.val) /\ es[n]? = some e /\ mget eq ps key = some y /\ fv e.val y
 | [], [], i, _ => .inl ⟨rfl, rfl⟩
 | [], _ :: _, _, h => h.elim
 | _ :: _, [], _, h => h.elim
 | e :: es, p :: ps, i, ⟨h1, h2, h3⟩ => by
  unfold fkx mget
  cases hb : eq key p.1 with
  | true => exact .inr ⟨0, e, p.2, by simp, rfl, by simp, h2⟩
  | false =>
   simp only [Bool.false_eq_true, if_false]
   rcases fkx_get es ps (i + 1) h3 with h | ⟨n, e', y, e1, e2, e3, e4⟩
   ·exact .inl h
   ·exact .inr ⟨n + 1, e', y, by rw [e1]; congr 2; omega, by simpa using e2, e3, e4⟩
theorem fkx_set {α β : Type} {eq : α -> α -> Bool} {key : α} {fk : Value -> α -> Prop} {fv : Value -> β -> Prop} {kv vv : Value} {val : β} (hkey : fk kv key) (hval : fv vv val) : ∀ (es : List MapEntry) (ps : List (α × β)) (i : Nat), repM fk fv es ps ->
  (fkx eq key es ps i = none /\ mset eq ps key val = ps ++ [(key, val)]) \/ ∃ n e p, fkx eq key es ps i = some (i + n, e.val) /\ es[n]? = some e /\ fk e.key p /\ eq key p = true /\
   repM fk fv (es.modify n fun e => { e with key := kv, val := vv }) (mset eq ps key val)
 | [], [], i, _ => .inl ⟨rfl, rfl⟩
 | [], _ :: _, _, h => h.elim
 | _ :: _, [], _, h => h.elim
 | e :: es, p :: ps, i, ⟨h1, h2, h3⟩ => by
  unfold fkx mset
  cases hb : eq key p.1 with
  | true => exact .inr ⟨0, e, p.1, by simp, rfl, h1, hb, by simp only [if_true]; exact ⟨hkey, hval, h3⟩⟩
  | false =>
   simp only [Bool.false_eq_true, if_false]
   rcases fkx_set hkey hval es ps (i + 1) h3 with ⟨h4, h5⟩ | ⟨n, e', q, e1, e2, e3, e4, e5⟩
   ·exact .inl ⟨h4, by rw [h5]; rfl⟩
   ·exact .inr ⟨n + 1, e', q, by rw [e1]; congr 2; omega, by simpa using e2, e3, e4, ⟨h1, h2, e5⟩⟩
theorem modify_born (kv vv : Value) : ∀ (es : List MapEntry) (n : Nat), (es.modify n fun e => { e with key := kv, val := vv }).map (·.born) = es.map (·.born)
 | [], n => by cases n <;> rfl
 | e :: es, 0 => rfl
 | e :: es, n + 1 => by
  have := modify_born kv vv es n
  simp only [List.modify_succ_cons, List.map_cons, this]
theorem repM_app {α β : Type} {fk : Value -> α -> Prop} {fv : Value -> β -> Prop} : ∀ {es es' : List MapEntry} {ps ps' : List (α × β)}, repM fk fv es ps -> repM fk fv es' ps' -> repM fk fv (es ++ es') (ps ++ ps')
 | [], _, [], _, _, h => h
 | [], _, _ :: _, _, h, _ => h.elim
 | _ :: _, _, [], _, h, _ => h.elim
 | _ :: _, _, _ :: _, _, ⟨h1, h2, h3⟩, h => ⟨h1, h2, repM_app h3 h⟩
def plainCell : Value -> Bool
 | .bool _ => true
 | .int _ _ => true
 | .string _ => true
 | _ => false
theorem repL_all {α : Type} {f : List Value -> α -> Prop} {p : Value -> Bool} (h : ∀ c x, f c x -> ∀ u ∈ c, p u = true) : ∀ {xs : List α} {cs : List Value}, repL f cs xs -> ∀ u ∈ cs, p u = true
 | [], _, hh, u, hu => by cases hh; cases hu
 | _ :: _, _, ⟨c1, c2, e, h1, h2⟩, u, hu => by
  subst e
  rcases List.mem_append.1 hu with hu | hu
  ·exact h _ _ h1 u hu
  ·exact repL_all h h2 u hu
theorem flat_cells : ∀ (t : Ty) {cs : List Value} {x : t.el}, t.flat = true -> rep w M t cs x -> ∀ u ∈ cs, plainCell u = true := by
 intro t
 induction t with
 | int k => intro cs x _ h u hu; cases h; simp at hu; subst hu; rfl
 | bool => intro cs x _ h u hu; cases h; simp at hu; subst hu; rfl
 | str => intro cs x _ h u hu; cases h.1; simp at hu; subst hu; rfl
 | unit => intro cs x _ h u hu; cases h; simp at hu
 | pair a b iha ihb =>
  rintro cs x hf ⟨c1, c2, rfl, h1, h2⟩ u hu
  simp only [Ty.flat, Bool.and_eq_true] at hf
  rcases List.mem_append.1 hu with hu | hu
  ·exact iha hf.1 h1 u hu
  ·exact ihb hf.2 h2 u hu
 | arr n t ih => intro cs x hf h u hu; exact repL_all (fun _ _ hh => ih hf hh) h.2 u hu
 | sl t _ => intro cs x hf; simp [Ty.flat] at hf
 | ptr t _ => intro cs x hf; simp [Ty.flat] at hf
 | fn f t _ => intro cs x hf; simp [Ty.flat] at hf
 | err => intro cs x hf; simp [Ty.flat] at hf
 | opq => intro cs x hf; simp [Ty.flat] at hf
 | map k v _ _ => intro cs x hf; simp [Ty.flat] at hf
theorem plain_same {u : Value} (h : plainCell u = true) (n : Nat) : Instr.sameBits n u u = true := by
 cases u <;> first | (simp [plainCell] at h; done) | simp [Instr.sameBits, MapKept.bytes_beq]
theorem zip_self (n : Nat) : ∀ (l : List Value), (∀ u ∈ l, plainCell u = true) -> ((l.zip l).all fun (x, y) => Instr.sameBits n x y) = true
 | [], _ => rfl
 | u :: l, h => by
  rw [List.zip_cons_cons, List.all_cons, Bool.and_eq_true]
  exact ⟨plain_same (h u List.mem_cons_self) n, zip_self n l fun x hx => h x (List.mem_cons_of_mem _ hx)⟩
theorem flat_same {t : Ty} {v : Value} {x : t.el} (hf : t.flat = true) (h : repV w M v t x) : Instr.sameBits 10000 v v = true := by
 cases hag : t.agg with
 | true =>
  obtain ⟨cs, rfl, hc⟩ := (za4 hag).1 h
  rw [Instr.sameBits]
  simp only [beq_self_eq_true, Bool.true_and]
  exact zip_self 9999 cs (flat_cells t hf hc)
 | false =>
  exact plain_same (flat_cells t hf ((za3 hag).1 h) v (by simp)) _
theorem lookup_val {mt kt et : TypeId} {d d' : Nat} {u v : Ty} (hm : P.underlying mt = some (.map kt et)) (ht : tyOf P d kt = some u) (hok : eqOK P d' kt = true) (hd : d' <= 10000)
  {z : Value} (hz : ∀ w, (zeroValue et).run P w = .ok z w) (hzr : ∀ w M, repV w M z v (zeroEl v)) {kv : Value} {key : u.el} (hk : repV w M kv u key) {es : Array MapEntry} {ps : List (u.el × v.el)}
  (hr : repM (repV' w' M' u) (repV' w' M' v) es.toList ps) :
  ∃ r, repV w' M' r v ((mget (eqEl u) ps key).getD (zeroEl v)) /\ ∀ (w2 : World) (x : Value), ((x = .map none /\ es = #[]) \/ ∃ g clock, x = .map (some g) /\ w2.heap[g]? = some (.map es clock)) ->
   ∀ ok, (Instr.lookup mt x kv ok).run P w2 = .ok (if ok then .tuple #[r, .bool (mget (eqEl u) ps key).isSome] else r) w2 := by
 have hf := fun w2 => findKey_sound ht hok hd hk w2 hr
 have hc := fun em w2 => zbe (P := P) em d kt u ht d' hok 10000 hd w w2 M kv key hk
 have run : ∀ (r : Value) (w2 : World) (x : Value), ((x = .map none /\ es = #[]) \/ ∃ g clock, x = .map (some g) /\ w2.heap[g]? = some (.map es clock)) ->
   ((fkx (eqEl u) key es.toList ps 0 = none /\ mget (eqEl u) ps key = none /\ r = z) \/ ∃ n y, fkx (eqEl u) key es.toList ps 0 = some (n, r) /\ mget (eqEl u) ps key = some y) ->
   ∀ ok, (Instr.lookup mt x kv ok).run P w2 = .ok (if ok then .tuple #[r, .bool (mget (eqEl u) ps key).isSome] else r) w2 := by
  intro r w2 x hx hres ok
  have hf2 := hf w2
  rcases hx with ⟨rfl, rfl⟩ | ⟨g, clock, rfl, hg⟩
  ·have hc2 := hc true w2
   rcases hres with ⟨e1, e2, rfl⟩ | ⟨n, y, e1, e2⟩
   ·rw [e1] at hf2
    unfold Instr.lookup
    simp only [Sem.run_bind, run_underlying hm, Result.andThen_ok, Sem.run_pure, show (#[] : Array MapEntry).isEmpty = true from rfl, hc2, hf2, hz, e2]
    cases ok <;> simp
   ·simp [fkx] at e1
  ·have hc2 := hc es.isEmpty w2
   have hobj : (getObj g).run P w2 = .ok (.map es clock) w2 := by simp [getObj, Sem.run, hg]
   rcases hres with ⟨e1, e2, rfl⟩ | ⟨n, y, e1, e2⟩
   ·rw [e1] at hf2
    unfold Instr.lookup
    simp only [Sem.run_bind, run_underlying hm, Result.andThen_ok, hobj, Sem.run_pure, hc2, hf2, hz, e2]
    cases ok <;> simp
   ·rw [e1] at hf2
    unfold Instr.lookup
    simp only [Sem.run_bind, run_underlying hm, Result.andThen_ok, hobj, Sem.run_pure, hc2, hf2, e2]
    cases ok <;> simp
 rcases fkx_get (eq := eqEl u) (key := key) es.toList ps 0 hr with ⟨e1, e2⟩ | ⟨n, e, y, e1, e2, e3, e4⟩
 ·exact ⟨z, by rw [e2]; exact hzr _ _, fun w2 x hx => run z w2 x hx (.inl ⟨e1, e2, rfl⟩)⟩
 ·exact ⟨e.val, by rw [e3]; exact e4, fun w2 x hx => run e.val w2 x hx (.inr ⟨_, y, e1, e3⟩)⟩
theorem run_mapUpdate {mt kt et : TypeId} {d d' : Nat} {u v : Ty} (hm : P.underlying mt = some (.map kt et)) (ht : tyOf P d kt = some u) (hok : eqOK P d' kt = true) (hd : d' <= 10000) (hfl : u.flat = true)
  {kv vv : Value} {key : u.el} {val : v.el} (hk : repV w M kv u key) (hv : repV w M vv v val) {g : Nat} {es : Array MapEntry} {clock : Nat} {ps : List (u.el × v.el)}
  (hg : w.heap[g]? = some (.map es clock)) (hb : ∀ e ∈ es.toList, e.born < clock) (hn : (es.toList.map (·.born)).Nodup) (hr : repM (repV' w M u) (repV' w M v) es.toList ps) :
  ∃ (es' : Array MapEntry) (clock' : Nat), (Instr.mapUpdate mt (.map (some g)) kv vv).run P w = .ok () { w with heap := w.heap.setIfInBounds g (.map es' clock') } /\
   (∀ e ∈ es'.toList, e.born < clock') /\ (es'.toList.map (·.born)).Nodup /\ repM (repV' w M u) (repV' w M v) es'.toList (mset (eqEl u) ps key val) := by
 have hc := zbe (P := P) false d kt u ht d' hok 10000 hd w w M kv key hk
 have hf := findKey_sound ht hok hd hk w hr
 have hobj : (getObj g).run P w = .ok (.map es clock) w := by simp [getObj, Sem.run, hg]
 have hset : ∀ o, (setObj g o).run P w = .ok () { w with heap := w.heap.setIfInBounds g o } := fun o => by simp [setObj, Sem.run, hg]
 rcases fkx_set (kv := kv) (vv := vv) (val := val) (eq := eqEl u) (key := key) hk hv es.toList ps 0 hr with ⟨e1, e2⟩ | ⟨n, e, q, e1, e2, e3, e4, e5⟩
 ·rw [e1] at hf
  refine ⟨es.push { key := kv, val := vv, born := clock }, clock + 1, ?_, ?_, ?_, ?_⟩
  ·unfold Instr.mapUpdate
   simp only [Sem.run_bind, run_underlying hm, Result.andThen_ok, hobj, hc, hf, hset]
  ·intro e he
   rw [Array.toList_push] at he
   rcases List.mem_append.1 he with he | he
   ·exact Nat.lt_succ_of_lt (hb e he)
   ·simp at he; subst he; exact Nat.lt_succ_self _
  ·rw [Array.toList_push, List.map_append, List.nodup_append]
   refine ⟨hn, by simp, ?_⟩
   intro a ha b hb' hab
   simp at hb'
   obtain ⟨e, he, rfl⟩ := List.mem_map.1 ha
   have := hb e he
   omega
  ·rw [Array.toList_push, e2]
   exact repM_app hr ⟨hk, hv, trivial⟩
 ·rw [e1, Nat.zero_add] at hf
  have heq : key = q := eqEl_eq u e4
  subst heq
  have hkk : e.key = kv := flat_detV hfl e3 hk
  have hold : ((es[n]?).map (·.key)).getD kv = kv := by
   have : es[n]? = some e := by rw [<- Array.getElem?_toList]; exact e2
   rw [this]; simp [hkk]
  have hst : ∀ w2, (Instr.keyThatStays kv kv).run P w2 = .ok kv w2 := fun w2 => by
   unfold Instr.keyThatStays
   rw [if_pos (flat_same hfl hk)]
   rfl
  have hlist : (es.modify n fun e => { e with key := kv, val := vv }).toList = es.toList.modify n fun e => { e with key := kv, val := vv } := by simp
  refine ⟨es.modify n fun e => { e with key := kv, val := vv }, clock, ?_, ?_, ?_, ?_⟩
  ·unfold Instr.mapUpdate
   simp only [Sem.run_bind, run_underlying hm, Result.andThen_ok, hobj, hc, hf, hold, hst, hset]
  ·intro x hx
   rw [hlist] at hx
   have h1 : x.born ∈ (es.toList.modify n fun e => { e with key := kv, val := vv }).map (·.born) := List.mem_map.2 ⟨x, hx, rfl⟩
   rw [modify_born] at h1
   obtain ⟨y, hy, e⟩ := List.mem_map.1 h1
   rw [<- e]; exact hb y hy
  ·rw [hlist, modify_born]; exact hn
  ·rw [hlist]; exact e5
end Go.Ev
