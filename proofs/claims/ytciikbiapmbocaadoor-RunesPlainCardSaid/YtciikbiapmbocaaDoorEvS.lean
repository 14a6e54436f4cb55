/- Short forms for the generated texts. -/
import Derived.Test.YtciikbiapmbocaaDoorEvR
namespace Go.Ev
open Go Go.RowKit
variable {cx : Cx} {st st' : St} {E : Env} {Q : Post} {ops : Array Oper} {l : List Oper}

abbrev I64 (x : Int) : SV := .val (.int .i64) x
abbrev I32 (x : Int) : SV := .val (.int .i32) x
abbrev I16 (x : Int) : SV := .val (.int .i16) x
abbrev I8 (x : Int) : SV := .val (.int .i8) x
abbrev U64 (x : Int) : SV := .val (.int .u64) x
abbrev U32 (x : Int) : SV := .val (.int .u32) x
abbrev U16 (x : Int) : SV := .val (.int .u16) x
abbrev U8 (x : Int) : SV := .val (.int .u8) x
abbrev BB (x : Bool) : SV := .val .bool x
abbrev SS (x : List UInt8) : SV := .val .str x
abbrev tI64 (x : Int) : TV := ⟨.int .i64, x⟩
abbrev tI32 (x : Int) : TV := ⟨.int .i32, x⟩
abbrev tI16 (x : Int) : TV := ⟨.int .i16, x⟩
abbrev tI8 (x : Int) : TV := ⟨.int .i8, x⟩
abbrev tU64 (x : Int) : TV := ⟨.int .u64, x⟩
abbrev tU32 (x : Int) : TV := ⟨.int .u32, x⟩
abbrev tU16 (x : Int) : TV := ⟨.int .u16, x⟩
abbrev tU8 (x : Int) : TV := ⟨.int .u8, x⟩
abbrev tB (x : Bool) : TV := ⟨.bool, x⟩
abbrev tS (x : List UInt8) : TV := ⟨.str, x⟩
def wi64 (x : Int) : Int := IntKind.i64.wrap x
def wi32 (x : Int) : Int := IntKind.i32.wrap x
def wi16 (x : Int) : Int := IntKind.i16.wrap x
def wi8 (x : Int) : Int := IntKind.i8.wrap x
def wu64 (x : Int) : Int := IntKind.u64.wrap x
def wu32 (x : Int) : Int := IntKind.u32.wrap x
def wu16 (x : Int) : Int := IntKind.u16.wrap x
def wu8 (x : Int) : Int := IntKind.u8.wrap x

/-- A choice. -/
theorem W_split {c : Code} (S : Bool → St) {b : Bool} (ht : b = true → W cx Q c (S true)) (hf : b = false → W cx Q c (S false)) : W cx Q c (S b) := by cases b with | true => exact ht rfl | false => exact hf rfl
theorem WL_split (S : Bool → St) {b : Bool} (ht : b = true → WL cx ops Q l (S true)) (hf : b = false → WL cx ops Q l (S false)) : WL cx ops Q l (S b) := by cases b with | true => exact ht rfl | false => exact hf rfl

/-- The first n operations, evaluated, and what is kept behind them. -/
theorem WL_tk (hE : EnvOK E cx) (n : Nat) (ks bs rs : List Nat) {orc : List TV} {ob : List Prop} (hev : evK E ops (l.take n) st orc ks bs rs = some (st', [], ob)) (hob : allP ob) (h : WL cx ops Q (l.drop n) st') : WL cx ops Q l st := by
  obtain ⟨s, h1, h2⟩ := evK_some hev
  exact WL_take hE n h1 hob (h.norm h2)
theorem WL_all (hE : EnvOK E cx) (ks bs rs : List Nat) {orc : List TV} {ob : List Prop} (hev : evK E ops l st orc ks bs rs = some (st', [], ob)) (hob : allP ob) (h : N cx Q .normal st') : WL cx ops Q l st := by
  obtain ⟨s, h1, h2⟩ := evK_some hev
  exact WL_ev hE h1 hob (h.norm h2)

/-- Ways that meet again. -/
theorem W_join {α : Type} (F : α → Prop) (S : α → St) {x y : Code} (hy : ∀ a, F a → W cx Q y (S a)) (hx : (∀ a, F a → N cx (Exit.then (y.wp cx.P Q) Q) .normal (S a)) → W cx (Exit.then (y.wp cx.P Q) Q) x st) : W cx Q (.seq x y) st :=
  W_seq (hx fun a ha => N_then (hy a ha))
theorem WL_join {α : Type} (F : α → Prop) (S : α → St) (n : Nat) (hy : ∀ a, F a → WL cx ops Q (l.drop n) (S a)) (hx : (∀ a, F a → N cx (Exit.then (wpList cx.P ops Q (l.drop n)) Q) .normal (S a)) → WL cx ops (Exit.then (wpList cx.P ops Q (l.drop n)) Q) (l.take n) st) : WL cx ops Q l st := by
  intro T w hR
  have := wpList_append (P := cx.P) (ops := ops) (Q := Q) (l1 := l.take n) (l2 := l.drop n) (hx (fun a ha => N_thenL (hy a ha)) T w hR)
  rwa [List.take_append_drop] at this
/-- A block that is left in several ways: they meet behind it. -/
theorem W_meet {α : Type} (F : α → Prop) (S : α → St) {id : Nat} {c : Code} (hy : ∀ a, F a → N cx Q .normal (S a)) (hx : (∀ a, F a → N cx Q .normal (S a)) → W cx (Exit.inBlock id Q) c st) : W cx Q (.block id c) st :=
  W_block (hx hy)

/-- A condition, as an answer. -/
def chk (p : Prop) [Decidable p] : Option Unit := if p then some () else none
theorem chk_some {p : Prop} [Decidable p] {x : Unit} (h : chk p = some x) : p := by
  unfold chk at h
  split at h
  · assumption
  · cases h
theorem and_t {g e : Bool} (h : g = true) : (g && e) = e := by rw [h, Bool.true_and]
theorem and_f {g e : Bool} (h : g = false) : (g && e) = false := by rw [h, Bool.false_and]
theorem or_t {g e : Bool} (h : g = true) : (g || e) = true := by rw [h, Bool.true_or]
theorem or_f {g e : Bool} (h : g = false) : (g || e) = e := by rw [h, Bool.false_or]
theorem bind_some {α β : Type} {o : Option α} {f : α → Option β} {r : β} (h : o.bind f = some r) : ∃ x, o = some x ∧ f x = some r := Option.bind_eq_some_iff.1 h
theorem map_some' {α β : Type} {o : Option α} {f : α → β} {r : β} (h : o.map f = some r) : ∃ x, o = some x ∧ f x = r := Option.map_eq_some_iff.1 h
theorem ite_t {α : Type} {b : Bool} {x y : α} {r : α} (hb : b = true) (h : (if b then x else y) = r) : x = r := by rw [← h, if_pos hb]
theorem ite_f {α : Type} {b : Bool} {x y : α} {r : α} (hb : b = false) (h : (if b then x else y) = r) : y = r := by rw [← h, if_neg (by rw [hb]; decide)]

/-- A list of what a function's callees do, one behind the other. -/
theorem EnvOK.nil {P : Program} {G : World → Prop} {n : Nat} {cx : Cx} (h1 : cx.P = P) (h2 : cx.n = n) (h3 : ∀ w, Frame cx.w0 w cx.X → G w) : EnvOK ⟨P, G, n, []⟩ cx := ⟨h1, h2, h3, fun _ _ h => by cases h⟩
theorem EnvOK.cons {P : Program} {G : World → Prop} {n : Nat} {fns : List (Nat × FnC)} {cx : Cx} {f : Nat} {F : FnC} (hc : Contract P G f F) (h : EnvOK ⟨P, G, n, fns⟩ cx) : EnvOK ⟨P, G, n, (f, F) :: fns⟩ cx :=
  ⟨h.P, h.n, h.glob, fun g G hg => by rcases List.mem_cons.1 hg with hg | hg; cases hg; exact hc; exact h.fns g G hg⟩

end Go.Ev
