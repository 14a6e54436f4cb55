/- The rules in a shorter form: the state behind an operation is computed, or is known from what follows. -/
import Derived.Test.YtciikbiapmbocaaDoorEvY
namespace Go.Ev
open Go Go.RowKit

/-- What has to hold, with its proofs. -/
inductive Obs : List Prop → Prop
  | n : Obs []
  | c {p : Prop} {l : List Prop} (h : p) (t : Obs l) : Obs (p :: l)
theorem Obs.all {l : List Prop} (h : Obs l) : allP l := by
  induction h with
  | n => trivial
  | c h _ ih => exact ⟨h, ih⟩
def keysOf {α : Type} (l : List (Nat × α)) : List Nat := l.map (·.1)
def outS (r : Option (St × List TV × List Prop)) : St := match r with
  | some (s, _) => s
  | none => ⟨[], [], []⟩
theorem outS_some {r : Option (St × List TV × List Prop)} {ob : List Prop} (h : r.map Prod.snd = some ([], ob)) : r = some (outS r, [], ob) := by
  match r, h with
  | some (s, o, p), h => cases h; rfl
def getS (r : Option St) : St := r.getD ⟨[], [], []⟩
theorem getS_some {r : Option St} (h : r.isSome = true) : r = some (getS r) := by
  match r, h with
  | some s, _ => rfl
def setB (st : St) (d : Nat) (b : Bool) : St := { st with sl := st.sl.map fun p => bif Nat.beq p.1 d then (p.1, .val .bool b) else p }

variable {cx : Cx} {st st' : St} {Q : Post} {E : Env} {ops : Array Oper} {l : List Oper} {K : World → Act → Prop}

theorem WL_allC (hE : EnvOK E cx) (ks bs rs : List Nat) {orc : List TV} {ob : List Prop} (hev : (evK E ops l st orc ks bs rs).map Prod.snd = some ([], ob)) (hob : Obs ob) (h : N cx Q .normal (outS (evK E ops l st orc ks bs rs))) : WL cx ops Q l st :=
  WL_all hE ks bs rs (outS_some hev) hob.all h
theorem WL_allI (hE : EnvOK E cx) {orc : List TV} {ob : List Prop} (hev : evK E ops l st orc (keysOf st'.sl) (keysOf st'.bx) (keysOf st'.rw) = some (st', [], ob)) (hob : Obs ob) (h : N cx Q .normal st') : WL cx ops Q l st :=
  WL_all hE _ _ _ hev hob.all h
theorem WL_tkC (hE : EnvOK E cx) (n : Nat) (ks bs rs : List Nat) {orc : List TV} {ob : List Prop} (hev : (evK E ops (l.take n) st orc ks bs rs).map Prod.snd = some ([], ob)) (hob : Obs ob) (h : WL cx ops Q (l.drop n) (outS (evK E ops (l.take n) st orc ks bs rs))) : WL cx ops Q l st :=
  WL_tk hE n ks bs rs (outS_some hev) hob.all h
theorem WD_allC (hE : EnvOK E cx) (ks bs rs : List Nat) {orc : List TV} {ob : List Prop} (hev : (evDK E ops l st orc ks bs rs).map Prod.snd = some ([], ob)) (hob : Obs ob) (h : N cx Q .normal (outS (evDK E ops l st orc ks bs rs))) : WD cx ops Q l st :=
  WD_all hE ks bs rs (outS_some hev) hob.all h
theorem WD_allI (hE : EnvOK E cx) {orc : List TV} {ob : List Prop} (hev : evDK E ops l st orc (keysOf st'.sl) (keysOf st'.bx) (keysOf st'.rw) = some (st', [], ob)) (hob : Obs ob) (h : N cx Q .normal st') : WD cx ops Q l st :=
  WD_all hE _ _ _ hev hob.all h
theorem WD_tkC (hE : EnvOK E cx) (n : Nat) (ks bs rs : List Nat) {orc : List TV} {ob : List Prop} (hev : (evDK E ops (l.take n) st orc ks bs rs).map Prod.snd = some ([], ob)) (hob : Obs ob) (h : WD cx ops Q (l.drop n) (outS (evDK E ops (l.take n) st orc ks bs rs))) : WD cx ops Q l st :=
  WD_tk hE n ks bs rs (outS_some hev) hob.all h
theorem WDK_allC (hE : EnvOK E cx) (ks bs rs : List Nat) {orc : List TV} {ob : List Prop} (hev : (evDK E ops l st orc ks bs rs).map Prod.snd = some ([], ob)) (hob : Obs ob) (h : ND cx K (outS (evDK E ops l st orc ks bs rs))) : WDK cx ops K l st :=
  WDK_all hE ks bs rs (outS_some hev) hob.all h
theorem WDK_allI (hE : EnvOK E cx) {orc : List TV} {ob : List Prop} (hev : evDK E ops l st orc (keysOf st'.sl) (keysOf st'.bx) (keysOf st'.rw) = some (st', [], ob)) (hob : Obs ob) (h : ND cx K st') : WDK cx ops K l st :=
  WDK_all hE _ _ _ hev hob.all h
theorem WDK_tkC (hE : EnvOK E cx) (n : Nat) (ks bs rs : List Nat) {orc : List TV} {ob : List Prop} (hev : (evDK E ops (l.take n) st orc ks bs rs).map Prod.snd = some ([], ob)) (hob : Obs ob) (h : WDK cx ops K (l.drop n) (outS (evDK E ops (l.take n) st orc ks bs rs))) : WDK cx ops K l st :=
  WDK_tk hE n ks bs rs (outS_some hev) hob.all h
theorem W_tailC {id : Nat} (hE : EnvOK E cx) (n : Nat) (ks bs rs : List Nat) {orc : List TV} {ob : List Prop} (hm : cx.P.follows .mixedOrders = true) (hB : Region.lexTailB .any l.toArray n = true)
    (hev : (evDK E l.toArray (l.take n) st orc ks bs rs).map Prod.snd = some ([], ob)) (hob : Obs ob) (h : WL cx l.toArray Q (l.drop n) (outS (evDK E l.toArray (l.take n) st orc ks bs rs))) : W cx Q (.region id l.toArray true) st :=
  W_tailQ hE n ks bs rs hm hB (outS_some hev) hob.all h
theorem WL_splitC (d : Nat) {b : Bool} (he : setB st d b = st) (ht : b = true → WL cx ops Q l (setB st d true)) (hf : b = false → WL cx ops Q l (setB st d false)) : WL cx ops Q l st := by
  rw [← he]
  exact WL_split (setB st d) ht hf
theorem WD_splitC (d : Nat) {b : Bool} (he : setB st d b = st) (ht : b = true → WD cx ops Q l (setB st d true)) (hf : b = false → WD cx ops Q l (setB st d false)) : WD cx ops Q l st := by
  rw [← he]
  exact WD_split (setB st d) ht hf
theorem WDK_splitC (d : Nat) {b : Bool} (he : setB st d b = st) (ht : b = true → WDK cx ops K l (setB st d true)) (hf : b = false → WDK cx ops K l (setB st d false)) : WDK cx ops K l st := by
  rw [← he]
  exact WDK_split (setB st d) ht hf
theorem WL_callBC (hE : EnvOK E cx) {α β : Type} {F : FnB α β} {f : Nat} (hB : BC E.P E.G f F) (x : α) (y : β) (hxy : F.rel x y) {o : Oper} {ρ ρ' : List (Nat × Nat)} {n : Nat} (hn : F.n = n) (ks bs rws : List Nat)
    (hw : wantSV ops st o = some true) (hen : enterB E st o n f ρ = some (F.S x)) (hlv : (leaveB st (F.S' x y) o n E.n ρ ρ' (F.rs x y) ks bs rws).isSome = true) (h : WL cx ops Q l (getS (leaveB st (F.S' x y) o n E.n ρ ρ' (F.rs x y) ks bs rws))) : WL cx ops Q (o :: l) st :=
  WL_callB hE hB x y hxy hn ks bs rws hw hen (getS_some hlv) h
theorem N_normI {e : Exit} (hs : st.norm (keysOf st'.sl) (keysOf st'.bx) (keysOf st'.rw) = some st') (h : N cx Q e st') : N cx Q e st := h.norm hs
theorem N_normC {e : Exit} (ks bs rs : List Nat) (hs : (st.norm ks bs rs).isSome = true) (h : N cx Q e (getS (st.norm ks bs rs))) : N cx Q e st := h.norm (getS_some hs)
theorem W_normI {c : Code} (hs : st.norm (keysOf st'.sl) (keysOf st'.bx) (keysOf st'.rw) = some st') (h : W cx Q c st') : W cx Q c st := h.norm hs
theorem N_renI {e : Exit} (ks bs rs : List Nat) (ρ : List (Nat × Nat)) (hs : ((st.norm ks bs rs).bind (·.ren ρ)) = some st') (h : N cx Q e st') : N cx Q e st := by
  obtain ⟨s, h1, h2⟩ := Option.bind_eq_some_iff.1 hs
  exact (N.ren ρ h2 h).norm h1
theorem N_renC {e : Exit} (ks bs rs : List Nat) (ρ : List (Nat × Nat)) (hs : ((st.norm ks bs rs).bind (·.ren ρ)).isSome = true) (h : N cx Q e (getS ((st.norm ks bs rs).bind (·.ren ρ)))) : N cx Q e st := N_renI ks bs rs ρ (getS_some hs) h
theorem ND_normI (hs : st.norm (keysOf st'.sl) (keysOf st'.bx) (keysOf st'.rw) = some st') (h : ND cx K st') : ND cx K st := fun T w hR => h T w (hR.norm hs)
end Go.Ev
