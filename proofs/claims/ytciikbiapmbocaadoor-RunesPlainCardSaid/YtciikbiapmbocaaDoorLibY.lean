/- What is laid of strconv's own errors. -/
import Derived.Test.YtciikbiapmbocaaDoorLibX
namespace Go.Ev
open Go Go.Proofs Go.RowKit
set_option maxRecDepth 100000

theorem trod_iface {P : Program} {H : Type} {enc : TypeId × Value → H} {w : World} {base : Nat} {spare : Nat → Bool} {held : Bool} {t : TypeId} {ms : Array (String × TypeId)} (hu : P.underlying t = some (.interface ms)) :
    ∀ {fuel : Nat} {cs : List Value} {r : DataW H × List MemPlace}, DataW.trod enc P w base spare held fuel t cs = some r → cs = [.nilIface] ∨ ∃ u v, cs = [.iface u v] := by
  intro fuel cs r h
  cases fuel with
  | zero => cases h
  | succ n =>
    unfold DataW.trod at h
    rw [hu] at h
    split at h <;> first
      | (rename_i e; cases e; done)
      | exact .inl rfl
      | exact .inr ⟨_, _, rfl⟩
      | (cases h; done)
theorem ErrVar_of {P : Program} {w : World} {name : String} {g t : Nat} {ms : Array (String × TypeId)} {d : DataW Unit} (hn : P.globalNamed name = some g) (hy : (P.globals[g]?).map (·.type) = some t) (hu : P.underlying t = some (.interface ms)) (h : Lib.VarReads P w name d) : ErrVar w g := by
  obtain ⟨g', t', cs, fuel, p, hg, hty, hvar, hd⟩ := h
  obtain rfl := Option.some.inj (hn.symm.trans hg)
  obtain rfl := Option.some.inj (hy.symm.trans hty)
  have hc := World.var?_cell hg hvar 0
  rw [← Array.getElem?_toList] at hc
  rcases trod_iface hu hd with e | ⟨u, v, e⟩
  · exact ⟨_, by rw [hc, e]; rfl, .inl rfl⟩
  · exact ⟨_, by rw [hc, e]; rfl, .inr ⟨u, v, rfl⟩⟩
theorem Gu_of {w : World} {d d' : DataW Unit} (h : Gt w) (h1 : Lib.VarReads Tryd.prog w "strconv.ErrSyntax" d) (h2 : Lib.VarReads Tryd.prog w "strconv.ErrRange" d') : Gu w :=
  ⟨h, ErrVar_of (by kernel_rfl) (by kernel_rfl) Tryd.underlying63 h1, ErrVar_of (by kernel_rfl) (by kernel_rfl) Tryd.underlying63 h2⟩
end Go.Ev
