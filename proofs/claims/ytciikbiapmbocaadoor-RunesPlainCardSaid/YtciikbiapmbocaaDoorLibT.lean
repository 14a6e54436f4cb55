/- Contracts of library functions. -/
import Derived.Test.YtciikbiapmbocaaDoorLibL
import Derived.Test.YtciikbiapmbocaaDoorLibS
import Derived.Test.YtciikbiapmbocaaDoorEvT
import Derived.Lib.LaidU8
namespace Go.Ev
open Go Go.Proofs Go.Shelf
set_option maxRecDepth 100000

def Gl : World → Prop := fun w => Lib.Utf8Tabs 0 1 w ∧ (0 < w.heap.size ∧ 1 < w.heap.size)
theorem cell_lt {w : World} {p : Addr} {v : Value} (h : w.cell? p = some v) : p.block < w.heap.size := by
  refine Nat.lt_of_not_le fun hn => ?_
  have : w.heap[p.block]? = none := Array.getElem?_eq_none hn
  simp [World.cell?, this] at h
theorem Gl_of {w : World} (h : Lib.Utf8Tabs 0 1 w) : Gl w :=
  ⟨h, cell_lt (h.1 0 (by decide)), cell_lt (h.2 0 (by decide)).1⟩
theorem Gl_stable : ∀ w w', Frame w w' (fun _ => False) → Gl w → Gl w' := by
  rintro w w' hf ⟨⟨h1, h2⟩, b1, b2⟩
  have k1 : ∀ c, w'.cell? ⟨0, c, none⟩ = w.cell? ⟨0, c, none⟩ := fun c => World.cell?_of_block (w := w) (hf.block _ b1 id)
  have k2 : ∀ c, w'.cell? ⟨1, c, none⟩ = w.cell? ⟨1, c, none⟩ := fun c => World.cell?_of_block (w := w) (hf.block _ b2 id)
  refine ⟨⟨fun c hc => by rw [k1]; exact h1 c hc, fun i hi => by rw [k2, k2]; exact h2 i hi⟩, Nat.lt_of_lt_of_le b1 hf.size, Nat.lt_of_lt_of_le b2 hf.size⟩

def C_unicode_utf8_DecodeRuneInString (k : Nat) : FnC := ⟨true, 2, [], fun | [⟨.str, s⟩], [⟨.int .i32, r⟩, ⟨.int .i64, n⟩] => utf8_DecodeRuneInString k s = some (r, n) | _, _ => False⟩
theorem c_unicode_utf8_DecodeRuneInString (k : Nat) : Contract Tryd.prog Gl 25 (C_unicode_utf8_DecodeRuneInString k) where
  enters := enters_of Tryd.func25 (by kernel_rfl) rfl
  shape := fun xs rs h => by
    unfold C_unicode_utf8_DecodeRuneInString at h
    simp only at h
    split at h
    · exact ⟨rfl, fun _ u hu => by simp at hu; (rcases hu with rfl | rfl) <;> rfl⟩
    · exact h.elim
  calls := fun w M vs xs rs hG hM h hv => by
    unfold C_unicode_utf8_DecodeRuneInString at h
    simp only at h
    split at h
    case h_2 => exact h.elim
    rename_i s r n
    match vs, hv with
    | [v], ⟨hv, _⟩ =>
      have hs : v = .string ⟨s.toArray⟩ := by
        have := (show rep w M .str [v] s from hv).1
        simpa using this
      subst hs
      refine (Any.utf8_DecodeRuneInString Llays197 ⟨s.toArray⟩ w hG.1).mono ?_
      rintro e w' ⟨rfl, hb⟩
      cases h
      exact ⟨_, rfl, ⟨[_, _], rfl, rfl, rfl, trivial⟩, Ext.of_below hb⟩

theorem u8x : U8Extra Tryd.prog Llays260_ren := ⟨by kernel_rfl, by kernel_rfl, by kernel_rfl, by kernel_rfl, by kernel_rfl, by kernel_rfl, by kernel_rfl⟩
theorem Gl_of_reads {w : World} (h3 : Lib.VarReads Tryd.prog w "unicode/utf8.first" Lib.firstData) (h4 : Lib.VarReads Tryd.prog w "unicode/utf8.acceptRanges" Lib.acceptData) : Gl w :=
  Gl_of (utf8Tabs_of_reads Llays260 u8x h3 h4)
end Go.Ev
