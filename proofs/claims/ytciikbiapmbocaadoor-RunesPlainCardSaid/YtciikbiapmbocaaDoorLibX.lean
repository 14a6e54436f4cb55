/- strconv's errors: that one comes back, whatever it holds. -/
import Derived.Test.YtciikbiapmbocaaDoorLibW
import Derived.Shelf.Pu.Clone
import Derived.Lib.IfaceEq
namespace Go.Ev
open Go Go.Proofs Go.RowKit Go.Shelf
set_option maxRecDepth 100000

/-- The variables that hold the package's own errors hold something. -/
def ErrVar (w : World) (g : Nat) : Prop := ∃ ev, w.cell? ⟨g, 0, none⟩ = some ev ∧ (ev = .nilIface ∨ ∃ te pe, ev = .iface te pe)
def Gu : World → Prop := fun w => Gt w ∧ ErrVar w 2 ∧ ErrVar w 3
theorem Gu_Gt : ∀ w, Gu w → Gt w := fun _ h => h.1
theorem ErrVar.frame {w w' : World} {g : Nat} (hf : Frame w w' (fun _ => False)) (h : ErrVar w g) : ErrVar w' g := by
  obtain ⟨ev, h1, h2⟩ := h
  exact ⟨ev, by rw [World.cell?_of_block (w := w) (hf.block _ (cell_lt h1) id)]; exact h1, h2⟩
theorem Gu_stable : ∀ w w', Frame w w' (fun _ => False) → Gu w → Gu w' := fun w w' hf h => ⟨Gt_stable w w' hf h.1, h.2.1.frame hf, h.2.2.frame hf⟩

def cloneRen : Go.Shelf.Ren := ⟨fun _ => 91, fun | 0 => 0 | 3 => 3 | 4 => 4 | 5 => 5 | 9 => 9 | 37 => 54 | 47 => 84 | n => n, fun n => n⟩
theorem cloneLays : LaysPu.n25 Tryd.prog cloneRen := {
  mixed := by kernel_rfl
  f25 := Tryd.func91.trans (congrArg some (by kernel_rfl))
  t0 := Tryd.underlying0
  a0 := Tryd.isAgg0
  z0 := Tryd.sizeOf0
  v0 := Tryd.zeroValue0
  i0 := by kernel_rfl
  t3 := Tryd.underlying3
  a3 := Tryd.isAgg3
  z3 := Tryd.sizeOf3
  v3 := Tryd.zeroValue3
  i3 := by kernel_rfl
  t4 := Tryd.underlying4
  a4 := Tryd.isAgg4
  z4 := Tryd.sizeOf4
  v4 := Tryd.zeroValue4
  i4 := by kernel_rfl
  t5 := Tryd.underlying5
  a5 := Tryd.isAgg5
  z5 := Tryd.sizeOf5
  v5 := Tryd.zeroValue5
  i5 := by kernel_rfl
  t9 := Tryd.underlying9
  a9 := Tryd.isAgg9
  z9 := Tryd.sizeOf9
  v9 := Tryd.zeroValue9
  i9 := by kernel_rfl
  t37 := Tryd.underlying54
  a37 := Tryd.isAgg54
  z37 := Tryd.sizeOf54
  v37 := Tryd.zeroValue54
  i37 := by kernel_rfl
  t47 := Tryd.underlying84
  a47 := Tryd.isAgg84
  z47 := Tryd.sizeOf84
  v47 := Tryd.zeroValue84
  i47 := by kernel_rfl }
theorem clone_walk (s : ByteArray) (w : World) (hlim : s.size ≤ 281474976710656) : Calls Tryd.prog 91 #[.string s] w fun e w' => e = .returned (.string s) ∧ Below w.heap.size w w' :=
  AnyPu.stringslite_Clone cloneLays s w hlim

set_option maxHeartbeats 4000000 in
theorem syntaxErr_walk (fn s : ByteArray) (w : World) (hlim : s.size ≤ 281474976710656) (hv : ErrVar w 2) :
    Calls Tryd.prog 82 #[.string fn, .string s] w fun e w' => ∃ a, e = .returned (.pointer a) ∧ Below w.heap.size w w' := by
  have mixed : Tryd.prog.follows .mixedOrders = true := by kernel_rfl
  obtain ⟨ev, hv, hev⟩ := hv
  have e25 : ∀ args w, (callFunc 91 args).run Tryd.prog w = .ok (.enter 91 args) w := enters_of Tryd.func91 (by kernel_rfl) rfl
  rcases hev with rfl | ⟨te, pe, rfl⟩
  all_goals (
    have hG : 2 < w.heap.size := cell_lt hv
    have hvd : w.drew.cell? ⟨2, 0, none⟩ = some _ := hv
    go_enter Tryd.func82, Tryd.ntmps82
    go_wp2
    go_region_with_o (
        go_at_fn 91
        refine (clone_walk s _ hlim).mono ?_
        rintro e w2 ⟨rfl, hbel⟩
        have hv2 : w2.cell? ⟨2, 0, none⟩ = some _ := (hbel.cell (show (⟨2, 0, none⟩ : Addr).block < w.drew.heap.size from hG)).trans hvd)
    all_goals (
      go_wp2
      go_ret
      have hs2 : w.heap.size ≤ w2.heap.size := hbel.size
      exact ⟨_, rfl, ((Below.drew (Below.refl _ w)).trans hbel).alloc hs2 _⟩))
set_option maxHeartbeats 4000000 in
theorem rangeErr_walk (fn s : ByteArray) (w : World) (hlim : s.size ≤ 281474976710656) (hv : ErrVar w 3) :
    Calls Tryd.prog 83 #[.string fn, .string s] w fun e w' => ∃ a, e = .returned (.pointer a) ∧ Below w.heap.size w w' := by
  have mixed : Tryd.prog.follows .mixedOrders = true := by kernel_rfl
  obtain ⟨ev, hv, hev⟩ := hv
  have e25 : ∀ args w, (callFunc 91 args).run Tryd.prog w = .ok (.enter 91 args) w := enters_of Tryd.func91 (by kernel_rfl) rfl
  rcases hev with rfl | ⟨te, pe, rfl⟩
  all_goals (
    have hG : 3 < w.heap.size := cell_lt hv
    have hvd : w.drew.cell? ⟨3, 0, none⟩ = some _ := hv
    go_enter Tryd.func83, Tryd.ntmps83
    go_wp2
    go_region_with_o (
        go_at_fn 91
        refine (clone_walk s _ hlim).mono ?_
        rintro e w2 ⟨rfl, hbel⟩
        have hv2 : w2.cell? ⟨3, 0, none⟩ = some _ := (hbel.cell (show (⟨3, 0, none⟩ : Addr).block < w.drew.heap.size from hG)).trans hvd)
    all_goals (
      go_wp2
      go_ret
      have hs2 : w.heap.size ≤ w2.heap.size := hbel.size
      exact ⟨_, rfl, ((Below.drew (Below.refl _ w)).trans hbel).alloc hs2 _⟩))

set_option maxHeartbeats 4000000 in
theorem toErr_walk2 (fn s : ByteArray) (base bits : Int) (w : World) (hlim : s.size ≤ 281474976710656) (hv : ErrVar w 2) :
    Calls Tryd.prog 74 #[.string fn, .string s, .int .i64 base, .int .i64 bits, .iface 101 (.int .i64 2)] w fun e w' => ∃ a, e = .returned (.iface 103 (.pointer a)) ∧ Below w.heap.size w w' := by
  have mixed : Tryd.prog.follows .mixedOrders = true := by kernel_rfl
  have e21 : ∀ args w, (callFunc 82 args).run Tryd.prog w = .ok (.enter 82 args) w := enters_of Tryd.func82 (by kernel_rfl) rfl
  have heq : ∀ W, (binOp .eql 63 (.iface 101 (.int .i64 2)) (.iface 101 (.int .i64 2))).run Tryd.prog W = .ok (.bool true) W := fun W => Lib.run_eql_iface_int W 2 2 Tryd.underlying63 (by kernel_rfl) Tryd.underlying101
  go_enter Tryd.func74, Tryd.ntmps74
  go_wp2_with (go_at_fn 82; refine (syntaxErr_walk fn s _ hlim hv).mono ?_)
  rintro e w2 ⟨N, rfl, h3⟩
  go_wp2
  go_ret
  exact ⟨N, rfl, h3⟩
set_option maxHeartbeats 4000000 in
theorem toErr_walk1 (fn s : ByteArray) (base bits : Int) (w : World) (hlim : s.size ≤ 281474976710656) (hv : ErrVar w 3) :
    Calls Tryd.prog 74 #[.string fn, .string s, .int .i64 base, .int .i64 bits, .iface 101 (.int .i64 1)] w fun e w' => ∃ a, e = .returned (.iface 103 (.pointer a)) ∧ Below w.heap.size w w' := by
  have mixed : Tryd.prog.follows .mixedOrders = true := by kernel_rfl
  have e21 : ∀ args w, (callFunc 83 args).run Tryd.prog w = .ok (.enter 83 args) w := enters_of Tryd.func83 (by kernel_rfl) rfl
  have h12 : ∀ W, (binOp .eql 63 (.iface 101 (.int .i64 1)) (.iface 101 (.int .i64 2))).run Tryd.prog W = .ok (.bool false) W := fun W => Lib.run_eql_iface_int W 1 2 Tryd.underlying63 (by kernel_rfl) Tryd.underlying101
  have h11 : ∀ W, (binOp .eql 63 (.iface 101 (.int .i64 1)) (.iface 101 (.int .i64 1))).run Tryd.prog W = .ok (.bool true) W := fun W => Lib.run_eql_iface_int W 1 1 Tryd.underlying63 (by kernel_rfl) Tryd.underlying101
  go_enter Tryd.func74, Tryd.ntmps74
  go_wp2_with (go_at_fn 83; refine (rangeErr_walk fn s _ hlim hv).mono ?_)
  rintro e w2 ⟨N, rfl, h3⟩
  go_wp2
  go_ret
  exact ⟨N, rfl, h3⟩

def strconv_toError (k : Nat) (fn s : List UInt8) (base bits : Int) (e : Option (Option (Nat × Int))) : Option (Option (Option (Nat × Int))) :=
  if List.length s ≤ lim ∧ (e = some (some (101, 2)) ∨ e = some (some (101, 1))) then some (some none) else none
def C_strconv_toError (k : Nat) : FnC := ⟨false, 1, [], fun | [⟨.str, fn⟩, ⟨.str, s⟩, ⟨.int .i64, base⟩, ⟨.int .i64, bits⟩, ⟨.err, e⟩], [⟨.err, r⟩] => strconv_toError k fn s base bits e = some r | _, _ => False⟩
theorem e_strconv_toError (k : Nat) : Contract Tryd.prog Gu 74 (C_strconv_toError k) where
  enters := enters_of Tryd.func74 (by kernel_rfl) rfl
  shape := fun xs rs h => by
    unfold C_strconv_toError at h
    simp only at h
    split at h
    · exact ⟨rfl, fun hf => by cases hf⟩
    · exact h.elim
  calls := fun w M vs xs rs hG hM h hv => by
    unfold C_strconv_toError at h
    simp only at h
    split at h
    case h_2 => exact h.elim
    rename_i fn s base bits e r
    match vs, hv with
    | [v0, v1, v2, v3, v4], ⟨h0, h1, h2, h3, h4, _⟩ =>
      obtain ⟨rfl, _⟩ := repV_str.1 h0
      obtain ⟨rfl, hs⟩ := repV_str.1 h1
      obtain rfl := repV_int.1 h2
      obtain rfl := repV_int.1 h3
      have h4 := (repV_plain (t := .err) rfl).1 h4
      unfold strconv_toError at h
      split at h
      case isFalse => cases h
      rename_i he
      cases h
      obtain ⟨hl, he⟩ := he
      have hsz : (ByteArray.mk s.toArray).size ≤ 281474976710656 := by
        have e1 : (ByteArray.mk s.toArray).size = List.length s := List.size_toArray
        have hm : lim ≤ 281474976710656 := by decide
        exact Nat.le_trans (Nat.le_of_eq e1) (Nat.le_trans hl hm)
      have fin : ∀ (n : Int), e = some (some (101, n)) → v4 = .iface 101 (.int .i64 n) := by
        intro n hn
        rcases h4 with ⟨q, _⟩ | ⟨q, _⟩ | ⟨u, n', q, q2⟩
        · rw [hn] at q; cases q
        · rw [hn] at q; cases q
        · rw [hn] at q; cases q; simpa using q2
      rcases he with he | he
      · rw [fin 2 he]
        refine (toErr_walk2 ⟨fn.toArray⟩ ⟨s.toArray⟩ base bits w hsz hG.2.1).mono ?_
        rintro e w' ⟨a, rfl, hb⟩
        exact ⟨_, rfl, (repV_plain (t := .err) rfl).2 (.inr (.inl ⟨rfl, _, _, rfl⟩)), Ext.of_below hb⟩
      · rw [fin 1 he]
        refine (toErr_walk1 ⟨fn.toArray⟩ ⟨s.toArray⟩ base bits w hsz hG.2.2).mono ?_
        rintro e w' ⟨a, rfl, hb⟩
        exact ⟨_, rfl, (repV_plain (t := .err) rfl).2 (.inr (.inl ⟨rfl, _, _, rfl⟩)), Ext.of_below hb⟩

/-! The contracts under the longer condition. -/
theorem e_unicode_utf8_DecodeRuneInString (k : Nat) : Contract Tryd.prog Gu 25 (C_unicode_utf8_DecodeRuneInString k) := (d_unicode_utf8_DecodeRuneInString k).weaken Gu_Gt
theorem e_math_bits_TrailingZeros (k : Nat) : Contract Tryd.prog Gu 98 (C_math_bits_TrailingZeros k) := (d_math_bits_TrailingZeros k).weaken Gu_Gt
theorem eb_bld_copyCheck (k : Nat) : BC Tryd.prog Gu 62 (B_bld_copyCheck k) := (b_bld_copyCheck k).weaken Gu_Gt
theorem eb_bld_StringK (k : Nat) : BC Tryd.prog Gu 49 (B_bld_StringK k) := (b_bld_StringK k).weaken Gu_Gt
theorem eb_bld_StringR (k : Nat) : BC Tryd.prog Gu 49 (B_bld_StringR k) := (b_bld_StringR k).weaken Gu_Gt
end Go.Ev
