/- RunesRows: the row's statement and its tied card. No conditions. -/
import Derived.Test.YtciikbiapmbocaaDoorCtRu3
import Derived.Test.YtciikbiapmbocaaDoorPlF
import Derived.Test.YtciikbiapmbocaaDoorTie
import Derived.Test.YtciikbiapmbocaaDoorCards
import Derived.ProofKit
import Derived.PinnedBridge
import Derived.Lay
import Derived.SevenTiedAt
namespace Go.Proofs.YtciikbiapmbocaaDoor
open Go.RowKit Go.ChangeShapes Go.WideShapes Go.ChangeAt Go.Ev
open Go.ChangeMaps (open_string shut_string)

theorem runesRows_own : ownKnob Tryd.prog.godebug = none := by kernel_rfl
theorem runesRows_accept : (Rows.laid_unicode_utf8_acceptRanges : DataW Unit) = Lib.acceptData := by kernel_rfl
theorem runesRows_first : Rows.laid_unicode_utf8_first = Lib.firstData := Pinned.utf8First_eq
theorem runesRows_deb : (Rows.laid_math_bits_deBruijn64tab : DataW Unit) = Lib.tabData .u8 deB := by kernel_rfl

theorem runesRows_walk (x0 : ByteArray) (x1 : ByteArray) (x2 : ByteArray) (W : World) (hx0 : x0.size ≤ maxLen) (hx1 : x1.size ≤ maxLen) (hx2 : x2.size ≤ maxLen) (hG : Gt W) :
    Calls Tryd.prog 5 #[.string x0, .string x1, .string x2] W fun e w' => e = .returned (.bool true) ∧ Below W.heap.size W w' := by
  have c := (c_l01_RunesRows K_RunesRows).calls W (fun _ => False) [.string x0, .string x1, .string x2] [⟨.str, x0.data.toList⟩, ⟨.str, x1.data.toList⟩, ⟨.str, x2.data.toList⟩] [⟨.bool, true⟩] hG (fun _ h => h.elim) (RunesRows_true' _ _ _) ⟨⟨rfl, hx0⟩, ⟨rfl, hx1⟩, ⟨rfl, hx2⟩, trivial⟩
  refine c.mono ?_
  rintro e w' ⟨v, rfl, hv, hx⟩
  have : v = .bool true := by
    have h3 : [v] = [.bool true] := hv
    simpa using h3
  subst this
  exact ⟨rfl, hx.below⟩

set_option maxRecDepth 100000 in
theorem runesRows_lifted (os : Os) (started : os.Started) (H : Type) (enc : TypeId × Value → H) :
    ReturnsInHanded {} Tryd.checked os 5 .any (fun w args => (Rows.runesRowsSpec.pre enc Tryd.prog Tryd.f5 [] false w args ∧ laidMetH Tryd.prog Rows.runesRowsRow.laid w) ∧ sizedMet enc Tryd.prog Tryd.f5 (OpenSpec.ofChange Rows.runesRowsSpec) false w args)
      (Rows.runesRowsSpec.post enc Tryd.prog Tryd.f5 false true false false) := by
  refine returnsInHanded_of_change_and (C := Tryd.checked) (X := fun w _ => laidMetH Tryd.prog Rows.runesRowsRow.laid w) (fun _ _ _ hh h => h.of_heap hh) runesRows_own started (by kernel_rfl) Tryd.func5
    (ChangeSpec.witness_shaped (enc := enc) (C := Tryd.checked) (os := os) (X := fun w _ => laidMetH Tryd.prog Rows.runesRowsRow.laid w) false (World.laidAll Tryd.prog os Rows.runesRowsRow.laid) #[.string ⟨#[]⟩, .string ⟨#[]⟩, .string ⟨#[]⟩] 8 (World.laidAll_os _ _ _)
      (World.shaped_of_ZipB (by kernel_rfl) (by kernel_rfl)) (by kernel_rfl) (by kernel_rfl) (by kernel_rfl)
      (by rw [MakeChecks.laidMetH_plain _ _ _ (by kernel_rfl)]; exact laidMet_laidAll _ (by kernel_rfl) (by kernel_rfl))) ?_
  intro W base args ds gs before hval0 hW _ _ hL _
  have hval : ∀ (j : Nat) t v, Tryd.f5.params[j]? = some t → args[j]? = some v → Value.okWide Tryd.prog W .any base t v := hval0
  have hW' := hW
  obtain ⟨p, q, hA0, hV, rfl, _, _⟩ := hW
  have hA : DataW.TrodAll enc Tryd.prog W 0 (fun _ => true) true Tryd.f5.params.toList args.toList ds p := hA0
  rw [Tryd.params5] at hA hval
  obtain ⟨v0, v1, v2, d0, d1, d2, p0, p1, p2, rfl, rfl, rfl, h0, h1, h2⟩ := trodAll_three hA
  obtain ⟨rfl, rfl⟩ := trodVars_none hV
  obtain ⟨x0, rfl, rfl, rfl, w0⟩ := open_string Tryd.underlying9 (hval 0 9 v0 rfl rfl) h0
  obtain ⟨x1, rfl, rfl, rfl, w1⟩ := open_string Tryd.underlying9 (hval 1 9 v1 rfl rfl) h1
  obtain ⟨x2, rfl, rfl, rfl, w2⟩ := open_string Tryd.underlying9 (hval 2 9 v2 rfl rfl) h2
  simp only [List.append_nil] at hW'
  rw [MakeChecks.laidMetH_plain _ _ _ (by kernel_rfl)] at hL
  have hG0 : Gl W := Gl_of_reads (runesRows_first ▸ Lib.laidMet.reads hL (.tail _ (.tail _ (.tail _ (.tail _ (.head _)))))) (runesRows_accept ▸ Lib.laidMet.reads hL (.tail _ (.tail _ (.tail _ (.head _)))))
  have hG : Gt W := Gt_of hG0 (runesRows_deb ▸ Lib.laidMet.reads hL (.tail _ (.head _)))
  refine (runesRows_walk x0 x1 x2 W w0 w1 w2 hG).mono fun e W' ⟨he, hb⟩ => ?_
  subst he
  exact ⟨_, rfl, _, _, _, [], [], [], hW', trodAll_mk1 (shut_bool Tryd.underlying4 _), trodAll_mk3 (shut_string Tryd.underlying9 w0) (shut_string Tryd.underlying9 w1) (shut_string Tryd.underlying9 w2), rfl, hb.frame _, fun h => by cases h⟩

theorem runesRows_holds : Rows.RunesRowsSaid :=
  OpenClaim.holds_of_wide 5 Tryd.f5 rfl rfl rfl rfl rfl rfl rfl ⟨rfl, rfl, rfl, rfl, rfl⟩ rfl rfl rfl rfl rfl (by kernel_rfl) Tryd.func5 (by kernel_rfl)
    (of_decide_eq_true (by kernel_rfl)) (by unfold Func.isWrapper; first | (rw [if_pos (by decide +kernel)]; kernel_rfl) | (rw [if_neg (by decide +kernel)]; exact ⟨rfl, rfl⟩))
    (fun os started H enc _ => runesRows_lifted os started H enc)

theorem runesRows_card_holds : Rows.RunesRowsCardSaid :=
  Claim7.holds_tied_plain_at .later [] [.data, .data, .data, .data, .pinned] true (true, "ed7fd6e25a07849abb3a1694c84ccb4cce39eaac69888740cb1fd0969a465add") true runesRows_holds (fun _ h => by cases h) (by kernel_rfl) (fun _ h => by cases h) runesRows_row_tie rfl ⟨rfl, rfl⟩ (by kernel_rfl) rfl
    (fun f fn hf hfn => by
      obtain rfl : f = 5 := Option.some.inj ((show Tryd.prog.funcNamed "cognate/cognatelaw01.RunesRows" = some 5 by kernel_rfl).symm.trans hf) |>.symm
      obtain rfl : fn = Tryd.f5 := (Option.some.inj (Tryd.func5.symm.trans hfn)).symm
      exact ⟨by kernel_rfl, fun j t ht => by
        rw [Tryd.params5] at ht
        have hm : t ∈ ([9, 9, 9] : List Nat) := by simpa using Array.mem_of_getElem? ht
        have hall : (([9, 9, 9] : List Nat).all fun u => !Tryd.prog.wantsStandIn u) = true := by kernel_rfl
        exact (show Tryd.prog.wantsStandIn t = false by simpa using List.all_eq_true.1 hall t hm)⟩)
    (by kernel_rfl)
end Go.Proofs.YtciikbiapmbocaaDoor
