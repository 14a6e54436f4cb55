/- CorrNames: the row's statement and its tied card. No conditions. -/
import Derived.Test.YtgkgdfmldioddaaGreatDoorMM4
import Derived.Test.YtgkgdfmldioddaaGreatDoorCtCn
import Derived.Test.YtgkgdfmldioddaaGreatDoorMM9
import Derived.Test.YtgkgdfmldioddaaGreatDoorTie
import Derived.Test.YtgkgdfmldioddaaGreatDoorCards
import Derived.ProofKit
import Derived.PinnedBridge
import Derived.Lay
import Derived.Carry
import Derived.SevenTiedAt
set_option linter.unusedSectionVars false
set_option linter.unusedVariables false
set_option linter.unusedSimpArgs false
namespace Go.Proofs.YtgkgdfmldioddaaGreatDoor
open Go.RowKit Go.ChangeShapes Go.WideShapes Go.ChangeAt Go.Ev
theorem corrNames_own : ownKnob Tryz.prog.godebug = none := by kernel_rfl
theorem corrNames_accept : (Rows.laid_unicode_utf8_acceptRanges : DataW Unit) = Lib.acceptData := by kernel_rfl
theorem corrNames_first : Rows.laid_unicode_utf8_first = Lib.firstData := Pinned.utf8First_eq
theorem corrNames_walk0 (k : Nat) (hk : l28_CorrNames k = some true) {W : World}  (hG : Gl W) :
  Calls Tryz.prog 6 #[] W fun e w' => e = .returned (.bool true) /\ Below W.heap.size W w' := by
 have c := (c_l28_CorrNames k).calls W (fun _ => False) [] [] [⟨.bool, true⟩] hG (fun _ h => h.elim) hk trivial
 refine c.mono ?_
 rintro e w' ⟨v, rfl, hv, hx⟩
 have : v = .bool true := by
  have h3 : [v] = [.bool true] := hv
  simpa using h3
 subst this
 exact ⟨rfl, hx.below⟩
theorem corrNames_walk {W : World} (hG : Gl W) :
  Calls Tryz.prog 6 #[] W fun e w' => e = .returned (.bool true) /\ Below W.heap.size W w' := corrNames_walk0 K_CorrNames CorrNames_true' hG
set_option maxRecDepth 100000 in
theorem corrNames_lifted (os : Os) (started : os.Started) (H : Type) (enc : TypeId × Value -> H) :
  ReturnsInHanded {} Tryz.checked os 6 .any (fun w args => (Rows.corrNamesSpec.pre enc Tryz.prog Tryz.f6 [] false w args /\ laidMetH Tryz.prog Rows.corrNamesRow.laid w) /\ sizedMet enc Tryz.prog Tryz.f6 (OpenSpec.ofChange Rows.corrNamesSpec) false w args)
   (Rows.corrNamesSpec.post enc Tryz.prog Tryz.f6 false true false false) := by
 refine returnsInHanded_of_change_and (C := Tryz.checked) (X := fun w _ => laidMetH Tryz.prog Rows.corrNamesRow.laid w) (fun _ _ _ hh h => h.of_heap hh) corrNames_own started (by kernel_rfl) Tryz.func6
  (ChangeSpec.witness_shaped (enc := enc) (C := Tryz.checked) (os := os) (X := fun w _ => laidMetH Tryz.prog Rows.corrNamesRow.laid w) false (World.laidAll Tryz.prog os Rows.corrNamesRow.laid) #[] 8 (World.laidAll_os _ _ _)
   (World.shaped_of_ZipB (by kernel_rfl) (by kernel_rfl)) (by kernel_rfl) (by kernel_rfl) (by kernel_rfl)
   (by rw [MakeChecks.laidMetH_plain _ _ _ (by kernel_rfl)]; exact laidMet_laidAll _ (by kernel_rfl) (by kernel_rfl))) ?_
 intro W base args ds gs before hval0 hW _ _ hL _
 have hval : ∀ (j : Nat) t v, Tryz.f6.params[j]? = some t -> args[j]? = some v -> Value.okWide Tryz.prog W .any base t v := hval0
 have hW' := hW
 obtain ⟨p, q, hA0, hV, rfl, _, _⟩ := hW
 have hA : DataW.TrodAll enc Tryz.prog W 0 (fun _ => true) true Tryz.f6.params.toList args.toList ds p := hA0
 rw [Tryz.params6] at hA hval
 have hlt := hA.lt
 obtain ⟨rfl, rfl, rfl⟩ := trodAll_none hA
 obtain ⟨rfl, rfl⟩ := trodVars_none hV
 rw [MakeChecks.laidMetH_plain _ _ _ (by kernel_rfl)] at hL
 have hG0 : Gl W := Gl_of_reads (corrNames_first ▸ Lib.laidMet.reads hL (.tail _ (.head _))) (corrNames_accept ▸ Lib.laidMet.reads hL (.head _))
 refine (corrNames_walk  hG0).mono fun e W' ⟨he, hb⟩ => ?_
 subst he
 exact ⟨_, rfl, _, _, _, [], _, [], hW', trodAll_mk1 (shut_bool Tryz.underlying4 _), trodAll_mk0 , rfl, hb.frame _, fun h => by cases h⟩
theorem corrNames_holds : Rows.CorrNamesSaid :=
 OpenClaim.holds_of_wide 6 Tryz.f6 rfl rfl rfl rfl rfl rfl rfl ⟨rfl, rfl, rfl, rfl, rfl⟩ rfl rfl rfl rfl rfl (by kernel_rfl) Tryz.func6 (by kernel_rfl)
  (of_decide_eq_true (by kernel_rfl)) (by unfold Func.isWrapper; first | (rw [if_pos (by decide +kernel)]; kernel_rfl) | (rw [if_neg (by decide +kernel)]; exact ⟨rfl, rfl⟩))
  (fun os started H enc _ => corrNames_lifted os started H enc)
theorem corrNames_card_holds : Rows.CorrNamesCardSaid :=
 Claim7.holds_tied_plain_at .later [] [.data, .pinned] true (true, "495827b67510578178ea6517fed22a26021320efd13842912d6f770af4114013") false corrNames_holds (fun _ h => by cases h) (by kernel_rfl) (fun _ h => by cases h) corrNames_row_tie rfl ⟨rfl, rfl⟩ (by kernel_rfl) rfl
  (fun f fn hf hfn => by
   obtain rfl : f = 6 := Option.some.inj ((show Tryz.prog.funcNamed "cognate/cognatelaw28.CorrNames" = some 6 by kernel_rfl).symm.trans hf) |>.symm
   obtain rfl : fn = Tryz.f6 := (Option.some.inj (Tryz.func6.symm.trans hfn)).symm
   exact ⟨by kernel_rfl, fun j t ht => by
    rw [Tryz.params6] at ht
    have hm : t ∈ ([] : List Nat) := by simpa using Array.mem_of_getElem? ht
    have hall : (([] : List Nat).all fun u => !Tryz.prog.wantsStandIn u) = true := by kernel_rfl
    exact (show Tryz.prog.wantsStandIn t = false by simpa using List.all_eq_true.1 hall t hm)⟩)
  (by kernel_rfl)
end Go.Proofs.YtgkgdfmldioddaaGreatDoor
