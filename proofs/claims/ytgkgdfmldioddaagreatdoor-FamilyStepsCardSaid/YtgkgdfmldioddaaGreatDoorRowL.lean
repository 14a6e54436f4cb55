/- FamilySteps: the row's statement and its tied card. No conditions. -/
import Derived.Test.YtgkgdfmldioddaaGreatDoorMM4
import Derived.Test.YtgkgdfmldioddaaGreatDoorCtFs
import Derived.Test.YtgkgdfmldioddaaGreatDoorMM9
import Derived.Test.YtgkgdfmldioddaaGreatDoorTie
import Derived.Test.YtgkgdfmldioddaaGreatDoorCards
import Derived.ProofKit
import Derived.PinnedBridge
import Derived.Lay
import Derived.Carry
import Derived.SevenTiedAt
set_option linter.unusedSectionVars false
set_option linter.unusedVariables false
set_option linter.unusedSimpArgs false
namespace Go.Proofs.YtgkgdfmldioddaaGreatDoor
open Go.RowKit Go.ChangeShapes Go.WideShapes Go.ChangeAt Go.Ev
theorem familySteps_own : ownKnob Tryz.prog.godebug = none := by kernel_rfl
theorem familySteps_accept : (Rows.laid_unicode_utf8_acceptRanges : DataW Unit) = Lib.acceptData := by kernel_rfl
theorem familySteps_first : Rows.laid_unicode_utf8_first = Lib.firstData := Pinned.utf8First_eq
theorem familySteps_walk {v0 v1 : Value} {W : World} {x0 : ((List (List UInt8) × List ((Int × Int × Int × Unit)) × Unit) × List ((List UInt8 × Int × List ((List UInt8 × List ((Int × Int × Int × Unit)) × List ((Int × Int × Int × Int × Unit)) × (List ((Int × Int × Int × Int × List (Int) × Unit)) × Unit) × (List ((Int × Int × Int × Int × List (Int) × Unit)) × Unit) × Int × Bool × Unit)) × Unit)) × Unit)} (r0 : repV W (fun _ => False) v0 ((.pair (.pair (.sl .str) (.pair (.sl (.pair (.int .i32) (.pair (.int .u32) (.pair (.int .u32) .unit)))) .unit)) (.pair (.sl (.pair .str (.pair (.int .i64) (.pair (.sl (.pair .str (.pair (.sl (.pair (.int .i32) (.pair (.int .u32) (.pair (.int .u32) .unit)))) (.pair (.sl (.pair (.int .i32) (.pair (.int .i64) (.pair (.int .u32) (.pair (.int .u32) .unit))))) (.pair (.pair (.sl (.pair (.int .u8) (.pair (.int .i32) (.pair (.int .u32) (.pair (.int .u32) (.pair (.sl (.int .i64)) .unit)))))) .unit) (.pair (.pair (.sl (.pair (.int .u8) (.pair (.int .i32) (.pair (.int .u32) (.pair (.int .u32) (.pair (.sl (.int .i64)) .unit)))))) .unit) (.pair (.int .u8) (.pair .bool .unit)))))))) .unit)))) .unit))) x0) {x1 : List UInt8} (r1 : repV W (fun _ => False) v1 (.str) x1) (hG : Gl W) :
  Calls Tryz.prog 4 #[v0, v1] W fun e w' => e = .returned (.bool true) /\ Below W.heap.size W w' := by
 have c := (c_l27_FamilySteps K_FamilySteps).calls W (fun _ => False) [v0, v1] [⟨(.pair (.pair (.sl .str) (.pair (.sl (.pair (.int .i32) (.pair (.int .u32) (.pair (.int .u32) .unit)))) .unit)) (.pair (.sl (.pair .str (.pair (.int .i64) (.pair (.sl (.pair .str (.pair (.sl (.pair (.int .i32) (.pair (.int .u32) (.pair (.int .u32) .unit)))) (.pair (.sl (.pair (.int .i32) (.pair (.int .i64) (.pair (.int .u32) (.pair (.int .u32) .unit))))) (.pair (.pair (.sl (.pair (.int .u8) (.pair (.int .i32) (.pair (.int .u32) (.pair (.int .u32) (.pair (.sl (.int .i64)) .unit)))))) .unit) (.pair (.pair (.sl (.pair (.int .u8) (.pair (.int .i32) (.pair (.int .u32) (.pair (.int .u32) (.pair (.sl (.int .i64)) .unit)))))) .unit) (.pair (.int .u8) (.pair .bool .unit)))))))) .unit)))) .unit)), x0⟩, ⟨.str, x1⟩] [⟨.bool, true⟩] hG (fun _ h => h.elim) (FamilySteps_true' _ _) ⟨r0, r1, trivial⟩
 refine c.mono ?_
 rintro e w' ⟨v, rfl, hv, hx⟩
 have : v = .bool true := by
  have h3 : [v] = [.bool true] := hv
  simpa using h3
 subst this
 exact ⟨rfl, hx.below⟩
set_option maxRecDepth 100000 in
theorem familySteps_lifted (os : Os) (started : os.Started) (H : Type) (enc : TypeId × Value -> H) :
  ReturnsInHanded {} Tryz.checked os 4 .any (fun w args => (Rows.familyStepsSpec.pre enc Tryz.prog Tryz.f4 [] false w args /\ laidMetH Tryz.prog Rows.familyStepsRow.laid w) /\ sizedMet enc Tryz.prog Tryz.f4 (OpenSpec.ofChange Rows.familyStepsSpec) false w args)
   (Rows.familyStepsSpec.post enc Tryz.prog Tryz.f4 false true false false) := by
 refine returnsInHanded_of_change_and (C := Tryz.checked) (X := fun w _ => laidMetH Tryz.prog Rows.familyStepsRow.laid w) (fun _ _ _ hh h => h.of_heap hh) familySteps_own started (by kernel_rfl) Tryz.func4
  (ChangeSpec.witness_shaped (enc := enc) (C := Tryz.checked) (os := os) (X := fun w _ => laidMetH Tryz.prog Rows.familyStepsRow.laid w) false (World.laidAll Tryz.prog os Rows.familyStepsRow.laid) #[.agg #[.slice none 0 0, .slice none 0 0, .slice none 0 0], .string ⟨#[]⟩] 8 (World.laidAll_os _ _ _)
   (World.shaped_of_ZipB (by kernel_rfl) (by kernel_rfl)) (by kernel_rfl) (by kernel_rfl) (by kernel_rfl)
   (by rw [MakeChecks.laidMetH_plain _ _ _ (by kernel_rfl)]; exact laidMet_laidAll _ (by kernel_rfl) (by kernel_rfl))) ?_
 intro W base args ds gs before hval0 hW _ _ hL _
 have hval : ∀ (j : Nat) t v, Tryz.f4.params[j]? = some t -> args[j]? = some v -> Value.okWide Tryz.prog W .any base t v := hval0
 have hW' := hW
 obtain ⟨p, q, hA0, hV, rfl, _, _⟩ := hW
 have hA : DataW.TrodAll enc Tryz.prog W 0 (fun _ => true) true Tryz.f4.params.toList args.toList ds p := hA0
 rw [Tryz.params4] at hA hval
 have hlt := hA.lt
 obtain ⟨v0, v1, d0, d1, p0, p1, rfl, rfl, rfl, h0, h1⟩ := trodAll_two hA
 obtain ⟨rfl, rfl⟩ := trodVars_none hV
 obtain ⟨x0, r0, k0⟩ := open_arg (P := Tryz.prog) (t := 28) (u := (.pair (.pair (.sl .str) (.pair (.sl (.pair (.int .i32) (.pair (.int .u32) (.pair (.int .u32) .unit)))) .unit)) (.pair (.sl (.pair .str (.pair (.int .i64) (.pair (.sl (.pair .str (.pair (.sl (.pair (.int .i32) (.pair (.int .u32) (.pair (.int .u32) .unit)))) (.pair (.sl (.pair (.int .i32) (.pair (.int .i64) (.pair (.int .u32) (.pair (.int .u32) .unit))))) (.pair (.pair (.sl (.pair (.int .u8) (.pair (.int .i32) (.pair (.int .u32) (.pair (.int .u32) (.pair (.sl (.int .i64)) .unit)))))) .unit) (.pair (.pair (.sl (.pair (.int .u8) (.pair (.int .i32) (.pair (.int .u32) (.pair (.int .u32) (.pair (.sl (.int .i64)) .unit)))))) .unit) (.pair (.int .u8) (.pair .bool .unit)))))))) .unit)))) .unit))) (by kernel_rfl) rfl (hval 0 _ v0 rfl rfl) h0
 obtain ⟨x1, r1, k1⟩ := open_arg (P := Tryz.prog) (t := 9) (u := .str) (by kernel_rfl) rfl (hval 1 _ v1 rfl rfl) h1
 simp only [List.append_nil] at hW'
 rw [MakeChecks.laidMetH_plain _ _ _ (by kernel_rfl)] at hL
 have hG0 : Gl W := Gl_of_reads (familySteps_first ▸ Lib.laidMet.reads hL (.tail _ (.head _))) (familySteps_accept ▸ Lib.laidMet.reads hL (.head _))
 refine (familySteps_walk r0 r1 hG0).mono fun e W' ⟨he, hb⟩ => ?_
 subst he
 exact ⟨_, rfl, _, _, _, [], _, [], hW', trodAll_mk1 (shut_bool Tryz.underlying4 _), trodAll_mk2 (Below.trod (by kernel_rfl) (by kernel_rfl) (of_decide_eq_true (by kernel_rfl)) h0 hb (fun x hx => hlt x (by simp [hx]))) (Below.trod (by kernel_rfl) (by kernel_rfl) (of_decide_eq_true (by kernel_rfl)) h1 hb (fun x hx => hlt x (by simp [hx]))), rfl, hb.frame _, fun h => by cases h⟩
theorem familySteps_holds : Rows.FamilyStepsSaid :=
 OpenClaim.holds_of_wide 4 Tryz.f4 rfl rfl rfl rfl rfl rfl rfl ⟨rfl, rfl, rfl, rfl, rfl⟩ rfl rfl rfl rfl rfl (by kernel_rfl) Tryz.func4 (by kernel_rfl)
  (of_decide_eq_true (by kernel_rfl)) (by unfold Func.isWrapper; first | (rw [if_pos (by decide +kernel)]; kernel_rfl) | (rw [if_neg (by decide +kernel)]; exact ⟨rfl, rfl⟩))
  (fun os started H enc _ => familySteps_lifted os started H enc)
theorem familySteps_card_holds : Rows.FamilyStepsCardSaid :=
 Claim7.holds_tied_plain_at .later [] [.data, .pinned] true (true, "495827b67510578178ea6517fed22a26021320efd13842912d6f770af4114013") false familySteps_holds (fun _ h => by cases h) (by kernel_rfl) (fun _ h => by cases h) familySteps_row_tie rfl ⟨rfl, rfl⟩ (by kernel_rfl) rfl
  (fun f fn hf hfn => by
   obtain rfl : f = 4 := Option.some.inj ((show Tryz.prog.funcNamed "cognate/cognatelaw27.FamilySteps" = some 4 by kernel_rfl).symm.trans hf) |>.symm
   obtain rfl : fn = Tryz.f4 := (Option.some.inj (Tryz.func4.symm.trans hfn)).symm
   exact ⟨by kernel_rfl, fun j t ht => by
    rw [Tryz.params4] at ht
    have hm : t ∈ ([28, 9] : List Nat) := by simpa using Array.mem_of_getElem? ht
    have hall : (([28, 9] : List Nat).all fun u => !Tryz.prog.wantsStandIn u) = true := by kernel_rfl
    exact (show Tryz.prog.wantsStandIn t = false by simpa using List.all_eq_true.1 hall t hm)⟩)
  (by kernel_rfl)
end Go.Proofs.YtgkgdfmldioddaaGreatDoor
