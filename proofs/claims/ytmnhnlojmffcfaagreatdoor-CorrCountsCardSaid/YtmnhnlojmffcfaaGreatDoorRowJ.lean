/- CorrCounts: the row's statement and its tied card. No conditions. -/
import Derived.Test.YtmnhnlojmffcfaaGreatDoorMM4
import Derived.Test.YtmnhnlojmffcfaaGreatDoorCtCo3
import Derived.Test.YtmnhnlojmffcfaaGreatDoorMM8
import Derived.Test.YtmnhnlojmffcfaaGreatDoorTie
import Derived.Test.YtmnhnlojmffcfaaGreatDoorCards
import Derived.ProofKit
import Derived.PinnedBridge
import Derived.Lay
import Derived.Carry
import Derived.SevenTiedAt
set_option linter.unusedSectionVars false
set_option linter.unusedVariables false
set_option linter.unusedSimpArgs false
namespace Go.Proofs.YtmnhnlojmffcfaaGreatDoor
open Go.RowKit Go.ChangeShapes Go.WideShapes Go.ChangeAt Go.Ev
theorem corrCounts_own : ownKnob Tryz.prog.godebug = none := by kernel_rfl
theorem corrCounts_accept : (Rows.laid_unicode_utf8_acceptRanges : DataW Unit) = Lib.acceptData := by kernel_rfl
theorem corrCounts_first : Rows.laid_unicode_utf8_first = Lib.firstData := Pinned.utf8First_eq
theorem corrCounts_walk {v0 v1 : Value} {W : World} {x0 : (List (List UInt8) × List ((Int × Int × Int × Unit)) × Unit)} (r0 : repV W (fun _ => False) v0 ((.pair (.sl .str) (.pair (.sl (.pair (.int .i32) (.pair (.int .u32) (.pair (.int .u32) .unit)))) .unit))) x0) {x1 : List (List (List UInt8))} (r1 : repV W (fun _ => False) v1 ((.sl (.arr 2 .str))) x1) (hG : Gl W) (k0 : wfEl ((.pair (.sl .str) (.pair (.sl (.pair (.int .i32) (.pair (.int .u32) (.pair (.int .u32) .unit)))) .unit))) x0) (k1 : wfEl ((.sl (.arr 2 .str))) x1) :
  Calls Tryz.prog 3 #[v0, v1] W fun e w' => e = .returned (.bool true) /\ Below W.heap.size W w' := by
 have c := (c_l28_CorrCounts K_CorrCounts).calls W (fun _ => False) [v0, v1] [⟨(.pair (.sl .str) (.pair (.sl (.pair (.int .i32) (.pair (.int .u32) (.pair (.int .u32) .unit)))) .unit)), x0⟩, ⟨(.sl (.arr 2 .str)), x1⟩] [⟨.bool, true⟩] hG (fun _ h => h.elim) (CorrCounts_true' _ _ k0 k1) ⟨r0, r1, trivial⟩
 refine c.mono ?_
 rintro e w' ⟨v, rfl, hv, hx⟩
 have : v = .bool true := by
  have h3 : [v] = [.bool true] := hv
  simpa using h3
 subst this
 exact ⟨rfl, hx.below⟩
set_option maxRecDepth 100000 in
theorem corrCounts_lifted (os : Os) (started : os.Started) (H : Type) (enc : TypeId × Value -> H) :
  ReturnsInHanded {} Tryz.checked os 3 .any (fun w args => (Rows.corrCountsSpec.pre enc Tryz.prog Tryz.f3 [] false w args /\ laidMetH Tryz.prog Rows.corrCountsRow.laid w) /\ sizedMet enc Tryz.prog Tryz.f3 (OpenSpec.ofChange Rows.corrCountsSpec) false w args)
   (Rows.corrCountsSpec.post enc Tryz.prog Tryz.f3 false true false false) := by
 refine returnsInHanded_of_change_and (C := Tryz.checked) (X := fun w _ => laidMetH Tryz.prog Rows.corrCountsRow.laid w) (fun _ _ _ hh h => h.of_heap hh) corrCounts_own started (by kernel_rfl) Tryz.func3
  (ChangeSpec.witness_shaped (enc := enc) (C := Tryz.checked) (os := os) (X := fun w _ => laidMetH Tryz.prog Rows.corrCountsRow.laid w) false (World.laidAll Tryz.prog os Rows.corrCountsRow.laid) #[.agg #[.slice none 0 0, .slice none 0 0], .slice none 0 0] 8 (World.laidAll_os _ _ _)
   (World.shaped_of_ZipB (by kernel_rfl) (by kernel_rfl)) (by kernel_rfl) (by kernel_rfl) (by kernel_rfl)
   (by rw [MakeChecks.laidMetH_plain _ _ _ (by kernel_rfl)]; exact laidMet_laidAll _ (by kernel_rfl) (by kernel_rfl))) ?_
 intro W base args ds gs before hval0 hW _ _ hL _
 have hval : ∀ (j : Nat) t v, Tryz.f3.params[j]? = some t -> args[j]? = some v -> Value.okWide Tryz.prog W .any base t v := hval0
 have hW' := hW
 obtain ⟨p, q, hA0, hV, rfl, _, _⟩ := hW
 have hA : DataW.TrodAll enc Tryz.prog W 0 (fun _ => true) true Tryz.f3.params.toList args.toList ds p := hA0
 rw [Tryz.params3] at hA hval
 have hlt := hA.lt
 obtain ⟨v0, v1, d0, d1, p0, p1, rfl, rfl, rfl, h0, h1⟩ := trodAll_two hA
 obtain ⟨rfl, rfl⟩ := trodVars_none hV
 obtain ⟨x0, r0, k0⟩ := open_arg (P := Tryz.prog) (t := 25) (u := (.pair (.sl .str) (.pair (.sl (.pair (.int .i32) (.pair (.int .u32) (.pair (.int .u32) .unit)))) .unit))) (by kernel_rfl) rfl (hval 0 _ v0 rfl rfl) h0
 obtain ⟨x1, r1, k1⟩ := open_arg (P := Tryz.prog) (t := 26) (u := (.sl (.arr 2 .str))) (by kernel_rfl) rfl (hval 1 _ v1 rfl rfl) h1
 simp only [List.append_nil] at hW'
 rw [MakeChecks.laidMetH_plain _ _ _ (by kernel_rfl)] at hL
 have hG0 : Gl W := Gl_of_reads (corrCounts_first ▸ Lib.laidMet.reads hL (.tail _ (.head _))) (corrCounts_accept ▸ Lib.laidMet.reads hL (.head _))
 refine (corrCounts_walk r0 r1 hG0 k0 k1).mono fun e W' ⟨he, hb⟩ => ?_
 subst he
 exact ⟨_, rfl, _, _, _, [], _, [], hW', trodAll_mk1 (shut_bool Tryz.underlying4 _), trodAll_mk2 (Below.trod (by kernel_rfl) (by kernel_rfl) (of_decide_eq_true (by kernel_rfl)) h0 hb (fun x hx => hlt x (by simp [hx]))) (Below.trod (by kernel_rfl) (by kernel_rfl) (of_decide_eq_true (by kernel_rfl)) h1 hb (fun x hx => hlt x (by simp [hx]))), rfl, hb.frame _, fun h => by cases h⟩
theorem corrCounts_holds : Rows.CorrCountsSaid :=
 OpenClaim.holds_of_wide 3 Tryz.f3 rfl rfl rfl rfl rfl rfl rfl ⟨rfl, rfl, rfl, rfl, rfl⟩ rfl rfl rfl rfl rfl (by kernel_rfl) Tryz.func3 (by kernel_rfl)
  (of_decide_eq_true (by kernel_rfl)) (by unfold Func.isWrapper; first | (rw [if_pos (by decide +kernel)]; kernel_rfl) | (rw [if_neg (by decide +kernel)]; exact ⟨rfl, rfl⟩))
  (fun os started H enc _ => corrCounts_lifted os started H enc)
theorem corrCounts_card_holds : Rows.CorrCountsCardSaid :=
 Claim7.holds_tied_plain_at .later [] [.data, .pinned] true (true, "f96fad2cea6af16c1889fb366cfc43a0e884605397f7939490bbda828e37ab30") false corrCounts_holds (fun _ h => by cases h) (by kernel_rfl) (fun _ h => by cases h) corrCounts_row_tie rfl ⟨rfl, rfl⟩ (by kernel_rfl) rfl
  (fun f fn hf hfn => by
   obtain rfl : f = 3 := Option.some.inj ((show Tryz.prog.funcNamed "cognate/cognatelaw28.CorrCounts" = some 3 by kernel_rfl).symm.trans hf) |>.symm
   obtain rfl : fn = Tryz.f3 := (Option.some.inj (Tryz.func3.symm.trans hfn)).symm
   exact ⟨by kernel_rfl, fun j t ht => by
    rw [Tryz.params3] at ht
    have hm : t ∈ ([25, 26] : List Nat) := by simpa using Array.mem_of_getElem? ht
    have hall : (([25, 26] : List Nat).all fun u => !Tryz.prog.wantsStandIn u) = true := by kernel_rfl
    exact (show Tryz.prog.wantsStandIn t = false by simpa using List.all_eq_true.1 hall t hm)⟩)
  (by kernel_rfl)
end Go.Proofs.YtmnhnlojmffcfaaGreatDoor
