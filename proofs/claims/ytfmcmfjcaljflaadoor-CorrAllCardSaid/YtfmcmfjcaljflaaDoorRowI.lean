/- CorrAll: the row's statement and its tied card. No conditions. -/
import Derived.Test.YtfmcmfjcaljflaaDoorMM4
import Derived.Test.YtfmcmfjcaljflaaDoorCtCo2
import Derived.Test.YtfmcmfjcaljflaaDoorMM7
import Derived.Test.YtfmcmfjcaljflaaDoorTie
import Derived.Test.YtfmcmfjcaljflaaDoorCards
import Derived.ProofKit
import Derived.PinnedBridge
import Derived.Lay
import Derived.Carry
import Derived.SevenTiedAt
set_option linter.unusedSectionVars false
set_option linter.unusedVariables false
set_option linter.unusedSimpArgs false
namespace Go.Proofs.YtfmcmfjcaljflaaDoor
open Go.RowKit Go.ChangeShapes Go.WideShapes Go.ChangeAt Go.Ev

theorem corrAll_own : ownKnob Tryd.prog.godebug = none := by kernel_rfl
theorem corrAll_accept : (Rows.laid_unicode_utf8_acceptRanges : DataW Unit) = Lib.acceptData := by kernel_rfl
theorem corrAll_first : Rows.laid_unicode_utf8_first = Lib.firstData := Pinned.utf8First_eq

theorem corrAll_walk {v0 v1 : Value} {W : World} {x0 : (List (List UInt8) × List ((Int × Int × Int × Unit)) × Unit)} (r0 : repV W (fun _ => False) v0 ((.pair (.sl .str) (.pair (.sl (.pair (.int .i32) (.pair (.int .u32) (.pair (.int .u32) .unit)))) .unit))) x0) {x1 : List (List (List UInt8))} (r1 : repV W (fun _ => False) v1 ((.sl (.arr 2 .str))) x1) (hG : Gl W) (k0 : wfEl ((.pair (.sl .str) (.pair (.sl (.pair (.int .i32) (.pair (.int .u32) (.pair (.int .u32) .unit)))) .unit))) x0) (k1 : wfEl ((.sl (.arr 2 .str))) x1) :
    Calls Tryd.prog 3 #[v0, v1] W fun e w' => e = .returned (.bool true) ∧ Below W.heap.size W w' := by
  have c := (c_l28_CorrAll K_CorrAll).calls W (fun _ => False) [v0, v1] [⟨(.pair (.sl .str) (.pair (.sl (.pair (.int .i32) (.pair (.int .u32) (.pair (.int .u32) .unit)))) .unit)), x0⟩, ⟨(.sl (.arr 2 .str)), x1⟩] [⟨.bool, true⟩] hG (fun _ h => h.elim) (CorrAll_true' _ _ k0 k1) ⟨r0, r1, trivial⟩
  refine c.mono ?_
  rintro e w' ⟨v, rfl, hv, hx⟩
  have : v = .bool true := by
    have h3 : [v] = [.bool true] := hv
    simpa using h3
  subst this
  exact ⟨rfl, hx.below⟩

set_option maxRecDepth 100000 in
theorem corrAll_lifted (os : Os) (started : os.Started) (H : Type) (enc : TypeId × Value → H) :
    ReturnsInHanded {} Tryd.checked os 3 .any (fun w args => (Rows.corrAllSpec.pre enc Tryd.prog Tryd.f3 [] false w args ∧ laidMetH Tryd.prog Rows.corrAllRow.laid w) ∧ sizedMet enc Tryd.prog Tryd.f3 (OpenSpec.ofChange Rows.corrAllSpec) false w args)
      (Rows.corrAllSpec.post enc Tryd.prog Tryd.f3 false true false false) := by
  refine returnsInHanded_of_change_and (C := Tryd.checked) (X := fun w _ => laidMetH Tryd.prog Rows.corrAllRow.laid w) (fun _ _ _ hh h => h.of_heap hh) corrAll_own started (by kernel_rfl) Tryd.func3
    (ChangeSpec.witness_shaped (enc := enc) (C := Tryd.checked) (os := os) (X := fun w _ => laidMetH Tryd.prog Rows.corrAllRow.laid w) false (World.laidAll Tryd.prog os Rows.corrAllRow.laid) #[.agg #[.slice none 0 0, .slice none 0 0], .slice none 0 0] 8 (World.laidAll_os _ _ _)
      (World.shaped_of_ZipB (by kernel_rfl) (by kernel_rfl)) (by kernel_rfl) (by kernel_rfl) (by kernel_rfl)
      (by rw [MakeChecks.laidMetH_plain _ _ _ (by kernel_rfl)]; exact laidMet_laidAll _ (by kernel_rfl) (by kernel_rfl))) ?_
  intro W base args ds gs before hval0 hW _ _ hL _
  have hval : ∀ (j : Nat) t v, Tryd.f3.params[j]? = some t → args[j]? = some v → Value.okWide Tryd.prog W .any base t v := hval0
  have hW' := hW
  obtain ⟨p, q, hA0, hV, rfl, _, _⟩ := hW
  have hA : DataW.TrodAll enc Tryd.prog W 0 (fun _ => true) true Tryd.f3.params.toList args.toList ds p := hA0
  rw [Tryd.params3] at hA hval
  have hlt := hA.lt
  obtain ⟨v0, v1, d0, d1, p0, p1, rfl, rfl, rfl, h0, h1⟩ := trodAll_two hA
  obtain ⟨rfl, rfl⟩ := trodVars_none hV
  obtain ⟨x0, r0, k0⟩ := open_arg (P := Tryd.prog) (t := 25) (u := (.pair (.sl .str) (.pair (.sl (.pair (.int .i32) (.pair (.int .u32) (.pair (.int .u32) .unit)))) .unit))) (by kernel_rfl) rfl (hval 0 _ v0 rfl rfl) h0
  obtain ⟨x1, r1, k1⟩ := open_arg (P := Tryd.prog) (t := 26) (u := (.sl (.arr 2 .str))) (by kernel_rfl) rfl (hval 1 _ v1 rfl rfl) h1
  simp only [List.append_nil] at hW'
  rw [MakeChecks.laidMetH_plain _ _ _ (by kernel_rfl)] at hL
  have hG0 : Gl W := Gl_of_reads (corrAll_first ▸ Lib.laidMet.reads hL (.tail _ (.head _))) (corrAll_accept ▸ Lib.laidMet.reads hL (.head _))
  refine (corrAll_walk r0 r1 hG0 k0 k1).mono fun e W' ⟨he, hb⟩ => ?_
  subst he
  exact ⟨_, rfl, _, _, _, [], _, [], hW', trodAll_mk1 (shut_bool Tryd.underlying4 _), trodAll_mk2 (Below.trod (by kernel_rfl) (by kernel_rfl) (of_decide_eq_true (by kernel_rfl)) h0 hb (fun x hx => hlt x (by simp [hx]))) (Below.trod (by kernel_rfl) (by kernel_rfl) (of_decide_eq_true (by kernel_rfl)) h1 hb (fun x hx => hlt x (by simp [hx]))), rfl, hb.frame _, fun h => by cases h⟩

theorem corrAll_holds : Rows.CorrAllSaid :=
  OpenClaim.holds_of_wide 3 Tryd.f3 rfl rfl rfl rfl rfl rfl rfl ⟨rfl, rfl, rfl, rfl, rfl⟩ rfl rfl rfl rfl rfl (by kernel_rfl) Tryd.func3 (by kernel_rfl)
    (of_decide_eq_true (by kernel_rfl)) (by unfold Func.isWrapper; first | (rw [if_pos (by decide +kernel)]; kernel_rfl) | (rw [if_neg (by decide +kernel)]; exact ⟨rfl, rfl⟩))
    (fun os started H enc _ => corrAll_lifted os started H enc)

theorem corrAll_card_holds : Rows.CorrAllCardSaid :=
  Claim7.holds_tied_plain_at .later [] [.data, .pinned] true (true, "fa5e949a8f8776439c6a40ee052b907f42e75207003b9cd22e098bf8971cc48d") false corrAll_holds (fun _ h => by cases h) (by kernel_rfl) (fun _ h => by cases h) corrAll_row_tie rfl ⟨rfl, rfl⟩ (by kernel_rfl) rfl
    (fun f fn hf hfn => by
      obtain rfl : f = 3 := Option.some.inj ((show Tryd.prog.funcNamed "cognate/cognatelaw28.CorrAll" = some 3 by kernel_rfl).symm.trans hf) |>.symm
      obtain rfl : fn = Tryd.f3 := (Option.some.inj (Tryd.func3.symm.trans hfn)).symm
      exact ⟨by kernel_rfl, fun j t ht => by
        rw [Tryd.params3] at ht
        have hm : t ∈ ([25, 26] : List Nat) := by simpa using Array.mem_of_getElem? ht
        have hall : (([25, 26] : List Nat).all fun u => !Tryd.prog.wantsStandIn u) = true := by kernel_rfl
        exact (show Tryd.prog.wantsStandIn t = false by simpa using List.all_eq_true.1 hall t hm)⟩)
    (by kernel_rfl)
end Go.Proofs.YtfmcmfjcaljflaaDoor
