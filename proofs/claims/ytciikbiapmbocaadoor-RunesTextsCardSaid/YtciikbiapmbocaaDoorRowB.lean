/- RunesTexts: the row's statement and its tied card. No conditions. -/
import Derived.Test.YtciikbiapmbocaaDoorCtRu2
import Derived.Test.YtciikbiapmbocaaDoorPlD
import Derived.Test.YtciikbiapmbocaaDoorTie
import Derived.Test.YtciikbiapmbocaaDoorCards
import Derived.ProofKit
import Derived.PinnedBridge
import Derived.Lay
import Derived.SevenTiedAt
namespace Go.Proofs.YtciikbiapmbocaaDoor
open Go.RowKit Go.ChangeShapes Go.WideShapes Go.ChangeAt Go.Ev
open Go.ChangeMaps (open_string shut_string)

theorem runesTexts_own : ownKnob Tryd.prog.godebug = none := by kernel_rfl
theorem runesTexts_accept : (Rows.laid_unicode_utf8_acceptRanges : DataW Unit) = Lib.acceptData := by kernel_rfl
theorem runesTexts_first : Rows.laid_unicode_utf8_first = Lib.firstData := Pinned.utf8First_eq

theorem runesTexts_walk (x0 : ByteArray) (x1 : Int) (x2 : Int) (W : World) (hx0 : x0.size ≤ maxLen) (hG : Gl W) :
    Calls Tryd.prog 4 #[.string x0, .int .i64 x1, .int .i64 x2] W fun e w' => e = .returned (.bool true) ∧ Below W.heap.size W w' := by
  have c := (c_l01_RunesTexts K_RunesTexts).calls W (fun _ => False) [.string x0, .int .i64 x1, .int .i64 x2] [⟨.str, x0.data.toList⟩, ⟨.int .i64, x1⟩, ⟨.int .i64, x2⟩] [⟨.bool, true⟩] hG (fun _ h => h.elim) (RunesTexts_true' _ _ _) ⟨⟨rfl, hx0⟩, rfl, rfl, trivial⟩
  refine c.mono ?_
  rintro e w' ⟨v, rfl, hv, hx⟩
  have : v = .bool true := by
    have h3 : [v] = [.bool true] := hv
    simpa using h3
  subst this
  exact ⟨rfl, hx.below⟩

set_option maxRecDepth 100000 in
theorem runesTexts_lifted (os : Os) (started : os.Started) (H : Type) (enc : TypeId × Value → H) :
    ReturnsInHanded {} Tryd.checked os 4 .any (fun w args => (Rows.runesTextsSpec.pre enc Tryd.prog Tryd.f4 [] false w args ∧ laidMetH Tryd.prog Rows.runesTextsRow.laid w) ∧ sizedMet enc Tryd.prog Tryd.f4 (OpenSpec.ofChange Rows.runesTextsSpec) false w args)
      (Rows.runesTextsSpec.post enc Tryd.prog Tryd.f4 false true false false) := by
  refine returnsInHanded_of_change_and (C := Tryd.checked) (X := fun w _ => laidMetH Tryd.prog Rows.runesTextsRow.laid w) (fun _ _ _ hh h => h.of_heap hh) runesTexts_own started (by kernel_rfl) Tryd.func4
    (ChangeSpec.witness_shaped (enc := enc) (C := Tryd.checked) (os := os) (X := fun w _ => laidMetH Tryd.prog Rows.runesTextsRow.laid w) false (World.laidAll Tryd.prog os Rows.runesTextsRow.laid) #[.string ⟨#[]⟩, .int .i64 0, .int .i64 0] 8 (World.laidAll_os _ _ _)
      (World.shaped_of_ZipB (by kernel_rfl) (by kernel_rfl)) (by kernel_rfl) (by kernel_rfl) (by kernel_rfl)
      (by rw [MakeChecks.laidMetH_plain _ _ _ (by kernel_rfl)]; exact laidMet_laidAll _ (by kernel_rfl) (by kernel_rfl))) ?_
  intro W base args ds gs before hval0 hW _ _ hL _
  have hval : ∀ (j : Nat) t v, Tryd.f4.params[j]? = some t → args[j]? = some v → Value.okWide Tryd.prog W .any base t v := hval0
  have hW' := hW
  obtain ⟨p, q, hA0, hV, rfl, _, _⟩ := hW
  have hA : DataW.TrodAll enc Tryd.prog W 0 (fun _ => true) true Tryd.f4.params.toList args.toList ds p := hA0
  rw [Tryd.params4] at hA hval
  obtain ⟨v0, v1, v2, d0, d1, d2, p0, p1, p2, rfl, rfl, rfl, h0, h1, h2⟩ := trodAll_three hA
  obtain ⟨rfl, rfl⟩ := trodVars_none hV
  obtain ⟨x0, rfl, rfl, rfl, w0⟩ := open_string Tryd.underlying9 (hval 0 9 v0 rfl rfl) h0
  obtain ⟨x1, rfl, rfl, rfl, w1⟩ := open_int Tryd.underlying3 (hval 1 3 v1 rfl rfl) h1
  obtain ⟨x2, rfl, rfl, rfl, w2⟩ := open_int Tryd.underlying3 (hval 2 3 v2 rfl rfl) h2
  simp only [List.append_nil] at hW'
  rw [MakeChecks.laidMetH_plain _ _ _ (by kernel_rfl)] at hL
  have hG : Gl W := Gl_of_reads (runesTexts_first ▸ Lib.laidMet.reads hL (.tail _ (.head _))) (runesTexts_accept ▸ Lib.laidMet.reads hL (.head _))
  refine (runesTexts_walk x0 x1 x2 W w0 hG).mono fun e W' ⟨he, hb⟩ => ?_
  subst he
  exact ⟨_, rfl, _, _, _, [], [], [], hW', trodAll_mk1 (shut_bool Tryd.underlying4 _), trodAll_mk3 (shut_string Tryd.underlying9 w0) (shut_int Tryd.underlying3 w1) (shut_int Tryd.underlying3 w2), rfl, hb.frame _, fun h => by cases h⟩

theorem runesTexts_holds : Rows.RunesTextsSaid :=
  OpenClaim.holds_of_wide 4 Tryd.f4 rfl rfl rfl rfl rfl rfl rfl ⟨rfl, rfl, rfl, rfl, rfl⟩ rfl rfl rfl rfl rfl (by kernel_rfl) Tryd.func4 (by kernel_rfl)
    (of_decide_eq_true (by kernel_rfl)) (by unfold Func.isWrapper; first | (rw [if_pos (by decide +kernel)]; kernel_rfl) | (rw [if_neg (by decide +kernel)]; exact ⟨rfl, rfl⟩))
    (fun os started H enc _ => runesTexts_lifted os started H enc)

theorem runesTexts_card_holds : Rows.RunesTextsCardSaid :=
  Claim7.holds_tied_plain_at .later [] [.data, .pinned] true (true, "ed7fd6e25a07849abb3a1694c84ccb4cce39eaac69888740cb1fd0969a465add") true runesTexts_holds (fun _ h => by cases h) (by kernel_rfl) (fun _ h => by cases h) runesTexts_row_tie rfl ⟨rfl, rfl⟩ (by kernel_rfl) rfl
    (fun f fn hf hfn => by
      obtain rfl : f = 4 := Option.some.inj ((show Tryd.prog.funcNamed "cognate/cognatelaw01.RunesTexts" = some 4 by kernel_rfl).symm.trans hf) |>.symm
      obtain rfl : fn = Tryd.f4 := (Option.some.inj (Tryd.func4.symm.trans hfn)).symm
      exact ⟨by kernel_rfl, fun j t ht => by
        rw [Tryd.params4] at ht
        have hm : t ∈ ([9, 3, 3] : List Nat) := by simpa using Array.mem_of_getElem? ht
        have hall : (([9, 3, 3] : List Nat).all fun u => !Tryd.prog.wantsStandIn u) = true := by kernel_rfl
        exact (show Tryd.prog.wantsStandIn t = false by simpa using List.all_eq_true.1 hall t hm)⟩)
    (by kernel_rfl)
end Go.Proofs.YtciikbiapmbocaaDoor
