/- RunesBack: the row's statement and its tied card. No conditions. -/
import Derived.Test.YtciikbiapmbocaaDoorCtRu3
import Derived.Test.YtciikbiapmbocaaDoorPlF
import Derived.Test.YtciikbiapmbocaaDoorTie
import Derived.Test.YtciikbiapmbocaaDoorCards
import Derived.ProofKit
import Derived.PinnedBridge
import Derived.Lay
import Derived.SevenTiedAt
namespace Go.Proofs.YtciikbiapmbocaaDoor
open Go.RowKit Go.ChangeShapes Go.WideShapes Go.ChangeAt Go.Ev
open Go.ChangeMaps (open_string shut_string)

theorem runesBack_own : ownKnob Tryd.prog.godebug = none := by kernel_rfl
theorem runesBack_accept : (Rows.laid_unicode_utf8_acceptRanges : DataW Unit) = Lib.acceptData := by kernel_rfl
theorem runesBack_first : Rows.laid_unicode_utf8_first = Lib.firstData := Pinned.utf8First_eq
theorem runesBack_deb : (Rows.laid_math_bits_deBruijn64tab : DataW Unit) = Lib.tabData .u8 deB := by kernel_rfl

theorem runesBack_walk (x0 : ByteArray) (x1 : Int) (W : World) (hx0 : x0.size ≤ maxLen) (hx1 : -9223372036854775808 ≤ x1 ∧ x1 < 9223372036854775808) (hG : Gt W) :
    Calls Tryd.prog 6 #[.string x0, .int .i64 x1] W fun e w' => e = .returned (.bool true) ∧ Below W.heap.size W w' := by
  have c := (c_l01_RunesBack K_RunesBack).calls W (fun _ => False) [.string x0, .int .i64 x1] [⟨.str, x0.data.toList⟩, ⟨.int .i64, x1⟩] [⟨.bool, true⟩] hG (fun _ h => h.elim) (RunesBack_true' _ _ hx1) ⟨⟨rfl, hx0⟩, rfl, trivial⟩
  refine c.mono ?_
  rintro e w' ⟨v, rfl, hv, hx⟩
  have : v = .bool true := by
    have h3 : [v] = [.bool true] := hv
    simpa using h3
  subst this
  exact ⟨rfl, hx.below⟩

set_option maxRecDepth 100000 in
theorem runesBack_lifted (os : Os) (started : os.Started) (H : Type) (enc : TypeId × Value → H) :
    ReturnsInHanded {} Tryd.checked os 6 .any (fun w args => (Rows.runesBackSpec.pre enc Tryd.prog Tryd.f6 [] false w args ∧ laidMetH Tryd.prog Rows.runesBackRow.laid w) ∧ sizedMet enc Tryd.prog Tryd.f6 (OpenSpec.ofChange Rows.runesBackSpec) false w args)
      (Rows.runesBackSpec.post enc Tryd.prog Tryd.f6 false true false false) := by
  refine returnsInHanded_of_change_and (C := Tryd.checked) (X := fun w _ => laidMetH Tryd.prog Rows.runesBackRow.laid w) (fun _ _ _ hh h => h.of_heap hh) runesBack_own started (by kernel_rfl) Tryd.func6
    (ChangeSpec.witness_shaped (enc := enc) (C := Tryd.checked) (os := os) (X := fun w _ => laidMetH Tryd.prog Rows.runesBackRow.laid w) false (World.laidAll Tryd.prog os Rows.runesBackRow.laid) #[.string ⟨#[]⟩, .int .i64 0] 8 (World.laidAll_os _ _ _)
      (World.shaped_of_ZipB (by kernel_rfl) (by kernel_rfl)) (by kernel_rfl) (by kernel_rfl) (by kernel_rfl)
      (by rw [MakeChecks.laidMetH_plain _ _ _ (by kernel_rfl)]; exact laidMet_laidAll _ (by kernel_rfl) (by kernel_rfl))) ?_
  intro W base args ds gs before hval0 hW _ _ hL _
  have hval : ∀ (j : Nat) t v, Tryd.f6.params[j]? = some t → args[j]? = some v → Value.okWide Tryd.prog W .any base t v := hval0
  have hW' := hW
  obtain ⟨p, q, hA0, hV, rfl, _, _⟩ := hW
  have hA : DataW.TrodAll enc Tryd.prog W 0 (fun _ => true) true Tryd.f6.params.toList args.toList ds p := hA0
  rw [Tryd.params6] at hA hval
  obtain ⟨v0, v1, d0, d1, p0, p1, rfl, rfl, rfl, h0, h1⟩ := trodAll_two hA
  obtain ⟨rfl, rfl⟩ := trodVars_none hV
  obtain ⟨x0, rfl, rfl, rfl, w0⟩ := open_string Tryd.underlying9 (hval 0 9 v0 rfl rfl) h0
  obtain ⟨x1, rfl, rfl, rfl, w1⟩ := open_int Tryd.underlying3 (hval 1 3 v1 rfl rfl) h1
  simp only [List.append_nil] at hW'
  rw [MakeChecks.laidMetH_plain _ _ _ (by kernel_rfl)] at hL
  have hG0 : Gl W := Gl_of_reads (runesBack_first ▸ Lib.laidMet.reads hL (.tail _ (.tail _ (.tail _ (.tail _ (.head _)))))) (runesBack_accept ▸ Lib.laidMet.reads hL (.tail _ (.tail _ (.tail _ (.head _)))))
  have hG : Gt W := Gt_of hG0 (runesBack_deb ▸ Lib.laidMet.reads hL (.tail _ (.head _)))
  have r1 : -9223372036854775808 ≤ x1 ∧ x1 < 9223372036854775808 := wf_i64 w1
  refine (runesBack_walk x0 x1 W w0 r1 hG).mono fun e W' ⟨he, hb⟩ => ?_
  subst he
  exact ⟨_, rfl, _, _, _, [], [], [], hW', trodAll_mk1 (shut_bool Tryd.underlying4 _), trodAll_mk2 (shut_string Tryd.underlying9 w0) (shut_int Tryd.underlying3 w1), rfl, hb.frame _, fun h => by cases h⟩

theorem runesBack_holds : Rows.RunesBackSaid :=
  OpenClaim.holds_of_wide 6 Tryd.f6 rfl rfl rfl rfl rfl rfl rfl ⟨rfl, rfl, rfl, rfl, rfl⟩ rfl rfl rfl rfl rfl (by kernel_rfl) Tryd.func6 (by kernel_rfl)
    (of_decide_eq_true (by kernel_rfl)) (by unfold Func.isWrapper; first | (rw [if_pos (by decide +kernel)]; kernel_rfl) | (rw [if_neg (by decide +kernel)]; exact ⟨rfl, rfl⟩))
    (fun os started H enc _ => runesBack_lifted os started H enc)

theorem runesBack_card_holds : Rows.RunesBackCardSaid :=
  Claim7.holds_tied_plain_at .later [] [.data, .data, .data, .data, .pinned] true (true, "ed7fd6e25a07849abb3a1694c84ccb4cce39eaac69888740cb1fd0969a465add") true runesBack_holds (fun _ h => by cases h) (by kernel_rfl) (fun _ h => by cases h) runesBack_row_tie rfl ⟨rfl, rfl⟩ (by kernel_rfl) rfl
    (fun f fn hf hfn => by
      obtain rfl : f = 6 := Option.some.inj ((show Tryd.prog.funcNamed "cognate/cognatelaw01.RunesBack" = some 6 by kernel_rfl).symm.trans hf) |>.symm
      obtain rfl : fn = Tryd.f6 := (Option.some.inj (Tryd.func6.symm.trans hfn)).symm
      exact ⟨by kernel_rfl, fun j t ht => by
        rw [Tryd.params6] at ht
        have hm : t ∈ ([9, 3] : List Nat) := by simpa using Array.mem_of_getElem? ht
        have hall : (([9, 3] : List Nat).all fun u => !Tryd.prog.wantsStandIn u) = true := by kernel_rfl
        exact (show Tryd.prog.wantsStandIn t = false by simpa using List.all_eq_true.1 hall t hm)⟩)
    (by kernel_rfl)
end Go.Proofs.YtciikbiapmbocaaDoor
