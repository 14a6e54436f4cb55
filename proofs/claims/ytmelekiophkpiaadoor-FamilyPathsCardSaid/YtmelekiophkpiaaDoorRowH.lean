/- FamilyPaths: the row's statement and its tied card. No conditions. -/
import Derived.Test.YtmelekiophkpiaaDoorML1
import Derived.Test.YtmelekiophkpiaaDoorCtFa1
import Derived.Test.YtmelekiophkpiaaDoorMP1
import Derived.Test.YtmelekiophkpiaaDoorME3
import Derived.Test.YtmelekiophkpiaaDoorTie
import Derived.Test.YtmelekiophkpiaaDoorCards
import Derived.ProofKit
import Derived.PinnedBridge
import Derived.Lay
import Derived.Carry
import Derived.SevenTiedAt
namespace Go.Proofs.YtmelekiophkpiaaDoor
open Go.RowKit Go.ChangeShapes Go.WideShapes Go.ChangeAt Go.Ev

theorem familyPaths_own : ownKnob Tryd.prog.godebug = none := by kernel_rfl

theorem familyPaths_walk {v0 v1 v2 : Value} {W : World} {x0 : ((List (List UInt8) × List ((Int × Int × Int × Unit)) × Unit) × List ((List UInt8 × Int × List ((List UInt8 × List ((Int × Int × Int × Unit)) × List ((Int × Int × Int × Int × Unit)) × (List ((Int × Int × Int × Int × List (Int) × Unit)) × Unit) × (List ((Int × Int × Int × Int × List (Int) × Unit)) × Unit) × Int × Bool × Unit)) × Unit)) × Unit)} (r0 : repV W (fun _ => False) v0 ((.pair (.pair (.sl .str) (.pair (.sl (.pair (.int .i32) (.pair (.int .u32) (.pair (.int .u32) .unit)))) .unit)) (.pair (.sl (.pair .str (.pair (.int .i64) (.pair (.sl (.pair .str (.pair (.sl (.pair (.int .i32) (.pair (.int .u32) (.pair (.int .u32) .unit)))) (.pair (.sl (.pair (.int .i32) (.pair (.int .i64) (.pair (.int .u32) (.pair (.int .u32) .unit))))) (.pair (.pair (.sl (.pair (.int .u8) (.pair (.int .i32) (.pair (.int .u32) (.pair (.int .u32) (.pair (.sl (.int .i64)) .unit)))))) .unit) (.pair (.pair (.sl (.pair (.int .u8) (.pair (.int .i32) (.pair (.int .u32) (.pair (.int .u32) (.pair (.sl (.int .i64)) .unit)))))) .unit) (.pair (.int .u8) (.pair .bool .unit)))))))) .unit)))) .unit))) x0) {x1 : Int} (r1 : repV W (fun _ => False) v1 ((.int .i64)) x1) {x2 : Int} (r2 : repV W (fun _ => False) v2 ((.int .i64)) x2) (hG : Gn W) :
    Calls Tryd.prog 3 #[v0, v1, v2] W fun e w' => e = .returned (.bool true) ∧ Below W.heap.size W w' := by
  have c := (c_l27_FamilyPaths K_FamilyPaths).calls W (fun _ => False) [v0, v1, v2] [⟨(.pair (.pair (.sl .str) (.pair (.sl (.pair (.int .i32) (.pair (.int .u32) (.pair (.int .u32) .unit)))) .unit)) (.pair (.sl (.pair .str (.pair (.int .i64) (.pair (.sl (.pair .str (.pair (.sl (.pair (.int .i32) (.pair (.int .u32) (.pair (.int .u32) .unit)))) (.pair (.sl (.pair (.int .i32) (.pair (.int .i64) (.pair (.int .u32) (.pair (.int .u32) .unit))))) (.pair (.pair (.sl (.pair (.int .u8) (.pair (.int .i32) (.pair (.int .u32) (.pair (.int .u32) (.pair (.sl (.int .i64)) .unit)))))) .unit) (.pair (.pair (.sl (.pair (.int .u8) (.pair (.int .i32) (.pair (.int .u32) (.pair (.int .u32) (.pair (.sl (.int .i64)) .unit)))))) .unit) (.pair (.int .u8) (.pair .bool .unit)))))))) .unit)))) .unit)), x0⟩, ⟨(.int .i64), x1⟩, ⟨(.int .i64), x2⟩] [⟨.bool, true⟩] hG (fun _ h => h.elim) (FamilyPaths_true' _ _ _) ⟨r0, r1, r2, trivial⟩
  refine c.mono ?_
  rintro e w' ⟨v, rfl, hv, hx⟩
  have : v = .bool true := by
    have h3 : [v] = [.bool true] := hv
    simpa using h3
  subst this
  exact ⟨rfl, hx.below⟩

set_option maxRecDepth 100000 in
theorem familyPaths_lifted (os : Os) (started : os.Started) (H : Type) (enc : TypeId × Value → H) :
    ReturnsInHanded {} Tryd.checked os 3 .any (fun w args => (Rows.familyPathsSpec.pre enc Tryd.prog Tryd.f3 [] false w args ∧ laidMetH Tryd.prog Rows.familyPathsRow.laid w) ∧ sizedMet enc Tryd.prog Tryd.f3 (OpenSpec.ofChange Rows.familyPathsSpec) false w args)
      (Rows.familyPathsSpec.post enc Tryd.prog Tryd.f3 false true false false) := by
  refine returnsInHanded_of_change_and (C := Tryd.checked) (X := fun w _ => laidMetH Tryd.prog Rows.familyPathsRow.laid w) (fun _ _ _ hh h => h.of_heap hh) familyPaths_own started (by kernel_rfl) Tryd.func3
    (ChangeSpec.witness_shaped (enc := enc) (C := Tryd.checked) (os := os) (X := fun w _ => laidMetH Tryd.prog Rows.familyPathsRow.laid w) false (World.laidAll Tryd.prog os Rows.familyPathsRow.laid) #[.agg #[.slice none 0 0, .slice none 0 0, .slice none 0 0], .int .i64 0, .int .i64 0] 8 (World.laidAll_os _ _ _)
      (World.shaped_of_ZipB (by kernel_rfl) (by kernel_rfl)) (by kernel_rfl) (by kernel_rfl) (by kernel_rfl)
      (by rw [MakeChecks.laidMetH_plain _ _ _ (by kernel_rfl)]; exact laidMet_laidAll _ (by kernel_rfl) (by kernel_rfl))) ?_
  intro W base args ds gs before hval0 hW _ _ hL _
  have hval : ∀ (j : Nat) t v, Tryd.f3.params[j]? = some t → args[j]? = some v → Value.okWide Tryd.prog W .any base t v := hval0
  have hW' := hW
  obtain ⟨p, q, hA0, hV, rfl, _, _⟩ := hW
  have hA : DataW.TrodAll enc Tryd.prog W 0 (fun _ => true) true Tryd.f3.params.toList args.toList ds p := hA0
  rw [Tryd.params3] at hA hval
  have hlt := hA.lt
  obtain ⟨v0, v1, v2, d0, d1, d2, p0, p1, p2, rfl, rfl, rfl, h0, h1, h2⟩ := trodAll_three hA
  obtain ⟨rfl, rfl⟩ := trodVars_none hV
  obtain ⟨x0, r0, k0⟩ := open_arg (P := Tryd.prog) (t := 28) (u := (.pair (.pair (.sl .str) (.pair (.sl (.pair (.int .i32) (.pair (.int .u32) (.pair (.int .u32) .unit)))) .unit)) (.pair (.sl (.pair .str (.pair (.int .i64) (.pair (.sl (.pair .str (.pair (.sl (.pair (.int .i32) (.pair (.int .u32) (.pair (.int .u32) .unit)))) (.pair (.sl (.pair (.int .i32) (.pair (.int .i64) (.pair (.int .u32) (.pair (.int .u32) .unit))))) (.pair (.pair (.sl (.pair (.int .u8) (.pair (.int .i32) (.pair (.int .u32) (.pair (.int .u32) (.pair (.sl (.int .i64)) .unit)))))) .unit) (.pair (.pair (.sl (.pair (.int .u8) (.pair (.int .i32) (.pair (.int .u32) (.pair (.int .u32) (.pair (.sl (.int .i64)) .unit)))))) .unit) (.pair (.int .u8) (.pair .bool .unit)))))))) .unit)))) .unit))) (by kernel_rfl) rfl (hval 0 _ v0 rfl rfl) h0
  obtain ⟨x1, r1, k1⟩ := open_arg (P := Tryd.prog) (t := 3) (u := (.int .i64)) (by kernel_rfl) rfl (hval 1 _ v1 rfl rfl) h1
  obtain ⟨x2, r2, k2⟩ := open_arg (P := Tryd.prog) (t := 3) (u := (.int .i64)) (by kernel_rfl) rfl (hval 2 _ v2 rfl rfl) h2
  simp only [List.append_nil] at hW'
  rw [MakeChecks.laidMetH_plain _ _ _ (by kernel_rfl)] at hL
  have hGn : Gn W := trivial
  refine (familyPaths_walk r0 r1 r2 hGn).mono fun e W' ⟨he, hb⟩ => ?_
  subst he
  exact ⟨_, rfl, _, _, _, [], _, [], hW', trodAll_mk1 (shut_bool Tryd.underlying4 _), trodAll_mk3 (Below.trod (by kernel_rfl) (by kernel_rfl) (of_decide_eq_true (by kernel_rfl)) h0 hb (fun x hx => hlt x (by simp [hx]))) (Below.trod (by kernel_rfl) (by kernel_rfl) (of_decide_eq_true (by kernel_rfl)) h1 hb (fun x hx => hlt x (by simp [hx]))) (Below.trod (by kernel_rfl) (by kernel_rfl) (of_decide_eq_true (by kernel_rfl)) h2 hb (fun x hx => hlt x (by simp [hx]))), rfl, hb.frame _, fun h => by cases h⟩

theorem familyPaths_holds : Rows.FamilyPathsSaid :=
  OpenClaim.holds_of_wide 3 Tryd.f3 rfl rfl rfl rfl rfl rfl rfl ⟨rfl, rfl, rfl, rfl, rfl⟩ rfl rfl rfl rfl rfl (by kernel_rfl) Tryd.func3 (by kernel_rfl)
    (of_decide_eq_true (by kernel_rfl)) (by unfold Func.isWrapper; first | (rw [if_pos (by decide +kernel)]; kernel_rfl) | (rw [if_neg (by decide +kernel)]; exact ⟨rfl, rfl⟩))
    (fun os started H enc _ => familyPaths_lifted os started H enc)

theorem familyPaths_card_holds : Rows.FamilyPathsCardSaid :=
  Claim7.holds_tied_plain_at .later [] [.data, .pinned] true (true, "affa6f2393100856d4ae2a2280cb27c2f39a85f4ea7d0b24a2f1462849fa0075") false familyPaths_holds (fun _ h => by cases h) (by kernel_rfl) (fun _ h => by cases h) familyPaths_row_tie rfl ⟨rfl, rfl⟩ (by kernel_rfl) rfl
    (fun f fn hf hfn => by
      obtain rfl : f = 3 := Option.some.inj ((show Tryd.prog.funcNamed "cognate/cognatelaw27.FamilyPaths" = some 3 by kernel_rfl).symm.trans hf) |>.symm
      obtain rfl : fn = Tryd.f3 := (Option.some.inj (Tryd.func3.symm.trans hfn)).symm
      exact ⟨by kernel_rfl, fun j t ht => by
        rw [Tryd.params3] at ht
        have hm : t ∈ ([28, 3, 3] : List Nat) := by simpa using Array.mem_of_getElem? ht
        have hall : (([28, 3, 3] : List Nat).all fun u => !Tryd.prog.wantsStandIn u) = true := by kernel_rfl
        exact (show Tryd.prog.wantsStandIn t = false by simpa using List.all_eq_true.1 hall t hm)⟩)
    (by kernel_rfl)
end Go.Proofs.YtmelekiophkpiaaDoor
