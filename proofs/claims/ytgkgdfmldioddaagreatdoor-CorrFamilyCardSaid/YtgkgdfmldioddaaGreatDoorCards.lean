/-
  DERIVED. GIVEN WITH THE SEED: THE CARDS: each row of YtgkgdfmldioddaaGreatDoorRows.lean that lists a variable, with what it lists TIED to the program's text (the seventh form; the later family's looks); each row that meets fmt, with fmt's text TOLD by the authors' own Lean function (tested against real Go, not proved from fmt's source: count such statements apart). THE CARD IS WHAT COUNTS. Prove the row's statement (the work); the ties are given (YtgkgdfmldioddaaGreatDoorTie.lean); close each card by the builder's one call (the guide's Derived/Test/ToyasCard.lean, 'card_holds'). Laid BY PROGRAM, IN A SANDBOX (cutbox-door.mjs). By AI agents, Wed Nov 11 2026. No macro, syntax, notation, axiom, sorry.
-/
import Derived.Test.YtgkgdfmldioddaaGreatDoorRows
import GoSem.ClaimSeven
namespace Go.Proofs.YtgkgdfmldioddaaGreatDoor
namespace Rows

/-- THE TIED CARD OF 'cognatelaw27.FamilyDown'. -/
def familyDownCard : Claim7 := { stood := { row := familyDownRow, standIns := [], harness := (true, "495827b67510578178ea6517fed22a26021320efd13842912d6f770af4114013"), looks := false }, kinds := [], alts := [], laidByText := true, laidKinds := [.data, .pinned], laidTests := true, laidLooks := .later }
def FamilyDownCardSaid : Prop := Claim7.holds Tryz.pinned (.plain (OpenSpec.ofChange familyDownSpec)) familyDownCard

/-- THE TIED CARD OF 'cognatelaw27.FamilySteps'. -/
def familyStepsCard : Claim7 := { stood := { row := familyStepsRow, standIns := [], harness := (true, "495827b67510578178ea6517fed22a26021320efd13842912d6f770af4114013"), looks := false }, kinds := [], alts := [], laidByText := true, laidKinds := [.data, .pinned], laidTests := true, laidLooks := .later }
def FamilyStepsCardSaid : Prop := Claim7.holds Tryz.pinned (.plain (OpenSpec.ofChange familyStepsSpec)) familyStepsCard

/-- THE TIED CARD OF 'cognatelaw28.CorrFamily'. -/
def corrFamilyCard : Claim7 := { stood := { row := corrFamilyRow, standIns := [], harness := (true, "495827b67510578178ea6517fed22a26021320efd13842912d6f770af4114013"), looks := false }, kinds := [], alts := [], laidByText := true, laidKinds := [.data, .pinned], laidTests := true, laidLooks := .later }
def CorrFamilyCardSaid : Prop := Claim7.holds Tryz.pinned (.plain (OpenSpec.ofChange corrFamilySpec)) corrFamilyCard

/-- THE TIED CARD OF 'cognatelaw28.CorrNames'. -/
def corrNamesCard : Claim7 := { stood := { row := corrNamesRow, standIns := [], harness := (true, "495827b67510578178ea6517fed22a26021320efd13842912d6f770af4114013"), looks := false }, kinds := [], alts := [], laidByText := true, laidKinds := [.data, .pinned], laidTests := true, laidLooks := .later }
def CorrNamesCardSaid : Prop := Claim7.holds Tryz.pinned (.plain (OpenSpec.ofChange corrNamesSpec)) corrNamesCard

/-- THE SECOND FORM's CARD OF 'cognatelaw27.FamilyDown'. -/
def familyDownUptoCard : Claim7 := { stood := { row := familyDownUptoRow, standIns := [], harness := (true, "495827b67510578178ea6517fed22a26021320efd13842912d6f770af4114013"), looks := false }, kinds := [], alts := [], laidByText := true, laidKinds := [.data, .pinned], laidTests := true, laidLooks := .later }
def FamilyDownUptoCardSaid : Prop := Claim7.holds Tryz.pinned (.plain (OpenSpec.upto familyDownSpec)) familyDownUptoCard

/-- THE SECOND FORM's CARD OF 'cognatelaw27.FamilySteps'. -/
def familyStepsUptoCard : Claim7 := { stood := { row := familyStepsUptoRow, standIns := [], harness := (true, "495827b67510578178ea6517fed22a26021320efd13842912d6f770af4114013"), looks := false }, kinds := [], alts := [], laidByText := true, laidKinds := [.data, .pinned], laidTests := true, laidLooks := .later }
def FamilyStepsUptoCardSaid : Prop := Claim7.holds Tryz.pinned (.plain (OpenSpec.upto familyStepsSpec)) familyStepsUptoCard

/-- THE SECOND FORM's CARD OF 'cognatelaw28.CorrFamily'. -/
def corrFamilyUptoCard : Claim7 := { stood := { row := corrFamilyUptoRow, standIns := [], harness := (true, "495827b67510578178ea6517fed22a26021320efd13842912d6f770af4114013"), looks := false }, kinds := [], alts := [], laidByText := true, laidKinds := [.data, .pinned], laidTests := true, laidLooks := .later }
def CorrFamilyUptoCardSaid : Prop := Claim7.holds Tryz.pinned (.plain (OpenSpec.upto corrFamilySpec)) corrFamilyUptoCard

/-- THE SECOND FORM's CARD OF 'cognatelaw28.CorrNames'. -/
def corrNamesUptoCard : Claim7 := { stood := { row := corrNamesUptoRow, standIns := [], harness := (true, "495827b67510578178ea6517fed22a26021320efd13842912d6f770af4114013"), looks := false }, kinds := [], alts := [], laidByText := true, laidKinds := [.data, .pinned], laidTests := true, laidLooks := .later }
def CorrNamesUptoCardSaid : Prop := Claim7.holds Tryz.pinned (.plain (OpenSpec.upto corrNamesSpec)) corrNamesUptoCard
end Rows
end Go.Proofs.YtgkgdfmldioddaaGreatDoor
