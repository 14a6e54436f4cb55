/-
  DERIVED. GIVEN WITH THE SEED: THE CARDS: each row of YteopobecmacgdaaGreatDoorRows.lean that lists a variable, with what it lists TIED to the program's text (the seventh form; the later family's looks); each row that meets fmt, with fmt's text TOLD by the authors' own Lean function (tested against real Go, not proved from fmt's source: count such statements apart). THE CARD IS WHAT COUNTS. Prove the row's statement (the work); the ties are given (YteopobecmacgdaaGreatDoorTie.lean); close each card by the builder's one call (the guide's Derived/Test/ToyasCard.lean, 'card_holds'). Laid BY PROGRAM, IN A SANDBOX (cutbox-door.mjs). By AI agents, Wed Nov 11 2026. No macro, syntax, notation, axiom, sorry.
-/
import Derived.Test.YteopobecmacgdaaGreatDoorRows
import GoSem.ClaimSeven
namespace Go.Proofs.YteopobecmacgdaaGreatDoor
namespace Rows

/-- THE TIED CARD OF 'cognatelaw18.GenerateWay'. -/
def generateWayCard : Claim7 := { stood := { row := generateWayRow, standIns := [], harness := (true, "71b8036f06c464b610c67a51668d563faa5ee9e6c60d1dea641c5cf315011900"), looks := true }, kinds := [], alts := [], laidByText := true, laidKinds := [.data, .pinned], laidTests := true, laidLooks := .later }
def GenerateWayCardSaid : Prop := Claim7.holds Tryz.pinned (.plain (OpenSpec.ofChange generateWaySpec)) generateWayCard

/-- THE TIED CARD OF 'cognatelaw18.GenerateAll'. -/
def generateAllCard : Claim7 := { stood := { row := generateAllRow, standIns := [], harness := (true, "71b8036f06c464b610c67a51668d563faa5ee9e6c60d1dea641c5cf315011900"), looks := true }, kinds := [], alts := [], laidByText := true, laidKinds := [.data, .pinned], laidTests := true, laidLooks := .later }
def GenerateAllCardSaid : Prop := Claim7.holds Tryz.pinned (.plain (OpenSpec.ofChange generateAllSpec)) generateAllCard

/-- THE TIED CARD OF 'cognatelaw23.LoanNames'. -/
def loanNamesCard : Claim7 := { stood := { row := loanNamesRow, standIns := [], harness := (true, "71b8036f06c464b610c67a51668d563faa5ee9e6c60d1dea641c5cf315011900"), looks := true }, kinds := [], alts := [], laidByText := true, laidKinds := [.data, .pinned], laidTests := true, laidLooks := .later }
def LoanNamesCardSaid : Prop := Claim7.holds Tryz.pinned (.plain (OpenSpec.ofChange loanNamesSpec)) loanNamesCard

/-- THE TIED CARD OF 'cognatelaw23.LoanTimes'. -/
def loanTimesCard : Claim7 := { stood := { row := loanTimesRow, standIns := [], harness := (true, "71b8036f06c464b610c67a51668d563faa5ee9e6c60d1dea641c5cf315011900"), looks := true }, kinds := [], alts := [], laidByText := true, laidKinds := [.data, .pinned], laidTests := true, laidLooks := .later }
def LoanTimesCardSaid : Prop := Claim7.holds Tryz.pinned (.plain (OpenSpec.ofChange loanTimesSpec)) loanTimesCard

/-- THE TIED CARD OF 'cognatelaw23.LoanRanks'. -/
def loanRanksCard : Claim7 := { stood := { row := loanRanksRow, standIns := [], harness := (true, "71b8036f06c464b610c67a51668d563faa5ee9e6c60d1dea641c5cf315011900"), looks := true }, kinds := [], alts := [], laidByText := true, laidKinds := [.data, .pinned], laidTests := true, laidLooks := .later }
def LoanRanksCardSaid : Prop := Claim7.holds Tryz.pinned (.plain (OpenSpec.ofChange loanRanksSpec)) loanRanksCard

/-- THE TIED CARD OF 'cognatelaw23.LoanTwins'. -/
def loanTwinsCard : Claim7 := { stood := { row := loanTwinsRow, standIns := [], harness := (true, "71b8036f06c464b610c67a51668d563faa5ee9e6c60d1dea641c5cf315011900"), looks := true }, kinds := [], alts := [], laidByText := true, laidKinds := [.data, .pinned], laidTests := true, laidLooks := .later }
def LoanTwinsCardSaid : Prop := Claim7.holds Tryz.pinned (.plain (OpenSpec.ofChange loanTwinsSpec)) loanTwinsCard

/-- THE TIED CARD OF 'cognatelaw23.LoanFits'. -/
def loanFitsCard : Claim7 := { stood := { row := loanFitsRow, standIns := [], harness := (true, "71b8036f06c464b610c67a51668d563faa5ee9e6c60d1dea641c5cf315011900"), looks := true }, kinds := [], alts := [], laidByText := true, laidKinds := [.data, .pinned], laidTests := true, laidLooks := .later }
def LoanFitsCardSaid : Prop := Claim7.holds Tryz.pinned (.plain (OpenSpec.ofChange loanFitsSpec)) loanFitsCard

/-- THE SECOND FORM's CARD OF 'cognatelaw18.GenerateWay'. -/
def generateWayUptoCard : Claim7 := { stood := { row := generateWayUptoRow, standIns := [], harness := (true, "71b8036f06c464b610c67a51668d563faa5ee9e6c60d1dea641c5cf315011900"), looks := true }, kinds := [], alts := [], laidByText := true, laidKinds := [.data, .pinned], laidTests := true, laidLooks := .later }
def GenerateWayUptoCardSaid : Prop := Claim7.holds Tryz.pinned (.plain (OpenSpec.upto generateWaySpec)) generateWayUptoCard

/-- THE SECOND FORM's CARD OF 'cognatelaw18.GenerateAll'. -/
def generateAllUptoCard : Claim7 := { stood := { row := generateAllUptoRow, standIns := [], harness := (true, "71b8036f06c464b610c67a51668d563faa5ee9e6c60d1dea641c5cf315011900"), looks := true }, kinds := [], alts := [], laidByText := true, laidKinds := [.data, .pinned], laidTests := true, laidLooks := .later }
def GenerateAllUptoCardSaid : Prop := Claim7.holds Tryz.pinned (.plain (OpenSpec.upto generateAllSpec)) generateAllUptoCard

/-- THE SECOND FORM's CARD OF 'cognatelaw23.LoanNames'. -/
def loanNamesUptoCard : Claim7 := { stood := { row := loanNamesUptoRow, standIns := [], harness := (true, "71b8036f06c464b610c67a51668d563faa5ee9e6c60d1dea641c5cf315011900"), looks := true }, kinds := [], alts := [], laidByText := true, laidKinds := [.data, .pinned], laidTests := true, laidLooks := .later }
def LoanNamesUptoCardSaid : Prop := Claim7.holds Tryz.pinned (.plain (OpenSpec.upto loanNamesSpec)) loanNamesUptoCard

/-- THE SECOND FORM's CARD OF 'cognatelaw23.LoanTimes'. -/
def loanTimesUptoCard : Claim7 := { stood := { row := loanTimesUptoRow, standIns := [], harness := (true, "71b8036f06c464b610c67a51668d563faa5ee9e6c60d1dea641c5cf315011900"), looks := true }, kinds := [], alts := [], laidByText := true, laidKinds := [.data, .pinned], laidTests := true, laidLooks := .later }
def LoanTimesUptoCardSaid : Prop := Claim7.holds Tryz.pinned (.plain (OpenSpec.upto loanTimesSpec)) loanTimesUptoCard

/-- THE SECOND FORM's CARD OF 'cognatelaw23.LoanRanks'. -/
def loanRanksUptoCard : Claim7 := { stood := { row := loanRanksUptoRow, standIns := [], harness := (true, "71b8036f06c464b610c67a51668d563faa5ee9e6c60d1dea641c5cf315011900"), looks := true }, kinds := [], alts := [], laidByText := true, laidKinds := [.data, .pinned], laidTests := true, laidLooks := .later }
def LoanRanksUptoCardSaid : Prop := Claim7.holds Tryz.pinned (.plain (OpenSpec.upto loanRanksSpec)) loanRanksUptoCard

/-- THE SECOND FORM's CARD OF 'cognatelaw23.LoanTwins'. -/
def loanTwinsUptoCard : Claim7 := { stood := { row := loanTwinsUptoRow, standIns := [], harness := (true, "71b8036f06c464b610c67a51668d563faa5ee9e6c60d1dea641c5cf315011900"), looks := true }, kinds := [], alts := [], laidByText := true, laidKinds := [.data, .pinned], laidTests := true, laidLooks := .later }
def LoanTwinsUptoCardSaid : Prop := Claim7.holds Tryz.pinned (.plain (OpenSpec.upto loanTwinsSpec)) loanTwinsUptoCard

/-- THE SECOND FORM's CARD OF 'cognatelaw23.LoanFits'. -/
def loanFitsUptoCard : Claim7 := { stood := { row := loanFitsUptoRow, standIns := [], harness := (true, "71b8036f06c464b610c67a51668d563faa5ee9e6c60d1dea641c5cf315011900"), looks := true }, kinds := [], alts := [], laidByText := true, laidKinds := [.data, .pinned], laidTests := true, laidLooks := .later }
def LoanFitsUptoCardSaid : Prop := Claim7.holds Tryz.pinned (.plain (OpenSpec.upto loanFitsSpec)) loanFitsUptoCard
end Rows
end Go.Proofs.YteopobecmacgdaaGreatDoor
