/-
  DERIVED. GIVEN WITH THE SEED: THE CARDS: each row of YtfmcmfjcaljflaaDoorRows.lean that lists a variable, with what it lists TIED to the program's text (the seventh form; the later family's looks); each row that meets fmt, with fmt's text TOLD by the authors' own Lean function (tested against real Go, not proved from fmt's source: count such statements apart). THE CARD IS WHAT COUNTS. Prove the row's statement (the work); the ties are given (YtfmcmfjcaljflaaDoorTie.lean); close each card by the builder's one call (the guide's Derived/Test/ToyasCard.lean, 'card_holds'). Laid BY PROGRAM, IN A SANDBOX (cutbox-door.mjs). By AI agents, Wed Nov 11 2026. No macro, syntax, notation, axiom, sorry.
-/
import Derived.Test.YtfmcmfjcaljflaaDoorRows
import GoSem.ClaimSeven
namespace Go.Proofs.YtfmcmfjcaljflaaDoor
namespace Rows

/-- THE TIED CARD OF 'cognatelaw28.CorrAll'. -/
def corrAllCard : Claim7 := { stood := { row := corrAllRow, standIns := [], harness := (true, "fa5e949a8f8776439c6a40ee052b907f42e75207003b9cd22e098bf8971cc48d"), looks := false }, kinds := [], alts := [], laidByText := true, laidKinds := [.data, .pinned], laidTests := true, laidLooks := .later }
def CorrAllCardSaid : Prop := Claim7.holds Tryd.pinned (.plain (OpenSpec.ofChange corrAllSpec)) corrAllCard

/-- THE SECOND FORM's CARD OF 'cognatelaw28.CorrAll'. -/
def corrAllUptoCard : Claim7 := { stood := { row := corrAllUptoRow, standIns := [], harness := (true, "fa5e949a8f8776439c6a40ee052b907f42e75207003b9cd22e098bf8971cc48d"), looks := false }, kinds := [], alts := [], laidByText := true, laidKinds := [.data, .pinned], laidTests := true, laidLooks := .later }
def CorrAllUptoCardSaid : Prop := Claim7.holds Tryd.pinned (.plain (OpenSpec.upto corrAllSpec)) corrAllUptoCard
end Rows
end Go.Proofs.YtfmcmfjcaljflaaDoor
