/-
  DERIVED. GIVEN WITH THE SEED: THE CARDS: each row of YtmnhnlojmffcfaaGreatDoorRows.lean that lists a variable, with what it lists TIED to the program's text (the seventh form; the later family's looks); each row that meets fmt, with fmt's text TOLD by the authors' own Lean function (tested against real Go, not proved from fmt's source: count such statements apart). THE CARD IS WHAT COUNTS. Prove the row's statement (the work); the ties are given (YtmnhnlojmffcfaaGreatDoorTie.lean); close each card by the builder's one call (the guide's Derived/Test/ToyasCard.lean, 'card_holds'). Laid BY PROGRAM, IN A SANDBOX (cutbox-door.mjs). By AI agents, Wed Nov 11 2026. No macro, syntax, notation, axiom, sorry.
-/
import Derived.Test.YtmnhnlojmffcfaaGreatDoorRows
import GoSem.ClaimSeven
namespace Go.Proofs.YtmnhnlojmffcfaaGreatDoor
namespace Rows

/-- THE TIED CARD OF 'cognatelaw28.CorrCounts'. -/
def corrCountsCard : Claim7 := { stood := { row := corrCountsRow, standIns := [], harness := (true, "f96fad2cea6af16c1889fb366cfc43a0e884605397f7939490bbda828e37ab30"), looks := false }, kinds := [], alts := [], laidByText := true, laidKinds := [.data, .pinned], laidTests := true, laidLooks := .later }
def CorrCountsCardSaid : Prop := Claim7.holds Tryz.pinned (.plain (OpenSpec.ofChange corrCountsSpec)) corrCountsCard

/-- THE SECOND FORM's CARD OF 'cognatelaw28.CorrCounts'. -/
def corrCountsUptoCard : Claim7 := { stood := { row := corrCountsUptoRow, standIns := [], harness := (true, "f96fad2cea6af16c1889fb366cfc43a0e884605397f7939490bbda828e37ab30"), looks := false }, kinds := [], alts := [], laidByText := true, laidKinds := [.data, .pinned], laidTests := true, laidLooks := .later }
def CorrCountsUptoCardSaid : Prop := Claim7.holds Tryz.pinned (.plain (OpenSpec.upto corrCountsSpec)) corrCountsUptoCard
end Rows
end Go.Proofs.YtmnhnlojmffcfaaGreatDoor
