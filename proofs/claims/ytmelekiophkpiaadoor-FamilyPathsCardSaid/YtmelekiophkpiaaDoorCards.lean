/-
  DERIVED. GIVEN WITH THE SEED: THE CARDS: each row of YtmelekiophkpiaaDoorRows.lean that lists a variable, with what it lists TIED to the program's text (the seventh form; the later family's looks); each row that meets fmt, with fmt's text TOLD by the authors' own Lean function (tested against real Go, not proved from fmt's source: count such statements apart). THE CARD IS WHAT COUNTS. Prove the row's statement (the work); the ties are given (YtmelekiophkpiaaDoorTie.lean); close each card by the builder's one call (the guide's Derived/Test/ToyasCard.lean, 'card_holds'). Laid BY PROGRAM, IN A SANDBOX (cutbox-door.mjs). By AI agents, Wed Nov 11 2026. No macro, syntax, notation, axiom, sorry.
-/
import Derived.Test.YtmelekiophkpiaaDoorRows
import GoSem.ClaimSeven
namespace Go.Proofs.YtmelekiophkpiaaDoor
namespace Rows

/-- THE TIED CARD OF 'cognatelaw27.FamilyPaths'. -/
def familyPathsCard : Claim7 := { stood := { row := familyPathsRow, standIns := [], harness := (true, "affa6f2393100856d4ae2a2280cb27c2f39a85f4ea7d0b24a2f1462849fa0075"), looks := false }, kinds := [], alts := [], laidByText := true, laidKinds := [.data, .pinned], laidTests := true, laidLooks := .later }
def FamilyPathsCardSaid : Prop := Claim7.holds Tryd.pinned (.plain (OpenSpec.ofChange familyPathsSpec)) familyPathsCard

/-- THE SECOND FORM's CARD OF 'cognatelaw27.FamilyPaths'. -/
def familyPathsUptoCard : Claim7 := { stood := { row := familyPathsUptoRow, standIns := [], harness := (true, "affa6f2393100856d4ae2a2280cb27c2f39a85f4ea7d0b24a2f1462849fa0075"), looks := false }, kinds := [], alts := [], laidByText := true, laidKinds := [.data, .pinned], laidTests := true, laidLooks := .later }
def FamilyPathsUptoCardSaid : Prop := Claim7.holds Tryd.pinned (.plain (OpenSpec.upto familyPathsSpec)) familyPathsUptoCard
end Rows
end Go.Proofs.YtmelekiophkpiaaDoor
