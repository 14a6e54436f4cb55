/-
  DERIVED. GIVEN WITH THE SEED: THE CARDS: each row of YtciikbiapmbocaaDoorRows.lean that lists a variable, with what it lists TIED to the program's text (the seventh form; the later family's looks); each row that meets fmt, with fmt's text TOLD by the authors' own Lean function (tested against real Go, not proved from fmt's source: count such statements apart). THE CARD IS WHAT COUNTS. Prove the row's statement (the work); the ties are given (YtciikbiapmbocaaDoorTie.lean); close each card by the builder's one call (the guide's Derived/Test/ToyasCard.lean, 'card_holds'). Laid BY PROGRAM, IN A SANDBOX (cutbox-door.mjs). By AI agents, Wed Nov 11 2026. No macro, syntax, notation, axiom, sorry.
-/
import Derived.Test.YtciikbiapmbocaaDoorRows
import GoSem.ClaimSeven
namespace Go.Proofs.YtciikbiapmbocaaDoor
namespace Rows

/-- THE TIED CARD OF 'cognatelaw01.RunesRow'. -/
def runesRowCard : Claim7 := { stood := { row := runesRowRow, standIns := [], harness := (true, "ed7fd6e25a07849abb3a1694c84ccb4cce39eaac69888740cb1fd0969a465add"), looks := true }, kinds := [], alts := [], laidByText := true, laidKinds := [.data, .pinned], laidTests := true, laidLooks := .later }
def RunesRowCardSaid : Prop := Claim7.holds Tryd.pinned (.plain (OpenSpec.ofChange runesRowSpec)) runesRowCard

/-- THE TIED CARD OF 'cognatelaw01.RunesTexts'. -/
def runesTextsCard : Claim7 := { stood := { row := runesTextsRow, standIns := [], harness := (true, "ed7fd6e25a07849abb3a1694c84ccb4cce39eaac69888740cb1fd0969a465add"), looks := true }, kinds := [], alts := [], laidByText := true, laidKinds := [.data, .pinned], laidTests := true, laidLooks := .later }
def RunesTextsCardSaid : Prop := Claim7.holds Tryd.pinned (.plain (OpenSpec.ofChange runesTextsSpec)) runesTextsCard

/-- THE TIED CARD OF 'cognatelaw01.RunesRows'. -/
def runesRowsCard : Claim7 := { stood := { row := runesRowsRow, standIns := [], harness := (true, "ed7fd6e25a07849abb3a1694c84ccb4cce39eaac69888740cb1fd0969a465add"), looks := true }, kinds := [], alts := [], laidByText := true, laidKinds := [.data, .data, .data, .data, .pinned], laidTests := true, laidLooks := .later }
def RunesRowsCardSaid : Prop := Claim7.holds Tryd.pinned (.plain (OpenSpec.ofChange runesRowsSpec)) runesRowsCard

/-- THE TIED CARD OF 'cognatelaw01.RunesBack'. -/
def runesBackCard : Claim7 := { stood := { row := runesBackRow, standIns := [], harness := (true, "ed7fd6e25a07849abb3a1694c84ccb4cce39eaac69888740cb1fd0969a465add"), looks := true }, kinds := [], alts := [], laidByText := true, laidKinds := [.data, .data, .data, .data, .pinned], laidTests := true, laidLooks := .later }
def RunesBackCardSaid : Prop := Claim7.holds Tryd.pinned (.plain (OpenSpec.ofChange runesBackSpec)) runesBackCard

/-- THE TIED CARD OF 'cognatelaw01.RunesQuotes'. -/
def runesQuotesCard : Claim7 := { stood := { row := runesQuotesRow, standIns := [], harness := (true, "ed7fd6e25a07849abb3a1694c84ccb4cce39eaac69888740cb1fd0969a465add"), looks := true }, kinds := [], alts := [], laidByText := true, laidKinds := [.data, .data, .data, .data, .sentinel, .sentinel, .pinned], laidTests := true, laidLooks := .later }
def RunesQuotesCardSaid : Prop := Claim7.holds Tryd.pinned (.plain (OpenSpec.ofChange runesQuotesSpec)) runesQuotesCard

/-- THE TIED CARD OF 'cognatelaw01.RunesPlain'. -/
def runesPlainCard : Claim7 := { stood := { row := runesPlainRow, standIns := [], harness := (true, "ed7fd6e25a07849abb3a1694c84ccb4cce39eaac69888740cb1fd0969a465add"), looks := true }, kinds := [], alts := [], laidByText := true, laidKinds := [.data, .data, .data, .data, .sentinel, .sentinel, .pinned], laidTests := true, laidLooks := .later }
def RunesPlainCardSaid : Prop := Claim7.holds Tryd.pinned (.plain (OpenSpec.ofChange runesPlainSpec)) runesPlainCard

/-- THE TIED CARD OF 'cognatelaw01.RunesNames'. -/
def runesNamesCard : Claim7 := { stood := { row := runesNamesRow, standIns := [], harness := (true, "ed7fd6e25a07849abb3a1694c84ccb4cce39eaac69888740cb1fd0969a465add"), looks := true }, kinds := [], alts := [], laidByText := true, laidKinds := [.data, .data, .data, .data, .sentinel, .sentinel, .pinned], laidTests := true, laidLooks := .later }
def RunesNamesCardSaid : Prop := Claim7.holds Tryd.pinned (.plain (OpenSpec.ofChange runesNamesSpec)) runesNamesCard

/-- THE SECOND FORM's CARD OF 'cognatelaw01.RunesRow'. -/
def runesRowUptoCard : Claim7 := { stood := { row := runesRowUptoRow, standIns := [], harness := (true, "ed7fd6e25a07849abb3a1694c84ccb4cce39eaac69888740cb1fd0969a465add"), looks := true }, kinds := [], alts := [], laidByText := true, laidKinds := [.data, .pinned], laidTests := true, laidLooks := .later }
def RunesRowUptoCardSaid : Prop := Claim7.holds Tryd.pinned (.plain (OpenSpec.upto runesRowSpec)) runesRowUptoCard

/-- THE SECOND FORM's CARD OF 'cognatelaw01.RunesTexts'. -/
def runesTextsUptoCard : Claim7 := { stood := { row := runesTextsUptoRow, standIns := [], harness := (true, "ed7fd6e25a07849abb3a1694c84ccb4cce39eaac69888740cb1fd0969a465add"), looks := true }, kinds := [], alts := [], laidByText := true, laidKinds := [.data, .pinned], laidTests := true, laidLooks := .later }
def RunesTextsUptoCardSaid : Prop := Claim7.holds Tryd.pinned (.plain (OpenSpec.upto runesTextsSpec)) runesTextsUptoCard

/-- THE SECOND FORM's CARD OF 'cognatelaw01.RunesRows'. -/
def runesRowsUptoCard : Claim7 := { stood := { row := runesRowsUptoRow, standIns := [], harness := (true, "ed7fd6e25a07849abb3a1694c84ccb4cce39eaac69888740cb1fd0969a465add"), looks := true }, kinds := [], alts := [], laidByText := true, laidKinds := [.data, .data, .data, .data, .pinned], laidTests := true, laidLooks := .later }
def RunesRowsUptoCardSaid : Prop := Claim7.holds Tryd.pinned (.plain (OpenSpec.upto runesRowsSpec)) runesRowsUptoCard

/-- THE SECOND FORM's CARD OF 'cognatelaw01.RunesBack'. -/
def runesBackUptoCard : Claim7 := { stood := { row := runesBackUptoRow, standIns := [], harness := (true, "ed7fd6e25a07849abb3a1694c84ccb4cce39eaac69888740cb1fd0969a465add"), looks := true }, kinds := [], alts := [], laidByText := true, laidKinds := [.data, .data, .data, .data, .pinned], laidTests := true, laidLooks := .later }
def RunesBackUptoCardSaid : Prop := Claim7.holds Tryd.pinned (.plain (OpenSpec.upto runesBackSpec)) runesBackUptoCard

/-- THE SECOND FORM's CARD OF 'cognatelaw01.RunesQuotes'. -/
def runesQuotesUptoCard : Claim7 := { stood := { row := runesQuotesUptoRow, standIns := [], harness := (true, "ed7fd6e25a07849abb3a1694c84ccb4cce39eaac69888740cb1fd0969a465add"), looks := true }, kinds := [], alts := [], laidByText := true, laidKinds := [.data, .data, .data, .data, .sentinel, .sentinel, .pinned], laidTests := true, laidLooks := .later }
def RunesQuotesUptoCardSaid : Prop := Claim7.holds Tryd.pinned (.plain (OpenSpec.upto runesQuotesSpec)) runesQuotesUptoCard

/-- THE SECOND FORM's CARD OF 'cognatelaw01.RunesPlain'. -/
def runesPlainUptoCard : Claim7 := { stood := { row := runesPlainUptoRow, standIns := [], harness := (true, "ed7fd6e25a07849abb3a1694c84ccb4cce39eaac69888740cb1fd0969a465add"), looks := true }, kinds := [], alts := [], laidByText := true, laidKinds := [.data, .data, .data, .data, .sentinel, .sentinel, .pinned], laidTests := true, laidLooks := .later }
def RunesPlainUptoCardSaid : Prop := Claim7.holds Tryd.pinned (.plain (OpenSpec.upto runesPlainSpec)) runesPlainUptoCard

/-- THE SECOND FORM's CARD OF 'cognatelaw01.RunesNames'. -/
def runesNamesUptoCard : Claim7 := { stood := { row := runesNamesUptoRow, standIns := [], harness := (true, "ed7fd6e25a07849abb3a1694c84ccb4cce39eaac69888740cb1fd0969a465add"), looks := true }, kinds := [], alts := [], laidByText := true, laidKinds := [.data, .data, .data, .data, .sentinel, .sentinel, .pinned], laidTests := true, laidLooks := .later }
def RunesNamesUptoCardSaid : Prop := Claim7.holds Tryd.pinned (.plain (OpenSpec.upto runesNamesSpec)) runesNamesUptoCard
end Rows
end Go.Proofs.YtciikbiapmbocaaDoor
