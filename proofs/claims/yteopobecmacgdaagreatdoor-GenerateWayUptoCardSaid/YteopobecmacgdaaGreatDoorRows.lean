/-
  NARROWER THAN 'FOR EVERY INPUT', by the rows' own cells (each row's printed sentence says how): GenerateWay: laid · GenerateAll: laid · LoanNames: laid · LoanTimes: laid · LoanRanks: laid · LoanTwins: laid · LoanFits: laid.
  DERIVED. THE GIVEN ROWS OF THIS SEAT. 7 by the template 'for every input the law returns true; each argument reads behind the call as it read before'; 0 by the template 'total and deterministic' (their statements: YteopobecmacgdaaGreatDoorTotals.lean).
  GIVEN WITH THE SEED: the statements are not yours to turn. If you find one false, say at which input.
  Laid BY PROGRAM, IN A SANDBOX (cutbox-rows.mjs): the forced cells as the released guide's own fill.sh prints them over the translation 300f4ef41b747d7d… (all of the seat's roots in one cut). By AI agents, Wed Nov 11 2026. No macro, syntax, notation, axiom, sorry.
-/
import Derived.Test.YteopobecmacgdaaGreatDoorChecked
import GoSem.PinnedTables
import GoSem.Claim
import GoSem.ClaimJoined
import GoSem.ClaimMapViews
import Derived.JoinedTies
import Derived.KernelRfl
namespace Go.Proofs.YteopobecmacgdaaGreatDoor
/- THE CELL 'sum', in the pinned program and in every row, IS THE sha256 OF THE DUMP (.gsa) THAT YteopobecmacgdaaGreatDoorProg.lean LOADS. Nothing in Lean hashes anything: it is a label: what it is worth is what the hold of that sum in a sandbox is worth. -/
noncomputable def Tryz.pinned : Pinned := { name := "yteopobecmacgdaagreatdoor", sum := "300f4ef41b747d7d599c8e4e78613ebe0d9153648e5c7c117c96ffde9cb05428", checked := Tryz.checked }
namespace Rows
def none {H : Type} : Left H := { results := [], args := [] }

/- WHAT THE LISTED PACKAGE-LEVEL VARIABLES READ AS WHEN THE CALL BEGINS. Each datum BY PROGRAM (the guide's laid-datum.mjs) off the statement by which the dump's own 'gosem.cut.vars' lays the variable. In a bare row this is a premise. The card (YteopobecmacgdaaGreatDoorCards.lean) ties it to the program's text. -/
def laid_unicode_utf8_acceptRanges {H : Type} : DataW H := .agg [.agg [.lit (.int .u8 128), .lit (.int .u8 191)], .agg [.lit (.int .u8 160), .lit (.int .u8 191)], .agg [.lit (.int .u8 128), .lit (.int .u8 159)], .agg [.lit (.int .u8 144), .lit (.int .u8 191)], .agg [.lit (.int .u8 128), .lit (.int .u8 143)], .agg [.lit (.int .u8 0), .lit (.int .u8 0)], .agg [.lit (.int .u8 0), .lit (.int .u8 0)], .agg [.lit (.int .u8 0), .lit (.int .u8 0)], .agg [.lit (.int .u8 0), .lit (.int .u8 0)], .agg [.lit (.int .u8 0), .lit (.int .u8 0)], .agg [.lit (.int .u8 0), .lit (.int .u8 0)], .agg [.lit (.int .u8 0), .lit (.int .u8 0)], .agg [.lit (.int .u8 0), .lit (.int .u8 0)], .agg [.lit (.int .u8 0), .lit (.int .u8 0)], .agg [.lit (.int .u8 0), .lit (.int .u8 0)], .agg [.lit (.int .u8 0), .lit (.int .u8 0)]]
/-- One of Go's own tables, pinned by name: the form's constant. -/
def laid_unicode_utf8_first : DataW Unit := Go.Pinned.utf8First

/-- 'cognatelaw18.GenerateWay': WHATEVER THE INPUT: true; the input reads as it did. -/
def generateWaySpec : ChangeSpec := { name := "generateWay", fn := fun _ => fun
  | [d1, d2, d3] => { results := [.lit (.bool true)], args := [d1, d2, d3] }
  | _ => none }
def generateWayRow : OpenClaim := { program := "yteopobecmacgdaagreatdoor", sum := "300f4ef41b747d7d599c8e4e78613ebe0d9153648e5c7c117c96ffde9cb05428", func := "cognate/cognatelaw18.GenerateWay", spec := "generateWay", inPlace := ["internal/bytealg.IndexByteString", "internal/bytealg.IndexString", "internal/abi.NoEscape"], unfollowed := true, recurses := true, named := ["unicode/utf8.first", "unicode/utf8.acceptRanges", "internal/bytealg.MaxLen"], plainKeys := false, apart := false, laid := [("unicode/utf8.acceptRanges", laid_unicode_utf8_acceptRanges), ("unicode/utf8.first", laid_unicode_utf8_first)] }
def GenerateWaySaid : Prop := generateWayRow.holds Tryz.pinned (OpenSpec.ofChange generateWaySpec)

/-- ITS FALSE NEIGHBOUR: 'it returns false'. Refute it at one input. -/
def generateWayWrong : ChangeSpec := { name := "generateWay", fn := fun _ => fun
  | [d1, d2, d3] => { results := [.lit (.bool false)], args := [d1, d2, d3] }
  | _ => none }
def GenerateWayWrongFalsely : Prop := generateWayRow.holds Tryz.pinned (OpenSpec.ofChange generateWayWrong)

/-- 'cognatelaw18.GenerateAll': WHATEVER THE INPUT: true; the input reads as it did. -/
def generateAllSpec : ChangeSpec := { name := "generateAll", fn := fun _ => fun
  | [d1, d2, d3] => { results := [.lit (.bool true)], args := [d1, d2, d3] }
  | _ => none }
def generateAllRow : OpenClaim := { program := "yteopobecmacgdaagreatdoor", sum := "300f4ef41b747d7d599c8e4e78613ebe0d9153648e5c7c117c96ffde9cb05428", func := "cognate/cognatelaw18.GenerateAll", spec := "generateAll", inPlace := ["internal/bytealg.IndexByteString", "internal/bytealg.IndexString", "internal/abi.NoEscape"], unfollowed := true, recurses := true, named := ["unicode/utf8.first", "unicode/utf8.acceptRanges", "internal/bytealg.MaxLen"], plainKeys := false, apart := false, laid := [("unicode/utf8.acceptRanges", laid_unicode_utf8_acceptRanges), ("unicode/utf8.first", laid_unicode_utf8_first)] }
def GenerateAllSaid : Prop := generateAllRow.holds Tryz.pinned (OpenSpec.ofChange generateAllSpec)

/-- ITS FALSE NEIGHBOUR: 'it returns false'. Refute it at one input. -/
def generateAllWrong : ChangeSpec := { name := "generateAll", fn := fun _ => fun
  | [d1, d2, d3] => { results := [.lit (.bool false)], args := [d1, d2, d3] }
  | _ => none }
def GenerateAllWrongFalsely : Prop := generateAllRow.holds Tryz.pinned (OpenSpec.ofChange generateAllWrong)

/-- 'cognatelaw23.LoanNames': WHATEVER THE INPUT: true; the input reads as it did. -/
def loanNamesSpec : ChangeSpec := { name := "loanNames", fn := fun _ => fun
  | [] => { results := [.lit (.bool true)], args := [] }
  | _ => none }
def loanNamesRow : OpenClaim := { program := "yteopobecmacgdaagreatdoor", sum := "300f4ef41b747d7d599c8e4e78613ebe0d9153648e5c7c117c96ffde9cb05428", func := "cognate/cognatelaw23.LoanNames", spec := "loanNames", inPlace := ["internal/bytealg.IndexByteString", "internal/bytealg.IndexString", "internal/abi.NoEscape"], unfollowed := true, recurses := true, named := ["unicode/utf8.first", "unicode/utf8.acceptRanges", "internal/bytealg.MaxLen"], plainKeys := false, apart := false, laid := [("unicode/utf8.acceptRanges", laid_unicode_utf8_acceptRanges), ("unicode/utf8.first", laid_unicode_utf8_first)] }
def LoanNamesSaid : Prop := loanNamesRow.holds Tryz.pinned (OpenSpec.ofChange loanNamesSpec)

/-- ITS FALSE NEIGHBOUR: 'it returns false'. Refute it at one input. -/
def loanNamesWrong : ChangeSpec := { name := "loanNames", fn := fun _ => fun
  | [] => { results := [.lit (.bool false)], args := [] }
  | _ => none }
def LoanNamesWrongFalsely : Prop := loanNamesRow.holds Tryz.pinned (OpenSpec.ofChange loanNamesWrong)

/-- 'cognatelaw23.LoanTimes': WHATEVER THE INPUT: true; the input reads as it did. -/
def loanTimesSpec : ChangeSpec := { name := "loanTimes", fn := fun _ => fun
  | [d1, d2, d3, d4] => { results := [.lit (.bool true)], args := [d1, d2, d3, d4] }
  | _ => none }
def loanTimesRow : OpenClaim := { program := "yteopobecmacgdaagreatdoor", sum := "300f4ef41b747d7d599c8e4e78613ebe0d9153648e5c7c117c96ffde9cb05428", func := "cognate/cognatelaw23.LoanTimes", spec := "loanTimes", inPlace := ["internal/bytealg.IndexByteString", "internal/bytealg.IndexString", "internal/abi.NoEscape"], unfollowed := true, recurses := true, named := ["unicode/utf8.first", "unicode/utf8.acceptRanges", "internal/bytealg.MaxLen"], plainKeys := false, apart := false, laid := [("unicode/utf8.acceptRanges", laid_unicode_utf8_acceptRanges), ("unicode/utf8.first", laid_unicode_utf8_first)] }
def LoanTimesSaid : Prop := loanTimesRow.holds Tryz.pinned (OpenSpec.ofChange loanTimesSpec)

/-- ITS FALSE NEIGHBOUR: 'it returns false'. Refute it at one input. -/
def loanTimesWrong : ChangeSpec := { name := "loanTimes", fn := fun _ => fun
  | [d1, d2, d3, d4] => { results := [.lit (.bool false)], args := [d1, d2, d3, d4] }
  | _ => none }
def LoanTimesWrongFalsely : Prop := loanTimesRow.holds Tryz.pinned (OpenSpec.ofChange loanTimesWrong)

/-- 'cognatelaw23.LoanRanks': WHATEVER THE INPUT: true; the input reads as it did. -/
def loanRanksSpec : ChangeSpec := { name := "loanRanks", fn := fun _ => fun
  | [d1, d2, d3, d4] => { results := [.lit (.bool true)], args := [d1, d2, d3, d4] }
  | _ => none }
def loanRanksRow : OpenClaim := { program := "yteopobecmacgdaagreatdoor", sum := "300f4ef41b747d7d599c8e4e78613ebe0d9153648e5c7c117c96ffde9cb05428", func := "cognate/cognatelaw23.LoanRanks", spec := "loanRanks", inPlace := ["internal/bytealg.IndexByteString", "internal/bytealg.IndexString", "internal/abi.NoEscape"], unfollowed := true, recurses := true, named := ["unicode/utf8.first", "unicode/utf8.acceptRanges", "internal/bytealg.MaxLen"], plainKeys := false, apart := false, laid := [("unicode/utf8.acceptRanges", laid_unicode_utf8_acceptRanges), ("unicode/utf8.first", laid_unicode_utf8_first)] }
def LoanRanksSaid : Prop := loanRanksRow.holds Tryz.pinned (OpenSpec.ofChange loanRanksSpec)

/-- ITS FALSE NEIGHBOUR: 'it returns false'. Refute it at one input. -/
def loanRanksWrong : ChangeSpec := { name := "loanRanks", fn := fun _ => fun
  | [d1, d2, d3, d4] => { results := [.lit (.bool false)], args := [d1, d2, d3, d4] }
  | _ => none }
def LoanRanksWrongFalsely : Prop := loanRanksRow.holds Tryz.pinned (OpenSpec.ofChange loanRanksWrong)

/-- 'cognatelaw23.LoanTwins': WHATEVER THE INPUT: true; the input reads as it did. -/
def loanTwinsSpec : ChangeSpec := { name := "loanTwins", fn := fun _ => fun
  | [d1, d2] => { results := [.lit (.bool true)], args := [d1, d2] }
  | _ => none }
def loanTwinsRow : OpenClaim := { program := "yteopobecmacgdaagreatdoor", sum := "300f4ef41b747d7d599c8e4e78613ebe0d9153648e5c7c117c96ffde9cb05428", func := "cognate/cognatelaw23.LoanTwins", spec := "loanTwins", inPlace := ["internal/bytealg.IndexByteString", "internal/bytealg.IndexString", "internal/abi.NoEscape"], unfollowed := true, recurses := true, named := ["unicode/utf8.first", "unicode/utf8.acceptRanges", "internal/bytealg.MaxLen"], plainKeys := false, apart := false, laid := [("unicode/utf8.acceptRanges", laid_unicode_utf8_acceptRanges), ("unicode/utf8.first", laid_unicode_utf8_first)] }
def LoanTwinsSaid : Prop := loanTwinsRow.holds Tryz.pinned (OpenSpec.ofChange loanTwinsSpec)

/-- ITS FALSE NEIGHBOUR: 'it returns false'. Refute it at one input. -/
def loanTwinsWrong : ChangeSpec := { name := "loanTwins", fn := fun _ => fun
  | [d1, d2] => { results := [.lit (.bool false)], args := [d1, d2] }
  | _ => none }
def LoanTwinsWrongFalsely : Prop := loanTwinsRow.holds Tryz.pinned (OpenSpec.ofChange loanTwinsWrong)

/-- 'cognatelaw23.LoanFits': WHATEVER THE INPUT: true; the input reads as it did. -/
def loanFitsSpec : ChangeSpec := { name := "loanFits", fn := fun _ => fun
  | [d1, d2, d3] => { results := [.lit (.bool true)], args := [d1, d2, d3] }
  | _ => none }
def loanFitsRow : OpenClaim := { program := "yteopobecmacgdaagreatdoor", sum := "300f4ef41b747d7d599c8e4e78613ebe0d9153648e5c7c117c96ffde9cb05428", func := "cognate/cognatelaw23.LoanFits", spec := "loanFits", inPlace := ["internal/bytealg.IndexByteString", "internal/bytealg.IndexString", "internal/abi.NoEscape"], unfollowed := true, recurses := true, named := ["unicode/utf8.first", "unicode/utf8.acceptRanges", "internal/bytealg.MaxLen"], plainKeys := false, apart := false, laid := [("unicode/utf8.acceptRanges", laid_unicode_utf8_acceptRanges), ("unicode/utf8.first", laid_unicode_utf8_first)] }
def LoanFitsSaid : Prop := loanFitsRow.holds Tryz.pinned (OpenSpec.ofChange loanFitsSpec)

/-- ITS FALSE NEIGHBOUR: 'it returns false'. Refute it at one input. -/
def loanFitsWrong : ChangeSpec := { name := "loanFits", fn := fun _ => fun
  | [d1, d2, d3] => { results := [.lit (.bool false)], args := [d1, d2, d3] }
  | _ => none }
def LoanFitsWrongFalsely : Prop := loanFitsRow.holds Tryz.pinned (OpenSpec.ofChange loanFitsWrong)

/- THE SECOND FORM. 'bulk': how many values and letters a reading holds, each counted each time it is reached (what is shared counts as often as it is met; a slice's spare places count too). A statement '..UptoSaid' is the law's where the arguments, and the package variables that the reading takes, are together of bulk at most 1048576: NARROWER than '..Said'. Prove '..Said' where nothing that the law and all that it calls make is longer than what came in: it says more and counts as full. Else prove '..UptoSaid'. A law counts once. -/
mutual
def uptoBulk {H : Type} : DataW H → Nat
  | .lit (.string bytes) => bytes.length + 1
  | .lit _ => 1
  | .nil => 1
  | .ptr d => uptoBulk d + 1
  | .slice elems spare => uptoBulkAll elems + uptoBulkAll spare + 1
  | .agg parts => uptoBulkAll parts + 1
  | .iface _ d => uptoBulk d + 1
  | .map entries => uptoBulkEntries entries + 1
  | .held _ => 1
def uptoBulkAll {H : Type} : List (DataW H) → Nat
  | [] => 0
  | d :: r => uptoBulk d + uptoBulkAll r
def uptoBulkEntries {H : Type} : List (Lit × DataW H) → Nat
  | [] => 0
  | x :: r => uptoBulkEntry x + uptoBulkEntries r
def uptoBulkEntry {H : Type} : Lit × DataW H → Nat
  | (.string bytes, d) => bytes.length + uptoBulk d + 1
  | (_, d) => uptoBulk d + 1
 end
def uptoSmall : (H : Type) → List (DataW H) → Bool := fun _ ds => decide (uptoBulkAll ds ≤ 1048576)
def OpenSpec.upto (s : _root_.Go.ChangeSpec) : _root_.Go.OpenSpec := { _root_.Go.OpenSpec.ofChange s with cond := some uptoSmall }

/-- 'cognatelaw18.GenerateWay', WHERE WHAT IT READS IS OF BULK AT MOST 1048576: true; the input reads as it did. -/
def generateWayUptoRow : OpenClaim := { program := "yteopobecmacgdaagreatdoor", sum := "300f4ef41b747d7d599c8e4e78613ebe0d9153648e5c7c117c96ffde9cb05428", func := "cognate/cognatelaw18.GenerateWay", spec := "generateWay", inPlace := ["internal/bytealg.IndexByteString", "internal/bytealg.IndexString", "internal/abi.NoEscape"], unfollowed := true, recurses := true, named := ["unicode/utf8.first", "unicode/utf8.acceptRanges", "internal/bytealg.MaxLen"], plainKeys := false, apart := false, laid := [("unicode/utf8.acceptRanges", laid_unicode_utf8_acceptRanges), ("unicode/utf8.first", laid_unicode_utf8_first)], narrowed := true }
def GenerateWayUptoSaid : Prop := generateWayUptoRow.holds Tryz.pinned (OpenSpec.upto generateWaySpec)

/-- 'cognatelaw18.GenerateAll', WHERE WHAT IT READS IS OF BULK AT MOST 1048576: true; the input reads as it did. -/
def generateAllUptoRow : OpenClaim := { program := "yteopobecmacgdaagreatdoor", sum := "300f4ef41b747d7d599c8e4e78613ebe0d9153648e5c7c117c96ffde9cb05428", func := "cognate/cognatelaw18.GenerateAll", spec := "generateAll", inPlace := ["internal/bytealg.IndexByteString", "internal/bytealg.IndexString", "internal/abi.NoEscape"], unfollowed := true, recurses := true, named := ["unicode/utf8.first", "unicode/utf8.acceptRanges", "internal/bytealg.MaxLen"], plainKeys := false, apart := false, laid := [("unicode/utf8.acceptRanges", laid_unicode_utf8_acceptRanges), ("unicode/utf8.first", laid_unicode_utf8_first)], narrowed := true }
def GenerateAllUptoSaid : Prop := generateAllUptoRow.holds Tryz.pinned (OpenSpec.upto generateAllSpec)

/-- 'cognatelaw23.LoanNames', WHERE WHAT IT READS IS OF BULK AT MOST 1048576: true; the input reads as it did. -/
def loanNamesUptoRow : OpenClaim := { program := "yteopobecmacgdaagreatdoor", sum := "300f4ef41b747d7d599c8e4e78613ebe0d9153648e5c7c117c96ffde9cb05428", func := "cognate/cognatelaw23.LoanNames", spec := "loanNames", inPlace := ["internal/bytealg.IndexByteString", "internal/bytealg.IndexString", "internal/abi.NoEscape"], unfollowed := true, recurses := true, named := ["unicode/utf8.first", "unicode/utf8.acceptRanges", "internal/bytealg.MaxLen"], plainKeys := false, apart := false, laid := [("unicode/utf8.acceptRanges", laid_unicode_utf8_acceptRanges), ("unicode/utf8.first", laid_unicode_utf8_first)], narrowed := true }
def LoanNamesUptoSaid : Prop := loanNamesUptoRow.holds Tryz.pinned (OpenSpec.upto loanNamesSpec)

/-- 'cognatelaw23.LoanTimes', WHERE WHAT IT READS IS OF BULK AT MOST 1048576: true; the input reads as it did. -/
def loanTimesUptoRow : OpenClaim := { program := "yteopobecmacgdaagreatdoor", sum := "300f4ef41b747d7d599c8e4e78613ebe0d9153648e5c7c117c96ffde9cb05428", func := "cognate/cognatelaw23.LoanTimes", spec := "loanTimes", inPlace := ["internal/bytealg.IndexByteString", "internal/bytealg.IndexString", "internal/abi.NoEscape"], unfollowed := true, recurses := true, named := ["unicode/utf8.first", "unicode/utf8.acceptRanges", "internal/bytealg.MaxLen"], plainKeys := false, apart := false, laid := [("unicode/utf8.acceptRanges", laid_unicode_utf8_acceptRanges), ("unicode/utf8.first", laid_unicode_utf8_first)], narrowed := true }
def LoanTimesUptoSaid : Prop := loanTimesUptoRow.holds Tryz.pinned (OpenSpec.upto loanTimesSpec)

/-- 'cognatelaw23.LoanRanks', WHERE WHAT IT READS IS OF BULK AT MOST 1048576: true; the input reads as it did. -/
def loanRanksUptoRow : OpenClaim := { program := "yteopobecmacgdaagreatdoor", sum := "300f4ef41b747d7d599c8e4e78613ebe0d9153648e5c7c117c96ffde9cb05428", func := "cognate/cognatelaw23.LoanRanks", spec := "loanRanks", inPlace := ["internal/bytealg.IndexByteString", "internal/bytealg.IndexString", "internal/abi.NoEscape"], unfollowed := true, recurses := true, named := ["unicode/utf8.first", "unicode/utf8.acceptRanges", "internal/bytealg.MaxLen"], plainKeys := false, apart := false, laid := [("unicode/utf8.acceptRanges", laid_unicode_utf8_acceptRanges), ("unicode/utf8.first", laid_unicode_utf8_first)], narrowed := true }
def LoanRanksUptoSaid : Prop := loanRanksUptoRow.holds Tryz.pinned (OpenSpec.upto loanRanksSpec)

/-- 'cognatelaw23.LoanTwins', WHERE WHAT IT READS IS OF BULK AT MOST 1048576: true; the input reads as it did. -/
def loanTwinsUptoRow : OpenClaim := { program := "yteopobecmacgdaagreatdoor", sum := "300f4ef41b747d7d599c8e4e78613ebe0d9153648e5c7c117c96ffde9cb05428", func := "cognate/cognatelaw23.LoanTwins", spec := "loanTwins", inPlace := ["internal/bytealg.IndexByteString", "internal/bytealg.IndexString", "internal/abi.NoEscape"], unfollowed := true, recurses := true, named := ["unicode/utf8.first", "unicode/utf8.acceptRanges", "internal/bytealg.MaxLen"], plainKeys := false, apart := false, laid := [("unicode/utf8.acceptRanges", laid_unicode_utf8_acceptRanges), ("unicode/utf8.first", laid_unicode_utf8_first)], narrowed := true }
def LoanTwinsUptoSaid : Prop := loanTwinsUptoRow.holds Tryz.pinned (OpenSpec.upto loanTwinsSpec)

/-- 'cognatelaw23.LoanFits', WHERE WHAT IT READS IS OF BULK AT MOST 1048576: true; the input reads as it did. -/
def loanFitsUptoRow : OpenClaim := { program := "yteopobecmacgdaagreatdoor", sum := "300f4ef41b747d7d599c8e4e78613ebe0d9153648e5c7c117c96ffde9cb05428", func := "cognate/cognatelaw23.LoanFits", spec := "loanFits", inPlace := ["internal/bytealg.IndexByteString", "internal/bytealg.IndexString", "internal/abi.NoEscape"], unfollowed := true, recurses := true, named := ["unicode/utf8.first", "unicode/utf8.acceptRanges", "internal/bytealg.MaxLen"], plainKeys := false, apart := false, laid := [("unicode/utf8.acceptRanges", laid_unicode_utf8_acceptRanges), ("unicode/utf8.first", laid_unicode_utf8_first)], narrowed := true }
def LoanFitsUptoSaid : Prop := loanFitsUptoRow.holds Tryz.pinned (OpenSpec.upto loanFitsSpec)

end Rows
end Go.Proofs.YteopobecmacgdaaGreatDoor
