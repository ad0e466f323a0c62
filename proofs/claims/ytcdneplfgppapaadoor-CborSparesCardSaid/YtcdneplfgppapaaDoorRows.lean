/-
  NARROWER THAN 'FOR EVERY INPUT', by the rows' own cells (each row's printed sentence says how): CborPrints: laid · CborParses: laid · CborPlaces: laid · CborOne: laid · CborCuts: laid · CborNests: laid · CborNumbers: laid · CborFills: laid · CborSpares: laid · CborBack: laid · CborOrder: laid.
  DERIVED. THE GIVEN ROWS OF THIS SEAT. 11 by the template 'for every input the law returns true; each argument reads behind the call as it read before'; 0 by the template 'total and deterministic' (their statements: YtcdneplfgppapaaDoorTotals.lean).
  GIVEN WITH THE SEED: the statements are not yours to turn. If you find one false, say at which input.
  Laid BY PROGRAM, IN A SANDBOX (cutbox-rows.mjs): the forced cells as the released guide's own fill.sh prints them over the translation 1a145b7b12436154… (all of the seat's roots in one cut). By AI agents, Wed Nov 11 2026. No macro, syntax, notation, axiom, sorry.
-/
import Derived.Test.YtcdneplfgppapaaDoorChecked
import GoSem.PinnedTables
import GoSem.Claim
import GoSem.ClaimJoined
import GoSem.ClaimMapViews
import Derived.JoinedTies
import Derived.KernelRfl
namespace Go.Proofs.YtcdneplfgppapaaDoor
/- THE CELL 'sum', in the pinned program and in every row, IS THE sha256 OF THE DUMP (.gsa) THAT YtcdneplfgppapaaDoorProg.lean LOADS. Nothing in Lean hashes anything: it is a label: what it is worth is what the hold of that sum in a sandbox is worth. -/
noncomputable def Tryd.pinned : Pinned := { name := "ytcdneplfgppapaadoor", sum := "1a145b7b124361546adf5678e1e8bbc4461488d114595963c47e23bc6912659c", checked := Tryd.checked }
namespace Rows
def none {H : Type} : Left H := { results := [], args := [] }

/- WHAT THE LISTED PACKAGE-LEVEL VARIABLES READ AS WHEN THE CALL BEGINS. Each datum BY PROGRAM (the guide's laid-datum.mjs) off the statement by which the dump's own 'gosem.cut.vars' lays the variable. In a bare row this is a premise. The card (YtcdneplfgppapaaDoorCards.lean) ties it to the program's text. -/
def laid_unicode_utf8_acceptRanges {H : Type} : DataW H := .agg [.agg [.lit (.int .u8 128), .lit (.int .u8 191)], .agg [.lit (.int .u8 160), .lit (.int .u8 191)], .agg [.lit (.int .u8 128), .lit (.int .u8 159)], .agg [.lit (.int .u8 144), .lit (.int .u8 191)], .agg [.lit (.int .u8 128), .lit (.int .u8 143)], .agg [.lit (.int .u8 0), .lit (.int .u8 0)], .agg [.lit (.int .u8 0), .lit (.int .u8 0)], .agg [.lit (.int .u8 0), .lit (.int .u8 0)], .agg [.lit (.int .u8 0), .lit (.int .u8 0)], .agg [.lit (.int .u8 0), .lit (.int .u8 0)], .agg [.lit (.int .u8 0), .lit (.int .u8 0)], .agg [.lit (.int .u8 0), .lit (.int .u8 0)], .agg [.lit (.int .u8 0), .lit (.int .u8 0)], .agg [.lit (.int .u8 0), .lit (.int .u8 0)], .agg [.lit (.int .u8 0), .lit (.int .u8 0)], .agg [.lit (.int .u8 0), .lit (.int .u8 0)]]
/-- One of Go's own tables, pinned by name: the form's constant. -/
def laid_unicode_utf8_first : DataW Unit := Go.Pinned.utf8First

/-- 'signetlaw30.CborPrints': WHATEVER THE INPUT: true; the input reads as it did. -/
def cborPrintsSpec : ChangeSpec := { name := "cborPrints", fn := fun _ => fun
  | [d] => { results := [.lit (.bool true)], args := [d] }
  | _ => none }
def cborPrintsRow : OpenClaim := { program := "ytcdneplfgppapaadoor", sum := "1a145b7b124361546adf5678e1e8bbc4461488d114595963c47e23bc6912659c", func := "signet/signetlaw30.CborPrints", spec := "cborPrints", recurses := true, named := ["unicode/utf8.first", "unicode/utf8.acceptRanges"], apart := false, laid := [("unicode/utf8.acceptRanges", laid_unicode_utf8_acceptRanges), ("unicode/utf8.first", laid_unicode_utf8_first)] }
def CborPrintsSaid : Prop := cborPrintsRow.holds Tryd.pinned (OpenSpec.ofChange cborPrintsSpec)

/-- ITS FALSE NEIGHBOUR: 'it returns false'. Refute it at one input. -/
def cborPrintsWrong : ChangeSpec := { name := "cborPrints", fn := fun _ => fun
  | [d] => { results := [.lit (.bool false)], args := [d] }
  | _ => none }
def CborPrintsWrongFalsely : Prop := cborPrintsRow.holds Tryd.pinned (OpenSpec.ofChange cborPrintsWrong)

/-- 'signetlaw30.CborParses': WHATEVER THE INPUT: true; the input reads as it did. -/
def cborParsesSpec : ChangeSpec := { name := "cborParses", fn := fun _ => fun
  | [d] => { results := [.lit (.bool true)], args := [d] }
  | _ => none }
def cborParsesRow : OpenClaim := { program := "ytcdneplfgppapaadoor", sum := "1a145b7b124361546adf5678e1e8bbc4461488d114595963c47e23bc6912659c", func := "signet/signetlaw30.CborParses", spec := "cborParses", recurses := true, named := ["unicode/utf8.first", "unicode/utf8.acceptRanges"], apart := false, laid := [("unicode/utf8.acceptRanges", laid_unicode_utf8_acceptRanges), ("unicode/utf8.first", laid_unicode_utf8_first)] }
def CborParsesSaid : Prop := cborParsesRow.holds Tryd.pinned (OpenSpec.ofChange cborParsesSpec)

/-- ITS FALSE NEIGHBOUR: 'it returns false'. Refute it at one input. -/
def cborParsesWrong : ChangeSpec := { name := "cborParses", fn := fun _ => fun
  | [d] => { results := [.lit (.bool false)], args := [d] }
  | _ => none }
def CborParsesWrongFalsely : Prop := cborParsesRow.holds Tryd.pinned (OpenSpec.ofChange cborParsesWrong)

/-- 'signetlaw30.CborPlaces': WHATEVER THE INPUT: true; the input reads as it did. -/
def cborPlacesSpec : ChangeSpec := { name := "cborPlaces", fn := fun _ => fun
  | [d1, d2, d3] => { results := [.lit (.bool true)], args := [d1, d2, d3] }
  | _ => none }
def cborPlacesRow : OpenClaim := { program := "ytcdneplfgppapaadoor", sum := "1a145b7b124361546adf5678e1e8bbc4461488d114595963c47e23bc6912659c", func := "signet/signetlaw30.CborPlaces", spec := "cborPlaces", recurses := true, named := ["unicode/utf8.first", "unicode/utf8.acceptRanges"], apart := false, laid := [("unicode/utf8.acceptRanges", laid_unicode_utf8_acceptRanges), ("unicode/utf8.first", laid_unicode_utf8_first)] }
def CborPlacesSaid : Prop := cborPlacesRow.holds Tryd.pinned (OpenSpec.ofChange cborPlacesSpec)

/-- ITS FALSE NEIGHBOUR: 'it returns false'. Refute it at one input. -/
def cborPlacesWrong : ChangeSpec := { name := "cborPlaces", fn := fun _ => fun
  | [d1, d2, d3] => { results := [.lit (.bool false)], args := [d1, d2, d3] }
  | _ => none }
def CborPlacesWrongFalsely : Prop := cborPlacesRow.holds Tryd.pinned (OpenSpec.ofChange cborPlacesWrong)

/-- 'signetlaw30.CborOne': WHATEVER THE INPUT: true; the input reads as it did. -/
def cborOneSpec : ChangeSpec := { name := "cborOne", fn := fun _ => fun
  | [d1, d2] => { results := [.lit (.bool true)], args := [d1, d2] }
  | _ => none }
def cborOneRow : OpenClaim := { program := "ytcdneplfgppapaadoor", sum := "1a145b7b124361546adf5678e1e8bbc4461488d114595963c47e23bc6912659c", func := "signet/signetlaw30.CborOne", spec := "cborOne", recurses := true, named := ["unicode/utf8.first", "unicode/utf8.acceptRanges"], apart := false, laid := [("unicode/utf8.acceptRanges", laid_unicode_utf8_acceptRanges), ("unicode/utf8.first", laid_unicode_utf8_first)] }
def CborOneSaid : Prop := cborOneRow.holds Tryd.pinned (OpenSpec.ofChange cborOneSpec)

/-- ITS FALSE NEIGHBOUR: 'it returns false'. Refute it at one input. -/
def cborOneWrong : ChangeSpec := { name := "cborOne", fn := fun _ => fun
  | [d1, d2] => { results := [.lit (.bool false)], args := [d1, d2] }
  | _ => none }
def CborOneWrongFalsely : Prop := cborOneRow.holds Tryd.pinned (OpenSpec.ofChange cborOneWrong)

/-- 'signetlaw30.CborCuts': WHATEVER THE INPUT: true; the input reads as it did. -/
def cborCutsSpec : ChangeSpec := { name := "cborCuts", fn := fun _ => fun
  | [d1, d2, d3] => { results := [.lit (.bool true)], args := [d1, d2, d3] }
  | _ => none }
def cborCutsRow : OpenClaim := { program := "ytcdneplfgppapaadoor", sum := "1a145b7b124361546adf5678e1e8bbc4461488d114595963c47e23bc6912659c", func := "signet/signetlaw30.CborCuts", spec := "cborCuts", recurses := true, named := ["unicode/utf8.first", "unicode/utf8.acceptRanges"], apart := false, laid := [("unicode/utf8.acceptRanges", laid_unicode_utf8_acceptRanges), ("unicode/utf8.first", laid_unicode_utf8_first)] }
def CborCutsSaid : Prop := cborCutsRow.holds Tryd.pinned (OpenSpec.ofChange cborCutsSpec)

/-- ITS FALSE NEIGHBOUR: 'it returns false'. Refute it at one input. -/
def cborCutsWrong : ChangeSpec := { name := "cborCuts", fn := fun _ => fun
  | [d1, d2, d3] => { results := [.lit (.bool false)], args := [d1, d2, d3] }
  | _ => none }
def CborCutsWrongFalsely : Prop := cborCutsRow.holds Tryd.pinned (OpenSpec.ofChange cborCutsWrong)

/-- 'signetlaw30.CborNests': WHATEVER THE INPUT: true; the input reads as it did. -/
def cborNestsSpec : ChangeSpec := { name := "cborNests", fn := fun _ => fun
  | [d1, d2, d3] => { results := [.lit (.bool true)], args := [d1, d2, d3] }
  | _ => none }
def cborNestsRow : OpenClaim := { program := "ytcdneplfgppapaadoor", sum := "1a145b7b124361546adf5678e1e8bbc4461488d114595963c47e23bc6912659c", func := "signet/signetlaw30.CborNests", spec := "cborNests", recurses := true, named := ["unicode/utf8.first", "unicode/utf8.acceptRanges"], apart := false, laid := [("unicode/utf8.acceptRanges", laid_unicode_utf8_acceptRanges), ("unicode/utf8.first", laid_unicode_utf8_first)] }
def CborNestsSaid : Prop := cborNestsRow.holds Tryd.pinned (OpenSpec.ofChange cborNestsSpec)

/-- ITS FALSE NEIGHBOUR: 'it returns false'. Refute it at one input. -/
def cborNestsWrong : ChangeSpec := { name := "cborNests", fn := fun _ => fun
  | [d1, d2, d3] => { results := [.lit (.bool false)], args := [d1, d2, d3] }
  | _ => none }
def CborNestsWrongFalsely : Prop := cborNestsRow.holds Tryd.pinned (OpenSpec.ofChange cborNestsWrong)

/-- 'signetlaw30.CborNumbers': WHATEVER THE INPUT: true; the input reads as it did. -/
def cborNumbersSpec : ChangeSpec := { name := "cborNumbers", fn := fun _ => fun
  | [d1, d2] => { results := [.lit (.bool true)], args := [d1, d2] }
  | _ => none }
def cborNumbersRow : OpenClaim := { program := "ytcdneplfgppapaadoor", sum := "1a145b7b124361546adf5678e1e8bbc4461488d114595963c47e23bc6912659c", func := "signet/signetlaw30.CborNumbers", spec := "cborNumbers", recurses := true, named := ["unicode/utf8.first", "unicode/utf8.acceptRanges"], apart := false, laid := [("unicode/utf8.acceptRanges", laid_unicode_utf8_acceptRanges), ("unicode/utf8.first", laid_unicode_utf8_first)] }
def CborNumbersSaid : Prop := cborNumbersRow.holds Tryd.pinned (OpenSpec.ofChange cborNumbersSpec)

/-- ITS FALSE NEIGHBOUR: 'it returns false'. Refute it at one input. -/
def cborNumbersWrong : ChangeSpec := { name := "cborNumbers", fn := fun _ => fun
  | [d1, d2] => { results := [.lit (.bool false)], args := [d1, d2] }
  | _ => none }
def CborNumbersWrongFalsely : Prop := cborNumbersRow.holds Tryd.pinned (OpenSpec.ofChange cborNumbersWrong)

/-- 'signetlaw30.CborFills': WHATEVER THE INPUT: true; the input reads as it did. -/
def cborFillsSpec : ChangeSpec := { name := "cborFills", fn := fun _ => fun
  | [d1, d2] => { results := [.lit (.bool true)], args := [d1, d2] }
  | _ => none }
def cborFillsRow : OpenClaim := { program := "ytcdneplfgppapaadoor", sum := "1a145b7b124361546adf5678e1e8bbc4461488d114595963c47e23bc6912659c", func := "signet/signetlaw30.CborFills", spec := "cborFills", recurses := true, named := ["unicode/utf8.first", "unicode/utf8.acceptRanges"], apart := false, laid := [("unicode/utf8.acceptRanges", laid_unicode_utf8_acceptRanges), ("unicode/utf8.first", laid_unicode_utf8_first)] }
def CborFillsSaid : Prop := cborFillsRow.holds Tryd.pinned (OpenSpec.ofChange cborFillsSpec)

/-- ITS FALSE NEIGHBOUR: 'it returns false'. Refute it at one input. -/
def cborFillsWrong : ChangeSpec := { name := "cborFills", fn := fun _ => fun
  | [d1, d2] => { results := [.lit (.bool false)], args := [d1, d2] }
  | _ => none }
def CborFillsWrongFalsely : Prop := cborFillsRow.holds Tryd.pinned (OpenSpec.ofChange cborFillsWrong)

/-- 'signetlaw30.CborSpares': WHATEVER THE INPUT: true; the input reads as it did. -/
def cborSparesSpec : ChangeSpec := { name := "cborSpares", fn := fun _ => fun
  | [d] => { results := [.lit (.bool true)], args := [d] }
  | _ => none }
def cborSparesRow : OpenClaim := { program := "ytcdneplfgppapaadoor", sum := "1a145b7b124361546adf5678e1e8bbc4461488d114595963c47e23bc6912659c", func := "signet/signetlaw30.CborSpares", spec := "cborSpares", recurses := true, named := ["unicode/utf8.first", "unicode/utf8.acceptRanges"], apart := false, laid := [("unicode/utf8.acceptRanges", laid_unicode_utf8_acceptRanges), ("unicode/utf8.first", laid_unicode_utf8_first)] }
def CborSparesSaid : Prop := cborSparesRow.holds Tryd.pinned (OpenSpec.ofChange cborSparesSpec)

/-- ITS FALSE NEIGHBOUR: 'it returns false'. Refute it at one input. -/
def cborSparesWrong : ChangeSpec := { name := "cborSpares", fn := fun _ => fun
  | [d] => { results := [.lit (.bool false)], args := [d] }
  | _ => none }
def CborSparesWrongFalsely : Prop := cborSparesRow.holds Tryd.pinned (OpenSpec.ofChange cborSparesWrong)

/-- 'signetlaw30.CborBack': WHATEVER THE INPUT: true; the input reads as it did. -/
def cborBackSpec : ChangeSpec := { name := "cborBack", fn := fun _ => fun
  | [d1, d2] => { results := [.lit (.bool true)], args := [d1, d2] }
  | _ => none }
def cborBackRow : OpenClaim := { program := "ytcdneplfgppapaadoor", sum := "1a145b7b124361546adf5678e1e8bbc4461488d114595963c47e23bc6912659c", func := "signet/signetlaw30.CborBack", spec := "cborBack", recurses := true, named := ["unicode/utf8.first", "unicode/utf8.acceptRanges"], apart := false, laid := [("unicode/utf8.acceptRanges", laid_unicode_utf8_acceptRanges), ("unicode/utf8.first", laid_unicode_utf8_first)] }
def CborBackSaid : Prop := cborBackRow.holds Tryd.pinned (OpenSpec.ofChange cborBackSpec)

/-- ITS FALSE NEIGHBOUR: 'it returns false'. Refute it at one input. -/
def cborBackWrong : ChangeSpec := { name := "cborBack", fn := fun _ => fun
  | [d1, d2] => { results := [.lit (.bool false)], args := [d1, d2] }
  | _ => none }
def CborBackWrongFalsely : Prop := cborBackRow.holds Tryd.pinned (OpenSpec.ofChange cborBackWrong)

/-- 'signetlaw30.CborOrder': WHATEVER THE INPUT: true; the input reads as it did. -/
def cborOrderSpec : ChangeSpec := { name := "cborOrder", fn := fun _ => fun
  | [d1, d2, d3, d4] => { results := [.lit (.bool true)], args := [d1, d2, d3, d4] }
  | _ => none }
def cborOrderRow : OpenClaim := { program := "ytcdneplfgppapaadoor", sum := "1a145b7b124361546adf5678e1e8bbc4461488d114595963c47e23bc6912659c", func := "signet/signetlaw30.CborOrder", spec := "cborOrder", recurses := true, named := ["unicode/utf8.first", "unicode/utf8.acceptRanges"], apart := false, laid := [("unicode/utf8.acceptRanges", laid_unicode_utf8_acceptRanges), ("unicode/utf8.first", laid_unicode_utf8_first)] }
def CborOrderSaid : Prop := cborOrderRow.holds Tryd.pinned (OpenSpec.ofChange cborOrderSpec)

/-- ITS FALSE NEIGHBOUR: 'it returns false'. Refute it at one input. -/
def cborOrderWrong : ChangeSpec := { name := "cborOrder", fn := fun _ => fun
  | [d1, d2, d3, d4] => { results := [.lit (.bool false)], args := [d1, d2, d3, d4] }
  | _ => none }
def CborOrderWrongFalsely : Prop := cborOrderRow.holds Tryd.pinned (OpenSpec.ofChange cborOrderWrong)

/- THE SECOND FORM. 'bulk': how many values and letters a reading holds, each counted each time it is reached (what is shared counts as often as it is met; a slice's spare places count too). A statement '..UptoSaid' is the law's where the arguments, and the package variables that the reading takes, are together of bulk at most 1048576: NARROWER than '..Said'. Prove '..Said' where nothing that the law and all that it calls make is longer than what came in: it says more and counts as full. Else prove '..UptoSaid'. A law counts once. -/
mutual
def uptoBulk {H : Type} : DataW H → Nat
  | .lit (.string bytes) => bytes.length + 1
  | .lit _ => 1
  | .nil => 1
  | .ptr d => uptoBulk d + 1
  | .slice elems spare => uptoBulkAll elems + uptoBulkAll spare + 1
  | .agg parts => uptoBulkAll parts + 1
  | .iface _ d => uptoBulk d + 1
  | .map entries => uptoBulkEntries entries + 1
  | .held _ => 1
def uptoBulkAll {H : Type} : List (DataW H) → Nat
  | [] => 0
  | d :: r => uptoBulk d + uptoBulkAll r
def uptoBulkEntries {H : Type} : List (Lit × DataW H) → Nat
  | [] => 0
  | x :: r => uptoBulkEntry x + uptoBulkEntries r
def uptoBulkEntry {H : Type} : Lit × DataW H → Nat
  | (.string bytes, d) => bytes.length + uptoBulk d + 1
  | (_, d) => uptoBulk d + 1
 end
def uptoSmall : (H : Type) → List (DataW H) → Bool := fun _ ds => decide (uptoBulkAll ds ≤ 1048576)
def OpenSpec.upto (s : _root_.Go.ChangeSpec) : _root_.Go.OpenSpec := { _root_.Go.OpenSpec.ofChange s with cond := some uptoSmall }

/-- 'signetlaw30.CborPrints', WHERE WHAT IT READS IS OF BULK AT MOST 1048576: true; the input reads as it did. -/
def cborPrintsUptoRow : OpenClaim := { program := "ytcdneplfgppapaadoor", sum := "1a145b7b124361546adf5678e1e8bbc4461488d114595963c47e23bc6912659c", func := "signet/signetlaw30.CborPrints", spec := "cborPrints", recurses := true, named := ["unicode/utf8.first", "unicode/utf8.acceptRanges"], apart := false, laid := [("unicode/utf8.acceptRanges", laid_unicode_utf8_acceptRanges), ("unicode/utf8.first", laid_unicode_utf8_first)], narrowed := true }
def CborPrintsUptoSaid : Prop := cborPrintsUptoRow.holds Tryd.pinned (OpenSpec.upto cborPrintsSpec)

/-- 'signetlaw30.CborParses', WHERE WHAT IT READS IS OF BULK AT MOST 1048576: true; the input reads as it did. -/
def cborParsesUptoRow : OpenClaim := { program := "ytcdneplfgppapaadoor", sum := "1a145b7b124361546adf5678e1e8bbc4461488d114595963c47e23bc6912659c", func := "signet/signetlaw30.CborParses", spec := "cborParses", recurses := true, named := ["unicode/utf8.first", "unicode/utf8.acceptRanges"], apart := false, laid := [("unicode/utf8.acceptRanges", laid_unicode_utf8_acceptRanges), ("unicode/utf8.first", laid_unicode_utf8_first)], narrowed := true }
def CborParsesUptoSaid : Prop := cborParsesUptoRow.holds Tryd.pinned (OpenSpec.upto cborParsesSpec)

/-- 'signetlaw30.CborPlaces', WHERE WHAT IT READS IS OF BULK AT MOST 1048576: true; the input reads as it did. -/
def cborPlacesUptoRow : OpenClaim := { program := "ytcdneplfgppapaadoor", sum := "1a145b7b124361546adf5678e1e8bbc4461488d114595963c47e23bc6912659c", func := "signet/signetlaw30.CborPlaces", spec := "cborPlaces", recurses := true, named := ["unicode/utf8.first", "unicode/utf8.acceptRanges"], apart := false, laid := [("unicode/utf8.acceptRanges", laid_unicode_utf8_acceptRanges), ("unicode/utf8.first", laid_unicode_utf8_first)], narrowed := true }
def CborPlacesUptoSaid : Prop := cborPlacesUptoRow.holds Tryd.pinned (OpenSpec.upto cborPlacesSpec)

/-- 'signetlaw30.CborOne', WHERE WHAT IT READS IS OF BULK AT MOST 1048576: true; the input reads as it did. -/
def cborOneUptoRow : OpenClaim := { program := "ytcdneplfgppapaadoor", sum := "1a145b7b124361546adf5678e1e8bbc4461488d114595963c47e23bc6912659c", func := "signet/signetlaw30.CborOne", spec := "cborOne", recurses := true, named := ["unicode/utf8.first", "unicode/utf8.acceptRanges"], apart := false, laid := [("unicode/utf8.acceptRanges", laid_unicode_utf8_acceptRanges), ("unicode/utf8.first", laid_unicode_utf8_first)], narrowed := true }
def CborOneUptoSaid : Prop := cborOneUptoRow.holds Tryd.pinned (OpenSpec.upto cborOneSpec)

/-- 'signetlaw30.CborCuts', WHERE WHAT IT READS IS OF BULK AT MOST 1048576: true; the input reads as it did. -/
def cborCutsUptoRow : OpenClaim := { program := "ytcdneplfgppapaadoor", sum := "1a145b7b124361546adf5678e1e8bbc4461488d114595963c47e23bc6912659c", func := "signet/signetlaw30.CborCuts", spec := "cborCuts", recurses := true, named := ["unicode/utf8.first", "unicode/utf8.acceptRanges"], apart := false, laid := [("unicode/utf8.acceptRanges", laid_unicode_utf8_acceptRanges), ("unicode/utf8.first", laid_unicode_utf8_first)], narrowed := true }
def CborCutsUptoSaid : Prop := cborCutsUptoRow.holds Tryd.pinned (OpenSpec.upto cborCutsSpec)

/-- 'signetlaw30.CborNests', WHERE WHAT IT READS IS OF BULK AT MOST 1048576: true; the input reads as it did. -/
def cborNestsUptoRow : OpenClaim := { program := "ytcdneplfgppapaadoor", sum := "1a145b7b124361546adf5678e1e8bbc4461488d114595963c47e23bc6912659c", func := "signet/signetlaw30.CborNests", spec := "cborNests", recurses := true, named := ["unicode/utf8.first", "unicode/utf8.acceptRanges"], apart := false, laid := [("unicode/utf8.acceptRanges", laid_unicode_utf8_acceptRanges), ("unicode/utf8.first", laid_unicode_utf8_first)], narrowed := true }
def CborNestsUptoSaid : Prop := cborNestsUptoRow.holds Tryd.pinned (OpenSpec.upto cborNestsSpec)

/-- 'signetlaw30.CborNumbers', WHERE WHAT IT READS IS OF BULK AT MOST 1048576: true; the input reads as it did. -/
def cborNumbersUptoRow : OpenClaim := { program := "ytcdneplfgppapaadoor", sum := "1a145b7b124361546adf5678e1e8bbc4461488d114595963c47e23bc6912659c", func := "signet/signetlaw30.CborNumbers", spec := "cborNumbers", recurses := true, named := ["unicode/utf8.first", "unicode/utf8.acceptRanges"], apart := false, laid := [("unicode/utf8.acceptRanges", laid_unicode_utf8_acceptRanges), ("unicode/utf8.first", laid_unicode_utf8_first)], narrowed := true }
def CborNumbersUptoSaid : Prop := cborNumbersUptoRow.holds Tryd.pinned (OpenSpec.upto cborNumbersSpec)

/-- 'signetlaw30.CborFills', WHERE WHAT IT READS IS OF BULK AT MOST 1048576: true; the input reads as it did. -/
def cborFillsUptoRow : OpenClaim := { program := "ytcdneplfgppapaadoor", sum := "1a145b7b124361546adf5678e1e8bbc4461488d114595963c47e23bc6912659c", func := "signet/signetlaw30.CborFills", spec := "cborFills", recurses := true, named := ["unicode/utf8.first", "unicode/utf8.acceptRanges"], apart := false, laid := [("unicode/utf8.acceptRanges", laid_unicode_utf8_acceptRanges), ("unicode/utf8.first", laid_unicode_utf8_first)], narrowed := true }
def CborFillsUptoSaid : Prop := cborFillsUptoRow.holds Tryd.pinned (OpenSpec.upto cborFillsSpec)

/-- 'signetlaw30.CborSpares', WHERE WHAT IT READS IS OF BULK AT MOST 1048576: true; the input reads as it did. -/
def cborSparesUptoRow : OpenClaim := { program := "ytcdneplfgppapaadoor", sum := "1a145b7b124361546adf5678e1e8bbc4461488d114595963c47e23bc6912659c", func := "signet/signetlaw30.CborSpares", spec := "cborSpares", recurses := true, named := ["unicode/utf8.first", "unicode/utf8.acceptRanges"], apart := false, laid := [("unicode/utf8.acceptRanges", laid_unicode_utf8_acceptRanges), ("unicode/utf8.first", laid_unicode_utf8_first)], narrowed := true }
def CborSparesUptoSaid : Prop := cborSparesUptoRow.holds Tryd.pinned (OpenSpec.upto cborSparesSpec)

/-- 'signetlaw30.CborBack', WHERE WHAT IT READS IS OF BULK AT MOST 1048576: true; the input reads as it did. -/
def cborBackUptoRow : OpenClaim := { program := "ytcdneplfgppapaadoor", sum := "1a145b7b124361546adf5678e1e8bbc4461488d114595963c47e23bc6912659c", func := "signet/signetlaw30.CborBack", spec := "cborBack", recurses := true, named := ["unicode/utf8.first", "unicode/utf8.acceptRanges"], apart := false, laid := [("unicode/utf8.acceptRanges", laid_unicode_utf8_acceptRanges), ("unicode/utf8.first", laid_unicode_utf8_first)], narrowed := true }
def CborBackUptoSaid : Prop := cborBackUptoRow.holds Tryd.pinned (OpenSpec.upto cborBackSpec)

/-- 'signetlaw30.CborOrder', WHERE WHAT IT READS IS OF BULK AT MOST 1048576: true; the input reads as it did. -/
def cborOrderUptoRow : OpenClaim := { program := "ytcdneplfgppapaadoor", sum := "1a145b7b124361546adf5678e1e8bbc4461488d114595963c47e23bc6912659c", func := "signet/signetlaw30.CborOrder", spec := "cborOrder", recurses := true, named := ["unicode/utf8.first", "unicode/utf8.acceptRanges"], apart := false, laid := [("unicode/utf8.acceptRanges", laid_unicode_utf8_acceptRanges), ("unicode/utf8.first", laid_unicode_utf8_first)], narrowed := true }
def CborOrderUptoSaid : Prop := cborOrderUptoRow.holds Tryd.pinned (OpenSpec.upto cborOrderSpec)

end Rows
end Go.Proofs.YtcdneplfgppapaaDoor
