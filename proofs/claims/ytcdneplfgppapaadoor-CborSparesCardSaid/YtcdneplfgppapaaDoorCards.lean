/-
  DERIVED. GIVEN WITH THE SEED: THE CARDS: each row of YtcdneplfgppapaaDoorRows.lean that lists a variable, with what it lists TIED to the program's text (the seventh form; the later family's looks); each row that meets fmt, with fmt's text TOLD by the authors' own Lean function (tested against real Go, not proved from fmt's source: count such statements apart). THE CARD IS WHAT COUNTS. Prove the row's statement (the work); the ties are given (YtcdneplfgppapaaDoorTie.lean); close each card by the builder's one call (the guide's Derived/Test/ToyasCard.lean, 'card_holds'). Laid BY PROGRAM, IN A SANDBOX (cutbox-door.mjs). By AI agents, Wed Nov 11 2026. No macro, syntax, notation, axiom, sorry.
-/
import Derived.Test.YtcdneplfgppapaaDoorRows
import GoSem.ClaimSeven
namespace Go.Proofs.YtcdneplfgppapaaDoor
namespace Rows

/-- THE TIED CARD OF 'signetlaw30.CborPrints'. -/
def cborPrintsCard : Claim7 := { stood := { row := cborPrintsRow, standIns := [], harness := (true, "029cd1958a1f70b4e7bc06f3a1816182b166b4058d330ed4f8f665943b2f3eb1"), looks := false }, kinds := [], alts := [], laidByText := true, laidKinds := [.data, .pinned], laidTests := true, laidLooks := .later }
def CborPrintsCardSaid : Prop := Claim7.holds Tryd.pinned (.plain (OpenSpec.ofChange cborPrintsSpec)) cborPrintsCard

/-- THE TIED CARD OF 'signetlaw30.CborParses'. -/
def cborParsesCard : Claim7 := { stood := { row := cborParsesRow, standIns := [], harness := (true, "029cd1958a1f70b4e7bc06f3a1816182b166b4058d330ed4f8f665943b2f3eb1"), looks := false }, kinds := [], alts := [], laidByText := true, laidKinds := [.data, .pinned], laidTests := true, laidLooks := .later }
def CborParsesCardSaid : Prop := Claim7.holds Tryd.pinned (.plain (OpenSpec.ofChange cborParsesSpec)) cborParsesCard

/-- THE TIED CARD OF 'signetlaw30.CborPlaces'. -/
def cborPlacesCard : Claim7 := { stood := { row := cborPlacesRow, standIns := [], harness := (true, "029cd1958a1f70b4e7bc06f3a1816182b166b4058d330ed4f8f665943b2f3eb1"), looks := false }, kinds := [], alts := [], laidByText := true, laidKinds := [.data, .pinned], laidTests := true, laidLooks := .later }
def CborPlacesCardSaid : Prop := Claim7.holds Tryd.pinned (.plain (OpenSpec.ofChange cborPlacesSpec)) cborPlacesCard

/-- THE TIED CARD OF 'signetlaw30.CborOne'. -/
def cborOneCard : Claim7 := { stood := { row := cborOneRow, standIns := [], harness := (true, "029cd1958a1f70b4e7bc06f3a1816182b166b4058d330ed4f8f665943b2f3eb1"), looks := false }, kinds := [], alts := [], laidByText := true, laidKinds := [.data, .pinned], laidTests := true, laidLooks := .later }
def CborOneCardSaid : Prop := Claim7.holds Tryd.pinned (.plain (OpenSpec.ofChange cborOneSpec)) cborOneCard

/-- THE TIED CARD OF 'signetlaw30.CborCuts'. -/
def cborCutsCard : Claim7 := { stood := { row := cborCutsRow, standIns := [], harness := (true, "029cd1958a1f70b4e7bc06f3a1816182b166b4058d330ed4f8f665943b2f3eb1"), looks := false }, kinds := [], alts := [], laidByText := true, laidKinds := [.data, .pinned], laidTests := true, laidLooks := .later }
def CborCutsCardSaid : Prop := Claim7.holds Tryd.pinned (.plain (OpenSpec.ofChange cborCutsSpec)) cborCutsCard

/-- THE TIED CARD OF 'signetlaw30.CborNests'. -/
def cborNestsCard : Claim7 := { stood := { row := cborNestsRow, standIns := [], harness := (true, "029cd1958a1f70b4e7bc06f3a1816182b166b4058d330ed4f8f665943b2f3eb1"), looks := false }, kinds := [], alts := [], laidByText := true, laidKinds := [.data, .pinned], laidTests := true, laidLooks := .later }
def CborNestsCardSaid : Prop := Claim7.holds Tryd.pinned (.plain (OpenSpec.ofChange cborNestsSpec)) cborNestsCard

/-- THE TIED CARD OF 'signetlaw30.CborNumbers'. -/
def cborNumbersCard : Claim7 := { stood := { row := cborNumbersRow, standIns := [], harness := (true, "029cd1958a1f70b4e7bc06f3a1816182b166b4058d330ed4f8f665943b2f3eb1"), looks := false }, kinds := [], alts := [], laidByText := true, laidKinds := [.data, .pinned], laidTests := true, laidLooks := .later }
def CborNumbersCardSaid : Prop := Claim7.holds Tryd.pinned (.plain (OpenSpec.ofChange cborNumbersSpec)) cborNumbersCard

/-- THE TIED CARD OF 'signetlaw30.CborFills'. -/
def cborFillsCard : Claim7 := { stood := { row := cborFillsRow, standIns := [], harness := (true, "029cd1958a1f70b4e7bc06f3a1816182b166b4058d330ed4f8f665943b2f3eb1"), looks := false }, kinds := [], alts := [], laidByText := true, laidKinds := [.data, .pinned], laidTests := true, laidLooks := .later }
def CborFillsCardSaid : Prop := Claim7.holds Tryd.pinned (.plain (OpenSpec.ofChange cborFillsSpec)) cborFillsCard

/-- THE TIED CARD OF 'signetlaw30.CborSpares'. -/
def cborSparesCard : Claim7 := { stood := { row := cborSparesRow, standIns := [], harness := (true, "029cd1958a1f70b4e7bc06f3a1816182b166b4058d330ed4f8f665943b2f3eb1"), looks := false }, kinds := [], alts := [], laidByText := true, laidKinds := [.data, .pinned], laidTests := true, laidLooks := .later }
def CborSparesCardSaid : Prop := Claim7.holds Tryd.pinned (.plain (OpenSpec.ofChange cborSparesSpec)) cborSparesCard

/-- THE TIED CARD OF 'signetlaw30.CborBack'. -/
def cborBackCard : Claim7 := { stood := { row := cborBackRow, standIns := [], harness := (true, "029cd1958a1f70b4e7bc06f3a1816182b166b4058d330ed4f8f665943b2f3eb1"), looks := false }, kinds := [], alts := [], laidByText := true, laidKinds := [.data, .pinned], laidTests := true, laidLooks := .later }
def CborBackCardSaid : Prop := Claim7.holds Tryd.pinned (.plain (OpenSpec.ofChange cborBackSpec)) cborBackCard

/-- THE TIED CARD OF 'signetlaw30.CborOrder'. -/
def cborOrderCard : Claim7 := { stood := { row := cborOrderRow, standIns := [], harness := (true, "029cd1958a1f70b4e7bc06f3a1816182b166b4058d330ed4f8f665943b2f3eb1"), looks := false }, kinds := [], alts := [], laidByText := true, laidKinds := [.data, .pinned], laidTests := true, laidLooks := .later }
def CborOrderCardSaid : Prop := Claim7.holds Tryd.pinned (.plain (OpenSpec.ofChange cborOrderSpec)) cborOrderCard

/-- THE SECOND FORM's CARD OF 'signetlaw30.CborPrints'. -/
def cborPrintsUptoCard : Claim7 := { stood := { row := cborPrintsUptoRow, standIns := [], harness := (true, "029cd1958a1f70b4e7bc06f3a1816182b166b4058d330ed4f8f665943b2f3eb1"), looks := false }, kinds := [], alts := [], laidByText := true, laidKinds := [.data, .pinned], laidTests := true, laidLooks := .later }
def CborPrintsUptoCardSaid : Prop := Claim7.holds Tryd.pinned (.plain (OpenSpec.upto cborPrintsSpec)) cborPrintsUptoCard

/-- THE SECOND FORM's CARD OF 'signetlaw30.CborParses'. -/
def cborParsesUptoCard : Claim7 := { stood := { row := cborParsesUptoRow, standIns := [], harness := (true, "029cd1958a1f70b4e7bc06f3a1816182b166b4058d330ed4f8f665943b2f3eb1"), looks := false }, kinds := [], alts := [], laidByText := true, laidKinds := [.data, .pinned], laidTests := true, laidLooks := .later }
def CborParsesUptoCardSaid : Prop := Claim7.holds Tryd.pinned (.plain (OpenSpec.upto cborParsesSpec)) cborParsesUptoCard

/-- THE SECOND FORM's CARD OF 'signetlaw30.CborPlaces'. -/
def cborPlacesUptoCard : Claim7 := { stood := { row := cborPlacesUptoRow, standIns := [], harness := (true, "029cd1958a1f70b4e7bc06f3a1816182b166b4058d330ed4f8f665943b2f3eb1"), looks := false }, kinds := [], alts := [], laidByText := true, laidKinds := [.data, .pinned], laidTests := true, laidLooks := .later }
def CborPlacesUptoCardSaid : Prop := Claim7.holds Tryd.pinned (.plain (OpenSpec.upto cborPlacesSpec)) cborPlacesUptoCard

/-- THE SECOND FORM's CARD OF 'signetlaw30.CborOne'. -/
def cborOneUptoCard : Claim7 := { stood := { row := cborOneUptoRow, standIns := [], harness := (true, "029cd1958a1f70b4e7bc06f3a1816182b166b4058d330ed4f8f665943b2f3eb1"), looks := false }, kinds := [], alts := [], laidByText := true, laidKinds := [.data, .pinned], laidTests := true, laidLooks := .later }
def CborOneUptoCardSaid : Prop := Claim7.holds Tryd.pinned (.plain (OpenSpec.upto cborOneSpec)) cborOneUptoCard

/-- THE SECOND FORM's CARD OF 'signetlaw30.CborCuts'. -/
def cborCutsUptoCard : Claim7 := { stood := { row := cborCutsUptoRow, standIns := [], harness := (true, "029cd1958a1f70b4e7bc06f3a1816182b166b4058d330ed4f8f665943b2f3eb1"), looks := false }, kinds := [], alts := [], laidByText := true, laidKinds := [.data, .pinned], laidTests := true, laidLooks := .later }
def CborCutsUptoCardSaid : Prop := Claim7.holds Tryd.pinned (.plain (OpenSpec.upto cborCutsSpec)) cborCutsUptoCard

/-- THE SECOND FORM's CARD OF 'signetlaw30.CborNests'. -/
def cborNestsUptoCard : Claim7 := { stood := { row := cborNestsUptoRow, standIns := [], harness := (true, "029cd1958a1f70b4e7bc06f3a1816182b166b4058d330ed4f8f665943b2f3eb1"), looks := false }, kinds := [], alts := [], laidByText := true, laidKinds := [.data, .pinned], laidTests := true, laidLooks := .later }
def CborNestsUptoCardSaid : Prop := Claim7.holds Tryd.pinned (.plain (OpenSpec.upto cborNestsSpec)) cborNestsUptoCard

/-- THE SECOND FORM's CARD OF 'signetlaw30.CborNumbers'. -/
def cborNumbersUptoCard : Claim7 := { stood := { row := cborNumbersUptoRow, standIns := [], harness := (true, "029cd1958a1f70b4e7bc06f3a1816182b166b4058d330ed4f8f665943b2f3eb1"), looks := false }, kinds := [], alts := [], laidByText := true, laidKinds := [.data, .pinned], laidTests := true, laidLooks := .later }
def CborNumbersUptoCardSaid : Prop := Claim7.holds Tryd.pinned (.plain (OpenSpec.upto cborNumbersSpec)) cborNumbersUptoCard

/-- THE SECOND FORM's CARD OF 'signetlaw30.CborFills'. -/
def cborFillsUptoCard : Claim7 := { stood := { row := cborFillsUptoRow, standIns := [], harness := (true, "029cd1958a1f70b4e7bc06f3a1816182b166b4058d330ed4f8f665943b2f3eb1"), looks := false }, kinds := [], alts := [], laidByText := true, laidKinds := [.data, .pinned], laidTests := true, laidLooks := .later }
def CborFillsUptoCardSaid : Prop := Claim7.holds Tryd.pinned (.plain (OpenSpec.upto cborFillsSpec)) cborFillsUptoCard

/-- THE SECOND FORM's CARD OF 'signetlaw30.CborSpares'. -/
def cborSparesUptoCard : Claim7 := { stood := { row := cborSparesUptoRow, standIns := [], harness := (true, "029cd1958a1f70b4e7bc06f3a1816182b166b4058d330ed4f8f665943b2f3eb1"), looks := false }, kinds := [], alts := [], laidByText := true, laidKinds := [.data, .pinned], laidTests := true, laidLooks := .later }
def CborSparesUptoCardSaid : Prop := Claim7.holds Tryd.pinned (.plain (OpenSpec.upto cborSparesSpec)) cborSparesUptoCard

/-- THE SECOND FORM's CARD OF 'signetlaw30.CborBack'. -/
def cborBackUptoCard : Claim7 := { stood := { row := cborBackUptoRow, standIns := [], harness := (true, "029cd1958a1f70b4e7bc06f3a1816182b166b4058d330ed4f8f665943b2f3eb1"), looks := false }, kinds := [], alts := [], laidByText := true, laidKinds := [.data, .pinned], laidTests := true, laidLooks := .later }
def CborBackUptoCardSaid : Prop := Claim7.holds Tryd.pinned (.plain (OpenSpec.upto cborBackSpec)) cborBackUptoCard

/-- THE SECOND FORM's CARD OF 'signetlaw30.CborOrder'. -/
def cborOrderUptoCard : Claim7 := { stood := { row := cborOrderUptoRow, standIns := [], harness := (true, "029cd1958a1f70b4e7bc06f3a1816182b166b4058d330ed4f8f665943b2f3eb1"), looks := false }, kinds := [], alts := [], laidByText := true, laidKinds := [.data, .pinned], laidTests := true, laidLooks := .later }
def CborOrderUptoCardSaid : Prop := Claim7.holds Tryd.pinned (.plain (OpenSpec.upto cborOrderSpec)) cborOrderUptoCard
end Rows
end Go.Proofs.YtcdneplfgppapaaDoor
