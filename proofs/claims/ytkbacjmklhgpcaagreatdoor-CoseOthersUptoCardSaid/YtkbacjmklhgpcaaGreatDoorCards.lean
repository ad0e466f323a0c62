/-
  DERIVED. GIVEN WITH THE SEED: THE CARDS: each row of YtkbacjmklhgpcaaGreatDoorRows.lean that lists a variable, with what it lists TIED to the program's text (the seventh form; the later family's looks); each row that meets fmt, with fmt's text TOLD by the authors' own Lean function (tested against real Go, not proved from fmt's source: count such statements apart). THE CARD IS WHAT COUNTS. Prove the row's statement (the work); the ties are given (YtkbacjmklhgpcaaGreatDoorTie.lean); close each card by the builder's one call (the guide's Derived/Test/ToyasCard.lean, 'card_holds'). Laid BY PROGRAM, IN A SANDBOX (cutbox-door.mjs). By AI agents, Wed Nov 11 2026. No macro, syntax, notation, axiom, sorry.
-/
import Derived.Test.YtkbacjmklhgpcaaGreatDoorRows
import GoSem.ClaimSeven
namespace Go.Proofs.YtkbacjmklhgpcaaGreatDoor
namespace Rows

/-- THE TIED CARD OF 'signetlaw31.CoseJust'. -/
def coseJustCard : Claim7 := { stood := { row := coseJustRow, standIns := [], harness := (true, "2cec79fcfa9397b8768688c4061c7e0b0b9617699309587c2eee8ce4996679de"), looks := false }, kinds := [], alts := [], laidByText := true, laidKinds := [.data, .data, .data, .data, .data, .data, .data, .data, .data, .data, .data, .data, .data, .pinned], laidTests := true, laidLooks := .later }
def CoseJustCardSaid : Prop := Claim7.holds Tryz.pinned (.plain (OpenSpec.ofChange coseJustSpec)) coseJustCard

/-- THE TIED CARD OF 'signetlaw31.CoseOthers'. -/
def coseOthersCard : Claim7 := { stood := { row := coseOthersRow, standIns := [], harness := (true, "2cec79fcfa9397b8768688c4061c7e0b0b9617699309587c2eee8ce4996679de"), looks := false }, kinds := [], alts := [], laidByText := true, laidKinds := [.data, .data, .data, .data, .data, .data, .data, .data, .data, .data, .data, .data, .data, .pinned], laidTests := true, laidLooks := .later }
def CoseOthersCardSaid : Prop := Claim7.holds Tryz.pinned (.plain (OpenSpec.ofChange coseOthersSpec)) coseOthersCard

/-- THE SECOND FORM's CARD OF 'signetlaw31.CoseJust'. -/
def coseJustUptoCard : Claim7 := { stood := { row := coseJustUptoRow, standIns := [], harness := (true, "2cec79fcfa9397b8768688c4061c7e0b0b9617699309587c2eee8ce4996679de"), looks := false }, kinds := [], alts := [], laidByText := true, laidKinds := [.data, .data, .data, .data, .data, .data, .data, .data, .data, .data, .data, .data, .data, .pinned], laidTests := true, laidLooks := .later }
def CoseJustUptoCardSaid : Prop := Claim7.holds Tryz.pinned (.plain (OpenSpec.upto coseJustSpec)) coseJustUptoCard

/-- THE SECOND FORM's CARD OF 'signetlaw31.CoseOthers'. -/
def coseOthersUptoCard : Claim7 := { stood := { row := coseOthersUptoRow, standIns := [], harness := (true, "2cec79fcfa9397b8768688c4061c7e0b0b9617699309587c2eee8ce4996679de"), looks := false }, kinds := [], alts := [], laidByText := true, laidKinds := [.data, .data, .data, .data, .data, .data, .data, .data, .data, .data, .data, .data, .data, .pinned], laidTests := true, laidLooks := .later }
def CoseOthersUptoCardSaid : Prop := Claim7.holds Tryz.pinned (.plain (OpenSpec.upto coseOthersSpec)) coseOthersUptoCard
end Rows
end Go.Proofs.YtkbacjmklhgpcaaGreatDoor
