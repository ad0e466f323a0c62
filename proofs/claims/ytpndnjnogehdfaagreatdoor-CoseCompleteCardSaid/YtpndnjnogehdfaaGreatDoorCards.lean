/-
  DERIVED. GIVEN WITH THE SEED: THE CARDS: each row of YtpndnjnogehdfaaGreatDoorRows.lean that lists a variable, with what it lists TIED to the program's text (the seventh form; the later family's looks); each row that meets fmt, with fmt's text TOLD by the authors' own Lean function (tested against real Go, not proved from fmt's source: count such statements apart). THE CARD IS WHAT COUNTS. Prove the row's statement (the work); the ties are given (YtpndnjnogehdfaaGreatDoorTie.lean); close each card by the builder's one call (the guide's Derived/Test/ToyasCard.lean, 'card_holds'). Laid BY PROGRAM, IN A SANDBOX (cutbox-door.mjs). By AI agents, Wed Nov 11 2026. No macro, syntax, notation, axiom, sorry.
-/
import Derived.Test.YtpndnjnogehdfaaGreatDoorRows
import GoSem.ClaimSeven
namespace Go.Proofs.YtpndnjnogehdfaaGreatDoor
namespace Rows

/-- THE TIED CARD OF 'signetlaw31.CoseComplete'. -/
def coseCompleteCard : Claim7 := { stood := { row := coseCompleteRow, standIns := [], harness := (true, "fced991299b74f1b650d17f31796ec3ad98960bdda83aaf4866e8470da499731"), looks := false }, kinds := [], alts := [], laidByText := true, laidKinds := [.data, .data, .data, .data, .data, .data, .data, .data, .data, .data, .data, .data, .data, .pinned], laidTests := true, laidLooks := .later }
def CoseCompleteCardSaid : Prop := Claim7.holds Tryz.pinned (.plain (OpenSpec.ofChange coseCompleteSpec)) coseCompleteCard

/-- THE SECOND FORM's CARD OF 'signetlaw31.CoseComplete'. -/
def coseCompleteUptoCard : Claim7 := { stood := { row := coseCompleteUptoRow, standIns := [], harness := (true, "fced991299b74f1b650d17f31796ec3ad98960bdda83aaf4866e8470da499731"), looks := false }, kinds := [], alts := [], laidByText := true, laidKinds := [.data, .data, .data, .data, .data, .data, .data, .data, .data, .data, .data, .data, .data, .pinned], laidTests := true, laidLooks := .later }
def CoseCompleteUptoCardSaid : Prop := Claim7.holds Tryz.pinned (.plain (OpenSpec.upto coseCompleteSpec)) coseCompleteUptoCard
end Rows
end Go.Proofs.YtpndnjnogehdfaaGreatDoor
