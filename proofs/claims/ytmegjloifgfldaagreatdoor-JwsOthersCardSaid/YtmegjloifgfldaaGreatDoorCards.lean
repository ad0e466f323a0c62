/-
  DERIVED. GIVEN WITH THE SEED: THE CARDS: each row of YtmegjloifgfldaaGreatDoorRows.lean that lists a variable, with what it lists TIED to the program's text (the seventh form; the later family's looks); each row that meets fmt, with fmt's text TOLD by the authors' own Lean function (tested against real Go, not proved from fmt's source: count such statements apart). THE CARD IS WHAT COUNTS. Prove the row's statement (the work); the ties are given (YtmegjloifgfldaaGreatDoorTie.lean); close each card by the builder's one call (the guide's Derived/Test/ToyasCard.lean, 'card_holds'). Laid BY PROGRAM, IN A SANDBOX (cutbox-door.mjs). By AI agents, Wed Nov 11 2026. No macro, syntax, notation, axiom, sorry.
-/
import Derived.Test.YtmegjloifgfldaaGreatDoorRows
import GoSem.ClaimSeven
namespace Go.Proofs.YtmegjloifgfldaaGreatDoor
namespace Rows

/-- THE TIED CARD OF 'signetlaw18.JwsBound'. -/
def jwsBoundCard : Claim7 := { stood := { row := jwsBoundRow, standIns := [], harness := (true, "8f08bdd01ef9d99296855e653e973f854d2eea9dbd2f8d6c6b4400b42944eeec"), looks := false }, kinds := [], alts := [], laidByText := true, laidKinds := [.data, .data, .data, .data, .data, .data, .data, .data, .data, .data, .data], laidTests := true, laidLooks := .later }
def JwsBoundCardSaid : Prop := Claim7.holds Tryz.pinned (.plain (OpenSpec.ofChange jwsBoundSpec)) jwsBoundCard

/-- THE TIED CARD OF 'signetlaw18.JwsOthers'. -/
def jwsOthersCard : Claim7 := { stood := { row := jwsOthersRow, standIns := [], harness := (true, "8f08bdd01ef9d99296855e653e973f854d2eea9dbd2f8d6c6b4400b42944eeec"), looks := false }, kinds := [], alts := [], laidByText := true, laidKinds := [.data, .data, .data, .data, .data, .data, .data, .data, .data, .data, .data], laidTests := true, laidLooks := .later }
def JwsOthersCardSaid : Prop := Claim7.holds Tryz.pinned (.plain (OpenSpec.ofChange jwsOthersSpec)) jwsOthersCard

/-- THE SECOND FORM's CARD OF 'signetlaw18.JwsBound'. -/
def jwsBoundUptoCard : Claim7 := { stood := { row := jwsBoundUptoRow, standIns := [], harness := (true, "8f08bdd01ef9d99296855e653e973f854d2eea9dbd2f8d6c6b4400b42944eeec"), looks := false }, kinds := [], alts := [], laidByText := true, laidKinds := [.data, .data, .data, .data, .data, .data, .data, .data, .data, .data, .data], laidTests := true, laidLooks := .later }
def JwsBoundUptoCardSaid : Prop := Claim7.holds Tryz.pinned (.plain (OpenSpec.upto jwsBoundSpec)) jwsBoundUptoCard

/-- THE SECOND FORM's CARD OF 'signetlaw18.JwsOthers'. -/
def jwsOthersUptoCard : Claim7 := { stood := { row := jwsOthersUptoRow, standIns := [], harness := (true, "8f08bdd01ef9d99296855e653e973f854d2eea9dbd2f8d6c6b4400b42944eeec"), looks := false }, kinds := [], alts := [], laidByText := true, laidKinds := [.data, .data, .data, .data, .data, .data, .data, .data, .data, .data, .data], laidTests := true, laidLooks := .later }
def JwsOthersUptoCardSaid : Prop := Claim7.holds Tryz.pinned (.plain (OpenSpec.upto jwsOthersSpec)) jwsOthersUptoCard
end Rows
end Go.Proofs.YtmegjloifgfldaaGreatDoor
