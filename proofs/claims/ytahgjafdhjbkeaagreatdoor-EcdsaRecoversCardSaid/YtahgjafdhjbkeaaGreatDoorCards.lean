/-
  DERIVED. GIVEN WITH THE SEED: THE CARDS: each row of YtahgjafdhjbkeaaGreatDoorRows.lean that lists a variable, with what it lists TIED to the program's text (the seventh form; the later family's looks); each row that meets fmt, with fmt's text TOLD by the authors' own Lean function (tested against real Go, not proved from fmt's source: count such statements apart). THE CARD IS WHAT COUNTS. Prove the row's statement (the work); the ties are given (YtahgjafdhjbkeaaGreatDoorTie.lean); close each card by the builder's one call (the guide's Derived/Test/ToyasCard.lean, 'card_holds'). Laid BY PROGRAM, IN A SANDBOX (cutbox-door.mjs). By AI agents, Wed Nov 11 2026. No macro, syntax, notation, axiom, sorry.
-/
import Derived.Test.YtahgjafdhjbkeaaGreatDoorRows
import GoSem.ClaimSeven
namespace Go.Proofs.YtahgjafdhjbkeaaGreatDoor
namespace Rows

/-- THE TIED CARD OF 'signetlaw12.EcdsaVerifies'. -/
def ecdsaVerifiesCard : Claim7 := { stood := { row := ecdsaVerifiesRow, standIns := [], harness := (true, "dacfb64acfc0e5171c7b9b9d11d3e83f9fae6133419257ecdfcafa155517c8dd"), looks := false }, kinds := [], alts := [], laidByText := true, laidKinds := [.data, .data, .data, .data, .data, .data, .data, .data, .data, .data], laidTests := true, laidLooks := .later }
def EcdsaVerifiesCardSaid : Prop := Claim7.holds Tryz.pinned (.plain (OpenSpec.ofChange ecdsaVerifiesSpec)) ecdsaVerifiesCard

/-- THE TIED CARD OF 'signetlaw12.EcdsaRecovers'. -/
def ecdsaRecoversCard : Claim7 := { stood := { row := ecdsaRecoversRow, standIns := [], harness := (true, "dacfb64acfc0e5171c7b9b9d11d3e83f9fae6133419257ecdfcafa155517c8dd"), looks := false }, kinds := [], alts := [], laidByText := true, laidKinds := [.data, .data, .data, .data, .data, .data, .data, .data, .data, .data], laidTests := true, laidLooks := .later }
def EcdsaRecoversCardSaid : Prop := Claim7.holds Tryz.pinned (.plain (OpenSpec.ofChange ecdsaRecoversSpec)) ecdsaRecoversCard

/-- THE SECOND FORM's CARD OF 'signetlaw12.EcdsaVerifies'. -/
def ecdsaVerifiesUptoCard : Claim7 := { stood := { row := ecdsaVerifiesUptoRow, standIns := [], harness := (true, "dacfb64acfc0e5171c7b9b9d11d3e83f9fae6133419257ecdfcafa155517c8dd"), looks := false }, kinds := [], alts := [], laidByText := true, laidKinds := [.data, .data, .data, .data, .data, .data, .data, .data, .data, .data], laidTests := true, laidLooks := .later }
def EcdsaVerifiesUptoCardSaid : Prop := Claim7.holds Tryz.pinned (.plain (OpenSpec.upto ecdsaVerifiesSpec)) ecdsaVerifiesUptoCard

/-- THE SECOND FORM's CARD OF 'signetlaw12.EcdsaRecovers'. -/
def ecdsaRecoversUptoCard : Claim7 := { stood := { row := ecdsaRecoversUptoRow, standIns := [], harness := (true, "dacfb64acfc0e5171c7b9b9d11d3e83f9fae6133419257ecdfcafa155517c8dd"), looks := false }, kinds := [], alts := [], laidByText := true, laidKinds := [.data, .data, .data, .data, .data, .data, .data, .data, .data, .data], laidTests := true, laidLooks := .later }
def EcdsaRecoversUptoCardSaid : Prop := Claim7.holds Tryz.pinned (.plain (OpenSpec.upto ecdsaRecoversSpec)) ecdsaRecoversUptoCard
end Rows
end Go.Proofs.YtahgjafdhjbkeaaGreatDoor
