/-
  DERIVED. GIVEN WITH THE SEED: THE CARDS: each row of YtkickcbphbgldaaGreatDoorRows.lean that lists a variable, with what it lists TIED to the program's text (the seventh form; the later family's looks); each row that meets fmt, with fmt's text TOLD by the authors' own Lean function (tested against real Go, not proved from fmt's source: count such statements apart). THE CARD IS WHAT COUNTS. Prove the row's statement (the work); the ties are given (YtkickcbphbgldaaGreatDoorTie.lean); close each card by the builder's one call (the guide's Derived/Test/ToyasCard.lean, 'card_holds'). Laid BY PROGRAM, IN A SANDBOX (cutbox-door.mjs). By AI agents, Wed Nov 11 2026. No macro, syntax, notation, axiom, sorry.
-/
import Derived.Test.YtkickcbphbgldaaGreatDoorRows
import GoSem.ClaimSeven
namespace Go.Proofs.YtkickcbphbgldaaGreatDoor
namespace Rows

/-- THE TIED CARD OF 'signetlaw12.EcdsaVerifies'. -/
def ecdsaVerifiesCard : Claim7 := { stood := { row := ecdsaVerifiesRow, standIns := [], harness := (true, "a1990ee235156f470ac614981d2a749f27cb8b00bd3dd9b96705de2a471a20af"), looks := false }, kinds := [], alts := [], laidByText := true, laidKinds := [.data, .data, .data, .data, .data, .data, .data, .data, .data, .data], laidTests := true, laidLooks := .later }
def EcdsaVerifiesCardSaid : Prop := Claim7.holds Tryz.pinned (.plain (OpenSpec.ofChange ecdsaVerifiesSpec)) ecdsaVerifiesCard

/-- THE TIED CARD OF 'signetlaw12.EcdsaRecovers'. -/
def ecdsaRecoversCard : Claim7 := { stood := { row := ecdsaRecoversRow, standIns := [], harness := (true, "a1990ee235156f470ac614981d2a749f27cb8b00bd3dd9b96705de2a471a20af"), looks := false }, kinds := [], alts := [], laidByText := true, laidKinds := [.data, .data, .data, .data, .data, .data, .data, .data, .data, .data], laidTests := true, laidLooks := .later }
def EcdsaRecoversCardSaid : Prop := Claim7.holds Tryz.pinned (.plain (OpenSpec.ofChange ecdsaRecoversSpec)) ecdsaRecoversCard

/-- THE TIED CARD OF 'signetlaw12.EcdsaTwins'. -/
def ecdsaTwinsCard : Claim7 := { stood := { row := ecdsaTwinsRow, standIns := [], harness := (true, "a1990ee235156f470ac614981d2a749f27cb8b00bd3dd9b96705de2a471a20af"), looks := false }, kinds := [], alts := [], laidByText := true, laidKinds := [.data, .data, .data, .data, .data], laidTests := true, laidLooks := .later }
def EcdsaTwinsCardSaid : Prop := Claim7.holds Tryz.pinned (.plain (OpenSpec.ofChange ecdsaTwinsSpec)) ecdsaTwinsCard

/-- THE TIED CARD OF 'signetlaw12.EcdsaCounts'. -/
def ecdsaCountsCard : Claim7 := { stood := { row := ecdsaCountsRow, standIns := [], harness := (true, "a1990ee235156f470ac614981d2a749f27cb8b00bd3dd9b96705de2a471a20af"), looks := false }, kinds := [], alts := [], laidByText := true, laidKinds := [.data, .data, .data, .data, .data], laidTests := true, laidLooks := .later }
def EcdsaCountsCardSaid : Prop := Claim7.holds Tryz.pinned (.plain (OpenSpec.ofChange ecdsaCountsSpec)) ecdsaCountsCard

/-- THE TIED CARD OF 'signetlaw12.EcdsaSpares'. -/
def ecdsaSparesCard : Claim7 := { stood := { row := ecdsaSparesRow, standIns := [], harness := (true, "a1990ee235156f470ac614981d2a749f27cb8b00bd3dd9b96705de2a471a20af"), looks := false }, kinds := [], alts := [], laidByText := true, laidKinds := [.data, .data, .data, .data, .data], laidTests := true, laidLooks := .later }
def EcdsaSparesCardSaid : Prop := Claim7.holds Tryz.pinned (.plain (OpenSpec.ofChange ecdsaSparesSpec)) ecdsaSparesCard

/-- THE TIED CARD OF 'signetlaw12.EcdsaComplete'. -/
def ecdsaCompleteCard : Claim7 := { stood := { row := ecdsaCompleteRow, standIns := [], harness := (true, "a1990ee235156f470ac614981d2a749f27cb8b00bd3dd9b96705de2a471a20af"), looks := false }, kinds := [], alts := [], laidByText := true, laidKinds := [.data, .data, .data, .data, .data], laidTests := true, laidLooks := .later }
def EcdsaCompleteCardSaid : Prop := Claim7.holds Tryz.pinned (.plain (OpenSpec.ofChange ecdsaCompleteSpec)) ecdsaCompleteCard

/-- THE TIED CARD OF 'signetlaw12.EcdsaEquation'. -/
def ecdsaEquationCard : Claim7 := { stood := { row := ecdsaEquationRow, standIns := [], harness := (true, "a1990ee235156f470ac614981d2a749f27cb8b00bd3dd9b96705de2a471a20af"), looks := false }, kinds := [], alts := [], laidByText := true, laidKinds := [.data, .data, .data, .data, .data], laidTests := true, laidLooks := .later }
def EcdsaEquationCardSaid : Prop := Claim7.holds Tryz.pinned (.plain (OpenSpec.ofChange ecdsaEquationSpec)) ecdsaEquationCard

/-- THE SECOND FORM's CARD OF 'signetlaw12.EcdsaVerifies'. -/
def ecdsaVerifiesUptoCard : Claim7 := { stood := { row := ecdsaVerifiesUptoRow, standIns := [], harness := (true, "a1990ee235156f470ac614981d2a749f27cb8b00bd3dd9b96705de2a471a20af"), looks := false }, kinds := [], alts := [], laidByText := true, laidKinds := [.data, .data, .data, .data, .data, .data, .data, .data, .data, .data], laidTests := true, laidLooks := .later }
def EcdsaVerifiesUptoCardSaid : Prop := Claim7.holds Tryz.pinned (.plain (OpenSpec.upto ecdsaVerifiesSpec)) ecdsaVerifiesUptoCard

/-- THE SECOND FORM's CARD OF 'signetlaw12.EcdsaRecovers'. -/
def ecdsaRecoversUptoCard : Claim7 := { stood := { row := ecdsaRecoversUptoRow, standIns := [], harness := (true, "a1990ee235156f470ac614981d2a749f27cb8b00bd3dd9b96705de2a471a20af"), looks := false }, kinds := [], alts := [], laidByText := true, laidKinds := [.data, .data, .data, .data, .data, .data, .data, .data, .data, .data], laidTests := true, laidLooks := .later }
def EcdsaRecoversUptoCardSaid : Prop := Claim7.holds Tryz.pinned (.plain (OpenSpec.upto ecdsaRecoversSpec)) ecdsaRecoversUptoCard

/-- THE SECOND FORM's CARD OF 'signetlaw12.EcdsaTwins'. -/
def ecdsaTwinsUptoCard : Claim7 := { stood := { row := ecdsaTwinsUptoRow, standIns := [], harness := (true, "a1990ee235156f470ac614981d2a749f27cb8b00bd3dd9b96705de2a471a20af"), looks := false }, kinds := [], alts := [], laidByText := true, laidKinds := [.data, .data, .data, .data, .data], laidTests := true, laidLooks := .later }
def EcdsaTwinsUptoCardSaid : Prop := Claim7.holds Tryz.pinned (.plain (OpenSpec.upto ecdsaTwinsSpec)) ecdsaTwinsUptoCard

/-- THE SECOND FORM's CARD OF 'signetlaw12.EcdsaCounts'. -/
def ecdsaCountsUptoCard : Claim7 := { stood := { row := ecdsaCountsUptoRow, standIns := [], harness := (true, "a1990ee235156f470ac614981d2a749f27cb8b00bd3dd9b96705de2a471a20af"), looks := false }, kinds := [], alts := [], laidByText := true, laidKinds := [.data, .data, .data, .data, .data], laidTests := true, laidLooks := .later }
def EcdsaCountsUptoCardSaid : Prop := Claim7.holds Tryz.pinned (.plain (OpenSpec.upto ecdsaCountsSpec)) ecdsaCountsUptoCard

/-- THE SECOND FORM's CARD OF 'signetlaw12.EcdsaSpares'. -/
def ecdsaSparesUptoCard : Claim7 := { stood := { row := ecdsaSparesUptoRow, standIns := [], harness := (true, "a1990ee235156f470ac614981d2a749f27cb8b00bd3dd9b96705de2a471a20af"), looks := false }, kinds := [], alts := [], laidByText := true, laidKinds := [.data, .data, .data, .data, .data], laidTests := true, laidLooks := .later }
def EcdsaSparesUptoCardSaid : Prop := Claim7.holds Tryz.pinned (.plain (OpenSpec.upto ecdsaSparesSpec)) ecdsaSparesUptoCard

/-- THE SECOND FORM's CARD OF 'signetlaw12.EcdsaComplete'. -/
def ecdsaCompleteUptoCard : Claim7 := { stood := { row := ecdsaCompleteUptoRow, standIns := [], harness := (true, "a1990ee235156f470ac614981d2a749f27cb8b00bd3dd9b96705de2a471a20af"), looks := false }, kinds := [], alts := [], laidByText := true, laidKinds := [.data, .data, .data, .data, .data], laidTests := true, laidLooks := .later }
def EcdsaCompleteUptoCardSaid : Prop := Claim7.holds Tryz.pinned (.plain (OpenSpec.upto ecdsaCompleteSpec)) ecdsaCompleteUptoCard

/-- THE SECOND FORM's CARD OF 'signetlaw12.EcdsaEquation'. -/
def ecdsaEquationUptoCard : Claim7 := { stood := { row := ecdsaEquationUptoRow, standIns := [], harness := (true, "a1990ee235156f470ac614981d2a749f27cb8b00bd3dd9b96705de2a471a20af"), looks := false }, kinds := [], alts := [], laidByText := true, laidKinds := [.data, .data, .data, .data, .data], laidTests := true, laidLooks := .later }
def EcdsaEquationUptoCardSaid : Prop := Claim7.holds Tryz.pinned (.plain (OpenSpec.upto ecdsaEquationSpec)) ecdsaEquationUptoCard
end Rows
end Go.Proofs.YtkickcbphbgldaaGreatDoor
