/-
  DERIVED. GIVEN WITH THE SEED: THE CARDS: each row of YthnmbmmifamifaaGreatDoorRows.lean that lists a variable, with what it lists TIED to the program's text (the seventh form; the later family's looks); each row that meets fmt, with fmt's text TOLD by the authors' own Lean function (tested against real Go, not proved from fmt's source: count such statements apart). THE CARD IS WHAT COUNTS. Prove the row's statement (the work); the ties are given (YthnmbmmifamifaaGreatDoorTie.lean); close each card by the builder's one call (the guide's Derived/Test/ToyasCard.lean, 'card_holds'). Laid BY PROGRAM, IN A SANDBOX (cutbox-door.mjs). By AI agents, Wed Nov 11 2026. No macro, syntax, notation, axiom, sorry.
-/
import Derived.Test.YthnmbmmifamifaaGreatDoorRows
import GoSem.ClaimSeven
namespace Go.Proofs.YthnmbmmifamifaaGreatDoor
namespace Rows

/-- THE TIED CARD OF 'signetlaw18.JwsChecks'. -/
def jwsChecksCard : Claim7 := { stood := { row := jwsChecksRow, standIns := [], harness := (true, "ab09cc7c3a6726c93a97296672be376e549769e021a2d8b4d7c2504c58e7da33"), looks := false }, kinds := [], alts := [], laidByText := true, laidKinds := [.data, .data, .data, .data, .data, .data, .data, .data, .data, .data, .data, .data, .data, .data, .data, .data], laidTests := true, laidLooks := .later }
def JwsChecksCardSaid : Prop := Claim7.holds Tryz.pinned (.plain (OpenSpec.ofChange jwsChecksSpec)) jwsChecksCard

/-- THE SECOND FORM's CARD OF 'signetlaw18.JwsChecks'. -/
def jwsChecksUptoCard : Claim7 := { stood := { row := jwsChecksUptoRow, standIns := [], harness := (true, "ab09cc7c3a6726c93a97296672be376e549769e021a2d8b4d7c2504c58e7da33"), looks := false }, kinds := [], alts := [], laidByText := true, laidKinds := [.data, .data, .data, .data, .data, .data, .data, .data, .data, .data, .data, .data, .data, .data, .data, .data], laidTests := true, laidLooks := .later }
def JwsChecksUptoCardSaid : Prop := Claim7.holds Tryz.pinned (.plain (OpenSpec.upto jwsChecksSpec)) jwsChecksUptoCard
end Rows
end Go.Proofs.YthnmbmmifamifaaGreatDoor
