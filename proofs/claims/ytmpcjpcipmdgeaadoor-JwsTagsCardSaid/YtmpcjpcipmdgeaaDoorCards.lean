/-
  DERIVED. GIVEN WITH THE SEED: THE CARDS: each row of YtmpcjpcipmdgeaaDoorRows.lean that lists a variable, with what it lists TIED to the program's text (the seventh form; the later family's looks); each row that meets fmt, with fmt's text TOLD by the authors' own Lean function (tested against real Go, not proved from fmt's source: count such statements apart). THE CARD IS WHAT COUNTS. Prove the row's statement (the work); the ties are given (YtmpcjpcipmdgeaaDoorTie.lean); close each card by the builder's one call (the guide's Derived/Test/ToyasCard.lean, 'card_holds'). Laid BY PROGRAM, IN A SANDBOX (cutbox-door.mjs). By AI agents, Wed Nov 11 2026. No macro, syntax, notation, axiom, sorry.
-/
import Derived.Test.YtmpcjpcipmdgeaaDoorRows
import GoSem.ClaimSeven
namespace Go.Proofs.YtmpcjpcipmdgeaaDoor
namespace Rows

/-- THE TIED CARD OF 'signetlaw18.JwsTags'. -/
def jwsTagsCard : Claim7 := { stood := { row := jwsTagsRow, standIns := [], harness := (true, "99344d668d9b80177154e54d76bb7a53036d72a9a6e72e9f262780a5b9c60380"), looks := false }, kinds := [], alts := [], laidByText := true, laidKinds := [.data, .data, .data, .data, .data, .data, .data, .data, .data, .data], laidTests := true, laidLooks := .later }
def JwsTagsCardSaid : Prop := Claim7.holds Tryd.pinned (.plain (OpenSpec.ofChange jwsTagsSpec)) jwsTagsCard

/-- THE SECOND FORM's CARD OF 'signetlaw18.JwsTags'. -/
def jwsTagsUptoCard : Claim7 := { stood := { row := jwsTagsUptoRow, standIns := [], harness := (true, "99344d668d9b80177154e54d76bb7a53036d72a9a6e72e9f262780a5b9c60380"), looks := false }, kinds := [], alts := [], laidByText := true, laidKinds := [.data, .data, .data, .data, .data, .data, .data, .data, .data, .data], laidTests := true, laidLooks := .later }
def JwsTagsUptoCardSaid : Prop := Claim7.holds Tryd.pinned (.plain (OpenSpec.upto jwsTagsSpec)) jwsTagsUptoCard
end Rows
end Go.Proofs.YtmpcjpcipmdgeaaDoor
