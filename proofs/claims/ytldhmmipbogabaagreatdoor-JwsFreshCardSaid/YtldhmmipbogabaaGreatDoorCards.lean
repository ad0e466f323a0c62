/-
  DERIVED. GIVEN WITH THE SEED: THE CARDS: each row of YtldhmmipbogabaaGreatDoorRows.lean that lists a variable, with what it lists TIED to the program's text (the seventh form; the later family's looks); each row that meets fmt, with fmt's text TOLD by the authors' own Lean function (tested against real Go, not proved from fmt's source: count such statements apart). THE CARD IS WHAT COUNTS. Prove the row's statement (the work); the ties are given (YtldhmmipbogabaaGreatDoorTie.lean); close each card by the builder's one call (the guide's Derived/Test/ToyasCard.lean, 'card_holds'). Laid BY PROGRAM, IN A SANDBOX (cutbox-door.mjs). By AI agents, Wed Nov 11 2026. No macro, syntax, notation, axiom, sorry.
-/
import Derived.Test.YtldhmmipbogabaaGreatDoorRows
import GoSem.ClaimSeven
namespace Go.Proofs.YtldhmmipbogabaaGreatDoor
namespace Rows

/-- THE TIED CARD OF 'signetlaw18.JwsChecks'. -/
def jwsChecksCard : Claim7 := { stood := { row := jwsChecksRow, standIns := [], harness := (true, "0977b3a026db225a46b0d31929f654db7f4734ee9c82213ca3238657441daab8"), looks := false }, kinds := [], alts := [], laidByText := true, laidKinds := [.data, .data, .data, .data, .data, .data, .data, .data, .data, .data, .data, .data, .data, .data, .data, .data], laidTests := true, laidLooks := .later }
def JwsChecksCardSaid : Prop := Claim7.holds Tryz.pinned (.plain (OpenSpec.ofChange jwsChecksSpec)) jwsChecksCard

/-- THE TIED CARD OF 'signetlaw18.JwsOneSpelling'. -/
def jwsOneSpellingCard : Claim7 := { stood := { row := jwsOneSpellingRow, standIns := [], harness := (true, "0977b3a026db225a46b0d31929f654db7f4734ee9c82213ca3238657441daab8"), looks := false }, kinds := [], alts := [], laidByText := true, laidKinds := [.data, .data, .data, .data, .data, .data, .data, .data, .data, .data, .data], laidTests := true, laidLooks := .later }
def JwsOneSpellingCardSaid : Prop := Claim7.holds Tryz.pinned (.plain (OpenSpec.ofChange jwsOneSpellingSpec)) jwsOneSpellingCard

/-- THE TIED CARD OF 'signetlaw18.JwsSplits'. -/
def jwsSplitsCard : Claim7 := { stood := { row := jwsSplitsRow, standIns := [], harness := (true, "0977b3a026db225a46b0d31929f654db7f4734ee9c82213ca3238657441daab8"), looks := false }, kinds := [], alts := [], laidByText := true, laidKinds := [.data, .data, .data, .data, .data, .data, .data, .data, .data, .data, .data], laidTests := true, laidLooks := .later }
def JwsSplitsCardSaid : Prop := Claim7.holds Tryz.pinned (.plain (OpenSpec.ofChange jwsSplitsSpec)) jwsSplitsCard

/-- THE TIED CARD OF 'signetlaw18.JwsBound'. -/
def jwsBoundCard : Claim7 := { stood := { row := jwsBoundRow, standIns := [], harness := (true, "0977b3a026db225a46b0d31929f654db7f4734ee9c82213ca3238657441daab8"), looks := false }, kinds := [], alts := [], laidByText := true, laidKinds := [.data, .data, .data, .data, .data, .data, .data, .data, .data, .data, .data], laidTests := true, laidLooks := .later }
def JwsBoundCardSaid : Prop := Claim7.holds Tryz.pinned (.plain (OpenSpec.ofChange jwsBoundSpec)) jwsBoundCard

/-- THE TIED CARD OF 'signetlaw18.JwsOthers'. -/
def jwsOthersCard : Claim7 := { stood := { row := jwsOthersRow, standIns := [], harness := (true, "0977b3a026db225a46b0d31929f654db7f4734ee9c82213ca3238657441daab8"), looks := false }, kinds := [], alts := [], laidByText := true, laidKinds := [.data, .data, .data, .data, .data, .data, .data, .data, .data, .data, .data], laidTests := true, laidLooks := .later }
def JwsOthersCardSaid : Prop := Claim7.holds Tryz.pinned (.plain (OpenSpec.ofChange jwsOthersSpec)) jwsOthersCard

/-- THE TIED CARD OF 'signetlaw18.JwsTagHolds'. -/
def jwsTagHoldsCard : Claim7 := { stood := { row := jwsTagHoldsRow, standIns := [], harness := (true, "0977b3a026db225a46b0d31929f654db7f4734ee9c82213ca3238657441daab8"), looks := false }, kinds := [], alts := [], laidByText := true, laidKinds := [.data, .data, .data, .data, .data, .data, .data, .data, .data, .data, .data], laidTests := true, laidLooks := .later }
def JwsTagHoldsCardSaid : Prop := Claim7.holds Tryz.pinned (.plain (OpenSpec.ofChange jwsTagHoldsSpec)) jwsTagHoldsCard

/-- THE TIED CARD OF 'signetlaw18.JwsFresh'. -/
def jwsFreshCard : Claim7 := { stood := { row := jwsFreshRow, standIns := [], harness := (true, "0977b3a026db225a46b0d31929f654db7f4734ee9c82213ca3238657441daab8"), looks := false }, kinds := [], alts := [], laidByText := true, laidKinds := [.data, .data, .data, .data, .data, .data, .data, .data, .data, .data, .data], laidTests := true, laidLooks := .later }
def JwsFreshCardSaid : Prop := Claim7.holds Tryz.pinned (.plain (OpenSpec.ofChange jwsFreshSpec)) jwsFreshCard

/-- THE SECOND FORM's CARD OF 'signetlaw18.JwsChecks'. -/
def jwsChecksUptoCard : Claim7 := { stood := { row := jwsChecksUptoRow, standIns := [], harness := (true, "0977b3a026db225a46b0d31929f654db7f4734ee9c82213ca3238657441daab8"), looks := false }, kinds := [], alts := [], laidByText := true, laidKinds := [.data, .data, .data, .data, .data, .data, .data, .data, .data, .data, .data, .data, .data, .data, .data, .data], laidTests := true, laidLooks := .later }
def JwsChecksUptoCardSaid : Prop := Claim7.holds Tryz.pinned (.plain (OpenSpec.upto jwsChecksSpec)) jwsChecksUptoCard

/-- THE SECOND FORM's CARD OF 'signetlaw18.JwsOneSpelling'. -/
def jwsOneSpellingUptoCard : Claim7 := { stood := { row := jwsOneSpellingUptoRow, standIns := [], harness := (true, "0977b3a026db225a46b0d31929f654db7f4734ee9c82213ca3238657441daab8"), looks := false }, kinds := [], alts := [], laidByText := true, laidKinds := [.data, .data, .data, .data, .data, .data, .data, .data, .data, .data, .data], laidTests := true, laidLooks := .later }
def JwsOneSpellingUptoCardSaid : Prop := Claim7.holds Tryz.pinned (.plain (OpenSpec.upto jwsOneSpellingSpec)) jwsOneSpellingUptoCard

/-- THE SECOND FORM's CARD OF 'signetlaw18.JwsSplits'. -/
def jwsSplitsUptoCard : Claim7 := { stood := { row := jwsSplitsUptoRow, standIns := [], harness := (true, "0977b3a026db225a46b0d31929f654db7f4734ee9c82213ca3238657441daab8"), looks := false }, kinds := [], alts := [], laidByText := true, laidKinds := [.data, .data, .data, .data, .data, .data, .data, .data, .data, .data, .data], laidTests := true, laidLooks := .later }
def JwsSplitsUptoCardSaid : Prop := Claim7.holds Tryz.pinned (.plain (OpenSpec.upto jwsSplitsSpec)) jwsSplitsUptoCard

/-- THE SECOND FORM's CARD OF 'signetlaw18.JwsBound'. -/
def jwsBoundUptoCard : Claim7 := { stood := { row := jwsBoundUptoRow, standIns := [], harness := (true, "0977b3a026db225a46b0d31929f654db7f4734ee9c82213ca3238657441daab8"), looks := false }, kinds := [], alts := [], laidByText := true, laidKinds := [.data, .data, .data, .data, .data, .data, .data, .data, .data, .data, .data], laidTests := true, laidLooks := .later }
def JwsBoundUptoCardSaid : Prop := Claim7.holds Tryz.pinned (.plain (OpenSpec.upto jwsBoundSpec)) jwsBoundUptoCard

/-- THE SECOND FORM's CARD OF 'signetlaw18.JwsOthers'. -/
def jwsOthersUptoCard : Claim7 := { stood := { row := jwsOthersUptoRow, standIns := [], harness := (true, "0977b3a026db225a46b0d31929f654db7f4734ee9c82213ca3238657441daab8"), looks := false }, kinds := [], alts := [], laidByText := true, laidKinds := [.data, .data, .data, .data, .data, .data, .data, .data, .data, .data, .data], laidTests := true, laidLooks := .later }
def JwsOthersUptoCardSaid : Prop := Claim7.holds Tryz.pinned (.plain (OpenSpec.upto jwsOthersSpec)) jwsOthersUptoCard

/-- THE SECOND FORM's CARD OF 'signetlaw18.JwsTagHolds'. -/
def jwsTagHoldsUptoCard : Claim7 := { stood := { row := jwsTagHoldsUptoRow, standIns := [], harness := (true, "0977b3a026db225a46b0d31929f654db7f4734ee9c82213ca3238657441daab8"), looks := false }, kinds := [], alts := [], laidByText := true, laidKinds := [.data, .data, .data, .data, .data, .data, .data, .data, .data, .data, .data], laidTests := true, laidLooks := .later }
def JwsTagHoldsUptoCardSaid : Prop := Claim7.holds Tryz.pinned (.plain (OpenSpec.upto jwsTagHoldsSpec)) jwsTagHoldsUptoCard

/-- THE SECOND FORM's CARD OF 'signetlaw18.JwsFresh'. -/
def jwsFreshUptoCard : Claim7 := { stood := { row := jwsFreshUptoRow, standIns := [], harness := (true, "0977b3a026db225a46b0d31929f654db7f4734ee9c82213ca3238657441daab8"), looks := false }, kinds := [], alts := [], laidByText := true, laidKinds := [.data, .data, .data, .data, .data, .data, .data, .data, .data, .data, .data], laidTests := true, laidLooks := .later }
def JwsFreshUptoCardSaid : Prop := Claim7.holds Tryz.pinned (.plain (OpenSpec.upto jwsFreshSpec)) jwsFreshUptoCard
end Rows
end Go.Proofs.YtldhmmipbogabaaGreatDoor
