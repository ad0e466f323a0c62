/-
  DERIVED. GIVEN WITH THE SEED: THE CARDS: each row of YtgjpaedgcpjigaaDoorRows.lean that lists a variable, with what it lists TIED to the program's text (the seventh form; the later family's looks); each row that meets fmt, with fmt's text TOLD by the authors' own Lean function (tested against real Go, not proved from fmt's source: count such statements apart). THE CARD IS WHAT COUNTS. Prove the row's statement (the work); the ties are given (YtgjpaedgcpjigaaDoorTie.lean); close each card by the builder's one call (the guide's Derived/Test/ToyasCard.lean, 'card_holds'). Laid BY PROGRAM, IN A SANDBOX (cutbox-door.mjs). By AI agents, Wed Nov 11 2026. No macro, syntax, notation, axiom, sorry.
-/
import Derived.Test.YtgjpaedgcpjigaaDoorRows
import GoSem.ClaimSeven
namespace Go.Proofs.YtgjpaedgcpjigaaDoor
namespace Rows

/-- THE TIED CARD OF 'signetlaw31.CoseClaims'. -/
def coseClaimsCard : Claim7 := { stood := { row := coseClaimsRow, standIns := [], harness := (true, "2fc9d3e094220bd4bc782ce8f12c33cbf6df7768bae1b7a7732c28fb86c2360d"), looks := false }, kinds := [], alts := [], laidByText := true, laidKinds := [.data, .pinned], laidTests := true, laidLooks := .later }
def CoseClaimsCardSaid : Prop := Claim7.holds Tryd.pinned (.plain (OpenSpec.ofChange coseClaimsSpec)) coseClaimsCard

/-- THE TIED CARD OF 'signetlaw31.CoseParses'. -/
def coseParsesCard : Claim7 := { stood := { row := coseParsesRow, standIns := [], harness := (true, "2fc9d3e094220bd4bc782ce8f12c33cbf6df7768bae1b7a7732c28fb86c2360d"), looks := false }, kinds := [], alts := [], laidByText := true, laidKinds := [.data, .pinned], laidTests := true, laidLooks := .later }
def CoseParsesCardSaid : Prop := Claim7.holds Tryd.pinned (.plain (OpenSpec.ofChange coseParsesSpec)) coseParsesCard

/-- THE TIED CARD OF 'signetlaw31.CoseSaid'. -/
def coseSaidCard : Claim7 := { stood := { row := coseSaidRow, standIns := [], harness := (true, "2fc9d3e094220bd4bc782ce8f12c33cbf6df7768bae1b7a7732c28fb86c2360d"), looks := false }, kinds := [], alts := [], laidByText := true, laidKinds := [.data, .pinned], laidTests := true, laidLooks := .later }
def CoseSaidCardSaid : Prop := Claim7.holds Tryd.pinned (.plain (OpenSpec.ofChange coseSaidSpec)) coseSaidCard

/-- THE TIED CARD OF 'signetlaw31.CoseSpares'. -/
def coseSparesCard : Claim7 := { stood := { row := coseSparesRow, standIns := [], harness := (true, "2fc9d3e094220bd4bc782ce8f12c33cbf6df7768bae1b7a7732c28fb86c2360d"), looks := false }, kinds := [], alts := [], laidByText := true, laidKinds := [.data, .pinned], laidTests := true, laidLooks := .later }
def CoseSparesCardSaid : Prop := Claim7.holds Tryd.pinned (.plain (OpenSpec.ofChange coseSparesSpec)) coseSparesCard

/-- THE TIED CARD OF 'signetlaw31.CoseMessage'. -/
def coseMessageCard : Claim7 := { stood := { row := coseMessageRow, standIns := [], harness := (true, "2fc9d3e094220bd4bc782ce8f12c33cbf6df7768bae1b7a7732c28fb86c2360d"), looks := false }, kinds := [], alts := [], laidByText := true, laidKinds := [.data, .pinned], laidTests := true, laidLooks := .later }
def CoseMessageCardSaid : Prop := Claim7.holds Tryd.pinned (.plain (OpenSpec.ofChange coseMessageSpec)) coseMessageCard

/-- THE SECOND FORM's CARD OF 'signetlaw31.CoseClaims'. -/
def coseClaimsUptoCard : Claim7 := { stood := { row := coseClaimsUptoRow, standIns := [], harness := (true, "2fc9d3e094220bd4bc782ce8f12c33cbf6df7768bae1b7a7732c28fb86c2360d"), looks := false }, kinds := [], alts := [], laidByText := true, laidKinds := [.data, .pinned], laidTests := true, laidLooks := .later }
def CoseClaimsUptoCardSaid : Prop := Claim7.holds Tryd.pinned (.plain (OpenSpec.upto coseClaimsSpec)) coseClaimsUptoCard

/-- THE SECOND FORM's CARD OF 'signetlaw31.CoseParses'. -/
def coseParsesUptoCard : Claim7 := { stood := { row := coseParsesUptoRow, standIns := [], harness := (true, "2fc9d3e094220bd4bc782ce8f12c33cbf6df7768bae1b7a7732c28fb86c2360d"), looks := false }, kinds := [], alts := [], laidByText := true, laidKinds := [.data, .pinned], laidTests := true, laidLooks := .later }
def CoseParsesUptoCardSaid : Prop := Claim7.holds Tryd.pinned (.plain (OpenSpec.upto coseParsesSpec)) coseParsesUptoCard

/-- THE SECOND FORM's CARD OF 'signetlaw31.CoseSaid'. -/
def coseSaidUptoCard : Claim7 := { stood := { row := coseSaidUptoRow, standIns := [], harness := (true, "2fc9d3e094220bd4bc782ce8f12c33cbf6df7768bae1b7a7732c28fb86c2360d"), looks := false }, kinds := [], alts := [], laidByText := true, laidKinds := [.data, .pinned], laidTests := true, laidLooks := .later }
def CoseSaidUptoCardSaid : Prop := Claim7.holds Tryd.pinned (.plain (OpenSpec.upto coseSaidSpec)) coseSaidUptoCard

/-- THE SECOND FORM's CARD OF 'signetlaw31.CoseSpares'. -/
def coseSparesUptoCard : Claim7 := { stood := { row := coseSparesUptoRow, standIns := [], harness := (true, "2fc9d3e094220bd4bc782ce8f12c33cbf6df7768bae1b7a7732c28fb86c2360d"), looks := false }, kinds := [], alts := [], laidByText := true, laidKinds := [.data, .pinned], laidTests := true, laidLooks := .later }
def CoseSparesUptoCardSaid : Prop := Claim7.holds Tryd.pinned (.plain (OpenSpec.upto coseSparesSpec)) coseSparesUptoCard

/-- THE SECOND FORM's CARD OF 'signetlaw31.CoseMessage'. -/
def coseMessageUptoCard : Claim7 := { stood := { row := coseMessageUptoRow, standIns := [], harness := (true, "2fc9d3e094220bd4bc782ce8f12c33cbf6df7768bae1b7a7732c28fb86c2360d"), looks := false }, kinds := [], alts := [], laidByText := true, laidKinds := [.data, .pinned], laidTests := true, laidLooks := .later }
def CoseMessageUptoCardSaid : Prop := Claim7.holds Tryd.pinned (.plain (OpenSpec.upto coseMessageSpec)) coseMessageUptoCard
end Rows
end Go.Proofs.YtgjpaedgcpjigaaDoor
