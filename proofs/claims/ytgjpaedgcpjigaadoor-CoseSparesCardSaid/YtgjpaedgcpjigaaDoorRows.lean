/-
  NARROWER THAN 'FOR EVERY INPUT', by the rows' own cells (each row's printed sentence says how): CoseClaims: laid · CoseParses: laid · CoseSaid: laid · CoseSpares: laid · CoseMessage: laid.
  DERIVED. THE GIVEN ROWS OF THIS SEAT. 5 by the template 'for every input the law returns true; each argument reads behind the call as it read before'; 0 by the template 'total and deterministic' (their statements: YtgjpaedgcpjigaaDoorTotals.lean).
  GIVEN WITH THE SEED: the statements are not yours to turn. If you find one false, say at which input.
  Laid BY PROGRAM, IN A SANDBOX (cutbox-rows.mjs): the forced cells as the released guide's own fill.sh prints them over the translation 58a05db49d735486… (all of the seat's roots in one cut). By AI agents, Wed Nov 11 2026. No macro, syntax, notation, axiom, sorry.
-/
import Derived.Test.YtgjpaedgcpjigaaDoorChecked
import GoSem.PinnedTables
import GoSem.Claim
import GoSem.ClaimJoined
import GoSem.ClaimMapViews
import Derived.JoinedTies
import Derived.KernelRfl
namespace Go.Proofs.YtgjpaedgcpjigaaDoor
/- THE CELL 'sum', in the pinned program and in every row, IS THE sha256 OF THE DUMP (.gsa) THAT YtgjpaedgcpjigaaDoorProg.lean LOADS. Nothing in Lean hashes anything: it is a label: what it is worth is what the hold of that sum in a sandbox is worth. -/
noncomputable def Tryd.pinned : Pinned := { name := "ytgjpaedgcpjigaadoor", sum := "58a05db49d73548628cfafcefcfae06d177945355c04def9594799fc308ac698", checked := Tryd.checked }
namespace Rows
def none {H : Type} : Left H := { results := [], args := [] }

/- WHAT THE LISTED PACKAGE-LEVEL VARIABLES READ AS WHEN THE CALL BEGINS. Each datum BY PROGRAM (the guide's laid-datum.mjs) off the statement by which the dump's own 'gosem.cut.vars' lays the variable. In a bare row this is a premise. The card (YtgjpaedgcpjigaaDoorCards.lean) ties it to the program's text. -/
def laid_unicode_utf8_acceptRanges {H : Type} : DataW H := .agg [.agg [.lit (.int .u8 128), .lit (.int .u8 191)], .agg [.lit (.int .u8 160), .lit (.int .u8 191)], .agg [.lit (.int .u8 128), .lit (.int .u8 159)], .agg [.lit (.int .u8 144), .lit (.int .u8 191)], .agg [.lit (.int .u8 128), .lit (.int .u8 143)], .agg [.lit (.int .u8 0), .lit (.int .u8 0)], .agg [.lit (.int .u8 0), .lit (.int .u8 0)], .agg [.lit (.int .u8 0), .lit (.int .u8 0)], .agg [.lit (.int .u8 0), .lit (.int .u8 0)], .agg [.lit (.int .u8 0), .lit (.int .u8 0)], .agg [.lit (.int .u8 0), .lit (.int .u8 0)], .agg [.lit (.int .u8 0), .lit (.int .u8 0)], .agg [.lit (.int .u8 0), .lit (.int .u8 0)], .agg [.lit (.int .u8 0), .lit (.int .u8 0)], .agg [.lit (.int .u8 0), .lit (.int .u8 0)], .agg [.lit (.int .u8 0), .lit (.int .u8 0)]]
/-- One of Go's own tables, pinned by name: the form's constant. -/
def laid_unicode_utf8_first : DataW Unit := Go.Pinned.utf8First

/-- 'signetlaw31.CoseClaims': WHATEVER THE INPUT: true; the input reads as it did. -/
def coseClaimsSpec : ChangeSpec := { name := "coseClaims", fn := fun _ => fun
  | [d] => { results := [.lit (.bool true)], args := [d] }
  | _ => none }
def coseClaimsRow : OpenClaim := { program := "ytgjpaedgcpjigaadoor", sum := "58a05db49d73548628cfafcefcfae06d177945355c04def9594799fc308ac698", func := "signet/signetlaw31.CoseClaims", spec := "coseClaims", unfollowed := true, recurses := true, named := ["unicode/utf8.first", "unicode/utf8.acceptRanges"], apart := false, laid := [("unicode/utf8.acceptRanges", laid_unicode_utf8_acceptRanges), ("unicode/utf8.first", laid_unicode_utf8_first)] }
def CoseClaimsSaid : Prop := coseClaimsRow.holds Tryd.pinned (OpenSpec.ofChange coseClaimsSpec)

/-- ITS FALSE NEIGHBOUR: 'it returns false'. Refute it at one input. -/
def coseClaimsWrong : ChangeSpec := { name := "coseClaims", fn := fun _ => fun
  | [d] => { results := [.lit (.bool false)], args := [d] }
  | _ => none }
def CoseClaimsWrongFalsely : Prop := coseClaimsRow.holds Tryd.pinned (OpenSpec.ofChange coseClaimsWrong)

/-- 'signetlaw31.CoseParses': WHATEVER THE INPUT: true; the input reads as it did. -/
def coseParsesSpec : ChangeSpec := { name := "coseParses", fn := fun _ => fun
  | [d1, d2] => { results := [.lit (.bool true)], args := [d1, d2] }
  | _ => none }
def coseParsesRow : OpenClaim := { program := "ytgjpaedgcpjigaadoor", sum := "58a05db49d73548628cfafcefcfae06d177945355c04def9594799fc308ac698", func := "signet/signetlaw31.CoseParses", spec := "coseParses", unfollowed := true, recurses := true, named := ["unicode/utf8.first", "unicode/utf8.acceptRanges"], apart := false, laid := [("unicode/utf8.acceptRanges", laid_unicode_utf8_acceptRanges), ("unicode/utf8.first", laid_unicode_utf8_first)] }
def CoseParsesSaid : Prop := coseParsesRow.holds Tryd.pinned (OpenSpec.ofChange coseParsesSpec)

/-- ITS FALSE NEIGHBOUR: 'it returns false'. Refute it at one input. -/
def coseParsesWrong : ChangeSpec := { name := "coseParses", fn := fun _ => fun
  | [d1, d2] => { results := [.lit (.bool false)], args := [d1, d2] }
  | _ => none }
def CoseParsesWrongFalsely : Prop := coseParsesRow.holds Tryd.pinned (OpenSpec.ofChange coseParsesWrong)

/-- 'signetlaw31.CoseSaid': WHATEVER THE INPUT: true; the input reads as it did. -/
def coseSaidSpec : ChangeSpec := { name := "coseSaid", fn := fun _ => fun
  | [d] => { results := [.lit (.bool true)], args := [d] }
  | _ => none }
def coseSaidRow : OpenClaim := { program := "ytgjpaedgcpjigaadoor", sum := "58a05db49d73548628cfafcefcfae06d177945355c04def9594799fc308ac698", func := "signet/signetlaw31.CoseSaid", spec := "coseSaid", unfollowed := true, recurses := true, named := ["unicode/utf8.first", "unicode/utf8.acceptRanges"], apart := false, laid := [("unicode/utf8.acceptRanges", laid_unicode_utf8_acceptRanges), ("unicode/utf8.first", laid_unicode_utf8_first)] }
def CoseSaidSaid : Prop := coseSaidRow.holds Tryd.pinned (OpenSpec.ofChange coseSaidSpec)

/-- ITS FALSE NEIGHBOUR: 'it returns false'. Refute it at one input. -/
def coseSaidWrong : ChangeSpec := { name := "coseSaid", fn := fun _ => fun
  | [d] => { results := [.lit (.bool false)], args := [d] }
  | _ => none }
def CoseSaidWrongFalsely : Prop := coseSaidRow.holds Tryd.pinned (OpenSpec.ofChange coseSaidWrong)

/-- 'signetlaw31.CoseSpares': WHATEVER THE INPUT: true; the input reads as it did. -/
def coseSparesSpec : ChangeSpec := { name := "coseSpares", fn := fun _ => fun
  | [d1, d2, d3] => { results := [.lit (.bool true)], args := [d1, d2, d3] }
  | _ => none }
def coseSparesRow : OpenClaim := { program := "ytgjpaedgcpjigaadoor", sum := "58a05db49d73548628cfafcefcfae06d177945355c04def9594799fc308ac698", func := "signet/signetlaw31.CoseSpares", spec := "coseSpares", unfollowed := true, recurses := true, named := ["unicode/utf8.first", "unicode/utf8.acceptRanges"], apart := false, laid := [("unicode/utf8.acceptRanges", laid_unicode_utf8_acceptRanges), ("unicode/utf8.first", laid_unicode_utf8_first)] }
def CoseSparesSaid : Prop := coseSparesRow.holds Tryd.pinned (OpenSpec.ofChange coseSparesSpec)

/-- ITS FALSE NEIGHBOUR: 'it returns false'. Refute it at one input. -/
def coseSparesWrong : ChangeSpec := { name := "coseSpares", fn := fun _ => fun
  | [d1, d2, d3] => { results := [.lit (.bool false)], args := [d1, d2, d3] }
  | _ => none }
def CoseSparesWrongFalsely : Prop := coseSparesRow.holds Tryd.pinned (OpenSpec.ofChange coseSparesWrong)

/-- 'signetlaw31.CoseMessage': WHATEVER THE INPUT: true; the input reads as it did. -/
def coseMessageSpec : ChangeSpec := { name := "coseMessage", fn := fun _ => fun
  | [d1, d2] => { results := [.lit (.bool true)], args := [d1, d2] }
  | _ => none }
def coseMessageRow : OpenClaim := { program := "ytgjpaedgcpjigaadoor", sum := "58a05db49d73548628cfafcefcfae06d177945355c04def9594799fc308ac698", func := "signet/signetlaw31.CoseMessage", spec := "coseMessage", unfollowed := true, recurses := true, named := ["unicode/utf8.first", "unicode/utf8.acceptRanges"], apart := false, laid := [("unicode/utf8.acceptRanges", laid_unicode_utf8_acceptRanges), ("unicode/utf8.first", laid_unicode_utf8_first)] }
def CoseMessageSaid : Prop := coseMessageRow.holds Tryd.pinned (OpenSpec.ofChange coseMessageSpec)

/-- ITS FALSE NEIGHBOUR: 'it returns false'. Refute it at one input. -/
def coseMessageWrong : ChangeSpec := { name := "coseMessage", fn := fun _ => fun
  | [d1, d2] => { results := [.lit (.bool false)], args := [d1, d2] }
  | _ => none }
def CoseMessageWrongFalsely : Prop := coseMessageRow.holds Tryd.pinned (OpenSpec.ofChange coseMessageWrong)

/- THE SECOND FORM. 'bulk': how many values and letters a reading holds, each counted each time it is reached (what is shared counts as often as it is met; a slice's spare places count too). A statement '..UptoSaid' is the law's where the arguments, and the package variables that the reading takes, are together of bulk at most 1048576: NARROWER than '..Said'. Prove '..Said' where nothing that the law and all that it calls make is longer than what came in: it says more and counts as full. Else prove '..UptoSaid'. A law counts once. -/
mutual
def uptoBulk {H : Type} : DataW H → Nat
  | .lit (.string bytes) => bytes.length + 1
  | .lit _ => 1
  | .nil => 1
  | .ptr d => uptoBulk d + 1
  | .slice elems spare => uptoBulkAll elems + uptoBulkAll spare + 1
  | .agg parts => uptoBulkAll parts + 1
  | .iface _ d => uptoBulk d + 1
  | .map entries => uptoBulkEntries entries + 1
  | .held _ => 1
def uptoBulkAll {H : Type} : List (DataW H) → Nat
  | [] => 0
  | d :: r => uptoBulk d + uptoBulkAll r
def uptoBulkEntries {H : Type} : List (Lit × DataW H) → Nat
  | [] => 0
  | x :: r => uptoBulkEntry x + uptoBulkEntries r
def uptoBulkEntry {H : Type} : Lit × DataW H → Nat
  | (.string bytes, d) => bytes.length + uptoBulk d + 1
  | (_, d) => uptoBulk d + 1
 end
def uptoSmall : (H : Type) → List (DataW H) → Bool := fun _ ds => decide (uptoBulkAll ds ≤ 1048576)
def OpenSpec.upto (s : _root_.Go.ChangeSpec) : _root_.Go.OpenSpec := { _root_.Go.OpenSpec.ofChange s with cond := some uptoSmall }

/-- 'signetlaw31.CoseClaims', WHERE WHAT IT READS IS OF BULK AT MOST 1048576: true; the input reads as it did. -/
def coseClaimsUptoRow : OpenClaim := { program := "ytgjpaedgcpjigaadoor", sum := "58a05db49d73548628cfafcefcfae06d177945355c04def9594799fc308ac698", func := "signet/signetlaw31.CoseClaims", spec := "coseClaims", unfollowed := true, recurses := true, named := ["unicode/utf8.first", "unicode/utf8.acceptRanges"], apart := false, laid := [("unicode/utf8.acceptRanges", laid_unicode_utf8_acceptRanges), ("unicode/utf8.first", laid_unicode_utf8_first)], narrowed := true }
def CoseClaimsUptoSaid : Prop := coseClaimsUptoRow.holds Tryd.pinned (OpenSpec.upto coseClaimsSpec)

/-- 'signetlaw31.CoseParses', WHERE WHAT IT READS IS OF BULK AT MOST 1048576: true; the input reads as it did. -/
def coseParsesUptoRow : OpenClaim := { program := "ytgjpaedgcpjigaadoor", sum := "58a05db49d73548628cfafcefcfae06d177945355c04def9594799fc308ac698", func := "signet/signetlaw31.CoseParses", spec := "coseParses", unfollowed := true, recurses := true, named := ["unicode/utf8.first", "unicode/utf8.acceptRanges"], apart := false, laid := [("unicode/utf8.acceptRanges", laid_unicode_utf8_acceptRanges), ("unicode/utf8.first", laid_unicode_utf8_first)], narrowed := true }
def CoseParsesUptoSaid : Prop := coseParsesUptoRow.holds Tryd.pinned (OpenSpec.upto coseParsesSpec)

/-- 'signetlaw31.CoseSaid', WHERE WHAT IT READS IS OF BULK AT MOST 1048576: true; the input reads as it did. -/
def coseSaidUptoRow : OpenClaim := { program := "ytgjpaedgcpjigaadoor", sum := "58a05db49d73548628cfafcefcfae06d177945355c04def9594799fc308ac698", func := "signet/signetlaw31.CoseSaid", spec := "coseSaid", unfollowed := true, recurses := true, named := ["unicode/utf8.first", "unicode/utf8.acceptRanges"], apart := false, laid := [("unicode/utf8.acceptRanges", laid_unicode_utf8_acceptRanges), ("unicode/utf8.first", laid_unicode_utf8_first)], narrowed := true }
def CoseSaidUptoSaid : Prop := coseSaidUptoRow.holds Tryd.pinned (OpenSpec.upto coseSaidSpec)

/-- 'signetlaw31.CoseSpares', WHERE WHAT IT READS IS OF BULK AT MOST 1048576: true; the input reads as it did. -/
def coseSparesUptoRow : OpenClaim := { program := "ytgjpaedgcpjigaadoor", sum := "58a05db49d73548628cfafcefcfae06d177945355c04def9594799fc308ac698", func := "signet/signetlaw31.CoseSpares", spec := "coseSpares", unfollowed := true, recurses := true, named := ["unicode/utf8.first", "unicode/utf8.acceptRanges"], apart := false, laid := [("unicode/utf8.acceptRanges", laid_unicode_utf8_acceptRanges), ("unicode/utf8.first", laid_unicode_utf8_first)], narrowed := true }
def CoseSparesUptoSaid : Prop := coseSparesUptoRow.holds Tryd.pinned (OpenSpec.upto coseSparesSpec)

/-- 'signetlaw31.CoseMessage', WHERE WHAT IT READS IS OF BULK AT MOST 1048576: true; the input reads as it did. -/
def coseMessageUptoRow : OpenClaim := { program := "ytgjpaedgcpjigaadoor", sum := "58a05db49d73548628cfafcefcfae06d177945355c04def9594799fc308ac698", func := "signet/signetlaw31.CoseMessage", spec := "coseMessage", unfollowed := true, recurses := true, named := ["unicode/utf8.first", "unicode/utf8.acceptRanges"], apart := false, laid := [("unicode/utf8.acceptRanges", laid_unicode_utf8_acceptRanges), ("unicode/utf8.first", laid_unicode_utf8_first)], narrowed := true }
def CoseMessageUptoSaid : Prop := coseMessageUptoRow.holds Tryd.pinned (OpenSpec.upto coseMessageSpec)

end Rows
end Go.Proofs.YtgjpaedgcpjigaaDoor
