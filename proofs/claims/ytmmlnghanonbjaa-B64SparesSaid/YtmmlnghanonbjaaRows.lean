/-
  No cell of these rows narrows 'for every input' (looked for: loops, veiled, ifaces, maps, wideKeys, modest, calm, conditions, laid).
  DERIVED. THE GIVEN ROWS OF THIS SEAT. 7 by the template 'for every input the law returns true; each argument reads behind the call as it read before'; 0 by the template 'total and deterministic' (their statements: YtmmlnghanonbjaaTotals.lean).
  GIVEN WITH THE SEED: the statements are not yours to turn. If you find one false, say at which input.
  Laid BY PROGRAM, IN A SANDBOX (cutbox-rows.mjs): the forced cells as the released guide's own fill.sh prints them over the translation cd92e903e18ac5e7… (all of the seat's roots in one cut). By AI agents, Wed Nov 11 2026. No macro, syntax, notation, axiom, sorry.
-/
import Derived.Test.YtmmlnghanonbjaaChecked
import GoSem.Claim
import GoSem.ClaimJoined
import GoSem.ClaimMapViews
import Derived.JoinedTies
import Derived.KernelRfl
namespace Go.Proofs.Ytmmlnghanonbjaa
/- THE CELL 'sum', in the pinned program and in every row, IS THE sha256 OF THE DUMP (.gsa) THAT YtmmlnghanonbjaaProg.lean LOADS. Nothing in Lean hashes anything: it is a label: what it is worth is what the hold of that sum in a sandbox is worth. -/
noncomputable def Try.pinned : Pinned := { name := "ytmmlnghanonbjaa", sum := "cd92e903e18ac5e729be8e9829777fbda8e2da6a85f297eb9c1279455ef43cda", checked := Try.checked }
namespace Rows
def none {H : Type} : Left H := { results := [], args := [] }

/-- 'signetlaw1.B64Encodes': WHATEVER THE INPUT: true; the input reads as it did. -/
def b64EncodesSpec : ChangeSpec := { name := "b64Encodes", fn := fun _ => fun
  | [d] => { results := [.lit (.bool true)], args := [d] }
  | _ => none }
def b64EncodesRow : OpenClaim := { program := "ytmmlnghanonbjaa", sum := "cd92e903e18ac5e729be8e9829777fbda8e2da6a85f297eb9c1279455ef43cda", func := "signet/signetlaw1.B64Encodes", spec := "b64Encodes", apart := false }
def B64EncodesSaid : Prop := b64EncodesRow.holds Try.pinned (OpenSpec.ofChange b64EncodesSpec)

/-- ITS FALSE NEIGHBOUR: 'it returns false'. Refute it at one input. -/
def b64EncodesWrong : ChangeSpec := { name := "b64Encodes", fn := fun _ => fun
  | [d] => { results := [.lit (.bool false)], args := [d] }
  | _ => none }
def B64EncodesWrongFalsely : Prop := b64EncodesRow.holds Try.pinned (OpenSpec.ofChange b64EncodesWrong)

/-- 'signetlaw1.B64Decodes': WHATEVER THE INPUT: true; the input reads as it did. -/
def b64DecodesSpec : ChangeSpec := { name := "b64Decodes", fn := fun _ => fun
  | [d] => { results := [.lit (.bool true)], args := [d] }
  | _ => none }
def b64DecodesRow : OpenClaim := { program := "ytmmlnghanonbjaa", sum := "cd92e903e18ac5e729be8e9829777fbda8e2da6a85f297eb9c1279455ef43cda", func := "signet/signetlaw1.B64Decodes", spec := "b64Decodes", inPlace := ["internal/bytealg.IndexByteString"], apart := false }
def B64DecodesSaid : Prop := b64DecodesRow.holds Try.pinned (OpenSpec.ofChange b64DecodesSpec)

/-- ITS FALSE NEIGHBOUR: 'it returns false'. Refute it at one input. -/
def b64DecodesWrong : ChangeSpec := { name := "b64Decodes", fn := fun _ => fun
  | [d] => { results := [.lit (.bool false)], args := [d] }
  | _ => none }
def B64DecodesWrongFalsely : Prop := b64DecodesRow.holds Try.pinned (OpenSpec.ofChange b64DecodesWrong)

/-- 'signetlaw1.B64Back': WHATEVER THE INPUT: true; the input reads as it did. -/
def b64BackSpec : ChangeSpec := { name := "b64Back", fn := fun _ => fun
  | [d] => { results := [.lit (.bool true)], args := [d] }
  | _ => none }
def b64BackRow : OpenClaim := { program := "ytmmlnghanonbjaa", sum := "cd92e903e18ac5e729be8e9829777fbda8e2da6a85f297eb9c1279455ef43cda", func := "signet/signetlaw1.B64Back", spec := "b64Back", inPlace := ["internal/bytealg.IndexByteString"], apart := false }
def B64BackSaid : Prop := b64BackRow.holds Try.pinned (OpenSpec.ofChange b64BackSpec)

/-- ITS FALSE NEIGHBOUR: 'it returns false'. Refute it at one input. -/
def b64BackWrong : ChangeSpec := { name := "b64Back", fn := fun _ => fun
  | [d] => { results := [.lit (.bool false)], args := [d] }
  | _ => none }
def B64BackWrongFalsely : Prop := b64BackRow.holds Try.pinned (OpenSpec.ofChange b64BackWrong)

/-- 'signetlaw1.B64Number': WHATEVER THE INPUT: true; the input reads as it did. -/
def b64NumberSpec : ChangeSpec := { name := "b64Number", fn := fun _ => fun
  | [d] => { results := [.lit (.bool true)], args := [d] }
  | _ => none }
def b64NumberRow : OpenClaim := { program := "ytmmlnghanonbjaa", sum := "cd92e903e18ac5e729be8e9829777fbda8e2da6a85f297eb9c1279455ef43cda", func := "signet/signetlaw1.B64Number", spec := "b64Number", inPlace := ["internal/bytealg.IndexByteString"], apart := false }
def B64NumberSaid : Prop := b64NumberRow.holds Try.pinned (OpenSpec.ofChange b64NumberSpec)

/-- ITS FALSE NEIGHBOUR: 'it returns false'. Refute it at one input. -/
def b64NumberWrong : ChangeSpec := { name := "b64Number", fn := fun _ => fun
  | [d] => { results := [.lit (.bool false)], args := [d] }
  | _ => none }
def B64NumberWrongFalsely : Prop := b64NumberRow.holds Try.pinned (OpenSpec.ofChange b64NumberWrong)

/-- 'signetlaw1.B64Joins': WHATEVER THE INPUT: true; the input reads as it did. -/
def b64JoinsSpec : ChangeSpec := { name := "b64Joins", fn := fun _ => fun
  | [d1, d2] => { results := [.lit (.bool true)], args := [d1, d2] }
  | _ => none }
def b64JoinsRow : OpenClaim := { program := "ytmmlnghanonbjaa", sum := "cd92e903e18ac5e729be8e9829777fbda8e2da6a85f297eb9c1279455ef43cda", func := "signet/signetlaw1.B64Joins", spec := "b64Joins", inPlace := ["internal/bytealg.IndexByteString"], apart := false }
def B64JoinsSaid : Prop := b64JoinsRow.holds Try.pinned (OpenSpec.ofChange b64JoinsSpec)

/-- ITS FALSE NEIGHBOUR: 'it returns false'. Refute it at one input. -/
def b64JoinsWrong : ChangeSpec := { name := "b64Joins", fn := fun _ => fun
  | [d1, d2] => { results := [.lit (.bool false)], args := [d1, d2] }
  | _ => none }
def B64JoinsWrongFalsely : Prop := b64JoinsRow.holds Try.pinned (OpenSpec.ofChange b64JoinsWrong)

/-- 'signetlaw1.B64Spares': WHATEVER THE INPUT: true; the input reads as it did. -/
def b64SparesSpec : ChangeSpec := { name := "b64Spares", fn := fun _ => fun
  | [d] => { results := [.lit (.bool true)], args := [d] }
  | _ => none }
def b64SparesRow : OpenClaim := { program := "ytmmlnghanonbjaa", sum := "cd92e903e18ac5e729be8e9829777fbda8e2da6a85f297eb9c1279455ef43cda", func := "signet/signetlaw1.B64Spares", spec := "b64Spares", inPlace := ["internal/bytealg.IndexByteString"], apart := false }
def B64SparesSaid : Prop := b64SparesRow.holds Try.pinned (OpenSpec.ofChange b64SparesSpec)

/-- ITS FALSE NEIGHBOUR: 'it returns false'. Refute it at one input. -/
def b64SparesWrong : ChangeSpec := { name := "b64Spares", fn := fun _ => fun
  | [d] => { results := [.lit (.bool false)], args := [d] }
  | _ => none }
def B64SparesWrongFalsely : Prop := b64SparesRow.holds Try.pinned (OpenSpec.ofChange b64SparesWrong)

/-- 'signetlaw1.B64One': WHATEVER THE INPUT: true; the input reads as it did. -/
def b64OneSpec : ChangeSpec := { name := "b64One", fn := fun _ => fun
  | [d1, d2] => { results := [.lit (.bool true)], args := [d1, d2] }
  | _ => none }
def b64OneRow : OpenClaim := { program := "ytmmlnghanonbjaa", sum := "cd92e903e18ac5e729be8e9829777fbda8e2da6a85f297eb9c1279455ef43cda", func := "signet/signetlaw1.B64One", spec := "b64One", inPlace := ["internal/bytealg.IndexByteString"], apart := false }
def B64OneSaid : Prop := b64OneRow.holds Try.pinned (OpenSpec.ofChange b64OneSpec)

/-- ITS FALSE NEIGHBOUR: 'it returns false'. Refute it at one input. -/
def b64OneWrong : ChangeSpec := { name := "b64One", fn := fun _ => fun
  | [d1, d2] => { results := [.lit (.bool false)], args := [d1, d2] }
  | _ => none }
def B64OneWrongFalsely : Prop := b64OneRow.holds Try.pinned (OpenSpec.ofChange b64OneWrong)

/- THE SECOND FORM. 'bulk': how many values and letters a reading holds, each counted each time it is reached (what is shared counts as often as it is met; a slice's spare places count too). A statement '..UptoSaid' is the law's where the arguments, and the package variables that the reading takes, are together of bulk at most 1048576: NARROWER than '..Said'. Prove '..Said' where nothing that the law and all that it calls make is longer than what came in: it says more and counts as full. Else prove '..UptoSaid'. A law counts once. -/
mutual
def uptoBulk {H : Type} : DataW H → Nat
  | .lit (.string bytes) => bytes.length + 1
  | .lit _ => 1
  | .nil => 1
  | .ptr d => uptoBulk d + 1
  | .slice elems spare => uptoBulkAll elems + uptoBulkAll spare + 1
  | .agg parts => uptoBulkAll parts + 1
  | .iface _ d => uptoBulk d + 1
  | .map entries => uptoBulkEntries entries + 1
  | .held _ => 1
def uptoBulkAll {H : Type} : List (DataW H) → Nat
  | [] => 0
  | d :: r => uptoBulk d + uptoBulkAll r
def uptoBulkEntries {H : Type} : List (Lit × DataW H) → Nat
  | [] => 0
  | x :: r => uptoBulkEntry x + uptoBulkEntries r
def uptoBulkEntry {H : Type} : Lit × DataW H → Nat
  | (.string bytes, d) => bytes.length + uptoBulk d + 1
  | (_, d) => uptoBulk d + 1
 end
def uptoSmall : (H : Type) → List (DataW H) → Bool := fun _ ds => decide (uptoBulkAll ds ≤ 1048576)
def OpenSpec.upto (s : _root_.Go.ChangeSpec) : _root_.Go.OpenSpec := { _root_.Go.OpenSpec.ofChange s with cond := some uptoSmall }

/-- 'signetlaw1.B64Encodes', WHERE WHAT IT READS IS OF BULK AT MOST 1048576: true; the input reads as it did. -/
def b64EncodesUptoRow : OpenClaim := { program := "ytmmlnghanonbjaa", sum := "cd92e903e18ac5e729be8e9829777fbda8e2da6a85f297eb9c1279455ef43cda", func := "signet/signetlaw1.B64Encodes", spec := "b64Encodes", apart := false, narrowed := true }
def B64EncodesUptoSaid : Prop := b64EncodesUptoRow.holds Try.pinned (OpenSpec.upto b64EncodesSpec)

/-- 'signetlaw1.B64Decodes', WHERE WHAT IT READS IS OF BULK AT MOST 1048576: true; the input reads as it did. -/
def b64DecodesUptoRow : OpenClaim := { program := "ytmmlnghanonbjaa", sum := "cd92e903e18ac5e729be8e9829777fbda8e2da6a85f297eb9c1279455ef43cda", func := "signet/signetlaw1.B64Decodes", spec := "b64Decodes", inPlace := ["internal/bytealg.IndexByteString"], apart := false, narrowed := true }
def B64DecodesUptoSaid : Prop := b64DecodesUptoRow.holds Try.pinned (OpenSpec.upto b64DecodesSpec)

/-- 'signetlaw1.B64Back', WHERE WHAT IT READS IS OF BULK AT MOST 1048576: true; the input reads as it did. -/
def b64BackUptoRow : OpenClaim := { program := "ytmmlnghanonbjaa", sum := "cd92e903e18ac5e729be8e9829777fbda8e2da6a85f297eb9c1279455ef43cda", func := "signet/signetlaw1.B64Back", spec := "b64Back", inPlace := ["internal/bytealg.IndexByteString"], apart := false, narrowed := true }
def B64BackUptoSaid : Prop := b64BackUptoRow.holds Try.pinned (OpenSpec.upto b64BackSpec)

/-- 'signetlaw1.B64Number', WHERE WHAT IT READS IS OF BULK AT MOST 1048576: true; the input reads as it did. -/
def b64NumberUptoRow : OpenClaim := { program := "ytmmlnghanonbjaa", sum := "cd92e903e18ac5e729be8e9829777fbda8e2da6a85f297eb9c1279455ef43cda", func := "signet/signetlaw1.B64Number", spec := "b64Number", inPlace := ["internal/bytealg.IndexByteString"], apart := false, narrowed := true }
def B64NumberUptoSaid : Prop := b64NumberUptoRow.holds Try.pinned (OpenSpec.upto b64NumberSpec)

/-- 'signetlaw1.B64Joins', WHERE WHAT IT READS IS OF BULK AT MOST 1048576: true; the input reads as it did. -/
def b64JoinsUptoRow : OpenClaim := { program := "ytmmlnghanonbjaa", sum := "cd92e903e18ac5e729be8e9829777fbda8e2da6a85f297eb9c1279455ef43cda", func := "signet/signetlaw1.B64Joins", spec := "b64Joins", inPlace := ["internal/bytealg.IndexByteString"], apart := false, narrowed := true }
def B64JoinsUptoSaid : Prop := b64JoinsUptoRow.holds Try.pinned (OpenSpec.upto b64JoinsSpec)

/-- 'signetlaw1.B64Spares', WHERE WHAT IT READS IS OF BULK AT MOST 1048576: true; the input reads as it did. -/
def b64SparesUptoRow : OpenClaim := { program := "ytmmlnghanonbjaa", sum := "cd92e903e18ac5e729be8e9829777fbda8e2da6a85f297eb9c1279455ef43cda", func := "signet/signetlaw1.B64Spares", spec := "b64Spares", inPlace := ["internal/bytealg.IndexByteString"], apart := false, narrowed := true }
def B64SparesUptoSaid : Prop := b64SparesUptoRow.holds Try.pinned (OpenSpec.upto b64SparesSpec)

/-- 'signetlaw1.B64One', WHERE WHAT IT READS IS OF BULK AT MOST 1048576: true; the input reads as it did. -/
def b64OneUptoRow : OpenClaim := { program := "ytmmlnghanonbjaa", sum := "cd92e903e18ac5e729be8e9829777fbda8e2da6a85f297eb9c1279455ef43cda", func := "signet/signetlaw1.B64One", spec := "b64One", inPlace := ["internal/bytealg.IndexByteString"], apart := false, narrowed := true }
def B64OneUptoSaid : Prop := b64OneUptoRow.holds Try.pinned (OpenSpec.upto b64OneSpec)

end Rows
end Go.Proofs.Ytmmlnghanonbjaa
