/-
  No cell of these rows narrows 'for every input' (looked for: loops, veiled, ifaces, maps, wideKeys, modest, calm, conditions, laid).
  DERIVED. THE GIVEN ROWS OF THIS SEAT. 4 by the template 'for every input the law returns true; each argument reads behind the call as it read before'; 0 by the template 'total and deterministic' (their statements: YtpbgncmffgnohaaTotals.lean).
  GIVEN WITH THE SEED: the statements are not yours to turn. If you find one false, say at which input.
  Laid BY PROGRAM, IN A SANDBOX (cutbox-rows.mjs): the forced cells as the released guide's own fill.sh prints them over the translation 1fe0f1bbd5b3986a… (all of the seat's roots in one cut). By AI agents, Wed Nov 11 2026. No macro, syntax, notation, axiom, sorry.
-/
import Derived.Test.YtpbgncmffgnohaaChecked
import GoSem.Claim
import GoSem.ClaimJoined
import GoSem.ClaimMapViews
import Derived.JoinedTies
import Derived.KernelRfl
namespace Go.Proofs.Ytpbgncmffgnohaa
/- THE CELL 'sum', in the pinned program and in every row, IS THE sha256 OF THE DUMP (.gsa) THAT YtpbgncmffgnohaaProg.lean LOADS. Nothing in Lean hashes anything: it is a label: what it is worth is what the hold of that sum in a sandbox is worth. -/
noncomputable def Try.pinned : Pinned := { name := "ytpbgncmffgnohaa", sum := "1fe0f1bbd5b3986acad5f15d2bc2655dd35613c74fe2bd3fb55bb09c988c7683", checked := Try.checked }
namespace Rows
def none {H : Type} : Left H := { results := [], args := [] }

/-- 'signetlaw11.CurveKnows': WHATEVER THE INPUT: true; the input reads as it did. -/
def curveKnowsSpec : ChangeSpec := { name := "curveKnows", fn := fun _ => fun
  | [d1, d2] => { results := [.lit (.bool true)], args := [d1, d2] }
  | _ => none }
def curveKnowsRow : OpenClaim := { program := "ytpbgncmffgnohaa", sum := "1fe0f1bbd5b3986acad5f15d2bc2655dd35613c74fe2bd3fb55bb09c988c7683", func := "signet/signetlaw11.CurveKnows", spec := "curveKnows", apart := false }
def CurveKnowsSaid : Prop := curveKnowsRow.holds Try.pinned (OpenSpec.ofChange curveKnowsSpec)

/-- ITS FALSE NEIGHBOUR: 'it returns false'. Refute it at one input. -/
def curveKnowsWrong : ChangeSpec := { name := "curveKnows", fn := fun _ => fun
  | [d1, d2] => { results := [.lit (.bool false)], args := [d1, d2] }
  | _ => none }
def CurveKnowsWrongFalsely : Prop := curveKnowsRow.holds Try.pinned (OpenSpec.ofChange curveKnowsWrong)

/-- 'signetlaw11.CurveGroup': WHATEVER THE INPUT: true; the input reads as it did. -/
def curveGroupSpec : ChangeSpec := { name := "curveGroup", fn := fun _ => fun
  | [d1, d2, d3, d4] => { results := [.lit (.bool true)], args := [d1, d2, d3, d4] }
  | _ => none }
def curveGroupRow : OpenClaim := { program := "ytpbgncmffgnohaa", sum := "1fe0f1bbd5b3986acad5f15d2bc2655dd35613c74fe2bd3fb55bb09c988c7683", func := "signet/signetlaw11.CurveGroup", spec := "curveGroup", unfollowed := true, recurses := true, apart := false }
def CurveGroupSaid : Prop := curveGroupRow.holds Try.pinned (OpenSpec.ofChange curveGroupSpec)

/-- ITS FALSE NEIGHBOUR: 'it returns false'. Refute it at one input. -/
def curveGroupWrong : ChangeSpec := { name := "curveGroup", fn := fun _ => fun
  | [d1, d2, d3, d4] => { results := [.lit (.bool false)], args := [d1, d2, d3, d4] }
  | _ => none }
def CurveGroupWrongFalsely : Prop := curveGroupRow.holds Try.pinned (OpenSpec.ofChange curveGroupWrong)

/-- 'signetlaw11.CurveBack': WHATEVER THE INPUT: true; the input reads as it did. -/
def curveBackSpec : ChangeSpec := { name := "curveBack", fn := fun _ => fun
  | [d1, d2, d3, d4] => { results := [.lit (.bool true)], args := [d1, d2, d3, d4] }
  | _ => none }
def curveBackRow : OpenClaim := { program := "ytpbgncmffgnohaa", sum := "1fe0f1bbd5b3986acad5f15d2bc2655dd35613c74fe2bd3fb55bb09c988c7683", func := "signet/signetlaw11.CurveBack", spec := "curveBack", unfollowed := true, recurses := true, apart := false }
def CurveBackSaid : Prop := curveBackRow.holds Try.pinned (OpenSpec.ofChange curveBackSpec)

/-- ITS FALSE NEIGHBOUR: 'it returns false'. Refute it at one input. -/
def curveBackWrong : ChangeSpec := { name := "curveBack", fn := fun _ => fun
  | [d1, d2, d3, d4] => { results := [.lit (.bool false)], args := [d1, d2, d3, d4] }
  | _ => none }
def CurveBackWrongFalsely : Prop := curveBackRow.holds Try.pinned (OpenSpec.ofChange curveBackWrong)

/-- 'signetlaw11.CurveMultiples': WHATEVER THE INPUT: true; the input reads as it did. -/
def curveMultiplesSpec : ChangeSpec := { name := "curveMultiples", fn := fun _ => fun
  | [d1, d2, d3, d4] => { results := [.lit (.bool true)], args := [d1, d2, d3, d4] }
  | _ => none }
def curveMultiplesRow : OpenClaim := { program := "ytpbgncmffgnohaa", sum := "1fe0f1bbd5b3986acad5f15d2bc2655dd35613c74fe2bd3fb55bb09c988c7683", func := "signet/signetlaw11.CurveMultiples", spec := "curveMultiples", unfollowed := true, recurses := true, apart := false }
def CurveMultiplesSaid : Prop := curveMultiplesRow.holds Try.pinned (OpenSpec.ofChange curveMultiplesSpec)

/-- ITS FALSE NEIGHBOUR: 'it returns false'. Refute it at one input. -/
def curveMultiplesWrong : ChangeSpec := { name := "curveMultiples", fn := fun _ => fun
  | [d1, d2, d3, d4] => { results := [.lit (.bool false)], args := [d1, d2, d3, d4] }
  | _ => none }
def CurveMultiplesWrongFalsely : Prop := curveMultiplesRow.holds Try.pinned (OpenSpec.ofChange curveMultiplesWrong)

/- THE SECOND FORM. 'bulk': how many values and letters a reading holds, each counted each time it is reached (what is shared counts as often as it is met; a slice's spare places count too). A statement '..UptoSaid' is the law's where the arguments, and the package variables that the reading takes, are together of bulk at most 1048576: NARROWER than '..Said'. Prove '..Said' where nothing that the law and all that it calls make is longer than what came in: it says more and counts as full. Else prove '..UptoSaid'. A law counts once. -/
mutual
def uptoBulk {H : Type} : DataW H → Nat
  | .lit (.string bytes) => bytes.length + 1
  | .lit _ => 1
  | .nil => 1
  | .ptr d => uptoBulk d + 1
  | .slice elems spare => uptoBulkAll elems + uptoBulkAll spare + 1
  | .agg parts => uptoBulkAll parts + 1
  | .iface _ d => uptoBulk d + 1
  | .map entries => uptoBulkEntries entries + 1
  | .held _ => 1
def uptoBulkAll {H : Type} : List (DataW H) → Nat
  | [] => 0
  | d :: r => uptoBulk d + uptoBulkAll r
def uptoBulkEntries {H : Type} : List (Lit × DataW H) → Nat
  | [] => 0
  | x :: r => uptoBulkEntry x + uptoBulkEntries r
def uptoBulkEntry {H : Type} : Lit × DataW H → Nat
  | (.string bytes, d) => bytes.length + uptoBulk d + 1
  | (_, d) => uptoBulk d + 1
 end
def uptoSmall : (H : Type) → List (DataW H) → Bool := fun _ ds => decide (uptoBulkAll ds ≤ 1048576)
def OpenSpec.upto (s : _root_.Go.ChangeSpec) : _root_.Go.OpenSpec := { _root_.Go.OpenSpec.ofChange s with cond := some uptoSmall }

/-- 'signetlaw11.CurveKnows', WHERE WHAT IT READS IS OF BULK AT MOST 1048576: true; the input reads as it did. -/
def curveKnowsUptoRow : OpenClaim := { program := "ytpbgncmffgnohaa", sum := "1fe0f1bbd5b3986acad5f15d2bc2655dd35613c74fe2bd3fb55bb09c988c7683", func := "signet/signetlaw11.CurveKnows", spec := "curveKnows", apart := false, narrowed := true }
def CurveKnowsUptoSaid : Prop := curveKnowsUptoRow.holds Try.pinned (OpenSpec.upto curveKnowsSpec)

/-- 'signetlaw11.CurveGroup', WHERE WHAT IT READS IS OF BULK AT MOST 1048576: true; the input reads as it did. -/
def curveGroupUptoRow : OpenClaim := { program := "ytpbgncmffgnohaa", sum := "1fe0f1bbd5b3986acad5f15d2bc2655dd35613c74fe2bd3fb55bb09c988c7683", func := "signet/signetlaw11.CurveGroup", spec := "curveGroup", unfollowed := true, recurses := true, apart := false, narrowed := true }
def CurveGroupUptoSaid : Prop := curveGroupUptoRow.holds Try.pinned (OpenSpec.upto curveGroupSpec)

/-- 'signetlaw11.CurveBack', WHERE WHAT IT READS IS OF BULK AT MOST 1048576: true; the input reads as it did. -/
def curveBackUptoRow : OpenClaim := { program := "ytpbgncmffgnohaa", sum := "1fe0f1bbd5b3986acad5f15d2bc2655dd35613c74fe2bd3fb55bb09c988c7683", func := "signet/signetlaw11.CurveBack", spec := "curveBack", unfollowed := true, recurses := true, apart := false, narrowed := true }
def CurveBackUptoSaid : Prop := curveBackUptoRow.holds Try.pinned (OpenSpec.upto curveBackSpec)

/-- 'signetlaw11.CurveMultiples', WHERE WHAT IT READS IS OF BULK AT MOST 1048576: true; the input reads as it did. -/
def curveMultiplesUptoRow : OpenClaim := { program := "ytpbgncmffgnohaa", sum := "1fe0f1bbd5b3986acad5f15d2bc2655dd35613c74fe2bd3fb55bb09c988c7683", func := "signet/signetlaw11.CurveMultiples", spec := "curveMultiples", unfollowed := true, recurses := true, apart := false, narrowed := true }
def CurveMultiplesUptoSaid : Prop := curveMultiplesUptoRow.holds Try.pinned (OpenSpec.upto curveMultiplesSpec)

end Rows
end Go.Proofs.Ytpbgncmffgnohaa
