import Derived.Test.YtcdneplfgppapaaDoorGkQ0
import Derived.Test.YtcdneplfgppapaaDoorGkFref3
import Derived.Lib.ValidLaws
set_option linter.unusedVariables false
set_option linter.unusedSimpArgs false
set_option linter.unusedSimpArgs false
set_option linter.unusedVariables false
namespace Go.Gk.Cb
open Go Go.Gk
section
variable {s : List UInt8}
abbrev NumT := Bool × List Int × Int × Bool × List Int × Bool × List UInt8 × Bool
def Fine (s : List UInt8) (x : Option NumT) : Prop := ∃ r : NumT, x = some r ∧ r.2.2.2.2.2.2.1.length ≤ s.length
theorem Fine.mk {r : NumT} (h : r.2.2.2.2.2.2.1.length ≤ s.length) : Fine s (some r) := ⟨r, rfl, h⟩
def okB (l : List UInt8) (j lo hi : Nat) : Prop := j < l.length ∧ lo ≤ (l.getD j 0).toNat ∧ (l.getD j 0).toNat ≤ hi
instance (l : List UInt8) (j lo hi : Nat) : Decidable (okB l j lo hi) := by unfold okB; infer_instance
abbrev GotT := Int × List (Int × (List UInt8) × (List UInt8) × Bool × Int × Int) × List UInt8 × Int × Int
end
end Go.Gk.Cb
