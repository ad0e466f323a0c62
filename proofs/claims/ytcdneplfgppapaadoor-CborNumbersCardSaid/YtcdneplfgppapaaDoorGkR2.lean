import Derived.Test.YtcdneplfgppapaaDoorGkR
import Derived.Test.YtcdneplfgppapaaDoorGkI
set_option linter.unusedVariables false
set_option linter.unusedSimpArgs false
namespace Go.Gk
open Go.ChangeShapes Go.WideShapes Go.ChangeAt Go.RowKit
open Go.ChangeMaps (open_string shut_string)
section
variable {H : Type} {enc : TypeId × Value → H} {P : Program} {W : World}
theorem arg_u64 {r : Reach} {b0 : Nat} {t : TypeId} {v : Value} {d : DataW H} {ps : List MemPlace} (ht : P.underlying t = some (.int .u64))
    (hval : Value.okWide P W r b0 t v) (hd : DataW.Trod enc P W 0 (fun _ => true) true t v d ps) : ∃ x : UInt64, v = v64 x ∧ True := by
  obtain ⟨n, rfl, _, _, hw⟩ := open_int ht hval hd
  have := bounds_u64 hw
  exact ⟨UInt64.ofNat n.toNat, by simp only [v64, UInt64.toNat_ofNat']; congr 1; omega, trivial⟩
end
end Go.Gk
