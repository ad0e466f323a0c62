import Derived.Test.YtcdneplfgppapaaDoorGkR
import Derived.Test.YtcdneplfgppapaaDoorGkI
import Derived.Deep.Slices
set_option linter.unusedVariables false
set_option linter.unusedSimpArgs false
namespace Go.Gk
open Go.ChangeShapes Go.WideShapes Go.ChangeAt Go.RowKit
abbrev It_ := Int × UInt64 × List UInt8 × Int
def itemData {H : Type} (x : It_) : DataW H := .agg [.lit (.int .i64 x.1), .lit (.int .u64 (x.2.1.toNat : Int)), .lit (.string x.2.2.1), .lit (.int .i64 x.2.2.2)]
def ItemsD {H : Type} (d : DataW H) (l : List It_) : Prop := (d = .nil ∧ l = []) ∨ ∃ spare, d = .slice (l.map itemData) spare
def itemsBulk : List It_ → Nat
  | [] => 0
  | x :: r => 5 + x.2.2.1.length + itemsBulk r
section
variable {H : Type} {enc : TypeId × Value → H} {P : Program} {W : World}
end
end Go.Gk
