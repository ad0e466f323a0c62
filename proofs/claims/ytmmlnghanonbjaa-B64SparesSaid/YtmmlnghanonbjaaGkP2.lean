import Derived.Test.YtmmlnghanonbjaaGkP1
import Derived.Test.YtmmlnghanonbjaaGkFref1
set_option linter.unusedVariables false
set_option linter.unusedSimpArgs false
set_option linter.unusedSimpArgs false
namespace Go.Gk
theorem ofInt64_nat (m : Nat) (h : m < 18446744073709551616) : (UInt64.ofInt (m : Int)).toNat = m := by
  simp [UInt64.ofInt, UInt64.toNat_ofNat']
  omega
def bitN (l : List UInt8) (i : Nat) : Nat := (l.getD (i / 8) 0).toNat / 2 ^ (7 - i % 8) % 2
def accB (l : List UInt8) (i : Nat) : Nat → Nat
  | 0 => 0
  | k + 1 => 2 * accB l i k + bitN l (i + k)
def sext (l : List UInt8) (q : Nat) : Nat :=
  let g := q / 4
  let b0 := (l.getD (3 * g) 0).toNat
  let b1 := (l.getD (3 * g + 1) 0).toNat
  let b2 := (l.getD (3 * g + 2) 0).toNat
  if q % 4 = 0 then b0 / 4
  else if q % 4 = 1 then b0 % 4 * 16 + b1 / 16
  else if q % 4 = 2 then b1 % 16 * 4 + b2 / 64
  else b2 % 64
end Go.Gk
