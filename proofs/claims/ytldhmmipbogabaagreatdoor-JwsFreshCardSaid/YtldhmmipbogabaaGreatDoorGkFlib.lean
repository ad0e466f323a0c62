import Derived.Test.YtldhmmipbogabaaGreatDoorGkS
import Derived.Test.YtldhmmipbogabaaGreatDoorGkFman
set_option linter.unusedVariables false
set_option linter.unusedSimpArgs false
set_option linter.unusedVariables false
namespace Go.Gk
noncomputable def F.internal_stringslite_IndexByte (a0 : List UInt8) (a1 : UInt8) : Option (Int) :=
 some (ixByte a0 a1)
noncomputable def F.strings_IndexByte (a0 : List UInt8) (a1 : UInt8) : Option (Int) :=
 obind (F.internal_stringslite_IndexByte a0 a1) fun x_1 =>
 some x_1
noncomputable def F.internal_stringslite_Index (a0 : List UInt8) : Option (Int) :=
 if ([46] == a0) = true then
 (
  some 0
 ) else (
  obind (getO ([46] : List UInt8) (0 : Int)) fun x_1 =>
  obind (F.internal_stringslite_IndexByte a0 x_1) fun x_2 =>
  some x_2
 )
noncomputable def F.strings_Count (a0 : List UInt8) : Option (Int) :=
 obind (getO ([46] : List UInt8) (0 : Int)) fun x_1 =>
 some (ctByte a0 x_1)
noncomputable def F.internal_stringslite_Cut (a0 : List UInt8) : Option (List UInt8 × List UInt8 × Bool) :=
 obind (F.internal_stringslite_Index a0) fun x_1 =>
 if (decide ((0 : Int) ≤ x_1)) = true then
 (
  obind (tkO a0 (x_1 : Int)) fun x_2 =>
  obind (drO a0 (wI (x_1 + 1) : Int)) fun x_3 =>
  some (x_2, x_3, true)
 ) else (
  some (a0, [], false)
 )
noncomputable def F.strings_Cut (a0 : List UInt8) : Option (List UInt8 × List UInt8 × Bool) :=
 obind (F.internal_stringslite_Cut a0) fun x_1 =>
 some (x_1.1, x_1.2.1, x_1.2.2)
noncomputable def F.math_bits_RotateLeft32 (a0 : UInt32) (a1 : Int) : Option (UInt32) :=
 some ((shl32 a0 (((UInt64.ofInt a1) &&& 31).toNat)) ||| (shr32 a0 ((32 - ((UInt64.ofInt a1) &&& 31)).toNat)))
noncomputable def F.math_bits_RotateLeft64 (a0 : UInt64) (a1 : Int) : Option (UInt64) :=
 some ((shl64 a0 (((UInt64.ofInt a1) &&& 63).toNat)) ||| (shr64 a0 ((64 - ((UInt64.ofInt a1) &&& 63)).toNat)))
end Go.Gk
