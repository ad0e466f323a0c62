import Derived.Test.YtpbgncmffgnohaaGkS
import Derived.Test.YtpbgncmffgnohaaGkFman
set_option linter.unusedVariables false
set_option linter.unusedSimpArgs false
set_option linter.unusedVariables false
namespace Go.Gk
noncomputable def F.math_bits_RotateLeft32 (a0 : UInt32) (a1 : Int) : Option (UInt32) :=
 some ((shl32 a0 (((UInt64.ofInt a1) &&& 31).toNat)) ||| (shr32 a0 ((32 - ((UInt64.ofInt a1) &&& 31)).toNat)))
noncomputable def F.math_bits_RotateLeft64 (a0 : UInt64) (a1 : Int) : Option (UInt64) :=
 some ((shl64 a0 (((UInt64.ofInt a1) &&& 63).toNat)) ||| (shr64 a0 ((64 - ((UInt64.ofInt a1) &&& 63)).toNat)))
noncomputable def F.math_bits_Len32_K2  : UInt32 × Int → Option (Int)
 | (x_6, x_7) =>
  obind (getO ([0, 1, 2, 2, 3, 3, 3, 3, 4, 4, 4, 4, 4, 4, 4, 4, 5, 5, 5, 5, 5, 5, 5, 5, 5, 5, 5, 5, 5, 5, 5, 5, 6, 6, 6, 6, 6, 6, 6, 6, 6, 6, 6, 6, 6, 6, 6, 6, 6, 6, 6, 6, 6, 6, 6, 6, 6, 6, 6, 6, 6, 6, 6, 6, 7, 7, 7, 7, 7, 7, 7, 7, 7, 7, 7, 7, 7, 7, 7, 7, 7, 7, 7, 7, 7, 7, 7, 7, 7, 7, 7, 7, 7, 7, 7, 7, 7, 7, 7, 7, 7, 7, 7, 7, 7, 7, 7, 7, 7, 7, 7, 7, 7, 7, 7, 7, 7, 7, 7, 7, 7, 7, 7, 7, 7, 7, 7, 7, 8, 8, 8, 8, 8, 8, 8, 8, 8, 8, 8, 8, 8, 8, 8, 8, 8, 8, 8, 8, 8, 8, 8, 8, 8, 8, 8, 8, 8, 8, 8, 8, 8, 8, 8, 8, 8, 8, 8, 8, 8, 8, 8, 8, 8, 8, 8, 8, 8, 8, 8, 8, 8, 8, 8, 8, 8, 8, 8, 8, 8, 8, 8, 8, 8, 8, 8, 8, 8, 8, 8, 8, 8, 8, 8, 8, 8, 8, 8, 8, 8, 8, 8, 8, 8, 8, 8, 8, 8, 8, 8, 8, 8, 8, 8, 8, 8, 8, 8, 8, 8, 8, 8, 8, 8, 8, 8, 8, 8, 8, 8, 8, 8, 8, 8, 8, 8, 8, 8, 8, 8, 8, 8, 8, 8, 8, 8, 8] : List UInt8) (x_6.toUInt8.toNat : Int)) fun x_9 =>
  olet (wI (x_7 + (x_9.toNat : Int))) fun x_10 =>
  some x_10
noncomputable def F.math_bits_Len32_K1  : UInt32 × Int → Option (Int)
 | (x_2, x_3) =>
  if (decide ((256 : UInt32) ≤ x_2)) = true then
  (
   F.math_bits_Len32_K2 (shr32 x_2 8, wI (x_3 + 8))
  ) else (
   F.math_bits_Len32_K2 (x_2, x_3)
  )
noncomputable def F.math_bits_Len32 (a0 : UInt32) : Option (Int) :=
 if (decide ((65536 : UInt32) ≤ a0)) = true then
 (
  F.math_bits_Len32_K1 (shr32 a0 16, 16)
 ) else (
  F.math_bits_Len32_K1 (a0, 0)
 )
end Go.Gk
