import Derived.Test.YtpbgncmffgnohaaGreatGkS
import Derived.Test.YtpbgncmffgnohaaGreatGkFman
set_option linter.unusedVariables false
set_option linter.unusedSimpArgs false
set_option linter.unusedVariables false
namespace Go.Gk
noncomputable def F.math_bits_Len32_K2  : UInt32 × Int → Option (Int)
 | (x_6, x_7) =>
  obind (getO ([0, 1, 2, 2, 3, 3, 3, 3, 4, 4, 4, 4, 4, 4, 4, 4, 5, 5, 5, 5, 5, 5, 5, 5, 5, 5, 5, 5, 5, 5, 5, 5, 6, 6, 6, 6, 6, 6, 6, 6, 6, 6, 6, 6, 6, 6, 6, 6, 6, 6, 6, 6, 6, 6, 6, 6, 6, 6, 6, 6, 6, 6, 6, 6, 7, 7, 7, 7, 7, 7, 7, 7, 7, 7, 7, 7, 7, 7, 7, 7, 7, 7, 7, 7, 7, 7, 7, 7, 7, 7, 7, 7, 7, 7, 7, 7, 7, 7, 7, 7, 7, 7, 7, 7, 7, 7, 7, 7, 7, 7, 7, 7, 7, 7, 7, 7, 7, 7, 7, 7, 7, 7, 7, 7, 7, 7, 7, 7, 8, 8, 8, 8, 8, 8, 8, 8, 8, 8, 8, 8, 8, 8, 8, 8, 8, 8, 8, 8, 8, 8, 8, 8, 8, 8, 8, 8, 8, 8, 8, 8, 8, 8, 8, 8, 8, 8, 8, 8, 8, 8, 8, 8, 8, 8, 8, 8, 8, 8, 8, 8, 8, 8, 8, 8, 8, 8, 8, 8, 8, 8, 8, 8, 8, 8, 8, 8, 8, 8, 8, 8, 8, 8, 8, 8, 8, 8, 8, 8, 8, 8, 8, 8, 8, 8, 8, 8, 8, 8, 8, 8, 8, 8, 8, 8, 8, 8, 8, 8, 8, 8, 8, 8, 8, 8, 8, 8, 8, 8, 8, 8, 8, 8, 8, 8, 8, 8, 8, 8, 8, 8, 8, 8, 8, 8, 8, 8] : List UInt8) (x_6.toUInt8.toNat : Int)) fun x_9 =>
  olet (wI (x_7 + (x_9.toNat : Int))) fun x_10 =>
  some x_10
noncomputable def F.math_bits_Len32_K1  : UInt32 × Int → Option (Int)
 | (x_2, x_3) =>
  if (decide ((256 : UInt32) ≤ x_2)) = true then
  (
   F.math_bits_Len32_K2 (shr32 x_2 8, wI (x_3 + 8))
  ) else (
   F.math_bits_Len32_K2 (x_2, x_3)
  )
noncomputable def F.math_bits_Len32 (a0 : UInt32) : Option (Int) :=
 if (decide ((65536 : UInt32) ≤ a0)) = true then
 (
  F.math_bits_Len32_K1 (shr32 a0 16, 16)
 ) else (
  F.math_bits_Len32_K1 (a0, 0)
 )
noncomputable def F.math_bits_LeadingZeros32 (a0 : UInt32) : Option (Int) :=
 obind (F.math_bits_Len32 a0) fun x_1 =>
 some (wI (32 - x_1))
noncomputable def F.math_bits_Sub32 (a0 : UInt32) (a1 : UInt32) (a2 : UInt32) : Option (UInt32 × UInt32) :=
 olet (shr32 (((~~~ a0) &&& a1) ||| ((~~~ (a0 ^^^ a1)) &&& ((a0 - a1) - a2))) 31) fun x_1 =>
 some ((a0 - a1) - a2, x_1)
noncomputable def F.math_bits_Div32_K1 (a0 : UInt32) (a1 : UInt32) (a2 : UInt32) : Bool → Option (UInt32 × UInt32)
 | x_2 =>
  if x_2 = true then
  (
   none
  ) else (
   olet ((shl64 a0.toUInt64 32) ||| a1.toUInt64) fun x_4 =>
   grd (¬ a2.toUInt64 = 0) <|
   grd (¬ a2.toUInt64 = 0) <|
   olet ((x_4 / a2.toUInt64).toUInt32) fun x_7 =>
   olet ((x_4 % a2.toUInt64).toUInt32) fun x_8 =>
   some (x_7, x_8)
  )
noncomputable def F.math_bits_Div32 (a0 : UInt32) (a1 : UInt32) (a2 : UInt32) : Option (UInt32 × UInt32) :=
 if (a2 != 0) = true then
 (
  F.math_bits_Div32_K1 a0 a1 a2 (decide (a2 ≤ a0))
 ) else (
  F.math_bits_Div32_K1 a0 a1 a2 false
 )
end Go.Gk
