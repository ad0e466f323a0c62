import Derived.Test.YtpbgncmffgnohaaGkS
import Derived.Test.YtpbgncmffgnohaaGkFman3
import Derived.Test.YtpbgncmffgnohaaGkFlib
set_option linter.unusedVariables false
set_option linter.unusedSimpArgs false
set_option linter.unusedVariables false
namespace Go.Gk
noncomputable def F.sha_State_block32_L4 (a0_0 : Int) (a0_2 : List UInt64) (a0_3 : List UInt8) (a0_4 : UInt64) (x_41 : UInt32) (x_42 : UInt32) (x_43 : UInt32) (x_44 : UInt32) (x_45 : UInt32) (x_46 : UInt32) (x_47 : UInt32) (x_48 : UInt32) : Int × List UInt32 → Option ((Int × List UInt32) ⊕ (Int × List UInt32 × List UInt64 × List UInt8 × UInt64))
 | (x_63, x_64) =>
  if (decide (x_63 < 8)) = true then
  (
   obind (getO ([x_41, x_42, x_43, x_44, x_45, x_46, x_47, x_48] : List UInt32) (x_63 : Int)) fun x_69 =>
   obind (getO x_64 (x_63 : Int)) fun x_70 =>
   obind (getO x_64 (x_63 : Int)) fun x_71 =>
   olet (x_64.set (x_63 : Int).toNat (x_70 + x_69)) fun x_72 =>
   oinl (wI (x_63 + 1), x_72)
  ) else (
   oinr (
    some (a0_0, x_64, a0_2, a0_3, a0_4)
   )
  )
noncomputable def F.sha_State_block32_L3 (a0_1 : List UInt32) (x_18 : List UInt32) (a0_0 : Int) (a0_2 : List UInt64) (a0_3 : List UInt8) (a0_4 : UInt64) : UInt32 × UInt32 × UInt32 × UInt32 × UInt32 × UInt32 × UInt32 × UInt32 × Int → Option ((UInt32 × UInt32 × UInt32 × UInt32 × UInt32 × UInt32 × UInt32 × UInt32 × Int) ⊕ (Int × List UInt32 × List UInt64 × List UInt8 × UInt64))
 | (x_41, x_42, x_43, x_44, x_45, x_46, x_47, x_48, x_49) =>
  if (decide (x_49 < 64)) = true then
  (
   obind (F.math_bits_RotateLeft32 x_45 (-6)) fun x_53 =>
   obind (F.math_bits_RotateLeft32 x_45 (-11)) fun x_54 =>
   obind (F.math_bits_RotateLeft32 x_45 (-25)) fun x_55 =>
   obind (getO F.tab_sha_k256 (x_49 : Int)) fun x_56 =>
   obind (getO x_18 (x_49 : Int)) fun x_57 =>
   olet ((((x_48 + ((x_53 ^^^ x_54) ^^^ x_55)) + (x_47 ^^^ (x_45 &&& (x_46 ^^^ x_47)))) + x_56) + x_57) fun x_58 =>
   obind (F.math_bits_RotateLeft32 x_41 (-2)) fun x_59 =>
   obind (F.math_bits_RotateLeft32 x_41 (-13)) fun x_60 =>
   obind (F.math_bits_RotateLeft32 x_41 (-22)) fun x_61 =>
   olet (((x_59 ^^^ x_60) ^^^ x_61) + ((x_41 &&& x_42) ||| (x_43 &&& (x_41 ||| x_42)))) fun x_62 =>
   oinl (x_58 + x_62, x_41, x_42, x_43, x_44 + x_58, x_45, x_46, x_47, wI (x_49 + 1))
  ) else (
   oinr (
    loop (F.sha_State_block32_L4 a0_0 a0_2 a0_3 a0_4 x_41 x_42 x_43 x_44 x_45 x_46 x_47 x_48) (0, a0_1)
   )
  )
noncomputable def F.sha_State_block32_L2 (a0_1 : List UInt32) (a0_0 : Int) (a0_2 : List UInt64) (a0_3 : List UInt8) (a0_4 : UInt64) : Int × List UInt32 → Option ((Int × List UInt32) ⊕ (Int × List UInt32 × List UInt64 × List UInt8 × UInt64))
 | (x_17, x_18) =>
  if (decide (x_17 < 64)) = true then
  (
   obind (getO x_18 (wI (x_17 - 15) : Int)) fun x_23 =>
   obind (getO x_18 (wI (x_17 - 2) : Int)) fun x_24 =>
   obind (getO x_18 (wI (x_17 - 16) : Int)) fun x_25 =>
   obind (getO x_18 (wI (x_17 - 7) : Int)) fun x_26 =>
   obind (F.math_bits_RotateLeft32 x_23 (-7)) fun x_27 =>
   obind (F.math_bits_RotateLeft32 x_23 (-18)) fun x_28 =>
   obind (F.math_bits_RotateLeft32 x_24 (-17)) fun x_29 =>
   obind (F.math_bits_RotateLeft32 x_24 (-19)) fun x_30 =>
   obind (getO x_18 (x_17 : Int)) fun x_31 =>
   olet (x_18.set (x_17 : Int).toNat (((x_25 + x_26) + ((x_27 ^^^ x_28) ^^^ (shr32 x_23 3))) + ((x_29 ^^^ x_30) ^^^ (shr32 x_24 10)))) fun x_32 =>
   oinl (wI (x_17 + 1), x_32)
  ) else (
   oinr (
    obind (getO a0_1 (0 : Int)) fun x_33 =>
    obind (getO a0_1 (1 : Int)) fun x_34 =>
    obind (getO a0_1 (2 : Int)) fun x_35 =>
    obind (getO a0_1 (3 : Int)) fun x_36 =>
    obind (getO a0_1 (4 : Int)) fun x_37 =>
    obind (getO a0_1 (5 : Int)) fun x_38 =>
    obind (getO a0_1 (6 : Int)) fun x_39 =>
    obind (getO a0_1 (7 : Int)) fun x_40 =>
    loop (F.sha_State_block32_L3 a0_1 x_18 a0_0 a0_2 a0_3 a0_4) (x_33, x_34, x_35, x_36, x_37, x_38, x_39, x_40, 0)
   )
  )
noncomputable def F.sha_State_block32_L1 (a0_3 : List UInt8) (a0_1 : List UInt32) (a0_0 : Int) (a0_2 : List UInt64) (a0_4 : UInt64) : Int × List UInt32 → Option ((Int × List UInt32) ⊕ (Int × List UInt32 × List UInt64 × List UInt8 × UInt64))
 | (x_4, x_5) =>
  if (decide (x_4 < 16)) = true then
  (
   obind (drO a0_3 (wI (4 * x_4) : Int)) fun x_10 =>
   obind (getO x_10 (0 : Int)) fun x_11 =>
   obind (getO x_10 (1 : Int)) fun x_12 =>
   obind (getO x_10 (2 : Int)) fun x_13 =>
   obind (getO x_10 (3 : Int)) fun x_14 =>
   obind (getO x_5 (x_4 : Int)) fun x_15 =>
   olet (x_5.set (x_4 : Int).toNat ((((shl32 x_11.toUInt32 24) ||| (shl32 x_12.toUInt32 16)) ||| (shl32 x_13.toUInt32 8)) ||| x_14.toUInt32)) fun x_16 =>
   oinl (wI (x_4 + 1), x_16)
  ) else (
   oinr (
    loop (F.sha_State_block32_L2 a0_1 a0_0 a0_2 a0_3 a0_4) (16, x_5)
   )
  )
noncomputable def F.sha_State_block32 (a0_0 : Int) (a0_1 : List UInt32) (a0_2 : List UInt64) (a0_3 : List UInt8) (a0_4 : UInt64) : Option (Int × List UInt32 × List UInt64 × List UInt8 × UInt64) :=
 loop (F.sha_State_block32_L1 a0_3 a0_1 a0_0 a0_2 a0_4) (0, (List.replicate 64 0))
noncomputable def F.sha_State_block64_L2 (x_4 : Int) (x_10 : List UInt8) : Int × List UInt64 → Option ((Int × List UInt64) ⊕ ((Int × List UInt64) ⊕ (Int × List UInt32 × List UInt64 × List UInt8 × UInt64)))
 | (x_11, x_12) =>
  if (decide (x_11 < (x_10.length : Int))) = true then
  (
   obind (getO x_10 (x_11 : Int)) fun x_17 =>
   obind (getO x_12 (x_4 : Int)) fun x_18 =>
   obind (getO x_12 (x_4 : Int)) fun x_19 =>
   olet (x_12.set (x_4 : Int).toNat ((shl64 x_18 8) ||| x_17.toUInt64)) fun x_20 =>
   oinl (wI (x_11 + 1), x_20)
  ) else (
   oinr (
    oinl (wI (x_4 + 1), x_12)
   )
  )
noncomputable def F.sha_State_block64_L5 (a0_0 : Int) (a0_1 : List UInt32) (a0_3 : List UInt8) (a0_4 : UInt64) (x_47 : UInt64) (x_48 : UInt64) (x_49 : UInt64) (x_50 : UInt64) (x_51 : UInt64) (x_52 : UInt64) (x_53 : UInt64) (x_54 : UInt64) : Int × List UInt64 → Option ((Int × List UInt64) ⊕ (Int × List UInt32 × List UInt64 × List UInt8 × UInt64))
 | (x_69, x_70) =>
  if (decide (x_69 < 8)) = true then
  (
   obind (getO ([x_47, x_48, x_49, x_50, x_51, x_52, x_53, x_54] : List UInt64) (x_69 : Int)) fun x_75 =>
   obind (getO x_70 (x_69 : Int)) fun x_76 =>
   obind (getO x_70 (x_69 : Int)) fun x_77 =>
   olet (x_70.set (x_69 : Int).toNat (x_76 + x_75)) fun x_78 =>
   oinl (wI (x_69 + 1), x_78)
  ) else (
   oinr (
    some (a0_0, a0_1, x_70, a0_3, a0_4)
   )
  )
noncomputable def F.sha_State_block64_L4 (a0_2 : List UInt64) (x_24 : List UInt64) (a0_0 : Int) (a0_1 : List UInt32) (a0_3 : List UInt8) (a0_4 : UInt64) : UInt64 × UInt64 × UInt64 × UInt64 × UInt64 × UInt64 × UInt64 × UInt64 × Int → Option ((UInt64 × UInt64 × UInt64 × UInt64 × UInt64 × UInt64 × UInt64 × UInt64 × Int) ⊕ (Int × List UInt32 × List UInt64 × List UInt8 × UInt64))
 | (x_47, x_48, x_49, x_50, x_51, x_52, x_53, x_54, x_55) =>
  if (decide (x_55 < 80)) = true then
  (
   obind (F.math_bits_RotateLeft64 x_51 (-14)) fun x_59 =>
   obind (F.math_bits_RotateLeft64 x_51 (-18)) fun x_60 =>
   obind (F.math_bits_RotateLeft64 x_51 (-41)) fun x_61 =>
   obind (getO F.tab_sha_k512 (x_55 : Int)) fun x_62 =>
   obind (getO x_24 (x_55 : Int)) fun x_63 =>
   olet ((((x_54 + ((x_59 ^^^ x_60) ^^^ x_61)) + (x_53 ^^^ (x_51 &&& (x_52 ^^^ x_53)))) + x_62) + x_63) fun x_64 =>
   obind (F.math_bits_RotateLeft64 x_47 (-28)) fun x_65 =>
   obind (F.math_bits_RotateLeft64 x_47 (-34)) fun x_66 =>
   obind (F.math_bits_RotateLeft64 x_47 (-39)) fun x_67 =>
   olet (((x_65 ^^^ x_66) ^^^ x_67) + ((x_47 &&& x_48) ||| (x_49 &&& (x_47 ||| x_48)))) fun x_68 =>
   oinl (x_64 + x_68, x_47, x_48, x_49, x_50 + x_64, x_51, x_52, x_53, wI (x_55 + 1))
  ) else (
   oinr (
    loop (F.sha_State_block64_L5 a0_0 a0_1 a0_3 a0_4 x_47 x_48 x_49 x_50 x_51 x_52 x_53 x_54) (0, a0_2)
   )
  )
noncomputable def F.sha_State_block64_L3 (a0_2 : List UInt64) (a0_0 : Int) (a0_1 : List UInt32) (a0_3 : List UInt8) (a0_4 : UInt64) : Int × List UInt64 → Option ((Int × List UInt64) ⊕ (Int × List UInt32 × List UInt64 × List UInt8 × UInt64))
 | (x_23, x_24) =>
  if (decide (x_23 < 80)) = true then
  (
   obind (getO x_24 (wI (x_23 - 15) : Int)) fun x_29 =>
   obind (getO x_24 (wI (x_23 - 2) : Int)) fun x_30 =>
   obind (getO x_24 (wI (x_23 - 16) : Int)) fun x_31 =>
   obind (getO x_24 (wI (x_23 - 7) : Int)) fun x_32 =>
   obind (F.math_bits_RotateLeft64 x_29 (-1)) fun x_33 =>
   obind (F.math_bits_RotateLeft64 x_29 (-8)) fun x_34 =>
   obind (F.math_bits_RotateLeft64 x_30 (-19)) fun x_35 =>
   obind (F.math_bits_RotateLeft64 x_30 (-61)) fun x_36 =>
   obind (getO x_24 (x_23 : Int)) fun x_37 =>
   olet (x_24.set (x_23 : Int).toNat (((x_31 + x_32) + ((x_33 ^^^ x_34) ^^^ (shr64 x_29 7))) + ((x_35 ^^^ x_36) ^^^ (shr64 x_30 6)))) fun x_38 =>
   oinl (wI (x_23 + 1), x_38)
  ) else (
   oinr (
    obind (getO a0_2 (0 : Int)) fun x_39 =>
    obind (getO a0_2 (1 : Int)) fun x_40 =>
    obind (getO a0_2 (2 : Int)) fun x_41 =>
    obind (getO a0_2 (3 : Int)) fun x_42 =>
    obind (getO a0_2 (4 : Int)) fun x_43 =>
    obind (getO a0_2 (5 : Int)) fun x_44 =>
    obind (getO a0_2 (6 : Int)) fun x_45 =>
    obind (getO a0_2 (7 : Int)) fun x_46 =>
    loop (F.sha_State_block64_L4 a0_2 x_24 a0_0 a0_1 a0_3 a0_4) (x_39, x_40, x_41, x_42, x_43, x_44, x_45, x_46, 0)
   )
  )
noncomputable def F.sha_State_block64_L1 (a0_3 : List UInt8) (a0_2 : List UInt64) (a0_0 : Int) (a0_1 : List UInt32) (a0_4 : UInt64) : Int × List UInt64 → Option ((Int × List UInt64) ⊕ (Int × List UInt32 × List UInt64 × List UInt8 × UInt64))
 | (x_4, x_5) =>
  if (decide (x_4 < 16)) = true then
  (
   obind (slO a0_3 (wI (8 * x_4) : Int) (wI ((wI (8 * x_4)) + 8) : Int)) fun x_10 =>
   loop (F.sha_State_block64_L2 x_4 x_10) (0, x_5)
  ) else (
   oinr (
    loop (F.sha_State_block64_L3 a0_2 a0_0 a0_1 a0_3 a0_4) (16, x_5)
   )
  )
noncomputable def F.sha_State_block64 (a0_0 : Int) (a0_1 : List UInt32) (a0_2 : List UInt64) (a0_3 : List UInt8) (a0_4 : UInt64) : Option (Int × List UInt32 × List UInt64 × List UInt8 × UInt64) :=
 loop (F.sha_State_block64_L1 a0_3 a0_2 a0_0 a0_1 a0_4) (0, (List.replicate 80 0))
end Go.Gk
