import Derived.Test.YtldhmmipbogabaaGreatDoorGkS
import Derived.Test.YtldhmmipbogabaaGreatDoorGkFman3
import Derived.Test.YtldhmmipbogabaaGreatDoorGkFlib
set_option linter.unusedVariables false
set_option linter.unusedSimpArgs false
set_option linter.unusedVariables false
namespace Go.Gk
noncomputable def F.sha_Size (a0 : Int) : Option (Int) :=
 if (a0 == 1) = true then
 (
  some 32
 ) else (
  if (a0 == 2) = true then
  (
   some 48
  ) else (
   if (a0 == 3) = true then
   (
    some 64
   ) else (
    some 0
   )
  )
 )
noncomputable def F.sha_Block_K1  : Bool → Option (Int)
 | x_2 =>
  if x_2 = true then
  (
   some 128
  ) else (
   some 0
  )
noncomputable def F.sha_Block (a0 : Int) : Option (Int) :=
 if (a0 == 1) = true then
 (
  some 64
 ) else (
  if (a0 == 2) = true then
  (
   F.sha_Block_K1 (a0 == 2)
  ) else (
   F.sha_Block_K1 (a0 == 3)
  )
 )
noncomputable def F.sha_New_K1 (a0 : Int) : List UInt32 × List UInt64 → Option (Option (Int × List UInt32 × List UInt64 × List UInt8 × UInt64))
 | (x_6, x_8) =>
  some (some (a0, x_6, x_8, (List.replicate 128 0), 0))
noncomputable def F.sha_New (a0 : Int) : Option (Option (Int × List UInt32 × List UInt64 × List UInt8 × UInt64)) :=
 if (a0 == 1) = true then
 (
  F.sha_New_K1 a0 (F.tab_sha_start256, (List.replicate 8 0))
 ) else (
  if (a0 == 2) = true then
  (
   F.sha_New_K1 a0 ((List.replicate 8 0), F.tab_sha_start384)
  ) else (
   if (a0 == 3) = true then
   (
    F.sha_New_K1 a0 ((List.replicate 8 0), F.tab_sha_start512)
   ) else (
    some none
   )
  )
 )
noncomputable def F.sha_State_block32_L4 (a0_0 : Int) (a0_2 : List UInt64) (a0_3 : List UInt8) (a0_4 : UInt64) (x_41 : UInt32) (x_42 : UInt32) (x_43 : UInt32) (x_44 : UInt32) (x_45 : UInt32) (x_46 : UInt32) (x_47 : UInt32) (x_48 : UInt32) : Int × List UInt32 → Option ((Int × List UInt32) ⊕ (Int × List UInt32 × List UInt64 × List UInt8 × UInt64))
 | (x_63, x_64) =>
  if (decide (x_63 < 8)) = true then
  (
   obind (getO ([x_41, x_42, x_43, x_44, x_45, x_46, x_47, x_48] : List UInt32) (x_63 : Int)) fun x_69 =>
   obind (getO x_64 (x_63 : Int)) fun x_70 =>
   obind (getO x_64 (x_63 : Int)) fun x_71 =>
   olet (x_64.set (x_63 : Int).toNat (x_70 + x_69)) fun x_72 =>
   oinl (wI (x_63 + 1), x_72)
  ) else (
   oinr (
    some (a0_0, x_64, a0_2, a0_3, a0_4)
   )
  )
noncomputable def F.sha_State_block32_L3 (a0_1 : List UInt32) (x_18 : List UInt32) (a0_0 : Int) (a0_2 : List UInt64) (a0_3 : List UInt8) (a0_4 : UInt64) : UInt32 × UInt32 × UInt32 × UInt32 × UInt32 × UInt32 × UInt32 × UInt32 × Int → Option ((UInt32 × UInt32 × UInt32 × UInt32 × UInt32 × UInt32 × UInt32 × UInt32 × Int) ⊕ (Int × List UInt32 × List UInt64 × List UInt8 × UInt64))
 | (x_41, x_42, x_43, x_44, x_45, x_46, x_47, x_48, x_49) =>
  if (decide (x_49 < 64)) = true then
  (
   obind (F.math_bits_RotateLeft32 x_45 (-6)) fun x_53 =>
   obind (F.math_bits_RotateLeft32 x_45 (-11)) fun x_54 =>
   obind (F.math_bits_RotateLeft32 x_45 (-25)) fun x_55 =>
   obind (getO F.tab_sha_k256 (x_49 : Int)) fun x_56 =>
   obind (getO x_18 (x_49 : Int)) fun x_57 =>
   olet ((((x_48 + ((x_53 ^^^ x_54) ^^^ x_55)) + (x_47 ^^^ (x_45 &&& (x_46 ^^^ x_47)))) + x_56) + x_57) fun x_58 =>
   obind (F.math_bits_RotateLeft32 x_41 (-2)) fun x_59 =>
   obind (F.math_bits_RotateLeft32 x_41 (-13)) fun x_60 =>
   obind (F.math_bits_RotateLeft32 x_41 (-22)) fun x_61 =>
   olet (((x_59 ^^^ x_60) ^^^ x_61) + ((x_41 &&& x_42) ||| (x_43 &&& (x_41 ||| x_42)))) fun x_62 =>
   oinl (x_58 + x_62, x_41, x_42, x_43, x_44 + x_58, x_45, x_46, x_47, wI (x_49 + 1))
  ) else (
   oinr (
    loop (F.sha_State_block32_L4 a0_0 a0_2 a0_3 a0_4 x_41 x_42 x_43 x_44 x_45 x_46 x_47 x_48) (0, a0_1)
   )
  )
noncomputable def F.sha_State_block32_L2 (a0_1 : List UInt32) (a0_0 : Int) (a0_2 : List UInt64) (a0_3 : List UInt8) (a0_4 : UInt64) : Int × List UInt32 → Option ((Int × List UInt32) ⊕ (Int × List UInt32 × List UInt64 × List UInt8 × UInt64))
 | (x_17, x_18) =>
  if (decide (x_17 < 64)) = true then
  (
   obind (getO x_18 (wI (x_17 - 15) : Int)) fun x_23 =>
   obind (getO x_18 (wI (x_17 - 2) : Int)) fun x_24 =>
   obind (getO x_18 (wI (x_17 - 16) : Int)) fun x_25 =>
   obind (getO x_18 (wI (x_17 - 7) : Int)) fun x_26 =>
   obind (F.math_bits_RotateLeft32 x_23 (-7)) fun x_27 =>
   obind (F.math_bits_RotateLeft32 x_23 (-18)) fun x_28 =>
   obind (F.math_bits_RotateLeft32 x_24 (-17)) fun x_29 =>
   obind (F.math_bits_RotateLeft32 x_24 (-19)) fun x_30 =>
   obind (getO x_18 (x_17 : Int)) fun x_31 =>
   olet (x_18.set (x_17 : Int).toNat (((x_25 + x_26) + ((x_27 ^^^ x_28) ^^^ (shr32 x_23 3))) + ((x_29 ^^^ x_30) ^^^ (shr32 x_24 10)))) fun x_32 =>
   oinl (wI (x_17 + 1), x_32)
  ) else (
   oinr (
    obind (getO a0_1 (0 : Int)) fun x_33 =>
    obind (getO a0_1 (1 : Int)) fun x_34 =>
    obind (getO a0_1 (2 : Int)) fun x_35 =>
    obind (getO a0_1 (3 : Int)) fun x_36 =>
    obind (getO a0_1 (4 : Int)) fun x_37 =>
    obind (getO a0_1 (5 : Int)) fun x_38 =>
    obind (getO a0_1 (6 : Int)) fun x_39 =>
    obind (getO a0_1 (7 : Int)) fun x_40 =>
    loop (F.sha_State_block32_L3 a0_1 x_18 a0_0 a0_2 a0_3 a0_4) (x_33, x_34, x_35, x_36, x_37, x_38, x_39, x_40, 0)
   )
  )
noncomputable def F.sha_State_block32_L1 (a0_3 : List UInt8) (a0_1 : List UInt32) (a0_0 : Int) (a0_2 : List UInt64) (a0_4 : UInt64) : Int × List UInt32 → Option ((Int × List UInt32) ⊕ (Int × List UInt32 × List UInt64 × List UInt8 × UInt64))
 | (x_4, x_5) =>
  if (decide (x_4 < 16)) = true then
  (
   obind (drO a0_3 (wI (4 * x_4) : Int)) fun x_10 =>
   obind (getO x_10 (0 : Int)) fun x_11 =>
   obind (getO x_10 (1 : Int)) fun x_12 =>
   obind (getO x_10 (2 : Int)) fun x_13 =>
   obind (getO x_10 (3 : Int)) fun x_14 =>
   obind (getO x_5 (x_4 : Int)) fun x_15 =>
   olet (x_5.set (x_4 : Int).toNat ((((shl32 x_11.toUInt32 24) ||| (shl32 x_12.toUInt32 16)) ||| (shl32 x_13.toUInt32 8)) ||| x_14.toUInt32)) fun x_16 =>
   oinl (wI (x_4 + 1), x_16)
  ) else (
   oinr (
    loop (F.sha_State_block32_L2 a0_1 a0_0 a0_2 a0_3 a0_4) (16, x_5)
   )
  )
noncomputable def F.sha_State_block32 (a0_0 : Int) (a0_1 : List UInt32) (a0_2 : List UInt64) (a0_3 : List UInt8) (a0_4 : UInt64) : Option (Int × List UInt32 × List UInt64 × List UInt8 × UInt64) :=
 loop (F.sha_State_block32_L1 a0_3 a0_1 a0_0 a0_2 a0_4) (0, (List.replicate 64 0))
noncomputable def F.sha_State_block64_L2 (x_4 : Int) (x_10 : List UInt8) : Int × List UInt64 → Option ((Int × List UInt64) ⊕ ((Int × List UInt64) ⊕ (Int × List UInt32 × List UInt64 × List UInt8 × UInt64)))
 | (x_11, x_12) =>
  if (decide (x_11 < (x_10.length : Int))) = true then
  (
   obind (getO x_10 (x_11 : Int)) fun x_17 =>
   obind (getO x_12 (x_4 : Int)) fun x_18 =>
   obind (getO x_12 (x_4 : Int)) fun x_19 =>
   olet (x_12.set (x_4 : Int).toNat ((shl64 x_18 8) ||| x_17.toUInt64)) fun x_20 =>
   oinl (wI (x_11 + 1), x_20)
  ) else (
   oinr (
    oinl (wI (x_4 + 1), x_12)
   )
  )
noncomputable def F.sha_State_block64_L5 (a0_0 : Int) (a0_1 : List UInt32) (a0_3 : List UInt8) (a0_4 : UInt64) (x_47 : UInt64) (x_48 : UInt64) (x_49 : UInt64) (x_50 : UInt64) (x_51 : UInt64) (x_52 : UInt64) (x_53 : UInt64) (x_54 : UInt64) : Int × List UInt64 → Option ((Int × List UInt64) ⊕ (Int × List UInt32 × List UInt64 × List UInt8 × UInt64))
 | (x_69, x_70) =>
  if (decide (x_69 < 8)) = true then
  (
   obind (getO ([x_47, x_48, x_49, x_50, x_51, x_52, x_53, x_54] : List UInt64) (x_69 : Int)) fun x_75 =>
   obind (getO x_70 (x_69 : Int)) fun x_76 =>
   obind (getO x_70 (x_69 : Int)) fun x_77 =>
   olet (x_70.set (x_69 : Int).toNat (x_76 + x_75)) fun x_78 =>
   oinl (wI (x_69 + 1), x_78)
  ) else (
   oinr (
    some (a0_0, a0_1, x_70, a0_3, a0_4)
   )
  )
noncomputable def F.sha_State_block64_L4 (a0_2 : List UInt64) (x_24 : List UInt64) (a0_0 : Int) (a0_1 : List UInt32) (a0_3 : List UInt8) (a0_4 : UInt64) : UInt64 × UInt64 × UInt64 × UInt64 × UInt64 × UInt64 × UInt64 × UInt64 × Int → Option ((UInt64 × UInt64 × UInt64 × UInt64 × UInt64 × UInt64 × UInt64 × UInt64 × Int) ⊕ (Int × List UInt32 × List UInt64 × List UInt8 × UInt64))
 | (x_47, x_48, x_49, x_50, x_51, x_52, x_53, x_54, x_55) =>
  if (decide (x_55 < 80)) = true then
  (
   obind (F.math_bits_RotateLeft64 x_51 (-14)) fun x_59 =>
   obind (F.math_bits_RotateLeft64 x_51 (-18)) fun x_60 =>
   obind (F.math_bits_RotateLeft64 x_51 (-41)) fun x_61 =>
   obind (getO F.tab_sha_k512 (x_55 : Int)) fun x_62 =>
   obind (getO x_24 (x_55 : Int)) fun x_63 =>
   olet ((((x_54 + ((x_59 ^^^ x_60) ^^^ x_61)) + (x_53 ^^^ (x_51 &&& (x_52 ^^^ x_53)))) + x_62) + x_63) fun x_64 =>
   obind (F.math_bits_RotateLeft64 x_47 (-28)) fun x_65 =>
   obind (F.math_bits_RotateLeft64 x_47 (-34)) fun x_66 =>
   obind (F.math_bits_RotateLeft64 x_47 (-39)) fun x_67 =>
   olet (((x_65 ^^^ x_66) ^^^ x_67) + ((x_47 &&& x_48) ||| (x_49 &&& (x_47 ||| x_48)))) fun x_68 =>
   oinl (x_64 + x_68, x_47, x_48, x_49, x_50 + x_64, x_51, x_52, x_53, wI (x_55 + 1))
  ) else (
   oinr (
    loop (F.sha_State_block64_L5 a0_0 a0_1 a0_3 a0_4 x_47 x_48 x_49 x_50 x_51 x_52 x_53 x_54) (0, a0_2)
   )
  )
noncomputable def F.sha_State_block64_L3 (a0_2 : List UInt64) (a0_0 : Int) (a0_1 : List UInt32) (a0_3 : List UInt8) (a0_4 : UInt64) : Int × List UInt64 → Option ((Int × List UInt64) ⊕ (Int × List UInt32 × List UInt64 × List UInt8 × UInt64))
 | (x_23, x_24) =>
  if (decide (x_23 < 80)) = true then
  (
   obind (getO x_24 (wI (x_23 - 15) : Int)) fun x_29 =>
   obind (getO x_24 (wI (x_23 - 2) : Int)) fun x_30 =>
   obind (getO x_24 (wI (x_23 - 16) : Int)) fun x_31 =>
   obind (getO x_24 (wI (x_23 - 7) : Int)) fun x_32 =>
   obind (F.math_bits_RotateLeft64 x_29 (-1)) fun x_33 =>
   obind (F.math_bits_RotateLeft64 x_29 (-8)) fun x_34 =>
   obind (F.math_bits_RotateLeft64 x_30 (-19)) fun x_35 =>
   obind (F.math_bits_RotateLeft64 x_30 (-61)) fun x_36 =>
   obind (getO x_24 (x_23 : Int)) fun x_37 =>
   olet (x_24.set (x_23 : Int).toNat (((x_31 + x_32) + ((x_33 ^^^ x_34) ^^^ (shr64 x_29 7))) + ((x_35 ^^^ x_36) ^^^ (shr64 x_30 6)))) fun x_38 =>
   oinl (wI (x_23 + 1), x_38)
  ) else (
   oinr (
    obind (getO a0_2 (0 : Int)) fun x_39 =>
    obind (getO a0_2 (1 : Int)) fun x_40 =>
    obind (getO a0_2 (2 : Int)) fun x_41 =>
    obind (getO a0_2 (3 : Int)) fun x_42 =>
    obind (getO a0_2 (4 : Int)) fun x_43 =>
    obind (getO a0_2 (5 : Int)) fun x_44 =>
    obind (getO a0_2 (6 : Int)) fun x_45 =>
    obind (getO a0_2 (7 : Int)) fun x_46 =>
    loop (F.sha_State_block64_L4 a0_2 x_24 a0_0 a0_1 a0_3 a0_4) (x_39, x_40, x_41, x_42, x_43, x_44, x_45, x_46, 0)
   )
  )
noncomputable def F.sha_State_block64_L1 (a0_3 : List UInt8) (a0_2 : List UInt64) (a0_0 : Int) (a0_1 : List UInt32) (a0_4 : UInt64) : Int × List UInt64 → Option ((Int × List UInt64) ⊕ (Int × List UInt32 × List UInt64 × List UInt8 × UInt64))
 | (x_4, x_5) =>
  if (decide (x_4 < 16)) = true then
  (
   obind (slO a0_3 (wI (8 * x_4) : Int) (wI ((wI (8 * x_4)) + 8) : Int)) fun x_10 =>
   loop (F.sha_State_block64_L2 x_4 x_10) (0, x_5)
  ) else (
   oinr (
    loop (F.sha_State_block64_L3 a0_2 a0_0 a0_1 a0_3 a0_4) (16, x_5)
   )
  )
noncomputable def F.sha_State_block64 (a0_0 : Int) (a0_1 : List UInt32) (a0_2 : List UInt64) (a0_3 : List UInt8) (a0_4 : UInt64) : Option (Int × List UInt32 × List UInt64 × List UInt8 × UInt64) :=
 loop (F.sha_State_block64_L1 a0_3 a0_2 a0_0 a0_1 a0_4) (0, (List.replicate 80 0))
noncomputable def F.sha_State_block (a0_0 : Int) (a0_1 : List UInt32) (a0_2 : List UInt64) (a0_3 : List UInt8) (a0_4 : UInt64) : Option (Int × List UInt32 × List UInt64 × List UInt8 × UInt64) :=
 if (a0_0 == 1) = true then
 (
  obind (F.sha_State_block32 a0_0 a0_1 a0_2 a0_3 a0_4) fun x_2 =>
  some (x_2.1, x_2.2.1, x_2.2.2.1, x_2.2.2.2.1, x_2.2.2.2.2)
 ) else (
  obind (F.sha_State_block64 a0_0 a0_1 a0_2 a0_3 a0_4) fun x_6 =>
  some (x_6.1, x_6.2.1, x_6.2.2.1, x_6.2.2.2.1, x_6.2.2.2.2)
 )
noncomputable def F.sha_State_Write_L1 (x_2 : Int) : List UInt8 × Int × List UInt32 × List UInt64 × List UInt8 × UInt64 → Option ((List UInt8 × Int × List UInt32 × List UInt64 × List UInt8 × UInt64) ⊕ (Int × List UInt32 × List UInt64 × List UInt8 × UInt64))
 | (x_3, x_6, x_7, x_9, x_11, x_13) =>
  if (decide ((0 : Int) < (x_3.length : Int))) = true then
  (
   grd (¬ (UInt64.ofInt x_2) = 0) <|
   olet (wI ((x_13 % (UInt64.ofInt x_2)).toNat : Int)) fun x_18 =>
   obind (slO x_11 (x_18 : Int) (x_2 : Int)) fun x_19 =>
   olet (cpL x_11 x_3 ((x_18 : Int).toNat) ((x_2 : Int).toNat)) fun x_20 =>
   olet (((min x_3.length ((x_2 : Int).toNat - ((x_18 : Int).toNat)) : Nat) : Int)) fun x_21 =>
   obind (drO x_3 (x_21 : Int)) fun x_22 =>
   if ((wI (x_18 + x_21)) == x_2) = true then
   (
    obind (F.sha_State_block x_6 x_7 x_9 x_20 (x_13 + (UInt64.ofInt x_21))) fun x_23 =>
    oinl (x_22, x_23.1, x_23.2.1, x_23.2.2.1, x_23.2.2.2.1, x_23.2.2.2.2)
   ) else (
    oinl (x_22, x_6, x_7, x_9, x_20, x_13 + (UInt64.ofInt x_21))
   )
  ) else (
   oinr (
    some (x_6, x_7, x_9, x_11, x_13)
   )
  )
noncomputable def F.sha_State_Write (a0_0 : Int) (a0_1 : List UInt32) (a0_2 : List UInt64) (a0_3 : List UInt8) (a0_4 : UInt64) (a1 : List UInt8) : Option (Int × List UInt32 × List UInt64 × List UInt8 × UInt64) :=
 obind (F.sha_Block a0_0) fun x_2 =>
 loop (F.sha_State_Write_L1 x_2) (a1, a0_0, a0_1, a0_2, a0_3, a0_4)
noncomputable def F.sha_State_Sum_K1 (x_21 : List UInt8) (x_24 : Int) : UInt8 → Option ((List UInt8 × Int) ⊕ (List UInt8 × Int × List UInt32 × List UInt64 × List UInt8 × UInt64))
 | x_32 =>
  obind (apO 1 x_21 [x_32]) fun x_36 =>
  oinl (x_36, wI (x_24 - 1))
noncomputable def F.sha_State_Sum_L3 (a0_0 : Int) (a0_1 : List UInt32) (a0_2 : List UInt64) (a0_3 : List UInt8) (a0_4 : UInt64) (x_39 : Int × List UInt32 × List UInt64 × List UInt8 × UInt64) : List UInt8 × Int → Option ((List UInt8 × Int) ⊕ (List UInt8 × Int × List UInt32 × List UInt64 × List UInt8 × UInt64))
 | (x_43, x_46) =>
  if (decide (x_46 < 8)) = true then
  (
   obind (getO x_39.2.1 (x_46 : Int)) fun x_50 =>
   obind (apO 1 x_43 [(shr32 x_50 24).toUInt8, (shr32 x_50 16).toUInt8, (shr32 x_50 8).toUInt8, x_50.toUInt8]) fun x_53 =>
   oinl (x_53, wI (x_46 + 1))
  ) else (
   oinr (
    some (x_43, a0_0, a0_1, a0_2, a0_3, a0_4)
   )
  )
noncomputable def F.sha_State_Sum_L5 (x_61 : Int) (x_65 : UInt64) : List UInt8 × Int → Option ((List UInt8 × Int) ⊕ ((List UInt8 × Int) ⊕ (List UInt8 × Int × List UInt32 × List UInt64 × List UInt8 × UInt64)))
 | (x_66, x_69) =>
  if (decide ((0 : Int) ≤ x_69)) = true then
  (
   grd (0 ≤ x_69) <|
   obind (apO 1 x_66 [(shr64 x_65 ((x_69).toNat)).toUInt8]) fun x_76 =>
   oinl (x_76, wI (x_69 - 8))
  ) else (
   oinr (
    oinl (x_66, wI (x_61 + 1))
   )
  )
noncomputable def F.sha_State_Sum_L4 (a0_0 : Int) (a0_1 : List UInt32) (a0_2 : List UInt64) (a0_3 : List UInt8) (a0_4 : UInt64) (x_39 : Int × List UInt32 × List UInt64 × List UInt8 × UInt64) : List UInt8 × Int → Option ((List UInt8 × Int) ⊕ (List UInt8 × Int × List UInt32 × List UInt64 × List UInt8 × UInt64))
 | (x_58, x_61) =>
  if (decide (x_61 < 8)) = true then
  (
   obind (getO x_39.2.2.1 (x_61 : Int)) fun x_65 =>
   loop (F.sha_State_Sum_L5 x_61 x_65) (x_58, 56)
  ) else (
   oinr (
    obind (F.sha_Size x_39.1) fun x_81 =>
    obind (F.sha_Size x_39.1) fun x_82 =>
    grd (0 ≤ (x_81 : Int) ∧ (x_81 : Int).toNat ≤ x_58.length ∧ (x_82 : Int) = x_81) <|
    some (x_58.take ((x_81 : Int).toNat), a0_0, a0_1, a0_2, a0_3, a0_4)
   )
  )
noncomputable def F.sha_State_Sum_L2 (a0_0 : Int) (a0_1 : List UInt32) (a0_2 : List UInt64) (a0_3 : List UInt8) (a0_4 : UInt64) : List UInt8 × Int → Option ((List UInt8 × Int) ⊕ (List UInt8 × Int × List UInt32 × List UInt64 × List UInt8 × UInt64))
 | (x_21, x_24) =>
  if (decide ((0 : Int) ≤ x_24)) = true then
  (
   if (decide (x_24 < 8)) = true then
   (
    grd (0 ≤ (wI (8 * x_24))) <|
    olet ((shr64 (shl64 a0_4 3) (((wI (8 * x_24))).toNat)).toUInt8) fun x_29 =>
    F.sha_State_Sum_K1 x_21 x_24 x_29
   ) else (
    if (x_24 == 8) = true then
    (
     F.sha_State_Sum_K1 x_21 x_24 ((shr64 a0_4 61).toUInt8)
    ) else (
     F.sha_State_Sum_K1 x_21 x_24 0
    )
   )
  ) else (
   oinr (
    obind (F.sha_State_Write a0_0 a0_1 a0_2 a0_3 a0_4 x_21) fun x_39 =>
    if (x_39.1 == 1) = true then
    (
     loop (F.sha_State_Sum_L3 a0_0 a0_1 a0_2 a0_3 a0_4 x_39) ([], 0)
    ) else (
     loop (F.sha_State_Sum_L4 a0_0 a0_1 a0_2 a0_3 a0_4 x_39) ([], 0)
    )
   )
  )
noncomputable def F.sha_State_Sum_L1 (a0_4 : UInt64) (x_4 : Int) (a0_0 : Int) (a0_1 : List UInt32) (a0_2 : List UInt64) (a0_3 : List UInt8) : List UInt8 → Option ((List UInt8) ⊕ (List UInt8 × Int × List UInt32 × List UInt64 × List UInt8 × UInt64))
 | x_7 =>
  grd (¬ (UInt64.ofInt x_4) = 0) <|
  grd (¬ x_4 = 0) <|
  if ((Int.tmod (wI ((wI ((a0_4 % (UInt64.ofInt x_4)).toNat : Int)) + (x_7.length : Int))) x_4) != (wI (x_4 - (wI (Int.tdiv x_4 8))))) = true then
  (
   obind (apO 1 x_7 [0]) fun x_17 =>
   oinl x_17
  ) else (
   oinr (
    olet (wI ((wI (Int.tdiv x_4 8)) - 1)) fun x_20 =>
    loop (F.sha_State_Sum_L2 a0_0 a0_1 a0_2 a0_3 a0_4) (x_7, x_20)
   )
  )
noncomputable def F.sha_State_Sum (a0_0 : Int) (a0_1 : List UInt32) (a0_2 : List UInt64) (a0_3 : List UInt8) (a0_4 : UInt64) : Option (List UInt8 × Int × List UInt32 × List UInt64 × List UInt8 × UInt64) :=
 obind (F.sha_Block a0_0) fun x_4 =>
 loop (F.sha_State_Sum_L1 a0_4 x_4 a0_0 a0_1 a0_2 a0_3) [128]
noncomputable def F.sha_Sum_L1 (a1 : List (List UInt8)) : Int × Int × List UInt32 × List UInt64 × List UInt8 × UInt64 → Option ((Int × Int × List UInt32 × List UInt64 × List UInt8 × UInt64) ⊕ (List UInt8))
 | (x_12, x_13, x_14, x_16, x_18, x_20) =>
  if (decide (x_12 < (a1.length : Int))) = true then
  (
   obind (getO a1 (x_12 : Int)) fun x_24 =>
   obind (F.sha_State_Write x_13 x_14 x_16 x_18 x_20 x_24) fun x_26 =>
   oinl (wI (x_12 + 1), x_26.1, x_26.2.1, x_26.2.2.1, x_26.2.2.2.1, x_26.2.2.2.2)
  ) else (
   oinr (
    obind (F.sha_State_Sum x_13 x_14 x_16 x_18 x_20) fun x_30 =>
    some x_30.1
   )
  )
noncomputable def F.sha_Sum (a0 : Int) (a1 : List (List UInt8)) : Option (List UInt8) :=
 obind (F.sha_New a0) fun x_1 =>
 ocase x_1 (
  some []
 ) (fun x_6 =>
  loop (F.sha_Sum_L1 a1) (0, x_6.1, x_6.2.1, x_6.2.2.1, x_6.2.2.2.1, x_6.2.2.2.2)
 )
end Go.Gk
