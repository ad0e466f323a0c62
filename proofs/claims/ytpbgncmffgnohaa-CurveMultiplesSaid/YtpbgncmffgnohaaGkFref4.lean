import Derived.Test.YtpbgncmffgnohaaGkS
import Derived.Test.YtpbgncmffgnohaaGkFman3
set_option linter.unusedVariables false
set_option linter.unusedSimpArgs false
set_option linter.unusedVariables false
namespace Go.Gk
noncomputable def F.ref4_filled_L2 (x_21 : UInt64) : List UInt8 × Int → Option ((List UInt8 × Int) ⊕ (List UInt8))
 | (x_22, x_25) =>
  if (decide ((0 : Int) ≤ x_25)) = true then
  (
   obind (apO 1 x_22 [((shr64 x_21 ((UInt64.ofInt (wI (8 * x_25))).toNat)) &&& 255).toUInt8]) fun x_31 =>
   oinl (x_31, wI (x_25 - 1))
  ) else (
   oinr (
    some x_22
   )
  )
noncomputable def F.ref4_filled_L1 (a0 : List UInt8) (a1 : Int) : List UInt8 → Option ((List UInt8) ⊕ (List UInt8))
 | x_9 =>
  grd (¬ a1 = 0) <|
  if ((Int.tmod (x_9.length : Int) a1) != (wI (a1 - 8))) = true then
  (
   obind (apO 1 x_9 [0]) fun x_18 =>
   oinl x_18
  ) else (
   oinr (
    olet ((UInt64.ofInt (a0.length : Int)) * 8) fun x_21 =>
    loop (F.ref4_filled_L2 x_21) (x_9, 7)
   )
  )
noncomputable def F.ref4_filled (a0 : List UInt8) (a1 : Int) : Option (List UInt8) :=
 obind (apO 1 [] a0) fun x_1 =>
 obind (apO 1 x_1 [128]) fun x_6 =>
 loop (F.ref4_filled_L1 a0 a1) x_6
noncomputable def F.ref4_turn32 (a0 : UInt32) (a1 : Int) : Option (UInt32) :=
 some ((shr32 a0 ((UInt64.ofInt a1).toNat)) ||| (shl32 a0 ((UInt64.ofInt (wI (32 - a1))).toNat)))
noncomputable def F.ref4_turn64 (a0 : UInt64) (a1 : Int) : Option (UInt64) :=
 some ((shr64 a0 ((UInt64.ofInt a1).toNat)) ||| (shl64 a0 ((UInt64.ofInt (wI (64 - a1))).toNat)))
noncomputable def F.ref4_short_K1 (x_14 : Int) : List UInt32 → Option ((Int × List UInt32) ⊕ ((Int × List UInt32) ⊕ (List UInt8)))
 | x_38 =>
  oinl (wI (x_14 + 1), x_38)
noncomputable def F.ref4_short_L4 (x_6 : Int) (x_44 : List UInt32) : Int × List UInt32 → Option ((Int × List UInt32) ⊕ ((Int × List UInt32) ⊕ (List UInt8)))
 | (x_73, x_74) =>
  if (decide (x_73 < 8)) = true then
  (
   obind (getO x_74 (x_73 : Int)) fun x_79 =>
   obind (getO x_44 (x_73 : Int)) fun x_80 =>
   obind (getO x_74 (x_73 : Int)) fun x_81 =>
   olet (x_74.set (x_73 : Int).toNat (x_79 + x_80)) fun x_82 =>
   oinl (wI (x_73 + 1), x_82)
  ) else (
   oinr (
    oinl (wI (x_6 + 64), x_74)
   )
  )
noncomputable def F.ref4_short_L3 (x_7 : List UInt32) (x_15 : List UInt32) (x_6 : Int) : Int × List UInt32 → Option ((Int × List UInt32) ⊕ ((Int × List UInt32) ⊕ (List UInt8)))
 | (x_43, x_44) =>
  if (decide (x_43 < 64)) = true then
  (
   obind (getO x_44 (0 : Int)) fun x_49 =>
   obind (getO x_44 (4 : Int)) fun x_50 =>
   obind (getO x_44 (7 : Int)) fun x_51 =>
   obind (F.ref4_turn32 x_50 6) fun x_52 =>
   obind (F.ref4_turn32 x_50 11) fun x_53 =>
   obind (F.ref4_turn32 x_50 25) fun x_54 =>
   obind (getO x_44 (5 : Int)) fun x_55 =>
   obind (getO x_44 (6 : Int)) fun x_56 =>
   obind (getO F.tab_ref4_k256 (x_43 : Int)) fun x_57 =>
   obind (getO x_15 (x_43 : Int)) fun x_58 =>
   olet ((((x_51 + ((x_52 ^^^ x_53) ^^^ x_54)) + ((x_50 &&& x_55) ^^^ ((~~~ x_50) &&& x_56))) + x_57) + x_58) fun x_59 =>
   obind (F.ref4_turn32 x_49 2) fun x_60 =>
   obind (F.ref4_turn32 x_49 13) fun x_61 =>
   obind (F.ref4_turn32 x_49 22) fun x_62 =>
   obind (getO x_44 (1 : Int)) fun x_63 =>
   obind (getO x_44 (2 : Int)) fun x_64 =>
   obind (getO x_44 (1 : Int)) fun x_65 =>
   obind (getO x_44 (2 : Int)) fun x_66 =>
   olet (((x_60 ^^^ x_61) ^^^ x_62) + (((x_49 &&& x_63) ^^^ (x_49 &&& x_64)) ^^^ (x_65 &&& x_66))) fun x_67 =>
   obind (getO x_44 (1 : Int)) fun x_68 =>
   obind (getO x_44 (2 : Int)) fun x_69 =>
   obind (getO x_44 (3 : Int)) fun x_70 =>
   obind (getO x_44 (5 : Int)) fun x_71 =>
   obind (getO x_44 (6 : Int)) fun x_72 =>
   oinl (wI (x_43 + 1), ([x_59 + x_67, x_49, x_68, x_69, x_70 + x_59, x_50, x_71, x_72] : List UInt32))
  ) else (
   oinr (
    loop (F.ref4_short_L4 x_6 x_44) (0, x_7)
   )
  )
noncomputable def F.ref4_short_L2 (x_3 : List UInt8) (x_6 : Int) (x_7 : List UInt32) : Int × List UInt32 → Option ((Int × List UInt32) ⊕ ((Int × List UInt32) ⊕ (List UInt8)))
 | (x_14, x_15) =>
  if (decide (x_14 < 64)) = true then
  (
   if (decide (x_14 < 16)) = true then
   (
    olet (wI (x_6 + (wI (4 * x_14)))) fun x_20 =>
    obind (getO x_3 (x_20 : Int)) fun x_21 =>
    obind (getO x_3 (wI (x_20 + 1) : Int)) fun x_22 =>
    obind (getO x_3 (wI (x_20 + 2) : Int)) fun x_23 =>
    obind (getO x_3 (wI (x_20 + 3) : Int)) fun x_24 =>
    obind (getO x_15 (x_14 : Int)) fun x_25 =>
    olet (x_15.set (x_14 : Int).toNat ((((shl32 x_21.toUInt32 24) ||| (shl32 x_22.toUInt32 16)) ||| (shl32 x_23.toUInt32 8)) ||| x_24.toUInt32)) fun x_26 =>
    F.ref4_short_K1 x_14 x_26
   ) else (
    obind (getO x_15 (wI (x_14 - 15) : Int)) fun x_27 =>
    obind (getO x_15 (wI (x_14 - 2) : Int)) fun x_28 =>
    obind (getO x_15 (wI (x_14 - 16) : Int)) fun x_29 =>
    obind (F.ref4_turn32 x_27 7) fun x_30 =>
    obind (F.ref4_turn32 x_27 18) fun x_31 =>
    obind (getO x_15 (wI (x_14 - 7) : Int)) fun x_32 =>
    obind (F.ref4_turn32 x_28 17) fun x_33 =>
    obind (F.ref4_turn32 x_28 19) fun x_34 =>
    obind (getO x_15 (x_14 : Int)) fun x_35 =>
    olet (x_15.set (x_14 : Int).toNat (((x_29 + ((x_30 ^^^ x_31) ^^^ (shr32 x_27 3))) + x_32) + ((x_33 ^^^ x_34) ^^^ (shr32 x_28 10)))) fun x_36 =>
    F.ref4_short_K1 x_14 x_36
   )
  ) else (
   oinr (
    loop (F.ref4_short_L3 x_7 x_15 x_6) (0, x_7)
   )
  )
noncomputable def F.ref4_short_L5 (x_7 : List UInt32) : List UInt8 × Int → Option ((List UInt8 × Int) ⊕ (List UInt8))
 | (x_89, x_92) =>
  if (decide (x_92 < 8)) = true then
  (
   obind (getO x_7 (x_92 : Int)) fun x_96 =>
   obind (getO x_7 (x_92 : Int)) fun x_97 =>
   obind (getO x_7 (x_92 : Int)) fun x_98 =>
   obind (getO x_7 (x_92 : Int)) fun x_99 =>
   obind (apO 1 x_89 [(shr32 x_96 24).toUInt8, ((shr32 x_97 16) &&& 255).toUInt8, ((shr32 x_98 8) &&& 255).toUInt8, (x_99 &&& 255).toUInt8]) fun x_102 =>
   oinl (x_102, wI (x_92 + 1))
  ) else (
   oinr (
    some x_89
   )
  )
noncomputable def F.ref4_short_L1 (x_3 : List UInt8) : Int × List UInt32 → Option ((Int × List UInt32) ⊕ (List UInt8))
 | (x_6, x_7) =>
  if (decide (x_6 < (x_3.length : Int))) = true then
  (
   loop (F.ref4_short_L2 x_3 x_6 x_7) (0, (List.replicate 64 0))
  ) else (
   oinr (
    loop (F.ref4_short_L5 x_7) ([], 0)
   )
  )
noncomputable def F.ref4_short (a0 : List UInt8) : Option (List UInt8) :=
 obind (F.ref4_filled a0 64) fun x_3 =>
 loop (F.ref4_short_L1 x_3) (0, F.tab_ref4_start256)
end Go.Gk
