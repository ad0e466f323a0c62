import Derived.Test.YtpbgncmffgnohaaGreatGkS
set_option linter.unusedVariables false
set_option linter.unusedSimpArgs false
set_option linter.unusedVariables false
namespace Go.Gk
noncomputable def F.bignum_trim_K1 (a0 : List UInt32) (x_2 : Int) : Bool → Option ((Int) ⊕ (List UInt32))
 | x_8 =>
  if x_8 = true then
  (
   oinl (wI (x_2 - 1))
  ) else (
   oinr (
    grd (0 ≤ (x_2 : Int) ∧ (x_2 : Int).toNat ≤ a0.length) <|
    some (a0.take ((x_2 : Int).toNat))
   )
  )
noncomputable def F.bignum_trim_L1 (a0 : List UInt32) : Int → Option ((Int) ⊕ (List UInt32))
 | x_2 =>
  if (decide ((0 : Int) < x_2)) = true then
  (
   obind (getO a0 (wI (x_2 - 1) : Int)) fun x_7 =>
   F.bignum_trim_K1 a0 x_2 (x_7 == 0)
  ) else (
   F.bignum_trim_K1 a0 x_2 false
  )
noncomputable def F.bignum_trim (a0 : List UInt32) : Option (List UInt32) :=
 loop (F.bignum_trim_L1 a0) (a0.length : Int)
noncomputable def F.bignum_words (a0 : UInt64) : Option (List UInt32) :=
 obind (F.bignum_trim ([a0.toUInt32, (shr64 a0 32).toUInt32] : List UInt32)) fun x_3 =>
 some x_3
noncomputable def F.bignum_mul_L2 (a0 : List UInt32) (a1 : List UInt32) (x_7 : Int) : UInt64 × Int × List UInt32 → Option ((UInt64 × Int × List UInt32) ⊕ ((Int × List UInt32) ⊕ (List UInt32)))
 | (x_12, x_13, x_14) =>
  if (decide (x_13 < (a1.length : Int))) = true then
  (
   obind (getO a0 (x_7 : Int)) fun x_18 =>
   obind (getO a1 (x_13 : Int)) fun x_19 =>
   obind (getO x_14 (wI (x_7 + x_13) : Int)) fun x_20 =>
   olet (x_12 + ((x_18.toUInt64 * x_19.toUInt64) + x_20.toUInt64)) fun x_21 =>
   obind (getO x_14 (wI (x_7 + x_13) : Int)) fun x_22 =>
   olet (x_14.set (wI (x_7 + x_13) : Int).toNat x_21.toUInt32) fun x_23 =>
   oinl (shr64 x_21 32, wI (x_13 + 1), x_23)
  ) else (
   oinr (
    obind (getO x_14 (wI (x_7 + (a1.length : Int)) : Int)) fun x_24 =>
    olet (x_14.set (wI (x_7 + (a1.length : Int)) : Int).toNat x_12.toUInt32) fun x_25 =>
    oinl (wI (x_7 + 1), x_25)
   )
  )
noncomputable def F.bignum_mul_L1 (a0 : List UInt32) (a1 : List UInt32) : Int × List UInt32 → Option ((Int × List UInt32) ⊕ (List UInt32))
 | (x_7, x_8) =>
  if (decide (x_7 < (a0.length : Int))) = true then
  (
   loop (F.bignum_mul_L2 a0 a1 x_7) (0, 0, x_8)
  ) else (
   oinr (
    obind (F.bignum_trim x_8) fun x_28 =>
    some x_28
   )
  )
noncomputable def F.bignum_mul_K1 (a0 : List UInt32) (a1 : List UInt32) : Bool → Option (List UInt32)
 | x_2 =>
  if x_2 = true then
  (
   some []
  ) else (
   obind (mkO 4 (wI ((a0.length : Int) + (a1.length : Int)) : Int) (wI ((a0.length : Int) + (a1.length : Int)) : Int) (0 : UInt32)) fun x_4 =>
   loop (F.bignum_mul_L1 a0 a1) (0, x_4)
  )
noncomputable def F.bignum_mul (a0 : List UInt32) (a1 : List UInt32) : Option (List UInt32) :=
 if ((a0.length : Int) == 0) = true then
 (
  F.bignum_mul_K1 a0 a1 true
 ) else (
  F.bignum_mul_K1 a0 a1 ((a1.length : Int) == 0)
 )
noncomputable def F.bignum_add_K2 (x_13 : Int) (x_14 : List UInt32) : UInt64 → Option ((UInt64 × Int × List UInt32) ⊕ (List UInt32))
 | x_22 =>
  obind (getO x_14 (x_13 : Int)) fun x_24 =>
  olet (x_14.set (x_13 : Int).toNat x_22.toUInt32) fun x_25 =>
  oinl (shr64 x_22 32, wI (x_13 + 1), x_25)
noncomputable def F.bignum_add_L1 (x_2 : List UInt32) (x_5 : List UInt32) : UInt64 × Int × List UInt32 → Option ((UInt64 × Int × List UInt32) ⊕ (List UInt32))
 | (x_12, x_13, x_14) =>
  if (decide (x_13 < (x_2.length : Int))) = true then
  (
   obind (getO x_2 (x_13 : Int)) fun x_18 =>
   if (decide (x_13 < (x_5.length : Int))) = true then
   (
    obind (getO x_5 (x_13 : Int)) fun x_19 =>
    olet ((x_12 + x_18.toUInt64) + x_19.toUInt64) fun x_20 =>
    F.bignum_add_K2 x_13 x_14 x_20
   ) else (
    F.bignum_add_K2 x_13 x_14 (x_12 + x_18.toUInt64)
   )
  ) else (
   oinr (
    obind (getO x_14 ((x_2.length : Int) : Int)) fun x_26 =>
    olet (x_14.set ((x_2.length : Int) : Int).toNat x_12.toUInt32) fun x_27 =>
    obind (F.bignum_trim x_27) fun x_28 =>
    some x_28
   )
  )
noncomputable def F.bignum_add_K1  : List UInt32 × List UInt32 → Option (List UInt32)
 | (x_2, x_5) =>
  obind (mkO 4 (wI ((x_2.length : Int) + 1) : Int) (wI ((x_2.length : Int) + 1) : Int) (0 : UInt32)) fun x_9 =>
  loop (F.bignum_add_L1 x_2 x_5) (0, 0, x_9)
noncomputable def F.bignum_add (a0 : List UInt32) (a1 : List UInt32) : Option (List UInt32) :=
 if (decide ((a0.length : Int) < (a1.length : Int))) = true then
 (
  F.bignum_add_K1 (a1, a0)
 ) else (
  F.bignum_add_K1 (a0, a1)
 )
noncomputable def F.bignum_Int_give_K1 (a2 : List UInt32) : Bool → Option (Bool × List UInt32)
 | x_5 =>
  some (x_5, a2)
noncomputable def F.bignum_Int_give (a0_0 : Bool) (a0_1 : List UInt32) (a1 : Bool) (a2 : List UInt32) : Option (Bool × List UInt32) :=
 if a1 = true then
 (
  F.bignum_Int_give_K1 a2 (decide ((0 : Int) < (a2.length : Int)))
 ) else (
  F.bignum_Int_give_K1 a2 false
 )
noncomputable def F.bignum_Int_SetString_K4 (x_39 : Int) (x_45 : List UInt32) (x_48 : Int) : Int → Option ((List UInt32 × Int) ⊕ (Bool × Bool × List UInt32))
 | x_68 =>
  if (decide (x_39 ≤ x_68)) = true then
  (
   oinr (
    none
   )
  ) else (
   obind (F.bignum_words (UInt64.ofInt x_39)) fun x_70 =>
   obind (F.bignum_mul x_45 x_70) fun x_73 =>
   obind (F.bignum_words (UInt64.ofInt x_68)) fun x_76 =>
   obind (F.bignum_add x_73 x_76) fun x_79 =>
   oinl (x_79, wI (x_48 + 1))
  )
noncomputable def F.bignum_Int_SetString_K7 (x_52 : UInt8) (x_39 : Int) (x_45 : List UInt32) (x_48 : Int) : Bool → Option ((List UInt32 × Int) ⊕ (Bool × Bool × List UInt32))
 | x_62 =>
  if x_62 = true then
  (
   olet (wI (((x_52 - 65).toNat : Int) + 10)) fun x_64 =>
   F.bignum_Int_SetString_K4 x_39 x_45 x_48 x_64
  ) else (
   F.bignum_Int_SetString_K4 x_39 x_45 x_48 99
  )
noncomputable def F.bignum_Int_SetString_K6 (x_52 : UInt8) (x_39 : Int) (x_45 : List UInt32) (x_48 : Int) : Bool → Option ((List UInt32 × Int) ⊕ (Bool × Bool × List UInt32))
 | x_58 =>
  if x_58 = true then
  (
   olet (wI (((x_52 - 97).toNat : Int) + 10)) fun x_60 =>
   F.bignum_Int_SetString_K4 x_39 x_45 x_48 x_60
  ) else (
   if (decide ((65 : UInt8) ≤ x_52)) = true then
   (
    F.bignum_Int_SetString_K7 x_52 x_39 x_45 x_48 (decide (x_52 ≤ 90))
   ) else (
    F.bignum_Int_SetString_K7 x_52 x_39 x_45 x_48 false
   )
  )
noncomputable def F.bignum_Int_SetString_K5 (x_52 : UInt8) (x_39 : Int) (x_45 : List UInt32) (x_48 : Int) : Bool → Option ((List UInt32 × Int) ⊕ (Bool × Bool × List UInt32))
 | x_54 =>
  if x_54 = true then
  (
   olet (((x_52 - 48).toNat : Int)) fun x_56 =>
   F.bignum_Int_SetString_K4 x_39 x_45 x_48 x_56
  ) else (
   if (decide ((97 : UInt8) ≤ x_52)) = true then
   (
    F.bignum_Int_SetString_K6 x_52 x_39 x_45 x_48 (decide (x_52 ≤ 122))
   ) else (
    F.bignum_Int_SetString_K6 x_52 x_39 x_45 x_48 false
   )
  )
noncomputable def F.bignum_Int_SetString_L1 (a0_0 : Bool) (a0_1 : List UInt32) (x_13 : Bool) (x_38 : List UInt8) (x_39 : Int) : List UInt32 × Int → Option ((List UInt32 × Int) ⊕ (Bool × Bool × List UInt32))
 | (x_45, x_48) =>
  if (decide (x_48 < (x_38.length : Int))) = true then
  (
   obind (getO x_38 (x_48 : Int)) fun x_52 =>
   if (decide ((48 : UInt8) ≤ x_52)) = true then
   (
    F.bignum_Int_SetString_K5 x_52 x_39 x_45 x_48 (decide (x_52 ≤ 57))
   ) else (
    F.bignum_Int_SetString_K5 x_52 x_39 x_45 x_48 false
   )
  ) else (
   oinr (
    obind (F.bignum_Int_give a0_0 a0_1 x_13 x_45) fun x_83 =>
    some (true, x_83.1, x_83.2)
   )
  )
noncomputable def F.bignum_Int_SetString_K3 (a0_0 : Bool) (a0_1 : List UInt32) (x_13 : Bool) (x_38 : List UInt8) (x_39 : Int) : Bool → Option (Bool × Bool × List UInt32)
 | x_43 =>
  if x_43 = true then
  (
   none
  ) else (
   loop (F.bignum_Int_SetString_L1 a0_0 a0_1 x_13 x_38 x_39) ([], 0)
  )
noncomputable def F.bignum_Int_SetString_K2 (a0_0 : Bool) (a0_1 : List UInt32) (x_13 : Bool) : List UInt8 × Int → Option (Bool × Bool × List UInt32)
 | (x_38, x_39) =>
  if ((x_38.length : Int) == 0) = true then
  (
   F.bignum_Int_SetString_K3 a0_0 a0_1 x_13 x_38 x_39 true
  ) else (
   if (decide (x_39 < 2)) = true then
   (
    F.bignum_Int_SetString_K3 a0_0 a0_1 x_13 x_38 x_39 true
   ) else (
    F.bignum_Int_SetString_K3 a0_0 a0_1 x_13 x_38 x_39 (decide ((36 : Int) < x_39))
   )
  )
noncomputable def F.bignum_Int_SetString_K9 (x_12 : List UInt8) (a0_0 : Bool) (a0_1 : List UInt32) (x_13 : Bool) : Int → Option (Bool × Bool × List UInt32)
 | x_32 =>
  if (x_32 != 10) = true then
  (
   obind (drO x_12 (2 : Int)) fun x_34 =>
   F.bignum_Int_SetString_K2 a0_0 a0_1 x_13 (x_34, x_32)
  ) else (
   F.bignum_Int_SetString_K2 a0_0 a0_1 x_13 (x_12, x_32)
  )
noncomputable def F.bignum_Int_SetString_K12 (x_12 : List UInt8) (a0_0 : Bool) (a0_1 : List UInt32) (x_13 : Bool) : Bool → Option (Bool × Bool × List UInt32)
 | x_27 =>
  if x_27 = true then
  (
   F.bignum_Int_SetString_K9 x_12 a0_0 a0_1 x_13 8
  ) else (
   F.bignum_Int_SetString_K9 x_12 a0_0 a0_1 x_13 10
  )
noncomputable def F.bignum_Int_SetString_K11 (x_19 : UInt8) (x_12 : List UInt8) (a0_0 : Bool) (a0_1 : List UInt32) (x_13 : Bool) : Bool → Option (Bool × Bool × List UInt32)
 | x_24 =>
  if x_24 = true then
  (
   F.bignum_Int_SetString_K9 x_12 a0_0 a0_1 x_13 2
  ) else (
   if (x_19 == 111) = true then
   (
    F.bignum_Int_SetString_K12 x_12 a0_0 a0_1 x_13 (x_19 == 111)
   ) else (
    F.bignum_Int_SetString_K12 x_12 a0_0 a0_1 x_13 (x_19 == 79)
   )
  )
noncomputable def F.bignum_Int_SetString_K10 (x_19 : UInt8) (x_12 : List UInt8) (a0_0 : Bool) (a0_1 : List UInt32) (x_13 : Bool) : Bool → Option (Bool × Bool × List UInt32)
 | x_21 =>
  if x_21 = true then
  (
   F.bignum_Int_SetString_K9 x_12 a0_0 a0_1 x_13 16
  ) else (
   if (x_19 == 98) = true then
   (
    F.bignum_Int_SetString_K11 x_19 x_12 a0_0 a0_1 x_13 (x_19 == 98)
   ) else (
    F.bignum_Int_SetString_K11 x_19 x_12 a0_0 a0_1 x_13 (x_19 == 66)
   )
  )
noncomputable def F.bignum_Int_SetString_K8 (x_12 : List UInt8) (a0_0 : Bool) (a0_1 : List UInt32) (x_13 : Bool) : Bool → Option (Bool × Bool × List UInt32)
 | x_17 =>
  if x_17 = true then
  (
   obind (getO x_12 (1 : Int)) fun x_19 =>
   if (x_19 == 120) = true then
   (
    F.bignum_Int_SetString_K10 x_19 x_12 a0_0 a0_1 x_13 (x_19 == 120)
   ) else (
    F.bignum_Int_SetString_K10 x_19 x_12 a0_0 a0_1 x_13 (x_19 == 88)
   )
  ) else (
   F.bignum_Int_SetString_K2 a0_0 a0_1 x_13 (x_12, 10)
  )
noncomputable def F.bignum_Int_SetString_K1 (a2 : Int) (a0_0 : Bool) (a0_1 : List UInt32) : List UInt8 × Bool → Option (Bool × Bool × List UInt32)
 | (x_12, x_13) =>
  if (a2 == 0) = true then
  (
   if (decide ((2 : Int) < (x_12.length : Int))) = true then
   (
    obind (getO x_12 (0 : Int)) fun x_16 =>
    F.bignum_Int_SetString_K8 x_12 a0_0 a0_1 x_13 (x_16 == 48)
   ) else (
    F.bignum_Int_SetString_K8 x_12 a0_0 a0_1 x_13 false
   )
  ) else (
   F.bignum_Int_SetString_K2 a0_0 a0_1 x_13 (x_12, a2)
  )
noncomputable def F.bignum_Int_SetString_K13 (a1 : List UInt8) (a2 : Int) (a0_0 : Bool) (a0_1 : List UInt32) : Bool → Option (Bool × Bool × List UInt32)
 | x_7 =>
  if x_7 = true then
  (
   obind (getO a1 (0 : Int)) fun x_9 =>
   obind (drO a1 (1 : Int)) fun x_10 =>
   F.bignum_Int_SetString_K1 a2 a0_0 a0_1 (x_10, x_9 == 45)
  ) else (
   F.bignum_Int_SetString_K1 a2 a0_0 a0_1 (a1, false)
  )
noncomputable def F.bignum_Int_SetString (a0_0 : Bool) (a0_1 : List UInt32) (a1 : List UInt8) (a2 : Int) : Option (Bool × Bool × List UInt32) :=
 if (decide ((0 : Int) < (a1.length : Int))) = true then
 (
  obind (getO a1 (0 : Int)) fun x_4 =>
  if (x_4 == 45) = true then
  (
   F.bignum_Int_SetString_K13 a1 a2 a0_0 a0_1 true
  ) else (
   obind (getO a1 (0 : Int)) fun x_6 =>
   F.bignum_Int_SetString_K13 a1 a2 a0_0 a0_1 (x_6 == 43)
  )
 ) else (
  F.bignum_Int_SetString_K13 a1 a2 a0_0 a0_1 false
 )
noncomputable def F.bignum_Int_Sign (a0_0 : Bool) (a0_1 : List UInt32) : Option (Int) :=
 if ((a0_1.length : Int) == 0) = true then
 (
  some 0
 ) else (
  if a0_0 = true then
  (
   some (-1)
  ) else (
   some 1
  )
 )
noncomputable def F.bignum_Int_Mul (a0_0 : Bool) (a0_1 : List UInt32) (a1_0 : Bool) (a1_1 : List UInt32) (a2_0 : Bool) (a2_1 : List UInt32) : Option (Bool × List UInt32) :=
 obind (F.bignum_mul a1_1 a2_1) fun x_3 =>
 obind (F.bignum_Int_give a0_0 a0_1 (a1_0 != a2_0) x_3) fun x_6 =>
 some (x_6.1, x_6.2)
noncomputable def F.bignum_twin (a0 : List UInt32) : Option (List UInt32) :=
 obind (apO 4 [] a0) fun x_1 =>
 some x_1
noncomputable def F.bignum_Int_Set (a0_0 : Bool) (a0_1 : List UInt32) (a1_0 : Bool) (a1_1 : List UInt32) : Option (Bool × List UInt32) :=
 obind (F.bignum_twin a1_1) fun x_3 =>
 obind (F.bignum_Int_give a0_0 a0_1 a1_0 x_3) fun x_6 =>
 some (x_6.1, x_6.2)
noncomputable def F.bignum_cmp_L1 (a0 : List UInt32) (a1 : List UInt32) : Int → Option ((Int) ⊕ (Int))
 | x_3 =>
  if (decide ((0 : Int) ≤ x_3)) = true then
  (
   obind (getO a0 (x_3 : Int)) fun x_7 =>
   obind (getO a1 (x_3 : Int)) fun x_8 =>
   if (x_7 != x_8) = true then
   (
    obind (getO a0 (x_3 : Int)) fun x_9 =>
    obind (getO a1 (x_3 : Int)) fun x_10 =>
    if (decide (x_9 < x_10)) = true then
    (
     oinr (
      some (-1)
     )
    ) else (
     oinr (
      some 1
     )
    )
   ) else (
    oinl (wI (x_3 - 1))
   )
  ) else (
   oinr (
    some 0
   )
  )
noncomputable def F.bignum_cmp (a0 : List UInt32) (a1 : List UInt32) : Option (Int) :=
 if ((a0.length : Int) != (a1.length : Int)) = true then
 (
  if (decide ((a0.length : Int) < (a1.length : Int))) = true then
  (
   some (-1)
  ) else (
   some 1
  )
 ) else (
  olet (wI ((a0.length : Int) - 1)) fun x_2 =>
  loop (F.bignum_cmp_L1 a0 a1) x_2
 )
noncomputable def F.bignum_plain_K2  : UInt64 → Option (UInt64)
 | x_8 =>
  some x_8
noncomputable def F.bignum_plain_K1 (a0 : List UInt32) : UInt64 → Option (UInt64)
 | x_3 =>
  if (decide ((1 : Int) < (a0.length : Int))) = true then
  (
   obind (getO a0 (1 : Int)) fun x_5 =>
   olet (x_3 ||| (shl64 x_5.toUInt64 32)) fun x_6 =>
   F.bignum_plain_K2 x_6
  ) else (
   F.bignum_plain_K2 x_3
  )
noncomputable def F.bignum_plain (a0 : List UInt32) : Option (UInt64) :=
 if (decide ((0 : Int) < (a0.length : Int))) = true then
 (
  obind (getO a0 (0 : Int)) fun x_1 =>
  F.bignum_plain_K1 a0 x_1.toUInt64
 ) else (
  F.bignum_plain_K1 a0 0
 )
noncomputable def F.bignum_small_L1 (a0 : List UInt32) (a1 : UInt32) : UInt64 × Int × List UInt32 → Option ((UInt64 × Int × List UInt32) ⊕ (List UInt32 × UInt32))
 | (x_5, x_6, x_7) =>
  if (decide ((0 : Int) ≤ x_6)) = true then
  (
   obind (getO a0 (x_6 : Int)) fun x_11 =>
   olet ((shl64 x_5 32) ||| x_11.toUInt64) fun x_12 =>
   grd (¬ a1.toUInt64 = 0) <|
   obind (getO x_7 (x_6 : Int)) fun x_14 =>
   olet (x_7.set (x_6 : Int).toNat ((x_12 / a1.toUInt64).toUInt32)) fun x_15 =>
   grd (¬ a1.toUInt64 = 0) <|
   oinl (x_12 % a1.toUInt64, wI (x_6 - 1), x_15)
  ) else (
   oinr (
    obind (F.bignum_trim x_7) fun x_17 =>
    some (x_17, x_5.toUInt32)
   )
  )
noncomputable def F.bignum_small (a0 : List UInt32) (a1 : UInt32) : Option (List UInt32 × UInt32) :=
 obind (mkO 4 ((a0.length : Int) : Int) ((a0.length : Int) : Int) (0 : UInt32)) fun x_1 =>
 olet (wI ((a0.length : Int) - 1)) fun x_4 =>
 loop (F.bignum_small_L1 a0 a1) (0, x_4, x_1)
noncomputable def F.bignum_length_L1 (a0 : List UInt32) : Int × UInt32 → Option ((Int × UInt32) ⊕ (Int))
 | (x_2, x_3) =>
  if (x_3 != 0) = true then
  (
   oinl (wI (x_2 + 1), shr32 x_3 1)
  ) else (
   oinr (
    some (wI ((wI ((wI ((a0.length : Int) - 1)) * 32)) + x_2))
   )
  )
noncomputable def F.bignum_length (a0 : List UInt32) : Option (Int) :=
 if ((a0.length : Int) == 0) = true then
 (
  some 0
 ) else (
  obind (getO a0 (wI ((a0.length : Int) - 1) : Int)) fun x_1 =>
  loop (F.bignum_length_L1 a0) (0, x_1)
 )
noncomputable def F.bignum_left_L1 (a0 : List UInt32) (a1 : UInt64) (x_1 : Int) : Int × List UInt32 → Option ((Int × List UInt32) ⊕ (List UInt32))
 | (x_5, x_6) =>
  if (decide (x_5 < (a0.length : Int))) = true then
  (
   obind (getO a0 (x_5 : Int)) fun x_10 =>
   olet (shl64 x_10.toUInt64 ((a1 % 32).toNat)) fun x_11 =>
   obind (getO x_6 (wI (x_5 + x_1) : Int)) fun x_12 =>
   obind (getO x_6 (wI (x_5 + x_1) : Int)) fun x_13 =>
   olet (x_6.set (wI (x_5 + x_1) : Int).toNat (x_12 ||| x_11.toUInt32)) fun x_14 =>
   obind (getO x_14 (wI ((wI (x_5 + x_1)) + 1) : Int)) fun x_15 =>
   obind (getO x_14 (wI ((wI (x_5 + x_1)) + 1) : Int)) fun x_16 =>
   olet (x_14.set (wI ((wI (x_5 + x_1)) + 1) : Int).toNat (x_15 ||| ((shr64 x_11 32).toUInt32))) fun x_17 =>
   oinl (wI (x_5 + 1), x_17)
  ) else (
   oinr (
    obind (F.bignum_trim x_6) fun x_18 =>
    some x_18
   )
  )
noncomputable def F.bignum_left (a0 : List UInt32) (a1 : UInt64) : Option (List UInt32) :=
 if ((a0.length : Int) == 0) = true then
 (
  some []
 ) else (
  olet (wI ((a1 / 32).toNat : Int)) fun x_1 =>
  obind (mkO 4 (wI ((wI ((a0.length : Int) + x_1)) + 1) : Int) (wI ((wI ((a0.length : Int) + x_1)) + 1) : Int) (0 : UInt32)) fun x_2 =>
  loop (F.bignum_left_L1 a0 a1 x_1) (0, x_2)
 )
noncomputable def F.bignum_right_K1 (a1 : UInt64) (x_5 : Int) (x_6 : List UInt32) : UInt64 → Option ((Int × List UInt32) ⊕ (List UInt32))
 | x_14 =>
  obind (getO x_6 (x_5 : Int)) fun x_16 =>
  olet (x_6.set (x_5 : Int).toNat ((shr64 x_14 ((a1 % 32).toNat)).toUInt32)) fun x_17 =>
  oinl (wI (x_5 + 1), x_17)
noncomputable def F.bignum_right_L1 (a0 : List UInt32) (x_1 : Int) (a1 : UInt64) : Int × List UInt32 → Option ((Int × List UInt32) ⊕ (List UInt32))
 | (x_5, x_6) =>
  if (decide (x_5 < (x_6.length : Int))) = true then
  (
   obind (getO a0 (wI (x_5 + x_1) : Int)) fun x_10 =>
   if (decide ((wI ((wI (x_5 + x_1)) + 1)) < (a0.length : Int))) = true then
   (
    obind (getO a0 (wI ((wI (x_5 + x_1)) + 1) : Int)) fun x_11 =>
    olet (x_10.toUInt64 ||| (shl64 x_11.toUInt64 32)) fun x_12 =>
    F.bignum_right_K1 a1 x_5 x_6 x_12
   ) else (
    F.bignum_right_K1 a1 x_5 x_6 x_10.toUInt64
   )
  ) else (
   oinr (
    obind (F.bignum_trim x_6) fun x_18 =>
    some x_18
   )
  )
noncomputable def F.bignum_right (a0 : List UInt32) (a1 : UInt64) : Option (List UInt32) :=
 olet (wI ((a1 / 32).toNat : Int)) fun x_1 =>
 if (decide ((a0.length : Int) ≤ x_1)) = true then
 (
  some []
 ) else (
  obind (mkO 4 (wI ((a0.length : Int) - x_1) : Int) (wI ((a0.length : Int) - x_1) : Int) (0 : UInt32)) fun x_2 =>
  loop (F.bignum_right_L1 a0 x_1 a1) (0, x_2)
 )
noncomputable def F.bignum_div_K2 (x_42 : Int) (x_44 : List UInt32) : UInt64 × List UInt32 → Option ((Int × List UInt32 × List UInt32) ⊕ (List UInt32 × List UInt32))
 | (x_101, x_102) =>
  obind (getO x_44 (x_42 : Int)) fun x_104 =>
  olet (x_44.set (x_42 : Int).toNat x_101.toUInt32) fun x_105 =>
  oinl (wI (x_42 - 1), x_102, x_105)
noncomputable def F.bignum_div_L3 (x_26 : List UInt32) (x_42 : Int) (x_65 : UInt64) (x_44 : List UInt32) : UInt64 × Int × List UInt32 → Option ((UInt64 × Int × List UInt32) ⊕ ((Int × List UInt32 × List UInt32) ⊕ (List UInt32 × List UInt32)))
 | (x_84, x_85, x_86) =>
  if (decide (x_85 < (x_26.length : Int))) = true then
  (
   obind (getO x_86 (wI (x_85 + x_42) : Int)) fun x_90 =>
   obind (getO x_26 (x_85 : Int)) fun x_91 =>
   olet (x_84 + (x_90.toUInt64 + x_91.toUInt64)) fun x_92 =>
   obind (getO x_86 (wI (x_85 + x_42) : Int)) fun x_93 =>
   olet (x_86.set (wI (x_85 + x_42) : Int).toNat x_92.toUInt32) fun x_94 =>
   oinl (shr64 x_92 32, wI (x_85 + 1), x_94)
  ) else (
   oinr (
    obind (getO x_86 (wI (x_42 + (x_26.length : Int)) : Int)) fun x_95 =>
    obind (getO x_86 (wI (x_42 + (x_26.length : Int)) : Int)) fun x_96 =>
    olet (x_86.set (wI (x_42 + (x_26.length : Int)) : Int).toNat (x_95 + x_84.toUInt32)) fun x_97 =>
    F.bignum_div_K2 x_42 x_44 (x_65 - 1, x_97)
   )
  )
noncomputable def F.bignum_div_L2 (x_26 : List UInt32) (x_42 : Int) (x_65 : UInt64) (x_44 : List UInt32) : UInt64 × UInt64 × Int × List UInt32 → Option ((UInt64 × UInt64 × Int × List UInt32) ⊕ ((Int × List UInt32 × List UInt32) ⊕ (List UInt32 × List UInt32)))
 | (x_67, x_68, x_69, x_70) =>
  if (decide (x_69 < (x_26.length : Int))) = true then
  (
   obind (getO x_26 (x_69 : Int)) fun x_74 =>
   olet (x_67 + (x_65 * x_74.toUInt64)) fun x_75 =>
   obind (getO x_70 (wI (x_69 + x_42) : Int)) fun x_76 =>
   olet ((x_76.toUInt64 - x_75.toUInt32.toUInt64) - x_68) fun x_77 =>
   obind (getO x_70 (wI (x_69 + x_42) : Int)) fun x_78 =>
   olet (x_70.set (wI (x_69 + x_42) : Int).toNat x_77.toUInt32) fun x_79 =>
   oinl (shr64 x_75 32, shr64 x_77 63, wI (x_69 + 1), x_79)
  ) else (
   oinr (
    obind (getO x_70 (wI (x_42 + (x_26.length : Int)) : Int)) fun x_80 =>
    olet ((x_80.toUInt64 - x_67) - x_68) fun x_81 =>
    obind (getO x_70 (wI (x_42 + (x_26.length : Int)) : Int)) fun x_82 =>
    olet (x_70.set (wI (x_42 + (x_26.length : Int)) : Int).toNat x_81.toUInt32) fun x_83 =>
    if ((shr64 x_81 63) != 0) = true then
    (
     loop (F.bignum_div_L3 x_26 x_42 x_65 x_44) (0, 0, x_83)
    ) else (
     F.bignum_div_K2 x_42 x_44 (x_65, x_83)
    )
   )
  )
noncomputable def F.bignum_div_K1 (x_43 : List UInt32) (x_26 : List UInt32) (x_42 : Int) (x_44 : List UInt32) : UInt64 → Option ((Int × List UInt32 × List UInt32) ⊕ (List UInt32 × List UInt32))
 | x_65 =>
  loop (F.bignum_div_L2 x_26 x_42 x_65 x_44) (0, 0, 0, x_43)
noncomputable def F.bignum_div_K3 (x_40 : UInt32) (x_53 : UInt64) (x_54 : UInt64) (x_43 : List UInt32) (x_26 : List UInt32) (x_42 : Int) (x_44 : List UInt32) : Bool → Option ((UInt64 × UInt64) ⊕ ((Int × List UInt32 × List UInt32) ⊕ (List UInt32 × List UInt32)))
 | x_60 =>
  if x_60 = true then
  (
   if (decide ((4294967295 : UInt64) < (x_54 + x_40.toUInt64))) = true then
   (
    oinr (
     F.bignum_div_K1 x_43 x_26 x_42 x_44 (x_53 - 1)
    )
   ) else (
    oinl (x_53 - 1, x_54 + x_40.toUInt64)
   )
  ) else (
   oinr (
    F.bignum_div_K1 x_43 x_26 x_42 x_44 x_53
   )
  )
noncomputable def F.bignum_div_L4 (x_26 : List UInt32) (x_41 : UInt32) (x_42 : Int) (x_43 : List UInt32) (x_40 : UInt32) (x_44 : List UInt32) : UInt64 × UInt64 → Option ((UInt64 × UInt64) ⊕ ((Int × List UInt32 × List UInt32) ⊕ (List UInt32 × List UInt32)))
 | (x_53, x_54) =>
  if (decide ((4294967295 : UInt64) < x_53)) = true then
  (
   F.bignum_div_K3 x_40 x_53 x_54 x_43 x_26 x_42 x_44 true
  ) else (
   obind (getO x_43 (wI ((wI (x_42 + (x_26.length : Int))) - 2) : Int)) fun x_59 =>
   F.bignum_div_K3 x_40 x_53 x_54 x_43 x_26 x_42 x_44 (decide (((shl64 x_54 32) ||| x_59.toUInt64) < (x_53 * x_41.toUInt64)))
  )
noncomputable def F.bignum_div_L1 (x_25 : UInt64) (x_26 : List UInt32) (x_40 : UInt32) (x_41 : UInt32) : Int × List UInt32 × List UInt32 → Option ((Int × List UInt32 × List UInt32) ⊕ (List UInt32 × List UInt32))
 | (x_42, x_43, x_44) =>
  if (decide ((0 : Int) ≤ x_42)) = true then
  (
   obind (getO x_43 (wI (x_42 + (x_26.length : Int)) : Int)) fun x_48 =>
   obind (getO x_43 (wI ((wI (x_42 + (x_26.length : Int))) - 1) : Int)) fun x_49 =>
   olet ((shl64 x_48.toUInt64 32) ||| x_49.toUInt64) fun x_50 =>
   grd (¬ x_40.toUInt64 = 0) <|
   grd (¬ x_40.toUInt64 = 0) <|
   loop (F.bignum_div_L4 x_26 x_41 x_42 x_43 x_40 x_44) (x_50 / x_40.toUInt64, x_50 % x_40.toUInt64)
  ) else (
   oinr (
    obind (F.bignum_trim x_44) fun x_108 =>
    obind (F.bignum_trim x_43) fun x_111 =>
    obind (F.bignum_right x_111 x_25) fun x_114 =>
    some (x_108, x_114)
   )
  )
noncomputable def F.bignum_div (a0 : List UInt32) (a1 : List UInt32) : Option (List UInt32 × List UInt32) :=
 if ((a1.length : Int) == 0) = true then
 (
  some ([], [])
 ) else (
  obind (F.bignum_cmp a0 a1) fun x_1 =>
  if (decide (x_1 < 0)) = true then
  (
   obind (F.bignum_twin a0) fun x_2 =>
   some ([], x_2)
  ) else (
   if (decide ((a0.length : Int) ≤ 2)) = true then
   (
    obind (F.bignum_plain a0) fun x_5 =>
    obind (F.bignum_plain a1) fun x_6 =>
    grd (¬ x_6 = 0) <|
    obind (F.bignum_words (x_5 / x_6)) fun x_8 =>
    grd (¬ x_6 = 0) <|
    obind (F.bignum_words (x_5 % x_6)) fun x_12 =>
    some (x_8, x_12)
   ) else (
    if ((a1.length : Int) == 1) = true then
    (
     obind (getO a1 (0 : Int)) fun x_15 =>
     obind (F.bignum_small a0 x_15) fun x_16 =>
     obind (F.bignum_trim ([x_16.2] : List UInt32)) fun x_21 =>
     some (x_16.1, x_21)
    ) else (
     obind (F.bignum_length a1) fun x_24 =>
     olet (UInt64.ofInt (wI ((wI (32 - (Int.tmod (wI (x_24 - 1)) 32))) - 1))) fun x_25 =>
     obind (F.bignum_left a1 x_25) fun x_26 =>
     obind (mkO 4 (wI ((a0.length : Int) + 2) : Int) (wI ((a0.length : Int) + 2) : Int) (0 : UInt32)) fun x_29 =>
     obind (F.bignum_left a0 x_25) fun x_32 =>
     olet (cpL x_29 x_32 0 x_29.length) fun x_35 =>
     olet (wI ((wI ((x_35.length : Int) - (x_26.length : Int))) - 1)) fun x_36 =>
     obind (mkO 4 (wI (x_36 + 1) : Int) (wI (x_36 + 1) : Int) (0 : UInt32)) fun x_37 =>
     obind (getO x_26 (wI ((x_26.length : Int) - 1) : Int)) fun x_40 =>
     obind (getO x_26 (wI ((x_26.length : Int) - 2) : Int)) fun x_41 =>
     loop (F.bignum_div_L1 x_25 x_26 x_40 x_41) (x_36, x_35, x_37)
    )
   )
  )
 )
noncomputable def F.bignum_Int_QuoRem (a0_0 : Bool) (a0_1 : List UInt32) (a1_0 : Bool) (a1_1 : List UInt32) (a2_0 : Bool) (a2_1 : List UInt32) (a3_0 : Bool) (a3_1 : List UInt32) : Option (Bool × List UInt32 × Bool × List UInt32) :=
 obind (F.bignum_div a1_1 a2_1) fun x_5 =>
 obind (F.bignum_Int_give a0_0 a0_1 (a1_0 != a2_0) x_5.1) fun x_10 =>
 obind (F.bignum_Int_give a3_0 a3_1 a1_0 x_5.2) fun x_13 =>
 some (x_10.1, x_10.2, x_13.1, x_13.2)
noncomputable def F.bignum_Int_QuoRem_a13 (a0_0 : Bool) (a0_1 : List UInt32) (a2_0 : Bool) (a2_1 : List UInt32) (a3_0 : Bool) (a3_1 : List UInt32) : Option (Bool × List UInt32 × Bool × List UInt32) :=
 obind (F.bignum_div a3_1 a2_1) fun x_5 =>
 obind (F.bignum_Int_give a0_0 a0_1 (a3_0 != a2_0) x_5.1) fun x_10 =>
 obind (F.bignum_Int_give a3_0 a3_1 a3_0 x_5.2) fun x_13 =>
 some (x_10.1, x_10.2, x_13.1, x_13.2)
noncomputable def F.bignum_Int_QuoRem_a10 (a0_0 : Bool) (a0_1 : List UInt32) (a2_0 : Bool) (a2_1 : List UInt32) (a3_0 : Bool) (a3_1 : List UInt32) : Option (Bool × List UInt32 × Bool × List UInt32) :=
 obind (F.bignum_div a0_1 a2_1) fun x_5 =>
 obind (F.bignum_Int_give a0_0 a0_1 (a0_0 != a2_0) x_5.1) fun x_10 =>
 obind (F.bignum_Int_give a3_0 a3_1 a0_0 x_5.2) fun x_13 =>
 some (x_10.1, x_10.2, x_13.1, x_13.2)
noncomputable def F.bignum_Int_SetInt64_K1 (a0_0 : Bool) (a0_1 : List UInt32) (a1 : Int) : UInt64 → Option (Bool × List UInt32)
 | x_4 =>
  obind (F.bignum_words x_4) fun x_6 =>
  obind (F.bignum_Int_give a0_0 a0_1 (decide (a1 < 0)) x_6) fun x_9 =>
  some (x_9.1, x_9.2)
noncomputable def F.bignum_Int_SetInt64 (a0_0 : Bool) (a0_1 : List UInt32) (a1 : Int) : Option (Bool × List UInt32) :=
 if (decide (a1 < 0)) = true then
 (
  F.bignum_Int_SetInt64_K1 a0_0 a0_1 a1 (0 - (UInt64.ofInt a1))
 ) else (
  F.bignum_Int_SetInt64_K1 a0_0 a0_1 a1 (UInt64.ofInt a1)
 )
noncomputable def F.bignum_NewInt (a0 : Int) : Option (Bool × List UInt32) :=
 obind (F.bignum_Int_SetInt64 false [] a0) fun x_4 =>
 some (x_4.1, x_4.2)
noncomputable def F.bignum_sub_K1 (x_5 : Int) (x_6 : List UInt32) : UInt64 → Option ((UInt64 × Int × List UInt32) ⊕ (List UInt32))
 | x_14 =>
  obind (getO x_6 (x_5 : Int)) fun x_16 =>
  olet (x_6.set (x_5 : Int).toNat x_14.toUInt32) fun x_17 =>
  oinl (shr64 x_14 63, wI (x_5 + 1), x_17)
noncomputable def F.bignum_sub_L1 (a0 : List UInt32) (a1 : List UInt32) : UInt64 × Int × List UInt32 → Option ((UInt64 × Int × List UInt32) ⊕ (List UInt32))
 | (x_4, x_5, x_6) =>
  if (decide (x_5 < (a0.length : Int))) = true then
  (
   obind (getO a0 (x_5 : Int)) fun x_10 =>
   if (decide (x_5 < (a1.length : Int))) = true then
   (
    obind (getO a1 (x_5 : Int)) fun x_11 =>
    olet ((x_10.toUInt64 - x_4) - x_11.toUInt64) fun x_12 =>
    F.bignum_sub_K1 x_5 x_6 x_12
   ) else (
    F.bignum_sub_K1 x_5 x_6 (x_10.toUInt64 - x_4)
   )
  ) else (
   oinr (
    obind (F.bignum_trim x_6) fun x_18 =>
    some x_18
   )
  )
noncomputable def F.bignum_sub (a0 : List UInt32) (a1 : List UInt32) : Option (List UInt32) :=
 obind (mkO 4 ((a0.length : Int) : Int) ((a0.length : Int) : Int) (0 : UInt32)) fun x_1 =>
 loop (F.bignum_sub_L1 a0 a1) (0, 0, x_1)
noncomputable def F.bignum_sum (a0 : Bool) (a1 : List UInt32) (a2 : Bool) (a3 : List UInt32) : Option (Bool × List UInt32) :=
 if (a0 == a2) = true then
 (
  obind (F.bignum_add a1 a3) fun x_1 =>
  some (a0, x_1)
 ) else (
  obind (F.bignum_cmp a1 a3) fun x_4 =>
  if (decide ((0 : Int) ≤ x_4)) = true then
  (
   obind (F.bignum_sub a1 a3) fun x_5 =>
   some (a0, x_5)
  ) else (
   obind (F.bignum_sub a3 a1) fun x_8 =>
   some (a2, x_8)
  )
 )
noncomputable def F.bignum_Int_Add (a0_0 : Bool) (a0_1 : List UInt32) (a1_0 : Bool) (a1_1 : List UInt32) (a2_0 : Bool) (a2_1 : List UInt32) : Option (Bool × List UInt32) :=
 obind (F.bignum_sum a1_0 a1_1 a2_0 a2_1) fun x_3 =>
 obind (F.bignum_Int_give a0_0 a0_1 x_3.1 x_3.2) fun x_6 =>
 some (x_6.1, x_6.2)
noncomputable def F.bignum_Int_Add_a10 (a0_0 : Bool) (a0_1 : List UInt32) (a2_0 : Bool) (a2_1 : List UInt32) : Option (Bool × List UInt32) :=
 obind (F.bignum_sum a0_0 a0_1 a2_0 a2_1) fun x_3 =>
 obind (F.bignum_Int_give a0_0 a0_1 x_3.1 x_3.2) fun x_6 =>
 some (x_6.1, x_6.2)
noncomputable def F.bignum_Int_Sub (a0_0 : Bool) (a0_1 : List UInt32) (a1_0 : Bool) (a1_1 : List UInt32) (a2_0 : Bool) (a2_1 : List UInt32) : Option (Bool × List UInt32) :=
 obind (F.bignum_sum a1_0 a1_1 (!a2_0) a2_1) fun x_3 =>
 obind (F.bignum_Int_give a0_0 a0_1 x_3.1 x_3.2) fun x_6 =>
 some (x_6.1, x_6.2)
noncomputable def F.bignum_Int_Sub_a10 (a0_0 : Bool) (a0_1 : List UInt32) (a2_0 : Bool) (a2_1 : List UInt32) : Option (Bool × List UInt32) :=
 obind (F.bignum_sum a0_0 a0_1 (!a2_0) a2_1) fun x_3 =>
 obind (F.bignum_Int_give a0_0 a0_1 x_3.1 x_3.2) fun x_6 =>
 some (x_6.1, x_6.2)
noncomputable def F.bignum_Int_Sub_a20 (a0_0 : Bool) (a0_1 : List UInt32) (a1_0 : Bool) (a1_1 : List UInt32) : Option (Bool × List UInt32) :=
 obind (F.bignum_sum a1_0 a1_1 (!a0_0) a0_1) fun x_3 =>
 obind (F.bignum_Int_give a0_0 a0_1 x_3.1 x_3.2) fun x_6 =>
 some (x_6.1, x_6.2)
noncomputable def F.bignum_Int_DivMod_K1  : Bool × List UInt32 × Bool × List UInt32 → Option (Bool × List UInt32 × Bool × List UInt32)
 | (x_40, x_41, x_44, x_45) =>
  some (x_40, x_41, x_44, x_45)
noncomputable def F.bignum_Int_DivMod (a0_0 : Bool) (a0_1 : List UInt32) (a1_0 : Bool) (a1_1 : List UInt32) (a2_0 : Bool) (a2_1 : List UInt32) (a3_0 : Bool) (a3_1 : List UInt32) : Option (Bool × List UInt32 × Bool × List UInt32) :=
 obind (F.bignum_Int_Set false [] a2_0 a2_1) fun x_8 =>
 obind (F.bignum_Int_QuoRem a0_0 a0_1 a1_0 a1_1 a2_0 a2_1 a3_0 a3_1) fun x_11 =>
 if x_11.2.2.1 = true then
 (
  if x_8.1 = true then
  (
   obind (F.bignum_NewInt 1) fun x_16 =>
   obind (F.bignum_Int_Add_a10 x_11.1 x_11.2.1 x_16.1 x_16.2) fun x_21 =>
   obind (F.bignum_Int_Sub_a10 x_11.2.2.1 x_11.2.2.2 x_8.1 x_8.2) fun x_24 =>
   F.bignum_Int_DivMod_K1 (x_21.1, x_21.2, x_24.1, x_24.2)
  ) else (
   obind (F.bignum_NewInt 1) fun x_27 =>
   obind (F.bignum_Int_Sub_a10 x_11.1 x_11.2.1 x_27.1 x_27.2) fun x_32 =>
   obind (F.bignum_Int_Add_a10 x_11.2.2.1 x_11.2.2.2 x_8.1 x_8.2) fun x_35 =>
   F.bignum_Int_DivMod_K1 (x_32.1, x_32.2, x_35.1, x_35.2)
  )
 ) else (
  F.bignum_Int_DivMod_K1 (x_11.1, x_11.2.1, x_11.2.2.1, x_11.2.2.2)
 )
noncomputable def F.bignum_Int_DivMod_a13_K1  : Bool × List UInt32 × Bool × List UInt32 → Option (Bool × List UInt32 × Bool × List UInt32)
 | (x_40, x_41, x_44, x_45) =>
  some (x_40, x_41, x_44, x_45)
noncomputable def F.bignum_Int_DivMod_a13 (a0_0 : Bool) (a0_1 : List UInt32) (a2_0 : Bool) (a2_1 : List UInt32) (a3_0 : Bool) (a3_1 : List UInt32) : Option (Bool × List UInt32 × Bool × List UInt32) :=
 obind (F.bignum_Int_Set false [] a2_0 a2_1) fun x_8 =>
 obind (F.bignum_Int_QuoRem_a13 a0_0 a0_1 a2_0 a2_1 a3_0 a3_1) fun x_11 =>
 if x_11.2.2.1 = true then
 (
  if x_8.1 = true then
  (
   obind (F.bignum_NewInt 1) fun x_16 =>
   obind (F.bignum_Int_Add_a10 x_11.1 x_11.2.1 x_16.1 x_16.2) fun x_21 =>
   obind (F.bignum_Int_Sub_a10 x_11.2.2.1 x_11.2.2.2 x_8.1 x_8.2) fun x_24 =>
   F.bignum_Int_DivMod_a13_K1 (x_21.1, x_21.2, x_24.1, x_24.2)
  ) else (
   obind (F.bignum_NewInt 1) fun x_27 =>
   obind (F.bignum_Int_Sub_a10 x_11.1 x_11.2.1 x_27.1 x_27.2) fun x_32 =>
   obind (F.bignum_Int_Add_a10 x_11.2.2.1 x_11.2.2.2 x_8.1 x_8.2) fun x_35 =>
   F.bignum_Int_DivMod_a13_K1 (x_32.1, x_32.2, x_35.1, x_35.2)
  )
 ) else (
  F.bignum_Int_DivMod_a13_K1 (x_11.1, x_11.2.1, x_11.2.2.1, x_11.2.2.2)
 )
noncomputable def F.bignum_Int_Mod (a0_0 : Bool) (a0_1 : List UInt32) (a1_0 : Bool) (a1_1 : List UInt32) (a2_0 : Bool) (a2_1 : List UInt32) : Option (Bool × List UInt32) :=
 obind (F.bignum_Int_DivMod false [] a1_0 a1_1 a2_0 a2_1 a0_0 a0_1) fun x_6 =>
 some (x_6.2.2.1, x_6.2.2.2)
noncomputable def F.bignum_Int_Mod_a10 (a0_0 : Bool) (a0_1 : List UInt32) (a2_0 : Bool) (a2_1 : List UInt32) : Option (Bool × List UInt32) :=
 obind (F.bignum_Int_DivMod_a13 false [] a2_0 a2_1 a0_0 a0_1) fun x_6 =>
 some (x_6.2.2.1, x_6.2.2.2)
noncomputable def F.bignum_Int_SetBytes_L1 (a0_0 : Bool) (a0_1 : List UInt32) (a1 : List UInt8) : List UInt32 × Int → Option ((List UInt32 × Int) ⊕ (Bool × List UInt32))
 | (x_3, x_6) =>
  if (decide (x_6 < (a1.length : Int))) = true then
  (
   obind (F.bignum_left x_3 8) fun x_10 =>
   obind (getO a1 (x_6 : Int)) fun x_13 =>
   obind (F.bignum_words x_13.toUInt64) fun x_14 =>
   obind (F.bignum_add x_10 x_14) fun x_17 =>
   oinl (x_17, wI (x_6 + 1))
  ) else (
   oinr (
    obind (F.bignum_Int_give a0_0 a0_1 false x_3) fun x_20 =>
    some (x_20.1, x_20.2)
   )
  )
noncomputable def F.bignum_Int_SetBytes (a0_0 : Bool) (a0_1 : List UInt32) (a1 : List UInt8) : Option (Bool × List UInt32) :=
 loop (F.bignum_Int_SetBytes_L1 a0_0 a0_1 a1) ([], 0)
noncomputable def F.bignum_Int_Cmp (a0_0 : Bool) (a0_1 : List UInt32) (a1_0 : Bool) (a1_1 : List UInt32) : Option (Int) :=
 if (a0_0 != a1_0) = true then
 (
  if a0_0 = true then
  (
   some (-1)
  ) else (
   some 1
  )
 ) else (
  obind (F.bignum_cmp a0_1 a1_1) fun x_2 =>
  if a0_0 = true then
  (
   some (wI (0 - x_2))
  ) else (
   some x_2
  )
 )
noncomputable def F.bignum_Int_Bytes_L1 (a0_1 : List UInt32) (x_2 : Int) : Int × List UInt8 → Option ((Int × List UInt8) ⊕ (List UInt8))
 | (x_6, x_7) =>
  if (decide (x_6 < x_2)) = true then
  (
   obind (getO a0_1 (wI (Int.tdiv x_6 4) : Int)) fun x_11 =>
   obind (getO x_7 (wI ((wI (x_2 - 1)) - x_6) : Int)) fun x_12 =>
   olet (x_7.set (wI ((wI (x_2 - 1)) - x_6) : Int).toNat ((shr32 x_11 ((8 * ((UInt64.ofInt x_6) % 4)).toNat)).toUInt8)) fun x_13 =>
   oinl (wI (x_6 + 1), x_13)
  ) else (
   oinr (
    some x_7
   )
  )
noncomputable def F.bignum_Int_Bytes (a0_0 : Bool) (a0_1 : List UInt32) : Option (List UInt8) :=
 obind (F.bignum_length a0_1) fun x_1 =>
 olet (wI (Int.tdiv (wI (x_1 + 7)) 8)) fun x_2 =>
 obind (mkO 1 (x_2 : Int) (x_2 : Int) (0 : UInt8)) fun x_3 =>
 loop (F.bignum_Int_Bytes_L1 a0_1 x_2) (0, x_3)
noncomputable def F.bignum_Int_Abs (a0_0 : Bool) (a0_1 : List UInt32) (a1_0 : Bool) (a1_1 : List UInt32) : Option (Bool × List UInt32) :=
 obind (F.bignum_twin a1_1) fun x_3 =>
 obind (F.bignum_Int_give a0_0 a0_1 false x_3) fun x_6 =>
 some (x_6.1, x_6.2)
noncomputable def F.bignum_Int_BitLen (a0_0 : Bool) (a0_1 : List UInt32) : Option (Int) :=
 obind (F.bignum_length a0_1) fun x_1 =>
 some x_1
noncomputable def F.bignum_bit_K1 (a0 : List UInt32) (a1 : Int) : Bool → Option (UInt64)
 | x_2 =>
  if x_2 = true then
  (
   some 0
  ) else (
   obind (getO a0 (wI (Int.tdiv a1 32) : Int)) fun x_4 =>
   some (((shr32 x_4 (((UInt64.ofInt a1) % 32).toNat)).toUInt64) &&& 1)
  )
noncomputable def F.bignum_bit (a0 : List UInt32) (a1 : Int) : Option (UInt64) :=
 if (decide (a1 < 0)) = true then
 (
  F.bignum_bit_K1 a0 a1 true
 ) else (
  F.bignum_bit_K1 a0 a1 (decide ((a0.length : Int) ≤ (wI (Int.tdiv a1 32))))
 )
noncomputable def F.bignum_Int_Bit (a0_0 : Bool) (a0_1 : List UInt32) (a1 : Int) : Option (UInt64) :=
 if (decide (a1 < 0)) = true then
 (
  some 0
 ) else (
  if (!a0_0) = true then
  (
   obind (F.bignum_bit a0_1 a1) fun x_1 =>
   some x_1
  ) else (
   obind (F.bignum_sub a0_1 ([1] : List UInt32)) fun x_4 =>
   obind (F.bignum_bit x_4 a1) fun x_7 =>
   some (x_7 ^^^ 1)
  )
 )
noncomputable def F.bignum_Int_Quo_a10 (a0_0 : Bool) (a0_1 : List UInt32) (a2_0 : Bool) (a2_1 : List UInt32) : Option (Bool × List UInt32) :=
 obind (F.bignum_Int_QuoRem_a10 a0_0 a0_1 a2_0 a2_1 false []) fun x_6 =>
 some (x_6.1, x_6.2.1)
noncomputable def F.bignum_Int_GCD_K3 (x_19 : Bool) (x_20 : List UInt32) : Bool × List UInt32 → Option (Bool × List UInt32 × Bool × List UInt32)
 | (x_33, x_34) =>
  some (x_19, x_20, x_33, x_34)
noncomputable def F.bignum_Int_GCD_K2 (a1_0 : Bool) (a1_1 : List UInt32) (a3_0 : Bool) (a3_1 : List UInt32) : Bool × List UInt32 → Option (Bool × List UInt32 × Bool × List UInt32)
 | (x_19, x_20) =>
  obind (F.bignum_Int_SetInt64 a1_0 a1_1 0) fun x_24 =>
  if ((a3_1.length : Int) != 0) = true then
  (
   obind (F.bignum_Int_SetInt64 x_24.1 x_24.2 1) fun x_27 =>
   F.bignum_Int_GCD_K3 x_19 x_20 (a3_0, x_27.2)
  ) else (
   F.bignum_Int_GCD_K3 x_19 x_20 (x_24.1, x_24.2)
  )
noncomputable def F.bignum_Int_GCD_L1 (a0_0 : Bool) (a0_1 : List UInt32) (a1_0 : Bool) (a1_1 : List UInt32) (a3_0 : Bool) (a3_1 : List UInt32) (a4_0 : Bool) (a4_1 : List UInt32) : Bool × List UInt32 × Bool × List UInt32 × Bool × List UInt32 × Bool × List UInt32 → Option ((Bool × List UInt32 × Bool × List UInt32 × Bool × List UInt32 × Bool × List UInt32) ⊕ (Bool × List UInt32 × Bool × List UInt32))
 | (x_65, x_66, x_69, x_70, x_73, x_74, x_77, x_78) =>
  if (decide ((0 : Int) < (x_70.length : Int))) = true then
  (
   obind (F.bignum_Int_QuoRem false [] x_65 x_66 x_69 x_70 false []) fun x_89 =>
   obind (F.bignum_Int_Mul false [] x_89.1 x_89.2.1 x_77 x_78) fun x_99 =>
   obind (F.bignum_Int_Sub false [] x_73 x_74 x_99.1 x_99.2) fun x_103 =>
   oinl (x_69, x_70, x_89.2.2.1, x_89.2.2.2, x_77, x_78, x_103.1, x_103.2)
  ) else (
   oinr (
    if a3_0 = true then
    (
     none
    ) else (
     obind (F.bignum_Int_Mul false [] a3_0 a3_1 x_73 x_74) fun x_111 =>
     obind (F.bignum_Int_Sub_a20 x_111.1 x_111.2 x_65 x_66) fun x_114 =>
     obind (F.bignum_Int_Quo_a10 x_114.1 x_114.2 a4_0 a4_1) fun x_117 =>
     obind (F.bignum_Int_Set a1_0 a1_1 x_73 x_74) fun x_120 =>
     obind (F.bignum_Int_Set a0_0 a0_1 x_65 x_66) fun x_123 =>
     some (x_123.1, x_123.2, x_120.1, x_120.2)
    )
   )
  )
noncomputable def F.bignum_Int_GCD_K1 (a0_0 : Bool) (a0_1 : List UInt32) (a3_0 : Bool) (a3_1 : List UInt32) (a4_0 : Bool) (a4_1 : List UInt32) (a1_0 : Bool) (a1_1 : List UInt32) : Bool → Option (Bool × List UInt32 × Bool × List UInt32)
 | x_8 =>
  if x_8 = true then
  (
   if ((a3_1.length : Int) == 0) = true then
   (
    obind (F.bignum_Int_Abs a0_0 a0_1 a4_0 a4_1) fun x_10 =>
    F.bignum_Int_GCD_K2 a1_0 a1_1 a3_0 a3_1 (x_10.1, x_10.2)
   ) else (
    obind (F.bignum_Int_Abs a0_0 a0_1 a3_0 a3_1) fun x_13 =>
    F.bignum_Int_GCD_K2 a1_0 a1_1 a3_0 a3_1 (x_13.1, x_13.2)
   )
  ) else (
   obind (F.bignum_Int_Abs false [] a3_0 a3_1) fun x_41 =>
   obind (F.bignum_Int_Abs false [] a4_0 a4_1) fun x_47 =>
   obind (F.bignum_NewInt 1) fun x_50 =>
   obind (F.bignum_NewInt 0) fun x_55 =>
   loop (F.bignum_Int_GCD_L1 a0_0 a0_1 a1_0 a1_1 a3_0 a3_1 a4_0 a4_1) (x_41.1, x_41.2, x_47.1, x_47.2, x_50.1, x_50.2, x_55.1, x_55.2)
  )
noncomputable def F.bignum_Int_GCD (a0_0 : Bool) (a0_1 : List UInt32) (a1_0 : Bool) (a1_1 : List UInt32) (a3_0 : Bool) (a3_1 : List UInt32) (a4_0 : Bool) (a4_1 : List UInt32) : Option (Bool × List UInt32 × Bool × List UInt32) :=
 if ((a3_1.length : Int) == 0) = true then
 (
  F.bignum_Int_GCD_K1 a0_0 a0_1 a3_0 a3_1 a4_0 a4_1 a1_0 a1_1 true
 ) else (
  F.bignum_Int_GCD_K1 a0_0 a0_1 a3_0 a3_1 a4_0 a4_1 a1_0 a1_1 ((a4_1.length : Int) == 0)
 )
noncomputable def F.bignum_Int_ModInverse (a0_0 : Bool) (a0_1 : List UInt32) (a1_0 : Bool) (a1_1 : List UInt32) (a2_0 : Bool) (a2_1 : List UInt32) : Option (Bool × List UInt32) :=
 obind (F.bignum_Int_Abs false [] a2_0 a2_1) fun x_6 =>
 obind (F.bignum_Int_Mod false [] a1_0 a1_1 x_6.1 x_6.2) fun x_12 =>
 obind (F.bignum_Int_GCD false [] false [] x_12.1 x_12.2 x_6.1 x_6.2) fun x_21 =>
 obind (F.bignum_NewInt 1) fun x_26 =>
 obind (F.bignum_Int_Cmp x_21.1 x_21.2.1 x_26.1 x_26.2) fun x_31 =>
 if (x_31 != 0) = true then
 (
  none
 ) else (
  obind (F.bignum_Int_Mod a0_0 a0_1 x_21.2.2.1 x_21.2.2.2 x_6.1 x_6.2) fun x_32 =>
  some (x_32.1, x_32.2)
 )
end Go.Gk
