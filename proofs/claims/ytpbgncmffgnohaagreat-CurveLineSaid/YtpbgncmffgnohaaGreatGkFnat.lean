import Derived.Test.YtpbgncmffgnohaaGreatGkS
import Derived.Test.YtpbgncmffgnohaaGreatGkFlib
set_option linter.unusedVariables false
set_option linter.unusedSimpArgs false
set_option linter.unusedVariables false
namespace Go.Gk
noncomputable def F.nat_proper_K1 (a0 : List UInt32) (x_1 : Nat) : Bool → Option ((Nat) ⊕ (Nat))
 | x_8 =>
  if x_8 = true then
  (
   grd (0 ≤ (wI (((a0.take x_1).length : Int) - 1) : Int) ∧ (wI (((a0.take x_1).length : Int) - 1) : Int).toNat ≤ a0.length) <|
   oinl ((wI (((a0.take x_1).length : Int) - 1) : Int).toNat)
  ) else (
   oinr (
    grd (0 ≤ (((a0.take x_1).length : Int) : Int) ∧ (((a0.take x_1).length : Int) : Int).toNat ≤ (a0.take x_1).length ∧ (((a0.take x_1).length : Int) : Int) = ((a0.take x_1).length : Int)) <|
    some ((((a0.take x_1).length : Int) : Int).toNat)
   )
  )
noncomputable def F.nat_proper_L1 (a0 : List UInt32) : Nat → Option ((Nat) ⊕ (Nat))
 | x_1 =>
  if (decide ((0 : Int) < ((a0.take x_1).length : Int))) = true then
  (
   obind (getO (a0.take x_1) (wI (((a0.take x_1).length : Int) - 1) : Int)) fun x_7 =>
   F.nat_proper_K1 a0 x_1 (x_7 == 0)
  ) else (
   F.nat_proper_K1 a0 x_1 false
  )
noncomputable def F.nat_proper (a0 : List UInt32) : Option (Nat) :=
 loop (F.nat_proper_L1 a0) a0.length
noncomputable def F.nat_FromBytes_L1 (a0 : List UInt8) : Int × List UInt32 → Option ((Int × List UInt32) ⊕ (List UInt32))
 | (x_4, x_5) =>
  if (decide (x_4 < (a0.length : Int))) = true then
  (
   obind (getO a0 (x_4 : Int)) fun x_9 =>
   olet (wI ((wI ((a0.length : Int) - 1)) - x_4)) fun x_10 =>
   obind (getO x_5 (wI (Int.tdiv x_10 4) : Int)) fun x_11 =>
   grd (0 ≤ (wI (8 * (Int.tmod x_10 4)))) <|
   obind (getO x_5 (wI (Int.tdiv x_10 4) : Int)) fun x_13 =>
   olet (x_5.set (wI (Int.tdiv x_10 4) : Int).toNat (x_11 ||| (shl32 x_9.toUInt32 (((wI (8 * (Int.tmod x_10 4)))).toNat)))) fun x_14 =>
   oinl (wI (x_4 + 1), x_14)
  ) else (
   oinr (
    obind (F.nat_proper x_5) fun x_15 =>
    some (x_5.take x_15)
   )
  )
noncomputable def F.nat_FromBytes (a0 : List UInt8) : Option (List UInt32) :=
 obind (mkO 4 (wI (Int.tdiv (wI ((a0.length : Int) + 3)) 4) : Int) (wI (Int.tdiv (wI ((a0.length : Int) + 3)) 4) : Int) (0 : UInt32)) fun x_1 =>
 loop (F.nat_FromBytes_L1 a0) (0, x_1)
noncomputable def F.nat_value (a0 : List UInt32) : Option (Nat) :=
 obind (F.nat_proper a0) fun x_1 =>
 some x_1
noncomputable def F.nat_Bits (a0 : List UInt32) : Option (Int) :=
 obind (F.nat_value a0) fun x_1 =>
 if (((a0.take x_1).length : Int) == 0) = true then
 (
  some 0
 ) else (
  obind (getO (a0.take x_1) (wI (((a0.take x_1).length : Int) - 1) : Int)) fun x_3 =>
  obind (F.math_bits_Len32 x_3) fun x_4 =>
  some (wI ((wI (32 * (wI (((a0.take x_1).length : Int) - 1)))) + x_4))
 )
noncomputable def F.nat_fill_K1 (x_2 : Int) : List UInt8 → Option ((Int × List UInt8) ⊕ (List UInt8))
 | x_15 =>
  oinl (wI (x_2 + 1), x_15)
noncomputable def F.nat_fill_L1 (a0 : List UInt8) (a1 : List UInt32) : Int × List UInt8 → Option ((Int × List UInt8) ⊕ (List UInt8))
 | (x_2, x_3) =>
  if (decide (x_2 < (a0.length : Int))) = true then
  (
   olet (wI ((wI ((x_3.length : Int) - 1)) - x_2)) fun x_7 =>
   obind (getO x_3 (x_2 : Int)) fun x_8 =>
   olet (x_3.set (x_2 : Int).toNat 0) fun x_9 =>
   if (decide ((wI (Int.tdiv x_7 4)) < (a1.length : Int))) = true then
   (
    obind (getO a1 (wI (Int.tdiv x_7 4) : Int)) fun x_10 =>
    grd (0 ≤ (wI (8 * (Int.tmod x_7 4)))) <|
    obind (getO x_9 (x_2 : Int)) fun x_12 =>
    olet (x_9.set (x_2 : Int).toNat ((shr32 x_10 (((wI (8 * (Int.tmod x_7 4)))).toNat)).toUInt8)) fun x_13 =>
    F.nat_fill_K1 x_2 x_13
   ) else (
    F.nat_fill_K1 x_2 x_9
   )
  ) else (
   oinr (
    some x_3
   )
  )
noncomputable def F.nat_fill (a0 : List UInt8) (a1 : List UInt32) : Option (List UInt8) :=
 loop (F.nat_fill_L1 a0 a1) (0, a0)
noncomputable def F.nat_Bytes (a0 : List UInt32) : Option (List UInt8) :=
 obind (F.nat_Bits a0) fun x_1 =>
 olet (wI (Int.tdiv (wI (x_1 + 7)) 8)) fun x_2 =>
 obind (mkO 1 (x_2 : Int) (x_2 : Int) (0 : UInt8)) fun x_3 =>
 obind (F.nat_value a0) fun x_6 =>
 obind (F.nat_fill x_3 (a0.take x_6)) fun x_8 =>
 some x_8
noncomputable def F.nat_Cmp_L1 (a0 : List UInt32) (a1 : List UInt32) (x_1 : Nat) (x_3 : Nat) : Int → Option ((Int) ⊕ (Int))
 | x_6 =>
  if (decide ((0 : Int) ≤ x_6)) = true then
  (
   obind (getO (a0.take x_1) (x_6 : Int)) fun x_10 =>
   obind (getO (a1.take x_3) (x_6 : Int)) fun x_11 =>
   if (decide (x_10 < x_11)) = true then
   (
    oinr (
     some (-1)
    )
   ) else (
    obind (getO (a0.take x_1) (x_6 : Int)) fun x_12 =>
    obind (getO (a1.take x_3) (x_6 : Int)) fun x_13 =>
    if (decide (x_13 < x_12)) = true then
    (
     oinr (
      some 1
     )
    ) else (
     oinl (wI (x_6 - 1))
    )
   )
  ) else (
   oinr (
    some 0
   )
  )
noncomputable def F.nat_Cmp (a0 : List UInt32) (a1 : List UInt32) : Option (Int) :=
 obind (F.nat_value a0) fun x_1 =>
 obind (F.nat_value a1) fun x_3 =>
 if (decide (((a0.take x_1).length : Int) < ((a1.take x_3).length : Int))) = true then
 (
  some (-1)
 ) else (
  if (decide (((a1.take x_3).length : Int) < ((a0.take x_1).length : Int))) = true then
  (
   some 1
  ) else (
   olet (wI (((a0.take x_1).length : Int) - 1)) fun x_5 =>
   loop (F.nat_Cmp_L1 a0 a1 x_1 x_3) x_5
  )
 )
noncomputable def F.nat_Add_K2 (x_17 : Int) (x_18 : List UInt32) : UInt64 → Option ((UInt64 × Int × List UInt32) ⊕ (List UInt32))
 | x_26 =>
  obind (getO x_18 (x_17 : Int)) fun x_28 =>
  olet (x_18.set (x_17 : Int).toNat x_26.toUInt32) fun x_29 =>
  oinl (shr64 x_26 32, wI (x_17 + 1), x_29)
noncomputable def F.nat_Add_L1 (x_6 : List UInt32) (x_9 : List UInt32) : UInt64 × Int × List UInt32 → Option ((UInt64 × Int × List UInt32) ⊕ (List UInt32))
 | (x_16, x_17, x_18) =>
  if (decide (x_17 < (x_6.length : Int))) = true then
  (
   obind (getO x_6 (x_17 : Int)) fun x_22 =>
   if (decide (x_17 < (x_9.length : Int))) = true then
   (
    obind (getO x_9 (x_17 : Int)) fun x_23 =>
    olet ((x_16 + x_22.toUInt64) + x_23.toUInt64) fun x_24 =>
    F.nat_Add_K2 x_17 x_18 x_24
   ) else (
    F.nat_Add_K2 x_17 x_18 (x_16 + x_22.toUInt64)
   )
  ) else (
   oinr (
    obind (getO x_18 ((x_6.length : Int) : Int)) fun x_30 =>
    olet (x_18.set ((x_6.length : Int) : Int).toNat x_16.toUInt32) fun x_31 =>
    obind (F.nat_proper x_31) fun x_32 =>
    some (x_31.take x_32)
   )
  )
noncomputable def F.nat_Add_K1  : List UInt32 × List UInt32 → Option (List UInt32)
 | (x_6, x_9) =>
  obind (mkO 4 (wI ((x_6.length : Int) + 1) : Int) (wI ((x_6.length : Int) + 1) : Int) (0 : UInt32)) fun x_13 =>
  loop (F.nat_Add_L1 x_6 x_9) (0, 0, x_13)
noncomputable def F.nat_Add (a0 : List UInt32) (a1 : List UInt32) : Option (List UInt32) :=
 obind (F.nat_value a0) fun x_1 =>
 obind (F.nat_value a1) fun x_3 =>
 if (decide (((a0.take x_1).length : Int) < ((a1.take x_3).length : Int))) = true then
 (
  F.nat_Add_K1 (a1.take x_3, a0.take x_1)
 ) else (
  F.nat_Add_K1 (a0.take x_1, a1.take x_3)
 )
noncomputable def F.nat_FromUint (a0 : UInt64) : Option (List UInt32) :=
 obind (F.nat_proper ([a0.toUInt32, (shr64 a0 32).toUInt32] : List UInt32)) fun x_3 =>
 some (([a0.toUInt32, (shr64 a0 32).toUInt32] : List UInt32).take x_3)
noncomputable def F.nat_estimate_K1  : UInt64 → Option (UInt64)
 | x_22 =>
  some x_22
noncomputable def F.nat_estimate_K2 (a1 : List UInt32) (x_8 : UInt64) (x_9 : UInt64) : Bool → Option ((UInt64 × UInt64) ⊕ (UInt64))
 | x_16 =>
  if x_16 = true then
  (
   obind (getO a1 (wI ((a1.length : Int) - 1) : Int)) fun x_18 =>
   if (decide ((4294967296 : UInt64) ≤ (x_9 + x_18.toUInt64))) = true then
   (
    oinr (
     F.nat_estimate_K1 (x_8 - 1)
    )
   ) else (
    oinl (x_8 - 1, x_9 + x_18.toUInt64)
   )
  ) else (
   oinr (
    F.nat_estimate_K1 x_8
   )
  )
noncomputable def F.nat_estimate_L1 (a0 : List UInt32) (a1 : List UInt32) : UInt64 × UInt64 → Option ((UInt64 × UInt64) ⊕ (UInt64))
 | (x_8, x_9) =>
  if (decide ((4294967296 : UInt64) ≤ x_8)) = true then
  (
   F.nat_estimate_K2 a1 x_8 x_9 true
  ) else (
   obind (getO a1 (wI ((a1.length : Int) - 2) : Int)) fun x_14 =>
   obind (getO a0 (wI ((a1.length : Int) - 2) : Int)) fun x_15 =>
   F.nat_estimate_K2 a1 x_8 x_9 (decide (((shl64 x_9 32) ||| x_15.toUInt64) < (x_8 * x_14.toUInt64)))
  )
noncomputable def F.nat_estimate (a0 : List UInt32) (a1 : List UInt32) : Option (UInt64) :=
 obind (getO a0 ((a1.length : Int) : Int)) fun x_1 =>
 obind (getO a0 (wI ((a1.length : Int) - 1) : Int)) fun x_2 =>
 olet ((shl64 x_1.toUInt64 32) ||| x_2.toUInt64) fun x_3 =>
 obind (getO a1 (wI ((a1.length : Int) - 1) : Int)) fun x_4 =>
 grd (¬ x_4.toUInt64 = 0) <|
 obind (getO a1 (wI ((a1.length : Int) - 1) : Int)) fun x_6 =>
 grd (¬ x_6.toUInt64 = 0) <|
 loop (F.nat_estimate_L1 a0 a1) (x_3 / x_4.toUInt64, x_3 % x_6.toUInt64)
noncomputable def F.nat_below_L1 (a0 : List UInt32) (a1 : List UInt32) : Int → Option ((Int) ⊕ (Bool))
 | x_2 =>
  if (decide ((0 : Int) ≤ x_2)) = true then
  (
   obind (getO a0 (x_2 : Int)) fun x_6 =>
   obind (getO a1 (x_2 : Int)) fun x_7 =>
   if (x_6 != x_7) = true then
   (
    obind (getO a0 (x_2 : Int)) fun x_8 =>
    obind (getO a1 (x_2 : Int)) fun x_9 =>
    oinr (
     some (decide (x_8 < x_9))
    )
   ) else (
    oinl (wI (x_2 - 1))
   )
  ) else (
   oinr (
    some false
   )
  )
noncomputable def F.nat_below (a0 : List UInt32) (a1 : List UInt32) : Option (Bool) :=
 olet (wI ((a0.length : Int) - 1)) fun x_1 =>
 loop (F.nat_below_L1 a0 a1) x_1
noncomputable def F.nat_Mul_L2 (a1 : List UInt32) (x_3 : Nat) (x_8 : Int) (x_13 : UInt32) : UInt64 × Int × List UInt32 → Option ((UInt64 × Int × List UInt32) ⊕ ((Int × List UInt32) ⊕ (List UInt32)))
 | (x_14, x_15, x_16) =>
  if (decide (x_15 < ((a1.take x_3).length : Int))) = true then
  (
   obind (getO (a1.take x_3) (x_15 : Int)) fun x_20 =>
   obind (getO x_16 (wI (x_8 + x_15) : Int)) fun x_21 =>
   olet (x_14 + ((x_13.toUInt64 * x_20.toUInt64) + x_21.toUInt64)) fun x_22 =>
   obind (getO x_16 (wI (x_8 + x_15) : Int)) fun x_23 =>
   olet (x_16.set (wI (x_8 + x_15) : Int).toNat x_22.toUInt32) fun x_24 =>
   oinl (shr64 x_22 32, wI (x_15 + 1), x_24)
  ) else (
   oinr (
    obind (getO x_16 (wI (x_8 + ((a1.take x_3).length : Int)) : Int)) fun x_25 =>
    olet (x_16.set (wI (x_8 + ((a1.take x_3).length : Int)) : Int).toNat x_14.toUInt32) fun x_26 =>
    oinl (wI (x_8 + 1), x_26)
   )
  )
noncomputable def F.nat_Mul_L1 (a0 : List UInt32) (x_1 : Nat) (a1 : List UInt32) (x_3 : Nat) : Int × List UInt32 → Option ((Int × List UInt32) ⊕ (List UInt32))
 | (x_8, x_9) =>
  if (decide (x_8 < ((a0.take x_1).length : Int))) = true then
  (
   obind (getO (a0.take x_1) (x_8 : Int)) fun x_13 =>
   loop (F.nat_Mul_L2 a1 x_3 x_8 x_13) (0, 0, x_9)
  ) else (
   oinr (
    obind (F.nat_proper x_9) fun x_29 =>
    some (x_9.take x_29)
   )
  )
noncomputable def F.nat_Mul (a0 : List UInt32) (a1 : List UInt32) : Option (List UInt32) :=
 obind (F.nat_value a0) fun x_1 =>
 obind (F.nat_value a1) fun x_3 =>
 obind (mkO 4 (wI (((a0.take x_1).length : Int) + ((a1.take x_3).length : Int)) : Int) (wI (((a0.take x_1).length : Int) + ((a1.take x_3).length : Int)) : Int) (0 : UInt32)) fun x_5 =>
 loop (F.nat_Mul_L1 a0 x_1 a1 x_3) (0, x_5)
noncomputable def F.nat_up_K1 (lo0 : Nat) (hi0 : Nat) (a2 : Int) (x_2 : UInt32) (x_3 : Int) (x_4 : List UInt32) : UInt32 → Option ((UInt32 × Int × List UInt32) ⊕ (List UInt32))
 | x_10 =>
  grd (0 ≤ a2) <|
  obind (getO ((x_4.drop lo0).take (hi0 - lo0)) (x_3 : Int)) fun x_13 =>
  olet (x_4.set (lo0 + (x_3 : Int).toNat) ((shl32 x_10 ((a2).toNat)) ||| x_2)) fun x_14 =>
  grd (0 ≤ a2) <|
  olet ((shr64 (shl64 x_10.toUInt64 ((a2).toNat)) 32).toUInt32) fun x_16 =>
  oinl (x_16, wI (x_3 + 1), x_14)
noncomputable def F.nat_up_L1 (lo0 : Nat) (hi0 : Nat) (a0 : List UInt32) (a1 : List UInt32) (a2 : Int) : UInt32 × Int × List UInt32 → Option ((UInt32 × Int × List UInt32) ⊕ (List UInt32))
 | (x_2, x_3, x_4) =>
  if (decide (x_3 < (((a0.drop lo0).take (hi0 - lo0)).length : Int))) = true then
  (
   if (decide (x_3 < (a1.length : Int))) = true then
   (
    obind (getO a1 (x_3 : Int)) fun x_8 =>
    F.nat_up_K1 lo0 hi0 a2 x_2 x_3 x_4 x_8
   ) else (
    F.nat_up_K1 lo0 hi0 a2 x_2 x_3 x_4 0
   )
  ) else (
   oinr (
    some x_4
   )
  )
noncomputable def F.nat_up (a0 : List UInt32) (lo0 : Nat) (hi0 : Nat) (a1 : List UInt32) (a2 : Int) : Option (List UInt32) :=
 loop (F.nat_up_L1 lo0 hi0 a0 a1 a2) (0, 0, a0)
noncomputable def F.nat_take_K1 (lo0 : Nat) (hi0 : Nat) (x_2 : UInt32) (x_3 : Int) (x_4 : List UInt32) : UInt32 → Option ((UInt32 × Int × List UInt32) ⊕ (UInt32 × List UInt32))
 | x_10 =>
  obind (getO ((x_4.drop lo0).take (hi0 - lo0)) (x_3 : Int)) fun x_12 =>
  obind (F.math_bits_Sub32 x_12 x_10 x_2) fun x_13 =>
  obind (getO ((x_4.drop lo0).take (hi0 - lo0)) (x_3 : Int)) fun x_14 =>
  olet (x_4.set (lo0 + (x_3 : Int).toNat) x_13.1) fun x_15 =>
  oinl (x_13.2, wI (x_3 + 1), x_15)
noncomputable def F.nat_take_L1 (lo0 : Nat) (hi0 : Nat) (a0 : List UInt32) (a1 : List UInt32) : UInt32 × Int × List UInt32 → Option ((UInt32 × Int × List UInt32) ⊕ (UInt32 × List UInt32))
 | (x_2, x_3, x_4) =>
  if (decide (x_3 < (((a0.drop lo0).take (hi0 - lo0)).length : Int))) = true then
  (
   if (decide (x_3 < (a1.length : Int))) = true then
   (
    obind (getO a1 (x_3 : Int)) fun x_8 =>
    F.nat_take_K1 lo0 hi0 x_2 x_3 x_4 x_8
   ) else (
    F.nat_take_K1 lo0 hi0 x_2 x_3 x_4 0
   )
  ) else (
   oinr (
    some (x_2, x_4)
   )
  )
noncomputable def F.nat_take (a0 : List UInt32) (lo0 : Nat) (hi0 : Nat) (a1 : List UInt32) : Option (UInt32 × List UInt32) :=
 loop (F.nat_take_L1 lo0 hi0 a0 a1) (0, 0, a0)
noncomputable def F.nat_down_K1 (a1 : Int) (x_2 : Int) (x_3 : List UInt32) : UInt64 → Option ((Int × List UInt32) ⊕ (List UInt32))
 | x_11 =>
  grd (0 ≤ a1) <|
  obind (getO x_3 (x_2 : Int)) fun x_14 =>
  olet (x_3.set (x_2 : Int).toNat ((shr64 x_11 ((a1).toNat)).toUInt32)) fun x_15 =>
  oinl (wI (x_2 + 1), x_15)
noncomputable def F.nat_down_L1 (a0 : List UInt32) (a1 : Int) : Int × List UInt32 → Option ((Int × List UInt32) ⊕ (List UInt32))
 | (x_2, x_3) =>
  if (decide (x_2 < (a0.length : Int))) = true then
  (
   obind (getO x_3 (x_2 : Int)) fun x_7 =>
   if (decide ((wI (x_2 + 1)) < (x_3.length : Int))) = true then
   (
    obind (getO x_3 (wI (x_2 + 1) : Int)) fun x_8 =>
    olet (x_7.toUInt64 ||| (shl64 x_8.toUInt64 32)) fun x_9 =>
    F.nat_down_K1 a1 x_2 x_3 x_9
   ) else (
    F.nat_down_K1 a1 x_2 x_3 x_7.toUInt64
   )
  ) else (
   oinr (
    some x_3
   )
  )
noncomputable def F.nat_down (a0 : List UInt32) (a1 : Int) : Option (List UInt32) :=
 loop (F.nat_down_L1 a0 a1) (0, a0)
noncomputable def F.nat_Sub (a0 : List UInt32) (a1 : List UInt32) : Option (List UInt32 × Bool) :=
 obind (F.nat_Cmp a0 a1) fun x_1 =>
 if (decide (x_1 < 0)) = true then
 (
  some ([], false)
 ) else (
  obind (F.nat_value a0) fun x_2 =>
  obind (F.nat_value a1) fun x_4 =>
  obind (mkO 4 (((a0.take x_2).length : Int) : Int) (((a0.take x_2).length : Int) : Int) (0 : UInt32)) fun x_6 =>
  olet (cpL x_6 (a0.take x_2) 0 x_6.length) fun x_9 =>
  obind (F.nat_take x_9 0 x_9.length (a1.take x_4)) fun x_10 =>
  obind (F.nat_proper x_10.2) fun x_11 =>
  some (x_10.2.take x_11, true)
 )
noncomputable def F.nat_short_L1 (a0 : List UInt32) (a1 : UInt32) : UInt32 × Int × List UInt32 → Option ((UInt32 × Int × List UInt32) ⊕ (List UInt32 × UInt32))
 | (x_5, x_6, x_7) =>
  if (decide ((0 : Int) ≤ x_6)) = true then
  (
   obind (getO a0 (x_6 : Int)) fun x_11 =>
   obind (F.math_bits_Div32 x_5 x_11 a1) fun x_12 =>
   obind (getO x_7 (x_6 : Int)) fun x_13 =>
   olet (x_7.set (x_6 : Int).toNat x_12.1) fun x_14 =>
   oinl (x_12.2, wI (x_6 - 1), x_14)
  ) else (
   oinr (
    some (x_7, x_5)
   )
  )
noncomputable def F.nat_short (a0 : List UInt32) (a1 : UInt32) : Option (List UInt32 × UInt32) :=
 obind (mkO 4 ((a0.length : Int) : Int) ((a0.length : Int) : Int) (0 : UInt32)) fun x_1 =>
 olet (wI ((a0.length : Int) - 1)) fun x_4 =>
 loop (F.nat_short_L1 a0 a1) (0, x_4, x_1)
noncomputable def F.nat_long_L3 (x_6 : List UInt32) (x_18 : Int) (x_19 : List UInt32) (x_20 : List UInt32) (x_27 : UInt64) : UInt64 × Int × List UInt32 → Option ((UInt64 × Int × List UInt32) ⊕ ((UInt64 × List UInt32) ⊕ ((Int × List UInt32 × List UInt32 × List UInt32) ⊕ (List UInt32 × (List UInt32 × Nat)))))
 | (x_32, x_33, x_34) =>
  if (decide (x_33 < (x_6.length : Int))) = true then
  (
   obind (getO x_6 (x_33 : Int)) fun x_38 =>
   olet (x_32 + (x_27 * x_38.toUInt64)) fun x_39 =>
   obind (getO x_34 (x_33 : Int)) fun x_40 =>
   olet (x_34.set (x_33 : Int).toNat x_39.toUInt32) fun x_41 =>
   oinl (shr64 x_39 32, wI (x_33 + 1), x_41)
  ) else (
   oinr (
    obind (getO x_34 ((x_6.length : Int) : Int)) fun x_42 =>
    olet (x_34.set ((x_6.length : Int) : Int).toNat x_32.toUInt32) fun x_43 =>
    obind (slO x_19 (x_18 : Int) (wI ((wI (x_18 + (x_6.length : Int))) + 1) : Int)) fun x_44 =>
    obind (F.nat_below x_44 x_43) fun x_45 =>
    if (!x_45) = true then
    (
     oinr (
      obind (slO x_19 (x_18 : Int) (wI ((wI (x_18 + (x_6.length : Int))) + 1) : Int)) fun x_46 =>
      obind (F.nat_take x_19 ((x_18 : Int).toNat) ((wI ((wI (x_18 + (x_6.length : Int))) + 1) : Int).toNat) x_43) fun x_47 =>
      obind (getO x_20 (x_18 : Int)) fun x_48 =>
      olet (x_20.set (x_18 : Int).toNat x_27.toUInt32) fun x_49 =>
      oinl (wI (x_18 - 1), x_47.2, x_49, x_43)
     )
    ) else (
     oinl (x_27 - 1, x_43)
    )
   )
  )
noncomputable def F.nat_long_L2 (x_6 : List UInt32) (x_18 : Int) (x_19 : List UInt32) (x_20 : List UInt32) : UInt64 × List UInt32 → Option ((UInt64 × List UInt32) ⊕ ((Int × List UInt32 × List UInt32 × List UInt32) ⊕ (List UInt32 × (List UInt32 × Nat))))
 | (x_27, x_28) =>
  loop (F.nat_long_L3 x_6 x_18 x_19 x_20 x_27) (0, 0, x_28)
noncomputable def F.nat_long_L1 (x_2 : Int) (x_6 : List UInt32) : Int × List UInt32 × List UInt32 × List UInt32 → Option ((Int × List UInt32 × List UInt32 × List UInt32) ⊕ (List UInt32 × (List UInt32 × Nat)))
 | (x_18, x_19, x_20, x_21) =>
  if (decide ((0 : Int) ≤ x_18)) = true then
  (
   obind (slO x_19 (x_18 : Int) (wI ((wI (x_18 + (x_6.length : Int))) + 1) : Int)) fun x_25 =>
   obind (F.nat_estimate x_25 x_6) fun x_26 =>
   loop (F.nat_long_L2 x_6 x_18 x_19 x_20) (x_26, x_21)
  ) else (
   oinr (
    obind (F.nat_down x_19 x_2) fun x_54 =>
    grd (0 ≤ ((x_6.length : Int) : Int) ∧ ((x_6.length : Int) : Int).toNat ≤ x_54.length) <|
    some (x_20, (x_54, ((x_6.length : Int) : Int).toNat))
   )
  )
noncomputable def F.nat_long (a0 : List UInt32) (a1 : List UInt32) : Option (List UInt32 × (List UInt32 × Nat)) :=
 obind (getO a1 (wI ((a1.length : Int) - 1) : Int)) fun x_1 =>
 obind (F.math_bits_LeadingZeros32 x_1) fun x_2 =>
 obind (mkO 4 ((a1.length : Int) : Int) ((a1.length : Int) : Int) (0 : UInt32)) fun x_3 =>
 obind (F.nat_up x_3 0 x_3.length a1 x_2) fun x_6 =>
 obind (mkO 4 (wI ((a0.length : Int) + 1) : Int) (wI ((a0.length : Int) + 1) : Int) (0 : UInt32)) fun x_7 =>
 obind (F.nat_up x_7 0 x_7.length a0 x_2) fun x_10 =>
 obind (mkO 4 (wI ((wI ((a0.length : Int) - (x_6.length : Int))) + 1) : Int) (wI ((wI ((a0.length : Int) - (x_6.length : Int))) + 1) : Int) (0 : UInt32)) fun x_11 =>
 obind (mkO 4 (wI ((x_6.length : Int) + 1) : Int) (wI ((x_6.length : Int) + 1) : Int) (0 : UInt32)) fun x_14 =>
 olet (wI ((x_11.length : Int) - 1)) fun x_17 =>
 loop (F.nat_long_L1 x_2 x_6) (x_17, x_10, x_11, x_14)
noncomputable def F.nat_DivMod (a0 : List UInt32) (a1 : List UInt32) : Option (List UInt32 × List UInt32 × Int) :=
 obind (F.nat_value a0) fun x_1 =>
 obind (F.nat_value a1) fun x_3 =>
 if (((a1.take x_3).length : Int) == 0) = true then
 (
  some ([], [], 60)
 ) else (
  obind (F.nat_Cmp a0 a1) fun x_5 =>
  if (decide (x_5 < 0)) = true then
  (
   obind (apO 4 [] (a0.take x_1)) fun x_6 =>
   some ([], x_6, 0)
  ) else (
   if (((a1.take x_3).length : Int) == 1) = true then
   (
    obind (getO (a1.take x_3) (0 : Int)) fun x_9 =>
    obind (F.nat_short (a0.take x_1) x_9) fun x_10 =>
    obind (F.nat_proper x_10.1) fun x_13 =>
    obind (F.nat_FromUint x_10.2.toUInt64) fun x_15 =>
    some (x_10.1.take x_13, x_15, 0)
   ) else (
    obind (F.nat_long (a0.take x_1) (a1.take x_3)) fun x_18 =>
    obind (F.nat_proper x_18.1) fun x_24 =>
    obind (F.nat_proper (x_18.2.1.take x_18.2.2)) fun x_26 =>
    some (x_18.1.take x_24, (x_18.2.1.take x_18.2.2).take x_26, 0)
   )
  )
 )
end Go.Gk
