import Derived.Test.YtpbgncmffgnohaaGkS
import Derived.Test.YtpbgncmffgnohaaGkFlib
set_option linter.unusedVariables false
set_option linter.unusedSimpArgs false
set_option linter.unusedVariables false
namespace Go.Gk
noncomputable def F.nat_proper_K1 (a0 : List UInt32) (x_1 : Nat) : Bool → Option ((Nat) ⊕ (Nat))
 | x_8 =>
  if x_8 = true then
  (
   grd (0 ≤ (wI (((a0.take x_1).length : Int) - 1) : Int) ∧ (wI (((a0.take x_1).length : Int) - 1) : Int).toNat ≤ a0.length) <|
   oinl ((wI (((a0.take x_1).length : Int) - 1) : Int).toNat)
  ) else (
   oinr (
    grd (0 ≤ (((a0.take x_1).length : Int) : Int) ∧ (((a0.take x_1).length : Int) : Int).toNat ≤ (a0.take x_1).length ∧ (((a0.take x_1).length : Int) : Int) = ((a0.take x_1).length : Int)) <|
    some ((((a0.take x_1).length : Int) : Int).toNat)
   )
  )
noncomputable def F.nat_proper_L1 (a0 : List UInt32) : Nat → Option ((Nat) ⊕ (Nat))
 | x_1 =>
  if (decide ((0 : Int) < ((a0.take x_1).length : Int))) = true then
  (
   obind (getO (a0.take x_1) (wI (((a0.take x_1).length : Int) - 1) : Int)) fun x_7 =>
   F.nat_proper_K1 a0 x_1 (x_7 == 0)
  ) else (
   F.nat_proper_K1 a0 x_1 false
  )
noncomputable def F.nat_proper (a0 : List UInt32) : Option (Nat) :=
 loop (F.nat_proper_L1 a0) a0.length
noncomputable def F.nat_FromBytes_L1 (a0 : List UInt8) : Int × List UInt32 → Option ((Int × List UInt32) ⊕ (List UInt32))
 | (x_4, x_5) =>
  if (decide (x_4 < (a0.length : Int))) = true then
  (
   obind (getO a0 (x_4 : Int)) fun x_9 =>
   olet (wI ((wI ((a0.length : Int) - 1)) - x_4)) fun x_10 =>
   obind (getO x_5 (wI (Int.tdiv x_10 4) : Int)) fun x_11 =>
   grd (0 ≤ (wI (8 * (Int.tmod x_10 4)))) <|
   obind (getO x_5 (wI (Int.tdiv x_10 4) : Int)) fun x_13 =>
   olet (x_5.set (wI (Int.tdiv x_10 4) : Int).toNat (x_11 ||| (shl32 x_9.toUInt32 (((wI (8 * (Int.tmod x_10 4)))).toNat)))) fun x_14 =>
   oinl (wI (x_4 + 1), x_14)
  ) else (
   oinr (
    obind (F.nat_proper x_5) fun x_15 =>
    some (x_5.take x_15)
   )
  )
noncomputable def F.nat_FromBytes (a0 : List UInt8) : Option (List UInt32) :=
 obind (mkO 4 (wI (Int.tdiv (wI ((a0.length : Int) + 3)) 4) : Int) (wI (Int.tdiv (wI ((a0.length : Int) + 3)) 4) : Int) (0 : UInt32)) fun x_1 =>
 loop (F.nat_FromBytes_L1 a0) (0, x_1)
noncomputable def F.nat_value (a0 : List UInt32) : Option (Nat) :=
 obind (F.nat_proper a0) fun x_1 =>
 some x_1
noncomputable def F.nat_Bits (a0 : List UInt32) : Option (Int) :=
 obind (F.nat_value a0) fun x_1 =>
 if (((a0.take x_1).length : Int) == 0) = true then
 (
  some 0
 ) else (
  obind (getO (a0.take x_1) (wI (((a0.take x_1).length : Int) - 1) : Int)) fun x_3 =>
  obind (F.math_bits_Len32 x_3) fun x_4 =>
  some (wI ((wI (32 * (wI (((a0.take x_1).length : Int) - 1)))) + x_4))
 )
noncomputable def F.nat_fill_K1 (x_2 : Int) : List UInt8 → Option ((Int × List UInt8) ⊕ (List UInt8))
 | x_15 =>
  oinl (wI (x_2 + 1), x_15)
noncomputable def F.nat_fill_L1 (a0 : List UInt8) (a1 : List UInt32) : Int × List UInt8 → Option ((Int × List UInt8) ⊕ (List UInt8))
 | (x_2, x_3) =>
  if (decide (x_2 < (a0.length : Int))) = true then
  (
   olet (wI ((wI ((x_3.length : Int) - 1)) - x_2)) fun x_7 =>
   obind (getO x_3 (x_2 : Int)) fun x_8 =>
   olet (x_3.set (x_2 : Int).toNat 0) fun x_9 =>
   if (decide ((wI (Int.tdiv x_7 4)) < (a1.length : Int))) = true then
   (
    obind (getO a1 (wI (Int.tdiv x_7 4) : Int)) fun x_10 =>
    grd (0 ≤ (wI (8 * (Int.tmod x_7 4)))) <|
    obind (getO x_9 (x_2 : Int)) fun x_12 =>
    olet (x_9.set (x_2 : Int).toNat ((shr32 x_10 (((wI (8 * (Int.tmod x_7 4)))).toNat)).toUInt8)) fun x_13 =>
    F.nat_fill_K1 x_2 x_13
   ) else (
    F.nat_fill_K1 x_2 x_9
   )
  ) else (
   oinr (
    some x_3
   )
  )
noncomputable def F.nat_fill (a0 : List UInt8) (a1 : List UInt32) : Option (List UInt8) :=
 loop (F.nat_fill_L1 a0 a1) (0, a0)
noncomputable def F.nat_Bytes (a0 : List UInt32) : Option (List UInt8) :=
 obind (F.nat_Bits a0) fun x_1 =>
 olet (wI (Int.tdiv (wI (x_1 + 7)) 8)) fun x_2 =>
 obind (mkO 1 (x_2 : Int) (x_2 : Int) (0 : UInt8)) fun x_3 =>
 obind (F.nat_value a0) fun x_6 =>
 obind (F.nat_fill x_3 (a0.take x_6)) fun x_8 =>
 some x_8
noncomputable def F.nat_Cmp_L1 (a0 : List UInt32) (a1 : List UInt32) (x_1 : Nat) (x_3 : Nat) : Int → Option ((Int) ⊕ (Int))
 | x_6 =>
  if (decide ((0 : Int) ≤ x_6)) = true then
  (
   obind (getO (a0.take x_1) (x_6 : Int)) fun x_10 =>
   obind (getO (a1.take x_3) (x_6 : Int)) fun x_11 =>
   if (decide (x_10 < x_11)) = true then
   (
    oinr (
     some (-1)
    )
   ) else (
    obind (getO (a0.take x_1) (x_6 : Int)) fun x_12 =>
    obind (getO (a1.take x_3) (x_6 : Int)) fun x_13 =>
    if (decide (x_13 < x_12)) = true then
    (
     oinr (
      some 1
     )
    ) else (
     oinl (wI (x_6 - 1))
    )
   )
  ) else (
   oinr (
    some 0
   )
  )
noncomputable def F.nat_Cmp (a0 : List UInt32) (a1 : List UInt32) : Option (Int) :=
 obind (F.nat_value a0) fun x_1 =>
 obind (F.nat_value a1) fun x_3 =>
 if (decide (((a0.take x_1).length : Int) < ((a1.take x_3).length : Int))) = true then
 (
  some (-1)
 ) else (
  if (decide (((a1.take x_3).length : Int) < ((a0.take x_1).length : Int))) = true then
  (
   some 1
  ) else (
   olet (wI (((a0.take x_1).length : Int) - 1)) fun x_5 =>
   loop (F.nat_Cmp_L1 a0 a1 x_1 x_3) x_5
  )
 )
noncomputable def F.nat_Add_K2 (x_17 : Int) (x_18 : List UInt32) : UInt64 → Option ((UInt64 × Int × List UInt32) ⊕ (List UInt32))
 | x_26 =>
  obind (getO x_18 (x_17 : Int)) fun x_28 =>
  olet (x_18.set (x_17 : Int).toNat x_26.toUInt32) fun x_29 =>
  oinl (shr64 x_26 32, wI (x_17 + 1), x_29)
noncomputable def F.nat_Add_L1 (x_6 : List UInt32) (x_9 : List UInt32) : UInt64 × Int × List UInt32 → Option ((UInt64 × Int × List UInt32) ⊕ (List UInt32))
 | (x_16, x_17, x_18) =>
  if (decide (x_17 < (x_6.length : Int))) = true then
  (
   obind (getO x_6 (x_17 : Int)) fun x_22 =>
   if (decide (x_17 < (x_9.length : Int))) = true then
   (
    obind (getO x_9 (x_17 : Int)) fun x_23 =>
    olet ((x_16 + x_22.toUInt64) + x_23.toUInt64) fun x_24 =>
    F.nat_Add_K2 x_17 x_18 x_24
   ) else (
    F.nat_Add_K2 x_17 x_18 (x_16 + x_22.toUInt64)
   )
  ) else (
   oinr (
    obind (getO x_18 ((x_6.length : Int) : Int)) fun x_30 =>
    olet (x_18.set ((x_6.length : Int) : Int).toNat x_16.toUInt32) fun x_31 =>
    obind (F.nat_proper x_31) fun x_32 =>
    some (x_31.take x_32)
   )
  )
noncomputable def F.nat_Add_K1  : List UInt32 × List UInt32 → Option (List UInt32)
 | (x_6, x_9) =>
  obind (mkO 4 (wI ((x_6.length : Int) + 1) : Int) (wI ((x_6.length : Int) + 1) : Int) (0 : UInt32)) fun x_13 =>
  loop (F.nat_Add_L1 x_6 x_9) (0, 0, x_13)
noncomputable def F.nat_Add (a0 : List UInt32) (a1 : List UInt32) : Option (List UInt32) :=
 obind (F.nat_value a0) fun x_1 =>
 obind (F.nat_value a1) fun x_3 =>
 if (decide (((a0.take x_1).length : Int) < ((a1.take x_3).length : Int))) = true then
 (
  F.nat_Add_K1 (a1.take x_3, a0.take x_1)
 ) else (
  F.nat_Add_K1 (a0.take x_1, a1.take x_3)
 )
end Go.Gk
