import Derived.Test.YtpbgncmffgnohaaGkS
set_option linter.unusedVariables false
set_option linter.unusedSimpArgs false
set_option linter.unusedVariables false
namespace Go.Gk
noncomputable def F.ref7_Trim_K1 (a0 : List UInt32) (x_1 : Int) : Bool → Option ((Int) ⊕ (List UInt32))
 | x_7 =>
  if x_7 = true then
  (
   oinl (wI (x_1 - 1))
  ) else (
   oinr (
    obind (tkO a0 (x_1 : Int)) fun x_9 =>
    obind (apO 4 [] x_9) fun x_10 =>
    some x_10
   )
  )
noncomputable def F.ref7_Trim_L1 (a0 : List UInt32) : Int → Option ((Int) ⊕ (List UInt32))
 | x_1 =>
  if (decide ((0 : Int) < x_1)) = true then
  (
   obind (getO a0 (wI (x_1 - 1) : Int)) fun x_6 =>
   F.ref7_Trim_K1 a0 x_1 (x_6 == 0)
  ) else (
   F.ref7_Trim_K1 a0 x_1 false
  )
noncomputable def F.ref7_Trim (a0 : List UInt32) : Option (List UInt32) :=
 loop (F.ref7_Trim_L1 a0) (a0.length : Int)
noncomputable def F.ref7_one  : Option (List UInt32) :=
 some ([1] : List UInt32)
noncomputable def F.ref7_limb (a0 : List UInt32) (a1 : Int) : Option (UInt64) :=
 if (decide ((a0.length : Int) ≤ a1)) = true then
 (
  some 0
 ) else (
  obind (getO a0 (a1 : Int)) fun x_1 =>
  some x_1.toUInt64
 )
noncomputable def F.ref7_Cmp_L1 (a0 : List UInt32) (a1 : List UInt32) : Int → Option ((Int) ⊕ (Int))
 | x_2 =>
  if (decide ((0 : Int) ≤ x_2)) = true then
  (
   obind (F.ref7_limb a0 x_2) fun x_6 =>
   obind (F.ref7_limb a1 x_2) fun x_7 =>
   if (decide (x_6 < x_7)) = true then
   (
    oinr (
     some (-1)
    )
   ) else (
    obind (F.ref7_limb a0 x_2) fun x_8 =>
    obind (F.ref7_limb a1 x_2) fun x_9 =>
    if (decide (x_9 < x_8)) = true then
    (
     oinr (
      some 1
     )
    ) else (
     oinl (wI (x_2 - 1))
    )
   )
  ) else (
   oinr (
    some 0
   )
  )
noncomputable def F.ref7_Cmp (a0 : List UInt32) (a1 : List UInt32) : Option (Int) :=
 olet (wI ((max (a0.length : Int) (a1.length : Int)) - 1)) fun x_1 =>
 loop (F.ref7_Cmp_L1 a0 a1) x_1
noncomputable def F.ref7_wrong_L1 (a0 : List UInt32) (a1 : List (List UInt32)) : Int → Option ((Int) ⊕ (Int))
 | x_1 =>
  if (decide (x_1 < (a1.length : Int))) = true then
  (
   obind (getO a1 (x_1 : Int)) fun x_5 =>
   obind (F.ref7_Trim x_5) fun x_7 =>
   if (decide ((128 : Int) < (x_7.length : Int))) = true then
   (
    oinr (
     some 10
    )
   ) else (
    oinl (wI (x_1 + 1))
   )
  ) else (
   oinr (
    obind (F.ref7_Trim a0) fun x_11 =>
    if (decide ((128 : Int) < (x_11.length : Int))) = true then
    (
     some 10
    ) else (
     obind (F.ref7_one ) fun x_14 =>
     obind (F.ref7_Cmp a0 x_14) fun x_17 =>
     if (decide (x_17 ≤ 0)) = true then
     (
      some 60
     ) else (
      some 0
     )
    )
   )
  )
noncomputable def F.ref7_wrong (a0 : List UInt32) (a1 : List (List UInt32)) : Option (Int) :=
 loop (F.ref7_wrong_L1 a0 a1) 0
noncomputable def F.ref7_Times_L2 (a0 : List UInt32) (a1 : List UInt32) (x_4 : Int) : UInt64 × Int × List UInt32 → Option ((UInt64 × Int × List UInt32) ⊕ ((Int × List UInt32) ⊕ (List UInt32)))
 | (x_9, x_10, x_11) =>
  if (decide (x_10 < (a1.length : Int))) = true then
  (
   obind (getO x_11 (wI (x_4 + x_10) : Int)) fun x_15 =>
   obind (getO a0 (x_4 : Int)) fun x_16 =>
   obind (getO a1 (x_10 : Int)) fun x_17 =>
   olet ((x_15.toUInt64 + (x_16.toUInt64 * x_17.toUInt64)) + x_9) fun x_18 =>
   obind (getO x_11 (wI (x_4 + x_10) : Int)) fun x_19 =>
   olet (x_11.set (wI (x_4 + x_10) : Int).toNat ((x_18 &&& 4294967295).toUInt32)) fun x_20 =>
   oinl (shr64 x_18 32, wI (x_10 + 1), x_20)
  ) else (
   oinr (
    obind (getO x_11 (wI (x_4 + (a1.length : Int)) : Int)) fun x_21 =>
    olet (x_11.set (wI (x_4 + (a1.length : Int)) : Int).toNat x_9.toUInt32) fun x_22 =>
    oinl (wI (x_4 + 1), x_22)
   )
  )
noncomputable def F.ref7_Times_L1 (a0 : List UInt32) (a1 : List UInt32) : Int × List UInt32 → Option ((Int × List UInt32) ⊕ (List UInt32))
 | (x_4, x_5) =>
  if (decide (x_4 < (a0.length : Int))) = true then
  (
   loop (F.ref7_Times_L2 a0 a1 x_4) (0, 0, x_5)
  ) else (
   oinr (
    obind (F.ref7_Trim x_5) fun x_25 =>
    some x_25
   )
  )
noncomputable def F.ref7_Times (a0 : List UInt32) (a1 : List UInt32) : Option (List UInt32) :=
 obind (mkO 4 (wI ((a0.length : Int) + (a1.length : Int)) : Int) (wI ((a0.length : Int) + (a1.length : Int)) : Int) (0 : UInt32)) fun x_1 =>
 loop (F.ref7_Times_L1 a0 a1) (0, x_1)
noncomputable def F.ref7_Bit (a0 : List UInt32) (a1 : Int) : Option (Bool) :=
 obind (F.ref7_limb a0 (wI (Int.tdiv a1 32))) fun x_1 =>
 some (((shr64 x_1 ((UInt64.ofInt (Int.tmod a1 32)).toNat)) &&& 1) == 1)
noncomputable def F.ref7_Divide_K1 (x_14 : Int) : List UInt32 × List UInt32 → Option ((Int × List UInt32 × List UInt32) ⊕ (List UInt32 × List UInt32))
 | (x_58, x_59) =>
  oinl (wI (x_14 - 1), x_58, x_59)
noncomputable def F.ref7_Divide_K3 (x_35 : UInt64) (x_36 : Int) (x_37 : List UInt32) (x_41 : UInt64) : UInt64 × UInt64 → Option ((UInt64 × Int × List UInt32) ⊕ ((Int × List UInt32 × List UInt32) ⊕ (List UInt32 × List UInt32)))
 | (x_45, x_46) =>
  obind (getO x_37 (x_36 : Int)) fun x_48 =>
  olet (x_37.set (x_36 : Int).toNat ((x_46 - (x_41 + x_35)).toUInt32)) fun x_49 =>
  oinl (x_45, wI (x_36 + 1), x_49)
noncomputable def F.ref7_Divide_L3 (x_4 : List UInt32) (x_14 : Int) (x_15 : List UInt32) : UInt64 × Int × List UInt32 → Option ((UInt64 × Int × List UInt32) ⊕ ((Int × List UInt32 × List UInt32) ⊕ (List UInt32 × List UInt32)))
 | (x_35, x_36, x_37) =>
  if (decide (x_36 < (x_37.length : Int))) = true then
  (
   obind (F.ref7_limb x_4 x_36) fun x_41 =>
   obind (getO x_37 (x_36 : Int)) fun x_42 =>
   if (decide (x_42.toUInt64 < (x_41 + x_35))) = true then
   (
    olet (x_42.toUInt64 + 4294967296) fun x_43 =>
    F.ref7_Divide_K3 x_35 x_36 x_37 x_41 (1, x_43)
   ) else (
    F.ref7_Divide_K3 x_35 x_36 x_37 x_41 (0, x_42.toUInt64)
   )
  ) else (
   oinr (
    obind (getO x_15 (wI (Int.tdiv x_14 32) : Int)) fun x_50 =>
    obind (getO x_15 (wI (Int.tdiv x_14 32) : Int)) fun x_51 =>
    olet (x_15.set (wI (Int.tdiv x_14 32) : Int).toNat (x_50 ||| (shl32 1 ((UInt64.ofInt (Int.tmod x_14 32)).toNat)))) fun x_52 =>
    F.ref7_Divide_K1 x_14 (x_52, x_37)
   )
  )
noncomputable def F.ref7_Divide_L2 (x_4 : List UInt32) (x_15 : List UInt32) (x_14 : Int) : UInt32 × Int × List UInt32 → Option ((UInt32 × Int × List UInt32) ⊕ ((Int × List UInt32 × List UInt32) ⊕ (List UInt32 × List UInt32)))
 | (x_24, x_25, x_26) =>
  if (decide (x_25 < (x_26.length : Int))) = true then
  (
   obind (getO x_26 (x_25 : Int)) fun x_30 =>
   obind (getO x_26 (x_25 : Int)) fun x_31 =>
   obind (getO x_26 (x_25 : Int)) fun x_32 =>
   olet (x_26.set (x_25 : Int).toNat ((shl32 x_31 1) ||| x_24)) fun x_33 =>
   oinl (shr32 x_30 31, wI (x_25 + 1), x_33)
  ) else (
   oinr (
    obind (F.ref7_Cmp x_26 x_4) fun x_34 =>
    if (decide ((0 : Int) ≤ x_34)) = true then
    (
     loop (F.ref7_Divide_L3 x_4 x_14 x_15) (0, 0, x_26)
    ) else (
     F.ref7_Divide_K1 x_14 (x_15, x_26)
    )
   )
  )
noncomputable def F.ref7_Divide_K2 (x_16 : List UInt32) (x_4 : List UInt32) (x_15 : List UInt32) (x_14 : Int) : UInt32 → Option ((Int × List UInt32 × List UInt32) ⊕ (List UInt32 × List UInt32))
 | x_22 =>
  loop (F.ref7_Divide_L2 x_4 x_15 x_14) (x_22, 0, x_16)
noncomputable def F.ref7_Divide_L1 (x_1 : List UInt32) (x_4 : List UInt32) : Int × List UInt32 × List UInt32 → Option ((Int × List UInt32 × List UInt32) ⊕ (List UInt32 × List UInt32))
 | (x_14, x_15, x_16) =>
  if (decide ((0 : Int) ≤ x_14)) = true then
  (
   obind (F.ref7_Bit x_1 x_14) fun x_20 =>
   if x_20 = true then
   (
    F.ref7_Divide_K2 x_16 x_4 x_15 x_14 1
   ) else (
    F.ref7_Divide_K2 x_16 x_4 x_15 x_14 0
   )
  ) else (
   oinr (
    obind (F.ref7_Trim x_15) fun x_61 =>
    obind (F.ref7_Trim x_16) fun x_64 =>
    some (x_61, x_64)
   )
  )
noncomputable def F.ref7_Divide (a0 : List UInt32) (a1 : List UInt32) : Option (List UInt32 × List UInt32) :=
 obind (F.ref7_Trim a0) fun x_1 =>
 obind (F.ref7_Trim a1) fun x_4 =>
 obind (mkO 4 ((x_1.length : Int) : Int) ((x_1.length : Int) : Int) (0 : UInt32)) fun x_7 =>
 obind (mkO 4 (wI ((x_4.length : Int) + 1) : Int) (wI ((x_4.length : Int) + 1) : Int) (0 : UInt32)) fun x_10 =>
 olet (wI ((wI (32 * (x_1.length : Int))) - 1)) fun x_13 =>
 loop (F.ref7_Divide_L1 x_1 x_4) (x_13, x_7, x_10)
noncomputable def F.ref7_rest (a0 : List UInt32) (a1 : List UInt32) : Option (List UInt32) :=
 obind (F.ref7_Divide a0 a1) fun x_1 =>
 some x_1.2
noncomputable def F.ref7_Mul (a0 : List UInt32) (a1 : List UInt32) (a2 : List UInt32) : Option (List UInt32 × Int) :=
 obind (F.ref7_wrong a2 [a0, a1]) fun x_3 =>
 if (x_3 != 0) = true then
 (
  some ([], x_3)
 ) else (
  obind (F.ref7_Times a0 a1) fun x_4 =>
  obind (F.ref7_rest x_4 a2) fun x_7 =>
  some (x_7, 0)
 )
noncomputable def F.ref7_Plus_L1 (a0 : List UInt32) (a1 : List UInt32) : List UInt32 × UInt64 × Int → Option ((List UInt32 × UInt64 × Int) ⊕ (List UInt32))
 | (x_1, x_4, x_5) =>
  if (decide (x_5 ≤ (max (a0.length : Int) (a1.length : Int)))) = true then
  (
   obind (F.ref7_limb a0 x_5) fun x_9 =>
   obind (F.ref7_limb a1 x_5) fun x_10 =>
   obind (apO 4 x_1 ([(((x_9 + x_10) + x_4) &&& 4294967295).toUInt32] : List UInt32)) fun x_13 =>
   olet (shr64 ((x_9 + x_10) + x_4) 32) fun x_16 =>
   oinl (x_13, x_16, wI (x_5 + 1))
  ) else (
   oinr (
    obind (F.ref7_Trim x_1) fun x_17 =>
    some x_17
   )
  )
noncomputable def F.ref7_Plus (a0 : List UInt32) (a1 : List UInt32) : Option (List UInt32) :=
 loop (F.ref7_Plus_L1 a0 a1) ([], 0, 0)
noncomputable def F.ref7_Minus_K1 (x_1 : List UInt32) (x_4 : UInt64) (x_5 : Int) (x_10 : UInt64) : UInt64 × UInt64 → Option ((List UInt32 × UInt64 × Int) ⊕ (List UInt32))
 | (x_12, x_13) =>
  obind (apO 4 x_1 ([(x_13 - (x_10 + x_4)).toUInt32] : List UInt32)) fun x_17 =>
  oinl (x_17, x_12, wI (x_5 + 1))
noncomputable def F.ref7_Minus_L1 (a0 : List UInt32) (a1 : List UInt32) : List UInt32 × UInt64 × Int → Option ((List UInt32 × UInt64 × Int) ⊕ (List UInt32))
 | (x_1, x_4, x_5) =>
  if (decide (x_5 < (a0.length : Int))) = true then
  (
   obind (F.ref7_limb a0 x_5) fun x_9 =>
   obind (F.ref7_limb a1 x_5) fun x_10 =>
   if (decide (x_9 < (x_10 + x_4))) = true then
   (
    F.ref7_Minus_K1 x_1 x_4 x_5 x_10 (1, x_9 + 4294967296)
   ) else (
    F.ref7_Minus_K1 x_1 x_4 x_5 x_10 (0, x_9)
   )
  ) else (
   oinr (
    obind (F.ref7_Trim x_1) fun x_20 =>
    some x_20
   )
  )
noncomputable def F.ref7_Minus (a0 : List UInt32) (a1 : List UInt32) : Option (List UInt32) :=
 loop (F.ref7_Minus_L1 a0 a1) ([], 0, 0)
noncomputable def F.ref7_Sub (a0 : List UInt32) (a1 : List UInt32) (a2 : List UInt32) : Option (List UInt32 × Int) :=
 obind (F.ref7_wrong a2 [a0, a1]) fun x_3 =>
 if (x_3 != 0) = true then
 (
  some ([], x_3)
 ) else (
  obind (F.ref7_rest a0 a2) fun x_4 =>
  obind (F.ref7_Plus x_4 a2) fun x_7 =>
  obind (F.ref7_rest a1 a2) fun x_10 =>
  obind (F.ref7_Minus x_7 x_10) fun x_13 =>
  obind (F.ref7_rest x_13 a2) fun x_16 =>
  some (x_16, 0)
 )
noncomputable def F.ref7_Add (a0 : List UInt32) (a1 : List UInt32) (a2 : List UInt32) : Option (List UInt32 × Int) :=
 obind (F.ref7_wrong a2 [a0, a1]) fun x_3 =>
 if (x_3 != 0) = true then
 (
  some ([], x_3)
 ) else (
  obind (F.ref7_Plus a0 a1) fun x_4 =>
  obind (F.ref7_rest x_4 a2) fun x_7 =>
  some (x_7, 0)
 )
noncomputable def F.ref7_Inv_L1 (x_4 : List UInt32) : List UInt32 × List UInt32 × List UInt32 × List UInt32 → Option ((List UInt32 × List UInt32 × List UInt32 × List UInt32) ⊕ (List UInt32 × Int))
 | (x_17, x_19, x_21, x_23) =>
  if (decide ((0 : Int) < (x_19.length : Int))) = true then
  (
   obind (F.ref7_Divide x_17 x_19) fun x_28 =>
   obind (F.ref7_Plus x_21 x_4) fun x_33 =>
   obind (F.ref7_Times x_28.1 x_23) fun x_36 =>
   obind (F.ref7_rest x_36 x_4) fun x_39 =>
   obind (F.ref7_Minus x_33 x_39) fun x_42 =>
   obind (F.ref7_rest x_42 x_4) fun x_45 =>
   oinl (x_19, x_28.2, x_23, x_45)
  ) else (
   oinr (
    obind (F.ref7_one ) fun x_50 =>
    obind (F.ref7_Cmp x_17 x_50) fun x_53 =>
    if (x_53 != 0) = true then
    (
     some ([], 61)
    ) else (
     obind (F.ref7_rest x_21 x_4) fun x_54 =>
     some (x_54, 0)
    )
   )
  )
noncomputable def F.ref7_Inv (a0 : List UInt32) (a1 : List UInt32) : Option (List UInt32 × Int) :=
 obind (F.ref7_wrong a1 [a0]) fun x_3 =>
 if (x_3 != 0) = true then
 (
  some ([], x_3)
 ) else (
  obind (F.ref7_Trim a1) fun x_4 =>
  obind (F.ref7_rest a0 x_4) fun x_7 =>
  obind (F.ref7_one ) fun x_10 =>
  loop (F.ref7_Inv_L1 x_4) (x_4, x_7, [], x_10)
 )
end Go.Gk
