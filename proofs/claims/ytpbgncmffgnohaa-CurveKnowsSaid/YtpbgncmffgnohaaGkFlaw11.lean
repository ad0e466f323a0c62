import Derived.Test.YtpbgncmffgnohaaGkS
import Derived.Test.YtpbgncmffgnohaaGkFcurve
import Derived.Test.YtpbgncmffgnohaaGkFref11
set_option linter.unusedVariables false
set_option linter.unusedSimpArgs false
set_option linter.unusedVariables false
namespace Go.Gk
noncomputable def F.law11_marked_L2 (a0 : List UInt32) : List UInt32 × Int → Option ((List UInt32 × Int) ⊕ ((List UInt32 × Nat)))
 | (x_14, x_17) =>
  if (decide (x_17 < 40)) = true then
  (
   obind (apO 4 x_14 ([UInt32.ofInt (wI (7000 + x_17))] : List UInt32)) fun x_23 =>
   oinl (x_23, wI (x_17 + 1))
  ) else (
   oinr (
    grd (0 ≤ ((a0.length : Int) : Int) ∧ ((a0.length : Int) : Int).toNat ≤ x_14.length) <|
    some (x_14, ((a0.length : Int) : Int).toNat)
   )
  )
noncomputable def F.law11_marked_L1 (a0 : List UInt32) : List UInt32 × Int → Option ((List UInt32 × Int) ⊕ ((List UInt32 × Nat)))
 | (x_1, x_4) =>
  if (decide (x_4 < (a0.length : Int))) = true then
  (
   obind (getO a0 (x_4 : Int)) fun x_8 =>
   obind (apO 4 x_1 ([x_8] : List UInt32)) fun x_11 =>
   oinl (x_11, wI (x_4 + 1))
  ) else (
   oinr (
    loop (F.law11_marked_L2 a0) (x_1, 0)
   )
  )
noncomputable def F.law11_marked (a0 : List UInt32) : Option ((List UInt32 × Nat)) :=
 loop (F.law11_marked_L1 a0) ([], 0)
noncomputable def F.law11_sameNat_L1 (a0 : List UInt32) (a1 : List UInt32) : Int → Option ((Int) ⊕ (Bool))
 | x_1 =>
  if (decide (x_1 < (a0.length : Int))) = true then
  (
   obind (getO a0 (x_1 : Int)) fun x_5 =>
   obind (getO a1 (x_1 : Int)) fun x_6 =>
   if (x_5 != x_6) = true then
   (
    oinr (
     some false
    )
   ) else (
    oinl (wI (x_1 + 1))
   )
  ) else (
   oinr (
    some true
   )
  )
noncomputable def F.law11_sameNat (a0 : List UInt32) (a1 : List UInt32) : Option (Bool) :=
 if ((a0.length : Int) != (a1.length : Int)) = true then
 (
  some false
 ) else (
  loop (F.law11_sameNat_L1 a0 a1) 0
 )
noncomputable def F.law11_same (a0_0 : List UInt32) (a0_1 : List UInt32) (a0_2 : Bool) (a1_0 : List UInt32) (a1_1 : List UInt32) (a1_2 : Bool) : Option (Bool) :=
 if (a0_2 == a1_2) = true then
 (
  obind (F.law11_sameNat a0_0 a1_0) fun x_6 =>
  if x_6 = true then
  (
   obind (F.law11_sameNat a0_1 a1_1) fun x_8 =>
   some x_8
  ) else (
   some false
  )
 ) else (
  some false
 )
noncomputable def F.law11_whole_L1 (a0 : List UInt32) (k0 : Nat) (a1 : List UInt32) : Int → Option ((Int) ⊕ (Bool))
 | x_2 =>
  if (decide (x_2 < 40)) = true then
  (
   obind (getO (a0.take ((wI ((a1.length : Int) + 40) : Int).toNat)) (wI ((a1.length : Int) + x_2) : Int)) fun x_6 =>
   if (x_6 != (UInt32.ofInt (wI (7000 + x_2)))) = true then
   (
    oinr (
     some false
    )
   ) else (
    oinl (wI (x_2 + 1))
   )
  ) else (
   oinr (
    obind (F.law11_sameNat (a0.take k0) a1) fun x_8 =>
    some x_8
   )
  )
noncomputable def F.law11_whole (a0 : List UInt32) (k0 : Nat) (a1 : List UInt32) : Option (Bool) :=
 grd (0 ≤ (wI ((a1.length : Int) + 40) : Int) ∧ (wI ((a1.length : Int) + 40) : Int).toNat ≤ a0.length) <|
 loop (F.law11_whole_L1 a0 k0 a1) 0
noncomputable def F.law11_still (a0_0 : List UInt32) (k0_0 : Nat) (a0_1 : List UInt32) (k0_1 : Nat) (a0_2 : Bool) (a1_0 : List UInt32) (a1_1 : List UInt32) (a1_2 : Bool) : Option (Bool) :=
 if (a0_2 == a1_2) = true then
 (
  obind (F.law11_whole a0_0 k0_0 a1_0) fun x_6 =>
  if x_6 = true then
  (
   obind (F.law11_whole a0_1 k0_1 a1_1) fun x_8 =>
   some x_8
  ) else (
   some false
  )
 ) else (
  some false
 )
noncomputable def F.law11_spoil_K1 (x_63 : Int) : Bool → Option ((Int) ⊕ (Bool))
 | x_70 =>
  if x_70 = true then
  (
   oinr (
    some false
   )
  ) else (
   oinl (wI (x_63 + 1))
  )
noncomputable def F.law11_spoil_L6 (x_6 : List UInt32) (x_13 : List UInt32) (x_23 : List UInt32) (x_26 : List UInt32) : Int → Option ((Int) ⊕ (Bool))
 | x_63 =>
  if (decide (x_63 < 70)) = true then
  (
   obind (getO x_23 (wI ((x_6.length : Int) + x_63) : Int)) fun x_67 =>
   if (x_67 != 13) = true then
   (
    F.law11_spoil_K1 x_63 true
   ) else (
    obind (getO x_26 (wI ((x_13.length : Int) + x_63) : Int)) fun x_69 =>
    F.law11_spoil_K1 x_63 (x_69 != 14)
   )
  ) else (
   oinr (
    some true
   )
  )
noncomputable def F.law11_spoil_L5 (x_13 : List UInt32) (x_6 : List UInt32) (x_23 : List UInt32) (x_26 : List UInt32) : Int → Option ((Int) ⊕ (Bool))
 | x_57 =>
  if (decide (x_57 < (x_13.length : Int))) = true then
  (
   obind (getO x_13 (x_57 : Int)) fun x_61 =>
   if (x_61 != 12) = true then
   (
    oinr (
     some false
    )
   ) else (
    oinl (wI (x_57 + 1))
   )
  ) else (
   oinr (
    loop (F.law11_spoil_L6 x_6 x_13 x_23 x_26) 0
   )
  )
noncomputable def F.law11_spoil_L4 (x_6 : List UInt32) (x_13 : List UInt32) (x_23 : List UInt32) (x_26 : List UInt32) : Int → Option ((Int) ⊕ (Bool))
 | x_51 =>
  if (decide (x_51 < (x_6.length : Int))) = true then
  (
   obind (getO x_6 (x_51 : Int)) fun x_55 =>
   if (x_55 != 11) = true then
   (
    oinr (
     some false
    )
   ) else (
    oinl (wI (x_51 + 1))
   )
  ) else (
   oinr (
    loop (F.law11_spoil_L5 x_13 x_6 x_23 x_26) 0
   )
  )
noncomputable def F.law11_spoil_L3 (x_6 : List UInt32) (x_13 : List UInt32) : List UInt32 × List UInt32 × Int → Option ((List UInt32 × List UInt32 × Int) ⊕ (Bool))
 | (x_23, x_26, x_29) =>
  if (decide (x_29 < 70)) = true then
  (
   obind (apO 4 x_23 ([13] : List UInt32)) fun x_39 =>
   obind (apO 4 x_26 ([14] : List UInt32)) fun x_46 =>
   oinl (x_39, x_46, wI (x_29 + 1))
  ) else (
   oinr (
    loop (F.law11_spoil_L4 x_6 x_13 x_23 x_26) 0
   )
  )
noncomputable def F.law11_spoil_L2 (x_6 : List UInt32) : Int × List UInt32 → Option ((Int × List UInt32) ⊕ (Bool))
 | (x_12, x_13) =>
  if (decide (x_12 < (x_13.length : Int))) = true then
  (
   obind (getO x_13 (x_12 : Int)) fun x_17 =>
   olet (x_13.set (x_12 : Int).toNat 12) fun x_18 =>
   oinl (wI (x_12 + 1), x_18)
  ) else (
   oinr (
    loop (F.law11_spoil_L3 x_6 x_13) (x_6, x_13, 0)
   )
  )
noncomputable def F.law11_spoil_L1 (a0_1 : List UInt32) : Int × List UInt32 → Option ((Int × List UInt32) ⊕ (Bool))
 | (x_5, x_6) =>
  if (decide (x_5 < (x_6.length : Int))) = true then
  (
   obind (getO x_6 (x_5 : Int)) fun x_10 =>
   olet (x_6.set (x_5 : Int).toNat 11) fun x_11 =>
   oinl (wI (x_5 + 1), x_11)
  ) else (
   oinr (
    loop (F.law11_spoil_L2 x_6) (0, a0_1)
   )
  )
noncomputable def F.law11_spoil (a0_0 : List UInt32) (a0_1 : List UInt32) (a0_2 : Bool) : Option (Bool) :=
 loop (F.law11_spoil_L1 a0_1) (0, a0_0)
noncomputable def F.law11_lent (a0_0 : List UInt32) (a0_1 : List UInt32) (a0_2 : Bool) : Option ((List UInt32 × Nat) × (List UInt32 × Nat) × Bool) :=
 obind (F.law11_marked a0_0) fun x_5 =>
 obind (F.law11_marked a0_1) fun x_10 =>
 some ((x_5.1, x_5.2), (x_10.1, x_10.2), a0_2)
noncomputable def F.law11_CurveKnows_K3 (a0 : Int) (a1_0 : List UInt32) (a1_1 : List UInt32) (a1_2 : Bool) (x_3 : (List UInt32 × Nat) × (List UInt32 × Nat) × Bool) : Bool → Option (Bool)
 | x_86 =>
  if x_86 = true then
  (
   obind (F.curve_Field a0) fun x_89 =>
   obind (F.ref11_Field a0) fun x_92 =>
   obind (F.law11_sameNat x_89 x_92) fun x_95 =>
   if x_95 = true then
   (
    obind (F.curve_Order a0) fun x_97 =>
    obind (F.ref11_Order a0) fun x_100 =>
    obind (F.law11_sameNat x_97 x_100) fun x_103 =>
    if x_103 = true then
    (
     obind (F.curve_Base a0) fun x_105 =>
     obind (F.ref11_Base a0) fun x_110 =>
     obind (F.law11_same x_105.1 x_105.2.1 x_105.2.2 x_110.1 x_110.2.1 x_110.2.2) fun x_115 =>
     if x_115 = true then
     (
      obind (F.curve_On a0 (x_3.1.1.take x_3.1.2) (x_3.2.1.1.take x_3.2.1.2) x_3.2.2) fun x_117 =>
      obind (F.ref11_On a0 a1_0 a1_1 a1_2) fun x_118 =>
      some (x_117 == x_118)
     ) else (
      some false
     )
    ) else (
     some false
    )
   ) else (
    some false
   )
  ) else (
   some false
  )
noncomputable def F.law11_CurveKnows_K2 (a0 : Int) (x_25 : List UInt32) (x_28 : List UInt32) (x_31 : List UInt32 × List UInt32 × Bool) (a1_0 : List UInt32) (a1_1 : List UInt32) (a1_2 : Bool) (x_3 : (List UInt32 × Nat) × (List UInt32 × Nat) × Bool) : Bool → Option (Bool)
 | x_67 =>
  if x_67 = true then
  (
   obind (F.ref11_Field a0) fun x_70 =>
   obind (F.law11_sameNat x_25 x_70) fun x_73 =>
   if x_73 = true then
   (
    obind (F.ref11_Order a0) fun x_75 =>
    obind (F.law11_sameNat x_28 x_75) fun x_78 =>
    if x_78 = true then
    (
     obind (F.ref11_Base a0) fun x_80 =>
     obind (F.law11_same x_31.1 x_31.2.1 x_31.2.2 x_80.1 x_80.2.1 x_80.2.2) fun x_85 =>
     F.law11_CurveKnows_K3 a0 a1_0 a1_1 a1_2 x_3 x_85
    ) else (
     F.law11_CurveKnows_K3 a0 a1_0 a1_1 a1_2 x_3 false
    )
   ) else (
    F.law11_CurveKnows_K3 a0 a1_0 a1_1 a1_2 x_3 false
   )
  ) else (
   F.law11_CurveKnows_K3 a0 a1_0 a1_1 a1_2 x_3 false
  )
noncomputable def F.law11_CurveKnows_K1 (x_12 : List UInt32) (x_15 : List UInt32) (x_18 : List UInt32 × List UInt32 × Bool) (a0 : Int) (x_25 : List UInt32) (x_28 : List UInt32) (x_31 : List UInt32 × List UInt32 × Bool) (a1_0 : List UInt32) (a1_1 : List UInt32) (a1_2 : Bool) (x_3 : (List UInt32 × Nat) × (List UInt32 × Nat) × Bool) : Bool → Option (Bool)
 | x_62 =>
  if x_62 = true then
  (
   some false
  ) else (
   obind (F.law11_spoil x_12 x_15 false) fun x_64 =>
   if x_64 = true then
   (
    obind (F.law11_spoil x_18.1 x_18.2.1 x_18.2.2) fun x_66 =>
    F.law11_CurveKnows_K2 a0 x_25 x_28 x_31 a1_0 a1_1 a1_2 x_3 x_66
   ) else (
    F.law11_CurveKnows_K2 a0 x_25 x_28 x_31 a1_0 a1_1 a1_2 x_3 false
   )
  )
noncomputable def F.law11_CurveKnows (a0 : Int) (a1_0 : List UInt32) (a1_1 : List UInt32) (a1_2 : Bool) : Option (Bool) :=
 obind (F.law11_lent a1_0 a1_1 a1_2) fun x_3 =>
 obind (F.curve_Field a0) fun x_12 =>
 obind (F.curve_Order a0) fun x_15 =>
 obind (F.curve_Base a0) fun x_18 =>
 obind (F.curve_Field a0) fun x_25 =>
 obind (F.curve_Order a0) fun x_28 =>
 obind (F.curve_Base a0) fun x_31 =>
 obind (F.ref11_Field a0) fun x_38 =>
 obind (F.law11_sameNat x_12 x_38) fun x_41 =>
 if (!x_41) = true then
 (
  F.law11_CurveKnows_K1 x_12 x_15 x_18 a0 x_25 x_28 x_31 a1_0 a1_1 a1_2 x_3 true
 ) else (
  obind (F.ref11_Order a0) fun x_43 =>
  obind (F.law11_sameNat x_15 x_43) fun x_46 =>
  if (!x_46) = true then
  (
   F.law11_CurveKnows_K1 x_12 x_15 x_18 a0 x_25 x_28 x_31 a1_0 a1_1 a1_2 x_3 true
  ) else (
   obind (F.ref11_Base a0) fun x_48 =>
   obind (F.law11_same x_18.1 x_18.2.1 x_18.2.2 x_48.1 x_48.2.1 x_48.2.2) fun x_53 =>
   if (!x_53) = true then
   (
    F.law11_CurveKnows_K1 x_12 x_15 x_18 a0 x_25 x_28 x_31 a1_0 a1_1 a1_2 x_3 true
   ) else (
    obind (F.curve_Size a0) fun x_55 =>
    obind (F.ref11_Size a0) fun x_56 =>
    if (x_55 != x_56) = true then
    (
     F.law11_CurveKnows_K1 x_12 x_15 x_18 a0 x_25 x_28 x_31 a1_0 a1_1 a1_2 x_3 true
    ) else (
     obind (F.curve_On a0 (x_3.1.1.take x_3.1.2) (x_3.2.1.1.take x_3.2.1.2) x_3.2.2) fun x_58 =>
     obind (F.ref11_On a0 a1_0 a1_1 a1_2) fun x_59 =>
     if (x_58 != x_59) = true then
     (
      F.law11_CurveKnows_K1 x_12 x_15 x_18 a0 x_25 x_28 x_31 a1_0 a1_1 a1_2 x_3 true
     ) else (
      obind (F.law11_still x_3.1.1 x_3.1.2 x_3.2.1.1 x_3.2.1.2 x_3.2.2 a1_0 a1_1 a1_2) fun x_61 =>
      F.law11_CurveKnows_K1 x_12 x_15 x_18 a0 x_25 x_28 x_31 a1_0 a1_1 a1_2 x_3 (!x_61)
     )
    )
   )
  )
 )
end Go.Gk
