import Derived.Test.YtpbgncmffgnohaaGkS
import Derived.Test.YtpbgncmffgnohaaGkFcurve
import Derived.Test.YtpbgncmffgnohaaGkFmodn
import Derived.Test.YtpbgncmffgnohaaGkFnat
import Derived.Test.YtpbgncmffgnohaaGkFref11
set_option linter.unusedVariables false
set_option linter.unusedSimpArgs false
set_option linter.unusedVariables false
namespace Go.Gk
noncomputable def F.law11_marked_L2 (a0 : List UInt32) : List UInt32 × Int → Option ((List UInt32 × Int) ⊕ ((List UInt32 × Nat)))
 | (x_14, x_17) =>
  if (decide (x_17 < 40)) = true then
  (
   obind (apO 4 x_14 ([UInt32.ofInt (wI (7000 + x_17))] : List UInt32)) fun x_23 =>
   oinl (x_23, wI (x_17 + 1))
  ) else (
   oinr (
    grd (0 ≤ ((a0.length : Int) : Int) ∧ ((a0.length : Int) : Int).toNat ≤ x_14.length) <|
    some (x_14, ((a0.length : Int) : Int).toNat)
   )
  )
noncomputable def F.law11_marked_L1 (a0 : List UInt32) : List UInt32 × Int → Option ((List UInt32 × Int) ⊕ ((List UInt32 × Nat)))
 | (x_1, x_4) =>
  if (decide (x_4 < (a0.length : Int))) = true then
  (
   obind (getO a0 (x_4 : Int)) fun x_8 =>
   obind (apO 4 x_1 ([x_8] : List UInt32)) fun x_11 =>
   oinl (x_11, wI (x_4 + 1))
  ) else (
   oinr (
    loop (F.law11_marked_L2 a0) (x_1, 0)
   )
  )
noncomputable def F.law11_marked (a0 : List UInt32) : Option ((List UInt32 × Nat)) :=
 loop (F.law11_marked_L1 a0) ([], 0)
noncomputable def F.law11_sameNat_L1 (a0 : List UInt32) (a1 : List UInt32) : Int → Option ((Int) ⊕ (Bool))
 | x_1 =>
  if (decide (x_1 < (a0.length : Int))) = true then
  (
   obind (getO a0 (x_1 : Int)) fun x_5 =>
   obind (getO a1 (x_1 : Int)) fun x_6 =>
   if (x_5 != x_6) = true then
   (
    oinr (
     some false
    )
   ) else (
    oinl (wI (x_1 + 1))
   )
  ) else (
   oinr (
    some true
   )
  )
noncomputable def F.law11_sameNat (a0 : List UInt32) (a1 : List UInt32) : Option (Bool) :=
 if ((a0.length : Int) != (a1.length : Int)) = true then
 (
  some false
 ) else (
  loop (F.law11_sameNat_L1 a0 a1) 0
 )
noncomputable def F.law11_same (a0_0 : List UInt32) (a0_1 : List UInt32) (a0_2 : Bool) (a1_0 : List UInt32) (a1_1 : List UInt32) (a1_2 : Bool) : Option (Bool) :=
 if (a0_2 == a1_2) = true then
 (
  obind (F.law11_sameNat a0_0 a1_0) fun x_6 =>
  if x_6 = true then
  (
   obind (F.law11_sameNat a0_1 a1_1) fun x_8 =>
   some x_8
  ) else (
   some false
  )
 ) else (
  some false
 )
noncomputable def F.law11_whole_L1 (a0 : List UInt32) (k0 : Nat) (a1 : List UInt32) : Int → Option ((Int) ⊕ (Bool))
 | x_2 =>
  if (decide (x_2 < 40)) = true then
  (
   obind (getO (a0.take ((wI ((a1.length : Int) + 40) : Int).toNat)) (wI ((a1.length : Int) + x_2) : Int)) fun x_6 =>
   if (x_6 != (UInt32.ofInt (wI (7000 + x_2)))) = true then
   (
    oinr (
     some false
    )
   ) else (
    oinl (wI (x_2 + 1))
   )
  ) else (
   oinr (
    obind (F.law11_sameNat (a0.take k0) a1) fun x_8 =>
    some x_8
   )
  )
noncomputable def F.law11_whole (a0 : List UInt32) (k0 : Nat) (a1 : List UInt32) : Option (Bool) :=
 grd (0 ≤ (wI ((a1.length : Int) + 40) : Int) ∧ (wI ((a1.length : Int) + 40) : Int).toNat ≤ a0.length) <|
 loop (F.law11_whole_L1 a0 k0 a1) 0
noncomputable def F.law11_still (a0_0 : List UInt32) (k0_0 : Nat) (a0_1 : List UInt32) (k0_1 : Nat) (a0_2 : Bool) (a1_0 : List UInt32) (a1_1 : List UInt32) (a1_2 : Bool) : Option (Bool) :=
 if (a0_2 == a1_2) = true then
 (
  obind (F.law11_whole a0_0 k0_0 a1_0) fun x_6 =>
  if x_6 = true then
  (
   obind (F.law11_whole a0_1 k0_1 a1_1) fun x_8 =>
   some x_8
  ) else (
   some false
  )
 ) else (
  some false
 )
noncomputable def F.law11_sameBytes_L1 (a0 : List UInt8) (a1 : List UInt8) : Int → Option ((Int) ⊕ (Bool))
 | x_1 =>
  if (decide (x_1 < (a0.length : Int))) = true then
  (
   obind (getO a0 (x_1 : Int)) fun x_5 =>
   obind (getO a1 (x_1 : Int)) fun x_6 =>
   if (x_5 != x_6) = true then
   (
    oinr (
     some false
    )
   ) else (
    oinl (wI (x_1 + 1))
   )
  ) else (
   oinr (
    some true
   )
  )
noncomputable def F.law11_sameBytes (a0 : List UInt8) (a1 : List UInt8) : Option (Bool) :=
 if ((a0.length : Int) != (a1.length : Int)) = true then
 (
  some false
 ) else (
  loop (F.law11_sameBytes_L1 a0 a1) 0
 )
noncomputable def F.law11_spoil_K1 (x_63 : Int) : Bool → Option ((Int) ⊕ (Bool))
 | x_70 =>
  if x_70 = true then
  (
   oinr (
    some false
   )
  ) else (
   oinl (wI (x_63 + 1))
  )
noncomputable def F.law11_spoil_L6 (x_6 : List UInt32) (x_13 : List UInt32) (x_23 : List UInt32) (x_26 : List UInt32) : Int → Option ((Int) ⊕ (Bool))
 | x_63 =>
  if (decide (x_63 < 70)) = true then
  (
   obind (getO x_23 (wI ((x_6.length : Int) + x_63) : Int)) fun x_67 =>
   if (x_67 != 13) = true then
   (
    F.law11_spoil_K1 x_63 true
   ) else (
    obind (getO x_26 (wI ((x_13.length : Int) + x_63) : Int)) fun x_69 =>
    F.law11_spoil_K1 x_63 (x_69 != 14)
   )
  ) else (
   oinr (
    some true
   )
  )
noncomputable def F.law11_spoil_L5 (x_13 : List UInt32) (x_6 : List UInt32) (x_23 : List UInt32) (x_26 : List UInt32) : Int → Option ((Int) ⊕ (Bool))
 | x_57 =>
  if (decide (x_57 < (x_13.length : Int))) = true then
  (
   obind (getO x_13 (x_57 : Int)) fun x_61 =>
   if (x_61 != 12) = true then
   (
    oinr (
     some false
    )
   ) else (
    oinl (wI (x_57 + 1))
   )
  ) else (
   oinr (
    loop (F.law11_spoil_L6 x_6 x_13 x_23 x_26) 0
   )
  )
noncomputable def F.law11_spoil_L4 (x_6 : List UInt32) (x_13 : List UInt32) (x_23 : List UInt32) (x_26 : List UInt32) : Int → Option ((Int) ⊕ (Bool))
 | x_51 =>
  if (decide (x_51 < (x_6.length : Int))) = true then
  (
   obind (getO x_6 (x_51 : Int)) fun x_55 =>
   if (x_55 != 11) = true then
   (
    oinr (
     some false
    )
   ) else (
    oinl (wI (x_51 + 1))
   )
  ) else (
   oinr (
    loop (F.law11_spoil_L5 x_13 x_6 x_23 x_26) 0
   )
  )
noncomputable def F.law11_spoil_L3 (x_6 : List UInt32) (x_13 : List UInt32) : List UInt32 × List UInt32 × Int → Option ((List UInt32 × List UInt32 × Int) ⊕ (Bool))
 | (x_23, x_26, x_29) =>
  if (decide (x_29 < 70)) = true then
  (
   obind (apO 4 x_23 ([13] : List UInt32)) fun x_39 =>
   obind (apO 4 x_26 ([14] : List UInt32)) fun x_46 =>
   oinl (x_39, x_46, wI (x_29 + 1))
  ) else (
   oinr (
    loop (F.law11_spoil_L4 x_6 x_13 x_23 x_26) 0
   )
  )
noncomputable def F.law11_spoil_L2 (x_6 : List UInt32) : Int × List UInt32 → Option ((Int × List UInt32) ⊕ (Bool))
 | (x_12, x_13) =>
  if (decide (x_12 < (x_13.length : Int))) = true then
  (
   obind (getO x_13 (x_12 : Int)) fun x_17 =>
   olet (x_13.set (x_12 : Int).toNat 12) fun x_18 =>
   oinl (wI (x_12 + 1), x_18)
  ) else (
   oinr (
    loop (F.law11_spoil_L3 x_6 x_13) (x_6, x_13, 0)
   )
  )
noncomputable def F.law11_spoil_L1 (a0_1 : List UInt32) : Int × List UInt32 → Option ((Int × List UInt32) ⊕ (Bool))
 | (x_5, x_6) =>
  if (decide (x_5 < (x_6.length : Int))) = true then
  (
   obind (getO x_6 (x_5 : Int)) fun x_10 =>
   olet (x_6.set (x_5 : Int).toNat 11) fun x_11 =>
   oinl (wI (x_5 + 1), x_11)
  ) else (
   oinr (
    loop (F.law11_spoil_L2 x_6) (0, a0_1)
   )
  )
noncomputable def F.law11_spoil (a0_0 : List UInt32) (a0_1 : List UInt32) (a0_2 : Bool) : Option (Bool) :=
 loop (F.law11_spoil_L1 a0_1) (0, a0_0)
noncomputable def F.law11_lent (a0_0 : List UInt32) (a0_1 : List UInt32) (a0_2 : Bool) : Option ((List UInt32 × Nat) × (List UInt32 × Nat) × Bool) :=
 obind (F.law11_marked a0_0) fun x_5 =>
 obind (F.law11_marked a0_1) fun x_10 =>
 some ((x_5.1, x_5.2), (x_10.1, x_10.2), a0_2)
noncomputable def F.law11_CurveKnows_K3 (a0 : Int) (a1_0 : List UInt32) (a1_1 : List UInt32) (a1_2 : Bool) (x_3 : (List UInt32 × Nat) × (List UInt32 × Nat) × Bool) : Bool → Option (Bool)
 | x_86 =>
  if x_86 = true then
  (
   obind (F.curve_Field a0) fun x_89 =>
   obind (F.ref11_Field a0) fun x_92 =>
   obind (F.law11_sameNat x_89 x_92) fun x_95 =>
   if x_95 = true then
   (
    obind (F.curve_Order a0) fun x_97 =>
    obind (F.ref11_Order a0) fun x_100 =>
    obind (F.law11_sameNat x_97 x_100) fun x_103 =>
    if x_103 = true then
    (
     obind (F.curve_Base a0) fun x_105 =>
     obind (F.ref11_Base a0) fun x_110 =>
     obind (F.law11_same x_105.1 x_105.2.1 x_105.2.2 x_110.1 x_110.2.1 x_110.2.2) fun x_115 =>
     if x_115 = true then
     (
      obind (F.curve_On a0 (x_3.1.1.take x_3.1.2) (x_3.2.1.1.take x_3.2.1.2) x_3.2.2) fun x_117 =>
      obind (F.ref11_On a0 a1_0 a1_1 a1_2) fun x_118 =>
      some (x_117 == x_118)
     ) else (
      some false
     )
    ) else (
     some false
    )
   ) else (
    some false
   )
  ) else (
   some false
  )
noncomputable def F.law11_CurveKnows_K2 (a0 : Int) (x_25 : List UInt32) (x_28 : List UInt32) (x_31 : List UInt32 × List UInt32 × Bool) (a1_0 : List UInt32) (a1_1 : List UInt32) (a1_2 : Bool) (x_3 : (List UInt32 × Nat) × (List UInt32 × Nat) × Bool) : Bool → Option (Bool)
 | x_67 =>
  if x_67 = true then
  (
   obind (F.ref11_Field a0) fun x_70 =>
   obind (F.law11_sameNat x_25 x_70) fun x_73 =>
   if x_73 = true then
   (
    obind (F.ref11_Order a0) fun x_75 =>
    obind (F.law11_sameNat x_28 x_75) fun x_78 =>
    if x_78 = true then
    (
     obind (F.ref11_Base a0) fun x_80 =>
     obind (F.law11_same x_31.1 x_31.2.1 x_31.2.2 x_80.1 x_80.2.1 x_80.2.2) fun x_85 =>
     F.law11_CurveKnows_K3 a0 a1_0 a1_1 a1_2 x_3 x_85
    ) else (
     F.law11_CurveKnows_K3 a0 a1_0 a1_1 a1_2 x_3 false
    )
   ) else (
    F.law11_CurveKnows_K3 a0 a1_0 a1_1 a1_2 x_3 false
   )
  ) else (
   F.law11_CurveKnows_K3 a0 a1_0 a1_1 a1_2 x_3 false
  )
noncomputable def F.law11_CurveKnows_K1 (x_12 : List UInt32) (x_15 : List UInt32) (x_18 : List UInt32 × List UInt32 × Bool) (a0 : Int) (x_25 : List UInt32) (x_28 : List UInt32) (x_31 : List UInt32 × List UInt32 × Bool) (a1_0 : List UInt32) (a1_1 : List UInt32) (a1_2 : Bool) (x_3 : (List UInt32 × Nat) × (List UInt32 × Nat) × Bool) : Bool → Option (Bool)
 | x_62 =>
  if x_62 = true then
  (
   some false
  ) else (
   obind (F.law11_spoil x_12 x_15 false) fun x_64 =>
   if x_64 = true then
   (
    obind (F.law11_spoil x_18.1 x_18.2.1 x_18.2.2) fun x_66 =>
    F.law11_CurveKnows_K2 a0 x_25 x_28 x_31 a1_0 a1_1 a1_2 x_3 x_66
   ) else (
    F.law11_CurveKnows_K2 a0 x_25 x_28 x_31 a1_0 a1_1 a1_2 x_3 false
   )
  )
noncomputable def F.law11_CurveKnows (a0 : Int) (a1_0 : List UInt32) (a1_1 : List UInt32) (a1_2 : Bool) : Option (Bool) :=
 obind (F.law11_lent a1_0 a1_1 a1_2) fun x_3 =>
 obind (F.curve_Field a0) fun x_12 =>
 obind (F.curve_Order a0) fun x_15 =>
 obind (F.curve_Base a0) fun x_18 =>
 obind (F.curve_Field a0) fun x_25 =>
 obind (F.curve_Order a0) fun x_28 =>
 obind (F.curve_Base a0) fun x_31 =>
 obind (F.ref11_Field a0) fun x_38 =>
 obind (F.law11_sameNat x_12 x_38) fun x_41 =>
 if (!x_41) = true then
 (
  F.law11_CurveKnows_K1 x_12 x_15 x_18 a0 x_25 x_28 x_31 a1_0 a1_1 a1_2 x_3 true
 ) else (
  obind (F.ref11_Order a0) fun x_43 =>
  obind (F.law11_sameNat x_15 x_43) fun x_46 =>
  if (!x_46) = true then
  (
   F.law11_CurveKnows_K1 x_12 x_15 x_18 a0 x_25 x_28 x_31 a1_0 a1_1 a1_2 x_3 true
  ) else (
   obind (F.ref11_Base a0) fun x_48 =>
   obind (F.law11_same x_18.1 x_18.2.1 x_18.2.2 x_48.1 x_48.2.1 x_48.2.2) fun x_53 =>
   if (!x_53) = true then
   (
    F.law11_CurveKnows_K1 x_12 x_15 x_18 a0 x_25 x_28 x_31 a1_0 a1_1 a1_2 x_3 true
   ) else (
    obind (F.curve_Size a0) fun x_55 =>
    obind (F.ref11_Size a0) fun x_56 =>
    if (x_55 != x_56) = true then
    (
     F.law11_CurveKnows_K1 x_12 x_15 x_18 a0 x_25 x_28 x_31 a1_0 a1_1 a1_2 x_3 true
    ) else (
     obind (F.curve_On a0 (x_3.1.1.take x_3.1.2) (x_3.2.1.1.take x_3.2.1.2) x_3.2.2) fun x_58 =>
     obind (F.ref11_On a0 a1_0 a1_1 a1_2) fun x_59 =>
     if (x_58 != x_59) = true then
     (
      F.law11_CurveKnows_K1 x_12 x_15 x_18 a0 x_25 x_28 x_31 a1_0 a1_1 a1_2 x_3 true
     ) else (
      obind (F.law11_still x_3.1.1 x_3.1.2 x_3.2.1.1 x_3.2.1.2 x_3.2.2 a1_0 a1_1 a1_2) fun x_61 =>
      F.law11_CurveKnows_K1 x_12 x_15 x_18 a0 x_25 x_28 x_31 a1_0 a1_1 a1_2 x_3 (!x_61)
     )
    )
   )
  )
 )
noncomputable def F.law11_lentBytes_L2 (a0 : List UInt8) : List UInt8 × Int → Option ((List UInt8 × Int) ⊕ ((List UInt8 × Nat)))
 | (x_14, x_17) =>
  if (decide (x_17 < 60)) = true then
  (
   obind (apO 1 x_14 [UInt8.ofInt (wI (90 + x_17))]) fun x_23 =>
   oinl (x_23, wI (x_17 + 1))
  ) else (
   oinr (
    grd (0 ≤ ((a0.length : Int) : Int) ∧ ((a0.length : Int) : Int).toNat ≤ x_14.length) <|
    some (x_14, ((a0.length : Int) : Int).toNat)
   )
  )
noncomputable def F.law11_lentBytes_L1 (a0 : List UInt8) : List UInt8 × Int → Option ((List UInt8 × Int) ⊕ ((List UInt8 × Nat)))
 | (x_1, x_4) =>
  if (decide (x_4 < (a0.length : Int))) = true then
  (
   obind (getO a0 (x_4 : Int)) fun x_8 =>
   obind (apO 1 x_1 [x_8]) fun x_11 =>
   oinl (x_11, wI (x_4 + 1))
  ) else (
   oinr (
    loop (F.law11_lentBytes_L2 a0) (x_1, 0)
   )
  )
noncomputable def F.law11_lentBytes (a0 : List UInt8) : Option ((List UInt8 × Nat)) :=
 loop (F.law11_lentBytes_L1 a0) ([], 0)
noncomputable def F.law11_wholeBytes_L1 (a0 : List UInt8) (k0 : Nat) (a1 : List UInt8) : Int → Option ((Int) ⊕ (Bool))
 | x_2 =>
  if (decide (x_2 < 60)) = true then
  (
   obind (getO (a0.take ((wI ((a1.length : Int) + 60) : Int).toNat)) (wI ((a1.length : Int) + x_2) : Int)) fun x_6 =>
   if (x_6 != (UInt8.ofInt (wI (90 + x_2)))) = true then
   (
    oinr (
     some false
    )
   ) else (
    oinl (wI (x_2 + 1))
   )
  ) else (
   oinr (
    obind (F.law11_sameBytes (a0.take k0) a1) fun x_8 =>
    some x_8
   )
  )
noncomputable def F.law11_wholeBytes (a0 : List UInt8) (k0 : Nat) (a1 : List UInt8) : Option (Bool) :=
 grd (0 ≤ (wI ((a1.length : Int) + 60) : Int) ∧ (wI ((a1.length : Int) + 60) : Int).toNat ≤ a0.length) <|
 loop (F.law11_wholeBytes_L1 a0 k0 a1) 0
noncomputable def F.law11_over_K1 (x_7 : Int) : List UInt32 → Option ((Int × List UInt32) ⊕ (List UInt32 × List UInt32))
 | x_18 =>
  oinl (wI (x_7 + 1), x_18)
noncomputable def F.law11_over_K2 (x_20 : Int) : List UInt32 → Option ((Int × List UInt32) ⊕ (List UInt32 × List UInt32))
 | x_31 =>
  oinl (wI (x_20 + 1), x_31)
noncomputable def F.law11_over_L2 (a1_1 : List UInt32) (x_8 : List UInt32) : Int × List UInt32 → Option ((Int × List UInt32) ⊕ (List UInt32 × List UInt32))
 | (x_20, x_21) =>
  if (decide (x_20 < (x_21.length : Int))) = true then
  (
   obind (getO x_21 (x_20 : Int)) fun x_25 =>
   olet (x_21.set (x_20 : Int).toNat 0) fun x_26 =>
   if (decide (x_20 < (a1_1.length : Int))) = true then
   (
    obind (getO a1_1 (x_20 : Int)) fun x_27 =>
    obind (getO x_26 (x_20 : Int)) fun x_28 =>
    olet (x_26.set (x_20 : Int).toNat x_27) fun x_29 =>
    F.law11_over_K2 x_20 x_29
   ) else (
    F.law11_over_K2 x_20 x_26
   )
  ) else (
   oinr (
    some (x_8, x_21)
   )
  )
noncomputable def F.law11_over_L1 (a0_1 : List UInt32) (a1_0 : List UInt32) (a1_1 : List UInt32) : Int × List UInt32 → Option ((Int × List UInt32) ⊕ (List UInt32 × List UInt32))
 | (x_7, x_8) =>
  if (decide (x_7 < (x_8.length : Int))) = true then
  (
   obind (getO x_8 (x_7 : Int)) fun x_12 =>
   olet (x_8.set (x_7 : Int).toNat 0) fun x_13 =>
   if (decide (x_7 < (a1_0.length : Int))) = true then
   (
    obind (getO a1_0 (x_7 : Int)) fun x_14 =>
    obind (getO x_13 (x_7 : Int)) fun x_15 =>
    olet (x_13.set (x_7 : Int).toNat x_14) fun x_16 =>
    F.law11_over_K1 x_7 x_16
   ) else (
    F.law11_over_K1 x_7 x_13
   )
  ) else (
   oinr (
    loop (F.law11_over_L2 a1_1 x_8) (0, a0_1)
   )
  )
noncomputable def F.law11_over (a0_0 : List UInt32) (a0_1 : List UInt32) (a0_2 : Bool) (a1_0 : List UInt32) (a1_1 : List UInt32) (a1_2 : Bool) : Option (List UInt32 × List UInt32) :=
 loop (F.law11_over_L1 a0_1 a1_0 a1_1) (0, a0_0)
noncomputable def F.law11_copied_L2 (a0_1 : List UInt32) (a0_2 : Bool) (x_8 : List UInt32) : Int × List UInt32 → Option ((Int × List UInt32) ⊕ (List UInt32 × List UInt32 × Bool))
 | (x_20, x_21) =>
  if (decide (x_20 < (a0_1.length : Int))) = true then
  (
   obind (getO a0_1 (x_20 : Int)) fun x_27 =>
   obind (apO 4 x_21 ([x_27] : List UInt32)) fun x_30 =>
   oinl (wI (x_20 + 1), x_30)
  ) else (
   oinr (
    some (x_8, x_21, a0_2)
   )
  )
noncomputable def F.law11_copied_L1 (a0_0 : List UInt32) (a0_1 : List UInt32) (a0_2 : Bool) : Int × List UInt32 → Option ((Int × List UInt32) ⊕ (List UInt32 × List UInt32 × Bool))
 | (x_7, x_8) =>
  if (decide (x_7 < (a0_0.length : Int))) = true then
  (
   obind (getO a0_0 (x_7 : Int)) fun x_14 =>
   obind (apO 4 x_8 ([x_14] : List UInt32)) fun x_17 =>
   oinl (wI (x_7 + 1), x_17)
  ) else (
   oinr (
    loop (F.law11_copied_L2 a0_1 a0_2 x_8) (0, [])
   )
  )
noncomputable def F.law11_copied (a0_0 : List UInt32) (a0_1 : List UInt32) (a0_2 : Bool) : Option (List UInt32 × List UInt32 × Bool) :=
 loop (F.law11_copied_L1 a0_0 a0_1 a0_2) (0, [])
noncomputable def F.law11_CurveCodes_K2 (x_117 : Int) : Bool → Option ((Int) ⊕ (Bool))
 | x_124 =>
  if x_124 = true then
  (
   oinr (
    some false
   )
  ) else (
   oinl (wI (x_117 + 1))
  )
noncomputable def F.law11_CurveCodes_K3 (x_127 : Int) : Bool → Option ((Int) ⊕ (Bool))
 | x_134 =>
  if x_134 = true then
  (
   oinr (
    some false
   )
  ) else (
   oinl (wI (x_127 + 1))
  )
noncomputable def F.law11_CurveCodes_K5 (x_162 : Int) : List UInt8 → Option ((Int × List UInt8) ⊕ (Bool))
 | x_174 =>
  oinl (wI (x_162 + 1), x_174)
noncomputable def F.law11_CurveCodes_K6 (x_177 : Int) : List UInt8 → Option ((Int × List UInt8) ⊕ (Bool))
 | x_189 =>
  oinl (wI (x_177 + 1), x_189)
noncomputable def F.law11_CurveCodes_L7 (a0 : Int) (x_3 : (List UInt32 × Nat) × (List UInt32 × Nat) × Bool) (x_12 : (List UInt8 × Nat)) (x_16 : (List UInt8 × Nat)) (x_157 : List UInt8 × List UInt8 × Int) (x_163 : List UInt8) : Int × List UInt8 → Option ((Int × List UInt8) ⊕ (Bool))
 | (x_177, x_178) =>
  if (decide (x_177 < ((x_178.take x_16.2).length : Int))) = true then
  (
   obind (getO (x_178.take x_16.2) (x_177 : Int)) fun x_183 =>
   olet (x_178.set (x_177 : Int).toNat 0) fun x_184 =>
   if (decide (x_177 < (x_157.2.1.length : Int))) = true then
   (
    obind (getO x_157.2.1 (x_177 : Int)) fun x_185 =>
    obind (getO (x_184.take x_16.2) (x_177 : Int)) fun x_186 =>
    olet (x_184.set (x_177 : Int).toNat x_185) fun x_187 =>
    F.law11_CurveCodes_K6 x_177 x_187
   ) else (
    F.law11_CurveCodes_K6 x_177 x_184
   )
  ) else (
   oinr (
    obind (F.ref11_Base a0) fun x_192 =>
    obind (F.law11_over (x_3.1.1.take x_3.1.2) (x_3.2.1.1.take x_3.2.1.2) x_3.2.2 x_192.1 x_192.2.1 x_192.2.2) fun x_197 =>
    obind (F.law11_lentBytes (x_163.take x_12.2)) fun x_198 =>
    obind (F.law11_lentBytes (x_178.take x_16.2)) fun x_202 =>
    obind (F.ref11_Decode a0 (x_198.1.take x_198.2) (x_202.1.take x_202.2)) fun x_206 =>
    obind (F.law11_copied x_197.1 x_197.2 x_3.2.2) fun x_213 =>
    obind (F.ref11_Encode a0 x_213.1 x_213.2.1 x_213.2.2) fun x_218 =>
    obind (F.curve_Decode a0 (x_163.take x_12.2) (x_178.take x_16.2)) fun x_223 =>
    obind (F.curve_Encode a0 x_197.1 x_197.2 x_3.2.2) fun x_230 =>
    obind (F.law11_same x_223.1 x_223.2.1 x_223.2.2.1 x_206.1 x_206.2.1 x_206.2.2.1) fun x_235 =>
    if x_235 = true then
    (
     if (x_223.2.2.2 == x_206.2.2.2) = true then
     (
      obind (F.law11_sameBytes x_230.1 x_218.1) fun x_238 =>
      if x_238 = true then
      (
       obind (F.law11_sameBytes x_230.2.1 x_218.2.1) fun x_240 =>
       if x_240 = true then
       (
        some (x_230.2.2 == x_218.2.2)
       ) else (
        some false
       )
      ) else (
       some false
      )
     ) else (
      some false
     )
    ) else (
     some false
    )
   )
  )
noncomputable def F.law11_CurveCodes_L6 (x_12 : (List UInt8 × Nat)) (x_16 : (List UInt8 × Nat)) (x_157 : List UInt8 × List UInt8 × Int) (a0 : Int) (x_3 : (List UInt32 × Nat) × (List UInt32 × Nat) × Bool) : Int × List UInt8 → Option ((Int × List UInt8) ⊕ (Bool))
 | (x_162, x_163) =>
  if (decide (x_162 < ((x_163.take x_12.2).length : Int))) = true then
  (
   obind (getO (x_163.take x_12.2) (x_162 : Int)) fun x_168 =>
   olet (x_163.set (x_162 : Int).toNat 0) fun x_169 =>
   if (decide (x_162 < (x_157.1.length : Int))) = true then
   (
    obind (getO x_157.1 (x_162 : Int)) fun x_170 =>
    obind (getO (x_169.take x_12.2) (x_162 : Int)) fun x_171 =>
    olet (x_169.set (x_162 : Int).toNat x_170) fun x_172 =>
    F.law11_CurveCodes_K5 x_162 x_172
   ) else (
    F.law11_CurveCodes_K5 x_162 x_169
   )
  ) else (
   oinr (
    loop (F.law11_CurveCodes_L7 a0 x_3 x_12 x_16 x_157 x_163) (0, x_16.1)
   )
  )
noncomputable def F.law11_CurveCodes_K4 (a0 : Int) (x_12 : (List UInt8 × Nat)) (x_16 : (List UInt8 × Nat)) (x_3 : (List UInt32 × Nat) × (List UInt32 × Nat) × Bool) : Bool → Option (Bool)
 | x_150 =>
  if x_150 = true then
  (
   some false
  ) else (
   obind (F.ref11_Base a0) fun x_152 =>
   obind (F.ref11_Encode a0 x_152.1 x_152.2.1 x_152.2.2) fun x_157 =>
   loop (F.law11_CurveCodes_L6 x_12 x_16 x_157 a0 x_3) (0, x_12.1)
  )
noncomputable def F.law11_CurveCodes_L5 (a1 : List UInt8) (a2 : List UInt8) (a3_0 : List UInt32) (a3_1 : List UInt32) (a3_2 : Bool) (x_3 : (List UInt32 × Nat) × (List UInt32 × Nat) × Bool) (x_12 : (List UInt8 × Nat)) (x_16 : (List UInt8 × Nat)) (x_20 : List UInt32 × List UInt32 × Bool × Int) (x_32 : List UInt32 × List UInt32 × Bool × Int) (x_39 : List UInt8 × List UInt8 × Int) (x_44 : List UInt32 × List UInt32 × Bool × Int) (x_51 : List UInt8 × List UInt8 × Int) (x_72 : List UInt8) (x_79 : List UInt8) (x_89 : List UInt8) (x_92 : List UInt8) (a0 : Int) : Int → Option ((Int) ⊕ (Bool))
 | x_127 =>
  if (decide (x_127 < 80)) = true then
  (
   obind (getO x_89 (wI ((x_72.length : Int) + x_127) : Int)) fun x_131 =>
   if (x_131 != 23) = true then
   (
    F.law11_CurveCodes_K3 x_127 true
   ) else (
    obind (getO x_92 (wI ((x_79.length : Int) + x_127) : Int)) fun x_133 =>
    F.law11_CurveCodes_K3 x_127 (x_133 != 24)
   )
  ) else (
   oinr (
    obind (F.law11_spoil x_20.1 x_20.2.1 x_20.2.2.1) fun x_137 =>
    if (!x_137) = true then
    (
     F.law11_CurveCodes_K4 a0 x_12 x_16 x_3 true
    ) else (
     obind (F.law11_still x_3.1.1 x_3.1.2 x_3.2.1.1 x_3.2.1.2 x_3.2.2 a3_0 a3_1 a3_2) fun x_139 =>
     if (!x_139) = true then
     (
      F.law11_CurveCodes_K4 a0 x_12 x_16 x_3 true
     ) else (
      obind (F.law11_wholeBytes x_12.1 x_12.2 a1) fun x_141 =>
      if (!x_141) = true then
      (
       F.law11_CurveCodes_K4 a0 x_12 x_16 x_3 true
      ) else (
       obind (F.law11_wholeBytes x_16.1 x_16.2 a2) fun x_143 =>
       if (!x_143) = true then
       (
        F.law11_CurveCodes_K4 a0 x_12 x_16 x_3 true
       ) else (
        obind (F.law11_same x_32.1 x_32.2.1 x_32.2.2.1 x_44.1 x_44.2.1 x_44.2.2.1) fun x_145 =>
        if (!x_145) = true then
        (
         F.law11_CurveCodes_K4 a0 x_12 x_16 x_3 true
        ) else (
         obind (F.law11_sameBytes x_39.1 x_51.1) fun x_147 =>
         if (!x_147) = true then
         (
          F.law11_CurveCodes_K4 a0 x_12 x_16 x_3 true
         ) else (
          obind (F.law11_sameBytes x_39.2.1 x_51.2.1) fun x_149 =>
          F.law11_CurveCodes_K4 a0 x_12 x_16 x_3 (!x_149)
         )
        )
       )
      )
     )
    )
   )
  )
noncomputable def F.law11_CurveCodes_L4 (x_72 : List UInt8) (x_79 : List UInt8) (a1 : List UInt8) (a2 : List UInt8) (a3_0 : List UInt32) (a3_1 : List UInt32) (a3_2 : Bool) (x_3 : (List UInt32 × Nat) × (List UInt32 × Nat) × Bool) (x_12 : (List UInt8 × Nat)) (x_16 : (List UInt8 × Nat)) (x_20 : List UInt32 × List UInt32 × Bool × Int) (x_32 : List UInt32 × List UInt32 × Bool × Int) (x_39 : List UInt8 × List UInt8 × Int) (x_44 : List UInt32 × List UInt32 × Bool × Int) (x_51 : List UInt8 × List UInt8 × Int) (x_89 : List UInt8) (x_92 : List UInt8) (a0 : Int) : Int → Option ((Int) ⊕ (Bool))
 | x_117 =>
  if (decide (x_117 < (x_72.length : Int))) = true then
  (
   obind (getO x_72 (x_117 : Int)) fun x_121 =>
   if (x_121 != 21) = true then
   (
    F.law11_CurveCodes_K2 x_117 true
   ) else (
    obind (getO x_79 (x_117 : Int)) fun x_123 =>
    F.law11_CurveCodes_K2 x_117 (x_123 != 22)
   )
  ) else (
   oinr (
    loop (F.law11_CurveCodes_L5 a1 a2 a3_0 a3_1 a3_2 x_3 x_12 x_16 x_20 x_32 x_39 x_44 x_51 x_72 x_79 x_89 x_92 a0) 0
   )
  )
noncomputable def F.law11_CurveCodes_L3 (x_72 : List UInt8) (x_79 : List UInt8) (a1 : List UInt8) (a2 : List UInt8) (a3_0 : List UInt32) (a3_1 : List UInt32) (a3_2 : Bool) (x_3 : (List UInt32 × Nat) × (List UInt32 × Nat) × Bool) (x_12 : (List UInt8 × Nat)) (x_16 : (List UInt8 × Nat)) (x_20 : List UInt32 × List UInt32 × Bool × Int) (x_32 : List UInt32 × List UInt32 × Bool × Int) (x_39 : List UInt8 × List UInt8 × Int) (x_44 : List UInt32 × List UInt32 × Bool × Int) (x_51 : List UInt8 × List UInt8 × Int) (a0 : Int) : List UInt8 × List UInt8 × Int → Option ((List UInt8 × List UInt8 × Int) ⊕ (Bool))
 | (x_89, x_92, x_95) =>
  if (decide (x_95 < 80)) = true then
  (
   obind (apO 1 x_89 [23]) fun x_105 =>
   obind (apO 1 x_92 [24]) fun x_112 =>
   oinl (x_105, x_112, wI (x_95 + 1))
  ) else (
   oinr (
    loop (F.law11_CurveCodes_L4 x_72 x_79 a1 a2 a3_0 a3_1 a3_2 x_3 x_12 x_16 x_20 x_32 x_39 x_44 x_51 x_89 x_92 a0) 0
   )
  )
noncomputable def F.law11_CurveCodes_L2 (x_72 : List UInt8) (a1 : List UInt8) (a2 : List UInt8) (a3_0 : List UInt32) (a3_1 : List UInt32) (a3_2 : Bool) (x_3 : (List UInt32 × Nat) × (List UInt32 × Nat) × Bool) (x_12 : (List UInt8 × Nat)) (x_16 : (List UInt8 × Nat)) (x_20 : List UInt32 × List UInt32 × Bool × Int) (x_32 : List UInt32 × List UInt32 × Bool × Int) (x_39 : List UInt8 × List UInt8 × Int) (x_44 : List UInt32 × List UInt32 × Bool × Int) (x_51 : List UInt8 × List UInt8 × Int) (a0 : Int) : Int × List UInt8 → Option ((Int × List UInt8) ⊕ (Bool))
 | (x_78, x_79) =>
  if (decide (x_78 < (x_79.length : Int))) = true then
  (
   obind (getO x_79 (x_78 : Int)) fun x_83 =>
   olet (x_79.set (x_78 : Int).toNat 22) fun x_84 =>
   oinl (wI (x_78 + 1), x_84)
  ) else (
   oinr (
    loop (F.law11_CurveCodes_L3 x_72 x_79 a1 a2 a3_0 a3_1 a3_2 x_3 x_12 x_16 x_20 x_32 x_39 x_44 x_51 a0) (x_72, x_79, 0)
   )
  )
noncomputable def F.law11_CurveCodes_L1 (x_27 : List UInt8 × List UInt8 × Int) (a1 : List UInt8) (a2 : List UInt8) (a3_0 : List UInt32) (a3_1 : List UInt32) (a3_2 : Bool) (x_3 : (List UInt32 × Nat) × (List UInt32 × Nat) × Bool) (x_12 : (List UInt8 × Nat)) (x_16 : (List UInt8 × Nat)) (x_20 : List UInt32 × List UInt32 × Bool × Int) (x_32 : List UInt32 × List UInt32 × Bool × Int) (x_39 : List UInt8 × List UInt8 × Int) (x_44 : List UInt32 × List UInt32 × Bool × Int) (x_51 : List UInt8 × List UInt8 × Int) (a0 : Int) : Int × List UInt8 → Option ((Int × List UInt8) ⊕ (Bool))
 | (x_71, x_72) =>
  if (decide (x_71 < (x_72.length : Int))) = true then
  (
   obind (getO x_72 (x_71 : Int)) fun x_76 =>
   olet (x_72.set (x_71 : Int).toNat 21) fun x_77 =>
   oinl (wI (x_71 + 1), x_77)
  ) else (
   oinr (
    loop (F.law11_CurveCodes_L2 x_72 a1 a2 a3_0 a3_1 a3_2 x_3 x_12 x_16 x_20 x_32 x_39 x_44 x_51 a0) (0, x_27.2.1)
   )
  )
noncomputable def F.law11_CurveCodes_K1 (x_27 : List UInt8 × List UInt8 × Int) (a1 : List UInt8) (a2 : List UInt8) (a3_0 : List UInt32) (a3_1 : List UInt32) (a3_2 : Bool) (x_3 : (List UInt32 × Nat) × (List UInt32 × Nat) × Bool) (x_12 : (List UInt8 × Nat)) (x_16 : (List UInt8 × Nat)) (x_20 : List UInt32 × List UInt32 × Bool × Int) (x_32 : List UInt32 × List UInt32 × Bool × Int) (x_39 : List UInt8 × List UInt8 × Int) (x_44 : List UInt32 × List UInt32 × Bool × Int) (x_51 : List UInt8 × List UInt8 × Int) (a0 : Int) : Bool → Option (Bool)
 | x_69 =>
  if x_69 = true then
  (
   some false
  ) else (
   loop (F.law11_CurveCodes_L1 x_27 a1 a2 a3_0 a3_1 a3_2 x_3 x_12 x_16 x_20 x_32 x_39 x_44 x_51 a0) (0, x_27.1)
  )
noncomputable def F.law11_CurveCodes (a0 : Int) (a1 : List UInt8) (a2 : List UInt8) (a3_0 : List UInt32) (a3_1 : List UInt32) (a3_2 : Bool) : Option (Bool) :=
 obind (F.law11_lent a3_0 a3_1 a3_2) fun x_3 =>
 obind (F.law11_lentBytes a1) fun x_12 =>
 obind (F.law11_lentBytes a2) fun x_16 =>
 obind (F.curve_Decode a0 (x_12.1.take x_12.2) (x_16.1.take x_16.2)) fun x_20 =>
 obind (F.curve_Encode a0 (x_3.1.1.take x_3.1.2) (x_3.2.1.1.take x_3.2.1.2) x_3.2.2) fun x_27 =>
 obind (F.curve_Decode a0 (x_12.1.take x_12.2) (x_16.1.take x_16.2)) fun x_32 =>
 obind (F.curve_Encode a0 (x_3.1.1.take x_3.1.2) (x_3.2.1.1.take x_3.2.1.2) x_3.2.2) fun x_39 =>
 obind (F.ref11_Decode a0 a1 a2) fun x_44 =>
 obind (F.ref11_Encode a0 a3_0 a3_1 a3_2) fun x_51 =>
 obind (F.law11_same x_20.1 x_20.2.1 x_20.2.2.1 x_44.1 x_44.2.1 x_44.2.2.1) fun x_56 =>
 if (!x_56) = true then
 (
  F.law11_CurveCodes_K1 x_27 a1 a2 a3_0 a3_1 a3_2 x_3 x_12 x_16 x_20 x_32 x_39 x_44 x_51 a0 true
 ) else (
  if (x_20.2.2.2 != x_44.2.2.2) = true then
  (
   F.law11_CurveCodes_K1 x_27 a1 a2 a3_0 a3_1 a3_2 x_3 x_12 x_16 x_20 x_32 x_39 x_44 x_51 a0 true
  ) else (
   obind (F.law11_sameBytes x_27.1 x_51.1) fun x_59 =>
   if (!x_59) = true then
   (
    F.law11_CurveCodes_K1 x_27 a1 a2 a3_0 a3_1 a3_2 x_3 x_12 x_16 x_20 x_32 x_39 x_44 x_51 a0 true
   ) else (
    obind (F.law11_sameBytes x_27.2.1 x_51.2.1) fun x_61 =>
    if (!x_61) = true then
    (
     F.law11_CurveCodes_K1 x_27 a1 a2 a3_0 a3_1 a3_2 x_3 x_12 x_16 x_20 x_32 x_39 x_44 x_51 a0 true
    ) else (
     if (x_27.2.2 != x_51.2.2) = true then
     (
      F.law11_CurveCodes_K1 x_27 a1 a2 a3_0 a3_1 a3_2 x_3 x_12 x_16 x_20 x_32 x_39 x_44 x_51 a0 true
     ) else (
      obind (F.law11_still x_3.1.1 x_3.1.2 x_3.2.1.1 x_3.2.1.2 x_3.2.2 a3_0 a3_1 a3_2) fun x_64 =>
      if (!x_64) = true then
      (
       F.law11_CurveCodes_K1 x_27 a1 a2 a3_0 a3_1 a3_2 x_3 x_12 x_16 x_20 x_32 x_39 x_44 x_51 a0 true
      ) else (
       obind (F.law11_wholeBytes x_12.1 x_12.2 a1) fun x_66 =>
       if (!x_66) = true then
       (
        F.law11_CurveCodes_K1 x_27 a1 a2 a3_0 a3_1 a3_2 x_3 x_12 x_16 x_20 x_32 x_39 x_44 x_51 a0 true
       ) else (
        obind (F.law11_wholeBytes x_16.1 x_16.2 a2) fun x_68 =>
        F.law11_CurveCodes_K1 x_27 a1 a2 a3_0 a3_1 a3_2 x_3 x_12 x_16 x_20 x_32 x_39 x_44 x_51 a0 (!x_68)
       )
      )
     )
    )
   )
  )
 )
noncomputable def F.law11_CurveSums_K2 (a0 : Int) (a2_0 : List UInt32) (a2_1 : List UInt32) (a2_2 : Bool) (x_5 : (List UInt32 × Nat) × (List UInt32 × Nat) × Bool) (x_14 : (List UInt32 × Nat) × (List UInt32 × Nat) × Bool) : Bool → Option (Bool)
 | x_109 =>
  if x_109 = true then
  (
   some false
  ) else (
   obind (F.law11_over (x_5.1.1.take x_5.1.2) (x_5.2.1.1.take x_5.2.1.2) x_5.2.2 a2_0 a2_1 a2_2) fun x_111 =>
   obind (F.ref11_Base a0) fun x_112 =>
   obind (F.law11_over (x_14.1.1.take x_14.1.2) (x_14.2.1.1.take x_14.2.1.2) x_14.2.2 x_112.1 x_112.2.1 x_112.2.2) fun x_117 =>
   obind (F.law11_copied x_111.1 x_111.2 x_5.2.2) fun x_118 =>
   obind (F.ref11_Neg a0 x_118.1 x_118.2.1 x_118.2.2) fun x_123 =>
   obind (F.law11_copied x_111.1 x_111.2 x_5.2.2) fun x_130 =>
   obind (F.law11_copied x_117.1 x_117.2 x_14.2.2) fun x_135 =>
   obind (F.ref11_Add a0 x_130.1 x_130.2.1 x_130.2.2 x_135.1 x_135.2.1 x_135.2.2) fun x_140 =>
   obind (F.law11_copied x_111.1 x_111.2 x_5.2.2) fun x_150 =>
   obind (F.ref11_On a0 x_150.1 x_150.2.1 x_150.2.2) fun x_155 =>
   obind (F.curve_Neg a0 x_111.1 x_111.2 x_5.2.2) fun x_156 =>
   obind (F.curve_Add a0 x_111.1 x_111.2 x_5.2.2 x_117.1 x_117.2 x_14.2.2) fun x_163 =>
   obind (F.law11_same x_156.1 x_156.2.1 x_156.2.2.1 x_123.1 x_123.2.1 x_123.2.2.1) fun x_170 =>
   if x_170 = true then
   (
    if (x_156.2.2.2 == x_123.2.2.2) = true then
    (
     obind (F.law11_same x_163.1 x_163.2.1 x_163.2.2.1 x_140.1 x_140.2.1 x_140.2.2.1) fun x_173 =>
     if x_173 = true then
     (
      if (x_163.2.2.2 == x_140.2.2.2) = true then
      (
       obind (F.curve_On a0 x_111.1 x_111.2 x_5.2.2) fun x_176 =>
       some (x_176 == x_155)
      ) else (
       some false
      )
     ) else (
      some false
     )
    ) else (
     some false
    )
   ) else (
    some false
   )
  )
noncomputable def F.law11_CurveSums_K1 (a0 : Int) (a1_0 : List UInt32) (a1_1 : List UInt32) (a1_2 : Bool) (a2_0 : List UInt32) (a2_1 : List UInt32) (a2_2 : Bool) (x_5 : (List UInt32 × Nat) × (List UInt32 × Nat) × Bool) (x_14 : (List UInt32 × Nat) × (List UInt32 × Nat) × Bool) (x_23 : List UInt32 × List UInt32 × Bool × Int) (x_30 : List UInt32 × List UInt32 × Bool × Int) (x_37 : List UInt32 × List UInt32 × Bool × Int) (x_44 : List UInt32 × List UInt32 × Bool × Int) (x_51 : List UInt32 × List UInt32 × Bool × Int) : Bool → Option (Bool)
 | x_70 =>
  if x_70 = true then
  (
   some false
  ) else (
   obind (F.curve_Neg a0 (x_5.1.1.take x_5.1.2) (x_5.2.1.1.take x_5.2.1.2) x_5.2.2) fun x_72 =>
   obind (F.law11_spoil x_23.1 x_23.2.1 x_23.2.2.1) fun x_79 =>
   if (!x_79) = true then
   (
    F.law11_CurveSums_K2 a0 a2_0 a2_1 a2_2 x_5 x_14 true
   ) else (
    obind (F.law11_spoil x_30.1 x_30.2.1 x_30.2.2.1) fun x_83 =>
    if (!x_83) = true then
    (
     F.law11_CurveSums_K2 a0 a2_0 a2_1 a2_2 x_5 x_14 true
    ) else (
     obind (F.law11_same x_72.1 x_72.2.1 x_72.2.2.1 x_44.1 x_44.2.1 x_44.2.2.1) fun x_87 =>
     if (!x_87) = true then
     (
      F.law11_CurveSums_K2 a0 a2_0 a2_1 a2_2 x_5 x_14 true
     ) else (
      obind (F.law11_same x_37.1 x_37.2.1 x_37.2.2.1 x_51.1 x_51.2.1 x_51.2.2.1) fun x_91 =>
      if (!x_91) = true then
      (
       F.law11_CurveSums_K2 a0 a2_0 a2_1 a2_2 x_5 x_14 true
      ) else (
       obind (F.curve_On a0 (x_5.1.1.take x_5.1.2) (x_5.2.1.1.take x_5.2.1.2) x_5.2.2) fun x_95 =>
       obind (F.ref11_On a0 a1_0 a1_1 a1_2) fun x_96 =>
       if (x_95 != x_96) = true then
       (
        F.law11_CurveSums_K2 a0 a2_0 a2_1 a2_2 x_5 x_14 true
       ) else (
        obind (F.law11_still x_5.1.1 x_5.1.2 x_5.2.1.1 x_5.2.1.2 x_5.2.2 a1_0 a1_1 a1_2) fun x_100 =>
        if (!x_100) = true then
        (
         F.law11_CurveSums_K2 a0 a2_0 a2_1 a2_2 x_5 x_14 true
        ) else (
         obind (F.law11_still x_14.1.1 x_14.1.2 x_14.2.1.1 x_14.2.1.2 x_14.2.2 a2_0 a2_1 a2_2) fun x_104 =>
         F.law11_CurveSums_K2 a0 a2_0 a2_1 a2_2 x_5 x_14 (!x_104)
        )
       )
      )
     )
    )
   )
  )
noncomputable def F.law11_CurveSums (a0 : Int) (a1_0 : List UInt32) (a1_1 : List UInt32) (a1_2 : Bool) (a2_0 : List UInt32) (a2_1 : List UInt32) (a2_2 : Bool) : Option (Bool) :=
 obind (F.law11_lent a1_0 a1_1 a1_2) fun x_5 =>
 obind (F.law11_lent a2_0 a2_1 a2_2) fun x_14 =>
 obind (F.curve_Neg a0 (x_5.1.1.take x_5.1.2) (x_5.2.1.1.take x_5.2.1.2) x_5.2.2) fun x_23 =>
 obind (F.curve_Add a0 (x_5.1.1.take x_5.1.2) (x_5.2.1.1.take x_5.2.1.2) x_5.2.2 (x_14.1.1.take x_14.1.2) (x_14.2.1.1.take x_14.2.1.2) x_14.2.2) fun x_30 =>
 obind (F.curve_Add a0 (x_5.1.1.take x_5.1.2) (x_5.2.1.1.take x_5.2.1.2) x_5.2.2 (x_14.1.1.take x_14.1.2) (x_14.2.1.1.take x_14.2.1.2) x_14.2.2) fun x_37 =>
 obind (F.ref11_Neg a0 a1_0 a1_1 a1_2) fun x_44 =>
 obind (F.ref11_Add a0 a1_0 a1_1 a1_2 a2_0 a2_1 a2_2) fun x_51 =>
 obind (F.law11_same x_23.1 x_23.2.1 x_23.2.2.1 x_44.1 x_44.2.1 x_44.2.2.1) fun x_59 =>
 if (!x_59) = true then
 (
  F.law11_CurveSums_K1 a0 a1_0 a1_1 a1_2 a2_0 a2_1 a2_2 x_5 x_14 x_23 x_30 x_37 x_44 x_51 true
 ) else (
  if (x_23.2.2.2 != x_44.2.2.2) = true then
  (
   F.law11_CurveSums_K1 a0 a1_0 a1_1 a1_2 a2_0 a2_1 a2_2 x_5 x_14 x_23 x_30 x_37 x_44 x_51 true
  ) else (
   obind (F.law11_same x_30.1 x_30.2.1 x_30.2.2.1 x_51.1 x_51.2.1 x_51.2.2.1) fun x_62 =>
   if (!x_62) = true then
   (
    F.law11_CurveSums_K1 a0 a1_0 a1_1 a1_2 a2_0 a2_1 a2_2 x_5 x_14 x_23 x_30 x_37 x_44 x_51 true
   ) else (
    if (x_30.2.2.2 != x_51.2.2.2) = true then
    (
     F.law11_CurveSums_K1 a0 a1_0 a1_1 a1_2 a2_0 a2_1 a2_2 x_5 x_14 x_23 x_30 x_37 x_44 x_51 true
    ) else (
     obind (F.law11_still x_5.1.1 x_5.1.2 x_5.2.1.1 x_5.2.1.2 x_5.2.2 a1_0 a1_1 a1_2) fun x_65 =>
     if (!x_65) = true then
     (
      F.law11_CurveSums_K1 a0 a1_0 a1_1 a1_2 a2_0 a2_1 a2_2 x_5 x_14 x_23 x_30 x_37 x_44 x_51 true
     ) else (
      obind (F.law11_still x_14.1.1 x_14.1.2 x_14.2.1.1 x_14.2.1.2 x_14.2.2 a2_0 a2_1 a2_2) fun x_67 =>
      F.law11_CurveSums_K1 a0 a1_0 a1_1 a1_2 a2_0 a2_1 a2_2 x_5 x_14 x_23 x_30 x_37 x_44 x_51 (!x_67)
     )
    )
   )
  )
 )
noncomputable def F.law11_started  : Option (Bool) :=
 obind (F.curve_Base 1) fun x_1 =>
 obind (F.curve_Add 1 x_1.1 x_1.2.1 x_1.2.2 x_1.1 x_1.2.1 x_1.2.2) fun x_8 =>
 obind (F.curve_Mul 1 ([2] : List UInt32) x_1.1 x_1.2.1 x_1.2.2) fun x_17 =>
 obind (F.curve_Add 1 x_1.1 x_1.2.1 x_1.2.2 [] [] false) fun x_24 =>
 if (x_8.2.2.2 == 0) = true then
 (
  if (x_17.2.2.2 == 0) = true then
  (
   if (x_24.2.2.2 == 93) = true then
   (
    obind (F.law11_same x_8.1 x_8.2.1 x_8.2.2.1 x_17.1 x_17.2.1 x_17.2.2.1) fun x_34 =>
    if x_34 = true then
    (
     if ((x_8.1.length : Int) == 8) = true then
     (
      obind (getO x_8.1 (0 : Int)) fun x_37 =>
      if (x_37 == 1197906296) = true then
      (
       obind (getO x_8.2.1 (0 : Int)) fun x_39 =>
       if (x_39 == 578319313) = true then
       (
        obind (F.curve_On 1 x_8.1 x_8.2.1 x_8.2.2.1) fun x_41 =>
        if x_41 = true then
        (
         obind (F.curve_Base 2) fun x_43 =>
         obind (F.curve_On 2 x_43.1 x_43.2.1 x_43.2.2) fun x_48 =>
         some x_48
        ) else (
         some false
        )
       ) else (
        some false
       )
      ) else (
       some false
      )
     ) else (
      some false
     )
    ) else (
     some false
    )
   ) else (
    some false
   )
  ) else (
   some false
  )
 ) else (
  some false
 )
noncomputable def F.law11_CurveGroup_K2 (a0 : Int) (a2_0 : List UInt32) (a2_1 : List UInt32) (a2_2 : Bool) (x_15 : List UInt32 × List UInt32 × Bool × Int) (x_22 : List UInt32 × List UInt32 × Bool × Int) (x_29 : List UInt32 × List UInt32 × Bool × Int) (x_43 : List UInt32 × List UInt32 × Bool × Int) (x_50 : List UInt32 × List UInt32 × Bool × Int) (x_57 : List UInt32 × List UInt32 × Bool × Int) : Bool → Option (Bool)
 | x_69 =>
  if x_69 = true then
  (
   some false
  ) else (
   obind (F.curve_Add a0 x_15.1 x_15.2.1 x_15.2.2.1 x_57.1 x_57.2.1 x_57.2.2.1) fun x_71 =>
   obind (F.curve_Add a0 x_15.1 x_15.2.1 x_15.2.2.1 x_50.1 x_50.2.1 x_50.2.2.1) fun x_78 =>
   obind (F.curve_Add a0 a2_0 a2_1 a2_2 [] [] true) fun x_85 =>
   obind (F.law11_same x_15.1 x_15.2.1 x_15.2.2.1 x_22.1 x_22.2.1 x_22.2.2.1) fun x_92 =>
   if x_92 = true then
   (
    obind (F.law11_same x_29.1 x_29.2.1 x_29.2.2.1 x_43.1 x_43.2.1 x_43.2.2.1) fun x_94 =>
    if x_94 = true then
    (
     if x_57.2.2.1 = true then
     (
      if ((wI ((x_57.1.length : Int) + (x_57.2.1.length : Int))) == 0) = true then
      (
       obind (F.law11_same x_71.1 x_71.2.1 x_71.2.2.1 x_15.1 x_15.2.1 x_15.2.2.1) fun x_98 =>
       if x_98 = true then
       (
        obind (F.law11_same x_78.1 x_78.2.1 x_78.2.2.1 x_85.1 x_85.2.1 x_85.2.2.1) fun x_100 =>
        some x_100
       ) else (
        some false
       )
      ) else (
       some false
      )
     ) else (
      some false
     )
    ) else (
     some false
    )
   ) else (
    some false
   )
  )
noncomputable def F.law11_CurveGroup_K1 (a0 : Int) (a1_0 : List UInt32) (a1_1 : List UInt32) (a1_2 : Bool) (a2_0 : List UInt32) (a2_1 : List UInt32) (a2_2 : Bool) (a3_0 : List UInt32) (a3_1 : List UInt32) (a3_2 : Bool) : Bool → Option (Bool)
 | x_13 =>
  if x_13 = true then
  (
   some true
  ) else (
   obind (F.curve_Add a0 a1_0 a1_1 a1_2 a2_0 a2_1 a2_2) fun x_15 =>
   obind (F.curve_Add a0 a2_0 a2_1 a2_2 a1_0 a1_1 a1_2) fun x_22 =>
   obind (F.curve_Add a0 x_15.1 x_15.2.1 x_15.2.2.1 a3_0 a3_1 a3_2) fun x_29 =>
   obind (F.curve_Add a0 a2_0 a2_1 a2_2 a3_0 a3_1 a3_2) fun x_36 =>
   obind (F.curve_Add a0 a1_0 a1_1 a1_2 x_36.1 x_36.2.1 x_36.2.2.1) fun x_43 =>
   obind (F.curve_Neg a0 a1_0 a1_1 a1_2) fun x_50 =>
   obind (F.curve_Add a0 a1_0 a1_1 a1_2 x_50.1 x_50.2.1 x_50.2.2.1) fun x_57 =>
   if (x_15.2.2.2 != 0) = true then
   (
    F.law11_CurveGroup_K2 a0 a2_0 a2_1 a2_2 x_15 x_22 x_29 x_43 x_50 x_57 true
   ) else (
    if (x_22.2.2.2 != 0) = true then
    (
     F.law11_CurveGroup_K2 a0 a2_0 a2_1 a2_2 x_15 x_22 x_29 x_43 x_50 x_57 true
    ) else (
     if (x_29.2.2.2 != 0) = true then
     (
      F.law11_CurveGroup_K2 a0 a2_0 a2_1 a2_2 x_15 x_22 x_29 x_43 x_50 x_57 true
     ) else (
      if (x_43.2.2.2 != 0) = true then
      (
       F.law11_CurveGroup_K2 a0 a2_0 a2_1 a2_2 x_15 x_22 x_29 x_43 x_50 x_57 true
      ) else (
       if (x_50.2.2.2 != 0) = true then
       (
        F.law11_CurveGroup_K2 a0 a2_0 a2_1 a2_2 x_15 x_22 x_29 x_43 x_50 x_57 true
       ) else (
        F.law11_CurveGroup_K2 a0 a2_0 a2_1 a2_2 x_15 x_22 x_29 x_43 x_50 x_57 (x_57.2.2.2 != 0)
       )
      )
     )
    )
   )
  )
noncomputable def F.law11_CurveGroup (a0 : Int) (a1_0 : List UInt32) (a1_1 : List UInt32) (a1_2 : Bool) (a2_0 : List UInt32) (a2_1 : List UInt32) (a2_2 : Bool) (a3_0 : List UInt32) (a3_1 : List UInt32) (a3_2 : Bool) : Option (Bool) :=
 obind (F.law11_started ) fun x_7 =>
 if (!x_7) = true then
 (
  some false
 ) else (
  obind (F.curve_On a0 a1_0 a1_1 a1_2) fun x_8 =>
  if (!x_8) = true then
  (
   F.law11_CurveGroup_K1 a0 a1_0 a1_1 a1_2 a2_0 a2_1 a2_2 a3_0 a3_1 a3_2 true
  ) else (
   obind (F.curve_On a0 a2_0 a2_1 a2_2) fun x_10 =>
   if (!x_10) = true then
   (
    F.law11_CurveGroup_K1 a0 a1_0 a1_1 a1_2 a2_0 a2_1 a2_2 a3_0 a3_1 a3_2 true
   ) else (
    obind (F.curve_On a0 a3_0 a3_1 a3_2) fun x_12 =>
    F.law11_CurveGroup_K1 a0 a1_0 a1_1 a1_2 a2_0 a2_1 a2_2 a3_0 a3_1 a3_2 (!x_12)
   )
  )
 )
noncomputable def F.law11_CurveBack_K1 (a0 : Int) (a2 : List UInt8) (a3 : List UInt8) : Unit → Option (Bool)
 | _ =>
  obind (F.curve_Decode a0 a2 a3) fun x_38 =>
  if (x_38.2.2.2 != 0) = true then
  (
   if (x_38.2.2.2 == 93) = true then
   (
    obind (F.law11_same x_38.1 x_38.2.1 x_38.2.2.1 [] [] false) fun x_46 =>
    some x_46
   ) else (
    some false
   )
  ) else (
   obind (F.curve_Encode a0 x_38.1 x_38.2.1 x_38.2.2.1) fun x_47 =>
   if (x_47.2.2 == 0) = true then
   (
    obind (F.curve_On a0 x_38.1 x_38.2.1 x_38.2.2.1) fun x_53 =>
    if x_53 = true then
    (
     obind (F.law11_sameBytes x_47.1 a2) fun x_55 =>
     if x_55 = true then
     (
      obind (F.law11_sameBytes x_47.2.1 a3) fun x_57 =>
      some x_57
     ) else (
      some false
     )
    ) else (
     some false
    )
   ) else (
    some false
   )
  )
noncomputable def F.law11_CurveBack_K3 (a0 : Int) (a2 : List UInt8) (a3 : List UInt8) : Bool → Option (Bool)
 | x_15 =>
  if x_15 = true then
  (
   some false
  ) else (
   F.law11_CurveBack_K1 a0 a2 a3 ()
  )
noncomputable def F.law11_CurveBack_K4 (a0 : Int) (a2 : List UInt8) (a3 : List UInt8) : Bool → Option (Bool)
 | x_33 =>
  if x_33 = true then
  (
   some false
  ) else (
   F.law11_CurveBack_K1 a0 a2 a3 ()
  )
noncomputable def F.law11_CurveBack_K2 (a0 : Int) (a1_0 : List UInt32) (a1_1 : List UInt32) (x_4 : List UInt8 × List UInt8 × Int) (a2 : List UInt8) (a3 : List UInt8) : Bool → Option (Bool)
 | x_11 =>
  if x_11 = true then
  (
   if (x_4.2.2 != 93) = true then
   (
    F.law11_CurveBack_K3 a0 a2 a3 true
   ) else (
    if ((x_4.1.length : Int) != 0) = true then
    (
     F.law11_CurveBack_K3 a0 a2 a3 true
    ) else (
     F.law11_CurveBack_K3 a0 a2 a3 ((x_4.2.1.length : Int) != 0)
    )
   )
  ) else (
   obind (F.curve_Decode a0 x_4.1 x_4.2.1) fun x_18 =>
   if (x_4.2.2 != 0) = true then
   (
    F.law11_CurveBack_K4 a0 a2 a3 true
   ) else (
    if (x_18.2.2.2 != 0) = true then
    (
     F.law11_CurveBack_K4 a0 a2 a3 true
    ) else (
     obind (F.nat_Cmp x_18.1 a1_0) fun x_27 =>
     if (x_27 != 0) = true then
     (
      F.law11_CurveBack_K4 a0 a2 a3 true
     ) else (
      obind (F.nat_Cmp x_18.2.1 a1_1) fun x_29 =>
      if (x_29 != 0) = true then
      (
       F.law11_CurveBack_K4 a0 a2 a3 true
      ) else (
       if x_18.2.2.1 = true then
       (
        F.law11_CurveBack_K4 a0 a2 a3 true
       ) else (
        obind (F.curve_Size a0) fun x_32 =>
        F.law11_CurveBack_K4 a0 a2 a3 ((x_4.1.length : Int) != x_32)
       )
      )
     )
    )
   )
  )
noncomputable def F.law11_CurveBack (a0 : Int) (a1_0 : List UInt32) (a1_1 : List UInt32) (a1_2 : Bool) (a2 : List UInt8) (a3 : List UInt8) : Option (Bool) :=
 obind (F.law11_started ) fun x_3 =>
 if (!x_3) = true then
 (
  some false
 ) else (
  obind (F.curve_Encode a0 a1_0 a1_1 a1_2) fun x_4 =>
  obind (F.curve_On a0 a1_0 a1_1 a1_2) fun x_9 =>
  if (!x_9) = true then
  (
   F.law11_CurveBack_K2 a0 a1_0 a1_1 x_4 a2 a3 true
  ) else (
   F.law11_CurveBack_K2 a0 a1_0 a1_1 x_4 a2 a3 a1_2
  )
 )
noncomputable def F.law11_CurveMultiples_K3 (a0 : Int) (a1 : List UInt32) (a2 : List UInt32) (a3_0 : List UInt32) (a3_1 : List UInt32) (a3_2 : Bool) (x_27 : List UInt32 × List UInt32 × Bool × Int) : Bool → Option (Bool)
 | x_102 =>
  if x_102 = true then
  (
   some false
  ) else (
   obind (F.curve_Mul a0 [] a3_0 a3_1 a3_2) fun x_104 =>
   obind (F.curve_Mul a0 ([1] : List UInt32) a3_0 a3_1 a3_2) fun x_113 =>
   obind (F.curve_Order a0) fun x_120 =>
   obind (F.curve_Mul a0 x_120 a3_0 a3_1 a3_2) fun x_123 =>
   obind (F.curve_Add a0 a3_0 a3_1 a3_2 x_104.1 x_104.2.1 x_104.2.2.1) fun x_132 =>
   obind (F.curve_Base a0) fun x_139 =>
   obind (F.curve_Mul a0 a1 x_139.1 x_139.2.1 x_139.2.2) fun x_144 =>
   obind (F.curve_Add a0 x_144.1 x_144.2.1 x_144.2.2.1 x_27.1 x_27.2.1 x_27.2.2.1) fun x_151 =>
   obind (F.curve_Joint a0 a1 a2 a3_0 a3_1 a3_2) fun x_158 =>
   if x_104.2.2.1 = true then
   (
    if x_123.2.2.1 = true then
    (
     obind (F.law11_same x_113.1 x_113.2.1 x_113.2.2.1 x_132.1 x_132.2.1 x_132.2.2.1) fun x_167 =>
     if x_167 = true then
     (
      if (x_158.2.2.2 == 0) = true then
      (
       obind (F.law11_same x_158.1 x_158.2.1 x_158.2.2.1 x_151.1 x_151.2.1 x_151.2.2.1) fun x_170 =>
       some x_170
      ) else (
       some false
      )
     ) else (
      some false
     )
    ) else (
     some false
    )
   ) else (
    some false
   )
  )
noncomputable def F.law11_CurveMultiples_K2 (a0 : Int) (a1 : List UInt32) (a2 : List UInt32) (a3_0 : List UInt32) (a3_1 : List UInt32) (a3_2 : Bool) (x_20 : List UInt32 × List UInt32 × Bool × Int) (x_27 : List UInt32 × List UInt32 × Bool × Int) : Bool → Option (Bool)
 | x_49 =>
  if x_49 = true then
  (
   obind (F.curve_Joint a0 a1 a2 a3_0 a3_1 a3_2) fun x_51 =>
   some (x_51.2.2.2 == 10)
  ) else (
   obind (F.curve_Add a0 x_20.1 x_20.2.1 x_20.2.2.1 x_27.1 x_27.2.1 x_27.2.2.1) fun x_58 =>
   obind (F.nat_Add a1 a2) fun x_65 =>
   obind (F.curve_Mul a0 x_65 a3_0 a3_1 a3_2) fun x_68 =>
   if (x_68.2.2.2 == 0) = true then
   (
    obind (F.law11_same x_58.1 x_58.2.1 x_58.2.2.1 x_68.1 x_68.2.1 x_68.2.2.1) fun x_78 =>
    if (!x_78) = true then
    (
     F.law11_CurveMultiples_K3 a0 a1 a2 a3_0 a3_1 a3_2 x_27 true
    ) else (
     if (x_68.2.2.2 != 0) = true then
     (
      obind (F.nat_Add a1 a2) fun x_83 =>
      obind (F.nat_Bits x_83) fun x_86 =>
      F.law11_CurveMultiples_K3 a0 a1 a2 a3_0 a3_1 a3_2 x_27 (decide (x_86 ≤ 1024))
     ) else (
      F.law11_CurveMultiples_K3 a0 a1 a2 a3_0 a3_1 a3_2 x_27 false
     )
    )
   ) else (
    if (x_68.2.2.2 != 0) = true then
    (
     obind (F.nat_Add a1 a2) fun x_92 =>
     obind (F.nat_Bits x_92) fun x_95 =>
     F.law11_CurveMultiples_K3 a0 a1 a2 a3_0 a3_1 a3_2 x_27 (decide (x_95 ≤ 1024))
    ) else (
     F.law11_CurveMultiples_K3 a0 a1 a2 a3_0 a3_1 a3_2 x_27 false
    )
   )
  )
noncomputable def F.law11_CurveMultiples_K1 (x_20 : List UInt32 × List UInt32 × Bool × Int) (x_27 : List UInt32 × List UInt32 × Bool × Int) (a0 : Int) (a1 : List UInt32) (a2 : List UInt32) (a3_0 : List UInt32) (a3_1 : List UInt32) (a3_2 : Bool) : Bool → Option (Bool)
 | x_44 =>
  if x_44 = true then
  (
   some false
  ) else (
   if (x_20.2.2.2 != 0) = true then
   (
    F.law11_CurveMultiples_K2 a0 a1 a2 a3_0 a3_1 a3_2 x_20 x_27 true
   ) else (
    F.law11_CurveMultiples_K2 a0 a1 a2 a3_0 a3_1 a3_2 x_20 x_27 (x_27.2.2.2 != 0)
   )
  )
noncomputable def F.law11_CurveMultiples (a0 : Int) (a1 : List UInt32) (a2 : List UInt32) (a3_0 : List UInt32) (a3_1 : List UInt32) (a3_2 : Bool) : Option (Bool) :=
 obind (F.law11_started ) fun x_3 =>
 if (!x_3) = true then
 (
  some false
 ) else (
  obind (F.curve_On a0 a3_0 a3_1 a3_2) fun x_4 =>
  if (!x_4) = true then
  (
   obind (F.curve_Mul a0 a1 a3_0 a3_1 a3_2) fun x_5 =>
   obind (F.curve_Joint a0 a1 a2 a3_0 a3_1 a3_2) fun x_12 =>
   if (x_5.2.2.2 == 93) = true then
   (
    some (x_12.2.2.2 == 93)
   ) else (
    some false
   )
  ) else (
   obind (F.curve_Mul a0 a1 a3_0 a3_1 a3_2) fun x_20 =>
   obind (F.curve_Mul a0 a2 a3_0 a3_1 a3_2) fun x_27 =>
   obind (F.nat_Bits a1) fun x_34 =>
   olet (decide ((1024 : Int) < x_34)) fun x_35 =>
   if (x_35 != (x_20.2.2.2 == 10)) = true then
   (
    F.law11_CurveMultiples_K1 x_20 x_27 a0 a1 a2 a3_0 a3_1 a3_2 true
   ) else (
    obind (F.nat_Bits a2) fun x_39 =>
    F.law11_CurveMultiples_K1 x_20 x_27 a0 a1 a2 a3_0 a3_1 a3_2 ((decide ((1024 : Int) < x_39)) != (x_27.2.2.2 == 10))
   )
  )
 )
end Go.Gk
