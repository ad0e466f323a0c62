import Derived.Test.YtcdneplfgppapaaDoorGkS
import Derived.Test.YtcdneplfgppapaaDoorGkFcbor
import Derived.Test.YtcdneplfgppapaaDoorGkFref30
set_option linter.unusedVariables false
set_option linter.unusedSimpArgs false
set_option linter.unusedVariables false
namespace Go.Gk
noncomputable def F.law30_sameBytes_L1 (a0 : List UInt8) (a1 : List UInt8) : Int → Option ((Int) ⊕ (Bool))
 | x_1 =>
  if (decide (x_1 < (a0.length : Int))) = true then
  (
   obind (getO a0 (x_1 : Int)) fun x_5 =>
   obind (getO a1 (x_1 : Int)) fun x_6 =>
   if (x_5 != x_6) = true then
   (
    oinr (
     some false
    )
   ) else (
    oinl (wI (x_1 + 1))
   )
  ) else (
   oinr (
    some true
   )
  )
noncomputable def F.law30_sameBytes (a0 : List UInt8) (a1 : List UInt8) : Option (Bool) :=
 if ((a0.length : Int) != (a1.length : Int)) = true then
 (
  some false
 ) else (
  loop (F.law30_sameBytes_L1 a0 a1) 0
 )
noncomputable def F.law30_spared_L1 (a0 : List UInt8) (k0 : Nat) (a1 : List UInt8) : Int → Option ((Int) ⊕ (Bool))
 | x_2 =>
  if (decide (x_2 < ((a0.take ((wI ((a1.length : Int) + 9) : Int).toNat)).length : Int))) = true then
  (
   obind (getO (a0.take ((wI ((a1.length : Int) + 9) : Int).toNat)) (x_2 : Int)) fun x_6 =>
   if (x_6 != 165) = true then
   (
    oinr (
     some false
    )
   ) else (
    oinl (wI (x_2 + 1))
   )
  ) else (
   oinr (
    obind (F.law30_sameBytes (a0.take k0) a1) fun x_8 =>
    some x_8
   )
  )
noncomputable def F.law30_spared (a0 : List UInt8) (k0 : Nat) (a1 : List UInt8) : Option (Bool) :=
 grd (0 ≤ (wI ((a1.length : Int) + 9) : Int) ∧ (wI ((a1.length : Int) + 9) : Int).toNat ≤ a0.length) <|
 loop (F.law30_spared_L1 a0 k0 a1) (a1.length : Int)
noncomputable def F.law30_headed_L2 (a1 : UInt64) : List UInt8 × Int → Option ((List UInt8 × Int) ⊕ (List UInt8))
 | (x_10, x_13) =>
  if (decide ((0 : Int) ≤ x_13)) = true then
  (
   obind (apO 1 x_10 [((shr64 a1 ((UInt64.ofInt (wI (8 * x_13))).toNat)) &&& 255).toUInt8]) fun x_19 =>
   oinl (x_19, wI (x_13 - 1))
  ) else (
   oinr (
    some x_10
   )
  )
noncomputable def F.law30_headed_L1 (a0 : Int) (a2 : Int) (a1 : UInt64) : Int × Int → Option ((Int × Int) ⊕ (List UInt8))
 | (x_3, x_4) =>
  if (decide (x_4 < a2)) = true then
  (
   oinl (wI (x_3 + 1), wI (2 * x_4))
  ) else (
   oinr (
    loop (F.law30_headed_L2 a1) ([UInt8.ofInt (wI ((wI (32 * a0)) + x_3))], wI (a2 - 1))
   )
  )
noncomputable def F.law30_headed (a0 : Int) (a1 : UInt64) (a2 : Int) : Option (List UInt8) :=
 if (a2 == 0) = true then
 (
  some [(UInt8.ofInt (wI (32 * a0))) + ((a1 % 24).toUInt8)]
 ) else (
  loop (F.law30_headed_L1 a0 a2 a1) (24, 1)
 )
noncomputable def F.law30_less_K1 (a0 : List UInt8) (a1 : List UInt8) (x_1 : Int) : Bool → Option ((Int) ⊕ (Bool))
 | x_6 =>
  if x_6 = true then
  (
   obind (getO a0 (x_1 : Int)) fun x_8 =>
   obind (getO a1 (x_1 : Int)) fun x_9 =>
   if (x_8 != x_9) = true then
   (
    obind (getO a0 (x_1 : Int)) fun x_10 =>
    obind (getO a1 (x_1 : Int)) fun x_11 =>
    oinr (
     some (decide (x_10 < x_11))
    )
   ) else (
    oinl (wI (x_1 + 1))
   )
  ) else (
   oinr (
    some (decide ((a0.length : Int) < (a1.length : Int)))
   )
  )
noncomputable def F.law30_less_L1 (a0 : List UInt8) (a1 : List UInt8) : Int → Option ((Int) ⊕ (Bool))
 | x_1 =>
  if (decide (x_1 < (a0.length : Int))) = true then
  (
   F.law30_less_K1 a0 a1 x_1 (decide (x_1 < (a1.length : Int)))
  ) else (
   F.law30_less_K1 a0 a1 x_1 false
  )
noncomputable def F.law30_less (a0 : List UInt8) (a1 : List UInt8) : Option (Bool) :=
 loop (F.law30_less_L1 a0 a1) 0
noncomputable def F.law30_wide (a0 : List (Int × UInt64 × (List UInt8) × Int)) : Option ((List (Int × UInt64 × (List UInt8) × Int) × Nat)) :=
 obind (apO 40 [] a0) fun x_1 =>
 obind (apO 40 x_1 ([(0, 0, [109, 97, 114, 107], 0), (0, 0, [109, 97, 114, 107], 0)] : List (Int × UInt64 × (List UInt8) × Int))) fun x_6 =>
 grd (0 ≤ ((a0.length : Int) : Int) ∧ ((a0.length : Int) : Int).toNat ≤ x_6.length) <|
 some (x_6, ((a0.length : Int) : Int).toNat)
noncomputable def F.law30_same_L1 (a0 : List (Int × UInt64 × (List UInt8) × Int)) (a1 : List (Int × UInt64 × (List UInt8) × Int)) : Int → Option ((Int) ⊕ (Bool))
 | x_1 =>
  if (decide (x_1 < (a0.length : Int))) = true then
  (
   obind (getO a0 (x_1 : Int)) fun x_5 =>
   obind (getO a1 (x_1 : Int)) fun x_6 =>
   if (x_5 != x_6) = true then
   (
    oinr (
     some false
    )
   ) else (
    oinl (wI (x_1 + 1))
   )
  ) else (
   oinr (
    some true
   )
  )
noncomputable def F.law30_same (a0 : List (Int × UInt64 × (List UInt8) × Int)) (a1 : List (Int × UInt64 × (List UInt8) × Int)) : Option (Bool) :=
 if ((a0.length : Int) != (a1.length : Int)) = true then
 (
  some false
 ) else (
  loop (F.law30_same_L1 a0 a1) 0
 )
noncomputable def F.law30_left (a0 : List (Int × UInt64 × (List UInt8) × Int)) (k0 : Nat) (a1 : List (Int × UInt64 × (List UInt8) × Int)) : Option (Bool) :=
 grd (0 ≤ (wI ((a1.length : Int) + 2) : Int) ∧ (wI ((a1.length : Int) + 2) : Int).toNat ≤ a0.length) <|
 obind (F.law30_same (a0.take k0) a1) fun x_2 =>
 if x_2 = true then
 (
  obind (getO (a0.take ((wI ((a1.length : Int) + 2) : Int).toNat)) ((a1.length : Int) : Int)) fun x_4 =>
  if (x_4 == (0, 0, [109, 97, 114, 107], 0)) = true then
  (
   obind (getO (a0.take ((wI ((a1.length : Int) + 2) : Int).toNat)) (wI ((a1.length : Int) + 1) : Int)) fun x_6 =>
   some (x_6 == (0, 0, [109, 97, 114, 107], 0))
  ) else (
   some false
  )
 ) else (
  some false
 )
noncomputable def F.law30_roomy_L1 (a0 : List UInt8) : List UInt8 × Int → Option ((List UInt8 × Int) ⊕ ((List UInt8 × Nat)))
 | (x_4, x_7) =>
  if (decide (x_7 < 9)) = true then
  (
   obind (apO 1 x_4 [165]) fun x_13 =>
   oinl (x_13, wI (x_7 + 1))
  ) else (
   oinr (
    grd (0 ≤ ((a0.length : Int) : Int) ∧ ((a0.length : Int) : Int).toNat ≤ x_4.length) <|
    some (x_4, ((a0.length : Int) : Int).toNat)
   )
  )
noncomputable def F.law30_roomy (a0 : List UInt8) : Option ((List UInt8 × Nat)) :=
 obind (apO 1 [] a0) fun x_1 =>
 loop (F.law30_roomy_L1 a0) (x_1, 0)
noncomputable def F.law30_joined_L1 (a1 : List (List (Int × UInt64 × (List UInt8) × Int))) : (List (Int × UInt64 × (List UInt8) × Int)) × Int → Option (((List (Int × UInt64 × (List UInt8) × Int)) × Int) ⊕ (List (Int × UInt64 × (List UInt8) × Int)))
 | (x_3, x_6) =>
  if (decide (x_6 < (a1.length : Int))) = true then
  (
   obind (getO a1 (x_6 : Int)) fun x_10 =>
   obind (apO 40 x_3 x_10) fun x_12 =>
   oinl (x_12, wI (x_6 + 1))
  ) else (
   oinr (
    some x_3
   )
  )
noncomputable def F.law30_joined (a0 : Int) (a1 : List (List (Int × UInt64 × (List UInt8) × Int))) : Option (List (Int × UInt64 × (List UInt8) × Int)) :=
 loop (F.law30_joined_L1 a1) (([(a0, 0, [], (a1.length : Int))] : List (Int × UInt64 × (List UInt8) × Int)), 0)
noncomputable def F.law30_CborParses_K2 (x_1 : (List UInt8 × Nat)) : List UInt8 → Option (Bool)
 | x_22 =>
  obind (F.ref30_Parse (x_22.take x_1.2)) fun x_25 =>
  obind (F.cbor_Parse (x_22.take x_1.2)) fun x_28 =>
  if (x_28.2.1 == x_25.2.1) = true then
  (
   if (x_28.2.2 == x_25.2.2) = true then
   (
    obind (F.law30_same x_28.1 x_25.1) fun x_33 =>
    some x_33
   ) else (
    some false
   )
  ) else (
   some false
  )
noncomputable def F.law30_CborParses_K1 (x_1 : (List UInt8 × Nat)) : Bool → Option (Bool)
 | x_16 =>
  if x_16 = true then
  (
   some false
  ) else (
   if (decide ((0 : Int) < ((x_1.1.take x_1.2).length : Int))) = true then
   (
    obind (getO (x_1.1.take x_1.2) (wI (Int.tdiv ((x_1.1.take x_1.2).length : Int) 2) : Int)) fun x_18 =>
    obind (getO (x_1.1.take x_1.2) (wI (Int.tdiv ((x_1.1.take x_1.2).length : Int) 2) : Int)) fun x_19 =>
    olet (x_1.1.set (wI (Int.tdiv ((x_1.1.take x_1.2).length : Int) 2) : Int).toNat (x_18 ^^^ 1)) fun x_20 =>
    F.law30_CborParses_K2 x_1 x_20
   ) else (
    F.law30_CborParses_K2 x_1 x_1.1
   )
  )
noncomputable def F.law30_CborParses (a0 : List UInt8) : Option (Bool) :=
 obind (F.law30_roomy a0) fun x_1 =>
 obind (F.cbor_Parse (x_1.1.take x_1.2)) fun x_5 =>
 obind (F.ref30_Parse a0) fun x_8 =>
 if (x_5.2.1 != x_8.2.1) = true then
 (
  F.law30_CborParses_K1 x_1 true
 ) else (
  if (x_5.2.2 != x_8.2.2) = true then
  (
   F.law30_CborParses_K1 x_1 true
  ) else (
   obind (F.law30_same x_5.1 x_8.1) fun x_13 =>
   if (!x_13) = true then
   (
    F.law30_CborParses_K1 x_1 true
   ) else (
    obind (F.law30_spared x_1.1 x_1.2 a0) fun x_15 =>
    F.law30_CborParses_K1 x_1 (!x_15)
   )
  )
 )
noncomputable def F.law30_CborPrints_K2 (x_21 : Int) : (List (Int × UInt64 × (List UInt8) × Int)) → Option ((Int × (List (Int × UInt64 × (List UInt8) × Int))) ⊕ (Bool))
 | x_32 =>
  oinl (wI (x_21 + 1), x_32)
noncomputable def F.law30_CborPrints_K4 (x_2 : (List (Int × UInt64 × (List UInt8) × Int) × Nat)) : (List (Int × UInt64 × (List UInt8) × Int)) → Option (Bool)
 | x_51 =>
  obind (F.ref30_Print (x_51.take x_2.2)) fun x_54 =>
  obind (F.ref30_Shaped (x_51.take x_2.2)) fun x_57 =>
  obind (F.cbor_Print (x_51.take x_2.2)) fun x_58 =>
  if (x_58.2 == x_54.2) = true then
  (
   obind (F.law30_sameBytes x_58.1 x_54.1) fun x_62 =>
   if x_62 = true then
   (
    obind (F.cbor_Shaped (x_51.take x_2.2)) fun x_64 =>
    some (x_64 == x_57)
   ) else (
    some false
   )
  ) else (
   some false
  )
noncomputable def F.law30_CborPrints_K3 (x_2 : (List (Int × UInt64 × (List UInt8) × Int) × Nat)) (x_22 : List (Int × UInt64 × (List UInt8) × Int)) : Bool → Option (Bool)
 | x_46 =>
  if x_46 = true then
  (
   some false
  ) else (
   if (decide ((0 : Int) < ((x_22.take x_2.2).length : Int))) = true then
   (
    obind (getO (x_22.take x_2.2) (wI (((x_22.take x_2.2).length : Int) - 1) : Int)) fun x_48 =>
    olet (x_22.set (wI (((x_22.take x_2.2).length : Int) - 1) : Int).toNat (8, x_48.2.1, x_48.2.2.1, x_48.2.2.2)) fun x_49 =>
    F.law30_CborPrints_K4 x_2 x_49
   ) else (
    F.law30_CborPrints_K4 x_2 x_22
   )
  )
noncomputable def F.law30_CborPrints_L1 (x_2 : (List (Int × UInt64 × (List UInt8) × Int) × Nat)) : Int × (List (Int × UInt64 × (List UInt8) × Int)) → Option ((Int × (List (Int × UInt64 × (List UInt8) × Int))) ⊕ (Bool))
 | (x_21, x_22) =>
  if (decide (x_21 < ((x_22.take x_2.2).length : Int))) = true then
  (
   obind (getO (x_22.take x_2.2) (x_21 : Int)) fun x_27 =>
   if (decide (x_27.1 < 2)) = true then
   (
    obind (getO (x_22.take x_2.2) (x_21 : Int)) fun x_28 =>
    obind (getO (x_22.take x_2.2) (x_21 : Int)) fun x_29 =>
    olet (x_22.set (x_21 : Int).toNat (x_29.1, x_28.2.1 ^^^ 1, x_29.2.2.1, x_29.2.2.2)) fun x_30 =>
    F.law30_CborPrints_K2 x_21 x_30
   ) else (
    F.law30_CborPrints_K2 x_21 x_22
   )
  ) else (
   oinr (
    obind (F.ref30_Print (x_22.take x_2.2)) fun x_35 =>
    obind (F.ref30_Shaped (x_22.take x_2.2)) fun x_38 =>
    obind (F.cbor_Print (x_22.take x_2.2)) fun x_39 =>
    if (x_39.2 != x_35.2) = true then
    (
     F.law30_CborPrints_K3 x_2 x_22 true
    ) else (
     obind (F.law30_sameBytes x_39.1 x_35.1) fun x_43 =>
     if (!x_43) = true then
     (
      F.law30_CborPrints_K3 x_2 x_22 true
     ) else (
      obind (F.cbor_Shaped (x_22.take x_2.2)) fun x_45 =>
      F.law30_CborPrints_K3 x_2 x_22 (x_45 != x_38)
     )
    )
   )
  )
noncomputable def F.law30_CborPrints_K1 (x_2 : (List (Int × UInt64 × (List UInt8) × Int) × Nat)) : Bool → Option (Bool)
 | x_19 =>
  if x_19 = true then
  (
   some false
  ) else (
   loop (F.law30_CborPrints_L1 x_2) (0, x_2.1)
  )
noncomputable def F.law30_CborPrints (a0 : List (Int × UInt64 × (List UInt8) × Int)) : Option (Bool) :=
 obind (F.ref30_Beyond a0) fun x_1 =>
 if x_1 = true then
 (
  some true
 ) else (
  obind (F.law30_wide a0) fun x_2 =>
  obind (F.cbor_Print (x_2.1.take x_2.2)) fun x_6 =>
  obind (F.cbor_Shaped (x_2.1.take x_2.2)) fun x_9 =>
  obind (F.ref30_Print a0) fun x_10 =>
  if (x_6.2 != x_10.2) = true then
  (
   F.law30_CborPrints_K1 x_2 true
  ) else (
   obind (F.law30_sameBytes x_6.1 x_10.1) fun x_14 =>
   if (!x_14) = true then
   (
    F.law30_CborPrints_K1 x_2 true
   ) else (
    obind (F.ref30_Shaped a0) fun x_16 =>
    if (x_9 != x_16) = true then
    (
     F.law30_CborPrints_K1 x_2 true
    ) else (
     obind (F.law30_left x_2.1 x_2.2 a0) fun x_18 =>
     F.law30_CborPrints_K1 x_2 (!x_18)
    )
   )
  )
 )
noncomputable def F.law30_CborPlaces_K3 (x_36 : Int) : (List (Int × UInt64 × (List UInt8) × Int)) → Option ((Int × (List (Int × UInt64 × (List UInt8) × Int))) ⊕ (Bool))
 | x_48 =>
  oinl (wI (x_36 + 1), x_48)
noncomputable def F.law30_CborPlaces_K5 (a1 : Int) (a2 : List (Int × UInt64 × (List UInt8) × Int)) (x_6 : (List (Int × UInt64 × (List UInt8) × Int) × Nat)) : (List (Int × UInt64 × (List UInt8) × Int)) → Option (Bool)
 | x_61 =>
  obind (F.ref30_Behind (x_61.take x_6.2) a1) fun x_64 =>
  obind (F.ref30_Member (x_61.take x_6.2) a1 a2) fun x_65 =>
  obind (F.cbor_Behind (x_61.take x_6.2) a1) fun x_66 =>
  if (x_66 == x_64) = true then
  (
   obind (F.cbor_Member (x_61.take x_6.2) a1 a2) fun x_68 =>
   some (x_68 == x_65)
  ) else (
   some false
  )
noncomputable def F.law30_CborPlaces_K4 (x_6 : (List (Int × UInt64 × (List UInt8) × Int) × Nat)) (x_37 : List (Int × UInt64 × (List UInt8) × Int)) (a1 : Int) (a2 : List (Int × UInt64 × (List UInt8) × Int)) : Bool → Option (Bool)
 | x_56 =>
  if x_56 = true then
  (
   some false
  ) else (
   if (decide ((0 : Int) < ((x_37.take x_6.2).length : Int))) = true then
   (
    obind (getO (x_37.take x_6.2) (wI (((x_37.take x_6.2).length : Int) - 1) : Int)) fun x_58 =>
    olet (x_37.set (wI (((x_37.take x_6.2).length : Int) - 1) : Int).toNat (8, x_58.2.1, x_58.2.2.1, x_58.2.2.2)) fun x_59 =>
    F.law30_CborPlaces_K5 a1 a2 x_6 x_59
   ) else (
    F.law30_CborPlaces_K5 a1 a2 x_6 x_37
   )
  )
noncomputable def F.law30_CborPlaces_L2 (a1 : Int) (a2 : List (Int × UInt64 × (List UInt8) × Int)) (x_6 : (List (Int × UInt64 × (List UInt8) × Int) × Nat)) : Int × (List (Int × UInt64 × (List UInt8) × Int)) → Option ((Int × (List (Int × UInt64 × (List UInt8) × Int))) ⊕ (Bool))
 | (x_36, x_37) =>
  if (decide (x_36 < ((x_37.take x_6.2).length : Int))) = true then
  (
   obind (getO (x_37.take x_6.2) (x_36 : Int)) fun x_42 =>
   if (x_42.1 == 2) = true then
   (
    obind (getO (x_37.take x_6.2) (x_36 : Int)) fun x_43 =>
    obind (sadO x_43.2.2.1 [120]) fun x_44 =>
    obind (getO (x_37.take x_6.2) (x_36 : Int)) fun x_45 =>
    olet (x_37.set (x_36 : Int).toNat (x_45.1, x_45.2.1, x_44, x_45.2.2.2)) fun x_46 =>
    F.law30_CborPlaces_K3 x_36 x_46
   ) else (
    F.law30_CborPlaces_K3 x_36 x_37
   )
  ) else (
   oinr (
    obind (F.ref30_Behind (x_37.take x_6.2) a1) fun x_51 =>
    obind (F.ref30_Member (x_37.take x_6.2) a1 a2) fun x_52 =>
    obind (F.cbor_Behind (x_37.take x_6.2) a1) fun x_53 =>
    obind (F.cbor_Member (x_37.take x_6.2) a1 a2) fun x_54 =>
    if (x_53 != x_51) = true then
    (
     F.law30_CborPlaces_K4 x_6 x_37 a1 a2 true
    ) else (
     F.law30_CborPlaces_K4 x_6 x_37 a1 a2 (x_54 != x_52)
    )
   )
  )
noncomputable def F.law30_CborPlaces_L1 (a0 : List (Int × UInt64 × (List UInt8) × Int)) (a1 : Int) (x_6 : (List (Int × UInt64 × (List UInt8) × Int) × Nat)) (x_10 : (List (Int × UInt64 × (List UInt8) × Int) × Nat)) (a2 : List (Int × UInt64 × (List UInt8) × Int)) : Int × (List (Int × UInt64 × (List UInt8) × Int)) → Option ((Int × (List (Int × UInt64 × (List UInt8) × Int))) ⊕ (Bool))
 | (x_25, x_26) =>
  if (decide (x_25 < ((x_26.take x_10.2).length : Int))) = true then
  (
   obind (getO (x_26.take x_10.2) (x_25 : Int)) fun x_31 =>
   obind (getO (x_26.take x_10.2) (x_25 : Int)) fun x_32 =>
   olet (x_26.set (x_25 : Int).toNat (x_32.1, x_31.2.1 ^^^ 1, x_32.2.2.1, x_32.2.2.2)) fun x_33 =>
   oinl (wI (x_25 + 1), x_33)
  ) else (
   oinr (
    obind (F.ref30_Member a0 a1 (x_26.take x_10.2)) fun x_34 =>
    obind (F.cbor_Member (x_6.1.take x_6.2) a1 (x_26.take x_10.2)) fun x_35 =>
    if (x_35 != x_34) = true then
    (
     some false
    ) else (
     loop (F.law30_CborPlaces_L2 a1 a2 x_6) (0, x_6.1)
    )
   )
  )
noncomputable def F.law30_CborPlaces_K2 (x_10 : (List (Int × UInt64 × (List UInt8) × Int) × Nat)) (a0 : List (Int × UInt64 × (List UInt8) × Int)) (a1 : Int) (x_6 : (List (Int × UInt64 × (List UInt8) × Int) × Nat)) (a2 : List (Int × UInt64 × (List UInt8) × Int)) : Bool → Option (Bool)
 | x_23 =>
  if x_23 = true then
  (
   some false
  ) else (
   loop (F.law30_CborPlaces_L1 a0 a1 x_6 x_10 a2) (0, x_10.1)
  )
noncomputable def F.law30_CborPlaces_K1 (a0 : List (Int × UInt64 × (List UInt8) × Int)) (a1 : Int) (a2 : List (Int × UInt64 × (List UInt8) × Int)) : Bool → Option (Bool)
 | x_4 =>
  if x_4 = true then
  (
   some true
  ) else (
   obind (F.law30_wide a0) fun x_6 =>
   obind (F.law30_wide a2) fun x_10 =>
   obind (F.cbor_Behind (x_6.1.take x_6.2) a1) fun x_14 =>
   obind (F.cbor_Member (x_6.1.take x_6.2) a1 (x_10.1.take x_10.2)) fun x_15 =>
   obind (F.ref30_Behind a0 a1) fun x_16 =>
   if (x_14 != x_16) = true then
   (
    F.law30_CborPlaces_K2 x_10 a0 a1 x_6 a2 true
   ) else (
    obind (F.ref30_Member a0 a1 a2) fun x_18 =>
    if (x_15 != x_18) = true then
    (
     F.law30_CborPlaces_K2 x_10 a0 a1 x_6 a2 true
    ) else (
     obind (F.law30_left x_6.1 x_6.2 a0) fun x_20 =>
     if (!x_20) = true then
     (
      F.law30_CborPlaces_K2 x_10 a0 a1 x_6 a2 true
     ) else (
      obind (F.law30_left x_10.1 x_10.2 a2) fun x_22 =>
      F.law30_CborPlaces_K2 x_10 a0 a1 x_6 a2 (!x_22)
     )
    )
   )
  )
noncomputable def F.law30_CborPlaces (a0 : List (Int × UInt64 × (List UInt8) × Int)) (a1 : Int) (a2 : List (Int × UInt64 × (List UInt8) × Int)) : Option (Bool) :=
 obind (F.ref30_Beyond a0) fun x_1 =>
 if x_1 = true then
 (
  F.law30_CborPlaces_K1 a0 a1 a2 true
 ) else (
  obind (F.ref30_Beyond a2) fun x_3 =>
  F.law30_CborPlaces_K1 a0 a1 a2 x_3
 )
noncomputable def F.law30_awake_K1 (x_3 : List (Int × UInt64 × (List UInt8) × Int) × Int × Int) (x_8 : List UInt8 × Int) : Bool → Option (Bool)
 | x_24 =>
  if x_24 = true then
  (
   some false
  ) else (
   obind (F.law30_sameBytes x_8.1 [130, 56, 99, 66, 120, 121]) fun x_28 =>
   if x_28 = true then
   (
    obind (F.cbor_Member x_3.1 0 ([(3, 0, [97], 0)] : List (Int × UInt64 × (List UInt8) × Int))) fun x_32 =>
    some (x_32 == 2)
   ) else (
    some false
   )
  )
noncomputable def F.law30_awake  : Option (Bool) :=
 obind (F.cbor_Parse [161, 97, 97, 130, 1, 245]) fun x_3 =>
 obind (F.cbor_Print ([(4, 0, [], 2), (1, 99, [], 0), (2, 0, [120, 121], 0)] : List (Int × UInt64 × (List UInt8) × Int))) fun x_8 =>
 obind (F.cbor_Parse [130, 24, 23, 0]) fun x_13 =>
 if (x_3.2.1 != 0) = true then
 (
  F.law30_awake_K1 x_3 x_8 true
 ) else (
  if (x_8.2 != 0) = true then
  (
   F.law30_awake_K1 x_3 x_8 true
  ) else (
   if (x_13.2.1 != 220) = true then
   (
    F.law30_awake_K1 x_3 x_8 true
   ) else (
    if (x_13.2.2 != 1) = true then
    (
     F.law30_awake_K1 x_3 x_8 true
    ) else (
     if ((x_3.1.length : Int) != 5) = true then
     (
      F.law30_awake_K1 x_3 x_8 true
     ) else (
      obind (getO x_3.1 (1 : Int)) fun x_21 =>
      if (x_21.2.2.1 != [97]) = true then
      (
       F.law30_awake_K1 x_3 x_8 true
      ) else (
       obind (getO x_3.1 (4 : Int)) fun x_23 =>
       F.law30_awake_K1 x_3 x_8 (x_23.2.1 != 21)
      )
     )
    )
   )
  )
 )
noncomputable def F.law30_CborOne_K3 (a0 : List UInt8) (a1 : List UInt8) (x_2 : List (Int × UInt64 × (List UInt8) × Int) × Int × Int) (x_5 : List (Int × UInt64 × (List UInt8) × Int) × Int × Int) : Bool → Option (Bool)
 | x_18 =>
  if x_18 = true then
  (
   some false
  ) else (
   obind (F.law30_same x_2.1 x_5.1) fun x_20 =>
   obind (F.law30_sameBytes a0 a1) fun x_21 =>
   some (x_20 == x_21)
  )
noncomputable def F.law30_CborOne_K2 (a0 : List UInt8) (a1 : List UInt8) (x_2 : List (Int × UInt64 × (List UInt8) × Int) × Int × Int) (x_5 : List (Int × UInt64 × (List UInt8) × Int) × Int × Int) : Int → Option (Bool)
 | x_12 =>
  obind (tkO a0 (x_12 : Int)) fun x_14 =>
  obind (tkO a1 (x_12 : Int)) fun x_15 =>
  obind (F.law30_sameBytes x_14 x_15) fun x_16 =>
  if x_16 = true then
  (
   F.law30_CborOne_K3 a0 a1 x_2 x_5 ((a0.length : Int) != (a1.length : Int))
  ) else (
   F.law30_CborOne_K3 a0 a1 x_2 x_5 false
  )
noncomputable def F.law30_CborOne_K1 (a0 : List UInt8) (a1 : List UInt8) (x_2 : List (Int × UInt64 × (List UInt8) × Int) × Int × Int) (x_5 : List (Int × UInt64 × (List UInt8) × Int) × Int × Int) : Bool → Option (Bool)
 | x_9 =>
  if x_9 = true then
  (
   some true
  ) else (
   if (decide ((a1.length : Int) < (a0.length : Int))) = true then
   (
    F.law30_CborOne_K2 a0 a1 x_2 x_5 (a1.length : Int)
   ) else (
    F.law30_CborOne_K2 a0 a1 x_2 x_5 (a0.length : Int)
   )
  )
noncomputable def F.law30_CborOne (a0 : List UInt8) (a1 : List UInt8) : Option (Bool) :=
 obind (F.law30_awake ) fun x_1 =>
 if (!x_1) = true then
 (
  some false
 ) else (
  obind (F.cbor_Parse a0) fun x_2 =>
  obind (F.cbor_Parse a1) fun x_5 =>
  if (x_2.2.1 != 0) = true then
  (
   F.law30_CborOne_K1 a0 a1 x_2 x_5 true
  ) else (
   F.law30_CborOne_K1 a0 a1 x_2 x_5 (x_5.2.1 != 0)
  )
 )
noncomputable def F.law30_CborCuts_K2 (a0 : List UInt8) (a2 : List UInt8) : Bool → Option (Bool)
 | x_17 =>
  if x_17 = true then
  (
   some false
  ) else (
   if ((a2.length : Int) == 0) = true then
   (
    some true
   ) else (
    obind (apO 1 [] a0) fun x_19 =>
    obind (apO 1 x_19 a2) fun x_22 =>
    obind (F.cbor_Parse x_22) fun x_25 =>
    if (decide ((65536 : Int) < (x_22.length : Int))) = true then
    (
     if (x_25.2.1 == 10) = true then
     (
      if (x_25.2.2 == 0) = true then
      (
       some ((x_25.1.length : Int) == 0)
      ) else (
       some false
      )
     ) else (
      some false
     )
    ) else (
     if (x_25.2.1 == 220) = true then
     (
      if (x_25.2.2 == (a0.length : Int)) = true then
      (
       some ((x_25.1.length : Int) == 0)
      ) else (
       some false
      )
     ) else (
      some false
     )
    )
   )
  )
noncomputable def F.law30_CborCuts_K1 (a0 : List UInt8) (a2 : List UInt8) : Int → Option (Bool)
 | x_9 =>
  obind (tkO a0 (x_9 : Int)) fun x_11 =>
  obind (F.cbor_Parse x_11) fun x_12 =>
  if (x_12.2.1 != 220) = true then
  (
   F.law30_CborCuts_K2 a0 a2 true
  ) else (
   if (x_12.2.2 != x_9) = true then
   (
    F.law30_CborCuts_K2 a0 a2 true
   ) else (
    F.law30_CborCuts_K2 a0 a2 ((x_12.1.length : Int) != 0)
   )
  )
noncomputable def F.law30_CborCuts (a0 : List UInt8) (a1 : Int) (a2 : List UInt8) : Option (Bool) :=
 obind (F.law30_awake ) fun x_1 =>
 if (!x_1) = true then
 (
  some false
 ) else (
  obind (F.cbor_Parse a0) fun x_2 =>
  if (x_2.2.1 != 0) = true then
  (
   some true
  ) else (
   grd (¬ (a0.length : Int) = 0) <|
   olet (Int.tmod a1 (a0.length : Int)) fun x_6 =>
   if (decide (x_6 < 0)) = true then
   (
    olet (wI (x_6 + (a0.length : Int))) fun x_7 =>
    F.law30_CborCuts_K1 a0 a2 x_7
   ) else (
    F.law30_CborCuts_K1 a0 a2 x_6
   )
  )
 )
noncomputable def F.law30_CborNests_K2 (x_11 : Int) : List UInt8 × Int → Option ((List UInt8 × Int × Int) ⊕ (Bool))
 | (x_40, x_43) =>
  oinl (x_40, x_43, wI (x_11 + 1))
noncomputable def F.law30_CborNests_K4 (x_7 : List UInt8) (x_16 : Int) (x_11 : Int) : UInt8 → Option ((List UInt8 × Int × Int) ⊕ (Bool))
 | x_21 =>
  if (x_21 == 0) = true then
  (
   obind (apO 1 x_7 [129]) fun x_25 =>
   F.law30_CborNests_K2 x_11 (x_25, x_16)
  ) else (
   if (x_21 == 1) = true then
   (
    obind (apO 1 x_7 [161, 0]) fun x_30 =>
    F.law30_CborNests_K2 x_11 (x_30, x_16)
   ) else (
    obind (apO 1 x_7 [193]) fun x_35 =>
    F.law30_CborNests_K2 x_11 (x_35, x_16)
   )
  )
noncomputable def F.law30_CborNests_K3 (a1 : List UInt8) (x_11 : Int) (x_7 : List UInt8) : Int → Option ((List UInt8 × Int × Int) ⊕ (Bool))
 | x_16 =>
  if (decide ((0 : Int) < (a1.length : Int))) = true then
  (
   grd (¬ (a1.length : Int) = 0) <|
   obind (getO a1 (Int.tmod x_11 (a1.length : Int) : Int)) fun x_19 =>
   F.law30_CborNests_K4 x_7 x_16 x_11 (x_19 % 3)
  ) else (
   F.law30_CborNests_K4 x_7 x_16 x_11 0
  )
noncomputable def F.law30_CborNests_L1 (a0 : Int) (a2 : List UInt8) (a1 : List UInt8) : List UInt8 × Int × Int → Option ((List UInt8 × Int × Int) ⊕ (Bool))
 | (x_7, x_10, x_11) =>
  if (decide (x_11 < a0)) = true then
  (
   if (x_11 == 32) = true then
   (
    F.law30_CborNests_K3 a1 x_11 x_7 (x_7.length : Int)
   ) else (
    F.law30_CborNests_K3 a1 x_11 x_7 x_10
   )
  ) else (
   oinr (
    if (decide ((32 : Int) < a0)) = true then
    (
     obind (apO 1 x_7 a2) fun x_45 =>
     obind (F.cbor_Parse x_45) fun x_48 =>
     if (decide ((65536 : Int) < (x_45.length : Int))) = true then
     (
      some true
     ) else (
      if (x_48.2.1 == 11) = true then
      (
       if (x_48.2.2 == x_10) = true then
       (
        some ((x_48.1.length : Int) == 0)
       ) else (
        some false
       )
      ) else (
       some false
      )
     )
    ) else (
     obind (apO 1 x_7 [0]) fun x_56 =>
     obind (F.cbor_Parse x_56) fun x_59 =>
     if (x_59.2.1 == 0) = true then
     (
      obind (F.cbor_Shaped x_59.1) fun x_63 =>
      if x_63 = true then
      (
       obind (F.law30_joined 4 [x_59.1]) fun x_67 =>
       obind (F.cbor_Shaped x_67) fun x_70 =>
       some (x_70 == (decide (a0 < 32)))
      ) else (
       some false
      )
     ) else (
      some false
     )
    )
   )
  )
noncomputable def F.law30_CborNests_K1 (a0 : Int) (a2 : List UInt8) (a1 : List UInt8) : Bool → Option (Bool)
 | x_4 =>
  if x_4 = true then
  (
   obind (F.law30_awake ) fun x_6 =>
   some x_6
  ) else (
   loop (F.law30_CborNests_L1 a0 a2 a1) ([], 0, 0)
  )
noncomputable def F.law30_CborNests (a0 : Int) (a1 : List UInt8) (a2 : List UInt8) : Option (Bool) :=
 obind (F.law30_awake ) fun x_1 =>
 if (!x_1) = true then
 (
  F.law30_CborNests_K1 a0 a2 a1 true
 ) else (
  if (decide (a0 < 0)) = true then
  (
   F.law30_CborNests_K1 a0 a2 a1 true
  ) else (
   F.law30_CborNests_K1 a0 a2 a1 (decide ((100 : Int) < a0))
  )
 )
noncomputable def F.law30_CborBack_K1 (a1 : List (Int × UInt64 × (List UInt8) × Int)) : Unit → Option (Bool)
 | _ =>
  obind (F.cbor_Print a1) fun x_26 =>
  if (x_26.2 != 0) = true then
  (
   if ((x_26.1.length : Int) == 0) = true then
   (
    obind (F.cbor_Shaped a1) fun x_30 =>
    some ((x_26.2 == 10) == x_30)
   ) else (
    some false
   )
  ) else (
   obind (F.cbor_Parse x_26.1) fun x_31 =>
   if (x_31.2.1 == 0) = true then
   (
    obind (F.law30_same x_31.1 a1) fun x_35 =>
    if x_35 = true then
    (
     some (decide ((x_26.1.length : Int) ≤ 65536))
    ) else (
     some false
    )
   ) else (
    some false
   )
  )
noncomputable def F.law30_CborBack_K2 (a1 : List (Int × UInt64 × (List UInt8) × Int)) : Bool → Option (Bool)
 | x_16 =>
  if x_16 = true then
  (
   some false
  ) else (
   F.law30_CborBack_K1 a1 ()
  )
noncomputable def F.law30_CborBack_K3 (a1 : List (Int × UInt64 × (List UInt8) × Int)) : Bool → Option (Bool)
 | x_21 =>
  if x_21 = true then
  (
   some false
  ) else (
   F.law30_CborBack_K1 a1 ()
  )
noncomputable def F.law30_CborBack (a0 : List UInt8) (a1 : List (Int × UInt64 × (List UInt8) × Int)) : Option (Bool) :=
 obind (F.ref30_Beyond a1) fun x_1 =>
 if x_1 = true then
 (
  some true
 ) else (
  obind (F.law30_awake ) fun x_2 =>
  if (!x_2) = true then
  (
   some false
  ) else (
   obind (F.cbor_Parse a0) fun x_3 =>
   if (x_3.2.1 == 0) = true then
   (
    obind (F.cbor_Print x_3.1) fun x_6 =>
    if (x_3.2.2 != 0) = true then
    (
     F.law30_CborBack_K2 a1 true
    ) else (
     if (x_6.2 != 0) = true then
     (
      F.law30_CborBack_K2 a1 true
     ) else (
      obind (F.law30_sameBytes x_6.1 a0) fun x_11 =>
      if (!x_11) = true then
      (
       F.law30_CborBack_K2 a1 true
      ) else (
       obind (F.cbor_Shaped x_3.1) fun x_13 =>
       if (!x_13) = true then
       (
        F.law30_CborBack_K2 a1 true
       ) else (
        obind (F.cbor_Behind x_3.1 0) fun x_15 =>
        F.law30_CborBack_K2 a1 (x_15 != (x_3.1.length : Int))
       )
      )
     )
    )
   ) else (
    if ((x_3.1.length : Int) != 0) = true then
    (
     F.law30_CborBack_K3 a1 true
    ) else (
     if (decide (x_3.2.2 < 0)) = true then
     (
      F.law30_CborBack_K3 a1 true
     ) else (
      F.law30_CborBack_K3 a1 (decide ((a0.length : Int) < x_3.2.2))
     )
    )
   )
  )
 )
noncomputable def F.law30_CborOrder_K5 (x_64 : Bool) (x_86 : List UInt8 × Int) (x_89 : List UInt8 × Int) : Bool → Option (Bool)
 | x_93 =>
  if x_93 = true then
  (
   some true
  ) else (
   obind (F.law30_less x_86.1 x_89.1) fun x_95 =>
   some (x_64 == x_95)
  )
noncomputable def F.law30_CborOrder_K4 (a0 : List (Int × UInt64 × (List UInt8) × Int)) (a2 : List (Int × UInt64 × (List UInt8) × Int)) (x_64 : Bool) : Bool → Option (Bool)
 | x_84 =>
  if x_84 = true then
  (
   some false
  ) else (
   obind (F.cbor_Print a0) fun x_86 =>
   obind (F.cbor_Print a2) fun x_89 =>
   if (x_86.2 != 0) = true then
   (
    F.law30_CborOrder_K5 x_64 x_86 x_89 true
   ) else (
    F.law30_CborOrder_K5 x_64 x_86 x_89 (x_89.2 != 0)
   )
  )
noncomputable def F.law30_CborOrder_K3 (a0 : List (Int × UInt64 × (List UInt8) × Int)) (a1 : List (Int × UInt64 × (List UInt8) × Int)) (a2 : List (Int × UInt64 × (List UInt8) × Int)) (a3 : List (Int × UInt64 × (List UInt8) × Int)) (x_64 : Bool) : (List (Int × UInt64 × (List UInt8) × Int)) → Option (Bool)
 | x_69 =>
  obind (F.cbor_Member x_69 0 a0) fun x_73 =>
  obind (F.cbor_Member x_69 0 a2) fun x_74 =>
  if (decide (x_73 < 0)) = true then
  (
   F.law30_CborOrder_K4 a0 a2 x_64 true
  ) else (
   if (decide (x_74 < 0)) = true then
   (
    F.law30_CborOrder_K4 a0 a2 x_64 true
   ) else (
    obind (F.cbor_Behind x_69 x_73) fun x_77 =>
    obind (slO x_69 (x_73 : Int) (x_77 : Int)) fun x_78 =>
    obind (F.law30_same x_78 a1) fun x_79 =>
    if (!x_79) = true then
    (
     F.law30_CborOrder_K4 a0 a2 x_64 true
    ) else (
     obind (F.cbor_Behind x_69 x_74) fun x_81 =>
     obind (slO x_69 (x_74 : Int) (x_81 : Int)) fun x_82 =>
     obind (F.law30_same x_82 a3) fun x_83 =>
     F.law30_CborOrder_K4 a0 a2 x_64 (!x_83)
    )
   )
  )
noncomputable def F.law30_CborOrder_K2 (a0 : List (Int × UInt64 × (List UInt8) × Int)) (a1 : List (Int × UInt64 × (List UInt8) × Int)) (a2 : List (Int × UInt64 × (List UInt8) × Int)) (a3 : List (Int × UInt64 × (List UInt8) × Int)) : Bool → Option (Bool)
 | x_52 =>
  if x_52 = true then
  (
   some true
  ) else (
   obind (F.law30_joined 5 [a0, a1, a2, a3]) fun x_56 =>
   obind (F.law30_joined 5 [a2, a3, a0, a1]) fun x_61 =>
   obind (F.cbor_Shaped x_56) fun x_64 =>
   obind (F.cbor_Shaped x_61) fun x_65 =>
   obind (F.law30_same a0 a2) fun x_66 =>
   if x_66 = true then
   (
    if (!x_64) = true then
    (
     some (!x_65)
    ) else (
     some false
    )
   ) else (
    if (x_64 == x_65) = true then
    (
     some false
    ) else (
     if x_65 = true then
     (
      F.law30_CborOrder_K3 a0 a1 a2 a3 x_64 x_61
     ) else (
      F.law30_CborOrder_K3 a0 a1 a2 a3 x_64 x_56
     )
    )
   )
  )
noncomputable def F.law30_CborOrder_K1 (a0 : List (Int × UInt64 × (List UInt8) × Int)) (a1 : List (Int × UInt64 × (List UInt8) × Int)) (a2 : List (Int × UInt64 × (List UInt8) × Int)) (a3 : List (Int × UInt64 × (List UInt8) × Int)) : Bool → Option (Bool)
 | x_35 =>
  if x_35 = true then
  (
   some true
  ) else (
   obind (F.law30_awake ) fun x_37 =>
   if (!x_37) = true then
   (
    some false
   ) else (
    obind (F.law30_joined 4 [a0, a1, a2, a3]) fun x_40 =>
    obind (F.cbor_Shaped x_40) fun x_43 =>
    if (!x_43) = true then
    (
     F.law30_CborOrder_K2 a0 a1 a2 a3 true
    ) else (
     obind (F.cbor_Shaped a0) fun x_45 =>
     if (!x_45) = true then
     (
      F.law30_CborOrder_K2 a0 a1 a2 a3 true
     ) else (
      obind (F.cbor_Shaped a1) fun x_47 =>
      if (!x_47) = true then
      (
       F.law30_CborOrder_K2 a0 a1 a2 a3 true
      ) else (
       obind (F.cbor_Shaped a2) fun x_49 =>
       if (!x_49) = true then
       (
        F.law30_CborOrder_K2 a0 a1 a2 a3 true
       ) else (
        obind (F.cbor_Shaped a3) fun x_51 =>
        F.law30_CborOrder_K2 a0 a1 a2 a3 (!x_51)
       )
      )
     )
    )
   )
  )
noncomputable def F.law30_CborOrder (a0 : List (Int × UInt64 × (List UInt8) × Int)) (a1 : List (Int × UInt64 × (List UInt8) × Int)) (a2 : List (Int × UInt64 × (List UInt8) × Int)) (a3 : List (Int × UInt64 × (List UInt8) × Int)) : Option (Bool) :=
 obind (F.law30_joined 4 [a0]) fun x_3 =>
 obind (F.ref30_Beyond x_3) fun x_6 =>
 if x_6 = true then
 (
  F.law30_CborOrder_K1 a0 a1 a2 a3 true
 ) else (
  obind (F.law30_joined 4 [a1]) fun x_10 =>
  obind (F.ref30_Beyond x_10) fun x_13 =>
  if x_13 = true then
  (
   F.law30_CborOrder_K1 a0 a1 a2 a3 true
  ) else (
   obind (F.law30_joined 4 [a2]) fun x_17 =>
   obind (F.ref30_Beyond x_17) fun x_20 =>
   if x_20 = true then
   (
    F.law30_CborOrder_K1 a0 a1 a2 a3 true
   ) else (
    obind (F.law30_joined 4 [a3]) fun x_24 =>
    obind (F.ref30_Beyond x_24) fun x_27 =>
    if x_27 = true then
    (
     F.law30_CborOrder_K1 a0 a1 a2 a3 true
    ) else (
     obind (F.law30_joined 4 [a0, a1, a2, a3]) fun x_31 =>
     obind (F.ref30_Beyond x_31) fun x_34 =>
     F.law30_CborOrder_K1 a0 a1 a2 a3 x_34
    )
   )
  )
 )
noncomputable def F.law30_CborSpares_K2 (x_145 : Int) : Bool → Option ((Int) ⊕ (Bool))
 | x_158 =>
  if x_158 = true then
  (
   oinr (
    some false
   )
  ) else (
   oinl (wI (x_145 + 1))
  )
noncomputable def F.law30_CborSpares_K3 (x_161 : Int) : Bool → Option ((Int) ⊕ (Bool))
 | x_174 =>
  if x_174 = true then
  (
   oinr (
    some false
   )
  ) else (
   oinl (wI (x_161 + 1))
  )
noncomputable def F.law30_CborSpares_K4 (x_177 : Int) : Bool → Option ((Int) ⊕ (Bool))
 | x_190 =>
  if x_190 = true then
  (
   oinr (
    some false
   )
  ) else (
   oinl (wI (x_177 + 1))
  )
noncomputable def F.law30_CborSpares_K5 (x_193 : Int) : Bool → Option ((Int) ⊕ (Bool))
 | x_206 =>
  if x_206 = true then
  (
   oinr (
    some false
   )
  ) else (
   oinl (wI (x_193 + 1))
  )
noncomputable def F.law30_CborSpares_K6 (x_12 : List UInt8 × Int) (x_29 : (List UInt8 × Nat)) (x_209 : List (Int × UInt64 × (List UInt8) × Int) × Int × Int) : Bool → Option (Bool)
 | x_216 =>
  if x_216 = true then
  (
   some false
  ) else (
   obind (F.cbor_Print x_209.1) fun x_218 =>
   if (x_218.2 == x_12.2) = true then
   (
    obind (F.law30_sameBytes x_218.1 (x_29.1.take x_29.2)) fun x_222 =>
    some x_222
   ) else (
    some false
   )
  )
noncomputable def F.law30_CborSpares_L10 (a0 : List UInt8) (x_2 : (List UInt8 × Nat)) (x_6 : List (Int × UInt64 × (List UInt8) × Int) × Int × Int) (x_25 : (List (Int × UInt64 × (List UInt8) × Int) × Nat)) (x_59 : List UInt8) (x_112 : List UInt8) (x_12 : List UInt8 × Int) (x_29 : (List UInt8 × Nat)) : Int → Option ((Int) ⊕ (Bool))
 | x_193 =>
  if (decide (x_193 < (x_112.length : Int))) = true then
  (
   if (decide (x_193 < (x_59.length : Int))) = true then
   (
    obind (getO x_59 (x_193 : Int)) fun x_198 =>
    if (x_198 != (UInt8.ofInt 71)) = true then
    (
     F.law30_CborSpares_K5 x_193 true
    ) else (
     obind (getO x_112 (x_193 : Int)) fun x_200 =>
     if (x_200 != (UInt8.ofInt 71)) = true then
     (
      F.law30_CborSpares_K5 x_193 true
     ) else (
      if (decide ((x_59.length : Int) ≤ x_193)) = true then
      (
       obind (getO x_112 (x_193 : Int)) fun x_203 =>
       F.law30_CborSpares_K5 x_193 (x_203 != (UInt8.ofInt 81))
      ) else (
       F.law30_CborSpares_K5 x_193 false
      )
     )
    )
   ) else (
    if (decide ((x_59.length : Int) ≤ x_193)) = true then
    (
     obind (getO x_112 (x_193 : Int)) fun x_205 =>
     F.law30_CborSpares_K5 x_193 (x_205 != (UInt8.ofInt 81))
    ) else (
     F.law30_CborSpares_K5 x_193 false
    )
   )
  ) else (
   oinr (
    obind (F.cbor_Parse (x_2.1.take x_2.2)) fun x_209 =>
    if (x_209.2.1 != x_6.2.1) = true then
    (
     F.law30_CborSpares_K6 x_12 x_29 x_209 true
    ) else (
     obind (F.law30_same x_209.1 (x_25.1.take x_25.2)) fun x_213 =>
     if (!x_213) = true then
     (
      F.law30_CborSpares_K6 x_12 x_29 x_209 true
     ) else (
      obind (F.law30_spared x_2.1 x_2.2 a0) fun x_215 =>
      F.law30_CborSpares_K6 x_12 x_29 x_209 (!x_215)
     )
    )
   )
  )
noncomputable def F.law30_CborSpares_L9 (x_52 : List (Int × UInt64 × (List UInt8) × Int)) (x_109 : List (Int × UInt64 × (List UInt8) × Int)) (a0 : List UInt8) (x_2 : (List UInt8 × Nat)) (x_6 : List (Int × UInt64 × (List UInt8) × Int) × Int × Int) (x_25 : (List (Int × UInt64 × (List UInt8) × Int) × Nat)) (x_59 : List UInt8) (x_112 : List UInt8) (x_12 : List UInt8 × Int) (x_29 : (List UInt8 × Nat)) : Int → Option ((Int) ⊕ (Bool))
 | x_177 =>
  if (decide (x_177 < (x_109.length : Int))) = true then
  (
   if (decide (x_177 < (x_52.length : Int))) = true then
   (
    obind (getO x_52 (x_177 : Int)) fun x_182 =>
    if (x_182.1 != 1001) = true then
    (
     F.law30_CborSpares_K4 x_177 true
    ) else (
     obind (getO x_109 (x_177 : Int)) fun x_184 =>
     if (x_184.1 != 1001) = true then
     (
      F.law30_CborSpares_K4 x_177 true
     ) else (
      if (decide ((x_52.length : Int) ≤ x_177)) = true then
      (
       obind (getO x_109 (x_177 : Int)) fun x_187 =>
       F.law30_CborSpares_K4 x_177 (x_187.1 != 5001)
      ) else (
       F.law30_CborSpares_K4 x_177 false
      )
     )
    )
   ) else (
    if (decide ((x_52.length : Int) ≤ x_177)) = true then
    (
     obind (getO x_109 (x_177 : Int)) fun x_189 =>
     F.law30_CborSpares_K4 x_177 (x_189.1 != 5001)
    ) else (
     F.law30_CborSpares_K4 x_177 false
    )
   )
  ) else (
   oinr (
    loop (F.law30_CborSpares_L10 a0 x_2 x_6 x_25 x_59 x_112 x_12 x_29) 0
   )
  )
noncomputable def F.law30_CborSpares_L8 (x_45 : List UInt8) (x_72 : List UInt8) (x_52 : List (Int × UInt64 × (List UInt8) × Int)) (x_109 : List (Int × UInt64 × (List UInt8) × Int)) (a0 : List UInt8) (x_2 : (List UInt8 × Nat)) (x_6 : List (Int × UInt64 × (List UInt8) × Int) × Int × Int) (x_25 : (List (Int × UInt64 × (List UInt8) × Int) × Nat)) (x_59 : List UInt8) (x_112 : List UInt8) (x_12 : List UInt8 × Int) (x_29 : (List UInt8 × Nat)) : Int → Option ((Int) ⊕ (Bool))
 | x_161 =>
  if (decide (x_161 < (x_72.length : Int))) = true then
  (
   if (decide (x_161 < (x_45.length : Int))) = true then
   (
    obind (getO x_45 (x_161 : Int)) fun x_166 =>
    if (x_166 != (UInt8.ofInt 70)) = true then
    (
     F.law30_CborSpares_K3 x_161 true
    ) else (
     obind (getO x_72 (x_161 : Int)) fun x_168 =>
     if (x_168 != (UInt8.ofInt 70)) = true then
     (
      F.law30_CborSpares_K3 x_161 true
     ) else (
      if (decide ((x_45.length : Int) ≤ x_161)) = true then
      (
       obind (getO x_72 (x_161 : Int)) fun x_171 =>
       F.law30_CborSpares_K3 x_161 (x_171 != (UInt8.ofInt 80))
      ) else (
       F.law30_CborSpares_K3 x_161 false
      )
     )
    )
   ) else (
    if (decide ((x_45.length : Int) ≤ x_161)) = true then
    (
     obind (getO x_72 (x_161 : Int)) fun x_173 =>
     F.law30_CborSpares_K3 x_161 (x_173 != (UInt8.ofInt 80))
    ) else (
     F.law30_CborSpares_K3 x_161 false
    )
   )
  ) else (
   oinr (
    loop (F.law30_CborSpares_L9 x_52 x_109 a0 x_2 x_6 x_25 x_59 x_112 x_12 x_29) 0
   )
  )
noncomputable def F.law30_CborSpares_L7 (x_38 : List (Int × UInt64 × (List UInt8) × Int)) (x_69 : List (Int × UInt64 × (List UInt8) × Int)) (x_45 : List UInt8) (x_72 : List UInt8) (x_52 : List (Int × UInt64 × (List UInt8) × Int)) (x_109 : List (Int × UInt64 × (List UInt8) × Int)) (a0 : List UInt8) (x_2 : (List UInt8 × Nat)) (x_6 : List (Int × UInt64 × (List UInt8) × Int) × Int × Int) (x_25 : (List (Int × UInt64 × (List UInt8) × Int) × Nat)) (x_59 : List UInt8) (x_112 : List UInt8) (x_12 : List UInt8 × Int) (x_29 : (List UInt8 × Nat)) : Int → Option ((Int) ⊕ (Bool))
 | x_145 =>
  if (decide (x_145 < (x_69.length : Int))) = true then
  (
   if (decide (x_145 < (x_38.length : Int))) = true then
   (
    obind (getO x_38 (x_145 : Int)) fun x_150 =>
    if (x_150.1 != 1000) = true then
    (
     F.law30_CborSpares_K2 x_145 true
    ) else (
     obind (getO x_69 (x_145 : Int)) fun x_152 =>
     if (x_152.1 != 1000) = true then
     (
      F.law30_CborSpares_K2 x_145 true
     ) else (
      if (decide ((x_38.length : Int) ≤ x_145)) = true then
      (
       obind (getO x_69 (x_145 : Int)) fun x_155 =>
       F.law30_CborSpares_K2 x_145 (x_155.1 != 5000)
      ) else (
       F.law30_CborSpares_K2 x_145 false
      )
     )
    )
   ) else (
    if (decide ((x_38.length : Int) ≤ x_145)) = true then
    (
     obind (getO x_69 (x_145 : Int)) fun x_157 =>
     F.law30_CborSpares_K2 x_145 (x_157.1 != 5000)
    ) else (
     F.law30_CborSpares_K2 x_145 false
    )
   )
  ) else (
   oinr (
    loop (F.law30_CborSpares_L8 x_45 x_72 x_52 x_109 a0 x_2 x_6 x_25 x_59 x_112 x_12 x_29) 0
   )
  )
noncomputable def F.law30_CborSpares_L6 (x_38 : List (Int × UInt64 × (List UInt8) × Int)) (x_69 : List (Int × UInt64 × (List UInt8) × Int)) (x_45 : List UInt8) (x_72 : List UInt8) (x_52 : List (Int × UInt64 × (List UInt8) × Int)) (a0 : List UInt8) (x_2 : (List UInt8 × Nat)) (x_6 : List (Int × UInt64 × (List UInt8) × Int) × Int × Int) (x_25 : (List (Int × UInt64 × (List UInt8) × Int) × Nat)) (x_59 : List UInt8) (x_12 : List UInt8 × Int) (x_29 : (List UInt8 × Nat)) : (List (Int × UInt64 × (List UInt8) × Int)) × List UInt8 × Int → Option (((List (Int × UInt64 × (List UInt8) × Int)) × List UInt8 × Int) ⊕ (Bool))
 | (x_109, x_112, x_115) =>
  if (decide (x_115 < 70)) = true then
  (
   obind (apO 40 x_109 ([(5001, 0, [], 0)] : List (Int × UInt64 × (List UInt8) × Int))) fun x_125 =>
   obind (apO 1 x_112 [UInt8.ofInt 81]) fun x_132 =>
   oinl (x_125, x_132, wI (x_115 + 1))
  ) else (
   oinr (
    loop (F.law30_CborSpares_L7 x_38 x_69 x_45 x_72 x_52 x_109 a0 x_2 x_6 x_25 x_59 x_112 x_12 x_29) 0
   )
  )
noncomputable def F.law30_CborSpares_L5 (x_52 : List (Int × UInt64 × (List UInt8) × Int)) (x_59 : List UInt8) (x_38 : List (Int × UInt64 × (List UInt8) × Int)) (x_45 : List UInt8) (a0 : List UInt8) (x_2 : (List UInt8 × Nat)) (x_6 : List (Int × UInt64 × (List UInt8) × Int) × Int × Int) (x_25 : (List (Int × UInt64 × (List UInt8) × Int) × Nat)) (x_12 : List UInt8 × Int) (x_29 : (List UInt8 × Nat)) : (List (Int × UInt64 × (List UInt8) × Int)) × List UInt8 × Int → Option (((List (Int × UInt64 × (List UInt8) × Int)) × List UInt8 × Int) ⊕ (Bool))
 | (x_69, x_72, x_75) =>
  if (decide (x_75 < 70)) = true then
  (
   obind (apO 40 x_69 ([(5000, 0, [], 0)] : List (Int × UInt64 × (List UInt8) × Int))) fun x_85 =>
   obind (apO 1 x_72 [UInt8.ofInt 80]) fun x_92 =>
   oinl (x_85, x_92, wI (x_75 + 1))
  ) else (
   oinr (
    loop (F.law30_CborSpares_L6 x_38 x_69 x_45 x_72 x_52 a0 x_2 x_6 x_25 x_59 x_12 x_29) (x_52, x_59, 0)
   )
  )
noncomputable def F.law30_CborSpares_L4 (x_38 : List (Int × UInt64 × (List UInt8) × Int)) (x_45 : List UInt8) (x_52 : List (Int × UInt64 × (List UInt8) × Int)) (a0 : List UInt8) (x_2 : (List UInt8 × Nat)) (x_6 : List (Int × UInt64 × (List UInt8) × Int) × Int × Int) (x_25 : (List (Int × UInt64 × (List UInt8) × Int) × Nat)) (x_12 : List UInt8 × Int) (x_29 : (List UInt8 × Nat)) : Int × List UInt8 → Option ((Int × List UInt8) ⊕ (Bool))
 | (x_58, x_59) =>
  if (decide (x_58 < (x_59.length : Int))) = true then
  (
   obind (getO x_59 (x_58 : Int)) fun x_63 =>
   olet (x_59.set (x_58 : Int).toNat (UInt8.ofInt 71)) fun x_64 =>
   oinl (wI (x_58 + 1), x_64)
  ) else (
   oinr (
    loop (F.law30_CborSpares_L5 x_52 x_59 x_38 x_45 a0 x_2 x_6 x_25 x_12 x_29) (x_38, x_45, 0)
   )
  )
noncomputable def F.law30_CborSpares_L3 (x_15 : List UInt8 × Int) (x_38 : List (Int × UInt64 × (List UInt8) × Int)) (x_45 : List UInt8) (a0 : List UInt8) (x_2 : (List UInt8 × Nat)) (x_6 : List (Int × UInt64 × (List UInt8) × Int) × Int × Int) (x_25 : (List (Int × UInt64 × (List UInt8) × Int) × Nat)) (x_12 : List UInt8 × Int) (x_29 : (List UInt8 × Nat)) : Int × (List (Int × UInt64 × (List UInt8) × Int)) → Option ((Int × (List (Int × UInt64 × (List UInt8) × Int))) ⊕ (Bool))
 | (x_51, x_52) =>
  if (decide (x_51 < (x_52.length : Int))) = true then
  (
   obind (getO x_52 (x_51 : Int)) fun x_56 =>
   olet (x_52.set (x_51 : Int).toNat (1001, 0, [], 0)) fun x_57 =>
   oinl (wI (x_51 + 1), x_57)
  ) else (
   oinr (
    loop (F.law30_CborSpares_L4 x_38 x_45 x_52 a0 x_2 x_6 x_25 x_12 x_29) (0, x_15.1)
   )
  )
noncomputable def F.law30_CborSpares_L2 (x_9 : List (Int × UInt64 × (List UInt8) × Int) × Int × Int) (x_15 : List UInt8 × Int) (x_38 : List (Int × UInt64 × (List UInt8) × Int)) (a0 : List UInt8) (x_2 : (List UInt8 × Nat)) (x_6 : List (Int × UInt64 × (List UInt8) × Int) × Int × Int) (x_25 : (List (Int × UInt64 × (List UInt8) × Int) × Nat)) (x_12 : List UInt8 × Int) (x_29 : (List UInt8 × Nat)) : Int × List UInt8 → Option ((Int × List UInt8) ⊕ (Bool))
 | (x_44, x_45) =>
  if (decide (x_44 < (x_45.length : Int))) = true then
  (
   obind (getO x_45 (x_44 : Int)) fun x_49 =>
   olet (x_45.set (x_44 : Int).toNat (UInt8.ofInt 70)) fun x_50 =>
   oinl (wI (x_44 + 1), x_50)
  ) else (
   oinr (
    loop (F.law30_CborSpares_L3 x_15 x_38 x_45 a0 x_2 x_6 x_25 x_12 x_29) (0, x_9.1)
   )
  )
noncomputable def F.law30_CborSpares_L1 (x_12 : List UInt8 × Int) (x_9 : List (Int × UInt64 × (List UInt8) × Int) × Int × Int) (x_15 : List UInt8 × Int) (a0 : List UInt8) (x_2 : (List UInt8 × Nat)) (x_6 : List (Int × UInt64 × (List UInt8) × Int) × Int × Int) (x_25 : (List (Int × UInt64 × (List UInt8) × Int) × Nat)) (x_29 : (List UInt8 × Nat)) : Int × (List (Int × UInt64 × (List UInt8) × Int)) → Option ((Int × (List (Int × UInt64 × (List UInt8) × Int))) ⊕ (Bool))
 | (x_37, x_38) =>
  if (decide (x_37 < (x_38.length : Int))) = true then
  (
   obind (getO x_38 (x_37 : Int)) fun x_42 =>
   olet (x_38.set (x_37 : Int).toNat (1000, 0, [], 0)) fun x_43 =>
   oinl (wI (x_37 + 1), x_43)
  ) else (
   oinr (
    loop (F.law30_CborSpares_L2 x_9 x_15 x_38 a0 x_2 x_6 x_25 x_12 x_29) (0, x_12.1)
   )
  )
noncomputable def F.law30_CborSpares_K1 (x_6 : List (Int × UInt64 × (List UInt8) × Int) × Int × Int) (x_9 : List (Int × UInt64 × (List UInt8) × Int) × Int × Int) (x_15 : List UInt8 × Int) (x_12 : List UInt8 × Int) (a0 : List UInt8) (x_2 : (List UInt8 × Nat)) : Bool → Option (Bool)
 | x_23 =>
  if x_23 = true then
  (
   some false
  ) else (
   obind (F.law30_wide x_9.1) fun x_25 =>
   obind (F.law30_roomy x_15.1) fun x_29 =>
   loop (F.law30_CborSpares_L1 x_12 x_9 x_15 a0 x_2 x_6 x_25 x_29) (0, x_6.1)
  )
noncomputable def F.law30_CborSpares (a0 : List UInt8) : Option (Bool) :=
 obind (F.law30_awake ) fun x_1 =>
 if (!x_1) = true then
 (
  some false
 ) else (
  obind (F.law30_roomy a0) fun x_2 =>
  obind (F.cbor_Parse (x_2.1.take x_2.2)) fun x_6 =>
  obind (F.cbor_Parse (x_2.1.take x_2.2)) fun x_9 =>
  obind (F.cbor_Print x_6.1) fun x_12 =>
  obind (F.cbor_Print x_6.1) fun x_15 =>
  if (x_6.2.1 != x_9.2.1) = true then
  (
   F.law30_CborSpares_K1 x_6 x_9 x_15 x_12 a0 x_2 true
  ) else (
   if (x_12.2 != x_15.2) = true then
   (
    F.law30_CborSpares_K1 x_6 x_9 x_15 x_12 a0 x_2 true
   ) else (
    obind (F.law30_same x_6.1 x_9.1) fun x_20 =>
    if (!x_20) = true then
    (
     F.law30_CborSpares_K1 x_6 x_9 x_15 x_12 a0 x_2 true
    ) else (
     obind (F.law30_sameBytes x_12.1 x_15.1) fun x_22 =>
     F.law30_CborSpares_K1 x_6 x_9 x_15 x_12 a0 x_2 (!x_22)
    )
   )
  )
 )
end Go.Gk
