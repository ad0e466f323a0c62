import Derived.Test.YtldhmmipbogabaaGreatDoorGkS
import Derived.Test.YtldhmmipbogabaaGreatDoorGkFb64
import Derived.Test.YtldhmmipbogabaaGreatDoorGkFref1
set_option linter.unusedVariables false
set_option linter.unusedSimpArgs false
set_option linter.unusedVariables false
namespace Go.Gk
noncomputable def F.law1_roomy_L1 (a0 : List UInt8) : Int × List UInt8 → Option ((Int × List UInt8) ⊕ ((List UInt8 × Nat)))
 | (x_5, x_6) =>
  if (decide (x_5 < (x_6.length : Int))) = true then
  (
   obind (getO x_6 (x_5 : Int)) fun x_10 =>
   olet (x_6.set (x_5 : Int).toNat 165) fun x_11 =>
   oinl (wI (x_5 + 1), x_11)
  ) else (
   oinr (
    grd (0 ≤ ((a0.length : Int) : Int) ∧ ((a0.length : Int) : Int).toNat ≤ x_6.length) <|
    some (x_6, ((a0.length : Int) : Int).toNat)
   )
  )
noncomputable def F.law1_roomy (a0 : List UInt8) : Option ((List UInt8 × Nat)) :=
 obind (mkO 1 (wI ((a0.length : Int) + 9) : Int) (wI ((a0.length : Int) + 9) : Int) (0 : UInt8)) fun x_1 =>
 olet (cpL x_1 a0 0 x_1.length) fun x_4 =>
 loop (F.law1_roomy_L1 a0) ((a0.length : Int), x_4)
noncomputable def F.law1_same_L1 (a0 : List UInt8) (a1 : List UInt8) : Int → Option ((Int) ⊕ (Bool))
 | x_1 =>
  if (decide (x_1 < (a0.length : Int))) = true then
  (
   obind (getO a0 (x_1 : Int)) fun x_5 =>
   obind (getO a1 (x_1 : Int)) fun x_6 =>
   if (x_5 != x_6) = true then
   (
    oinr (
     some false
    )
   ) else (
    oinl (wI (x_1 + 1))
   )
  ) else (
   oinr (
    some true
   )
  )
noncomputable def F.law1_same (a0 : List UInt8) (a1 : List UInt8) : Option (Bool) :=
 if ((a0.length : Int) != (a1.length : Int)) = true then
 (
  some false
 ) else (
  loop (F.law1_same_L1 a0 a1) 0
 )
noncomputable def F.law1_spared_L1 (a0 : List UInt8) (k0 : Nat) (a1 : List UInt8) : Int → Option ((Int) ⊕ (Bool))
 | x_2 =>
  if (decide (x_2 < ((a0.take ((wI ((a1.length : Int) + 9) : Int).toNat)).length : Int))) = true then
  (
   obind (getO (a0.take ((wI ((a1.length : Int) + 9) : Int).toNat)) (x_2 : Int)) fun x_6 =>
   if (x_6 != 165) = true then
   (
    oinr (
     some false
    )
   ) else (
    oinl (wI (x_2 + 1))
   )
  ) else (
   oinr (
    obind (F.law1_same (a0.take k0) a1) fun x_8 =>
    some x_8
   )
  )
noncomputable def F.law1_spared (a0 : List UInt8) (k0 : Nat) (a1 : List UInt8) : Option (Bool) :=
 grd (0 ≤ (wI ((a1.length : Int) + 9) : Int) ∧ (wI ((a1.length : Int) + 9) : Int).toNat ≤ a0.length) <|
 loop (F.law1_spared_L1 a0 k0 a1) (a1.length : Int)
noncomputable def F.law1_B64Encodes_L1 (x_1 : (List UInt8 × Nat)) : Int × List UInt8 → Option ((Int × List UInt8) ⊕ (Bool))
 | (x_14, x_15) =>
  if (decide (x_14 < ((x_15.take x_1.2).length : Int))) = true then
  (
   obind (getO (x_15.take x_1.2) (x_14 : Int)) fun x_20 =>
   obind (getO (x_15.take x_1.2) (x_14 : Int)) fun x_21 =>
   olet (x_15.set (x_14 : Int).toNat (255 - x_20)) fun x_22 =>
   oinl (wI (x_14 + 1), x_22)
  ) else (
   oinr (
    obind (F.ref1_Encode (x_15.take x_1.2)) fun x_23 =>
    obind (F.ref1_EncodeStd (x_15.take x_1.2)) fun x_24 =>
    obind (F.b64_Encode (x_15.take x_1.2)) fun x_25 =>
    if (x_25 == x_23) = true then
    (
     obind (F.b64_EncodeStd (x_15.take x_1.2)) fun x_27 =>
     some (x_27 == x_24)
    ) else (
     some false
    )
   )
  )
noncomputable def F.law1_B64Encodes_K1 (x_1 : (List UInt8 × Nat)) : Bool → Option (Bool)
 | x_12 =>
  if x_12 = true then
  (
   some false
  ) else (
   loop (F.law1_B64Encodes_L1 x_1) (0, x_1.1)
  )
noncomputable def F.law1_B64Encodes (a0 : List UInt8) : Option (Bool) :=
 obind (F.law1_roomy a0) fun x_1 =>
 obind (F.b64_Encode (x_1.1.take x_1.2)) fun x_5 =>
 obind (F.b64_EncodeStd (x_1.1.take x_1.2)) fun x_6 =>
 obind (F.ref1_Encode a0) fun x_7 =>
 if (x_5 != x_7) = true then
 (
  F.law1_B64Encodes_K1 x_1 true
 ) else (
  obind (F.ref1_EncodeStd a0) fun x_9 =>
  if (x_6 != x_9) = true then
  (
   F.law1_B64Encodes_K1 x_1 true
  ) else (
   obind (F.law1_spared x_1.1 x_1.2 a0) fun x_11 =>
   F.law1_B64Encodes_K1 x_1 (!x_11)
  )
 )
noncomputable def F.law1_B64Decodes_K1 (a0 : List UInt8) : Bool → Option (Bool)
 | x_10 =>
  if x_10 = true then
  (
   some false
  ) else (
   obind (F.b64_DecodeStd a0) fun x_12 =>
   obind (F.ref1_DecodeStd a0) fun x_15 =>
   if (x_12.2.1 == x_15.2.1) = true then
   (
    if (x_12.2.2 == x_15.2.2) = true then
    (
     obind (F.law1_same x_12.1 x_15.1) fun x_20 =>
     some x_20
    ) else (
     some false
    )
   ) else (
    some false
   )
  )
noncomputable def F.law1_B64Decodes (a0 : List UInt8) : Option (Bool) :=
 obind (F.b64_Decode a0) fun x_1 =>
 obind (F.ref1_Decode a0) fun x_4 =>
 if (x_1.2.1 != x_4.2.1) = true then
 (
  F.law1_B64Decodes_K1 a0 true
 ) else (
  if (x_1.2.2 != x_4.2.2) = true then
  (
   F.law1_B64Decodes_K1 a0 true
  ) else (
   obind (F.law1_same x_1.1 x_4.1) fun x_9 =>
   F.law1_B64Decodes_K1 a0 (!x_9)
  )
 )
noncomputable def F.law1_awake  : Option (Bool) :=
 obind (F.b64_Decode [45, 95, 56]) fun x_1 =>
 obind (F.b64_DecodeStd [43, 47, 56, 61]) fun x_4 =>
 if (x_1.2.1 == 0) = true then
 (
  if (x_4.2.1 == 0) = true then
  (
   if ((x_1.1.length : Int) == 2) = true then
   (
    if ((x_4.1.length : Int) == 2) = true then
    (
     obind (getO x_1.1 (0 : Int)) fun x_11 =>
     if (x_11 == 251) = true then
     (
      obind (getO x_4.1 (1 : Int)) fun x_13 =>
      if (x_13 == 255) = true then
      (
       obind (F.b64_Encode x_1.1) fun x_15 =>
       if (x_15 == [45, 95, 56]) = true then
       (
        obind (F.b64_EncodeStd x_1.1) fun x_17 =>
        some (x_17 == [43, 47, 56, 61])
       ) else (
        some false
       )
      ) else (
       some false
      )
     ) else (
      some false
     )
    ) else (
     some false
    )
   ) else (
    some false
   )
  ) else (
   some false
  )
 ) else (
  some false
 )
noncomputable def F.law1_B64Back_K2 (x_20 : Int) : Bool → Option ((Int) ⊕ (Bool))
 | x_45 =>
  if x_45 = true then
  (
   oinr (
    some false
   )
  ) else (
   oinl (wI (x_20 + 1))
  )
noncomputable def F.law1_B64Back_L2 (x_3 : List UInt8) : Int → Option ((Int) ⊕ (Bool))
 | x_48 =>
  if (decide (x_48 < (x_3.length : Int))) = true then
  (
   obind (getO x_3 (x_48 : Int)) fun x_52 =>
   if (x_52 != 61) = true then
   (
    oinr (
     some false
    )
   ) else (
    oinl (wI (x_48 + 1))
   )
  ) else (
   oinr (
    some true
   )
  )
noncomputable def F.law1_B64Back_L1 (x_2 : List UInt8) (x_3 : List UInt8) : Int → Option ((Int) ⊕ (Bool))
 | x_20 =>
  if (decide (x_20 < (x_2.length : Int))) = true then
  (
   obind (getO x_2 (x_20 : Int)) fun x_24 =>
   obind (getO x_3 (x_20 : Int)) fun x_25 =>
   if (x_24 != x_25) = true then
   (
    if (x_24 == 45) = true then
    (
     if (!(x_25 == 43)) = true then
     (
      if (x_24 == 95) = true then
      (
       if (!(x_25 == 47)) = true then
       (
        F.law1_B64Back_K2 x_20 true
       ) else (
        if (x_24 == 43) = true then
        (
         F.law1_B64Back_K2 x_20 true
        ) else (
         if (x_24 == 47) = true then
         (
          F.law1_B64Back_K2 x_20 true
         ) else (
          if (x_25 == 45) = true then
          (
           F.law1_B64Back_K2 x_20 true
          ) else (
           F.law1_B64Back_K2 x_20 (x_25 == 95)
          )
         )
        )
       )
      ) else (
       F.law1_B64Back_K2 x_20 true
      )
     ) else (
      if (x_24 == 43) = true then
      (
       F.law1_B64Back_K2 x_20 true
      ) else (
       if (x_24 == 47) = true then
       (
        F.law1_B64Back_K2 x_20 true
       ) else (
        if (x_25 == 45) = true then
        (
         F.law1_B64Back_K2 x_20 true
        ) else (
         F.law1_B64Back_K2 x_20 (x_25 == 95)
        )
       )
      )
     )
    ) else (
     if (x_24 == 95) = true then
     (
      if (!(x_25 == 47)) = true then
      (
       F.law1_B64Back_K2 x_20 true
      ) else (
       if (x_24 == 43) = true then
       (
        F.law1_B64Back_K2 x_20 true
       ) else (
        if (x_24 == 47) = true then
        (
         F.law1_B64Back_K2 x_20 true
        ) else (
         if (x_25 == 45) = true then
         (
          F.law1_B64Back_K2 x_20 true
         ) else (
          F.law1_B64Back_K2 x_20 (x_25 == 95)
         )
        )
       )
      )
     ) else (
      F.law1_B64Back_K2 x_20 true
     )
    )
   ) else (
    if (x_24 == 43) = true then
    (
     F.law1_B64Back_K2 x_20 true
    ) else (
     if (x_24 == 47) = true then
     (
      F.law1_B64Back_K2 x_20 true
     ) else (
      if (x_25 == 45) = true then
      (
       F.law1_B64Back_K2 x_20 true
      ) else (
       F.law1_B64Back_K2 x_20 (x_25 == 95)
      )
     )
    )
   )
  ) else (
   oinr (
    loop (F.law1_B64Back_L2 x_3) (x_2.length : Int)
   )
  )
noncomputable def F.law1_B64Back_K1 (x_2 : List UInt8) (x_3 : List UInt8) : Bool → Option (Bool)
 | x_18 =>
  if x_18 = true then
  (
   some false
  ) else (
   loop (F.law1_B64Back_L1 x_2 x_3) 0
  )
noncomputable def F.law1_B64Back (a0 : List UInt8) : Option (Bool) :=
 obind (F.law1_awake ) fun x_1 =>
 if (!x_1) = true then
 (
  some false
 ) else (
  obind (F.b64_Encode a0) fun x_2 =>
  obind (F.b64_EncodeStd a0) fun x_3 =>
  obind (F.b64_Decode x_2) fun x_4 =>
  obind (F.b64_DecodeStd x_3) fun x_7 =>
  if (x_4.2.1 != 0) = true then
  (
   F.law1_B64Back_K1 x_2 x_3 true
  ) else (
   if (x_7.2.1 != 0) = true then
   (
    F.law1_B64Back_K1 x_2 x_3 true
   ) else (
    obind (F.law1_same x_4.1 a0) fun x_12 =>
    if (!x_12) = true then
    (
     F.law1_B64Back_K1 x_2 x_3 true
    ) else (
     obind (F.law1_same x_7.1 a0) fun x_14 =>
     if (!x_14) = true then
     (
      F.law1_B64Back_K1 x_2 x_3 true
     ) else (
      if ((Int.tmod (x_3.length : Int) 4) != 0) = true then
      (
       F.law1_B64Back_K1 x_2 x_3 true
      ) else (
       if ((x_2.length : Int) != (wI (Int.tdiv (wI ((wI (8 * (a0.length : Int))) + 5)) 6))) = true then
       (
        F.law1_B64Back_K1 x_2 x_3 true
       ) else (
        F.law1_B64Back_K1 x_2 x_3 (decide ((x_3.length : Int) < (x_2.length : Int)))
       )
      )
     )
    )
   )
  )
 )
noncomputable def F.law1_sign_K3 (a0 : UInt8) : Bool → Option (Int)
 | x_8 =>
  if x_8 = true then
  (
   some (wI (((a0 - 48).toNat : Int) + 52))
  ) else (
   if (a0 == 45) = true then
   (
    some 62
   ) else (
    if (a0 == 95) = true then
    (
     some 63
    ) else (
     some 64
    )
   )
  )
noncomputable def F.law1_sign_K2 (a0 : UInt8) : Bool → Option (Int)
 | x_5 =>
  if x_5 = true then
  (
   some (wI (((a0 - 97).toNat : Int) + 26))
  ) else (
   if (decide ((48 : UInt8) ≤ a0)) = true then
   (
    F.law1_sign_K3 a0 (decide (a0 ≤ 57))
   ) else (
    F.law1_sign_K3 a0 false
   )
  )
noncomputable def F.law1_sign_K1 (a0 : UInt8) : Bool → Option (Int)
 | x_2 =>
  if x_2 = true then
  (
   some ((a0 - 65).toNat : Int)
  ) else (
   if (decide ((97 : UInt8) ≤ a0)) = true then
   (
    F.law1_sign_K2 a0 (decide (a0 ≤ 122))
   ) else (
    F.law1_sign_K2 a0 false
   )
  )
noncomputable def F.law1_sign (a0 : UInt8) : Option (Int) :=
 if (decide ((65 : UInt8) ≤ a0)) = true then
 (
  F.law1_sign_K1 a0 (decide (a0 ≤ 90))
 ) else (
  F.law1_sign_K1 a0 false
 )
noncomputable def F.law1_B64Number_K2 (x_6 : Int) (x_11 : Int) (x_14 : Int) : Int × Int → Option ((Int × Int × Int × Int) ⊕ (Bool))
 | (x_25, x_26) =>
  if ((iShr x_26 ((UInt64.ofInt (wI (x_25 - 6))).toNat)) != x_11) = true then
  (
   oinr (
    some false
   )
  ) else (
   olet (iAnd x_26 (wI ((iShl 1 ((UInt64.ofInt (wI (x_25 - 6))).toNat)) - 1))) fun x_28 =>
   oinl (wI (x_25 - 6), x_28, x_14, wI (x_6 + 1))
  )
noncomputable def F.law1_B64Number_K1 (a0 : List UInt8) (x_12 : Int) (x_13 : Int) (x_14 : Int) (x_6 : Int) (x_11 : Int) : Bool → Option ((Int × Int × Int) ⊕ ((Int × Int × Int × Int) ⊕ (Bool)))
 | x_19 =>
  if x_19 = true then
  (
   obind (getO a0 (x_14 : Int)) fun x_21 =>
   olet (wI ((wI (256 * x_13)) + (x_21.toNat : Int))) fun x_22 =>
   oinl (wI (x_12 + 8), x_22, wI (x_14 + 1))
  ) else (
   oinr (
    if (decide (x_12 < 6)) = true then
    (
     olet (iShl x_13 ((UInt64.ofInt (wI (6 - x_12))).toNat)) fun x_23 =>
     F.law1_B64Number_K2 x_6 x_11 x_14 (6, x_23)
    ) else (
     F.law1_B64Number_K2 x_6 x_11 x_14 (x_12, x_13)
    )
   )
  )
noncomputable def F.law1_B64Number_L2 (a0 : List UInt8) (x_6 : Int) (x_11 : Int) : Int × Int × Int → Option ((Int × Int × Int) ⊕ ((Int × Int × Int × Int) ⊕ (Bool)))
 | (x_12, x_13, x_14) =>
  if (decide (x_12 < 6)) = true then
  (
   F.law1_B64Number_K1 a0 x_12 x_13 x_14 x_6 x_11 (decide (x_14 < (a0.length : Int)))
  ) else (
   F.law1_B64Number_K1 a0 x_12 x_13 x_14 x_6 x_11 false
  )
noncomputable def F.law1_B64Number_L1 (a0 : List UInt8) (x_2 : List UInt8) : Int × Int × Int × Int → Option ((Int × Int × Int × Int) ⊕ (Bool))
 | (x_3, x_4, x_5, x_6) =>
  if (decide (x_6 < (x_2.length : Int))) = true then
  (
   obind (getO x_2 (x_6 : Int)) fun x_10 =>
   obind (F.law1_sign x_10) fun x_11 =>
   if (decide ((63 : Int) < x_11)) = true then
   (
    oinr (
     some false
    )
   ) else (
    loop (F.law1_B64Number_L2 a0 x_6 x_11) (x_3, x_4, x_5)
   )
  ) else (
   oinr (
    if (x_5 == (a0.length : Int)) = true then
    (
     some (x_3 == 0)
    ) else (
     some false
    )
   )
  )
noncomputable def F.law1_B64Number (a0 : List UInt8) : Option (Bool) :=
 obind (F.law1_awake ) fun x_1 =>
 if (!x_1) = true then
 (
  some false
 ) else (
  obind (F.b64_Encode a0) fun x_2 =>
  loop (F.law1_B64Number_L1 a0 x_2) (0, 0, 0, 0)
 )
noncomputable def F.law1_B64Joins (a0 : List UInt8) (a1 : List UInt8) : Option (Bool) :=
 obind (F.law1_awake ) fun x_1 =>
 if (!x_1) = true then
 (
  some false
 ) else (
  olet (wI ((a0.length : Int) - (Int.tmod (a0.length : Int) 3))) fun x_2 =>
  obind (tkO a0 (x_2 : Int)) fun x_3 =>
  obind (apO 1 [] x_3) fun x_4 =>
  obind (apO 1 x_4 a1) fun x_7 =>
  obind (F.b64_Encode x_7) fun x_10 =>
  obind (tkO a0 (x_2 : Int)) fun x_11 =>
  obind (F.b64_Encode x_11) fun x_12 =>
  obind (F.b64_Encode a1) fun x_13 =>
  obind (sadO x_12 x_13) fun x_14 =>
  if (x_10 == x_14) = true then
  (
   obind (F.b64_EncodeStd x_7) fun x_16 =>
   obind (tkO a0 (x_2 : Int)) fun x_17 =>
   obind (F.b64_EncodeStd x_17) fun x_18 =>
   obind (F.b64_EncodeStd a1) fun x_19 =>
   obind (sadO x_18 x_19) fun x_20 =>
   some (x_16 == x_20)
  ) else (
   some false
  )
 )
noncomputable def F.law1_B64One_K4 (a0 : List UInt8) (a1 : List UInt8) (x_24 : List UInt8 × Int × Int) : Bool → Option (Bool)
 | x_30 =>
  if x_30 = true then
  (
   some false
  ) else (
   obind (F.b64_DecodeStd a1) fun x_32 =>
   if (x_24.2.1 == 0) = true then
   (
    if (x_32.2.1 == 0) = true then
    (
     obind (F.law1_same x_24.1 x_32.1) fun x_37 =>
     if x_37 = true then
     (
      some (!(a0 != a1))
     ) else (
      some true
     )
    ) else (
     some true
    )
   ) else (
    some true
   )
  )
noncomputable def F.law1_B64One_K3 (a0 : List UInt8) (a1 : List UInt8) : Bool → Option (Bool)
 | x_22 =>
  if x_22 = true then
  (
   some false
  ) else (
   obind (F.b64_DecodeStd a0) fun x_24 =>
   if (x_24.2.1 == 0) = true then
   (
    obind (F.b64_EncodeStd x_24.1) fun x_28 =>
    if (x_28 != a0) = true then
    (
     F.law1_B64One_K4 a0 a1 x_24 true
    ) else (
     F.law1_B64One_K4 a0 a1 x_24 (x_24.2.2 != 0)
    )
   ) else (
    F.law1_B64One_K4 a0 a1 x_24 false
   )
  )
noncomputable def F.law1_B64One_K2 (a0 : List UInt8) (a1 : List UInt8) (x_2 : List UInt8 × Int × Int) : Bool → Option (Bool)
 | x_13 =>
  if x_13 = true then
  (
   some false
  ) else (
   obind (F.b64_Decode a1) fun x_15 =>
   if (x_2.2.1 == 0) = true then
   (
    if (x_15.2.1 == 0) = true then
    (
     obind (F.law1_same x_2.1 x_15.1) fun x_20 =>
     if x_20 = true then
     (
      F.law1_B64One_K3 a0 a1 (a0 != a1)
     ) else (
      F.law1_B64One_K3 a0 a1 false
     )
    ) else (
     F.law1_B64One_K3 a0 a1 false
    )
   ) else (
    F.law1_B64One_K3 a0 a1 false
   )
  )
noncomputable def F.law1_B64One_K1 (a0 : List UInt8) (x_2 : List UInt8 × Int × Int) (a1 : List UInt8) : Bool → Option (Bool)
 | x_8 =>
  if x_8 = true then
  (
   some false
  ) else (
   if (x_2.2.1 != 0) = true then
   (
    if ((x_2.1.length : Int) != 0) = true then
    (
     F.law1_B64One_K2 a0 a1 x_2 true
    ) else (
     if (decide (x_2.2.2 < 0)) = true then
     (
      F.law1_B64One_K2 a0 a1 x_2 true
     ) else (
      F.law1_B64One_K2 a0 a1 x_2 (decide ((a0.length : Int) < x_2.2.2))
     )
    )
   ) else (
    F.law1_B64One_K2 a0 a1 x_2 false
   )
  )
noncomputable def F.law1_B64One (a0 : List UInt8) (a1 : List UInt8) : Option (Bool) :=
 obind (F.law1_awake ) fun x_1 =>
 if (!x_1) = true then
 (
  some false
 ) else (
  obind (F.b64_Decode a0) fun x_2 =>
  if (x_2.2.1 == 0) = true then
  (
   obind (F.b64_Encode x_2.1) fun x_6 =>
   if (x_6 != a0) = true then
   (
    F.law1_B64One_K1 a0 x_2 a1 true
   ) else (
    F.law1_B64One_K1 a0 x_2 a1 (x_2.2.2 != 0)
   )
  ) else (
   F.law1_B64One_K1 a0 x_2 a1 false
  )
 )
end Go.Gk
