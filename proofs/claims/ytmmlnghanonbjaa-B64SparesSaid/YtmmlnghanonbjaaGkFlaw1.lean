import Derived.Test.YtmmlnghanonbjaaGkS
import Derived.Test.YtmmlnghanonbjaaGkFb64
import Derived.Test.YtmmlnghanonbjaaGkFref1
set_option linter.unusedVariables false
set_option linter.unusedSimpArgs false
set_option linter.unusedVariables false
namespace Go.Gk
noncomputable def F.law1_roomy_L1 (a0 : List UInt8) : Int × List UInt8 → Option ((Int × List UInt8) ⊕ ((List UInt8 × Nat)))
 | (x_5, x_6) =>
  if (decide (x_5 < (x_6.length : Int))) = true then
  (
   obind (getO x_6 (x_5 : Int)) fun x_10 =>
   olet (x_6.set (x_5 : Int).toNat 165) fun x_11 =>
   oinl (wI (x_5 + 1), x_11)
  ) else (
   oinr (
    grd (0 ≤ ((a0.length : Int) : Int) ∧ ((a0.length : Int) : Int).toNat ≤ x_6.length) <|
    some (x_6, ((a0.length : Int) : Int).toNat)
   )
  )
noncomputable def F.law1_roomy (a0 : List UInt8) : Option ((List UInt8 × Nat)) :=
 obind (mkO 1 (wI ((a0.length : Int) + 9) : Int) (wI ((a0.length : Int) + 9) : Int) (0 : UInt8)) fun x_1 =>
 olet (cpL x_1 a0 0 x_1.length) fun x_4 =>
 loop (F.law1_roomy_L1 a0) ((a0.length : Int), x_4)
noncomputable def F.law1_same_L1 (a0 : List UInt8) (a1 : List UInt8) : Int → Option ((Int) ⊕ (Bool))
 | x_1 =>
  if (decide (x_1 < (a0.length : Int))) = true then
  (
   obind (getO a0 (x_1 : Int)) fun x_5 =>
   obind (getO a1 (x_1 : Int)) fun x_6 =>
   if (x_5 != x_6) = true then
   (
    oinr (
     some false
    )
   ) else (
    oinl (wI (x_1 + 1))
   )
  ) else (
   oinr (
    some true
   )
  )
noncomputable def F.law1_same (a0 : List UInt8) (a1 : List UInt8) : Option (Bool) :=
 if ((a0.length : Int) != (a1.length : Int)) = true then
 (
  some false
 ) else (
  loop (F.law1_same_L1 a0 a1) 0
 )
noncomputable def F.law1_spared_L1 (a0 : List UInt8) (k0 : Nat) (a1 : List UInt8) : Int → Option ((Int) ⊕ (Bool))
 | x_2 =>
  if (decide (x_2 < ((a0.take ((wI ((a1.length : Int) + 9) : Int).toNat)).length : Int))) = true then
  (
   obind (getO (a0.take ((wI ((a1.length : Int) + 9) : Int).toNat)) (x_2 : Int)) fun x_6 =>
   if (x_6 != 165) = true then
   (
    oinr (
     some false
    )
   ) else (
    oinl (wI (x_2 + 1))
   )
  ) else (
   oinr (
    obind (F.law1_same (a0.take k0) a1) fun x_8 =>
    some x_8
   )
  )
noncomputable def F.law1_spared (a0 : List UInt8) (k0 : Nat) (a1 : List UInt8) : Option (Bool) :=
 grd (0 ≤ (wI ((a1.length : Int) + 9) : Int) ∧ (wI ((a1.length : Int) + 9) : Int).toNat ≤ a0.length) <|
 loop (F.law1_spared_L1 a0 k0 a1) (a1.length : Int)
noncomputable def F.law1_B64Encodes_L1 (x_1 : (List UInt8 × Nat)) : Int × List UInt8 → Option ((Int × List UInt8) ⊕ (Bool))
 | (x_14, x_15) =>
  if (decide (x_14 < ((x_15.take x_1.2).length : Int))) = true then
  (
   obind (getO (x_15.take x_1.2) (x_14 : Int)) fun x_20 =>
   obind (getO (x_15.take x_1.2) (x_14 : Int)) fun x_21 =>
   olet (x_15.set (x_14 : Int).toNat (255 - x_20)) fun x_22 =>
   oinl (wI (x_14 + 1), x_22)
  ) else (
   oinr (
    obind (F.ref1_Encode (x_15.take x_1.2)) fun x_23 =>
    obind (F.ref1_EncodeStd (x_15.take x_1.2)) fun x_24 =>
    obind (F.b64_Encode (x_15.take x_1.2)) fun x_25 =>
    if (x_25 == x_23) = true then
    (
     obind (F.b64_EncodeStd (x_15.take x_1.2)) fun x_27 =>
     some (x_27 == x_24)
    ) else (
     some false
    )
   )
  )
noncomputable def F.law1_B64Encodes_K1 (x_1 : (List UInt8 × Nat)) : Bool → Option (Bool)
 | x_12 =>
  if x_12 = true then
  (
   some false
  ) else (
   loop (F.law1_B64Encodes_L1 x_1) (0, x_1.1)
  )
noncomputable def F.law1_B64Encodes (a0 : List UInt8) : Option (Bool) :=
 obind (F.law1_roomy a0) fun x_1 =>
 obind (F.b64_Encode (x_1.1.take x_1.2)) fun x_5 =>
 obind (F.b64_EncodeStd (x_1.1.take x_1.2)) fun x_6 =>
 obind (F.ref1_Encode a0) fun x_7 =>
 if (x_5 != x_7) = true then
 (
  F.law1_B64Encodes_K1 x_1 true
 ) else (
  obind (F.ref1_EncodeStd a0) fun x_9 =>
  if (x_6 != x_9) = true then
  (
   F.law1_B64Encodes_K1 x_1 true
  ) else (
   obind (F.law1_spared x_1.1 x_1.2 a0) fun x_11 =>
   F.law1_B64Encodes_K1 x_1 (!x_11)
  )
 )
noncomputable def F.law1_B64Decodes_K1 (a0 : List UInt8) : Bool → Option (Bool)
 | x_10 =>
  if x_10 = true then
  (
   some false
  ) else (
   obind (F.b64_DecodeStd a0) fun x_12 =>
   obind (F.ref1_DecodeStd a0) fun x_15 =>
   if (x_12.2.1 == x_15.2.1) = true then
   (
    if (x_12.2.2 == x_15.2.2) = true then
    (
     obind (F.law1_same x_12.1 x_15.1) fun x_20 =>
     some x_20
    ) else (
     some false
    )
   ) else (
    some false
   )
  )
noncomputable def F.law1_B64Decodes (a0 : List UInt8) : Option (Bool) :=
 obind (F.b64_Decode a0) fun x_1 =>
 obind (F.ref1_Decode a0) fun x_4 =>
 if (x_1.2.1 != x_4.2.1) = true then
 (
  F.law1_B64Decodes_K1 a0 true
 ) else (
  if (x_1.2.2 != x_4.2.2) = true then
  (
   F.law1_B64Decodes_K1 a0 true
  ) else (
   obind (F.law1_same x_1.1 x_4.1) fun x_9 =>
   F.law1_B64Decodes_K1 a0 (!x_9)
  )
 )
noncomputable def F.law1_awake  : Option (Bool) :=
 obind (F.b64_Decode [45, 95, 56]) fun x_1 =>
 obind (F.b64_DecodeStd [43, 47, 56, 61]) fun x_4 =>
 if (x_1.2.1 == 0) = true then
 (
  if (x_4.2.1 == 0) = true then
  (
   if ((x_1.1.length : Int) == 2) = true then
   (
    if ((x_4.1.length : Int) == 2) = true then
    (
     obind (getO x_1.1 (0 : Int)) fun x_11 =>
     if (x_11 == 251) = true then
     (
      obind (getO x_4.1 (1 : Int)) fun x_13 =>
      if (x_13 == 255) = true then
      (
       obind (F.b64_Encode x_1.1) fun x_15 =>
       if (x_15 == [45, 95, 56]) = true then
       (
        obind (F.b64_EncodeStd x_1.1) fun x_17 =>
        some (x_17 == [43, 47, 56, 61])
       ) else (
        some false
       )
      ) else (
       some false
      )
     ) else (
      some false
     )
    ) else (
     some false
    )
   ) else (
    some false
   )
  ) else (
   some false
  )
 ) else (
  some false
 )
noncomputable def F.law1_B64Back_K2 (x_20 : Int) : Bool → Option ((Int) ⊕ (Bool))
 | x_45 =>
  if x_45 = true then
  (
   oinr (
    some false
   )
  ) else (
   oinl (wI (x_20 + 1))
  )
noncomputable def F.law1_B64Back_L2 (x_3 : List UInt8) : Int → Option ((Int) ⊕ (Bool))
 | x_48 =>
  if (decide (x_48 < (x_3.length : Int))) = true then
  (
   obind (getO x_3 (x_48 : Int)) fun x_52 =>
   if (x_52 != 61) = true then
   (
    oinr (
     some false
    )
   ) else (
    oinl (wI (x_48 + 1))
   )
  ) else (
   oinr (
    some true
   )
  )
noncomputable def F.law1_B64Back_L1 (x_2 : List UInt8) (x_3 : List UInt8) : Int → Option ((Int) ⊕ (Bool))
 | x_20 =>
  if (decide (x_20 < (x_2.length : Int))) = true then
  (
   obind (getO x_2 (x_20 : Int)) fun x_24 =>
   obind (getO x_3 (x_20 : Int)) fun x_25 =>
   if (x_24 != x_25) = true then
   (
    if (x_24 == 45) = true then
    (
     if (!(x_25 == 43)) = true then
     (
      if (x_24 == 95) = true then
      (
       if (!(x_25 == 47)) = true then
       (
        F.law1_B64Back_K2 x_20 true
       ) else (
        if (x_24 == 43) = true then
        (
         F.law1_B64Back_K2 x_20 true
        ) else (
         if (x_24 == 47) = true then
         (
          F.law1_B64Back_K2 x_20 true
         ) else (
          if (x_25 == 45) = true then
          (
           F.law1_B64Back_K2 x_20 true
          ) else (
           F.law1_B64Back_K2 x_20 (x_25 == 95)
          )
         )
        )
       )
      ) else (
       F.law1_B64Back_K2 x_20 true
      )
     ) else (
      if (x_24 == 43) = true then
      (
       F.law1_B64Back_K2 x_20 true
      ) else (
       if (x_24 == 47) = true then
       (
        F.law1_B64Back_K2 x_20 true
       ) else (
        if (x_25 == 45) = true then
        (
         F.law1_B64Back_K2 x_20 true
        ) else (
         F.law1_B64Back_K2 x_20 (x_25 == 95)
        )
       )
      )
     )
    ) else (
     if (x_24 == 95) = true then
     (
      if (!(x_25 == 47)) = true then
      (
       F.law1_B64Back_K2 x_20 true
      ) else (
       if (x_24 == 43) = true then
       (
        F.law1_B64Back_K2 x_20 true
       ) else (
        if (x_24 == 47) = true then
        (
         F.law1_B64Back_K2 x_20 true
        ) else (
         if (x_25 == 45) = true then
         (
          F.law1_B64Back_K2 x_20 true
         ) else (
          F.law1_B64Back_K2 x_20 (x_25 == 95)
         )
        )
       )
      )
     ) else (
      F.law1_B64Back_K2 x_20 true
     )
    )
   ) else (
    if (x_24 == 43) = true then
    (
     F.law1_B64Back_K2 x_20 true
    ) else (
     if (x_24 == 47) = true then
     (
      F.law1_B64Back_K2 x_20 true
     ) else (
      if (x_25 == 45) = true then
      (
       F.law1_B64Back_K2 x_20 true
      ) else (
       F.law1_B64Back_K2 x_20 (x_25 == 95)
      )
     )
    )
   )
  ) else (
   oinr (
    loop (F.law1_B64Back_L2 x_3) (x_2.length : Int)
   )
  )
noncomputable def F.law1_B64Back_K1 (x_2 : List UInt8) (x_3 : List UInt8) : Bool → Option (Bool)
 | x_18 =>
  if x_18 = true then
  (
   some false
  ) else (
   loop (F.law1_B64Back_L1 x_2 x_3) 0
  )
noncomputable def F.law1_B64Back (a0 : List UInt8) : Option (Bool) :=
 obind (F.law1_awake ) fun x_1 =>
 if (!x_1) = true then
 (
  some false
 ) else (
  obind (F.b64_Encode a0) fun x_2 =>
  obind (F.b64_EncodeStd a0) fun x_3 =>
  obind (F.b64_Decode x_2) fun x_4 =>
  obind (F.b64_DecodeStd x_3) fun x_7 =>
  if (x_4.2.1 != 0) = true then
  (
   F.law1_B64Back_K1 x_2 x_3 true
  ) else (
   if (x_7.2.1 != 0) = true then
   (
    F.law1_B64Back_K1 x_2 x_3 true
   ) else (
    obind (F.law1_same x_4.1 a0) fun x_12 =>
    if (!x_12) = true then
    (
     F.law1_B64Back_K1 x_2 x_3 true
    ) else (
     obind (F.law1_same x_7.1 a0) fun x_14 =>
     if (!x_14) = true then
     (
      F.law1_B64Back_K1 x_2 x_3 true
     ) else (
      if ((Int.tmod (x_3.length : Int) 4) != 0) = true then
      (
       F.law1_B64Back_K1 x_2 x_3 true
      ) else (
       if ((x_2.length : Int) != (wI (Int.tdiv (wI ((wI (8 * (a0.length : Int))) + 5)) 6))) = true then
       (
        F.law1_B64Back_K1 x_2 x_3 true
       ) else (
        F.law1_B64Back_K1 x_2 x_3 (decide ((x_3.length : Int) < (x_2.length : Int)))
       )
      )
     )
    )
   )
  )
 )
noncomputable def F.law1_sign_K3 (a0 : UInt8) : Bool → Option (Int)
 | x_8 =>
  if x_8 = true then
  (
   some (wI (((a0 - 48).toNat : Int) + 52))
  ) else (
   if (a0 == 45) = true then
   (
    some 62
   ) else (
    if (a0 == 95) = true then
    (
     some 63
    ) else (
     some 64
    )
   )
  )
noncomputable def F.law1_sign_K2 (a0 : UInt8) : Bool → Option (Int)
 | x_5 =>
  if x_5 = true then
  (
   some (wI (((a0 - 97).toNat : Int) + 26))
  ) else (
   if (decide ((48 : UInt8) ≤ a0)) = true then
   (
    F.law1_sign_K3 a0 (decide (a0 ≤ 57))
   ) else (
    F.law1_sign_K3 a0 false
   )
  )
noncomputable def F.law1_sign_K1 (a0 : UInt8) : Bool → Option (Int)
 | x_2 =>
  if x_2 = true then
  (
   some ((a0 - 65).toNat : Int)
  ) else (
   if (decide ((97 : UInt8) ≤ a0)) = true then
   (
    F.law1_sign_K2 a0 (decide (a0 ≤ 122))
   ) else (
    F.law1_sign_K2 a0 false
   )
  )
noncomputable def F.law1_sign (a0 : UInt8) : Option (Int) :=
 if (decide ((65 : UInt8) ≤ a0)) = true then
 (
  F.law1_sign_K1 a0 (decide (a0 ≤ 90))
 ) else (
  F.law1_sign_K1 a0 false
 )
noncomputable def F.law1_B64Number_K2 (x_6 : Int) (x_11 : Int) (x_14 : Int) : Int × Int → Option ((Int × Int × Int × Int) ⊕ (Bool))
 | (x_25, x_26) =>
  if ((iShr x_26 ((UInt64.ofInt (wI (x_25 - 6))).toNat)) != x_11) = true then
  (
   oinr (
    some false
   )
  ) else (
   olet (iAnd x_26 (wI ((iShl 1 ((UInt64.ofInt (wI (x_25 - 6))).toNat)) - 1))) fun x_28 =>
   oinl (wI (x_25 - 6), x_28, x_14, wI (x_6 + 1))
  )
noncomputable def F.law1_B64Number_K1 (a0 : List UInt8) (x_12 : Int) (x_13 : Int) (x_14 : Int) (x_6 : Int) (x_11 : Int) : Bool → Option ((Int × Int × Int) ⊕ ((Int × Int × Int × Int) ⊕ (Bool)))
 | x_19 =>
  if x_19 = true then
  (
   obind (getO a0 (x_14 : Int)) fun x_21 =>
   olet (wI ((wI (256 * x_13)) + (x_21.toNat : Int))) fun x_22 =>
   oinl (wI (x_12 + 8), x_22, wI (x_14 + 1))
  ) else (
   oinr (
    if (decide (x_12 < 6)) = true then
    (
     olet (iShl x_13 ((UInt64.ofInt (wI (6 - x_12))).toNat)) fun x_23 =>
     F.law1_B64Number_K2 x_6 x_11 x_14 (6, x_23)
    ) else (
     F.law1_B64Number_K2 x_6 x_11 x_14 (x_12, x_13)
    )
   )
  )
noncomputable def F.law1_B64Number_L2 (a0 : List UInt8) (x_6 : Int) (x_11 : Int) : Int × Int × Int → Option ((Int × Int × Int) ⊕ ((Int × Int × Int × Int) ⊕ (Bool)))
 | (x_12, x_13, x_14) =>
  if (decide (x_12 < 6)) = true then
  (
   F.law1_B64Number_K1 a0 x_12 x_13 x_14 x_6 x_11 (decide (x_14 < (a0.length : Int)))
  ) else (
   F.law1_B64Number_K1 a0 x_12 x_13 x_14 x_6 x_11 false
  )
noncomputable def F.law1_B64Number_L1 (a0 : List UInt8) (x_2 : List UInt8) : Int × Int × Int × Int → Option ((Int × Int × Int × Int) ⊕ (Bool))
 | (x_3, x_4, x_5, x_6) =>
  if (decide (x_6 < (x_2.length : Int))) = true then
  (
   obind (getO x_2 (x_6 : Int)) fun x_10 =>
   obind (F.law1_sign x_10) fun x_11 =>
   if (decide ((63 : Int) < x_11)) = true then
   (
    oinr (
     some false
    )
   ) else (
    loop (F.law1_B64Number_L2 a0 x_6 x_11) (x_3, x_4, x_5)
   )
  ) else (
   oinr (
    if (x_5 == (a0.length : Int)) = true then
    (
     some (x_3 == 0)
    ) else (
     some false
    )
   )
  )
noncomputable def F.law1_B64Number (a0 : List UInt8) : Option (Bool) :=
 obind (F.law1_awake ) fun x_1 =>
 if (!x_1) = true then
 (
  some false
 ) else (
  obind (F.b64_Encode a0) fun x_2 =>
  loop (F.law1_B64Number_L1 a0 x_2) (0, 0, 0, 0)
 )
noncomputable def F.law1_B64Joins (a0 : List UInt8) (a1 : List UInt8) : Option (Bool) :=
 obind (F.law1_awake ) fun x_1 =>
 if (!x_1) = true then
 (
  some false
 ) else (
  olet (wI ((a0.length : Int) - (Int.tmod (a0.length : Int) 3))) fun x_2 =>
  obind (tkO a0 (x_2 : Int)) fun x_3 =>
  obind (apO 1 [] x_3) fun x_4 =>
  obind (apO 1 x_4 a1) fun x_7 =>
  obind (F.b64_Encode x_7) fun x_10 =>
  obind (tkO a0 (x_2 : Int)) fun x_11 =>
  obind (F.b64_Encode x_11) fun x_12 =>
  obind (F.b64_Encode a1) fun x_13 =>
  obind (sadO x_12 x_13) fun x_14 =>
  if (x_10 == x_14) = true then
  (
   obind (F.b64_EncodeStd x_7) fun x_16 =>
   obind (tkO a0 (x_2 : Int)) fun x_17 =>
   obind (F.b64_EncodeStd x_17) fun x_18 =>
   obind (F.b64_EncodeStd a1) fun x_19 =>
   obind (sadO x_18 x_19) fun x_20 =>
   some (x_16 == x_20)
  ) else (
   some false
  )
 )
noncomputable def F.law1_B64One_K4 (a0 : List UInt8) (a1 : List UInt8) (x_24 : List UInt8 × Int × Int) : Bool → Option (Bool)
 | x_30 =>
  if x_30 = true then
  (
   some false
  ) else (
   obind (F.b64_DecodeStd a1) fun x_32 =>
   if (x_24.2.1 == 0) = true then
   (
    if (x_32.2.1 == 0) = true then
    (
     obind (F.law1_same x_24.1 x_32.1) fun x_37 =>
     if x_37 = true then
     (
      some (!(a0 != a1))
     ) else (
      some true
     )
    ) else (
     some true
    )
   ) else (
    some true
   )
  )
noncomputable def F.law1_B64One_K3 (a0 : List UInt8) (a1 : List UInt8) : Bool → Option (Bool)
 | x_22 =>
  if x_22 = true then
  (
   some false
  ) else (
   obind (F.b64_DecodeStd a0) fun x_24 =>
   if (x_24.2.1 == 0) = true then
   (
    obind (F.b64_EncodeStd x_24.1) fun x_28 =>
    if (x_28 != a0) = true then
    (
     F.law1_B64One_K4 a0 a1 x_24 true
    ) else (
     F.law1_B64One_K4 a0 a1 x_24 (x_24.2.2 != 0)
    )
   ) else (
    F.law1_B64One_K4 a0 a1 x_24 false
   )
  )
noncomputable def F.law1_B64One_K2 (a0 : List UInt8) (a1 : List UInt8) (x_2 : List UInt8 × Int × Int) : Bool → Option (Bool)
 | x_13 =>
  if x_13 = true then
  (
   some false
  ) else (
   obind (F.b64_Decode a1) fun x_15 =>
   if (x_2.2.1 == 0) = true then
   (
    if (x_15.2.1 == 0) = true then
    (
     obind (F.law1_same x_2.1 x_15.1) fun x_20 =>
     if x_20 = true then
     (
      F.law1_B64One_K3 a0 a1 (a0 != a1)
     ) else (
      F.law1_B64One_K3 a0 a1 false
     )
    ) else (
     F.law1_B64One_K3 a0 a1 false
    )
   ) else (
    F.law1_B64One_K3 a0 a1 false
   )
  )
noncomputable def F.law1_B64One_K1 (a0 : List UInt8) (x_2 : List UInt8 × Int × Int) (a1 : List UInt8) : Bool → Option (Bool)
 | x_8 =>
  if x_8 = true then
  (
   some false
  ) else (
   if (x_2.2.1 != 0) = true then
   (
    if ((x_2.1.length : Int) != 0) = true then
    (
     F.law1_B64One_K2 a0 a1 x_2 true
    ) else (
     if (decide (x_2.2.2 < 0)) = true then
     (
      F.law1_B64One_K2 a0 a1 x_2 true
     ) else (
      F.law1_B64One_K2 a0 a1 x_2 (decide ((a0.length : Int) < x_2.2.2))
     )
    )
   ) else (
    F.law1_B64One_K2 a0 a1 x_2 false
   )
  )
noncomputable def F.law1_B64One (a0 : List UInt8) (a1 : List UInt8) : Option (Bool) :=
 obind (F.law1_awake ) fun x_1 =>
 if (!x_1) = true then
 (
  some false
 ) else (
  obind (F.b64_Decode a0) fun x_2 =>
  if (x_2.2.1 == 0) = true then
  (
   obind (F.b64_Encode x_2.1) fun x_6 =>
   if (x_6 != a0) = true then
   (
    F.law1_B64One_K1 a0 x_2 a1 true
   ) else (
    F.law1_B64One_K1 a0 x_2 a1 (x_2.2.2 != 0)
   )
  ) else (
   F.law1_B64One_K1 a0 x_2 a1 false
  )
 )
noncomputable def F.law1_B64Spares_K3 (x_166 : Int) : Bool → Option ((Int) ⊕ (Bool))
 | x_179 =>
  if x_179 = true then
  (
   oinr (
    some false
   )
  ) else (
   oinl (wI (x_166 + 1))
  )
noncomputable def F.law1_B64Spares_K4 (x_182 : Int) : Bool → Option ((Int) ⊕ (Bool))
 | x_195 =>
  if x_195 = true then
  (
   oinr (
    some false
   )
  ) else (
   oinl (wI (x_182 + 1))
  )
noncomputable def F.law1_B64Spares_K5 (x_198 : Int) : Bool → Option ((Int) ⊕ (Bool))
 | x_211 =>
  if x_211 = true then
  (
   oinr (
    some false
   )
  ) else (
   oinl (wI (x_198 + 1))
  )
noncomputable def F.law1_B64Spares_K6 (x_214 : Int) : Bool → Option ((Int) ⊕ (Bool))
 | x_227 =>
  if x_227 = true then
  (
   oinr (
    some false
   )
  ) else (
   oinl (wI (x_214 + 1))
  )
noncomputable def F.law1_B64Spares_L14 (a0 : List UInt8) (x_2 : List UInt8 × Int × Int) (x_8 : List UInt8 × Int × Int) (x_21 : (List UInt8 × Nat)) (x_25 : (List UInt8 × Nat)) (x_72 : List UInt8) (x_146 : List UInt8) : Int → Option ((Int) ⊕ (Bool))
 | x_214 =>
  if (decide (x_214 < (x_146.length : Int))) = true then
  (
   if (decide (x_214 < (x_72.length : Int))) = true then
   (
    obind (getO x_72 (x_214 : Int)) fun x_219 =>
    if (x_219 != (UInt8.ofInt 73)) = true then
    (
     F.law1_B64Spares_K6 x_214 true
    ) else (
     obind (getO x_146 (x_214 : Int)) fun x_221 =>
     if (x_221 != (UInt8.ofInt 73)) = true then
     (
      F.law1_B64Spares_K6 x_214 true
     ) else (
      if (decide ((x_72.length : Int) ≤ x_214)) = true then
      (
       obind (getO x_146 (x_214 : Int)) fun x_224 =>
       F.law1_B64Spares_K6 x_214 (x_224 != (UInt8.ofInt 83))
      ) else (
       F.law1_B64Spares_K6 x_214 false
      )
     )
    )
   ) else (
    if (decide ((x_72.length : Int) ≤ x_214)) = true then
    (
     obind (getO x_146 (x_214 : Int)) fun x_226 =>
     F.law1_B64Spares_K6 x_214 (x_226 != (UInt8.ofInt 83))
    ) else (
     F.law1_B64Spares_K6 x_214 false
    )
   )
  ) else (
   oinr (
    obind (F.b64_Decode a0) fun x_230 =>
    obind (F.b64_DecodeStd a0) fun x_233 =>
    if (x_230.2.1 == x_2.2.1) = true then
    (
     obind (F.law1_same x_230.1 (x_21.1.take x_21.2)) fun x_237 =>
     if x_237 = true then
     (
      if (x_233.2.1 == x_8.2.1) = true then
      (
       obind (F.law1_same x_233.1 (x_25.1.take x_25.2)) fun x_240 =>
       some x_240
      ) else (
       some false
      )
     ) else (
      some false
     )
    ) else (
     some false
    )
   )
  )
noncomputable def F.law1_B64Spares_L13 (x_65 : List UInt8) (x_124 : List UInt8) (a0 : List UInt8) (x_2 : List UInt8 × Int × Int) (x_8 : List UInt8 × Int × Int) (x_21 : (List UInt8 × Nat)) (x_25 : (List UInt8 × Nat)) (x_72 : List UInt8) (x_146 : List UInt8) : Int → Option ((Int) ⊕ (Bool))
 | x_198 =>
  if (decide (x_198 < (x_124.length : Int))) = true then
  (
   if (decide (x_198 < (x_65.length : Int))) = true then
   (
    obind (getO x_65 (x_198 : Int)) fun x_203 =>
    if (x_203 != (UInt8.ofInt 72)) = true then
    (
     F.law1_B64Spares_K5 x_198 true
    ) else (
     obind (getO x_124 (x_198 : Int)) fun x_205 =>
     if (x_205 != (UInt8.ofInt 72)) = true then
     (
      F.law1_B64Spares_K5 x_198 true
     ) else (
      if (decide ((x_65.length : Int) ≤ x_198)) = true then
      (
       obind (getO x_124 (x_198 : Int)) fun x_208 =>
       F.law1_B64Spares_K5 x_198 (x_208 != (UInt8.ofInt 82))
      ) else (
       F.law1_B64Spares_K5 x_198 false
      )
     )
    )
   ) else (
    if (decide ((x_65.length : Int) ≤ x_198)) = true then
    (
     obind (getO x_124 (x_198 : Int)) fun x_210 =>
     F.law1_B64Spares_K5 x_198 (x_210 != (UInt8.ofInt 82))
    ) else (
     F.law1_B64Spares_K5 x_198 false
    )
   )
  ) else (
   oinr (
    loop (F.law1_B64Spares_L14 a0 x_2 x_8 x_21 x_25 x_72 x_146) 0
   )
  )
noncomputable def F.law1_B64Spares_L12 (x_58 : List UInt8) (x_102 : List UInt8) (x_65 : List UInt8) (x_124 : List UInt8) (a0 : List UInt8) (x_2 : List UInt8 × Int × Int) (x_8 : List UInt8 × Int × Int) (x_21 : (List UInt8 × Nat)) (x_25 : (List UInt8 × Nat)) (x_72 : List UInt8) (x_146 : List UInt8) : Int → Option ((Int) ⊕ (Bool))
 | x_182 =>
  if (decide (x_182 < (x_102.length : Int))) = true then
  (
   if (decide (x_182 < (x_58.length : Int))) = true then
   (
    obind (getO x_58 (x_182 : Int)) fun x_187 =>
    if (x_187 != (UInt8.ofInt 71)) = true then
    (
     F.law1_B64Spares_K4 x_182 true
    ) else (
     obind (getO x_102 (x_182 : Int)) fun x_189 =>
     if (x_189 != (UInt8.ofInt 71)) = true then
     (
      F.law1_B64Spares_K4 x_182 true
     ) else (
      if (decide ((x_58.length : Int) ≤ x_182)) = true then
      (
       obind (getO x_102 (x_182 : Int)) fun x_192 =>
       F.law1_B64Spares_K4 x_182 (x_192 != (UInt8.ofInt 81))
      ) else (
       F.law1_B64Spares_K4 x_182 false
      )
     )
    )
   ) else (
    if (decide ((x_58.length : Int) ≤ x_182)) = true then
    (
     obind (getO x_102 (x_182 : Int)) fun x_194 =>
     F.law1_B64Spares_K4 x_182 (x_194 != (UInt8.ofInt 81))
    ) else (
     F.law1_B64Spares_K4 x_182 false
    )
   )
  ) else (
   oinr (
    loop (F.law1_B64Spares_L13 x_65 x_124 a0 x_2 x_8 x_21 x_25 x_72 x_146) 0
   )
  )
noncomputable def F.law1_B64Spares_L11 (x_51 : List UInt8) (x_80 : List UInt8) (x_58 : List UInt8) (x_102 : List UInt8) (x_65 : List UInt8) (x_124 : List UInt8) (a0 : List UInt8) (x_2 : List UInt8 × Int × Int) (x_8 : List UInt8 × Int × Int) (x_21 : (List UInt8 × Nat)) (x_25 : (List UInt8 × Nat)) (x_72 : List UInt8) (x_146 : List UInt8) : Int → Option ((Int) ⊕ (Bool))
 | x_166 =>
  if (decide (x_166 < (x_80.length : Int))) = true then
  (
   if (decide (x_166 < (x_51.length : Int))) = true then
   (
    obind (getO x_51 (x_166 : Int)) fun x_171 =>
    if (x_171 != (UInt8.ofInt 70)) = true then
    (
     F.law1_B64Spares_K3 x_166 true
    ) else (
     obind (getO x_80 (x_166 : Int)) fun x_173 =>
     if (x_173 != (UInt8.ofInt 70)) = true then
     (
      F.law1_B64Spares_K3 x_166 true
     ) else (
      if (decide ((x_51.length : Int) ≤ x_166)) = true then
      (
       obind (getO x_80 (x_166 : Int)) fun x_176 =>
       F.law1_B64Spares_K3 x_166 (x_176 != (UInt8.ofInt 80))
      ) else (
       F.law1_B64Spares_K3 x_166 false
      )
     )
    )
   ) else (
    if (decide ((x_51.length : Int) ≤ x_166)) = true then
    (
     obind (getO x_80 (x_166 : Int)) fun x_178 =>
     F.law1_B64Spares_K3 x_166 (x_178 != (UInt8.ofInt 80))
    ) else (
     F.law1_B64Spares_K3 x_166 false
    )
   )
  ) else (
   oinr (
    loop (F.law1_B64Spares_L12 x_58 x_102 x_65 x_124 a0 x_2 x_8 x_21 x_25 x_72 x_146) 0
   )
  )
noncomputable def F.law1_B64Spares_L10 (x_51 : List UInt8) (x_80 : List UInt8) (x_58 : List UInt8) (x_102 : List UInt8) (x_65 : List UInt8) (x_124 : List UInt8) (a0 : List UInt8) (x_2 : List UInt8 × Int × Int) (x_8 : List UInt8 × Int × Int) (x_21 : (List UInt8 × Nat)) (x_25 : (List UInt8 × Nat)) (x_72 : List UInt8) : List UInt8 × Int → Option ((List UInt8 × Int) ⊕ (Bool))
 | (x_146, x_149) =>
  if (decide (x_149 < 70)) = true then
  (
   obind (apO 1 x_146 [UInt8.ofInt 83]) fun x_157 =>
   oinl (x_157, wI (x_149 + 1))
  ) else (
   oinr (
    loop (F.law1_B64Spares_L11 x_51 x_80 x_58 x_102 x_65 x_124 a0 x_2 x_8 x_21 x_25 x_72 x_146) 0
   )
  )
noncomputable def F.law1_B64Spares_L9 (x_72 : List UInt8) (x_51 : List UInt8) (x_80 : List UInt8) (x_58 : List UInt8) (x_102 : List UInt8) (x_65 : List UInt8) (a0 : List UInt8) (x_2 : List UInt8 × Int × Int) (x_8 : List UInt8 × Int × Int) (x_21 : (List UInt8 × Nat)) (x_25 : (List UInt8 × Nat)) : List UInt8 × Int → Option ((List UInt8 × Int) ⊕ (Bool))
 | (x_124, x_127) =>
  if (decide (x_127 < 70)) = true then
  (
   obind (apO 1 x_124 [UInt8.ofInt 82]) fun x_135 =>
   oinl (x_135, wI (x_127 + 1))
  ) else (
   oinr (
    loop (F.law1_B64Spares_L10 x_51 x_80 x_58 x_102 x_65 x_124 a0 x_2 x_8 x_21 x_25 x_72) (x_72, 0)
   )
  )
noncomputable def F.law1_B64Spares_L8 (x_65 : List UInt8) (x_72 : List UInt8) (x_51 : List UInt8) (x_80 : List UInt8) (x_58 : List UInt8) (a0 : List UInt8) (x_2 : List UInt8 × Int × Int) (x_8 : List UInt8 × Int × Int) (x_21 : (List UInt8 × Nat)) (x_25 : (List UInt8 × Nat)) : List UInt8 × Int → Option ((List UInt8 × Int) ⊕ (Bool))
 | (x_102, x_105) =>
  if (decide (x_105 < 70)) = true then
  (
   obind (apO 1 x_102 [UInt8.ofInt 81]) fun x_113 =>
   oinl (x_113, wI (x_105 + 1))
  ) else (
   oinr (
    loop (F.law1_B64Spares_L9 x_72 x_51 x_80 x_58 x_102 x_65 a0 x_2 x_8 x_21 x_25) (x_65, 0)
   )
  )
noncomputable def F.law1_B64Spares_L7 (x_58 : List UInt8) (x_65 : List UInt8) (x_72 : List UInt8) (x_51 : List UInt8) (a0 : List UInt8) (x_2 : List UInt8 × Int × Int) (x_8 : List UInt8 × Int × Int) (x_21 : (List UInt8 × Nat)) (x_25 : (List UInt8 × Nat)) : List UInt8 × Int → Option ((List UInt8 × Int) ⊕ (Bool))
 | (x_80, x_83) =>
  if (decide (x_83 < 70)) = true then
  (
   obind (apO 1 x_80 [UInt8.ofInt 80]) fun x_91 =>
   oinl (x_91, wI (x_83 + 1))
  ) else (
   oinr (
    loop (F.law1_B64Spares_L8 x_65 x_72 x_51 x_80 x_58 a0 x_2 x_8 x_21 x_25) (x_58, 0)
   )
  )
noncomputable def F.law1_B64Spares_L6 (x_51 : List UInt8) (x_58 : List UInt8) (x_65 : List UInt8) (a0 : List UInt8) (x_2 : List UInt8 × Int × Int) (x_8 : List UInt8 × Int × Int) (x_21 : (List UInt8 × Nat)) (x_25 : (List UInt8 × Nat)) : Int × List UInt8 → Option ((Int × List UInt8) ⊕ (Bool))
 | (x_71, x_72) =>
  if (decide (x_71 < (x_72.length : Int))) = true then
  (
   obind (getO x_72 (x_71 : Int)) fun x_76 =>
   olet (x_72.set (x_71 : Int).toNat (UInt8.ofInt 73)) fun x_77 =>
   oinl (wI (x_71 + 1), x_77)
  ) else (
   oinr (
    loop (F.law1_B64Spares_L7 x_58 x_65 x_72 x_51 a0 x_2 x_8 x_21 x_25) (x_51, 0)
   )
  )
noncomputable def F.law1_B64Spares_L5 (x_11 : List UInt8 × Int × Int) (x_51 : List UInt8) (x_58 : List UInt8) (a0 : List UInt8) (x_2 : List UInt8 × Int × Int) (x_8 : List UInt8 × Int × Int) (x_21 : (List UInt8 × Nat)) (x_25 : (List UInt8 × Nat)) : Int × List UInt8 → Option ((Int × List UInt8) ⊕ (Bool))
 | (x_64, x_65) =>
  if (decide (x_64 < (x_65.length : Int))) = true then
  (
   obind (getO x_65 (x_64 : Int)) fun x_69 =>
   olet (x_65.set (x_64 : Int).toNat (UInt8.ofInt 72)) fun x_70 =>
   oinl (wI (x_64 + 1), x_70)
  ) else (
   oinr (
    loop (F.law1_B64Spares_L6 x_51 x_58 x_65 a0 x_2 x_8 x_21 x_25) (0, x_11.1)
   )
  )
noncomputable def F.law1_B64Spares_L4 (x_37 : List UInt8) (x_11 : List UInt8 × Int × Int) (x_51 : List UInt8) (a0 : List UInt8) (x_2 : List UInt8 × Int × Int) (x_8 : List UInt8 × Int × Int) (x_21 : (List UInt8 × Nat)) (x_25 : (List UInt8 × Nat)) : Int × List UInt8 → Option ((Int × List UInt8) ⊕ (Bool))
 | (x_57, x_58) =>
  if (decide (x_57 < (x_58.length : Int))) = true then
  (
   obind (getO x_58 (x_57 : Int)) fun x_62 =>
   olet (x_58.set (x_57 : Int).toNat (UInt8.ofInt 71)) fun x_63 =>
   oinl (wI (x_57 + 1), x_63)
  ) else (
   oinr (
    loop (F.law1_B64Spares_L5 x_11 x_51 x_58 a0 x_2 x_8 x_21 x_25) (0, x_37)
   )
  )
noncomputable def F.law1_B64Spares_L3 (x_5 : List UInt8 × Int × Int) (x_37 : List UInt8) (x_11 : List UInt8 × Int × Int) (a0 : List UInt8) (x_2 : List UInt8 × Int × Int) (x_8 : List UInt8 × Int × Int) (x_21 : (List UInt8 × Nat)) (x_25 : (List UInt8 × Nat)) : Int × List UInt8 → Option ((Int × List UInt8) ⊕ (Bool))
 | (x_50, x_51) =>
  if (decide (x_50 < (x_51.length : Int))) = true then
  (
   obind (getO x_51 (x_50 : Int)) fun x_55 =>
   olet (x_51.set (x_50 : Int).toNat (UInt8.ofInt 70)) fun x_56 =>
   oinl (wI (x_50 + 1), x_56)
  ) else (
   oinr (
    loop (F.law1_B64Spares_L4 x_37 x_11 x_51 a0 x_2 x_8 x_21 x_25) (0, x_5.1)
   )
  )
noncomputable def F.law1_B64Spares_K2 (x_30 : List UInt8) (x_5 : List UInt8 × Int × Int) (x_37 : List UInt8) (x_11 : List UInt8 × Int × Int) (a0 : List UInt8) (x_2 : List UInt8 × Int × Int) (x_8 : List UInt8 × Int × Int) (x_21 : (List UInt8 × Nat)) (x_25 : (List UInt8 × Nat)) : Bool → Option (Bool)
 | x_46 =>
  if x_46 = true then
  (
   some false
  ) else (
   loop (F.law1_B64Spares_L3 x_5 x_37 x_11 a0 x_2 x_8 x_21 x_25) (0, x_30)
  )
noncomputable def F.law1_B64Spares_L2 (x_5 : List UInt8 × Int × Int) (x_11 : List UInt8 × Int × Int) (x_21 : (List UInt8 × Nat)) (x_25 : (List UInt8 × Nat)) (x_30 : List UInt8) (a0 : List UInt8) (x_2 : List UInt8 × Int × Int) (x_8 : List UInt8 × Int × Int) : Int × List UInt8 → Option ((Int × List UInt8) ⊕ (Bool))
 | (x_36, x_37) =>
  if (decide (x_36 < (x_37.length : Int))) = true then
  (
   obind (getO x_37 (x_36 : Int)) fun x_41 =>
   olet (x_37.set (x_36 : Int).toNat 68) fun x_42 =>
   oinl (wI (x_36 + 1), x_42)
  ) else (
   oinr (
    obind (F.law1_same x_5.1 (x_21.1.take x_21.2)) fun x_43 =>
    if (!x_43) = true then
    (
     F.law1_B64Spares_K2 x_30 x_5 x_37 x_11 a0 x_2 x_8 x_21 x_25 true
    ) else (
     obind (F.law1_same x_11.1 (x_25.1.take x_25.2)) fun x_45 =>
     F.law1_B64Spares_K2 x_30 x_5 x_37 x_11 a0 x_2 x_8 x_21 x_25 (!x_45)
    )
   )
  )
noncomputable def F.law1_B64Spares_L1 (x_8 : List UInt8 × Int × Int) (x_5 : List UInt8 × Int × Int) (x_11 : List UInt8 × Int × Int) (x_21 : (List UInt8 × Nat)) (x_25 : (List UInt8 × Nat)) (a0 : List UInt8) (x_2 : List UInt8 × Int × Int) : Int × List UInt8 → Option ((Int × List UInt8) ⊕ (Bool))
 | (x_29, x_30) =>
  if (decide (x_29 < (x_30.length : Int))) = true then
  (
   obind (getO x_30 (x_29 : Int)) fun x_34 =>
   olet (x_30.set (x_29 : Int).toNat 69) fun x_35 =>
   oinl (wI (x_29 + 1), x_35)
  ) else (
   oinr (
    loop (F.law1_B64Spares_L2 x_5 x_11 x_21 x_25 x_30 a0 x_2 x_8) (0, x_8.1)
   )
  )
noncomputable def F.law1_B64Spares_K1 (x_2 : List UInt8 × Int × Int) (x_5 : List UInt8 × Int × Int) (x_8 : List UInt8 × Int × Int) (x_11 : List UInt8 × Int × Int) (a0 : List UInt8) : Bool → Option (Bool)
 | x_19 =>
  if x_19 = true then
  (
   some false
  ) else (
   obind (F.law1_roomy x_5.1) fun x_21 =>
   obind (F.law1_roomy x_8.1) fun x_25 =>
   loop (F.law1_B64Spares_L1 x_8 x_5 x_11 x_21 x_25 a0 x_2) (0, x_2.1)
  )
noncomputable def F.law1_B64Spares (a0 : List UInt8) : Option (Bool) :=
 obind (F.law1_awake ) fun x_1 =>
 if (!x_1) = true then
 (
  some false
 ) else (
  obind (F.b64_Decode a0) fun x_2 =>
  obind (F.b64_Decode a0) fun x_5 =>
  obind (F.b64_DecodeStd a0) fun x_8 =>
  obind (F.b64_DecodeStd a0) fun x_11 =>
  if (x_2.2.1 != x_5.2.1) = true then
  (
   F.law1_B64Spares_K1 x_2 x_5 x_8 x_11 a0 true
  ) else (
   if (x_8.2.1 != x_11.2.1) = true then
   (
    F.law1_B64Spares_K1 x_2 x_5 x_8 x_11 a0 true
   ) else (
    obind (F.law1_same x_2.1 x_5.1) fun x_16 =>
    if (!x_16) = true then
    (
     F.law1_B64Spares_K1 x_2 x_5 x_8 x_11 a0 true
    ) else (
     obind (F.law1_same x_8.1 x_11.1) fun x_18 =>
     F.law1_B64Spares_K1 x_2 x_5 x_8 x_11 a0 (!x_18)
    )
   )
  )
 )
end Go.Gk
