import Derived.Test.YtldhmmipbogabaaGreatDoorGkS
import Derived.Test.YtldhmmipbogabaaGreatDoorGkFjws
import Derived.Test.YtldhmmipbogabaaGreatDoorGkFref18
set_option linter.unusedVariables false
set_option linter.unusedSimpArgs false
set_option linter.unusedVariables false
namespace Go.Gk
noncomputable def F.law18_same_L1 (a0 : List UInt8) (a1 : List UInt8) : Int → Option ((Int) ⊕ (Bool))
 | x_1 =>
  if (decide (x_1 < (a0.length : Int))) = true then
  (
   obind (getO a0 (x_1 : Int)) fun x_5 =>
   obind (getO a1 (x_1 : Int)) fun x_6 =>
   if (x_5 != x_6) = true then
   (
    oinr (
     some false
    )
   ) else (
    oinl (wI (x_1 + 1))
   )
  ) else (
   oinr (
    some true
   )
  )
noncomputable def F.law18_same (a0 : List UInt8) (a1 : List UInt8) : Option (Bool) :=
 if ((a0.length : Int) != (a1.length : Int)) = true then
 (
  some false
 ) else (
  loop (F.law18_same_L1 a0 a1) 0
 )
noncomputable def F.law18_still_K1 (x_2 : Int) : Bool → Option ((Int) ⊕ (Bool))
 | x_14 =>
  if x_14 = true then
  (
   oinr (
    some false
   )
  ) else (
   oinl (wI (x_2 + 1))
  )
noncomputable def F.law18_still_L1 (a0 : List UInt8) (a1 : List UInt8) : Int → Option ((Int) ⊕ (Bool))
 | x_2 =>
  if (decide (x_2 < ((a0.take ((wI ((a1.length : Int) + 40) : Int).toNat)).length : Int))) = true then
  (
   if (decide (x_2 < (a1.length : Int))) = true then
   (
    obind (getO (a0.take ((wI ((a1.length : Int) + 40) : Int).toNat)) (x_2 : Int)) fun x_7 =>
    obind (getO a1 (x_2 : Int)) fun x_8 =>
    if (x_7 != x_8) = true then
    (
     F.law18_still_K1 x_2 true
    ) else (
     if (decide ((a1.length : Int) ≤ x_2)) = true then
     (
      obind (getO (a0.take ((wI ((a1.length : Int) + 40) : Int).toNat)) (x_2 : Int)) fun x_11 =>
      F.law18_still_K1 x_2 (x_11 != 165)
     ) else (
      F.law18_still_K1 x_2 false
     )
    )
   ) else (
    if (decide ((a1.length : Int) ≤ x_2)) = true then
    (
     obind (getO (a0.take ((wI ((a1.length : Int) + 40) : Int).toNat)) (x_2 : Int)) fun x_13 =>
     F.law18_still_K1 x_2 (x_13 != 165)
    ) else (
     F.law18_still_K1 x_2 false
    )
   )
  ) else (
   oinr (
    some true
   )
  )
noncomputable def F.law18_still (a0 : List UInt8) (k0 : Nat) (a1 : List UInt8) : Option (Bool) :=
 if (((a0.take k0).length : Int) != (a1.length : Int)) = true then
 (
  some false
 ) else (
  grd (0 ≤ (wI ((a1.length : Int) + 40) : Int) ∧ (wI ((a1.length : Int) + 40) : Int).toNat ≤ a0.length) <|
  loop (F.law18_still_L1 a0 a1) 0
 )
noncomputable def F.law18_marked_K1 (x_1 : Int) : Bool → Option ((Int) ⊕ (Bool))
 | x_12 =>
  if x_12 = true then
  (
   oinr (
    some false
   )
  ) else (
   oinl (wI (x_1 + 1))
  )
noncomputable def F.law18_marked_L1 (a0 : List UInt8) (a1 : Int) (a2 : UInt8) (a3 : UInt8) : Int → Option ((Int) ⊕ (Bool))
 | x_1 =>
  if (decide (x_1 < (a0.length : Int))) = true then
  (
   if (decide (x_1 < a1)) = true then
   (
    obind (getO a0 (x_1 : Int)) fun x_6 =>
    if (x_6 != a2) = true then
    (
     F.law18_marked_K1 x_1 true
    ) else (
     if (decide (a1 ≤ x_1)) = true then
     (
      obind (getO a0 (x_1 : Int)) fun x_9 =>
      F.law18_marked_K1 x_1 (x_9 != a3)
     ) else (
      F.law18_marked_K1 x_1 false
     )
    )
   ) else (
    if (decide (a1 ≤ x_1)) = true then
    (
     obind (getO a0 (x_1 : Int)) fun x_11 =>
     F.law18_marked_K1 x_1 (x_11 != a3)
    ) else (
     F.law18_marked_K1 x_1 false
    )
   )
  ) else (
   oinr (
    some ((a0.length : Int) == (wI (a1 + 70)))
   )
  )
noncomputable def F.law18_marked (a0 : List UInt8) (a1 : Int) (a2 : UInt8) (a3 : UInt8) : Option (Bool) :=
 loop (F.law18_marked_L1 a0 a1 a2 a3) 0
noncomputable def F.law18_lent_L1 (a0 : List UInt8) : List UInt8 × Int → Option ((List UInt8 × Int) ⊕ ((List UInt8 × Nat)))
 | (x_4, x_7) =>
  if (decide (x_7 < 40)) = true then
  (
   obind (apO 1 x_4 [165]) fun x_13 =>
   oinl (x_13, wI (x_7 + 1))
  ) else (
   oinr (
    grd (0 ≤ ((a0.length : Int) : Int) ∧ ((a0.length : Int) : Int).toNat ≤ x_4.length) <|
    some (x_4, ((a0.length : Int) : Int).toNat)
   )
  )
noncomputable def F.law18_lent (a0 : List UInt8) : Option ((List UInt8 × Nat)) :=
 obind (apO 1 [] a0) fun x_1 =>
 loop (F.law18_lent_L1 a0) (x_1, 0)
noncomputable def F.law18_JwsCuts_L2 (a2 : List UInt8) (x_21 : (List UInt8 × Nat)) (x_25 : (List UInt8 × Nat)) (x_29 : (List UInt8 × Nat)) (x_38 : List UInt8) : Int × List UInt8 → Option ((Int × List UInt8) ⊕ (Bool))
 | (x_46, x_47) =>
  if (decide (x_46 < ((x_47.take x_29.2).length : Int))) = true then
  (
   obind (getO (x_47.take x_29.2) (x_46 : Int)) fun x_52 =>
   obind (getO (x_47.take x_29.2) (x_46 : Int)) fun x_53 =>
   olet (x_47.set (x_46 : Int).toNat (255 - x_52)) fun x_54 =>
   oinl (wI (x_46 + 1), x_54)
  ) else (
   oinr (
    obind (apO 1 [] (x_38.take x_21.2)) fun x_55 =>
    obind (apO 1 [] (x_47.take x_29.2)) fun x_58 =>
    obind (F.jws_Compact (x_38.take x_21.2) (x_25.1.take x_25.2) (x_47.take x_29.2)) fun x_61 =>
    obind (F.ref18_Compact x_55 a2 x_58) fun x_62 =>
    if (x_61.1 == x_62.1) = true then
    (
     if (x_61.2 == x_62.2) = true then
     (
      obind (F.law18_still x_38 x_21.2 x_55) fun x_65 =>
      if x_65 = true then
      (
       obind (F.law18_still x_25.1 x_25.2 a2) fun x_67 =>
       if x_67 = true then
       (
        obind (F.law18_still x_47 x_29.2 x_58) fun x_69 =>
        some x_69
       ) else (
        some false
       )
      ) else (
       some false
      )
     ) else (
      some false
     )
    ) else (
     some false
    )
   )
  )
noncomputable def F.law18_JwsCuts_L1 (x_21 : (List UInt8 × Nat)) (x_29 : (List UInt8 × Nat)) (a2 : List UInt8) (x_25 : (List UInt8 × Nat)) : Int × List UInt8 → Option ((Int × List UInt8) ⊕ (Bool))
 | (x_37, x_38) =>
  if (decide (x_37 < ((x_38.take x_21.2).length : Int))) = true then
  (
   obind (getO (x_38.take x_21.2) (x_37 : Int)) fun x_43 =>
   obind (getO (x_38.take x_21.2) (x_37 : Int)) fun x_44 =>
   olet (x_38.set (x_37 : Int).toNat (x_43 + 1)) fun x_45 =>
   oinl (wI (x_37 + 1), x_45)
  ) else (
   oinr (
    loop (F.law18_JwsCuts_L2 a2 x_21 x_25 x_29 x_38) (0, x_29.1)
   )
  )
noncomputable def F.law18_JwsCuts_K3 (x_21 : (List UInt8 × Nat)) (x_29 : (List UInt8 × Nat)) (a2 : List UInt8) (x_25 : (List UInt8 × Nat)) : Bool → Option (Bool)
 | x_35 =>
  if x_35 = true then
  (
   some false
  ) else (
   loop (F.law18_JwsCuts_L1 x_21 x_29 a2 x_25) (0, x_21.1)
  )
noncomputable def F.law18_JwsCuts_K2 (a1 : List UInt8) (a2 : List UInt8) (a3 : List UInt8) : Bool → Option (Bool)
 | x_19 =>
  if x_19 = true then
  (
   some false
  ) else (
   obind (F.law18_lent a1) fun x_21 =>
   obind (F.law18_lent a2) fun x_25 =>
   obind (F.law18_lent a3) fun x_29 =>
   obind (F.jws_Compact (x_21.1.take x_21.2) (x_25.1.take x_25.2) (x_29.1.take x_29.2)) fun x_33 =>
   obind (F.ref18_Compact a1 a2 a3) fun x_34 =>
   if (x_33.1 != x_34.1) = true then
   (
    F.law18_JwsCuts_K3 x_21 x_29 a2 x_25 true
   ) else (
    if (x_33.2 != x_34.2) = true then
    (
     F.law18_JwsCuts_K3 x_21 x_29 a2 x_25 true
    ) else (
     obind (F.law18_still x_21.1 x_21.2 a1) fun x_77 =>
     if (!x_77) = true then
     (
      F.law18_JwsCuts_K3 x_21 x_29 a2 x_25 true
     ) else (
      obind (F.law18_still x_25.1 x_25.2 a2) fun x_79 =>
      if (!x_79) = true then
      (
       F.law18_JwsCuts_K3 x_21 x_29 a2 x_25 true
      ) else (
       obind (F.law18_still x_29.1 x_29.2 a3) fun x_81 =>
       F.law18_JwsCuts_K3 x_21 x_29 a2 x_25 (!x_81)
      )
     )
    )
   )
  )
noncomputable def F.law18_JwsCuts_K1 (a0 : List UInt8) (a1 : List UInt8) (a2 : List UInt8) (a3 : List UInt8) : Bool → Option (Bool)
 | x_3 =>
  if x_3 = true then
  (
   some false
  ) else (
   obind (F.jws_Decode a0) fun x_5 =>
   obind (F.ref18_Decode a0) fun x_12 =>
   obind (F.law18_same x_5.1 x_12.1) fun x_83 =>
   if (!x_83) = true then
   (
    F.law18_JwsCuts_K2 a1 a2 a3 true
   ) else (
    obind (F.law18_same x_5.2.1 x_12.2.1) fun x_85 =>
    if (!x_85) = true then
    (
     F.law18_JwsCuts_K2 a1 a2 a3 true
    ) else (
     obind (F.law18_same x_5.2.2.1 x_12.2.2.1) fun x_87 =>
     if (!x_87) = true then
     (
      F.law18_JwsCuts_K2 a1 a2 a3 true
     ) else (
      F.law18_JwsCuts_K2 a1 a2 a3 (x_5.2.2.2 != x_12.2.2.2)
     )
    )
   )
  )
noncomputable def F.law18_JwsCuts (a0 : List UInt8) (a1 : List UInt8) (a2 : List UInt8) (a3 : List UInt8) : Option (Bool) :=
 obind (F.jws_Split a0) fun x_1 =>
 obind (F.ref18_Split a0) fun x_2 =>
 if (x_1.1 != x_2.1) = true then
 (
  F.law18_JwsCuts_K1 a0 a1 a2 a3 true
 ) else (
  if (x_1.2.1 != x_2.2.1) = true then
  (
   F.law18_JwsCuts_K1 a0 a1 a2 a3 true
  ) else (
   if (x_1.2.2.1 != x_2.2.2.1) = true then
   (
    F.law18_JwsCuts_K1 a0 a1 a2 a3 true
   ) else (
    F.law18_JwsCuts_K1 a0 a1 a2 a3 (x_1.2.2.2 != x_2.2.2.2)
   )
  )
 )
noncomputable def F.law18_JwsTags_K3 (a0 : Int) (a2 : List UInt8) (x_1 : (List UInt8 × Nat)) (x_11 : List UInt8 × Int) (x_46 : List UInt8 × Int) : List UInt8 → Option (Bool)
 | x_69 =>
  obind (apO 1 [] (x_69.take x_1.2)) fun x_72 =>
  obind (F.jws_Tag a0 (x_69.take x_1.2) a2) fun x_75 =>
  obind (F.ref18_Tag a0 x_72 a2) fun x_78 =>
  obind (F.law18_same x_75.1 x_78.1) fun x_81 =>
  if x_81 = true then
  (
   if (x_75.2 == x_78.2) = true then
   (
    obind (F.law18_same x_46.1 x_11.1) fun x_84 =>
    if x_84 = true then
    (
     obind (F.law18_still x_69 x_1.2 x_72) fun x_86 =>
     some x_86
    ) else (
     some false
    )
   ) else (
    some false
   )
  ) else (
   some false
  )
noncomputable def F.law18_JwsTags_K2 (x_1 : (List UInt8 × Nat)) (a0 : Int) (a2 : List UInt8) (x_11 : List UInt8 × Int) (x_46 : List UInt8 × Int) : Bool → Option (Bool)
 | x_63 =>
  if x_63 = true then
  (
   some false
  ) else (
   if (decide ((0 : Int) < ((x_1.1.take x_1.2).length : Int))) = true then
   (
    obind (getO (x_1.1.take x_1.2) (wI (((x_1.1.take x_1.2).length : Int) - 1) : Int)) fun x_65 =>
    obind (getO (x_1.1.take x_1.2) (wI (((x_1.1.take x_1.2).length : Int) - 1) : Int)) fun x_66 =>
    olet (x_1.1.set (wI (((x_1.1.take x_1.2).length : Int) - 1) : Int).toNat (x_65 ^^^ 8)) fun x_67 =>
    F.law18_JwsTags_K3 a0 a2 x_1 x_11 x_46 x_67
   ) else (
    F.law18_JwsTags_K3 a0 a2 x_1 x_11 x_46 x_1.1
   )
  )
noncomputable def F.law18_JwsTags_L3 (a1 : List UInt8) (x_1 : (List UInt8 × Nat)) (x_8 : List UInt8 × Int) (x_11 : List UInt8 × Int) (x_21 : List UInt8) (x_29 : List UInt8) (x_46 : List UInt8 × Int) (a0 : Int) (a2 : List UInt8) : Int → Option ((Int) ⊕ (Bool))
 | x_49 =>
  if (decide (x_49 < (x_21.length : Int))) = true then
  (
   obind (getO x_21 (x_49 : Int)) fun x_53 =>
   if (x_53 != 119) = true then
   (
    oinr (
     some false
    )
   ) else (
    oinl (wI (x_49 + 1))
   )
  ) else (
   oinr (
    obind (F.law18_same x_46.1 x_11.1) fun x_55 =>
    if (!x_55) = true then
    (
     F.law18_JwsTags_K2 x_1 a0 a2 x_11 x_46 true
    ) else (
     if (x_46.2 != x_11.2) = true then
     (
      F.law18_JwsTags_K2 x_1 a0 a2 x_11 x_46 true
     ) else (
      obind (F.law18_same x_8.1 x_11.1) fun x_58 =>
      if (!x_58) = true then
      (
       F.law18_JwsTags_K2 x_1 a0 a2 x_11 x_46 true
      ) else (
       obind (F.law18_still x_1.1 x_1.2 a1) fun x_60 =>
       if (!x_60) = true then
       (
        F.law18_JwsTags_K2 x_1 a0 a2 x_11 x_46 true
       ) else (
        obind (F.law18_marked x_29 (x_21.length : Int) 119 120) fun x_62 =>
        F.law18_JwsTags_K2 x_1 a0 a2 x_11 x_46 (!x_62)
       )
      )
     )
    )
   )
  )
noncomputable def F.law18_JwsTags_L2 (a0 : Int) (a2 : List UInt8) (x_1 : (List UInt8 × Nat)) (x_8 : List UInt8 × Int) (x_11 : List UInt8 × Int) (a1 : List UInt8) (x_21 : List UInt8) : List UInt8 × Int → Option ((List UInt8 × Int) ⊕ (Bool))
 | (x_29, x_32) =>
  if (decide (x_32 < 70)) = true then
  (
   obind (apO 1 x_29 [120]) fun x_40 =>
   oinl (x_40, wI (x_32 + 1))
  ) else (
   oinr (
    obind (F.law18_same x_8.1 x_11.1) fun x_45 =>
    if (!x_45) = true then
    (
     some false
    ) else (
     obind (F.jws_Tag a0 (x_1.1.take x_1.2) a2) fun x_46 =>
     loop (F.law18_JwsTags_L3 a1 x_1 x_8 x_11 x_21 x_29 x_46 a0 a2) 0
    )
   )
  )
noncomputable def F.law18_JwsTags_L1 (a0 : Int) (a2 : List UInt8) (x_1 : (List UInt8 × Nat)) (x_8 : List UInt8 × Int) (x_11 : List UInt8 × Int) (a1 : List UInt8) : Int × List UInt8 → Option ((Int × List UInt8) ⊕ (Bool))
 | (x_20, x_21) =>
  if (decide (x_20 < (x_21.length : Int))) = true then
  (
   obind (getO x_21 (x_20 : Int)) fun x_25 =>
   olet (x_21.set (x_20 : Int).toNat 119) fun x_26 =>
   oinl (wI (x_20 + 1), x_26)
  ) else (
   oinr (
    loop (F.law18_JwsTags_L2 a0 a2 x_1 x_8 x_11 a1 x_21) (x_21, 0)
   )
  )
noncomputable def F.law18_JwsTags_K1 (x_5 : List UInt8 × Int) (a0 : Int) (a2 : List UInt8) (x_1 : (List UInt8 × Nat)) (x_8 : List UInt8 × Int) (x_11 : List UInt8 × Int) (a1 : List UInt8) : Bool → Option (Bool)
 | x_18 =>
  if x_18 = true then
  (
   some false
  ) else (
   loop (F.law18_JwsTags_L1 a0 a2 x_1 x_8 x_11 a1) (0, x_5.1)
  )
noncomputable def F.law18_JwsTags (a0 : Int) (a1 : List UInt8) (a2 : List UInt8) : Option (Bool) :=
 obind (F.law18_lent a1) fun x_1 =>
 obind (F.jws_Tag a0 (x_1.1.take x_1.2) a2) fun x_5 =>
 obind (F.jws_Tag a0 (x_1.1.take x_1.2) a2) fun x_8 =>
 obind (F.ref18_Tag a0 a1 a2) fun x_11 =>
 obind (F.law18_same x_5.1 x_11.1) fun x_14 =>
 if (!x_14) = true then
 (
  F.law18_JwsTags_K1 x_5 a0 a2 x_1 x_8 x_11 a1 true
 ) else (
  if (x_5.2 != x_11.2) = true then
  (
   F.law18_JwsTags_K1 x_5 a0 a2 x_1 x_8 x_11 a1 true
  ) else (
   obind (F.law18_same x_8.1 x_11.1) fun x_17 =>
   F.law18_JwsTags_K1 x_5 a0 a2 x_1 x_8 x_11 a1 (!x_17)
  )
 )
noncomputable def F.law18_alive  : Option (Bool) :=
 obind (F.jws_Split [89, 81, 46, 89, 103, 46]) fun x_1 =>
 obind (F.jws_Decode [89, 81, 46, 89, 103, 46]) fun x_2 =>
 obind (F.jws_Compact [97] [98] []) fun x_13 =>
 obind (mkO 1 (32 : Int) (32 : Int) (0 : UInt8)) fun x_14 =>
 obind (F.jws_Tag 1 x_14 [89, 81, 46, 89, 103]) fun x_17 =>
 obind (F.jws_Check 1 1 0 x_14 [] [] [] [] [89, 81, 46, 89, 103] x_17.1) fun x_20 =>
 if (x_1.2.2.2 == 0) = true then
 (
  if (x_2.2.2.2 == 0) = true then
  (
   if (x_13.2 == 0) = true then
   (
    if (x_17.2 == 0) = true then
    (
     if (x_20 == 0) = true then
     (
      if (x_1.1 == [89, 81]) = true then
      (
       if (x_1.2.1 == [89, 103]) = true then
       (
        if (x_1.2.2.1 == []) = true then
        (
         if (x_2.1 == [97]) = true then
         (
          if (x_2.2.1 == [98]) = true then
          (
           if ((x_2.2.2.1.length : Int) == 0) = true then
           (
            if (x_13.1 == [89, 81, 46, 89, 103, 46]) = true then
            (
             some ((x_17.1.length : Int) == 32)
            ) else (
             some false
            )
           ) else (
            some false
           )
          ) else (
           some false
          )
         ) else (
          some false
         )
        ) else (
         some false
        )
       ) else (
        some false
       )
      ) else (
       some false
      )
     ) else (
      some false
     )
    ) else (
     some false
    )
   ) else (
    some false
   )
  ) else (
   some false
  )
 ) else (
  some false
 )
noncomputable def F.law18_JwsOneSpelling_K1 (a2 : List UInt8) (a3 : List UInt8) (a4 : List UInt8) : Unit → Option (Bool)
 | _ =>
  obind (F.jws_Compact a2 a3 a4) fun x_41 =>
  if (x_41.2 != 0) = true then
  (
   if (x_41.2 == 10) = true then
   (
    if (x_41.1 == []) = true then
    (
     some (decide ((65528 : Int) < (wI (Int.tdiv (wI ((wI ((wI ((a2.length : Int) + (a3.length : Int))) + (a4.length : Int))) * 4)) 3))))
    ) else (
     some false
    )
   ) else (
    some false
   )
  ) else (
   obind (F.jws_Decode x_41.1) fun x_44 =>
   if (x_44.2.2.2 == 0) = true then
   (
    if (decide ((x_41.1.length : Int) ≤ 65536)) = true then
    (
     obind (F.law18_same x_44.1 a2) fun x_53 =>
     if x_53 = true then
     (
      obind (F.law18_same x_44.2.1 a3) fun x_55 =>
      if x_55 = true then
      (
       obind (F.law18_same x_44.2.2.1 a4) fun x_57 =>
       some x_57
      ) else (
       some false
      )
     ) else (
      some false
     )
    ) else (
     some false
    )
   ) else (
    some false
   )
  )
noncomputable def F.law18_JwsOneSpelling_K3 (a2 : List UInt8) (a3 : List UInt8) (a4 : List UInt8) : Bool → Option (Bool)
 | x_27 =>
  if x_27 = true then
  (
   some false
  ) else (
   F.law18_JwsOneSpelling_K1 a2 a3 a4 ()
  )
noncomputable def F.law18_JwsOneSpelling_K2 (a0 : List UInt8) (a1 : List UInt8) (x_2 : List UInt8 × List UInt8 × List UInt8 × Int) (a2 : List UInt8) (a3 : List UInt8) (a4 : List UInt8) : Bool → Option (Bool)
 | x_11 =>
  if x_11 = true then
  (
   some false
  ) else (
   obind (F.jws_Decode a1) fun x_13 =>
   if (x_13.2.2.2 == 0) = true then
   (
    obind (F.law18_same x_2.1 x_13.1) fun x_21 =>
    if x_21 = true then
    (
     obind (F.law18_same x_2.2.1 x_13.2.1) fun x_23 =>
     if x_23 = true then
     (
      obind (F.law18_same x_2.2.2.1 x_13.2.2.1) fun x_25 =>
      if x_25 = true then
      (
       F.law18_JwsOneSpelling_K3 a2 a3 a4 (a0 != a1)
      ) else (
       F.law18_JwsOneSpelling_K3 a2 a3 a4 false
      )
     ) else (
      F.law18_JwsOneSpelling_K3 a2 a3 a4 false
     )
    ) else (
     F.law18_JwsOneSpelling_K3 a2 a3 a4 false
    )
   ) else (
    F.law18_JwsOneSpelling_K3 a2 a3 a4 false
   )
  )
noncomputable def F.law18_JwsOneSpelling_K4 (a2 : List UInt8) (a3 : List UInt8) (a4 : List UInt8) : Bool → Option (Bool)
 | x_36 =>
  if x_36 = true then
  (
   some false
  ) else (
   F.law18_JwsOneSpelling_K1 a2 a3 a4 ()
  )
noncomputable def F.law18_JwsOneSpelling (a0 : List UInt8) (a1 : List UInt8) (a2 : List UInt8) (a3 : List UInt8) (a4 : List UInt8) : Option (Bool) :=
 obind (F.law18_alive ) fun x_1 =>
 if (!x_1) = true then
 (
  some false
 ) else (
  obind (F.jws_Decode a0) fun x_2 =>
  if (x_2.2.2.2 == 0) = true then
  (
   obind (F.jws_Compact x_2.1 x_2.2.1 x_2.2.2.1) fun x_9 =>
   if (x_9.2 != 0) = true then
   (
    F.law18_JwsOneSpelling_K2 a0 a1 x_2 a2 a3 a4 true
   ) else (
    F.law18_JwsOneSpelling_K2 a0 a1 x_2 a2 a3 a4 (x_9.1 != a0)
   )
  ) else (
   if ((wI ((wI ((x_2.1.length : Int) + (x_2.2.1.length : Int))) + (x_2.2.2.1.length : Int))) != 0) = true then
   (
    F.law18_JwsOneSpelling_K4 a2 a3 a4 true
   ) else (
    if (x_2.2.2.2 != 10) = true then
    (
     if (x_2.2.2.2 != 20) = true then
     (
      if (x_2.2.2.2 != 21) = true then
      (
       if (x_2.2.2.2 != 22) = true then
       (
        F.law18_JwsOneSpelling_K4 a2 a3 a4 (x_2.2.2.2 != 120)
       ) else (
        F.law18_JwsOneSpelling_K4 a2 a3 a4 false
       )
      ) else (
       F.law18_JwsOneSpelling_K4 a2 a3 a4 false
      )
     ) else (
      F.law18_JwsOneSpelling_K4 a2 a3 a4 false
     )
    ) else (
     F.law18_JwsOneSpelling_K4 a2 a3 a4 false
    )
   )
  )
 )
noncomputable def F.law18_JwsSplits_K1 (x_4 : Int) : Int → Option ((Int × Int) ⊕ (Bool))
 | x_10 =>
  oinl (x_10, wI (x_4 + 1))
noncomputable def F.law18_JwsSplits_L2 (a0 : List UInt8) (x_2 : List UInt8 × List UInt8 × List UInt8 × Int) (x_19 : List UInt8) : Int → Option ((Int) ⊕ (Bool))
 | x_20 =>
  if (decide (x_20 < (x_19.length : Int))) = true then
  (
   obind (getO x_19 (x_20 : Int)) fun x_24 =>
   if (x_24 == 46) = true then
   (
    oinr (
     some false
    )
   ) else (
    oinl (wI (x_20 + 1))
   )
  ) else (
   oinr (
    if (x_2.2.2.2 == 0) = true then
    (
     obind (sadO x_2.1 [46]) fun x_27 =>
     obind (sadO x_27 x_2.2.1) fun x_28 =>
     obind (sadO x_28 [46]) fun x_29 =>
     obind (sadO x_29 x_2.2.2.1) fun x_30 =>
     some (x_30 == a0)
    ) else (
     some false
    )
   )
  )
noncomputable def F.law18_JwsSplits_L1 (a0 : List UInt8) (x_2 : List UInt8 × List UInt8 × List UInt8 × Int) : Int × Int → Option ((Int × Int) ⊕ (Bool))
 | (x_3, x_4) =>
  if (decide (x_4 < (a0.length : Int))) = true then
  (
   obind (getO a0 (x_4 : Int)) fun x_8 =>
   if (x_8 == 46) = true then
   (
    F.law18_JwsSplits_K1 x_4 (wI (x_3 + 1))
   ) else (
    F.law18_JwsSplits_K1 x_4 x_3
   )
  ) else (
   oinr (
    if (decide ((65536 : Int) < (a0.length : Int))) = true then
    (
     if (x_2.2.2.2 == 10) = true then
     (
      obind (sadO x_2.1 x_2.2.1) fun x_13 =>
      obind (sadO x_13 x_2.2.2.1) fun x_14 =>
      some (x_14 == [])
     ) else (
      some false
     )
    ) else (
     if (x_3 != 2) = true then
     (
      if (x_2.2.2.2 == 120) = true then
      (
       obind (sadO x_2.1 x_2.2.1) fun x_16 =>
       obind (sadO x_16 x_2.2.2.1) fun x_17 =>
       some (x_17 == [])
      ) else (
       some false
      )
     ) else (
      obind (sadO x_2.1 x_2.2.1) fun x_18 =>
      obind (sadO x_18 x_2.2.2.1) fun x_19 =>
      loop (F.law18_JwsSplits_L2 a0 x_2 x_19) 0
     )
    )
   )
  )
noncomputable def F.law18_JwsSplits (a0 : List UInt8) : Option (Bool) :=
 obind (F.law18_alive ) fun x_1 =>
 if (!x_1) = true then
 (
  some false
 ) else (
  obind (F.jws_Split a0) fun x_2 =>
  loop (F.law18_JwsSplits_L1 a0 x_2) (0, 0)
 )
noncomputable def F.law18_JwsTagHolds_K3 (a0 : Int) (a1 : List UInt8) (a2 : List UInt8) (a3 : List UInt8) (x_4 : List UInt8 × Int) : Bool → Option (Bool)
 | x_20 =>
  if x_20 = true then
  (
   some false
  ) else (
   obind (F.jws_Check a0 1 0 a1 [] [] [] [] a2 a3) fun x_22 =>
   obind (F.law18_same x_4.1 a3) fun x_23 =>
   some ((x_22 == 0) == x_23)
  )
noncomputable def F.law18_JwsTagHolds_K2 (a0 : Int) (a1 : List UInt8) (a2 : List UInt8) (a3 : List UInt8) (x_4 : List UInt8 × Int) : Bool → Option (Bool)
 | x_12 =>
  if x_12 = true then
  (
   if (x_4.2 == 90) = true then
   (
    if ((x_4.1.length : Int) == 0) = true then
    (
     obind (F.jws_Check a0 1 0 a1 [] [] [] [] a2 a3) fun x_16 =>
     some (x_16 == 90)
    ) else (
     some false
    )
   ) else (
    some false
   )
  ) else (
   if (x_4.2 != 0) = true then
   (
    F.law18_JwsTagHolds_K3 a0 a1 a2 a3 x_4 true
   ) else (
    if ((x_4.1.length : Int) != (wI (16 * (wI (a0 + 1))))) = true then
    (
     F.law18_JwsTagHolds_K3 a0 a1 a2 a3 x_4 true
    ) else (
     obind (F.jws_Check a0 1 0 a1 [] [] [] [] a2 x_4.1) fun x_19 =>
     F.law18_JwsTagHolds_K3 a0 a1 a2 a3 x_4 (x_19 != 0)
    )
   )
  )
noncomputable def F.law18_JwsTagHolds_K1 (a0 : Int) (a1 : List UInt8) (x_4 : List UInt8 × Int) (a2 : List UInt8) (a3 : List UInt8) : Bool → Option (Bool)
 | x_8 =>
  if x_8 = true then
  (
   if (x_4.2 == 111) = true then
   (
    some ((x_4.1.length : Int) == 0)
   ) else (
    some false
   )
  ) else (
   if (decide ((a1.length : Int) < (wI (16 * (wI (a0 + 1)))))) = true then
   (
    F.law18_JwsTagHolds_K2 a0 a1 a2 a3 x_4 true
   ) else (
    F.law18_JwsTagHolds_K2 a0 a1 a2 a3 x_4 (decide ((4096 : Int) < (a1.length : Int)))
   )
  )
noncomputable def F.law18_JwsTagHolds (a0 : Int) (a1 : List UInt8) (a2 : List UInt8) (a3 : List UInt8) : Option (Bool) :=
 obind (F.law18_alive ) fun x_1 =>
 if (!x_1) = true then
 (
  some false
 ) else (
  obind (F.jws_Tag a0 a1 a2) fun x_4 =>
  if (decide (a0 < 1)) = true then
  (
   F.law18_JwsTagHolds_K1 a0 a1 x_4 a2 a3 true
  ) else (
   F.law18_JwsTagHolds_K1 a0 a1 x_4 a2 a3 (decide ((3 : Int) < a0))
  )
 )
noncomputable def F.law18_JwsFresh_K2 (x_122 : Int) : Bool → Option ((Int) ⊕ (Bool))
 | x_133 =>
  if x_133 = true then
  (
   oinr (
    some false
   )
  ) else (
   oinl (wI (x_122 + 1))
  )
noncomputable def F.law18_JwsFresh_K3 (x_136 : Int) : Bool → Option ((Int) ⊕ (Bool))
 | x_147 =>
  if x_147 = true then
  (
   oinr (
    some false
   )
  ) else (
   oinl (wI (x_136 + 1))
  )
noncomputable def F.law18_JwsFresh_K4 (x_150 : Int) : Bool → Option ((Int) ⊕ (Bool))
 | x_161 =>
  if x_161 = true then
  (
   oinr (
    some false
   )
  ) else (
   oinl (wI (x_150 + 1))
  )
noncomputable def F.law18_JwsFresh_L12 (x_2 : List UInt8 × List UInt8 × List UInt8 × Int) (x_9 : List UInt8 × List UInt8 × List UInt8 × Int) (x_24 : List UInt8) (x_27 : List UInt8) (x_30 : List UInt8) (x_50 : List UInt8) (x_171 : List UInt8 × List UInt8 × List UInt8 × Int) : Int → Option ((Int) ⊕ (Bool))
 | x_190 =>
  if (decide (x_190 < (x_50.length : Int))) = true then
  (
   obind (getO x_50 (x_190 : Int)) fun x_194 =>
   if (x_194 != (UInt8.ofInt 3)) = true then
   (
    oinr (
     some false
    )
   ) else (
    oinl (wI (x_190 + 1))
   )
  ) else (
   oinr (
    if (x_171.2.2.2 == x_2.2.2.2) = true then
    (
     obind (F.law18_same x_171.1 x_24) fun x_197 =>
     if x_197 = true then
     (
      obind (F.law18_same x_171.2.1 x_27) fun x_199 =>
      if x_199 = true then
      (
       obind (F.law18_same x_171.2.2.1 x_30) fun x_201 =>
       if x_201 = true then
       (
        obind (F.law18_same x_9.1 x_24) fun x_203 =>
        if x_203 = true then
        (
         obind (F.law18_same x_9.2.1 x_27) fun x_205 =>
         if x_205 = true then
         (
          obind (F.law18_same x_9.2.2.1 x_30) fun x_207 =>
          some x_207
         ) else (
          some false
         )
        ) else (
         some false
        )
       ) else (
        some false
       )
      ) else (
       some false
      )
     ) else (
      some false
     )
    ) else (
     some false
    )
   )
  )
noncomputable def F.law18_JwsFresh_L11 (x_43 : List UInt8) (x_2 : List UInt8 × List UInt8 × List UInt8 × Int) (x_9 : List UInt8 × List UInt8 × List UInt8 × Int) (x_24 : List UInt8) (x_27 : List UInt8) (x_30 : List UInt8) (x_50 : List UInt8) (x_171 : List UInt8 × List UInt8 × List UInt8 × Int) : Int → Option ((Int) ⊕ (Bool))
 | x_184 =>
  if (decide (x_184 < (x_43.length : Int))) = true then
  (
   obind (getO x_43 (x_184 : Int)) fun x_188 =>
   if (x_188 != (UInt8.ofInt 2)) = true then
   (
    oinr (
     some false
    )
   ) else (
    oinl (wI (x_184 + 1))
   )
  ) else (
   oinr (
    loop (F.law18_JwsFresh_L12 x_2 x_9 x_24 x_27 x_30 x_50 x_171) 0
   )
  )
noncomputable def F.law18_JwsFresh_L10 (x_36 : List UInt8) (x_43 : List UInt8) (x_2 : List UInt8 × List UInt8 × List UInt8 × Int) (x_9 : List UInt8 × List UInt8 × List UInt8 × Int) (x_24 : List UInt8) (x_27 : List UInt8) (x_30 : List UInt8) (x_50 : List UInt8) (x_171 : List UInt8 × List UInt8 × List UInt8 × Int) : Int → Option ((Int) ⊕ (Bool))
 | x_178 =>
  if (decide (x_178 < (x_36.length : Int))) = true then
  (
   obind (getO x_36 (x_178 : Int)) fun x_182 =>
   if (x_182 != (UInt8.ofInt 1)) = true then
   (
    oinr (
     some false
    )
   ) else (
    oinl (wI (x_178 + 1))
   )
  ) else (
   oinr (
    loop (F.law18_JwsFresh_L11 x_43 x_2 x_9 x_24 x_27 x_30 x_50 x_171) 0
   )
  )
noncomputable def F.law18_JwsFresh_K5 (a0 : List UInt8) (x_36 : List UInt8) (x_43 : List UInt8) (x_2 : List UInt8 × List UInt8 × List UInt8 × Int) (x_9 : List UInt8 × List UInt8 × List UInt8 × Int) (x_24 : List UInt8) (x_27 : List UInt8) (x_30 : List UInt8) (x_50 : List UInt8) : Bool → Option (Bool)
 | x_169 =>
  if x_169 = true then
  (
   some false
  ) else (
   obind (F.jws_Decode a0) fun x_171 =>
   loop (F.law18_JwsFresh_L10 x_36 x_43 x_2 x_9 x_24 x_27 x_30 x_50 x_171) 0
  )
noncomputable def F.law18_JwsFresh_L9 (x_9 : List UInt8 × List UInt8 × List UInt8 × Int) (x_24 : List UInt8) (x_27 : List UInt8) (x_30 : List UInt8) (x_50 : List UInt8) (x_102 : List UInt8) (a0 : List UInt8) (x_36 : List UInt8) (x_43 : List UInt8) (x_2 : List UInt8 × List UInt8 × List UInt8 × Int) : Int → Option ((Int) ⊕ (Bool))
 | x_150 =>
  if (decide (x_150 < (x_102.length : Int))) = true then
  (
   olet (decide (x_150 < (x_50.length : Int))) fun x_154 =>
   if x_154 = true then
   (
    obind (getO x_50 (x_150 : Int)) fun x_156 =>
    if (x_156 != (UInt8.ofInt 3)) = true then
    (
     F.law18_JwsFresh_K4 x_150 true
    ) else (
     obind (getO x_102 (x_150 : Int)) fun x_158 =>
     if (x_158 != (UInt8.ofInt 3)) = true then
     (
      F.law18_JwsFresh_K4 x_150 true
     ) else (
      F.law18_JwsFresh_K4 x_150 false
     )
    )
   ) else (
    obind (getO x_102 (x_150 : Int)) fun x_160 =>
    F.law18_JwsFresh_K4 x_150 (x_160 != (UInt8.ofInt 13))
   )
  ) else (
   oinr (
    obind (F.law18_same x_9.1 x_24) fun x_164 =>
    if (!x_164) = true then
    (
     F.law18_JwsFresh_K5 a0 x_36 x_43 x_2 x_9 x_24 x_27 x_30 x_50 true
    ) else (
     obind (F.law18_same x_9.2.1 x_27) fun x_166 =>
     if (!x_166) = true then
     (
      F.law18_JwsFresh_K5 a0 x_36 x_43 x_2 x_9 x_24 x_27 x_30 x_50 true
     ) else (
      obind (F.law18_same x_9.2.2.1 x_30) fun x_168 =>
      F.law18_JwsFresh_K5 a0 x_36 x_43 x_2 x_9 x_24 x_27 x_30 x_50 (!x_168)
     )
    )
   )
  )
noncomputable def F.law18_JwsFresh_L8 (x_43 : List UInt8) (x_80 : List UInt8) (x_9 : List UInt8 × List UInt8 × List UInt8 × Int) (x_24 : List UInt8) (x_27 : List UInt8) (x_30 : List UInt8) (x_50 : List UInt8) (x_102 : List UInt8) (a0 : List UInt8) (x_36 : List UInt8) (x_2 : List UInt8 × List UInt8 × List UInt8 × Int) : Int → Option ((Int) ⊕ (Bool))
 | x_136 =>
  if (decide (x_136 < (x_80.length : Int))) = true then
  (
   olet (decide (x_136 < (x_43.length : Int))) fun x_140 =>
   if x_140 = true then
   (
    obind (getO x_43 (x_136 : Int)) fun x_142 =>
    if (x_142 != (UInt8.ofInt 2)) = true then
    (
     F.law18_JwsFresh_K3 x_136 true
    ) else (
     obind (getO x_80 (x_136 : Int)) fun x_144 =>
     if (x_144 != (UInt8.ofInt 2)) = true then
     (
      F.law18_JwsFresh_K3 x_136 true
     ) else (
      F.law18_JwsFresh_K3 x_136 false
     )
    )
   ) else (
    obind (getO x_80 (x_136 : Int)) fun x_146 =>
    F.law18_JwsFresh_K3 x_136 (x_146 != (UInt8.ofInt 12))
   )
  ) else (
   oinr (
    loop (F.law18_JwsFresh_L9 x_9 x_24 x_27 x_30 x_50 x_102 a0 x_36 x_43 x_2) 0
   )
  )
noncomputable def F.law18_JwsFresh_L7 (x_36 : List UInt8) (x_58 : List UInt8) (x_43 : List UInt8) (x_80 : List UInt8) (x_9 : List UInt8 × List UInt8 × List UInt8 × Int) (x_24 : List UInt8) (x_27 : List UInt8) (x_30 : List UInt8) (x_50 : List UInt8) (x_102 : List UInt8) (a0 : List UInt8) (x_2 : List UInt8 × List UInt8 × List UInt8 × Int) : Int → Option ((Int) ⊕ (Bool))
 | x_122 =>
  if (decide (x_122 < (x_58.length : Int))) = true then
  (
   olet (decide (x_122 < (x_36.length : Int))) fun x_126 =>
   if x_126 = true then
   (
    obind (getO x_36 (x_122 : Int)) fun x_128 =>
    if (x_128 != (UInt8.ofInt 1)) = true then
    (
     F.law18_JwsFresh_K2 x_122 true
    ) else (
     obind (getO x_58 (x_122 : Int)) fun x_130 =>
     if (x_130 != (UInt8.ofInt 1)) = true then
     (
      F.law18_JwsFresh_K2 x_122 true
     ) else (
      F.law18_JwsFresh_K2 x_122 false
     )
    )
   ) else (
    obind (getO x_58 (x_122 : Int)) fun x_132 =>
    F.law18_JwsFresh_K2 x_122 (x_132 != (UInt8.ofInt 11))
   )
  ) else (
   oinr (
    loop (F.law18_JwsFresh_L8 x_43 x_80 x_9 x_24 x_27 x_30 x_50 x_102 a0 x_36 x_2) 0
   )
  )
noncomputable def F.law18_JwsFresh_L6 (x_36 : List UInt8) (x_58 : List UInt8) (x_43 : List UInt8) (x_80 : List UInt8) (x_9 : List UInt8 × List UInt8 × List UInt8 × Int) (x_24 : List UInt8) (x_27 : List UInt8) (x_30 : List UInt8) (x_50 : List UInt8) (a0 : List UInt8) (x_2 : List UInt8 × List UInt8 × List UInt8 × Int) : List UInt8 × Int → Option ((List UInt8 × Int) ⊕ (Bool))
 | (x_102, x_105) =>
  if (decide (x_105 < 70)) = true then
  (
   obind (apO 1 x_102 [UInt8.ofInt 13]) fun x_113 =>
   oinl (x_113, wI (x_105 + 1))
  ) else (
   oinr (
    loop (F.law18_JwsFresh_L7 x_36 x_58 x_43 x_80 x_9 x_24 x_27 x_30 x_50 x_102 a0 x_2) 0
   )
  )
noncomputable def F.law18_JwsFresh_L5 (x_50 : List UInt8) (x_36 : List UInt8) (x_58 : List UInt8) (x_43 : List UInt8) (x_9 : List UInt8 × List UInt8 × List UInt8 × Int) (x_24 : List UInt8) (x_27 : List UInt8) (x_30 : List UInt8) (a0 : List UInt8) (x_2 : List UInt8 × List UInt8 × List UInt8 × Int) : List UInt8 × Int → Option ((List UInt8 × Int) ⊕ (Bool))
 | (x_80, x_83) =>
  if (decide (x_83 < 70)) = true then
  (
   obind (apO 1 x_80 [UInt8.ofInt 12]) fun x_91 =>
   oinl (x_91, wI (x_83 + 1))
  ) else (
   oinr (
    loop (F.law18_JwsFresh_L6 x_36 x_58 x_43 x_80 x_9 x_24 x_27 x_30 x_50 a0 x_2) (x_50, 0)
   )
  )
noncomputable def F.law18_JwsFresh_L4 (x_43 : List UInt8) (x_50 : List UInt8) (x_36 : List UInt8) (x_9 : List UInt8 × List UInt8 × List UInt8 × Int) (x_24 : List UInt8) (x_27 : List UInt8) (x_30 : List UInt8) (a0 : List UInt8) (x_2 : List UInt8 × List UInt8 × List UInt8 × Int) : List UInt8 × Int → Option ((List UInt8 × Int) ⊕ (Bool))
 | (x_58, x_61) =>
  if (decide (x_61 < 70)) = true then
  (
   obind (apO 1 x_58 [UInt8.ofInt 11]) fun x_69 =>
   oinl (x_69, wI (x_61 + 1))
  ) else (
   oinr (
    loop (F.law18_JwsFresh_L5 x_50 x_36 x_58 x_43 x_9 x_24 x_27 x_30 a0 x_2) (x_43, 0)
   )
  )
noncomputable def F.law18_JwsFresh_L3 (x_36 : List UInt8) (x_43 : List UInt8) (x_9 : List UInt8 × List UInt8 × List UInt8 × Int) (x_24 : List UInt8) (x_27 : List UInt8) (x_30 : List UInt8) (a0 : List UInt8) (x_2 : List UInt8 × List UInt8 × List UInt8 × Int) : Int × List UInt8 → Option ((Int × List UInt8) ⊕ (Bool))
 | (x_49, x_50) =>
  if (decide (x_49 < (x_50.length : Int))) = true then
  (
   obind (getO x_50 (x_49 : Int)) fun x_54 =>
   olet (x_50.set (x_49 : Int).toNat (UInt8.ofInt 3)) fun x_55 =>
   oinl (wI (x_49 + 1), x_55)
  ) else (
   oinr (
    loop (F.law18_JwsFresh_L4 x_43 x_50 x_36 x_9 x_24 x_27 x_30 a0 x_2) (x_36, 0)
   )
  )
noncomputable def F.law18_JwsFresh_L2 (x_2 : List UInt8 × List UInt8 × List UInt8 × Int) (x_36 : List UInt8) (x_9 : List UInt8 × List UInt8 × List UInt8 × Int) (x_24 : List UInt8) (x_27 : List UInt8) (x_30 : List UInt8) (a0 : List UInt8) : Int × List UInt8 → Option ((Int × List UInt8) ⊕ (Bool))
 | (x_42, x_43) =>
  if (decide (x_42 < (x_43.length : Int))) = true then
  (
   obind (getO x_43 (x_42 : Int)) fun x_47 =>
   olet (x_43.set (x_42 : Int).toNat (UInt8.ofInt 2)) fun x_48 =>
   oinl (wI (x_42 + 1), x_48)
  ) else (
   oinr (
    loop (F.law18_JwsFresh_L3 x_36 x_43 x_9 x_24 x_27 x_30 a0 x_2) (0, x_2.2.2.1)
   )
  )
noncomputable def F.law18_JwsFresh_L1 (x_2 : List UInt8 × List UInt8 × List UInt8 × Int) (x_9 : List UInt8 × List UInt8 × List UInt8 × Int) (x_24 : List UInt8) (x_27 : List UInt8) (x_30 : List UInt8) (a0 : List UInt8) : Int × List UInt8 → Option ((Int × List UInt8) ⊕ (Bool))
 | (x_35, x_36) =>
  if (decide (x_35 < (x_36.length : Int))) = true then
  (
   obind (getO x_36 (x_35 : Int)) fun x_40 =>
   olet (x_36.set (x_35 : Int).toNat (UInt8.ofInt 1)) fun x_41 =>
   oinl (wI (x_35 + 1), x_41)
  ) else (
   oinr (
    loop (F.law18_JwsFresh_L2 x_2 x_36 x_9 x_24 x_27 x_30 a0) (0, x_2.2.1)
   )
  )
noncomputable def F.law18_JwsFresh_K1 (x_2 : List UInt8 × List UInt8 × List UInt8 × Int) (x_9 : List UInt8 × List UInt8 × List UInt8 × Int) (a0 : List UInt8) : Bool → Option (Bool)
 | x_22 =>
  if x_22 = true then
  (
   some false
  ) else (
   obind (apO 1 [] x_9.1) fun x_24 =>
   obind (apO 1 [] x_9.2.1) fun x_27 =>
   obind (apO 1 [] x_9.2.2.1) fun x_30 =>
   loop (F.law18_JwsFresh_L1 x_2 x_9 x_24 x_27 x_30 a0) (0, x_2.1)
  )
noncomputable def F.law18_JwsFresh (a0 : List UInt8) : Option (Bool) :=
 obind (F.law18_alive ) fun x_1 =>
 if (!x_1) = true then
 (
  some false
 ) else (
  obind (F.jws_Decode a0) fun x_2 =>
  obind (F.jws_Decode a0) fun x_9 =>
  if (x_2.2.2.2 != x_9.2.2.2) = true then
  (
   F.law18_JwsFresh_K1 x_2 x_9 a0 true
  ) else (
   obind (F.law18_same x_2.1 x_9.1) fun x_17 =>
   if (!x_17) = true then
   (
    F.law18_JwsFresh_K1 x_2 x_9 a0 true
   ) else (
    obind (F.law18_same x_2.2.1 x_9.2.1) fun x_19 =>
    if (!x_19) = true then
    (
     F.law18_JwsFresh_K1 x_2 x_9 a0 true
    ) else (
     obind (F.law18_same x_2.2.2.1 x_9.2.2.1) fun x_21 =>
     F.law18_JwsFresh_K1 x_2 x_9 a0 (!x_21)
    )
   )
  )
 )
end Go.Gk
