import Derived.Test.YtgjpaedgcpjigaaDoorGkS
import Derived.Test.YtgjpaedgcpjigaaDoorGkFcbor
import Derived.Test.YtgjpaedgcpjigaaDoorGkFcose
import Derived.Test.YtgjpaedgcpjigaaDoorGkFref31
set_option linter.unusedVariables false
set_option linter.unusedSimpArgs false
set_option linter.unusedVariables false
namespace Go.Gk
noncomputable def F.law31_sameTexts_L1 (a0 : List (List UInt8)) (a1 : List (List UInt8)) : Int → Option ((Int) ⊕ (Bool))
 | x_1 =>
  if (decide (x_1 < (a0.length : Int))) = true then
  (
   obind (getO a0 (x_1 : Int)) fun x_5 =>
   obind (getO a1 (x_1 : Int)) fun x_6 =>
   if (x_5 != x_6) = true then
   (
    oinr (
     some false
    )
   ) else (
    oinl (wI (x_1 + 1))
   )
  ) else (
   oinr (
    some true
   )
  )
noncomputable def F.law31_sameTexts (a0 : List (List UInt8)) (a1 : List (List UInt8)) : Option (Bool) :=
 if ((a0.length : Int) != (a1.length : Int)) = true then
 (
  some false
 ) else (
  loop (F.law31_sameTexts_L1 a0 a1) 0
 )
noncomputable def F.law31_same_L1 (a0 : List UInt8) (a1 : List UInt8) : Int → Option ((Int) ⊕ (Bool))
 | x_1 =>
  if (decide (x_1 < (a0.length : Int))) = true then
  (
   obind (getO a0 (x_1 : Int)) fun x_5 =>
   obind (getO a1 (x_1 : Int)) fun x_6 =>
   if (x_5 != x_6) = true then
   (
    oinr (
     some false
    )
   ) else (
    oinl (wI (x_1 + 1))
   )
  ) else (
   oinr (
    some true
   )
  )
noncomputable def F.law31_same (a0 : List UInt8) (a1 : List UInt8) : Option (Bool) :=
 if ((a0.length : Int) != (a1.length : Int)) = true then
 (
  some false
 ) else (
  loop (F.law31_same_L1 a0 a1) 0
 )
noncomputable def F.law31_spared_L1 (a0 : List UInt8) (k0 : Nat) (a1 : List UInt8) : Int → Option ((Int) ⊕ (Bool))
 | x_2 =>
  if (decide (x_2 < ((a0.take ((wI ((a1.length : Int) + 9) : Int).toNat)).length : Int))) = true then
  (
   obind (getO (a0.take ((wI ((a1.length : Int) + 9) : Int).toNat)) (x_2 : Int)) fun x_6 =>
   if (x_6 != 165) = true then
   (
    oinr (
     some false
    )
   ) else (
    oinl (wI (x_2 + 1))
   )
  ) else (
   oinr (
    obind (F.law31_same (a0.take k0) a1) fun x_8 =>
    some x_8
   )
  )
noncomputable def F.law31_spared (a0 : List UInt8) (k0 : Nat) (a1 : List UInt8) : Option (Bool) :=
 grd (0 ≤ (wI ((a1.length : Int) + 9) : Int) ∧ (wI ((a1.length : Int) + 9) : Int).toNat ≤ a0.length) <|
 loop (F.law31_spared_L1 a0 k0 a1) (a1.length : Int)
noncomputable def F.law31_roomy_L1 (a0 : List UInt8) : List UInt8 × Int → Option ((List UInt8 × Int) ⊕ ((List UInt8 × Nat)))
 | (x_4, x_7) =>
  if (decide (x_7 < 9)) = true then
  (
   obind (apO 1 x_4 [165]) fun x_13 =>
   oinl (x_13, wI (x_7 + 1))
  ) else (
   oinr (
    grd (0 ≤ ((a0.length : Int) : Int) ∧ ((a0.length : Int) : Int).toNat ≤ x_4.length) <|
    some (x_4, ((a0.length : Int) : Int).toNat)
   )
  )
noncomputable def F.law31_roomy (a0 : List UInt8) : Option ((List UInt8 × Nat)) :=
 obind (apO 1 [] a0) fun x_1 =>
 loop (F.law31_roomy_L1 a0) (x_1, 0)
noncomputable def F.law31_sameClaims (a0_0 : List (Int × (List UInt8) × (List UInt8) × Bool × Int × Int)) (a0_1 : List UInt8) (a0_2 : Bool) (a0_3 : List UInt8) (a0_4 : Bool) (a0_5 : List (List UInt8)) (a0_6 : Bool) (a0_7 : List UInt8) (a0_8 : Bool) (a0_9 : Bool) (a0_10 : Int) (a0_11 : Bool) (a0_12 : Int) (a0_13 : Bool) (a0_14 : Int) (a1_0 : List (Int × (List UInt8) × (List UInt8) × Bool × Int × Int)) (a1_1 : List UInt8) (a1_2 : Bool) (a1_3 : List UInt8) (a1_4 : Bool) (a1_5 : List (List UInt8)) (a1_6 : Bool) (a1_7 : List UInt8) (a1_8 : Bool) (a1_9 : Bool) (a1_10 : Int) (a1_11 : Bool) (a1_12 : Int) (a1_13 : Bool) (a1_14 : Int) : Option (Bool) :=
 if (a0_1 == a1_1) = true then
 (
  if (a0_2 == a1_2) = true then
  (
   if (a0_3 == a1_3) = true then
   (
    if (a0_4 == a1_4) = true then
    (
     obind (F.law31_sameTexts a0_5 a1_5) fun x_9 =>
     if x_9 = true then
     (
      if (a0_6 == a1_6) = true then
      (
       if (a0_7 == a1_7) = true then
       (
        if (a0_8 == a1_8) = true then
        (
         if ((a0_9, a0_10) == (a1_9, a1_10)) = true then
         (
          if ((a0_11, a0_12) == (a1_11, a1_12)) = true then
          (
           if ((a0_13, a0_14) == (a1_13, a1_14)) = true then
           (
            if ((a0_0.length : Int) == 0) = true then
            (
             some ((a1_0.length : Int) == 0)
            ) else (
             some false
            )
           ) else (
            some false
           )
          ) else (
           some false
          )
         ) else (
          some false
         )
        ) else (
         some false
        )
       ) else (
        some false
       )
      ) else (
       some false
      )
     ) else (
      some false
     )
    ) else (
     some false
    )
   ) else (
    some false
   )
  ) else (
   some false
  )
 ) else (
  some false
 )
noncomputable def F.law31_part (a0 : List (Int × UInt64 × (List UInt8) × Int)) (a1 : UInt64) : Option (Int) :=
 obind (F.cbor_Member a0 0 ([(0, a1, [], 0)] : List (Int × UInt64 × (List UInt8) × Int))) fun x_3 =>
 some x_3
noncomputable def F.law31_word (a0 : List (Int × UInt64 × (List UInt8) × Int)) (a1 : UInt64) (a2 : Int) : Option (List UInt8 × Bool × Bool) :=
 obind (F.law31_part a0 a1) fun x_1 =>
 if (decide (x_1 < 0)) = true then
 (
  some ([], false, true)
 ) else (
  obind (getO a0 (x_1 : Int)) fun x_2 =>
  obind (getO a0 (x_1 : Int)) fun x_3 =>
  some (x_2.2.2.1, true, x_3.1 == a2)
 )
noncomputable def F.law31_when_K1 (x_4 : (Int × UInt64 × (List UInt8) × Int)) : Bool → Option (Bool × Int × Bool)
 | x_8 =>
  if x_8 = true then
  (
   some (false, 0, false)
  ) else (
   if (x_4.1 == 1) = true then
   (
    some (true, wI ((-1) - (wI (x_4.2.1.toNat : Int))), true)
   ) else (
    some (true, wI (x_4.2.1.toNat : Int), true)
   )
  )
noncomputable def F.law31_when (a0 : List (Int × UInt64 × (List UInt8) × Int)) (a1 : UInt64) : Option (Bool × Int × Bool) :=
 obind (F.law31_part a0 a1) fun x_3 =>
 if (decide (x_3 < 0)) = true then
 (
  some (false, 0, true)
 ) else (
  obind (getO a0 (x_3 : Int)) fun x_4 =>
  if (decide ((1 : Int) < x_4.1)) = true then
  (
   F.law31_when_K1 x_4 true
  ) else (
   F.law31_when_K1 x_4 ((shr64 x_4.2.1 63) == 1)
  )
 )
noncomputable def F.law31_message_K2 (a1 : List UInt8) (a2 : List UInt8) : (List (Int × UInt64 × (List UInt8) × Int)) → Option (List (Int × UInt64 × (List UInt8) × Int))
 | x_27 =>
  obind (apO 40 x_27 ([(2, 0, a1, 0), (2, 0, a2, 0)] : List (Int × UInt64 × (List UInt8) × Int))) fun x_33 =>
  some x_33
noncomputable def F.law31_message_K1 (a0 : List UInt8) (a3 : List UInt8) (a4 : Bool) (a1 : List UInt8) (a2 : List UInt8) : (List (Int × UInt64 × (List UInt8) × Int)) → Option (List (Int × UInt64 × (List UInt8) × Int))
 | x_7 =>
  obind (apO 40 x_7 ([(4, 0, [], 4), (2, 0, a0, 0)] : List (Int × UInt64 × (List UInt8) × Int))) fun x_13 =>
  if a4 = true then
  (
   obind (apO 40 x_13 ([(5, 0, [], 2), (0, 4, [], 0), (2, 0, a3, 0)] : List (Int × UInt64 × (List UInt8) × Int))) fun x_18 =>
   F.law31_message_K2 a1 a2 x_18
  ) else (
   obind (apO 40 x_13 ([(5, 0, [], 0)] : List (Int × UInt64 × (List UInt8) × Int))) fun x_23 =>
   F.law31_message_K2 a1 a2 x_23
  )
noncomputable def F.law31_message (a0 : List UInt8) (a1 : List UInt8) (a2 : List UInt8) (a3 : List UInt8) (a4 : Bool) (a5 : Bool) : Option (List (Int × UInt64 × (List UInt8) × Int)) :=
 if a5 = true then
 (
  obind (apO 40 [] ([(6, 18, [], 1)] : List (Int × UInt64 × (List UInt8) × Int))) fun x_3 =>
  F.law31_message_K1 a0 a3 a4 a1 a2 x_3
 ) else (
  F.law31_message_K1 a0 a3 a4 a1 a2 []
 )
noncomputable def F.law31_CoseClaims_K2 (x_1 : (List UInt8 × Nat)) : List UInt8 → Option (Bool)
 | x_31 =>
  obind (F.ref31_Claims (x_31.take x_1.2)) fun x_34 =>
  olet (x_34.2.2.2.2.2.2.2.2.2.2.2.2.2.2.2) fun x_39 =>
  obind (F.cose_Claims (x_31.take x_1.2)) fun x_40 =>
  olet (x_40.2.2.2.2.2.2.2.2.2.2.2.2.2.2.2) fun x_45 =>
  if (x_45 == x_39) = true then
  (
   obind (F.law31_sameClaims x_40.1 x_40.2.1 x_40.2.2.1 x_40.2.2.2.1 x_40.2.2.2.2.1 x_40.2.2.2.2.2.1 x_40.2.2.2.2.2.2.1 x_40.2.2.2.2.2.2.2.1 x_40.2.2.2.2.2.2.2.2.1 x_40.2.2.2.2.2.2.2.2.2.1 x_40.2.2.2.2.2.2.2.2.2.2.1 x_40.2.2.2.2.2.2.2.2.2.2.2.1 x_40.2.2.2.2.2.2.2.2.2.2.2.2.1 x_40.2.2.2.2.2.2.2.2.2.2.2.2.2.1 x_40.2.2.2.2.2.2.2.2.2.2.2.2.2.2.1 x_34.1 x_34.2.1 x_34.2.2.1 x_34.2.2.2.1 x_34.2.2.2.2.1 x_34.2.2.2.2.2.1 x_34.2.2.2.2.2.2.1 x_34.2.2.2.2.2.2.2.1 x_34.2.2.2.2.2.2.2.2.1 x_34.2.2.2.2.2.2.2.2.2.1 x_34.2.2.2.2.2.2.2.2.2.2.1 x_34.2.2.2.2.2.2.2.2.2.2.2.1 x_34.2.2.2.2.2.2.2.2.2.2.2.2.1 x_34.2.2.2.2.2.2.2.2.2.2.2.2.2.1 x_34.2.2.2.2.2.2.2.2.2.2.2.2.2.2.1) fun x_47 =>
   some x_47
  ) else (
   some false
  )
noncomputable def F.law31_CoseClaims_K1 (x_1 : (List UInt8 × Nat)) : Bool → Option (Bool)
 | x_25 =>
  if x_25 = true then
  (
   some false
  ) else (
   if (decide ((0 : Int) < ((x_1.1.take x_1.2).length : Int))) = true then
   (
    obind (getO (x_1.1.take x_1.2) (wI (Int.tdiv ((x_1.1.take x_1.2).length : Int) 2) : Int)) fun x_27 =>
    obind (getO (x_1.1.take x_1.2) (wI (Int.tdiv ((x_1.1.take x_1.2).length : Int) 2) : Int)) fun x_28 =>
    olet (x_1.1.set (wI (Int.tdiv ((x_1.1.take x_1.2).length : Int) 2) : Int).toNat (x_27 ^^^ 1)) fun x_29 =>
    F.law31_CoseClaims_K2 x_1 x_29
   ) else (
    F.law31_CoseClaims_K2 x_1 x_1.1
   )
  )
noncomputable def F.law31_CoseClaims (a0 : List UInt8) : Option (Bool) :=
 obind (F.law31_roomy a0) fun x_1 =>
 obind (F.cose_Claims (x_1.1.take x_1.2)) fun x_5 =>
 olet (x_5.2.2.2.2.2.2.2.2.2.2.2.2.2.2.2) fun x_12 =>
 obind (F.ref31_Claims a0) fun x_13 =>
 olet (x_13.2.2.2.2.2.2.2.2.2.2.2.2.2.2.2) fun x_20 =>
 if (x_12 != x_20) = true then
 (
  F.law31_CoseClaims_K1 x_1 true
 ) else (
  obind (F.law31_sameClaims x_5.1 x_5.2.1 x_5.2.2.1 x_5.2.2.2.1 x_5.2.2.2.2.1 x_5.2.2.2.2.2.1 x_5.2.2.2.2.2.2.1 x_5.2.2.2.2.2.2.2.1 x_5.2.2.2.2.2.2.2.2.1 x_5.2.2.2.2.2.2.2.2.2.1 x_5.2.2.2.2.2.2.2.2.2.2.1 x_5.2.2.2.2.2.2.2.2.2.2.2.1 x_5.2.2.2.2.2.2.2.2.2.2.2.2.1 x_5.2.2.2.2.2.2.2.2.2.2.2.2.2.1 x_5.2.2.2.2.2.2.2.2.2.2.2.2.2.2.1 x_13.1 x_13.2.1 x_13.2.2.1 x_13.2.2.2.1 x_13.2.2.2.2.1 x_13.2.2.2.2.2.1 x_13.2.2.2.2.2.2.1 x_13.2.2.2.2.2.2.2.1 x_13.2.2.2.2.2.2.2.2.1 x_13.2.2.2.2.2.2.2.2.2.1 x_13.2.2.2.2.2.2.2.2.2.2.1 x_13.2.2.2.2.2.2.2.2.2.2.2.1 x_13.2.2.2.2.2.2.2.2.2.2.2.2.1 x_13.2.2.2.2.2.2.2.2.2.2.2.2.2.1 x_13.2.2.2.2.2.2.2.2.2.2.2.2.2.2.1) fun x_22 =>
  if (!x_22) = true then
  (
   F.law31_CoseClaims_K1 x_1 true
  ) else (
   obind (F.law31_spared x_1.1 x_1.2 a0) fun x_24 =>
   F.law31_CoseClaims_K1 x_1 (!x_24)
  )
 )
noncomputable def F.law31_head_K2 (x_1 : List (Int × UInt64 × (List UInt8) × Int) × Int × Int) : Int → Option (List UInt8 × Bool)
 | x_9 =>
  obind (getO x_1.1 (x_9 : Int)) fun x_11 =>
  obind (getO x_1.1 (x_9 : Int)) fun x_14 =>
  some (x_11.2.2.1, x_14.1 == 2)
noncomputable def F.law31_head_K1 (x_1 : List (Int × UInt64 × (List UInt8) × Int) × Int × Int) : Bool → Option (List UInt8 × Bool)
 | x_5 =>
  if x_5 = true then
  (
   some ([], false)
  ) else (
   obind (getO x_1.1 (0 : Int)) fun x_7 =>
   if (x_7.1 == 6) = true then
   (
    F.law31_head_K2 x_1 2
   ) else (
    F.law31_head_K2 x_1 1
   )
  )
noncomputable def F.law31_head (a0 : List UInt8) : Option (List UInt8 × Bool) :=
 obind (F.cbor_Parse a0) fun x_1 =>
 if (x_1.2.1 != 0) = true then
 (
  F.law31_head_K1 x_1 true
 ) else (
  F.law31_head_K1 x_1 (decide ((x_1.1.length : Int) < 5))
 )
noncomputable def F.law31_parses (a0 : List UInt8) (a1 : List UInt8) : Option (Bool) :=
 obind (F.ref31_Parse a0 a1) fun x_1 =>
 obind (F.cose_Parse a0 a1) fun x_10 =>
 if (x_10.1 == x_1.1) = true then
 (
  obind (F.law31_same x_10.2.1 x_1.2.1) fun x_20 =>
  if x_20 = true then
  (
   obind (F.law31_same x_10.2.2.1 x_1.2.2.1) fun x_22 =>
   if x_22 = true then
   (
    obind (F.law31_same x_10.2.2.2.1 x_1.2.2.2.1) fun x_24 =>
    if x_24 = true then
    (
     obind (F.law31_same x_10.2.2.2.2.1 x_1.2.2.2.2.1) fun x_26 =>
     if x_26 = true then
     (
      some (x_10.2.2.2.2.2 == x_1.2.2.2.2.2)
     ) else (
      some false
     )
    ) else (
     some false
    )
   ) else (
    some false
   )
  ) else (
   some false
  )
 ) else (
  some false
 )
noncomputable def F.law31_CoseParses_K3 (x_1 : (List UInt8 × Nat)) (x_5 : (List UInt8 × Nat)) (x_20 : List UInt8) : List UInt8 → Option (Bool)
 | x_27 =>
  obind (F.law31_parses (x_20.take x_1.2) (x_27.take x_5.2)) fun x_30 =>
  some x_30
noncomputable def F.law31_CoseParses_K2 (x_5 : (List UInt8 × Nat)) (x_1 : (List UInt8 × Nat)) : List UInt8 → Option (Bool)
 | x_20 =>
  if (decide ((0 : Int) < ((x_5.1.take x_5.2).length : Int))) = true then
  (
   obind (getO (x_5.1.take x_5.2) (0 : Int)) fun x_23 =>
   obind (getO (x_5.1.take x_5.2) (0 : Int)) fun x_24 =>
   olet (x_5.1.set (0 : Int).toNat (x_23 ^^^ 1)) fun x_25 =>
   F.law31_CoseParses_K3 x_1 x_5 x_20 x_25
  ) else (
   F.law31_CoseParses_K3 x_1 x_5 x_20 x_5.1
  )
noncomputable def F.law31_CoseParses_K1 (x_1 : (List UInt8 × Nat)) (x_5 : (List UInt8 × Nat)) : Bool → Option (Bool)
 | x_14 =>
  if x_14 = true then
  (
   some false
  ) else (
   if (decide ((0 : Int) < ((x_1.1.take x_1.2).length : Int))) = true then
   (
    obind (getO (x_1.1.take x_1.2) (wI (((x_1.1.take x_1.2).length : Int) - 1) : Int)) fun x_16 =>
    obind (getO (x_1.1.take x_1.2) (wI (((x_1.1.take x_1.2).length : Int) - 1) : Int)) fun x_17 =>
    olet (x_1.1.set (wI (((x_1.1.take x_1.2).length : Int) - 1) : Int).toNat (x_16 ^^^ 1)) fun x_18 =>
    F.law31_CoseParses_K2 x_5 x_1 x_18
   ) else (
    F.law31_CoseParses_K2 x_5 x_1 x_1.1
   )
  )
noncomputable def F.law31_CoseParses (a0 : List UInt8) (a1 : List UInt8) : Option (Bool) :=
 obind (F.law31_roomy a0) fun x_1 =>
 obind (F.law31_roomy a1) fun x_5 =>
 obind (F.law31_parses (x_1.1.take x_1.2) (x_5.1.take x_5.2)) fun x_9 =>
 if (!x_9) = true then
 (
  F.law31_CoseParses_K1 x_1 x_5 true
 ) else (
  obind (F.law31_spared x_1.1 x_1.2 a0) fun x_11 =>
  if (!x_11) = true then
  (
   F.law31_CoseParses_K1 x_1 x_5 true
  ) else (
   obind (F.law31_spared x_5.1 x_5.2 a1) fun x_13 =>
   F.law31_CoseParses_K1 x_1 x_5 (!x_13)
  )
 )
noncomputable def F.law31_awake_K1  : Bool → Option (Bool)
 | x_27 =>
  if x_27 = true then
  (
   some false
  ) else (
   obind (F.cose_Parse [132, 67, 161, 1, 36, 160, 64, 64] []) fun x_31 =>
   obind (F.cose_Claims [162, 1, 97, 105, 4, 10]) fun x_42 =>
   olet (x_42.2.2.2.2.2.2.2.2.2.2.2.2.2.2.2) fun x_49 =>
   obind (F.cose_Claims [128]) fun x_52 =>
   olet (x_52.2.2.2.2.2.2.2.2.2.2.2.2.2.2.2) fun x_59 =>
   if (x_31.2.2.2.2.2 == 111) = true then
   (
    if (x_49 == 0) = true then
    (
     if (x_59 == 130) = true then
     (
      if (x_42.2.1 == [105]) = true then
      (
       if (x_42.2.2.2.2.2.2.2.2.2.2.1 == 10) = true then
       (
        some x_42.2.2.2.2.2.2.2.2.2.1
       ) else (
        some false
       )
      ) else (
       some false
      )
     ) else (
      some false
     )
    ) else (
     some false
    )
   ) else (
    some false
   )
  )
noncomputable def F.law31_awake  : Option (Bool) :=
 obind (F.cose_Parse [210, 132, 67, 161, 1, 38, 161, 4, 65, 107, 65, 97, 64] []) fun x_3 =>
 if (x_3.2.2.2.2.2 != 0) = true then
 (
  F.law31_awake_K1 true
 ) else (
  if (x_3.1 != 10) = true then
  (
   F.law31_awake_K1 true
  ) else (
   obind (F.law31_same x_3.2.1 [107]) fun x_16 =>
   if (!x_16) = true then
   (
    F.law31_awake_K1 true
   ) else (
    obind (F.law31_same x_3.2.2.1 [97]) fun x_20 =>
    if (!x_20) = true then
    (
     F.law31_awake_K1 true
    ) else (
     if ((x_3.2.2.2.1.length : Int) != 0) = true then
     (
      F.law31_awake_K1 true
     ) else (
      if ((x_3.2.2.2.2.1.length : Int) != 19) = true then
      (
       F.law31_awake_K1 true
      ) else (
       obind (getO x_3.2.2.2.2.1 (0 : Int)) fun x_24 =>
       if (x_24 != 132) = true then
       (
        F.law31_awake_K1 true
       ) else (
        obind (getO x_3.2.2.2.2.1 (18 : Int)) fun x_26 =>
        F.law31_awake_K1 (x_26 != 97)
       )
      )
     )
    )
   )
  )
 )
noncomputable def F.law31_CoseSaid_K3 (x_2 : List (Int × (List UInt8) × (List UInt8) × Bool × Int × Int) × List UInt8 × Bool × List UInt8 × Bool × List (List UInt8) × Bool × List UInt8 × Bool × Bool × Int × Bool × Int × Bool × Int × Int) (x_17 : List UInt8 × Bool × Bool) (x_18 : List UInt8 × Bool × Bool) (x_19 : List UInt8 × Bool × Bool) (x_20 : Bool × Int × Bool) (x_23 : Bool × Int × Bool) (x_26 : Bool × Int × Bool) (x_65 : List (List UInt8)) : Bool → Option (Bool)
 | x_84 =>
  if x_84 = true then
  (
   some false
  ) else (
   if (x_2.2.1 == x_17.1) = true then
   (
    if (x_2.2.2.2.1 == x_18.1) = true then
    (
     if (x_2.2.2.2.2.2.2.2.1 == x_19.1) = true then
     (
      if ((x_2.2.2.2.2.2.2.2.2.2.1, x_2.2.2.2.2.2.2.2.2.2.2.1) == (x_20.1, x_20.2.1)) = true then
      (
       if ((x_2.2.2.2.2.2.2.2.2.2.2.2.1, x_2.2.2.2.2.2.2.2.2.2.2.2.2.1) == (x_23.1, x_23.2.1)) = true then
       (
        if ((x_2.2.2.2.2.2.2.2.2.2.2.2.2.2.1, x_2.2.2.2.2.2.2.2.2.2.2.2.2.2.2.1) == (x_26.1, x_26.2.1)) = true then
        (
         obind (F.law31_sameTexts x_2.2.2.2.2.2.1 x_65) fun x_92 =>
         some x_92
        ) else (
         some false
        )
       ) else (
        some false
       )
      ) else (
       some false
      )
     ) else (
      some false
     )
    ) else (
     some false
    )
   ) else (
    some false
   )
  )
noncomputable def F.law31_CoseSaid_K2 (x_2 : List (Int × (List UInt8) × (List UInt8) × Bool × Int × Int) × List UInt8 × Bool × List UInt8 × Bool × List (List UInt8) × Bool × List UInt8 × Bool × Bool × Int × Bool × Int × Bool × Int × Int) (x_9 : Int) (x_10 : Bool) (x_17 : List UInt8 × Bool × Bool) (x_18 : List UInt8 × Bool × Bool) (x_19 : List UInt8 × Bool × Bool) (x_29 : Int) (x_20 : Bool × Int × Bool) (x_23 : Bool × Int × Bool) (x_26 : Bool × Int × Bool) (x_65 : List (List UInt8)) : Bool → Option (Bool)
 | x_76 =>
  if x_76 = true then
  (
   if (x_9 == 131) = true then
   (
    some x_10
   ) else (
    some false
   )
  ) else (
   if (x_9 != 0) = true then
   (
    F.law31_CoseSaid_K3 x_2 x_17 x_18 x_19 x_20 x_23 x_26 x_65 true
   ) else (
    if (x_2.2.2.1 != x_17.2.1) = true then
    (
     F.law31_CoseSaid_K3 x_2 x_17 x_18 x_19 x_20 x_23 x_26 x_65 true
    ) else (
     if (x_2.2.2.2.2.1 != x_18.2.1) = true then
     (
      F.law31_CoseSaid_K3 x_2 x_17 x_18 x_19 x_20 x_23 x_26 x_65 true
     ) else (
      if (x_2.2.2.2.2.2.2.2.2.1 != x_19.2.1) = true then
      (
       F.law31_CoseSaid_K3 x_2 x_17 x_18 x_19 x_20 x_23 x_26 x_65 true
      ) else (
       if (x_2.2.2.2.2.2.2.1 != (decide ((0 : Int) ≤ x_29))) = true then
       (
        F.law31_CoseSaid_K3 x_2 x_17 x_18 x_19 x_20 x_23 x_26 x_65 true
       ) else (
        F.law31_CoseSaid_K3 x_2 x_17 x_18 x_19 x_20 x_23 x_26 x_65 ((x_2.1.length : Int) != 0)
       )
      )
     )
    )
   )
  )
noncomputable def F.law31_CoseSaid_K1 (x_17 : List UInt8 × Bool × Bool) (x_18 : List UInt8 × Bool × Bool) (x_19 : List UInt8 × Bool × Bool) (x_20 : Bool × Int × Bool) (x_23 : Bool × Int × Bool) (x_26 : Bool × Int × Bool) (x_2 : List (Int × (List UInt8) × (List UInt8) × Bool × Int × Int) × List UInt8 × Bool × List UInt8 × Bool × List (List UInt8) × Bool × List UInt8 × Bool × Bool × Int × Bool × Int × Bool × Int × Int) (x_9 : Int) (x_10 : Bool) (x_29 : Int) : List (List UInt8) × Bool → Option (Bool)
 | (x_65, x_68) =>
  if (!x_17.2.2) = true then
  (
   F.law31_CoseSaid_K2 x_2 x_9 x_10 x_17 x_18 x_19 x_29 x_20 x_23 x_26 x_65 true
  ) else (
   if (!x_18.2.2) = true then
   (
    F.law31_CoseSaid_K2 x_2 x_9 x_10 x_17 x_18 x_19 x_29 x_20 x_23 x_26 x_65 true
   ) else (
    if (!x_68) = true then
    (
     F.law31_CoseSaid_K2 x_2 x_9 x_10 x_17 x_18 x_19 x_29 x_20 x_23 x_26 x_65 true
    ) else (
     if (!x_20.2.2) = true then
     (
      F.law31_CoseSaid_K2 x_2 x_9 x_10 x_17 x_18 x_19 x_29 x_20 x_23 x_26 x_65 true
     ) else (
      if (!x_23.2.2) = true then
      (
       F.law31_CoseSaid_K2 x_2 x_9 x_10 x_17 x_18 x_19 x_29 x_20 x_23 x_26 x_65 true
      ) else (
       if (!x_26.2.2) = true then
       (
        F.law31_CoseSaid_K2 x_2 x_9 x_10 x_17 x_18 x_19 x_29 x_20 x_23 x_26 x_65 true
       ) else (
        F.law31_CoseSaid_K2 x_2 x_9 x_10 x_17 x_18 x_19 x_29 x_20 x_23 x_26 x_65 (!x_19.2.2)
       )
      )
     )
    )
   )
  )
noncomputable def F.law31_CoseSaid_K5 (x_11 : List (Int × UInt64 × (List UInt8) × Int) × Int × Int) (x_41 : List (List UInt8)) (x_45 : Int) (x_17 : List UInt8 × Bool × Bool) (x_18 : List UInt8 × Bool × Bool) (x_19 : List UInt8 × Bool × Bool) (x_20 : Bool × Int × Bool) (x_23 : Bool × Int × Bool) (x_26 : Bool × Int × Bool) (x_2 : List (Int × (List UInt8) × (List UInt8) × Bool × Int × Int) × List UInt8 × Bool × List UInt8 × Bool × List (List UInt8) × Bool × List UInt8 × Bool × Bool × Int × Bool × Int × Bool × Int × Int) (x_9 : Int) (x_10 : Bool) (x_29 : Int) : Bool × Bool → Option ((List (List UInt8) × Bool × Int) ⊕ (Bool))
 | (x_51, x_52) =>
  if x_52 = true then
  (
   obind (getO x_11.1 (x_45 : Int)) fun x_54 =>
   obind (getO x_11.1 (x_45 : Int)) fun x_55 =>
   obind (apO 16 x_41 ([x_55.2.2.1] : List (List UInt8))) fun x_58 =>
   oinl (x_58, x_54.1 == 3, wI (x_45 + 1))
  ) else (
   oinr (
    F.law31_CoseSaid_K1 x_17 x_18 x_19 x_20 x_23 x_26 x_2 x_9 x_10 x_29 (x_41, x_51)
   )
  )
noncomputable def F.law31_CoseSaid_L1 (x_11 : List (Int × UInt64 × (List UInt8) × Int) × Int × Int) (x_29 : Int) (x_17 : List UInt8 × Bool × Bool) (x_18 : List UInt8 × Bool × Bool) (x_19 : List UInt8 × Bool × Bool) (x_20 : Bool × Int × Bool) (x_23 : Bool × Int × Bool) (x_26 : Bool × Int × Bool) (x_2 : List (Int × (List UInt8) × (List UInt8) × Bool × Int × Int) × List UInt8 × Bool × List UInt8 × Bool × List (List UInt8) × Bool × List UInt8 × Bool × Bool × Int × Bool × Int × Bool × Int × Int) (x_9 : Int) (x_10 : Bool) : List (List UInt8) × Bool × Int → Option ((List (List UInt8) × Bool × Int) ⊕ (Bool))
 | (x_41, x_44, x_45) =>
  if x_44 = true then
  (
   obind (F.cbor_Behind x_11.1 x_29) fun x_50 =>
   F.law31_CoseSaid_K5 x_11 x_41 x_45 x_17 x_18 x_19 x_20 x_23 x_26 x_2 x_9 x_10 x_29 (true, decide (x_45 < x_50))
  ) else (
   F.law31_CoseSaid_K5 x_11 x_41 x_45 x_17 x_18 x_19 x_20 x_23 x_26 x_2 x_9 x_10 x_29 (false, false)
  )
noncomputable def F.law31_CoseSaid_K4 (x_11 : List (Int × UInt64 × (List UInt8) × Int) × Int × Int) (x_29 : Int) (x_17 : List UInt8 × Bool × Bool) (x_18 : List UInt8 × Bool × Bool) (x_19 : List UInt8 × Bool × Bool) (x_20 : Bool × Int × Bool) (x_23 : Bool × Int × Bool) (x_26 : Bool × Int × Bool) (x_2 : List (Int × (List UInt8) × (List UInt8) × Bool × Int × Int) × List UInt8 × Bool × List UInt8 × Bool × List (List UInt8) × Bool × List UInt8 × Bool × Bool × Int × Bool × Int × Bool × Int × Int) (x_9 : Int) (x_10 : Bool) : Bool → Option (Bool)
 | x_32 =>
  if x_32 = true then
  (
   obind (getO x_11.1 (x_29 : Int)) fun x_34 =>
   obind (apO 16 [] ([x_34.2.2.1] : List (List UInt8))) fun x_37 =>
   F.law31_CoseSaid_K1 x_17 x_18 x_19 x_20 x_23 x_26 x_2 x_9 x_10 x_29 (x_37, true)
  ) else (
   if (decide ((0 : Int) ≤ x_29)) = true then
   (
    obind (getO x_11.1 (x_29 : Int)) fun x_40 =>
    loop (F.law31_CoseSaid_L1 x_11 x_29 x_17 x_18 x_19 x_20 x_23 x_26 x_2 x_9 x_10) ([], x_40.1 == 4, wI (x_29 + 1))
   ) else (
    F.law31_CoseSaid_K1 x_17 x_18 x_19 x_20 x_23 x_26 x_2 x_9 x_10 x_29 ([], true)
   )
  )
noncomputable def F.law31_CoseSaid (a0 : List UInt8) : Option (Bool) :=
 obind (F.law31_awake ) fun x_1 =>
 if (!x_1) = true then
 (
  some false
 ) else (
  obind (F.cose_Claims a0) fun x_2 =>
  olet (x_2.2.2.2.2.2.2.2.2.2.2.2.2.2.2.2) fun x_9 =>
  obind (F.law31_sameClaims x_2.1 x_2.2.1 x_2.2.2.1 x_2.2.2.2.1 x_2.2.2.2.2.1 x_2.2.2.2.2.2.1 x_2.2.2.2.2.2.2.1 x_2.2.2.2.2.2.2.2.1 x_2.2.2.2.2.2.2.2.2.1 x_2.2.2.2.2.2.2.2.2.2.1 x_2.2.2.2.2.2.2.2.2.2.2.1 x_2.2.2.2.2.2.2.2.2.2.2.2.1 x_2.2.2.2.2.2.2.2.2.2.2.2.2.1 x_2.2.2.2.2.2.2.2.2.2.2.2.2.2.1 x_2.2.2.2.2.2.2.2.2.2.2.2.2.2.2.1 [] [] false [] false [] false [] false false 0 false 0 false 0) fun x_10 =>
  obind (F.cbor_Parse a0) fun x_11 =>
  if (x_11.2.1 != 0) = true then
  (
   if (x_9 == x_11.2.1) = true then
   (
    some x_10
   ) else (
    some false
   )
  ) else (
   obind (getO x_11.1 (0 : Int)) fun x_15 =>
   if (x_15.1 != 5) = true then
   (
    if (x_9 == 130) = true then
    (
     some x_10
    ) else (
     some false
    )
   ) else (
    obind (F.law31_word x_11.1 1 3) fun x_17 =>
    obind (F.law31_word x_11.1 2 3) fun x_18 =>
    obind (F.law31_word x_11.1 7 2) fun x_19 =>
    obind (F.law31_when x_11.1 4) fun x_20 =>
    obind (F.law31_when x_11.1 5) fun x_23 =>
    obind (F.law31_when x_11.1 6) fun x_26 =>
    obind (F.law31_part x_11.1 3) fun x_29 =>
    if (decide ((0 : Int) ≤ x_29)) = true then
    (
     obind (getO x_11.1 (x_29 : Int)) fun x_31 =>
     F.law31_CoseSaid_K4 x_11 x_29 x_17 x_18 x_19 x_20 x_23 x_26 x_2 x_9 x_10 (x_31.1 == 3)
    ) else (
     F.law31_CoseSaid_K4 x_11 x_29 x_17 x_18 x_19 x_20 x_23 x_26 x_2 x_9 x_10 false
    )
   )
  )
 )
noncomputable def F.law31_CoseMessage_K1 (x_14 : Int) : Bool → Option ((Int) ⊕ (Bool))
 | x_26 =>
  if x_26 = true then
  (
   oinr (
    some true
   )
  ) else (
   oinl (wI (x_14 + 1))
  )
noncomputable def F.law31_CoseMessage_L1 (a0 : List UInt8) (x_2 : Int × List UInt8 × List UInt8 × List UInt8 × List UInt8 × Int) (x_11 : List UInt8 × Bool) : Int → Option ((Int) ⊕ (Bool))
 | x_14 =>
  if (decide (x_14 < 4)) = true then
  (
   obind (F.law31_message x_11.1 x_2.2.2.1 x_2.2.2.2.1 x_2.2.1 ((Int.tmod x_14 2) == 1) (decide ((1 : Int) < x_14))) fun x_18 =>
   obind (F.cbor_Print x_18) fun x_21 =>
   if (x_21.2 == 0) = true then
   (
    obind (F.law31_same x_21.1 a0) fun x_25 =>
    F.law31_CoseMessage_K1 x_14 x_25
   ) else (
    F.law31_CoseMessage_K1 x_14 false
   )
  ) else (
   oinr (
    some false
   )
  )
noncomputable def F.law31_CoseMessage (a0 : List UInt8) (a1 : List UInt8) : Option (Bool) :=
 obind (F.law31_awake ) fun x_1 =>
 if (!x_1) = true then
 (
  some false
 ) else (
  obind (F.cose_Parse a0 a1) fun x_2 =>
  if (x_2.2.2.2.2.2 != 0) = true then
  (
   some true
  ) else (
   obind (F.law31_head a0) fun x_11 =>
   if (!x_11.2) = true then
   (
    some false
   ) else (
    loop (F.law31_CoseMessage_L1 a0 x_2 x_11) 0
   )
  )
 )
end Go.Gk
