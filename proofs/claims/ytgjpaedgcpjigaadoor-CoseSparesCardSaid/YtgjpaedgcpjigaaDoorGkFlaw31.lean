import Derived.Test.YtgjpaedgcpjigaaDoorGkS
import Derived.Test.YtgjpaedgcpjigaaDoorGkFcbor
import Derived.Test.YtgjpaedgcpjigaaDoorGkFcose
import Derived.Test.YtgjpaedgcpjigaaDoorGkFref31
set_option linter.unusedVariables false
set_option linter.unusedSimpArgs false
set_option linter.unusedVariables false
namespace Go.Gk
noncomputable def F.law31_sameTexts_L1 (a0 : List (List UInt8)) (a1 : List (List UInt8)) : Int → Option ((Int) ⊕ (Bool))
 | x_1 =>
  if (decide (x_1 < (a0.length : Int))) = true then
  (
   obind (getO a0 (x_1 : Int)) fun x_5 =>
   obind (getO a1 (x_1 : Int)) fun x_6 =>
   if (x_5 != x_6) = true then
   (
    oinr (
     some false
    )
   ) else (
    oinl (wI (x_1 + 1))
   )
  ) else (
   oinr (
    some true
   )
  )
noncomputable def F.law31_sameTexts (a0 : List (List UInt8)) (a1 : List (List UInt8)) : Option (Bool) :=
 if ((a0.length : Int) != (a1.length : Int)) = true then
 (
  some false
 ) else (
  loop (F.law31_sameTexts_L1 a0 a1) 0
 )
noncomputable def F.law31_same_L1 (a0 : List UInt8) (a1 : List UInt8) : Int → Option ((Int) ⊕ (Bool))
 | x_1 =>
  if (decide (x_1 < (a0.length : Int))) = true then
  (
   obind (getO a0 (x_1 : Int)) fun x_5 =>
   obind (getO a1 (x_1 : Int)) fun x_6 =>
   if (x_5 != x_6) = true then
   (
    oinr (
     some false
    )
   ) else (
    oinl (wI (x_1 + 1))
   )
  ) else (
   oinr (
    some true
   )
  )
noncomputable def F.law31_same (a0 : List UInt8) (a1 : List UInt8) : Option (Bool) :=
 if ((a0.length : Int) != (a1.length : Int)) = true then
 (
  some false
 ) else (
  loop (F.law31_same_L1 a0 a1) 0
 )
noncomputable def F.law31_spared_L1 (a0 : List UInt8) (k0 : Nat) (a1 : List UInt8) : Int → Option ((Int) ⊕ (Bool))
 | x_2 =>
  if (decide (x_2 < ((a0.take ((wI ((a1.length : Int) + 9) : Int).toNat)).length : Int))) = true then
  (
   obind (getO (a0.take ((wI ((a1.length : Int) + 9) : Int).toNat)) (x_2 : Int)) fun x_6 =>
   if (x_6 != 165) = true then
   (
    oinr (
     some false
    )
   ) else (
    oinl (wI (x_2 + 1))
   )
  ) else (
   oinr (
    obind (F.law31_same (a0.take k0) a1) fun x_8 =>
    some x_8
   )
  )
noncomputable def F.law31_spared (a0 : List UInt8) (k0 : Nat) (a1 : List UInt8) : Option (Bool) :=
 grd (0 ≤ (wI ((a1.length : Int) + 9) : Int) ∧ (wI ((a1.length : Int) + 9) : Int).toNat ≤ a0.length) <|
 loop (F.law31_spared_L1 a0 k0 a1) (a1.length : Int)
noncomputable def F.law31_roomy_L1 (a0 : List UInt8) : List UInt8 × Int → Option ((List UInt8 × Int) ⊕ ((List UInt8 × Nat)))
 | (x_4, x_7) =>
  if (decide (x_7 < 9)) = true then
  (
   obind (apO 1 x_4 [165]) fun x_13 =>
   oinl (x_13, wI (x_7 + 1))
  ) else (
   oinr (
    grd (0 ≤ ((a0.length : Int) : Int) ∧ ((a0.length : Int) : Int).toNat ≤ x_4.length) <|
    some (x_4, ((a0.length : Int) : Int).toNat)
   )
  )
noncomputable def F.law31_roomy (a0 : List UInt8) : Option ((List UInt8 × Nat)) :=
 obind (apO 1 [] a0) fun x_1 =>
 loop (F.law31_roomy_L1 a0) (x_1, 0)
noncomputable def F.law31_sameClaims (a0_0 : List (Int × (List UInt8) × (List UInt8) × Bool × Int × Int)) (a0_1 : List UInt8) (a0_2 : Bool) (a0_3 : List UInt8) (a0_4 : Bool) (a0_5 : List (List UInt8)) (a0_6 : Bool) (a0_7 : List UInt8) (a0_8 : Bool) (a0_9 : Bool) (a0_10 : Int) (a0_11 : Bool) (a0_12 : Int) (a0_13 : Bool) (a0_14 : Int) (a1_0 : List (Int × (List UInt8) × (List UInt8) × Bool × Int × Int)) (a1_1 : List UInt8) (a1_2 : Bool) (a1_3 : List UInt8) (a1_4 : Bool) (a1_5 : List (List UInt8)) (a1_6 : Bool) (a1_7 : List UInt8) (a1_8 : Bool) (a1_9 : Bool) (a1_10 : Int) (a1_11 : Bool) (a1_12 : Int) (a1_13 : Bool) (a1_14 : Int) : Option (Bool) :=
 if (a0_1 == a1_1) = true then
 (
  if (a0_2 == a1_2) = true then
  (
   if (a0_3 == a1_3) = true then
   (
    if (a0_4 == a1_4) = true then
    (
     obind (F.law31_sameTexts a0_5 a1_5) fun x_9 =>
     if x_9 = true then
     (
      if (a0_6 == a1_6) = true then
      (
       if (a0_7 == a1_7) = true then
       (
        if (a0_8 == a1_8) = true then
        (
         if ((a0_9, a0_10) == (a1_9, a1_10)) = true then
         (
          if ((a0_11, a0_12) == (a1_11, a1_12)) = true then
          (
           if ((a0_13, a0_14) == (a1_13, a1_14)) = true then
           (
            if ((a0_0.length : Int) == 0) = true then
            (
             some ((a1_0.length : Int) == 0)
            ) else (
             some false
            )
           ) else (
            some false
           )
          ) else (
           some false
          )
         ) else (
          some false
         )
        ) else (
         some false
        )
       ) else (
        some false
       )
      ) else (
       some false
      )
     ) else (
      some false
     )
    ) else (
     some false
    )
   ) else (
    some false
   )
  ) else (
   some false
  )
 ) else (
  some false
 )
noncomputable def F.law31_part (a0 : List (Int × UInt64 × (List UInt8) × Int)) (a1 : UInt64) : Option (Int) :=
 obind (F.cbor_Member a0 0 ([(0, a1, [], 0)] : List (Int × UInt64 × (List UInt8) × Int))) fun x_3 =>
 some x_3
noncomputable def F.law31_word (a0 : List (Int × UInt64 × (List UInt8) × Int)) (a1 : UInt64) (a2 : Int) : Option (List UInt8 × Bool × Bool) :=
 obind (F.law31_part a0 a1) fun x_1 =>
 if (decide (x_1 < 0)) = true then
 (
  some ([], false, true)
 ) else (
  obind (getO a0 (x_1 : Int)) fun x_2 =>
  obind (getO a0 (x_1 : Int)) fun x_3 =>
  some (x_2.2.2.1, true, x_3.1 == a2)
 )
noncomputable def F.law31_when_K1 (x_4 : (Int × UInt64 × (List UInt8) × Int)) : Bool → Option (Bool × Int × Bool)
 | x_8 =>
  if x_8 = true then
  (
   some (false, 0, false)
  ) else (
   if (x_4.1 == 1) = true then
   (
    some (true, wI ((-1) - (wI (x_4.2.1.toNat : Int))), true)
   ) else (
    some (true, wI (x_4.2.1.toNat : Int), true)
   )
  )
noncomputable def F.law31_when (a0 : List (Int × UInt64 × (List UInt8) × Int)) (a1 : UInt64) : Option (Bool × Int × Bool) :=
 obind (F.law31_part a0 a1) fun x_3 =>
 if (decide (x_3 < 0)) = true then
 (
  some (false, 0, true)
 ) else (
  obind (getO a0 (x_3 : Int)) fun x_4 =>
  if (decide ((1 : Int) < x_4.1)) = true then
  (
   F.law31_when_K1 x_4 true
  ) else (
   F.law31_when_K1 x_4 ((shr64 x_4.2.1 63) == 1)
  )
 )
noncomputable def F.law31_message_K2 (a1 : List UInt8) (a2 : List UInt8) : (List (Int × UInt64 × (List UInt8) × Int)) → Option (List (Int × UInt64 × (List UInt8) × Int))
 | x_27 =>
  obind (apO 40 x_27 ([(2, 0, a1, 0), (2, 0, a2, 0)] : List (Int × UInt64 × (List UInt8) × Int))) fun x_33 =>
  some x_33
noncomputable def F.law31_message_K1 (a0 : List UInt8) (a3 : List UInt8) (a4 : Bool) (a1 : List UInt8) (a2 : List UInt8) : (List (Int × UInt64 × (List UInt8) × Int)) → Option (List (Int × UInt64 × (List UInt8) × Int))
 | x_7 =>
  obind (apO 40 x_7 ([(4, 0, [], 4), (2, 0, a0, 0)] : List (Int × UInt64 × (List UInt8) × Int))) fun x_13 =>
  if a4 = true then
  (
   obind (apO 40 x_13 ([(5, 0, [], 2), (0, 4, [], 0), (2, 0, a3, 0)] : List (Int × UInt64 × (List UInt8) × Int))) fun x_18 =>
   F.law31_message_K2 a1 a2 x_18
  ) else (
   obind (apO 40 x_13 ([(5, 0, [], 0)] : List (Int × UInt64 × (List UInt8) × Int))) fun x_23 =>
   F.law31_message_K2 a1 a2 x_23
  )
noncomputable def F.law31_message (a0 : List UInt8) (a1 : List UInt8) (a2 : List UInt8) (a3 : List UInt8) (a4 : Bool) (a5 : Bool) : Option (List (Int × UInt64 × (List UInt8) × Int)) :=
 if a5 = true then
 (
  obind (apO 40 [] ([(6, 18, [], 1)] : List (Int × UInt64 × (List UInt8) × Int))) fun x_3 =>
  F.law31_message_K1 a0 a3 a4 a1 a2 x_3
 ) else (
  F.law31_message_K1 a0 a3 a4 a1 a2 []
 )
noncomputable def F.law31_CoseClaims_K2 (x_1 : (List UInt8 × Nat)) : List UInt8 → Option (Bool)
 | x_31 =>
  obind (F.ref31_Claims (x_31.take x_1.2)) fun x_34 =>
  olet (x_34.2.2.2.2.2.2.2.2.2.2.2.2.2.2.2) fun x_39 =>
  obind (F.cose_Claims (x_31.take x_1.2)) fun x_40 =>
  olet (x_40.2.2.2.2.2.2.2.2.2.2.2.2.2.2.2) fun x_45 =>
  if (x_45 == x_39) = true then
  (
   obind (F.law31_sameClaims x_40.1 x_40.2.1 x_40.2.2.1 x_40.2.2.2.1 x_40.2.2.2.2.1 x_40.2.2.2.2.2.1 x_40.2.2.2.2.2.2.1 x_40.2.2.2.2.2.2.2.1 x_40.2.2.2.2.2.2.2.2.1 x_40.2.2.2.2.2.2.2.2.2.1 x_40.2.2.2.2.2.2.2.2.2.2.1 x_40.2.2.2.2.2.2.2.2.2.2.2.1 x_40.2.2.2.2.2.2.2.2.2.2.2.2.1 x_40.2.2.2.2.2.2.2.2.2.2.2.2.2.1 x_40.2.2.2.2.2.2.2.2.2.2.2.2.2.2.1 x_34.1 x_34.2.1 x_34.2.2.1 x_34.2.2.2.1 x_34.2.2.2.2.1 x_34.2.2.2.2.2.1 x_34.2.2.2.2.2.2.1 x_34.2.2.2.2.2.2.2.1 x_34.2.2.2.2.2.2.2.2.1 x_34.2.2.2.2.2.2.2.2.2.1 x_34.2.2.2.2.2.2.2.2.2.2.1 x_34.2.2.2.2.2.2.2.2.2.2.2.1 x_34.2.2.2.2.2.2.2.2.2.2.2.2.1 x_34.2.2.2.2.2.2.2.2.2.2.2.2.2.1 x_34.2.2.2.2.2.2.2.2.2.2.2.2.2.2.1) fun x_47 =>
   some x_47
  ) else (
   some false
  )
noncomputable def F.law31_CoseClaims_K1 (x_1 : (List UInt8 × Nat)) : Bool → Option (Bool)
 | x_25 =>
  if x_25 = true then
  (
   some false
  ) else (
   if (decide ((0 : Int) < ((x_1.1.take x_1.2).length : Int))) = true then
   (
    obind (getO (x_1.1.take x_1.2) (wI (Int.tdiv ((x_1.1.take x_1.2).length : Int) 2) : Int)) fun x_27 =>
    obind (getO (x_1.1.take x_1.2) (wI (Int.tdiv ((x_1.1.take x_1.2).length : Int) 2) : Int)) fun x_28 =>
    olet (x_1.1.set (wI (Int.tdiv ((x_1.1.take x_1.2).length : Int) 2) : Int).toNat (x_27 ^^^ 1)) fun x_29 =>
    F.law31_CoseClaims_K2 x_1 x_29
   ) else (
    F.law31_CoseClaims_K2 x_1 x_1.1
   )
  )
noncomputable def F.law31_CoseClaims (a0 : List UInt8) : Option (Bool) :=
 obind (F.law31_roomy a0) fun x_1 =>
 obind (F.cose_Claims (x_1.1.take x_1.2)) fun x_5 =>
 olet (x_5.2.2.2.2.2.2.2.2.2.2.2.2.2.2.2) fun x_12 =>
 obind (F.ref31_Claims a0) fun x_13 =>
 olet (x_13.2.2.2.2.2.2.2.2.2.2.2.2.2.2.2) fun x_20 =>
 if (x_12 != x_20) = true then
 (
  F.law31_CoseClaims_K1 x_1 true
 ) else (
  obind (F.law31_sameClaims x_5.1 x_5.2.1 x_5.2.2.1 x_5.2.2.2.1 x_5.2.2.2.2.1 x_5.2.2.2.2.2.1 x_5.2.2.2.2.2.2.1 x_5.2.2.2.2.2.2.2.1 x_5.2.2.2.2.2.2.2.2.1 x_5.2.2.2.2.2.2.2.2.2.1 x_5.2.2.2.2.2.2.2.2.2.2.1 x_5.2.2.2.2.2.2.2.2.2.2.2.1 x_5.2.2.2.2.2.2.2.2.2.2.2.2.1 x_5.2.2.2.2.2.2.2.2.2.2.2.2.2.1 x_5.2.2.2.2.2.2.2.2.2.2.2.2.2.2.1 x_13.1 x_13.2.1 x_13.2.2.1 x_13.2.2.2.1 x_13.2.2.2.2.1 x_13.2.2.2.2.2.1 x_13.2.2.2.2.2.2.1 x_13.2.2.2.2.2.2.2.1 x_13.2.2.2.2.2.2.2.2.1 x_13.2.2.2.2.2.2.2.2.2.1 x_13.2.2.2.2.2.2.2.2.2.2.1 x_13.2.2.2.2.2.2.2.2.2.2.2.1 x_13.2.2.2.2.2.2.2.2.2.2.2.2.1 x_13.2.2.2.2.2.2.2.2.2.2.2.2.2.1 x_13.2.2.2.2.2.2.2.2.2.2.2.2.2.2.1) fun x_22 =>
  if (!x_22) = true then
  (
   F.law31_CoseClaims_K1 x_1 true
  ) else (
   obind (F.law31_spared x_1.1 x_1.2 a0) fun x_24 =>
   F.law31_CoseClaims_K1 x_1 (!x_24)
  )
 )
noncomputable def F.law31_head_K2 (x_1 : List (Int × UInt64 × (List UInt8) × Int) × Int × Int) : Int → Option (List UInt8 × Bool)
 | x_9 =>
  obind (getO x_1.1 (x_9 : Int)) fun x_11 =>
  obind (getO x_1.1 (x_9 : Int)) fun x_14 =>
  some (x_11.2.2.1, x_14.1 == 2)
noncomputable def F.law31_head_K1 (x_1 : List (Int × UInt64 × (List UInt8) × Int) × Int × Int) : Bool → Option (List UInt8 × Bool)
 | x_5 =>
  if x_5 = true then
  (
   some ([], false)
  ) else (
   obind (getO x_1.1 (0 : Int)) fun x_7 =>
   if (x_7.1 == 6) = true then
   (
    F.law31_head_K2 x_1 2
   ) else (
    F.law31_head_K2 x_1 1
   )
  )
noncomputable def F.law31_head (a0 : List UInt8) : Option (List UInt8 × Bool) :=
 obind (F.cbor_Parse a0) fun x_1 =>
 if (x_1.2.1 != 0) = true then
 (
  F.law31_head_K1 x_1 true
 ) else (
  F.law31_head_K1 x_1 (decide ((x_1.1.length : Int) < 5))
 )
noncomputable def F.law31_parses (a0 : List UInt8) (a1 : List UInt8) : Option (Bool) :=
 obind (F.ref31_Parse a0 a1) fun x_1 =>
 obind (F.cose_Parse a0 a1) fun x_10 =>
 if (x_10.1 == x_1.1) = true then
 (
  obind (F.law31_same x_10.2.1 x_1.2.1) fun x_20 =>
  if x_20 = true then
  (
   obind (F.law31_same x_10.2.2.1 x_1.2.2.1) fun x_22 =>
   if x_22 = true then
   (
    obind (F.law31_same x_10.2.2.2.1 x_1.2.2.2.1) fun x_24 =>
    if x_24 = true then
    (
     obind (F.law31_same x_10.2.2.2.2.1 x_1.2.2.2.2.1) fun x_26 =>
     if x_26 = true then
     (
      some (x_10.2.2.2.2.2 == x_1.2.2.2.2.2)
     ) else (
      some false
     )
    ) else (
     some false
    )
   ) else (
    some false
   )
  ) else (
   some false
  )
 ) else (
  some false
 )
noncomputable def F.law31_CoseParses_K3 (x_1 : (List UInt8 × Nat)) (x_5 : (List UInt8 × Nat)) (x_20 : List UInt8) : List UInt8 → Option (Bool)
 | x_27 =>
  obind (F.law31_parses (x_20.take x_1.2) (x_27.take x_5.2)) fun x_30 =>
  some x_30
noncomputable def F.law31_CoseParses_K2 (x_5 : (List UInt8 × Nat)) (x_1 : (List UInt8 × Nat)) : List UInt8 → Option (Bool)
 | x_20 =>
  if (decide ((0 : Int) < ((x_5.1.take x_5.2).length : Int))) = true then
  (
   obind (getO (x_5.1.take x_5.2) (0 : Int)) fun x_23 =>
   obind (getO (x_5.1.take x_5.2) (0 : Int)) fun x_24 =>
   olet (x_5.1.set (0 : Int).toNat (x_23 ^^^ 1)) fun x_25 =>
   F.law31_CoseParses_K3 x_1 x_5 x_20 x_25
  ) else (
   F.law31_CoseParses_K3 x_1 x_5 x_20 x_5.1
  )
noncomputable def F.law31_CoseParses_K1 (x_1 : (List UInt8 × Nat)) (x_5 : (List UInt8 × Nat)) : Bool → Option (Bool)
 | x_14 =>
  if x_14 = true then
  (
   some false
  ) else (
   if (decide ((0 : Int) < ((x_1.1.take x_1.2).length : Int))) = true then
   (
    obind (getO (x_1.1.take x_1.2) (wI (((x_1.1.take x_1.2).length : Int) - 1) : Int)) fun x_16 =>
    obind (getO (x_1.1.take x_1.2) (wI (((x_1.1.take x_1.2).length : Int) - 1) : Int)) fun x_17 =>
    olet (x_1.1.set (wI (((x_1.1.take x_1.2).length : Int) - 1) : Int).toNat (x_16 ^^^ 1)) fun x_18 =>
    F.law31_CoseParses_K2 x_5 x_1 x_18
   ) else (
    F.law31_CoseParses_K2 x_5 x_1 x_1.1
   )
  )
noncomputable def F.law31_CoseParses (a0 : List UInt8) (a1 : List UInt8) : Option (Bool) :=
 obind (F.law31_roomy a0) fun x_1 =>
 obind (F.law31_roomy a1) fun x_5 =>
 obind (F.law31_parses (x_1.1.take x_1.2) (x_5.1.take x_5.2)) fun x_9 =>
 if (!x_9) = true then
 (
  F.law31_CoseParses_K1 x_1 x_5 true
 ) else (
  obind (F.law31_spared x_1.1 x_1.2 a0) fun x_11 =>
  if (!x_11) = true then
  (
   F.law31_CoseParses_K1 x_1 x_5 true
  ) else (
   obind (F.law31_spared x_5.1 x_5.2 a1) fun x_13 =>
   F.law31_CoseParses_K1 x_1 x_5 (!x_13)
  )
 )
noncomputable def F.law31_awake_K1  : Bool → Option (Bool)
 | x_27 =>
  if x_27 = true then
  (
   some false
  ) else (
   obind (F.cose_Parse [132, 67, 161, 1, 36, 160, 64, 64] []) fun x_31 =>
   obind (F.cose_Claims [162, 1, 97, 105, 4, 10]) fun x_42 =>
   olet (x_42.2.2.2.2.2.2.2.2.2.2.2.2.2.2.2) fun x_49 =>
   obind (F.cose_Claims [128]) fun x_52 =>
   olet (x_52.2.2.2.2.2.2.2.2.2.2.2.2.2.2.2) fun x_59 =>
   if (x_31.2.2.2.2.2 == 111) = true then
   (
    if (x_49 == 0) = true then
    (
     if (x_59 == 130) = true then
     (
      if (x_42.2.1 == [105]) = true then
      (
       if (x_42.2.2.2.2.2.2.2.2.2.2.1 == 10) = true then
       (
        some x_42.2.2.2.2.2.2.2.2.2.1
       ) else (
        some false
       )
      ) else (
       some false
      )
     ) else (
      some false
     )
    ) else (
     some false
    )
   ) else (
    some false
   )
  )
noncomputable def F.law31_awake  : Option (Bool) :=
 obind (F.cose_Parse [210, 132, 67, 161, 1, 38, 161, 4, 65, 107, 65, 97, 64] []) fun x_3 =>
 if (x_3.2.2.2.2.2 != 0) = true then
 (
  F.law31_awake_K1 true
 ) else (
  if (x_3.1 != 10) = true then
  (
   F.law31_awake_K1 true
  ) else (
   obind (F.law31_same x_3.2.1 [107]) fun x_16 =>
   if (!x_16) = true then
   (
    F.law31_awake_K1 true
   ) else (
    obind (F.law31_same x_3.2.2.1 [97]) fun x_20 =>
    if (!x_20) = true then
    (
     F.law31_awake_K1 true
    ) else (
     if ((x_3.2.2.2.1.length : Int) != 0) = true then
     (
      F.law31_awake_K1 true
     ) else (
      if ((x_3.2.2.2.2.1.length : Int) != 19) = true then
      (
       F.law31_awake_K1 true
      ) else (
       obind (getO x_3.2.2.2.2.1 (0 : Int)) fun x_24 =>
       if (x_24 != 132) = true then
       (
        F.law31_awake_K1 true
       ) else (
        obind (getO x_3.2.2.2.2.1 (18 : Int)) fun x_26 =>
        F.law31_awake_K1 (x_26 != 97)
       )
      )
     )
    )
   )
  )
 )
noncomputable def F.law31_CoseSaid_K3 (x_2 : List (Int × (List UInt8) × (List UInt8) × Bool × Int × Int) × List UInt8 × Bool × List UInt8 × Bool × List (List UInt8) × Bool × List UInt8 × Bool × Bool × Int × Bool × Int × Bool × Int × Int) (x_17 : List UInt8 × Bool × Bool) (x_18 : List UInt8 × Bool × Bool) (x_19 : List UInt8 × Bool × Bool) (x_20 : Bool × Int × Bool) (x_23 : Bool × Int × Bool) (x_26 : Bool × Int × Bool) (x_65 : List (List UInt8)) : Bool → Option (Bool)
 | x_84 =>
  if x_84 = true then
  (
   some false
  ) else (
   if (x_2.2.1 == x_17.1) = true then
   (
    if (x_2.2.2.2.1 == x_18.1) = true then
    (
     if (x_2.2.2.2.2.2.2.2.1 == x_19.1) = true then
     (
      if ((x_2.2.2.2.2.2.2.2.2.2.1, x_2.2.2.2.2.2.2.2.2.2.2.1) == (x_20.1, x_20.2.1)) = true then
      (
       if ((x_2.2.2.2.2.2.2.2.2.2.2.2.1, x_2.2.2.2.2.2.2.2.2.2.2.2.2.1) == (x_23.1, x_23.2.1)) = true then
       (
        if ((x_2.2.2.2.2.2.2.2.2.2.2.2.2.2.1, x_2.2.2.2.2.2.2.2.2.2.2.2.2.2.2.1) == (x_26.1, x_26.2.1)) = true then
        (
         obind (F.law31_sameTexts x_2.2.2.2.2.2.1 x_65) fun x_92 =>
         some x_92
        ) else (
         some false
        )
       ) else (
        some false
       )
      ) else (
       some false
      )
     ) else (
      some false
     )
    ) else (
     some false
    )
   ) else (
    some false
   )
  )
noncomputable def F.law31_CoseSaid_K2 (x_2 : List (Int × (List UInt8) × (List UInt8) × Bool × Int × Int) × List UInt8 × Bool × List UInt8 × Bool × List (List UInt8) × Bool × List UInt8 × Bool × Bool × Int × Bool × Int × Bool × Int × Int) (x_9 : Int) (x_10 : Bool) (x_17 : List UInt8 × Bool × Bool) (x_18 : List UInt8 × Bool × Bool) (x_19 : List UInt8 × Bool × Bool) (x_29 : Int) (x_20 : Bool × Int × Bool) (x_23 : Bool × Int × Bool) (x_26 : Bool × Int × Bool) (x_65 : List (List UInt8)) : Bool → Option (Bool)
 | x_76 =>
  if x_76 = true then
  (
   if (x_9 == 131) = true then
   (
    some x_10
   ) else (
    some false
   )
  ) else (
   if (x_9 != 0) = true then
   (
    F.law31_CoseSaid_K3 x_2 x_17 x_18 x_19 x_20 x_23 x_26 x_65 true
   ) else (
    if (x_2.2.2.1 != x_17.2.1) = true then
    (
     F.law31_CoseSaid_K3 x_2 x_17 x_18 x_19 x_20 x_23 x_26 x_65 true
    ) else (
     if (x_2.2.2.2.2.1 != x_18.2.1) = true then
     (
      F.law31_CoseSaid_K3 x_2 x_17 x_18 x_19 x_20 x_23 x_26 x_65 true
     ) else (
      if (x_2.2.2.2.2.2.2.2.2.1 != x_19.2.1) = true then
      (
       F.law31_CoseSaid_K3 x_2 x_17 x_18 x_19 x_20 x_23 x_26 x_65 true
      ) else (
       if (x_2.2.2.2.2.2.2.1 != (decide ((0 : Int) ≤ x_29))) = true then
       (
        F.law31_CoseSaid_K3 x_2 x_17 x_18 x_19 x_20 x_23 x_26 x_65 true
       ) else (
        F.law31_CoseSaid_K3 x_2 x_17 x_18 x_19 x_20 x_23 x_26 x_65 ((x_2.1.length : Int) != 0)
       )
      )
     )
    )
   )
  )
noncomputable def F.law31_CoseSaid_K1 (x_17 : List UInt8 × Bool × Bool) (x_18 : List UInt8 × Bool × Bool) (x_19 : List UInt8 × Bool × Bool) (x_20 : Bool × Int × Bool) (x_23 : Bool × Int × Bool) (x_26 : Bool × Int × Bool) (x_2 : List (Int × (List UInt8) × (List UInt8) × Bool × Int × Int) × List UInt8 × Bool × List UInt8 × Bool × List (List UInt8) × Bool × List UInt8 × Bool × Bool × Int × Bool × Int × Bool × Int × Int) (x_9 : Int) (x_10 : Bool) (x_29 : Int) : List (List UInt8) × Bool → Option (Bool)
 | (x_65, x_68) =>
  if (!x_17.2.2) = true then
  (
   F.law31_CoseSaid_K2 x_2 x_9 x_10 x_17 x_18 x_19 x_29 x_20 x_23 x_26 x_65 true
  ) else (
   if (!x_18.2.2) = true then
   (
    F.law31_CoseSaid_K2 x_2 x_9 x_10 x_17 x_18 x_19 x_29 x_20 x_23 x_26 x_65 true
   ) else (
    if (!x_68) = true then
    (
     F.law31_CoseSaid_K2 x_2 x_9 x_10 x_17 x_18 x_19 x_29 x_20 x_23 x_26 x_65 true
    ) else (
     if (!x_20.2.2) = true then
     (
      F.law31_CoseSaid_K2 x_2 x_9 x_10 x_17 x_18 x_19 x_29 x_20 x_23 x_26 x_65 true
     ) else (
      if (!x_23.2.2) = true then
      (
       F.law31_CoseSaid_K2 x_2 x_9 x_10 x_17 x_18 x_19 x_29 x_20 x_23 x_26 x_65 true
      ) else (
       if (!x_26.2.2) = true then
       (
        F.law31_CoseSaid_K2 x_2 x_9 x_10 x_17 x_18 x_19 x_29 x_20 x_23 x_26 x_65 true
       ) else (
        F.law31_CoseSaid_K2 x_2 x_9 x_10 x_17 x_18 x_19 x_29 x_20 x_23 x_26 x_65 (!x_19.2.2)
       )
      )
     )
    )
   )
  )
noncomputable def F.law31_CoseSaid_K5 (x_11 : List (Int × UInt64 × (List UInt8) × Int) × Int × Int) (x_41 : List (List UInt8)) (x_45 : Int) (x_17 : List UInt8 × Bool × Bool) (x_18 : List UInt8 × Bool × Bool) (x_19 : List UInt8 × Bool × Bool) (x_20 : Bool × Int × Bool) (x_23 : Bool × Int × Bool) (x_26 : Bool × Int × Bool) (x_2 : List (Int × (List UInt8) × (List UInt8) × Bool × Int × Int) × List UInt8 × Bool × List UInt8 × Bool × List (List UInt8) × Bool × List UInt8 × Bool × Bool × Int × Bool × Int × Bool × Int × Int) (x_9 : Int) (x_10 : Bool) (x_29 : Int) : Bool × Bool → Option ((List (List UInt8) × Bool × Int) ⊕ (Bool))
 | (x_51, x_52) =>
  if x_52 = true then
  (
   obind (getO x_11.1 (x_45 : Int)) fun x_54 =>
   obind (getO x_11.1 (x_45 : Int)) fun x_55 =>
   obind (apO 16 x_41 ([x_55.2.2.1] : List (List UInt8))) fun x_58 =>
   oinl (x_58, x_54.1 == 3, wI (x_45 + 1))
  ) else (
   oinr (
    F.law31_CoseSaid_K1 x_17 x_18 x_19 x_20 x_23 x_26 x_2 x_9 x_10 x_29 (x_41, x_51)
   )
  )
noncomputable def F.law31_CoseSaid_L1 (x_11 : List (Int × UInt64 × (List UInt8) × Int) × Int × Int) (x_29 : Int) (x_17 : List UInt8 × Bool × Bool) (x_18 : List UInt8 × Bool × Bool) (x_19 : List UInt8 × Bool × Bool) (x_20 : Bool × Int × Bool) (x_23 : Bool × Int × Bool) (x_26 : Bool × Int × Bool) (x_2 : List (Int × (List UInt8) × (List UInt8) × Bool × Int × Int) × List UInt8 × Bool × List UInt8 × Bool × List (List UInt8) × Bool × List UInt8 × Bool × Bool × Int × Bool × Int × Bool × Int × Int) (x_9 : Int) (x_10 : Bool) : List (List UInt8) × Bool × Int → Option ((List (List UInt8) × Bool × Int) ⊕ (Bool))
 | (x_41, x_44, x_45) =>
  if x_44 = true then
  (
   obind (F.cbor_Behind x_11.1 x_29) fun x_50 =>
   F.law31_CoseSaid_K5 x_11 x_41 x_45 x_17 x_18 x_19 x_20 x_23 x_26 x_2 x_9 x_10 x_29 (true, decide (x_45 < x_50))
  ) else (
   F.law31_CoseSaid_K5 x_11 x_41 x_45 x_17 x_18 x_19 x_20 x_23 x_26 x_2 x_9 x_10 x_29 (false, false)
  )
noncomputable def F.law31_CoseSaid_K4 (x_11 : List (Int × UInt64 × (List UInt8) × Int) × Int × Int) (x_29 : Int) (x_17 : List UInt8 × Bool × Bool) (x_18 : List UInt8 × Bool × Bool) (x_19 : List UInt8 × Bool × Bool) (x_20 : Bool × Int × Bool) (x_23 : Bool × Int × Bool) (x_26 : Bool × Int × Bool) (x_2 : List (Int × (List UInt8) × (List UInt8) × Bool × Int × Int) × List UInt8 × Bool × List UInt8 × Bool × List (List UInt8) × Bool × List UInt8 × Bool × Bool × Int × Bool × Int × Bool × Int × Int) (x_9 : Int) (x_10 : Bool) : Bool → Option (Bool)
 | x_32 =>
  if x_32 = true then
  (
   obind (getO x_11.1 (x_29 : Int)) fun x_34 =>
   obind (apO 16 [] ([x_34.2.2.1] : List (List UInt8))) fun x_37 =>
   F.law31_CoseSaid_K1 x_17 x_18 x_19 x_20 x_23 x_26 x_2 x_9 x_10 x_29 (x_37, true)
  ) else (
   if (decide ((0 : Int) ≤ x_29)) = true then
   (
    obind (getO x_11.1 (x_29 : Int)) fun x_40 =>
    loop (F.law31_CoseSaid_L1 x_11 x_29 x_17 x_18 x_19 x_20 x_23 x_26 x_2 x_9 x_10) ([], x_40.1 == 4, wI (x_29 + 1))
   ) else (
    F.law31_CoseSaid_K1 x_17 x_18 x_19 x_20 x_23 x_26 x_2 x_9 x_10 x_29 ([], true)
   )
  )
noncomputable def F.law31_CoseSaid (a0 : List UInt8) : Option (Bool) :=
 obind (F.law31_awake ) fun x_1 =>
 if (!x_1) = true then
 (
  some false
 ) else (
  obind (F.cose_Claims a0) fun x_2 =>
  olet (x_2.2.2.2.2.2.2.2.2.2.2.2.2.2.2.2) fun x_9 =>
  obind (F.law31_sameClaims x_2.1 x_2.2.1 x_2.2.2.1 x_2.2.2.2.1 x_2.2.2.2.2.1 x_2.2.2.2.2.2.1 x_2.2.2.2.2.2.2.1 x_2.2.2.2.2.2.2.2.1 x_2.2.2.2.2.2.2.2.2.1 x_2.2.2.2.2.2.2.2.2.2.1 x_2.2.2.2.2.2.2.2.2.2.2.1 x_2.2.2.2.2.2.2.2.2.2.2.2.1 x_2.2.2.2.2.2.2.2.2.2.2.2.2.1 x_2.2.2.2.2.2.2.2.2.2.2.2.2.2.1 x_2.2.2.2.2.2.2.2.2.2.2.2.2.2.2.1 [] [] false [] false [] false [] false false 0 false 0 false 0) fun x_10 =>
  obind (F.cbor_Parse a0) fun x_11 =>
  if (x_11.2.1 != 0) = true then
  (
   if (x_9 == x_11.2.1) = true then
   (
    some x_10
   ) else (
    some false
   )
  ) else (
   obind (getO x_11.1 (0 : Int)) fun x_15 =>
   if (x_15.1 != 5) = true then
   (
    if (x_9 == 130) = true then
    (
     some x_10
    ) else (
     some false
    )
   ) else (
    obind (F.law31_word x_11.1 1 3) fun x_17 =>
    obind (F.law31_word x_11.1 2 3) fun x_18 =>
    obind (F.law31_word x_11.1 7 2) fun x_19 =>
    obind (F.law31_when x_11.1 4) fun x_20 =>
    obind (F.law31_when x_11.1 5) fun x_23 =>
    obind (F.law31_when x_11.1 6) fun x_26 =>
    obind (F.law31_part x_11.1 3) fun x_29 =>
    if (decide ((0 : Int) ≤ x_29)) = true then
    (
     obind (getO x_11.1 (x_29 : Int)) fun x_31 =>
     F.law31_CoseSaid_K4 x_11 x_29 x_17 x_18 x_19 x_20 x_23 x_26 x_2 x_9 x_10 (x_31.1 == 3)
    ) else (
     F.law31_CoseSaid_K4 x_11 x_29 x_17 x_18 x_19 x_20 x_23 x_26 x_2 x_9 x_10 false
    )
   )
  )
 )
noncomputable def F.law31_CoseMessage_K1 (x_14 : Int) : Bool → Option ((Int) ⊕ (Bool))
 | x_26 =>
  if x_26 = true then
  (
   oinr (
    some true
   )
  ) else (
   oinl (wI (x_14 + 1))
  )
noncomputable def F.law31_CoseMessage_L1 (a0 : List UInt8) (x_2 : Int × List UInt8 × List UInt8 × List UInt8 × List UInt8 × Int) (x_11 : List UInt8 × Bool) : Int → Option ((Int) ⊕ (Bool))
 | x_14 =>
  if (decide (x_14 < 4)) = true then
  (
   obind (F.law31_message x_11.1 x_2.2.2.1 x_2.2.2.2.1 x_2.2.1 ((Int.tmod x_14 2) == 1) (decide ((1 : Int) < x_14))) fun x_18 =>
   obind (F.cbor_Print x_18) fun x_21 =>
   if (x_21.2 == 0) = true then
   (
    obind (F.law31_same x_21.1 a0) fun x_25 =>
    F.law31_CoseMessage_K1 x_14 x_25
   ) else (
    F.law31_CoseMessage_K1 x_14 false
   )
  ) else (
   oinr (
    some false
   )
  )
noncomputable def F.law31_CoseMessage (a0 : List UInt8) (a1 : List UInt8) : Option (Bool) :=
 obind (F.law31_awake ) fun x_1 =>
 if (!x_1) = true then
 (
  some false
 ) else (
  obind (F.cose_Parse a0 a1) fun x_2 =>
  if (x_2.2.2.2.2.2 != 0) = true then
  (
   some true
  ) else (
   obind (F.law31_head a0) fun x_11 =>
   if (!x_11.2) = true then
   (
    some false
   ) else (
    loop (F.law31_CoseMessage_L1 a0 x_2 x_11) 0
   )
  )
 )
noncomputable def F.law31_CoseSpares_K2 (x_331 : Int) : Bool → Option ((Int) ⊕ (Bool))
 | x_342 =>
  if x_342 = true then
  (
   oinr (
    some false
   )
  ) else (
   oinl (wI (x_331 + 1))
  )
noncomputable def F.law31_CoseSpares_K3 (x_345 : Int) : Bool → Option ((Int) ⊕ (Bool))
 | x_356 =>
  if x_356 = true then
  (
   oinr (
    some false
   )
  ) else (
   oinl (wI (x_345 + 1))
  )
noncomputable def F.law31_CoseSpares_K4 (x_359 : Int) : Bool → Option ((Int) ⊕ (Bool))
 | x_370 =>
  if x_370 = true then
  (
   oinr (
    some false
   )
  ) else (
   oinl (wI (x_359 + 1))
  )
noncomputable def F.law31_CoseSpares_K5 (x_373 : Int) : Bool → Option ((Int) ⊕ (Bool))
 | x_384 =>
  if x_384 = true then
  (
   oinr (
    some false
   )
  ) else (
   oinl (wI (x_373 + 1))
  )
noncomputable def F.law31_CoseSpares_K6 (x_387 : Int) : Bool → Option ((Int) ⊕ (Bool))
 | x_398 =>
  if x_398 = true then
  (
   oinr (
    some false
   )
  ) else (
   oinl (wI (x_387 + 1))
  )
noncomputable def F.law31_CoseSpares_K7 (x_401 : Int) : Bool → Option ((Int) ⊕ (Bool))
 | x_412 =>
  if x_412 = true then
  (
   oinr (
    some false
   )
  ) else (
   oinl (wI (x_401 + 1))
  )
noncomputable def F.law31_CoseSpares_K8 (x_415 : Int) : Bool → Option ((Int) ⊕ (Bool))
 | x_426 =>
  if x_426 = true then
  (
   oinr (
    some false
   )
  ) else (
   oinl (wI (x_415 + 1))
  )
noncomputable def F.law31_CoseSpares_K9 (x_429 : Int) : Bool → Option ((Int) ⊕ (Bool))
 | x_440 =>
  if x_440 = true then
  (
   oinr (
    some false
   )
  ) else (
   oinl (wI (x_429 + 1))
  )
noncomputable def F.law31_CoseSpares_L26 (a0 : List UInt8) (a1 : List UInt8) (a2 : List UInt8) (x_3 : (List UInt8 × Nat)) (x_7 : (List UInt8 × Nat)) (x_450 : Int) (x_451 : List (Int × (List UInt8) × (List UInt8) × Bool × Int × Int) × List UInt8 × Bool × List UInt8 × Bool × List (List UInt8) × Bool × List UInt8 × Bool × Bool × Int × Bool × Int × Bool × Int × Int) (x_458 : Int) (x_461 : List (List UInt8)) (x_465 : List (List UInt8)) : List (List UInt8) × Int → Option ((List (List UInt8) × Int) ⊕ (Bool))
 | (x_474, x_477) =>
  if (decide (x_477 < 70)) = true then
  (
   obind (apO 16 x_474 ([[109, 111, 114, 101]] : List (List UInt8))) fun x_486 =>
   oinl (x_486, wI (x_477 + 1))
  ) else (
   oinr (
    obind (F.law31_sameTexts x_451.2.2.2.2.2.1 x_461) fun x_491 =>
    if (!x_491) = true then
    (
     some false
    ) else (
     obind (F.cose_Claims a2) fun x_493 =>
     olet (x_493.2.2.2.2.2.2.2.2.2.2.2.2.2.2.2) fun x_500 =>
     if (x_450 == x_458) = true then
     (
      if (x_500 == x_458) = true then
      (
       obind (F.law31_sameTexts x_451.2.2.2.2.2.1 x_461) fun x_503 =>
       if x_503 = true then
       (
        obind (F.law31_sameClaims x_451.1 x_451.2.1 x_451.2.2.1 x_451.2.2.2.1 x_451.2.2.2.2.1 x_451.2.2.2.2.2.1 x_451.2.2.2.2.2.2.1 x_451.2.2.2.2.2.2.2.1 x_451.2.2.2.2.2.2.2.2.1 x_451.2.2.2.2.2.2.2.2.2.1 x_451.2.2.2.2.2.2.2.2.2.2.1 x_451.2.2.2.2.2.2.2.2.2.2.2.1 x_451.2.2.2.2.2.2.2.2.2.2.2.2.1 x_451.2.2.2.2.2.2.2.2.2.2.2.2.2.1 x_451.2.2.2.2.2.2.2.2.2.2.2.2.2.2.1 x_493.1 x_493.2.1 x_493.2.2.1 x_493.2.2.2.1 x_493.2.2.2.2.1 x_493.2.2.2.2.2.1 x_493.2.2.2.2.2.2.1 x_493.2.2.2.2.2.2.2.1 x_493.2.2.2.2.2.2.2.2.1 x_493.2.2.2.2.2.2.2.2.2.1 x_493.2.2.2.2.2.2.2.2.2.2.1 x_493.2.2.2.2.2.2.2.2.2.2.2.1 x_493.2.2.2.2.2.2.2.2.2.2.2.2.1 x_493.2.2.2.2.2.2.2.2.2.2.2.2.2.1 x_493.2.2.2.2.2.2.2.2.2.2.2.2.2.2.1) fun x_505 =>
        if x_505 = true then
        (
         if ((x_474.length : Int) == (wI ((x_465.length : Int) + 70))) = true then
         (
          obind (F.law31_spared x_3.1 x_3.2 a0) fun x_508 =>
          if x_508 = true then
          (
           obind (F.law31_spared x_7.1 x_7.2 a1) fun x_510 =>
           some x_510
          ) else (
           some false
          )
         ) else (
          some false
         )
        ) else (
         some false
        )
       ) else (
        some false
       )
      ) else (
       some false
      )
     ) else (
      some false
     )
    )
   )
  )
noncomputable def F.law31_CoseSpares_L25 (a0 : List UInt8) (a1 : List UInt8) (a2 : List UInt8) (x_3 : (List UInt8 × Nat)) (x_7 : (List UInt8 × Nat)) (x_450 : Int) (x_451 : List (Int × (List UInt8) × (List UInt8) × Bool × Int × Int) × List UInt8 × Bool × List UInt8 × Bool × List (List UInt8) × Bool × List UInt8 × Bool × Bool × Int × Bool × Int × Bool × Int × Int) (x_458 : Int) (x_461 : List (List UInt8)) : Int × List (List UInt8) → Option ((Int × List (List UInt8)) ⊕ (Bool))
 | (x_464, x_465) =>
  if (decide (x_464 < (x_465.length : Int))) = true then
  (
   obind (getO x_465 (x_464 : Int)) fun x_470 =>
   olet (x_465.set (x_464 : Int).toNat [115, 112, 111, 105, 108, 116]) fun x_471 =>
   oinl (wI (x_464 + 1), x_471)
  ) else (
   oinr (
    loop (F.law31_CoseSpares_L26 a0 a1 a2 x_3 x_7 x_450 x_451 x_458 x_461 x_465) (x_465, 0)
   )
  )
noncomputable def F.law31_CoseSpares_L24 (a2 : List UInt8) (x_140 : List UInt8) (x_310 : List UInt8) (a0 : List UInt8) (a1 : List UInt8) (x_3 : (List UInt8 × Nat)) (x_7 : (List UInt8 × Nat)) : Int → Option ((Int) ⊕ (Bool))
 | x_429 =>
  if (decide (x_429 < (x_310.length : Int))) = true then
  (
   if (decide (x_429 < (x_140.length : Int))) = true then
   (
    obind (getO x_140 (x_429 : Int)) fun x_435 =>
    if (x_435 != (UInt8.ofInt 67)) = true then
    (
     F.law31_CoseSpares_K9 x_429 true
    ) else (
     obind (getO x_310 (x_429 : Int)) fun x_437 =>
     if (x_437 != (UInt8.ofInt 67)) = true then
     (
      F.law31_CoseSpares_K9 x_429 true
     ) else (
      F.law31_CoseSpares_K9 x_429 false
     )
    )
   ) else (
    obind (getO x_310 (x_429 : Int)) fun x_439 =>
    F.law31_CoseSpares_K9 x_429 (x_439 != (UInt8.ofInt 87))
   )
  ) else (
   oinr (
    obind (F.cose_Claims a2) fun x_443 =>
    olet (x_443.2.2.2.2.2.2.2.2.2.2.2.2.2.2.2) fun x_450 =>
    obind (F.cose_Claims a2) fun x_451 =>
    olet (x_451.2.2.2.2.2.2.2.2.2.2.2.2.2.2.2) fun x_458 =>
    obind (apO 16 [] x_451.2.2.2.2.2.1) fun x_461 =>
    loop (F.law31_CoseSpares_L25 a0 a1 a2 x_3 x_7 x_450 x_451 x_458 x_461) (0, x_443.2.2.2.2.2.1)
   )
  )
noncomputable def F.law31_CoseSpares_L23 (x_132 : List UInt8) (x_287 : List UInt8) (a2 : List UInt8) (x_140 : List UInt8) (x_310 : List UInt8) (a0 : List UInt8) (a1 : List UInt8) (x_3 : (List UInt8 × Nat)) (x_7 : (List UInt8 × Nat)) : Int → Option ((Int) ⊕ (Bool))
 | x_415 =>
  if (decide (x_415 < (x_287.length : Int))) = true then
  (
   if (decide (x_415 < (x_132.length : Int))) = true then
   (
    obind (getO x_132 (x_415 : Int)) fun x_421 =>
    if (x_421 != (UInt8.ofInt 66)) = true then
    (
     F.law31_CoseSpares_K8 x_415 true
    ) else (
     obind (getO x_287 (x_415 : Int)) fun x_423 =>
     if (x_423 != (UInt8.ofInt 66)) = true then
     (
      F.law31_CoseSpares_K8 x_415 true
     ) else (
      F.law31_CoseSpares_K8 x_415 false
     )
    )
   ) else (
    obind (getO x_287 (x_415 : Int)) fun x_425 =>
    F.law31_CoseSpares_K8 x_415 (x_425 != (UInt8.ofInt 86))
   )
  ) else (
   oinr (
    loop (F.law31_CoseSpares_L24 a2 x_140 x_310 a0 a1 x_3 x_7) 0
   )
  )
noncomputable def F.law31_CoseSpares_L22 (x_124 : List UInt8) (x_264 : List UInt8) (x_132 : List UInt8) (x_287 : List UInt8) (a2 : List UInt8) (x_140 : List UInt8) (x_310 : List UInt8) (a0 : List UInt8) (a1 : List UInt8) (x_3 : (List UInt8 × Nat)) (x_7 : (List UInt8 × Nat)) : Int → Option ((Int) ⊕ (Bool))
 | x_401 =>
  if (decide (x_401 < (x_264.length : Int))) = true then
  (
   if (decide (x_401 < (x_124.length : Int))) = true then
   (
    obind (getO x_124 (x_401 : Int)) fun x_407 =>
    if (x_407 != (UInt8.ofInt 65)) = true then
    (
     F.law31_CoseSpares_K7 x_401 true
    ) else (
     obind (getO x_264 (x_401 : Int)) fun x_409 =>
     if (x_409 != (UInt8.ofInt 65)) = true then
     (
      F.law31_CoseSpares_K7 x_401 true
     ) else (
      F.law31_CoseSpares_K7 x_401 false
     )
    )
   ) else (
    obind (getO x_264 (x_401 : Int)) fun x_411 =>
    F.law31_CoseSpares_K7 x_401 (x_411 != (UInt8.ofInt 85))
   )
  ) else (
   oinr (
    loop (F.law31_CoseSpares_L23 x_132 x_287 a2 x_140 x_310 a0 a1 x_3 x_7) 0
   )
  )
noncomputable def F.law31_CoseSpares_L21 (x_116 : List UInt8) (x_241 : List UInt8) (x_124 : List UInt8) (x_264 : List UInt8) (x_132 : List UInt8) (x_287 : List UInt8) (a2 : List UInt8) (x_140 : List UInt8) (x_310 : List UInt8) (a0 : List UInt8) (a1 : List UInt8) (x_3 : (List UInt8 × Nat)) (x_7 : (List UInt8 × Nat)) : Int → Option ((Int) ⊕ (Bool))
 | x_387 =>
  if (decide (x_387 < (x_241.length : Int))) = true then
  (
   if (decide (x_387 < (x_116.length : Int))) = true then
   (
    obind (getO x_116 (x_387 : Int)) fun x_393 =>
    if (x_393 != (UInt8.ofInt 64)) = true then
    (
     F.law31_CoseSpares_K6 x_387 true
    ) else (
     obind (getO x_241 (x_387 : Int)) fun x_395 =>
     if (x_395 != (UInt8.ofInt 64)) = true then
     (
      F.law31_CoseSpares_K6 x_387 true
     ) else (
      F.law31_CoseSpares_K6 x_387 false
     )
    )
   ) else (
    obind (getO x_241 (x_387 : Int)) fun x_397 =>
    F.law31_CoseSpares_K6 x_387 (x_397 != (UInt8.ofInt 84))
   )
  ) else (
   oinr (
    loop (F.law31_CoseSpares_L22 x_124 x_264 x_132 x_287 a2 x_140 x_310 a0 a1 x_3 x_7) 0
   )
  )
noncomputable def F.law31_CoseSpares_L20 (x_100 : List UInt8) (x_218 : List UInt8) (x_116 : List UInt8) (x_241 : List UInt8) (x_124 : List UInt8) (x_264 : List UInt8) (x_132 : List UInt8) (x_287 : List UInt8) (a2 : List UInt8) (x_140 : List UInt8) (x_310 : List UInt8) (a0 : List UInt8) (a1 : List UInt8) (x_3 : (List UInt8 × Nat)) (x_7 : (List UInt8 × Nat)) : Int → Option ((Int) ⊕ (Bool))
 | x_373 =>
  if (decide (x_373 < (x_218.length : Int))) = true then
  (
   if (decide (x_373 < (x_100.length : Int))) = true then
   (
    obind (getO x_100 (x_373 : Int)) fun x_379 =>
    if (x_379 != (UInt8.ofInt 63)) = true then
    (
     F.law31_CoseSpares_K5 x_373 true
    ) else (
     obind (getO x_218 (x_373 : Int)) fun x_381 =>
     if (x_381 != (UInt8.ofInt 63)) = true then
     (
      F.law31_CoseSpares_K5 x_373 true
     ) else (
      F.law31_CoseSpares_K5 x_373 false
     )
    )
   ) else (
    obind (getO x_218 (x_373 : Int)) fun x_383 =>
    F.law31_CoseSpares_K5 x_373 (x_383 != (UInt8.ofInt 83))
   )
  ) else (
   oinr (
    loop (F.law31_CoseSpares_L21 x_116 x_241 x_124 x_264 x_132 x_287 a2 x_140 x_310 a0 a1 x_3 x_7) 0
   )
  )
noncomputable def F.law31_CoseSpares_L19 (x_92 : List UInt8) (x_195 : List UInt8) (x_100 : List UInt8) (x_218 : List UInt8) (x_116 : List UInt8) (x_241 : List UInt8) (x_124 : List UInt8) (x_264 : List UInt8) (x_132 : List UInt8) (x_287 : List UInt8) (a2 : List UInt8) (x_140 : List UInt8) (x_310 : List UInt8) (a0 : List UInt8) (a1 : List UInt8) (x_3 : (List UInt8 × Nat)) (x_7 : (List UInt8 × Nat)) : Int → Option ((Int) ⊕ (Bool))
 | x_359 =>
  if (decide (x_359 < (x_195.length : Int))) = true then
  (
   if (decide (x_359 < (x_92.length : Int))) = true then
   (
    obind (getO x_92 (x_359 : Int)) fun x_365 =>
    if (x_365 != (UInt8.ofInt 62)) = true then
    (
     F.law31_CoseSpares_K4 x_359 true
    ) else (
     obind (getO x_195 (x_359 : Int)) fun x_367 =>
     if (x_367 != (UInt8.ofInt 62)) = true then
     (
      F.law31_CoseSpares_K4 x_359 true
     ) else (
      F.law31_CoseSpares_K4 x_359 false
     )
    )
   ) else (
    obind (getO x_195 (x_359 : Int)) fun x_369 =>
    F.law31_CoseSpares_K4 x_359 (x_369 != (UInt8.ofInt 82))
   )
  ) else (
   oinr (
    loop (F.law31_CoseSpares_L20 x_100 x_218 x_116 x_241 x_124 x_264 x_132 x_287 a2 x_140 x_310 a0 a1 x_3 x_7) 0
   )
  )
noncomputable def F.law31_CoseSpares_L18 (x_84 : List UInt8) (x_172 : List UInt8) (x_92 : List UInt8) (x_195 : List UInt8) (x_100 : List UInt8) (x_218 : List UInt8) (x_116 : List UInt8) (x_241 : List UInt8) (x_124 : List UInt8) (x_264 : List UInt8) (x_132 : List UInt8) (x_287 : List UInt8) (a2 : List UInt8) (x_140 : List UInt8) (x_310 : List UInt8) (a0 : List UInt8) (a1 : List UInt8) (x_3 : (List UInt8 × Nat)) (x_7 : (List UInt8 × Nat)) : Int → Option ((Int) ⊕ (Bool))
 | x_345 =>
  if (decide (x_345 < (x_172.length : Int))) = true then
  (
   if (decide (x_345 < (x_84.length : Int))) = true then
   (
    obind (getO x_84 (x_345 : Int)) fun x_351 =>
    if (x_351 != (UInt8.ofInt 61)) = true then
    (
     F.law31_CoseSpares_K3 x_345 true
    ) else (
     obind (getO x_172 (x_345 : Int)) fun x_353 =>
     if (x_353 != (UInt8.ofInt 61)) = true then
     (
      F.law31_CoseSpares_K3 x_345 true
     ) else (
      F.law31_CoseSpares_K3 x_345 false
     )
    )
   ) else (
    obind (getO x_172 (x_345 : Int)) fun x_355 =>
    F.law31_CoseSpares_K3 x_345 (x_355 != (UInt8.ofInt 81))
   )
  ) else (
   oinr (
    loop (F.law31_CoseSpares_L19 x_92 x_195 x_100 x_218 x_116 x_241 x_124 x_264 x_132 x_287 a2 x_140 x_310 a0 a1 x_3 x_7) 0
   )
  )
noncomputable def F.law31_CoseSpares_L17 (x_76 : List UInt8) (x_149 : List UInt8) (x_84 : List UInt8) (x_172 : List UInt8) (x_92 : List UInt8) (x_195 : List UInt8) (x_100 : List UInt8) (x_218 : List UInt8) (x_116 : List UInt8) (x_241 : List UInt8) (x_124 : List UInt8) (x_264 : List UInt8) (x_132 : List UInt8) (x_287 : List UInt8) (a2 : List UInt8) (x_140 : List UInt8) (x_310 : List UInt8) (a0 : List UInt8) (a1 : List UInt8) (x_3 : (List UInt8 × Nat)) (x_7 : (List UInt8 × Nat)) : Int → Option ((Int) ⊕ (Bool))
 | x_331 =>
  if (decide (x_331 < (x_149.length : Int))) = true then
  (
   if (decide (x_331 < (x_76.length : Int))) = true then
   (
    obind (getO x_76 (x_331 : Int)) fun x_337 =>
    if (x_337 != (UInt8.ofInt 60)) = true then
    (
     F.law31_CoseSpares_K2 x_331 true
    ) else (
     obind (getO x_149 (x_331 : Int)) fun x_339 =>
     if (x_339 != (UInt8.ofInt 60)) = true then
     (
      F.law31_CoseSpares_K2 x_331 true
     ) else (
      F.law31_CoseSpares_K2 x_331 false
     )
    )
   ) else (
    obind (getO x_149 (x_331 : Int)) fun x_341 =>
    F.law31_CoseSpares_K2 x_331 (x_341 != (UInt8.ofInt 80))
   )
  ) else (
   oinr (
    loop (F.law31_CoseSpares_L18 x_84 x_172 x_92 x_195 x_100 x_218 x_116 x_241 x_124 x_264 x_132 x_287 a2 x_140 x_310 a0 a1 x_3 x_7) 0
   )
  )
noncomputable def F.law31_CoseSpares_L16 (x_76 : List UInt8) (x_149 : List UInt8) (x_84 : List UInt8) (x_172 : List UInt8) (x_92 : List UInt8) (x_195 : List UInt8) (x_100 : List UInt8) (x_218 : List UInt8) (x_116 : List UInt8) (x_241 : List UInt8) (x_124 : List UInt8) (x_264 : List UInt8) (x_132 : List UInt8) (x_287 : List UInt8) (a2 : List UInt8) (x_140 : List UInt8) (a0 : List UInt8) (a1 : List UInt8) (x_3 : (List UInt8 × Nat)) (x_7 : (List UInt8 × Nat)) : List UInt8 × Int → Option ((List UInt8 × Int) ⊕ (Bool))
 | (x_310, x_313) =>
  if (decide (x_313 < 70)) = true then
  (
   obind (apO 1 x_310 [UInt8.ofInt 87]) fun x_322 =>
   oinl (x_322, wI (x_313 + 1))
  ) else (
   oinr (
    loop (F.law31_CoseSpares_L17 x_76 x_149 x_84 x_172 x_92 x_195 x_100 x_218 x_116 x_241 x_124 x_264 x_132 x_287 a2 x_140 x_310 a0 a1 x_3 x_7) 0
   )
  )
noncomputable def F.law31_CoseSpares_L15 (x_140 : List UInt8) (x_76 : List UInt8) (x_149 : List UInt8) (x_84 : List UInt8) (x_172 : List UInt8) (x_92 : List UInt8) (x_195 : List UInt8) (x_100 : List UInt8) (x_218 : List UInt8) (x_116 : List UInt8) (x_241 : List UInt8) (x_124 : List UInt8) (x_264 : List UInt8) (x_132 : List UInt8) (a2 : List UInt8) (a0 : List UInt8) (a1 : List UInt8) (x_3 : (List UInt8 × Nat)) (x_7 : (List UInt8 × Nat)) : List UInt8 × Int → Option ((List UInt8 × Int) ⊕ (Bool))
 | (x_287, x_290) =>
  if (decide (x_290 < 70)) = true then
  (
   obind (apO 1 x_287 [UInt8.ofInt 86]) fun x_299 =>
   oinl (x_299, wI (x_290 + 1))
  ) else (
   oinr (
    loop (F.law31_CoseSpares_L16 x_76 x_149 x_84 x_172 x_92 x_195 x_100 x_218 x_116 x_241 x_124 x_264 x_132 x_287 a2 x_140 a0 a1 x_3 x_7) (x_140, 0)
   )
  )
noncomputable def F.law31_CoseSpares_L14 (x_132 : List UInt8) (x_140 : List UInt8) (x_76 : List UInt8) (x_149 : List UInt8) (x_84 : List UInt8) (x_172 : List UInt8) (x_92 : List UInt8) (x_195 : List UInt8) (x_100 : List UInt8) (x_218 : List UInt8) (x_116 : List UInt8) (x_241 : List UInt8) (x_124 : List UInt8) (a2 : List UInt8) (a0 : List UInt8) (a1 : List UInt8) (x_3 : (List UInt8 × Nat)) (x_7 : (List UInt8 × Nat)) : List UInt8 × Int → Option ((List UInt8 × Int) ⊕ (Bool))
 | (x_264, x_267) =>
  if (decide (x_267 < 70)) = true then
  (
   obind (apO 1 x_264 [UInt8.ofInt 85]) fun x_276 =>
   oinl (x_276, wI (x_267 + 1))
  ) else (
   oinr (
    loop (F.law31_CoseSpares_L15 x_140 x_76 x_149 x_84 x_172 x_92 x_195 x_100 x_218 x_116 x_241 x_124 x_264 x_132 a2 a0 a1 x_3 x_7) (x_132, 0)
   )
  )
noncomputable def F.law31_CoseSpares_L13 (x_124 : List UInt8) (x_132 : List UInt8) (x_140 : List UInt8) (x_76 : List UInt8) (x_149 : List UInt8) (x_84 : List UInt8) (x_172 : List UInt8) (x_92 : List UInt8) (x_195 : List UInt8) (x_100 : List UInt8) (x_218 : List UInt8) (x_116 : List UInt8) (a2 : List UInt8) (a0 : List UInt8) (a1 : List UInt8) (x_3 : (List UInt8 × Nat)) (x_7 : (List UInt8 × Nat)) : List UInt8 × Int → Option ((List UInt8 × Int) ⊕ (Bool))
 | (x_241, x_244) =>
  if (decide (x_244 < 70)) = true then
  (
   obind (apO 1 x_241 [UInt8.ofInt 84]) fun x_253 =>
   oinl (x_253, wI (x_244 + 1))
  ) else (
   oinr (
    loop (F.law31_CoseSpares_L14 x_132 x_140 x_76 x_149 x_84 x_172 x_92 x_195 x_100 x_218 x_116 x_241 x_124 a2 a0 a1 x_3 x_7) (x_124, 0)
   )
  )
noncomputable def F.law31_CoseSpares_L12 (x_116 : List UInt8) (x_124 : List UInt8) (x_132 : List UInt8) (x_140 : List UInt8) (x_76 : List UInt8) (x_149 : List UInt8) (x_84 : List UInt8) (x_172 : List UInt8) (x_92 : List UInt8) (x_195 : List UInt8) (x_100 : List UInt8) (a2 : List UInt8) (a0 : List UInt8) (a1 : List UInt8) (x_3 : (List UInt8 × Nat)) (x_7 : (List UInt8 × Nat)) : List UInt8 × Int → Option ((List UInt8 × Int) ⊕ (Bool))
 | (x_218, x_221) =>
  if (decide (x_221 < 70)) = true then
  (
   obind (apO 1 x_218 [UInt8.ofInt 83]) fun x_230 =>
   oinl (x_230, wI (x_221 + 1))
  ) else (
   oinr (
    loop (F.law31_CoseSpares_L13 x_124 x_132 x_140 x_76 x_149 x_84 x_172 x_92 x_195 x_100 x_218 x_116 a2 a0 a1 x_3 x_7) (x_116, 0)
   )
  )
noncomputable def F.law31_CoseSpares_L11 (x_100 : List UInt8) (x_116 : List UInt8) (x_124 : List UInt8) (x_132 : List UInt8) (x_140 : List UInt8) (x_76 : List UInt8) (x_149 : List UInt8) (x_84 : List UInt8) (x_172 : List UInt8) (x_92 : List UInt8) (a2 : List UInt8) (a0 : List UInt8) (a1 : List UInt8) (x_3 : (List UInt8 × Nat)) (x_7 : (List UInt8 × Nat)) : List UInt8 × Int → Option ((List UInt8 × Int) ⊕ (Bool))
 | (x_195, x_198) =>
  if (decide (x_198 < 70)) = true then
  (
   obind (apO 1 x_195 [UInt8.ofInt 82]) fun x_207 =>
   oinl (x_207, wI (x_198 + 1))
  ) else (
   oinr (
    loop (F.law31_CoseSpares_L12 x_116 x_124 x_132 x_140 x_76 x_149 x_84 x_172 x_92 x_195 x_100 a2 a0 a1 x_3 x_7) (x_100, 0)
   )
  )
noncomputable def F.law31_CoseSpares_L10 (x_92 : List UInt8) (x_100 : List UInt8) (x_116 : List UInt8) (x_124 : List UInt8) (x_132 : List UInt8) (x_140 : List UInt8) (x_76 : List UInt8) (x_149 : List UInt8) (x_84 : List UInt8) (a2 : List UInt8) (a0 : List UInt8) (a1 : List UInt8) (x_3 : (List UInt8 × Nat)) (x_7 : (List UInt8 × Nat)) : List UInt8 × Int → Option ((List UInt8 × Int) ⊕ (Bool))
 | (x_172, x_175) =>
  if (decide (x_175 < 70)) = true then
  (
   obind (apO 1 x_172 [UInt8.ofInt 81]) fun x_184 =>
   oinl (x_184, wI (x_175 + 1))
  ) else (
   oinr (
    loop (F.law31_CoseSpares_L11 x_100 x_116 x_124 x_132 x_140 x_76 x_149 x_84 x_172 x_92 a2 a0 a1 x_3 x_7) (x_92, 0)
   )
  )
noncomputable def F.law31_CoseSpares_L9 (x_84 : List UInt8) (x_92 : List UInt8) (x_100 : List UInt8) (x_116 : List UInt8) (x_124 : List UInt8) (x_132 : List UInt8) (x_140 : List UInt8) (x_76 : List UInt8) (a2 : List UInt8) (a0 : List UInt8) (a1 : List UInt8) (x_3 : (List UInt8 × Nat)) (x_7 : (List UInt8 × Nat)) : List UInt8 × Int → Option ((List UInt8 × Int) ⊕ (Bool))
 | (x_149, x_152) =>
  if (decide (x_152 < 70)) = true then
  (
   obind (apO 1 x_149 [UInt8.ofInt 80]) fun x_161 =>
   oinl (x_161, wI (x_152 + 1))
  ) else (
   oinr (
    loop (F.law31_CoseSpares_L10 x_92 x_100 x_116 x_124 x_132 x_140 x_76 x_149 x_84 a2 a0 a1 x_3 x_7) (x_84, 0)
   )
  )
noncomputable def F.law31_CoseSpares_L8 (x_76 : List UInt8) (x_84 : List UInt8) (x_92 : List UInt8) (x_100 : List UInt8) (x_116 : List UInt8) (x_124 : List UInt8) (x_132 : List UInt8) (a2 : List UInt8) (a0 : List UInt8) (a1 : List UInt8) (x_3 : (List UInt8 × Nat)) (x_7 : (List UInt8 × Nat)) : Int × List UInt8 → Option ((Int × List UInt8) ⊕ (Bool))
 | (x_139, x_140) =>
  if (decide (x_139 < (x_140.length : Int))) = true then
  (
   obind (getO x_140 (x_139 : Int)) fun x_145 =>
   olet (x_140.set (x_139 : Int).toNat (UInt8.ofInt 67)) fun x_146 =>
   oinl (wI (x_139 + 1), x_146)
  ) else (
   oinr (
    loop (F.law31_CoseSpares_L9 x_84 x_92 x_100 x_116 x_124 x_132 x_140 x_76 a2 a0 a1 x_3 x_7) (x_76, 0)
   )
  )
noncomputable def F.law31_CoseSpares_L7 (x_20 : Int × List UInt8 × List UInt8 × List UInt8 × List UInt8 × Int) (x_76 : List UInt8) (x_84 : List UInt8) (x_92 : List UInt8) (x_100 : List UInt8) (x_116 : List UInt8) (x_124 : List UInt8) (a2 : List UInt8) (a0 : List UInt8) (a1 : List UInt8) (x_3 : (List UInt8 × Nat)) (x_7 : (List UInt8 × Nat)) : Int × List UInt8 → Option ((Int × List UInt8) ⊕ (Bool))
 | (x_131, x_132) =>
  if (decide (x_131 < (x_132.length : Int))) = true then
  (
   obind (getO x_132 (x_131 : Int)) fun x_137 =>
   olet (x_132.set (x_131 : Int).toNat (UInt8.ofInt 66)) fun x_138 =>
   oinl (wI (x_131 + 1), x_138)
  ) else (
   oinr (
    loop (F.law31_CoseSpares_L8 x_76 x_84 x_92 x_100 x_116 x_124 x_132 a2 a0 a1 x_3 x_7) (0, x_20.2.2.2.2.1)
   )
  )
noncomputable def F.law31_CoseSpares_L6 (x_20 : Int × List UInt8 × List UInt8 × List UInt8 × List UInt8 × Int) (x_76 : List UInt8) (x_84 : List UInt8) (x_92 : List UInt8) (x_100 : List UInt8) (x_116 : List UInt8) (a2 : List UInt8) (a0 : List UInt8) (a1 : List UInt8) (x_3 : (List UInt8 × Nat)) (x_7 : (List UInt8 × Nat)) : Int × List UInt8 → Option ((Int × List UInt8) ⊕ (Bool))
 | (x_123, x_124) =>
  if (decide (x_123 < (x_124.length : Int))) = true then
  (
   obind (getO x_124 (x_123 : Int)) fun x_129 =>
   olet (x_124.set (x_123 : Int).toNat (UInt8.ofInt 65)) fun x_130 =>
   oinl (wI (x_123 + 1), x_130)
  ) else (
   oinr (
    loop (F.law31_CoseSpares_L7 x_20 x_76 x_84 x_92 x_100 x_116 x_124 a2 a0 a1 x_3 x_7) (0, x_20.2.2.2.1)
   )
  )
noncomputable def F.law31_CoseSpares_L5 (x_20 : Int × List UInt8 × List UInt8 × List UInt8 × List UInt8 × Int) (x_76 : List UInt8) (x_84 : List UInt8) (x_92 : List UInt8) (x_100 : List UInt8) (a2 : List UInt8) (a0 : List UInt8) (a1 : List UInt8) (x_3 : (List UInt8 × Nat)) (x_7 : (List UInt8 × Nat)) : Int × List UInt8 → Option ((Int × List UInt8) ⊕ (Bool))
 | (x_115, x_116) =>
  if (decide (x_115 < (x_116.length : Int))) = true then
  (
   obind (getO x_116 (x_115 : Int)) fun x_121 =>
   olet (x_116.set (x_115 : Int).toNat (UInt8.ofInt 64)) fun x_122 =>
   oinl (wI (x_115 + 1), x_122)
  ) else (
   oinr (
    loop (F.law31_CoseSpares_L6 x_20 x_76 x_84 x_92 x_100 x_116 a2 a0 a1 x_3 x_7) (0, x_20.2.2.1)
   )
  )
noncomputable def F.law31_CoseSpares_L4 (x_20 : Int × List UInt8 × List UInt8 × List UInt8 × List UInt8 × Int) (x_43 : (List UInt8 × Nat)) (x_51 : (List UInt8 × Nat)) (x_59 : (List UInt8 × Nat)) (x_67 : (List UInt8 × Nat)) (x_76 : List UInt8) (x_84 : List UInt8) (x_92 : List UInt8) (a2 : List UInt8) (a0 : List UInt8) (a1 : List UInt8) (x_3 : (List UInt8 × Nat)) (x_7 : (List UInt8 × Nat)) : Int × List UInt8 → Option ((Int × List UInt8) ⊕ (Bool))
 | (x_99, x_100) =>
  if (decide (x_99 < (x_100.length : Int))) = true then
  (
   obind (getO x_100 (x_99 : Int)) fun x_105 =>
   olet (x_100.set (x_99 : Int).toNat (UInt8.ofInt 63)) fun x_106 =>
   oinl (wI (x_99 + 1), x_106)
  ) else (
   oinr (
    obind (F.law31_same x_20.2.1 (x_43.1.take x_43.2)) fun x_107 =>
    if (!x_107) = true then
    (
     some false
    ) else (
     obind (F.law31_same x_20.2.2.1 (x_51.1.take x_51.2)) fun x_109 =>
     if (!x_109) = true then
     (
      some false
     ) else (
      obind (F.law31_same x_20.2.2.2.1 (x_59.1.take x_59.2)) fun x_111 =>
      if (!x_111) = true then
      (
       some false
      ) else (
       obind (F.law31_same x_20.2.2.2.2.1 (x_67.1.take x_67.2)) fun x_113 =>
       if (!x_113) = true then
       (
        some false
       ) else (
        loop (F.law31_CoseSpares_L5 x_20 x_76 x_84 x_92 x_100 a2 a0 a1 x_3 x_7) (0, x_20.2.1)
       )
      )
     )
    )
   )
  )
noncomputable def F.law31_CoseSpares_L3 (x_11 : Int × List UInt8 × List UInt8 × List UInt8 × List UInt8 × Int) (x_20 : Int × List UInt8 × List UInt8 × List UInt8 × List UInt8 × Int) (x_43 : (List UInt8 × Nat)) (x_51 : (List UInt8 × Nat)) (x_59 : (List UInt8 × Nat)) (x_67 : (List UInt8 × Nat)) (x_76 : List UInt8) (x_84 : List UInt8) (a2 : List UInt8) (a0 : List UInt8) (a1 : List UInt8) (x_3 : (List UInt8 × Nat)) (x_7 : (List UInt8 × Nat)) : Int × List UInt8 → Option ((Int × List UInt8) ⊕ (Bool))
 | (x_91, x_92) =>
  if (decide (x_91 < (x_92.length : Int))) = true then
  (
   obind (getO x_92 (x_91 : Int)) fun x_97 =>
   olet (x_92.set (x_91 : Int).toNat (UInt8.ofInt 62)) fun x_98 =>
   oinl (wI (x_91 + 1), x_98)
  ) else (
   oinr (
    loop (F.law31_CoseSpares_L4 x_20 x_43 x_51 x_59 x_67 x_76 x_84 x_92 a2 a0 a1 x_3 x_7) (0, x_11.2.2.2.2.1)
   )
  )
noncomputable def F.law31_CoseSpares_L2 (x_11 : Int × List UInt8 × List UInt8 × List UInt8 × List UInt8 × Int) (x_20 : Int × List UInt8 × List UInt8 × List UInt8 × List UInt8 × Int) (x_43 : (List UInt8 × Nat)) (x_51 : (List UInt8 × Nat)) (x_59 : (List UInt8 × Nat)) (x_67 : (List UInt8 × Nat)) (x_76 : List UInt8) (a2 : List UInt8) (a0 : List UInt8) (a1 : List UInt8) (x_3 : (List UInt8 × Nat)) (x_7 : (List UInt8 × Nat)) : Int × List UInt8 → Option ((Int × List UInt8) ⊕ (Bool))
 | (x_83, x_84) =>
  if (decide (x_83 < (x_84.length : Int))) = true then
  (
   obind (getO x_84 (x_83 : Int)) fun x_89 =>
   olet (x_84.set (x_83 : Int).toNat (UInt8.ofInt 61)) fun x_90 =>
   oinl (wI (x_83 + 1), x_90)
  ) else (
   oinr (
    loop (F.law31_CoseSpares_L3 x_11 x_20 x_43 x_51 x_59 x_67 x_76 x_84 a2 a0 a1 x_3 x_7) (0, x_11.2.2.2.1)
   )
  )
noncomputable def F.law31_CoseSpares_L1 (x_11 : Int × List UInt8 × List UInt8 × List UInt8 × List UInt8 × Int) (x_20 : Int × List UInt8 × List UInt8 × List UInt8 × List UInt8 × Int) (x_43 : (List UInt8 × Nat)) (x_51 : (List UInt8 × Nat)) (x_59 : (List UInt8 × Nat)) (x_67 : (List UInt8 × Nat)) (a2 : List UInt8) (a0 : List UInt8) (a1 : List UInt8) (x_3 : (List UInt8 × Nat)) (x_7 : (List UInt8 × Nat)) : Int × List UInt8 → Option ((Int × List UInt8) ⊕ (Bool))
 | (x_75, x_76) =>
  if (decide (x_75 < (x_76.length : Int))) = true then
  (
   obind (getO x_76 (x_75 : Int)) fun x_81 =>
   olet (x_76.set (x_75 : Int).toNat (UInt8.ofInt 60)) fun x_82 =>
   oinl (wI (x_75 + 1), x_82)
  ) else (
   oinr (
    loop (F.law31_CoseSpares_L2 x_11 x_20 x_43 x_51 x_59 x_67 x_76 a2 a0 a1 x_3 x_7) (0, x_11.2.2.1)
   )
  )
noncomputable def F.law31_CoseSpares_K1 (x_11 : Int × List UInt8 × List UInt8 × List UInt8 × List UInt8 × Int) (x_20 : Int × List UInt8 × List UInt8 × List UInt8 × List UInt8 × Int) (a2 : List UInt8) (a0 : List UInt8) (a1 : List UInt8) (x_3 : (List UInt8 × Nat)) (x_7 : (List UInt8 × Nat)) : Bool → Option (Bool)
 | x_38 =>
  if x_38 = true then
  (
   some false
  ) else (
   obind (F.law31_roomy x_11.2.1) fun x_43 =>
   obind (F.law31_roomy x_11.2.2.1) fun x_51 =>
   obind (F.law31_roomy x_11.2.2.2.1) fun x_59 =>
   obind (F.law31_roomy x_11.2.2.2.2.1) fun x_67 =>
   loop (F.law31_CoseSpares_L1 x_11 x_20 x_43 x_51 x_59 x_67 a2 a0 a1 x_3 x_7) (0, x_11.2.1)
  )
noncomputable def F.law31_CoseSpares (a0 : List UInt8) (a1 : List UInt8) (a2 : List UInt8) : Option (Bool) :=
 obind (F.law31_awake ) fun x_1 =>
 if (!x_1) = true then
 (
  some false
 ) else (
  obind (F.law31_roomy a0) fun x_3 =>
  obind (F.law31_roomy a1) fun x_7 =>
  obind (F.cose_Parse (x_3.1.take x_3.2) (x_7.1.take x_7.2)) fun x_11 =>
  obind (F.cose_Parse (x_3.1.take x_3.2) (x_7.1.take x_7.2)) fun x_20 =>
  if (x_11.1 != x_20.1) = true then
  (
   F.law31_CoseSpares_K1 x_11 x_20 a2 a0 a1 x_3 x_7 true
  ) else (
   if (x_11.2.2.2.2.2 != x_20.2.2.2.2.2) = true then
   (
    F.law31_CoseSpares_K1 x_11 x_20 a2 a0 a1 x_3 x_7 true
   ) else (
    obind (F.law31_same x_11.2.1 x_20.2.1) fun x_31 =>
    if (!x_31) = true then
    (
     F.law31_CoseSpares_K1 x_11 x_20 a2 a0 a1 x_3 x_7 true
    ) else (
     obind (F.law31_same x_11.2.2.1 x_20.2.2.1) fun x_33 =>
     if (!x_33) = true then
     (
      F.law31_CoseSpares_K1 x_11 x_20 a2 a0 a1 x_3 x_7 true
     ) else (
      obind (F.law31_same x_11.2.2.2.1 x_20.2.2.2.1) fun x_35 =>
      if (!x_35) = true then
      (
       F.law31_CoseSpares_K1 x_11 x_20 a2 a0 a1 x_3 x_7 true
      ) else (
       obind (F.law31_same x_11.2.2.2.2.1 x_20.2.2.2.2.1) fun x_37 =>
       F.law31_CoseSpares_K1 x_11 x_20 a2 a0 a1 x_3 x_7 (!x_37)
      )
     )
    )
   )
  )
 )
end Go.Gk
