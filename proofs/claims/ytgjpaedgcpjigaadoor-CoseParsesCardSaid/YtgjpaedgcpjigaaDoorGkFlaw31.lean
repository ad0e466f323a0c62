import Derived.Test.YtgjpaedgcpjigaaDoorGkS
import Derived.Test.YtgjpaedgcpjigaaDoorGkFcbor
import Derived.Test.YtgjpaedgcpjigaaDoorGkFcose
import Derived.Test.YtgjpaedgcpjigaaDoorGkFref31
set_option linter.unusedVariables false
set_option linter.unusedSimpArgs false
set_option linter.unusedVariables false
namespace Go.Gk
noncomputable def F.law31_sameTexts_L1 (a0 : List (List UInt8)) (a1 : List (List UInt8)) : Int → Option ((Int) ⊕ (Bool))
 | x_1 =>
  if (decide (x_1 < (a0.length : Int))) = true then
  (
   obind (getO a0 (x_1 : Int)) fun x_5 =>
   obind (getO a1 (x_1 : Int)) fun x_6 =>
   if (x_5 != x_6) = true then
   (
    oinr (
     some false
    )
   ) else (
    oinl (wI (x_1 + 1))
   )
  ) else (
   oinr (
    some true
   )
  )
noncomputable def F.law31_sameTexts (a0 : List (List UInt8)) (a1 : List (List UInt8)) : Option (Bool) :=
 if ((a0.length : Int) != (a1.length : Int)) = true then
 (
  some false
 ) else (
  loop (F.law31_sameTexts_L1 a0 a1) 0
 )
noncomputable def F.law31_same_L1 (a0 : List UInt8) (a1 : List UInt8) : Int → Option ((Int) ⊕ (Bool))
 | x_1 =>
  if (decide (x_1 < (a0.length : Int))) = true then
  (
   obind (getO a0 (x_1 : Int)) fun x_5 =>
   obind (getO a1 (x_1 : Int)) fun x_6 =>
   if (x_5 != x_6) = true then
   (
    oinr (
     some false
    )
   ) else (
    oinl (wI (x_1 + 1))
   )
  ) else (
   oinr (
    some true
   )
  )
noncomputable def F.law31_same (a0 : List UInt8) (a1 : List UInt8) : Option (Bool) :=
 if ((a0.length : Int) != (a1.length : Int)) = true then
 (
  some false
 ) else (
  loop (F.law31_same_L1 a0 a1) 0
 )
noncomputable def F.law31_spared_L1 (a0 : List UInt8) (k0 : Nat) (a1 : List UInt8) : Int → Option ((Int) ⊕ (Bool))
 | x_2 =>
  if (decide (x_2 < ((a0.take ((wI ((a1.length : Int) + 9) : Int).toNat)).length : Int))) = true then
  (
   obind (getO (a0.take ((wI ((a1.length : Int) + 9) : Int).toNat)) (x_2 : Int)) fun x_6 =>
   if (x_6 != 165) = true then
   (
    oinr (
     some false
    )
   ) else (
    oinl (wI (x_2 + 1))
   )
  ) else (
   oinr (
    obind (F.law31_same (a0.take k0) a1) fun x_8 =>
    some x_8
   )
  )
noncomputable def F.law31_spared (a0 : List UInt8) (k0 : Nat) (a1 : List UInt8) : Option (Bool) :=
 grd (0 ≤ (wI ((a1.length : Int) + 9) : Int) ∧ (wI ((a1.length : Int) + 9) : Int).toNat ≤ a0.length) <|
 loop (F.law31_spared_L1 a0 k0 a1) (a1.length : Int)
noncomputable def F.law31_roomy_L1 (a0 : List UInt8) : List UInt8 × Int → Option ((List UInt8 × Int) ⊕ ((List UInt8 × Nat)))
 | (x_4, x_7) =>
  if (decide (x_7 < 9)) = true then
  (
   obind (apO 1 x_4 [165]) fun x_13 =>
   oinl (x_13, wI (x_7 + 1))
  ) else (
   oinr (
    grd (0 ≤ ((a0.length : Int) : Int) ∧ ((a0.length : Int) : Int).toNat ≤ x_4.length) <|
    some (x_4, ((a0.length : Int) : Int).toNat)
   )
  )
noncomputable def F.law31_roomy (a0 : List UInt8) : Option ((List UInt8 × Nat)) :=
 obind (apO 1 [] a0) fun x_1 =>
 loop (F.law31_roomy_L1 a0) (x_1, 0)
noncomputable def F.law31_sameClaims (a0_0 : List (Int × (List UInt8) × (List UInt8) × Bool × Int × Int)) (a0_1 : List UInt8) (a0_2 : Bool) (a0_3 : List UInt8) (a0_4 : Bool) (a0_5 : List (List UInt8)) (a0_6 : Bool) (a0_7 : List UInt8) (a0_8 : Bool) (a0_9 : Bool) (a0_10 : Int) (a0_11 : Bool) (a0_12 : Int) (a0_13 : Bool) (a0_14 : Int) (a1_0 : List (Int × (List UInt8) × (List UInt8) × Bool × Int × Int)) (a1_1 : List UInt8) (a1_2 : Bool) (a1_3 : List UInt8) (a1_4 : Bool) (a1_5 : List (List UInt8)) (a1_6 : Bool) (a1_7 : List UInt8) (a1_8 : Bool) (a1_9 : Bool) (a1_10 : Int) (a1_11 : Bool) (a1_12 : Int) (a1_13 : Bool) (a1_14 : Int) : Option (Bool) :=
 if (a0_1 == a1_1) = true then
 (
  if (a0_2 == a1_2) = true then
  (
   if (a0_3 == a1_3) = true then
   (
    if (a0_4 == a1_4) = true then
    (
     obind (F.law31_sameTexts a0_5 a1_5) fun x_9 =>
     if x_9 = true then
     (
      if (a0_6 == a1_6) = true then
      (
       if (a0_7 == a1_7) = true then
       (
        if (a0_8 == a1_8) = true then
        (
         if ((a0_9, a0_10) == (a1_9, a1_10)) = true then
         (
          if ((a0_11, a0_12) == (a1_11, a1_12)) = true then
          (
           if ((a0_13, a0_14) == (a1_13, a1_14)) = true then
           (
            if ((a0_0.length : Int) == 0) = true then
            (
             some ((a1_0.length : Int) == 0)
            ) else (
             some false
            )
           ) else (
            some false
           )
          ) else (
           some false
          )
         ) else (
          some false
         )
        ) else (
         some false
        )
       ) else (
        some false
       )
      ) else (
       some false
      )
     ) else (
      some false
     )
    ) else (
     some false
    )
   ) else (
    some false
   )
  ) else (
   some false
  )
 ) else (
  some false
 )
noncomputable def F.law31_CoseClaims_K2 (x_1 : (List UInt8 × Nat)) : List UInt8 → Option (Bool)
 | x_31 =>
  obind (F.ref31_Claims (x_31.take x_1.2)) fun x_34 =>
  olet (x_34.2.2.2.2.2.2.2.2.2.2.2.2.2.2.2) fun x_39 =>
  obind (F.cose_Claims (x_31.take x_1.2)) fun x_40 =>
  olet (x_40.2.2.2.2.2.2.2.2.2.2.2.2.2.2.2) fun x_45 =>
  if (x_45 == x_39) = true then
  (
   obind (F.law31_sameClaims x_40.1 x_40.2.1 x_40.2.2.1 x_40.2.2.2.1 x_40.2.2.2.2.1 x_40.2.2.2.2.2.1 x_40.2.2.2.2.2.2.1 x_40.2.2.2.2.2.2.2.1 x_40.2.2.2.2.2.2.2.2.1 x_40.2.2.2.2.2.2.2.2.2.1 x_40.2.2.2.2.2.2.2.2.2.2.1 x_40.2.2.2.2.2.2.2.2.2.2.2.1 x_40.2.2.2.2.2.2.2.2.2.2.2.2.1 x_40.2.2.2.2.2.2.2.2.2.2.2.2.2.1 x_40.2.2.2.2.2.2.2.2.2.2.2.2.2.2.1 x_34.1 x_34.2.1 x_34.2.2.1 x_34.2.2.2.1 x_34.2.2.2.2.1 x_34.2.2.2.2.2.1 x_34.2.2.2.2.2.2.1 x_34.2.2.2.2.2.2.2.1 x_34.2.2.2.2.2.2.2.2.1 x_34.2.2.2.2.2.2.2.2.2.1 x_34.2.2.2.2.2.2.2.2.2.2.1 x_34.2.2.2.2.2.2.2.2.2.2.2.1 x_34.2.2.2.2.2.2.2.2.2.2.2.2.1 x_34.2.2.2.2.2.2.2.2.2.2.2.2.2.1 x_34.2.2.2.2.2.2.2.2.2.2.2.2.2.2.1) fun x_47 =>
   some x_47
  ) else (
   some false
  )
noncomputable def F.law31_CoseClaims_K1 (x_1 : (List UInt8 × Nat)) : Bool → Option (Bool)
 | x_25 =>
  if x_25 = true then
  (
   some false
  ) else (
   if (decide ((0 : Int) < ((x_1.1.take x_1.2).length : Int))) = true then
   (
    obind (getO (x_1.1.take x_1.2) (wI (Int.tdiv ((x_1.1.take x_1.2).length : Int) 2) : Int)) fun x_27 =>
    obind (getO (x_1.1.take x_1.2) (wI (Int.tdiv ((x_1.1.take x_1.2).length : Int) 2) : Int)) fun x_28 =>
    olet (x_1.1.set (wI (Int.tdiv ((x_1.1.take x_1.2).length : Int) 2) : Int).toNat (x_27 ^^^ 1)) fun x_29 =>
    F.law31_CoseClaims_K2 x_1 x_29
   ) else (
    F.law31_CoseClaims_K2 x_1 x_1.1
   )
  )
noncomputable def F.law31_CoseClaims (a0 : List UInt8) : Option (Bool) :=
 obind (F.law31_roomy a0) fun x_1 =>
 obind (F.cose_Claims (x_1.1.take x_1.2)) fun x_5 =>
 olet (x_5.2.2.2.2.2.2.2.2.2.2.2.2.2.2.2) fun x_12 =>
 obind (F.ref31_Claims a0) fun x_13 =>
 olet (x_13.2.2.2.2.2.2.2.2.2.2.2.2.2.2.2) fun x_20 =>
 if (x_12 != x_20) = true then
 (
  F.law31_CoseClaims_K1 x_1 true
 ) else (
  obind (F.law31_sameClaims x_5.1 x_5.2.1 x_5.2.2.1 x_5.2.2.2.1 x_5.2.2.2.2.1 x_5.2.2.2.2.2.1 x_5.2.2.2.2.2.2.1 x_5.2.2.2.2.2.2.2.1 x_5.2.2.2.2.2.2.2.2.1 x_5.2.2.2.2.2.2.2.2.2.1 x_5.2.2.2.2.2.2.2.2.2.2.1 x_5.2.2.2.2.2.2.2.2.2.2.2.1 x_5.2.2.2.2.2.2.2.2.2.2.2.2.1 x_5.2.2.2.2.2.2.2.2.2.2.2.2.2.1 x_5.2.2.2.2.2.2.2.2.2.2.2.2.2.2.1 x_13.1 x_13.2.1 x_13.2.2.1 x_13.2.2.2.1 x_13.2.2.2.2.1 x_13.2.2.2.2.2.1 x_13.2.2.2.2.2.2.1 x_13.2.2.2.2.2.2.2.1 x_13.2.2.2.2.2.2.2.2.1 x_13.2.2.2.2.2.2.2.2.2.1 x_13.2.2.2.2.2.2.2.2.2.2.1 x_13.2.2.2.2.2.2.2.2.2.2.2.1 x_13.2.2.2.2.2.2.2.2.2.2.2.2.1 x_13.2.2.2.2.2.2.2.2.2.2.2.2.2.1 x_13.2.2.2.2.2.2.2.2.2.2.2.2.2.2.1) fun x_22 =>
  if (!x_22) = true then
  (
   F.law31_CoseClaims_K1 x_1 true
  ) else (
   obind (F.law31_spared x_1.1 x_1.2 a0) fun x_24 =>
   F.law31_CoseClaims_K1 x_1 (!x_24)
  )
 )
noncomputable def F.law31_parses (a0 : List UInt8) (a1 : List UInt8) : Option (Bool) :=
 obind (F.ref31_Parse a0 a1) fun x_1 =>
 obind (F.cose_Parse a0 a1) fun x_10 =>
 if (x_10.1 == x_1.1) = true then
 (
  obind (F.law31_same x_10.2.1 x_1.2.1) fun x_20 =>
  if x_20 = true then
  (
   obind (F.law31_same x_10.2.2.1 x_1.2.2.1) fun x_22 =>
   if x_22 = true then
   (
    obind (F.law31_same x_10.2.2.2.1 x_1.2.2.2.1) fun x_24 =>
    if x_24 = true then
    (
     obind (F.law31_same x_10.2.2.2.2.1 x_1.2.2.2.2.1) fun x_26 =>
     if x_26 = true then
     (
      some (x_10.2.2.2.2.2 == x_1.2.2.2.2.2)
     ) else (
      some false
     )
    ) else (
     some false
    )
   ) else (
    some false
   )
  ) else (
   some false
  )
 ) else (
  some false
 )
noncomputable def F.law31_CoseParses_K3 (x_1 : (List UInt8 × Nat)) (x_5 : (List UInt8 × Nat)) (x_20 : List UInt8) : List UInt8 → Option (Bool)
 | x_27 =>
  obind (F.law31_parses (x_20.take x_1.2) (x_27.take x_5.2)) fun x_30 =>
  some x_30
noncomputable def F.law31_CoseParses_K2 (x_5 : (List UInt8 × Nat)) (x_1 : (List UInt8 × Nat)) : List UInt8 → Option (Bool)
 | x_20 =>
  if (decide ((0 : Int) < ((x_5.1.take x_5.2).length : Int))) = true then
  (
   obind (getO (x_5.1.take x_5.2) (0 : Int)) fun x_23 =>
   obind (getO (x_5.1.take x_5.2) (0 : Int)) fun x_24 =>
   olet (x_5.1.set (0 : Int).toNat (x_23 ^^^ 1)) fun x_25 =>
   F.law31_CoseParses_K3 x_1 x_5 x_20 x_25
  ) else (
   F.law31_CoseParses_K3 x_1 x_5 x_20 x_5.1
  )
noncomputable def F.law31_CoseParses_K1 (x_1 : (List UInt8 × Nat)) (x_5 : (List UInt8 × Nat)) : Bool → Option (Bool)
 | x_14 =>
  if x_14 = true then
  (
   some false
  ) else (
   if (decide ((0 : Int) < ((x_1.1.take x_1.2).length : Int))) = true then
   (
    obind (getO (x_1.1.take x_1.2) (wI (((x_1.1.take x_1.2).length : Int) - 1) : Int)) fun x_16 =>
    obind (getO (x_1.1.take x_1.2) (wI (((x_1.1.take x_1.2).length : Int) - 1) : Int)) fun x_17 =>
    olet (x_1.1.set (wI (((x_1.1.take x_1.2).length : Int) - 1) : Int).toNat (x_16 ^^^ 1)) fun x_18 =>
    F.law31_CoseParses_K2 x_5 x_1 x_18
   ) else (
    F.law31_CoseParses_K2 x_5 x_1 x_1.1
   )
  )
noncomputable def F.law31_CoseParses (a0 : List UInt8) (a1 : List UInt8) : Option (Bool) :=
 obind (F.law31_roomy a0) fun x_1 =>
 obind (F.law31_roomy a1) fun x_5 =>
 obind (F.law31_parses (x_1.1.take x_1.2) (x_5.1.take x_5.2)) fun x_9 =>
 if (!x_9) = true then
 (
  F.law31_CoseParses_K1 x_1 x_5 true
 ) else (
  obind (F.law31_spared x_1.1 x_1.2 a0) fun x_11 =>
  if (!x_11) = true then
  (
   F.law31_CoseParses_K1 x_1 x_5 true
  ) else (
   obind (F.law31_spared x_5.1 x_5.2 a1) fun x_13 =>
   F.law31_CoseParses_K1 x_1 x_5 (!x_13)
  )
 )
end Go.Gk
