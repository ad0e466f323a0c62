import Derived.Test.YtgjpaedgcpjigaaDoorGkS
set_option linter.unusedVariables false
set_option linter.unusedSimpArgs false
set_option linter.unusedVariables false
namespace Go.Gk
noncomputable def F.ref2_digit (a0 : List UInt8) (a1 : Int) : Option (Bool) :=
 if (decide (a1 < (a0.length : Int))) = true then
 (
  obind (getO a0 (a1 : Int)) fun x_2 =>
  if (decide ((48 : UInt8) ≤ x_2)) = true then
  (
   obind (getO a0 (a1 : Int)) fun x_4 =>
   some (decide (x_4 ≤ 57))
  ) else (
   some false
  )
 ) else (
  some false
 )
noncomputable def F.ref2_many_L1 (a0 : List UInt8) : Int → Option ((Int) ⊕ (Int))
 | x_1 =>
  obind (F.ref2_digit a0 x_1) fun x_5 =>
  if x_5 = true then
  (
   oinl (wI (x_1 + 1))
  ) else (
   oinr (
    some x_1
   )
  )
noncomputable def F.ref2_many (a0 : List UInt8) (a1 : Int) : Option (Int) :=
 loop (F.ref2_many_L1 a0) a1
noncomputable def F.ref2_Read_K5 (x_85 : Int) : List Int × Int → Option ((Int × List Int × Int) ⊕ (Bool × List Int × Int × Bool × List Int × Bool × List UInt8 × Bool))
 | (x_104, x_107) =>
  oinl (wI (x_85 + 1), x_104, x_107)
noncomputable def F.ref2_Read_K6 (x_86 : List Int) (x_89 : Int) (x_94 : Int) (x_85 : Int) : Bool → Option ((Int × List Int × Int) ⊕ (Bool × List Int × Int × Bool × List Int × Bool × List UInt8 × Bool))
 | x_96 =>
  if x_96 = true then
  (
   obind (apO 8 x_86 ([x_94] : List Int)) fun x_100 =>
   F.ref2_Read_K5 x_85 (x_100, x_89)
  ) else (
   F.ref2_Read_K5 x_85 (x_86, wI (x_89 - 1))
  )
noncomputable def F.ref2_Read_K7 (x_11 : Bool) (x_19 : List UInt8) (x_79 : Bool) (x_80 : List Int) (x_83 : Bool) (x_89 : Int) (x_109 : List Int) : Bool → Option ((List Int) ⊕ (Bool × List Int × Int × Bool × List Int × Bool × List UInt8 × Bool))
 | x_117 =>
  if x_117 = true then
  (
   grd (0 ≤ (wI ((x_109.length : Int) - 1) : Int) ∧ (wI ((x_109.length : Int) - 1) : Int).toNat ≤ x_109.length) <|
   oinl (x_109.take ((wI ((x_109.length : Int) - 1) : Int).toNat))
  ) else (
   oinr (
    some (x_11, x_109, x_89, x_79, x_80, x_83, x_19, true)
   )
  )
noncomputable def F.ref2_Read_L2 (x_11 : Bool) (x_19 : List UInt8) (x_79 : Bool) (x_80 : List Int) (x_83 : Bool) (x_89 : Int) : List Int → Option ((List Int) ⊕ (Bool × List Int × Int × Bool × List Int × Bool × List UInt8 × Bool))
 | x_109 =>
  if (decide ((0 : Int) < (x_109.length : Int))) = true then
  (
   obind (getO x_109 (wI ((x_109.length : Int) - 1) : Int)) fun x_116 =>
   F.ref2_Read_K7 x_11 x_19 x_79 x_80 x_83 x_89 x_109 (x_116 == 0)
  ) else (
   F.ref2_Read_K7 x_11 x_19 x_79 x_80 x_83 x_89 x_109 false
  )
noncomputable def F.ref2_Read_L1 (x_31 : List UInt8) (x_11 : Bool) (x_19 : List UInt8) (x_79 : Bool) (x_80 : List Int) (x_83 : Bool) : Int × List Int × Int → Option ((Int × List Int × Int) ⊕ (Bool × List Int × Int × Bool × List Int × Bool × List UInt8 × Bool))
 | (x_85, x_86, x_89) =>
  if (decide (x_85 < (x_31.length : Int))) = true then
  (
   obind (getO x_31 (x_85 : Int)) fun x_93 =>
   olet (((x_93 - 48).toNat : Int)) fun x_94 =>
   if (x_94 != 0) = true then
   (
    F.ref2_Read_K6 x_86 x_89 x_94 x_85 true
   ) else (
    F.ref2_Read_K6 x_86 x_89 x_94 x_85 (decide ((0 : Int) < (x_86.length : Int)))
   )
  ) else (
   oinr (
    loop (F.ref2_Read_L2 x_11 x_19 x_79 x_80 x_83 x_89) x_86
   )
  )
noncomputable def F.ref2_Read_K4 (a0 : List UInt8) (x_10 : Int) (x_11 : Bool) (x_13 : Int) (x_19 : List UInt8) (x_31 : List UInt8) : Int × Bool × List Int × Bool → Option (Bool × List Int × Int × Bool × List Int × Bool × List UInt8 × Bool)
 | (x_78, x_79, x_80, x_83) =>
  if (x_78 != (a0.length : Int)) = true then
  (
   some (x_11, [], wI (x_13 - x_10), x_79, x_80, x_83, x_19, false)
  ) else (
   loop (F.ref2_Read_L1 x_31 x_11 x_19 x_79 x_80 x_83) (0, [], wI (x_13 - x_10))
  )
noncomputable def F.ref2_Read_K10 (x_52 : Int) : List Int → Option ((Int × List Int) ⊕ (Bool × List Int × Int × Bool × List Int × Bool × List UInt8 × Bool))
 | x_70 =>
  oinl (wI (x_52 + 1), x_70)
noncomputable def F.ref2_Read_K11 (a0 : List UInt8) (x_52 : Int) (x_53 : List Int) : Bool → Option ((Int × List Int) ⊕ (Bool × List Int × Int × Bool × List Int × Bool × List UInt8 × Bool))
 | x_61 =>
  if x_61 = true then
  (
   obind (getO a0 (x_52 : Int)) fun x_63 =>
   obind (apO 8 x_53 ([((x_63 - 48).toNat : Int)] : List Int)) fun x_66 =>
   F.ref2_Read_K10 x_52 x_66
  ) else (
   F.ref2_Read_K10 x_52 x_53
  )
noncomputable def F.ref2_Read_L3 (a0 : List UInt8) (x_49 : Bool) (x_51 : Int) (x_10 : Int) (x_11 : Bool) (x_13 : Int) (x_19 : List UInt8) (x_31 : List UInt8) : Int × List Int → Option ((Int × List Int) ⊕ (Bool × List Int × Int × Bool × List Int × Bool × List UInt8 × Bool))
 | (x_52, x_53) =>
  if (decide (x_52 < x_51)) = true then
  (
   obind (getO a0 (x_52 : Int)) fun x_59 =>
   if (x_59 != 48) = true then
   (
    F.ref2_Read_K11 a0 x_52 x_53 true
   ) else (
    F.ref2_Read_K11 a0 x_52 x_53 (decide ((0 : Int) < (x_53.length : Int)))
   )
  ) else (
   oinr (
    F.ref2_Read_K4 a0 x_10 x_11 x_13 x_19 x_31 (x_51, x_49, x_53, false)
   )
  )
noncomputable def F.ref2_Read_K9 (a0 : List UInt8) (x_10 : Int) (x_11 : Bool) (x_13 : Int) (x_19 : List UInt8) (x_31 : List UInt8) : Int × Bool → Option (Bool × List Int × Int × Bool × List Int × Bool × List UInt8 × Bool)
 | (x_48, x_49) =>
  obind (F.ref2_many a0 x_48) fun x_51 =>
  if (x_51 == x_48) = true then
  (
   some (x_11, [], wI (x_13 - x_10), x_49, [], false, x_19, false)
  ) else (
   loop (F.ref2_Read_L3 a0 x_49 x_51 x_10 x_11 x_13 x_19 x_31) (x_48, [])
  )
noncomputable def F.ref2_Read_K12 (a0 : List UInt8) (x_30 : Int) (x_10 : Int) (x_11 : Bool) (x_13 : Int) (x_19 : List UInt8) (x_31 : List UInt8) : Bool → Option (Bool × List Int × Int × Bool × List Int × Bool × List UInt8 × Bool)
 | x_44 =>
  if x_44 = true then
  (
   obind (getO a0 (wI (x_30 + 1) : Int)) fun x_46 =>
   F.ref2_Read_K9 a0 x_10 x_11 x_13 x_19 x_31 (wI ((wI (x_30 + 1)) + 1), x_46 == 45)
  ) else (
   F.ref2_Read_K9 a0 x_10 x_11 x_13 x_19 x_31 (wI (x_30 + 1), false)
  )
noncomputable def F.ref2_Read_K8 (a0 : List UInt8) (x_30 : Int) (x_32 : Bool) (x_10 : Int) (x_11 : Bool) (x_13 : Int) (x_19 : List UInt8) (x_31 : List UInt8) : Bool → Option (Bool × List Int × Int × Bool × List Int × Bool × List UInt8 × Bool)
 | x_38 =>
  if x_38 = true then
  (
   if (decide ((wI (x_30 + 1)) < (a0.length : Int))) = true then
   (
    obind (getO a0 (wI (x_30 + 1) : Int)) fun x_41 =>
    if (x_41 == 43) = true then
    (
     F.ref2_Read_K12 a0 x_30 x_10 x_11 x_13 x_19 x_31 true
    ) else (
     obind (getO a0 (wI (x_30 + 1) : Int)) fun x_43 =>
     F.ref2_Read_K12 a0 x_30 x_10 x_11 x_13 x_19 x_31 (x_43 == 45)
    )
   ) else (
    F.ref2_Read_K12 a0 x_30 x_10 x_11 x_13 x_19 x_31 false
   )
  ) else (
   F.ref2_Read_K4 a0 x_10 x_11 x_13 x_19 x_31 (x_30, false, [], x_32)
  )
noncomputable def F.ref2_Read_K3 (a0 : List UInt8) (x_10 : Int) (x_11 : Bool) (x_13 : Int) (x_19 : List UInt8) : Int × List UInt8 × Bool → Option (Bool × List Int × Int × Bool × List Int × Bool × List UInt8 × Bool)
 | (x_30, x_31, x_32) =>
  if (decide (x_30 < (a0.length : Int))) = true then
  (
   obind (getO a0 (x_30 : Int)) fun x_35 =>
   if (x_35 == 101) = true then
   (
    F.ref2_Read_K8 a0 x_30 x_32 x_10 x_11 x_13 x_19 x_31 true
   ) else (
    obind (getO a0 (x_30 : Int)) fun x_37 =>
    F.ref2_Read_K8 a0 x_30 x_32 x_10 x_11 x_13 x_19 x_31 (x_37 == 69)
   )
  ) else (
   F.ref2_Read_K8 a0 x_30 x_32 x_10 x_11 x_13 x_19 x_31 false
  )
noncomputable def F.ref2_Read_K13 (a0 : List UInt8) (x_10 : Int) (x_11 : Bool) (x_13 : Int) (x_19 : List UInt8) (x_20 : List UInt8) : Bool → Option (Bool × List Int × Int × Bool × List Int × Bool × List UInt8 × Bool)
 | x_23 =>
  if x_23 = true then
  (
   obind (F.ref2_many a0 (wI (x_13 + 1))) fun x_25 =>
   if (x_25 == (wI (x_13 + 1))) = true then
   (
    some (x_11, [], wI (x_13 - x_10), false, [], false, x_19, false)
   ) else (
    obind (slO a0 (wI (x_13 + 1) : Int) (x_25 : Int)) fun x_26 =>
    obind (sadO x_20 x_26) fun x_27 =>
    F.ref2_Read_K3 a0 x_10 x_11 x_13 x_19 (x_25, x_27, false)
   )
  ) else (
   F.ref2_Read_K3 a0 x_10 x_11 x_13 x_19 (x_13, x_20, true)
  )
noncomputable def F.ref2_Read_K2 (a0 : List UInt8) (x_10 : Int) (x_11 : Bool) (x_13 : Int) : Bool → Option (Bool × List Int × Int × Bool × List Int × Bool × List UInt8 × Bool)
 | x_17 =>
  if x_17 = true then
  (
   some (x_11, [], 0, false, [], true, [], false)
  ) else (
   obind (slO a0 (x_10 : Int) (x_13 : Int)) fun x_19 =>
   obind (slO a0 (x_10 : Int) (x_13 : Int)) fun x_20 =>
   if (decide (x_13 < (a0.length : Int))) = true then
   (
    obind (getO a0 (x_13 : Int)) fun x_22 =>
    F.ref2_Read_K13 a0 x_10 x_11 x_13 x_19 x_20 (x_22 == 46)
   ) else (
    F.ref2_Read_K13 a0 x_10 x_11 x_13 x_19 x_20 false
   )
  )
noncomputable def F.ref2_Read_K1 (a0 : List UInt8) : Int × Bool → Option (Bool × List Int × Int × Bool × List Int × Bool × List UInt8 × Bool)
 | (x_10, x_11) =>
  obind (F.ref2_many a0 x_10) fun x_13 =>
  if (x_13 == x_10) = true then
  (
   F.ref2_Read_K2 a0 x_10 x_11 x_13 true
  ) else (
   obind (getO a0 (x_10 : Int)) fun x_15 =>
   if (x_15 == 48) = true then
   (
    F.ref2_Read_K2 a0 x_10 x_11 x_13 (decide ((wI (x_10 + 1)) < x_13))
   ) else (
    F.ref2_Read_K2 a0 x_10 x_11 x_13 false
   )
  )
noncomputable def F.ref2_Read_K14 (a0 : List UInt8) : Bool → Option (Bool × List Int × Int × Bool × List Int × Bool × List UInt8 × Bool)
 | x_7 =>
  if x_7 = true then
  (
   F.ref2_Read_K1 a0 (1, true)
  ) else (
   F.ref2_Read_K1 a0 (0, false)
  )
noncomputable def F.ref2_Read (a0 : List UInt8) : Option (Bool × List Int × Int × Bool × List Int × Bool × List UInt8 × Bool) :=
 if (decide ((0 : Int) < (a0.length : Int))) = true then
 (
  obind (getO a0 (0 : Int)) fun x_6 =>
  F.ref2_Read_K14 a0 (x_6 == 45)
 ) else (
  F.ref2_Read_K14 a0 false
 )
noncomputable def F.ref2_Whole_L1 (x_1 : Bool × List Int × Int × Bool × List Int × Bool × List UInt8 × Bool) : Int × Int → Option ((Int × Int) ⊕ (Int × Bool))
 | (x_11, x_12) =>
  if (decide (x_12 < (x_1.2.2.2.2.2.2.1.length : Int))) = true then
  (
   obind (getO x_1.2.2.2.2.2.2.1 (x_12 : Int)) fun x_16 =>
   olet (((x_16 - 48).toNat : Int)) fun x_17 =>
   if (decide (x_11 < (wI (Int.tdiv (wI ((-9223372036854775808) + x_17)) 10)))) = true then
   (
    oinr (
     some (0, false)
    )
   ) else (
    olet (wI ((wI (10 * x_11)) - x_17)) fun x_18 =>
    oinl (x_18, wI (x_12 + 1))
   )
  ) else (
   oinr (
    if x_1.1 = true then
    (
     some (x_11, true)
    ) else (
     if (x_11 == (-9223372036854775808)) = true then
     (
      some (0, false)
     ) else (
      some (wI (0 - x_11), true)
     )
    )
   )
  )
noncomputable def F.ref2_Whole_K1 (x_1 : Bool × List Int × Int × Bool × List Int × Bool × List UInt8 × Bool) : Bool → Option (Int × Bool)
 | x_9 =>
  if x_9 = true then
  (
   some (0, false)
  ) else (
   loop (F.ref2_Whole_L1 x_1) (0, 0)
  )
noncomputable def F.ref2_Whole (a0 : List UInt8) : Option (Int × Bool) :=
 obind (F.ref2_Read a0) fun x_1 =>
 if (!x_1.2.2.2.2.2.2.2) = true then
 (
  F.ref2_Whole_K1 x_1 true
 ) else (
  F.ref2_Whole_K1 x_1 (!x_1.2.2.2.2.2.1)
 )
noncomputable def F.ref2_Valid (a0 : List UInt8) : Option (Bool) :=
 obind (F.ref2_Read a0) fun x_1 =>
 some x_1.2.2.2.2.2.2.2
end Go.Gk
