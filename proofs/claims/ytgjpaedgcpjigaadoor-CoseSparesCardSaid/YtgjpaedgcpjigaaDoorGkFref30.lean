import Derived.Test.YtgjpaedgcpjigaaDoorGkS
import Derived.Test.YtgjpaedgcpjigaaDoorGkFref3
set_option linter.unusedVariables false
set_option linter.unusedSimpArgs false
set_option linter.unusedVariables false
namespace Go.Gk
noncomputable def F.ref30_wide (a0 : UInt64) : Option (Int) :=
 if (decide (a0 < 24)) = true then
 (
  some 0
 ) else (
  if (decide (a0 < 256)) = true then
  (
   some 1
  ) else (
   if (decide (a0 < 65536)) = true then
   (
    some 2
   ) else (
    if (decide (a0 < 4294967296)) = true then
    (
     some 4
    ) else (
     some 8
    )
   )
  )
 )
noncomputable def F.ref30_Head_L2 (a1 : UInt64) : List UInt8 × Int → Option ((List UInt8 × Int) ⊕ (List UInt8))
 | (x_11, x_14) =>
  if (decide ((0 : Int) ≤ x_14)) = true then
  (
   obind (apO 1 x_11 [((shr64 a1 ((UInt64.ofInt (wI (8 * x_14))).toNat)) &&& 255).toUInt8]) fun x_20 =>
   oinl (x_20, wI (x_14 - 1))
  ) else (
   oinr (
    some x_11
   )
  )
noncomputable def F.ref30_Head_L1 (a0 : Int) (x_1 : Int) (a1 : UInt64) : Int × Int → Option ((Int × Int) ⊕ (List UInt8))
 | (x_4, x_5) =>
  if (decide (x_5 < x_1)) = true then
  (
   oinl (wI (x_4 + 1), wI (2 * x_5))
  ) else (
   oinr (
    loop (F.ref30_Head_L2 a1) ([UInt8.ofInt (wI ((wI (32 * a0)) + x_4))], wI (x_1 - 1))
   )
  )
noncomputable def F.ref30_Head (a0 : Int) (a1 : UInt64) : Option (List UInt8) :=
 obind (F.ref30_wide a1) fun x_1 =>
 if (x_1 == 0) = true then
 (
  some [(UInt8.ofInt (wI (32 * a0))) + a1.toUInt8]
 ) else (
  loop (F.ref30_Head_L1 a0 x_1 a1) (24, 1)
 )
noncomputable def F.ref30_Less_K1 (a0 : List UInt8) (a1 : List UInt8) (x_1 : Int) : Bool → Option ((Int) ⊕ (Bool))
 | x_6 =>
  if x_6 = true then
  (
   obind (getO a0 (x_1 : Int)) fun x_8 =>
   obind (getO a1 (x_1 : Int)) fun x_9 =>
   if (x_8 != x_9) = true then
   (
    obind (getO a0 (x_1 : Int)) fun x_10 =>
    obind (getO a1 (x_1 : Int)) fun x_11 =>
    oinr (
     some (decide (x_10 < x_11))
    )
   ) else (
    oinl (wI (x_1 + 1))
   )
  ) else (
   oinr (
    some (decide ((a0.length : Int) < (a1.length : Int)))
   )
  )
noncomputable def F.ref30_Less_L1 (a0 : List UInt8) (a1 : List UInt8) : Int → Option ((Int) ⊕ (Bool))
 | x_1 =>
  if (decide (x_1 < (a0.length : Int))) = true then
  (
   F.ref30_Less_K1 a0 a1 x_1 (decide (x_1 < (a1.length : Int)))
  ) else (
   F.ref30_Less_K1 a0 a1 x_1 false
  )
noncomputable def F.ref30_Less (a0 : List UInt8) (a1 : List UInt8) : Option (Bool) :=
 loop (F.ref30_Less_L1 a0 a1) 0
noncomputable def F.ref30_behind_L1 (a0 : List (Int × UInt64 × (List UInt8) × Int)) : Int × Int → Option ((Int × Int) ⊕ (Int))
 | (x_1, x_2) =>
  if (decide ((0 : Int) < x_2)) = true then
  (
   obind (getO a0 (x_1 : Int)) fun x_6 =>
   olet (wI ((wI (x_2 - 1)) + x_6.2.2.2)) fun x_7 =>
   oinl (wI (x_1 + 1), x_7)
  ) else (
   oinr (
    some x_1
   )
  )
noncomputable def F.ref30_behind (a0 : List (Int × UInt64 × (List UInt8) × Int)) (a1 : Int) : Option (Int) :=
 loop (F.ref30_behind_L1 a0) (a1, 1)
noncomputable def F.ref30_same_L1 (a0 : List (Int × UInt64 × (List UInt8) × Int)) (a1 : List (Int × UInt64 × (List UInt8) × Int)) : Int → Option ((Int) ⊕ (Bool))
 | x_1 =>
  if (decide (x_1 < (a0.length : Int))) = true then
  (
   obind (getO a0 (x_1 : Int)) fun x_5 =>
   obind (getO a1 (x_1 : Int)) fun x_6 =>
   if (x_5 != x_6) = true then
   (
    oinr (
     some false
    )
   ) else (
    oinl (wI (x_1 + 1))
   )
  ) else (
   oinr (
    some true
   )
  )
noncomputable def F.ref30_same (a0 : List (Int × UInt64 × (List UInt8) × Int)) (a1 : List (Int × UInt64 × (List UInt8) × Int)) : Option (Bool) :=
 if ((a0.length : Int) != (a1.length : Int)) = true then
 (
  some false
 ) else (
  loop (F.ref30_same_L1 a0 a1) 0
 )
noncomputable def F.ref30_none  : Option (List UInt8 × Int) :=
 some ([], (-1))
noncomputable def F.ref30_Reader_fail (a0_0 : List UInt8) (a0_1 : Int) (a0_2 : List (Int × UInt64 × (List UInt8) × Int)) (a0_3 : Int) (a0_4 : Int) (a1 : Int) (a2 : Int) : Option (List UInt8 × Int × List (Int × UInt64 × (List UInt8) × Int) × Int × Int) :=
 if (a0_3 == 0) = true then
 (
  some (a0_0, a0_1, a0_2, a1, a2)
 ) else (
  some (a0_0, a0_1, a0_2, a0_3, a0_4)
 )
noncomputable def F.ref30_Reader_head_L1 (a0_0 : List UInt8) (a0_1 : Int) (a0_2 : List (Int × UInt64 × (List UInt8) × Int)) (a0_3 : Int) (a0_4 : Int) (x_7 : Int) (x_17 : Int) : UInt64 × Int → Option ((UInt64 × Int) ⊕ (Int × UInt64 × List UInt8 × Int × List (Int × UInt64 × (List UInt8) × Int) × Int × Int))
 | (x_21, x_22) =>
  if (decide (x_22 < x_17)) = true then
  (
   obind (getO a0_0 (wI ((wI (a0_1 + 1)) + x_22) : Int)) fun x_26 =>
   olet ((256 * x_21) + x_26.toUInt64) fun x_27 =>
   oinl (x_27, wI (x_22 + 1))
  ) else (
   oinr (
    obind (F.ref30_wide x_21) fun x_28 =>
    if (x_28 != x_17) = true then
    (
     obind (F.ref30_Reader_fail a0_0 (wI ((wI (a0_1 + 1)) + x_17)) a0_2 a0_3 a0_4 220 a0_1) fun x_29 =>
     some (0, 0, x_29.1, x_29.2.1, x_29.2.2.1, x_29.2.2.2.1, x_29.2.2.2.2)
    ) else (
     some (x_7, x_21, a0_0, wI ((wI (a0_1 + 1)) + x_17), a0_2, a0_3, a0_4)
    )
   )
  )
noncomputable def F.ref30_Reader_head_K1 (a0_0 : List UInt8) (a0_1 : Int) (a0_2 : List (Int × UInt64 × (List UInt8) × Int)) (a0_3 : Int) (a0_4 : Int) (x_7 : Int) (x_8 : Int) : Bool → Option (Int × UInt64 × List UInt8 × Int × List (Int × UInt64 × (List UInt8) × Int) × Int × Int)
 | x_12 =>
  if x_12 = true then
  (
   obind (F.ref30_Reader_fail a0_0 a0_1 a0_2 a0_3 a0_4 220 a0_1) fun x_14 =>
   some (0, 0, x_14.1, x_14.2.1, x_14.2.2.1, x_14.2.2.2.1, x_14.2.2.2.2)
  ) else (
   if (decide (x_8 < 24)) = true then
   (
    some (x_7, UInt64.ofInt x_8, a0_0, wI (a0_1 + 1), a0_2, a0_3, a0_4)
   ) else (
    olet (iShl 1 ((UInt64.ofInt (wI (x_8 - 24))).toNat)) fun x_17 =>
    if (decide ((wI ((a0_0.length : Int) - (wI (a0_1 + 1)))) < x_17)) = true then
    (
     obind (F.ref30_Reader_fail a0_0 (wI (a0_1 + 1)) a0_2 a0_3 a0_4 220 (a0_0.length : Int)) fun x_18 =>
     some (0, 0, x_18.1, x_18.2.1, x_18.2.2.1, x_18.2.2.2.1, x_18.2.2.2.2)
    ) else (
     loop (F.ref30_Reader_head_L1 a0_0 a0_1 a0_2 a0_3 a0_4 x_7 x_17) (0, 0)
    )
   )
  )
noncomputable def F.ref30_Reader_head (a0_0 : List UInt8) (a0_1 : Int) (a0_2 : List (Int × UInt64 × (List UInt8) × Int)) (a0_3 : Int) (a0_4 : Int) : Option (Int × UInt64 × List UInt8 × Int × List (Int × UInt64 × (List UInt8) × Int) × Int × Int) :=
 if (decide ((a0_0.length : Int) ≤ a0_1)) = true then
 (
  obind (F.ref30_Reader_fail a0_0 a0_1 a0_2 a0_3 a0_4 220 (a0_0.length : Int)) fun x_3 =>
  some (0, 0, x_3.1, x_3.2.1, x_3.2.2.1, x_3.2.2.2.1, x_3.2.2.2.2)
 ) else (
  obind (getO a0_0 (a0_1 : Int)) fun x_6 =>
  olet (wI (Int.tdiv (x_6.toNat : Int) 32)) fun x_7 =>
  olet (Int.tmod (x_6.toNat : Int) 32) fun x_8 =>
  if (decide ((27 : Int) < x_8)) = true then
  (
   F.ref30_Reader_head_K1 a0_0 a0_1 a0_2 a0_3 a0_4 x_7 x_8 true
  ) else (
   if (x_7 == 7) = true then
   (
    if (decide (x_8 < 20)) = true then
    (
     F.ref30_Reader_head_K1 a0_0 a0_1 a0_2 a0_3 a0_4 x_7 x_8 true
    ) else (
     F.ref30_Reader_head_K1 a0_0 a0_1 a0_2 a0_3 a0_4 x_7 x_8 (decide ((22 : Int) < x_8))
    )
   ) else (
    F.ref30_Reader_head_K1 a0_0 a0_1 a0_2 a0_3 a0_4 x_7 x_8 false
   )
  )
 )
noncomputable def F.ref30_Reader_text (a0_0 : List UInt8) (a0_1 : Int) (a0_2 : List (Int × UInt64 × (List UInt8) × Int)) (a0_3 : Int) (a0_4 : Int) (a1 : UInt64) : Option (List UInt8 × List UInt8 × Int × List (Int × UInt64 × (List UInt8) × Int) × Int × Int) :=
 if (decide ((UInt64.ofInt (wI ((a0_0.length : Int) - a0_1))) < a1)) = true then
 (
  obind (F.ref30_Reader_fail a0_0 a0_1 a0_2 a0_3 a0_4 220 (a0_0.length : Int)) fun x_3 =>
  some ([], x_3.1, x_3.2.1, x_3.2.2.1, x_3.2.2.2.1, x_3.2.2.2.2)
 ) else (
  obind (slO a0_0 (a0_1 : Int) (wI (a0_1 + (wI (a1.toNat : Int))) : Int)) fun x_6 =>
  some (x_6, a0_0, wI (a0_1 + (wI (a1.toNat : Int))), a0_2, a0_3, a0_4)
 )
noncomputable def F.ref30_Reader_pairs_K2 (a2 : Int) (rc : (List UInt8) → Int → (List (Int × UInt64 × (List UInt8) × Int)) → Int → Int → Int → Option (List UInt8 × Int × List (Int × UInt64 × (List UInt8) × Int) × Int × Int)) (x_4 : UInt64) (x_6 : Int) (x_18 : List UInt8 × Int × List (Int × UInt64 × (List UInt8) × Int) × Int × Int) (x_21 : List UInt8) : Bool → Option ((List UInt8 × UInt64 × List UInt8 × Int × (List (Int × UInt64 × (List UInt8) × Int)) × Int × Int) ⊕ (List UInt8 × Int × List (Int × UInt64 × (List UInt8) × Int) × Int × Int))
 | x_24 =>
  if x_24 = true then
  (
   obind (F.ref30_Reader_fail x_18.1 x_18.2.1 x_18.2.2.1 x_18.2.2.2.1 x_18.2.2.2.2 220 x_6) fun x_26 =>
   oinr (
    some (x_26.1, x_26.2.1, x_26.2.2.1, x_26.2.2.2.1, x_26.2.2.2.2)
   )
  ) else (
   obind (rc x_18.1 x_18.2.1 x_18.2.2.1 x_18.2.2.2.1 x_18.2.2.2.2 (wI (a2 + 1))) fun x_29 =>
   oinl (x_21, x_4 + 1, x_29.1, x_29.2.1, x_29.2.2.1, x_29.2.2.2.1, x_29.2.2.2.2)
  )
noncomputable def F.ref30_Reader_pairs_K1 (a2 : Int) (rc : (List UInt8) → Int → (List (Int × UInt64 × (List UInt8) × Int)) → Int → Int → Int → Option (List UInt8 × Int × List (Int × UInt64 × (List UInt8) × Int) × Int × Int)) (x_3 : List UInt8) (x_4 : UInt64) (x_5 : List UInt8) (x_6 : Int) (x_7 : List (Int × UInt64 × (List UInt8) × Int)) (x_10 : Int) (x_11 : Int) : Bool → Option ((List UInt8 × UInt64 × List UInt8 × Int × (List (Int × UInt64 × (List UInt8) × Int)) × Int × Int) ⊕ (List UInt8 × Int × List (Int × UInt64 × (List UInt8) × Int) × Int × Int))
 | x_16 =>
  if x_16 = true then
  (
   obind (rc x_5 x_6 x_7 x_10 x_11 (wI (a2 + 1))) fun x_18 =>
   if (x_18.2.2.2.1 != 0) = true then
   (
    oinr (
     some (x_18.1, x_18.2.1, x_18.2.2.1, x_18.2.2.2.1, x_18.2.2.2.2)
    )
   ) else (
    obind (slO x_18.1 (x_6 : Int) (x_18.2.1 : Int)) fun x_21 =>
    if (decide ((0 : UInt64) < x_4)) = true then
    (
     obind (F.ref30_Less x_3 x_21) fun x_23 =>
     F.ref30_Reader_pairs_K2 a2 rc x_4 x_6 x_18 x_21 (!x_23)
    ) else (
     F.ref30_Reader_pairs_K2 a2 rc x_4 x_6 x_18 x_21 false
    )
   )
  ) else (
   oinr (
    some (x_5, x_6, x_7, x_10, x_11)
   )
  )
noncomputable def F.ref30_Reader_pairs_L1 (a1 : UInt64) (a2 : Int) (rc : (List UInt8) → Int → (List (Int × UInt64 × (List UInt8) × Int)) → Int → Int → Int → Option (List UInt8 × Int × List (Int × UInt64 × (List UInt8) × Int) × Int × Int)) : List UInt8 × UInt64 × List UInt8 × Int × (List (Int × UInt64 × (List UInt8) × Int)) × Int × Int → Option ((List UInt8 × UInt64 × List UInt8 × Int × (List (Int × UInt64 × (List UInt8) × Int)) × Int × Int) ⊕ (List UInt8 × Int × List (Int × UInt64 × (List UInt8) × Int) × Int × Int))
 | (x_3, x_4, x_5, x_6, x_7, x_10, x_11) =>
  if (decide (x_4 < a1)) = true then
  (
   F.ref30_Reader_pairs_K1 a2 rc x_3 x_4 x_5 x_6 x_7 x_10 x_11 (x_10 == 0)
  ) else (
   F.ref30_Reader_pairs_K1 a2 rc x_3 x_4 x_5 x_6 x_7 x_10 x_11 false
  )
noncomputable def F.ref30_Reader_pairs (rc : (List UInt8) → Int → (List (Int × UInt64 × (List UInt8) × Int)) → Int → Int → Int → Option (List UInt8 × Int × List (Int × UInt64 × (List UInt8) × Int) × Int × Int)) (a0_0 : List UInt8) (a0_1 : Int) (a0_2 : List (Int × UInt64 × (List UInt8) × Int)) (a0_3 : Int) (a0_4 : Int) (a1 : UInt64) (a2 : Int) : Option (List UInt8 × Int × List (Int × UInt64 × (List UInt8) × Int) × Int × Int) :=
 loop (F.ref30_Reader_pairs_L1 a1 a2 rc) ([], 0, a0_0, a0_1, a0_2, a0_3, a0_4)
noncomputable def F.ref30_utf8 (a0 : List UInt8) : Option (Bool) :=
 obind (F.ref3_Shaped ([(5, [], a0, false, 0, 0)] : List (Int × (List UInt8) × (List UInt8) × Bool × Int × Int))) fun x_3 =>
 some x_3
noncomputable def F.ref30_said_s_K4 (a1 : Int) (x_4 : (Int × UInt64 × (List UInt8) × Int)) : Bool → Option (List UInt8 × Int)
 | x_52 =>
  if x_52 = true then
  (
   obind (F.ref30_none ) fun x_54 =>
   some (x_54.1, x_54.2)
  ) else (
   obind (F.ref30_Head 7 x_4.2.1) fun x_55 =>
   some (x_55, wI (a1 + 1))
  )
noncomputable def F.ref30_said_s_K6 (a1 : Int) (x_4 : (Int × UInt64 × (List UInt8) × Int)) : Bool → Option (List UInt8 × Int)
 | x_62 =>
  if x_62 = true then
  (
   obind (F.ref30_none ) fun x_64 =>
   some (x_64.1, x_64.2)
  ) else (
   obind (F.ref30_Head x_4.1 (UInt64.ofInt (x_4.2.2.1.length : Int))) fun x_65 =>
   obind (sadO x_65 x_4.2.2.1) fun x_66 =>
   some (x_66, wI (a1 + 1))
  )
noncomputable def F.ref30_said_s_K10 (x_87 : Int) (x_88 : List UInt8) (x_93 : List UInt8 × Int) : List UInt8 → Option ((List UInt8 × Int × List UInt8 × Int) ⊕ (List UInt8 × Int))
 | x_107 =>
  obind (sadO x_88 x_93.1) fun x_109 =>
  oinl (x_107, wI (x_87 + 1), x_109, x_93.2)
noncomputable def F.ref30_said_s_K12 (x_93 : List UInt8 × Int) (x_87 : Int) (x_88 : List UInt8) : Bool → Option ((List UInt8 × Int × List UInt8 × Int) ⊕ (List UInt8 × Int))
 | x_102 =>
  if x_102 = true then
  (
   obind (F.ref30_none ) fun x_104 =>
   oinr (
    some (x_104.1, x_104.2)
   )
  ) else (
   F.ref30_said_s_K10 x_87 x_88 x_93 x_93.1
  )
noncomputable def F.ref30_said_s_K11 (x_86 : List UInt8) (x_87 : Int) (x_93 : List UInt8 × Int) (x_88 : List UInt8) : Bool → Option ((List UInt8 × Int × List UInt8 × Int) ⊕ (List UInt8 × Int))
 | x_98 =>
  if x_98 = true then
  (
   if (decide ((0 : Int) < x_87)) = true then
   (
    obind (F.ref30_Less x_86 x_93.1) fun x_101 =>
    F.ref30_said_s_K12 x_93 x_87 x_88 (!x_101)
   ) else (
    F.ref30_said_s_K12 x_93 x_87 x_88 false
   )
  ) else (
   F.ref30_said_s_K10 x_87 x_88 x_93 x_86
  )
noncomputable def F.ref30_said_s_L1 (a0 : List (Int × UInt64 × (List UInt8) × Int)) (a2 : Int) (rc : (List (Int × UInt64 × (List UInt8) × Int)) → Int → Int → Option (List UInt8 × Int)) (x_4 : (Int × UInt64 × (List UInt8) × Int)) : List UInt8 × Int × List UInt8 × Int → Option ((List UInt8 × Int × List UInt8 × Int) ⊕ (List UInt8 × Int))
 | (x_86, x_87, x_88, x_89) =>
  if (decide (x_87 < x_4.2.2.2)) = true then
  (
   obind (rc a0 x_89 (wI (a2 + 1))) fun x_93 =>
   if (decide (x_93.2 < 0)) = true then
   (
    obind (F.ref30_none ) fun x_96 =>
    oinr (
     some (x_96.1, x_96.2)
    )
   ) else (
    if (x_4.1 == 5) = true then
    (
     F.ref30_said_s_K11 x_86 x_87 x_93 x_88 ((Int.tmod x_87 2) == 0)
    ) else (
     F.ref30_said_s_K11 x_86 x_87 x_93 x_88 false
    )
   )
  ) else (
   oinr (
    some (x_88, x_89)
   )
  )
noncomputable def F.ref30_said_s_K9 (a1 : Int) (x_4 : (Int × UInt64 × (List UInt8) × Int)) (a0 : List (Int × UInt64 × (List UInt8) × Int)) (a2 : Int) (rc : (List (Int × UInt64 × (List UInt8) × Int)) → Int → Int → Option (List UInt8 × Int)) : UInt64 → Option (List UInt8 × Int)
 | x_81 =>
  obind (F.ref30_Head x_4.1 x_81) fun x_83 =>
  loop (F.ref30_said_s_L1 a0 a2 rc x_4) ([], 0, x_83, wI (a1 + 1))
noncomputable def F.ref30_said_s_K8 (x_4 : (Int × UInt64 × (List UInt8) × Int)) (a1 : Int) (a0 : List (Int × UInt64 × (List UInt8) × Int)) (a2 : Int) (rc : (List (Int × UInt64 × (List UInt8) × Int)) → Int → Int → Option (List UInt8 × Int)) : UInt64 → Option (List UInt8 × Int)
 | x_78 =>
  if (x_4.1 == 6) = true then
  (
   F.ref30_said_s_K9 a1 x_4 a0 a2 rc x_4.2.1
  ) else (
   F.ref30_said_s_K9 a1 x_4 a0 a2 rc x_78
  )
noncomputable def F.ref30_said_s_K7 (x_4 : (Int × UInt64 × (List UInt8) × Int)) (a1 : Int) (a0 : List (Int × UInt64 × (List UInt8) × Int)) (a2 : Int) (rc : (List (Int × UInt64 × (List UInt8) × Int)) → Int → Int → Option (List UInt8 × Int)) : Bool → Option (List UInt8 × Int)
 | x_73 =>
  if x_73 = true then
  (
   obind (F.ref30_none ) fun x_75 =>
   some (x_75.1, x_75.2)
  ) else (
   if (x_4.1 == 5) = true then
   (
    olet ((UInt64.ofInt x_4.2.2.2) / 2) fun x_76 =>
    F.ref30_said_s_K8 x_4 a1 a0 a2 rc x_76
   ) else (
    F.ref30_said_s_K8 x_4 a1 a0 a2 rc (UInt64.ofInt x_4.2.2.2)
   )
  )
noncomputable def F.ref30_said_s_K5 (a2 : Int) (x_4 : (Int × UInt64 × (List UInt8) × Int)) (a1 : Int) (a0 : List (Int × UInt64 × (List UInt8) × Int)) (rc : (List (Int × UInt64 × (List UInt8) × Int)) → Int → Int → Option (List UInt8 × Int)) : Bool → Option (List UInt8 × Int)
 | x_58 =>
  if x_58 = true then
  (
   if (x_4.1 == 3) = true then
   (
    obind (F.ref30_utf8 x_4.2.2.1) fun x_61 =>
    F.ref30_said_s_K6 a1 x_4 (!x_61)
   ) else (
    F.ref30_said_s_K6 a1 x_4 false
   )
  ) else (
   if (a2 == 32) = true then
   (
    F.ref30_said_s_K7 x_4 a1 a0 a2 rc true
   ) else (
    if (x_4.1 == 5) = true then
    (
     if ((Int.tmod x_4.2.2.2 2) == 1) = true then
     (
      F.ref30_said_s_K7 x_4 a1 a0 a2 rc true
     ) else (
      if (x_4.1 == 6) = true then
      (
       F.ref30_said_s_K7 x_4 a1 a0 a2 rc (x_4.2.2.2 != 1)
      ) else (
       F.ref30_said_s_K7 x_4 a1 a0 a2 rc false
      )
     )
    ) else (
     if (x_4.1 == 6) = true then
     (
      F.ref30_said_s_K7 x_4 a1 a0 a2 rc (x_4.2.2.2 != 1)
     ) else (
      F.ref30_said_s_K7 x_4 a1 a0 a2 rc false
     )
    )
   )
  )
noncomputable def F.ref30_said_s_K3 (a1 : Int) (x_4 : (Int × UInt64 × (List UInt8) × Int)) (a2 : Int) (a0 : List (Int × UInt64 × (List UInt8) × Int)) (rc : (List (Int × UInt64 × (List UInt8) × Int)) → Int → Int → Option (List UInt8 × Int)) : Bool → Option (List UInt8 × Int)
 | x_48 =>
  if x_48 = true then
  (
   obind (F.ref30_Head x_4.1 x_4.2.1) fun x_50 =>
   some (x_50, wI (a1 + 1))
  ) else (
   if (x_4.1 == 7) = true then
   (
    if (decide (x_4.2.1 < 20)) = true then
    (
     F.ref30_said_s_K4 a1 x_4 true
    ) else (
     F.ref30_said_s_K4 a1 x_4 (decide ((22 : UInt64) < x_4.2.1))
    )
   ) else (
    if (x_4.1 == 2) = true then
    (
     F.ref30_said_s_K5 a2 x_4 a1 a0 rc (x_4.1 == 2)
    ) else (
     F.ref30_said_s_K5 a2 x_4 a1 a0 rc (x_4.1 == 3)
    )
   )
  )
noncomputable def F.ref30_said_s_K2 (x_4 : (Int × UInt64 × (List UInt8) × Int)) (a1 : Int) (a2 : Int) (a0 : List (Int × UInt64 × (List UInt8) × Int)) (rc : (List (Int × UInt64 × (List UInt8) × Int)) → Int → Int → Option (List UInt8 × Int)) : Bool → Option (List UInt8 × Int)
 | x_44 =>
  if x_44 = true then
  (
   obind (F.ref30_none ) fun x_46 =>
   some (x_46.1, x_46.2)
  ) else (
   if (x_4.1 == 0) = true then
   (
    F.ref30_said_s_K3 a1 x_4 a2 a0 rc (x_4.1 == 0)
   ) else (
    F.ref30_said_s_K3 a1 x_4 a2 a0 rc (x_4.1 == 1)
   )
  )
noncomputable def F.ref30_said_s_K1 (x_4 : (Int × UInt64 × (List UInt8) × Int)) (a1 : Int) (a2 : Int) (a0 : List (Int × UInt64 × (List UInt8) × Int)) (rc : (List (Int × UInt64 × (List UInt8) × Int)) → Int → Int → Option (List UInt8 × Int)) : Bool → Option (List UInt8 × Int)
 | x_8 =>
  if (decide (x_4.1 < 0)) = true then
  (
   F.ref30_said_s_K2 x_4 a1 a2 a0 rc true
  ) else (
   if (decide ((7 : Int) < x_4.1)) = true then
   (
    F.ref30_said_s_K2 x_4 a1 a2 a0 rc true
   ) else (
    if (!x_8) = true then
    (
     if (x_4.2.2.1 != []) = true then
     (
      F.ref30_said_s_K2 x_4 a1 a2 a0 rc true
     ) else (
      if (decide ((2 : Int) ≤ x_4.1)) = true then
      (
       if (decide (x_4.1 ≤ 5)) = true then
       (
        if (x_4.2.1 != 0) = true then
        (
         F.ref30_said_s_K2 x_4 a1 a2 a0 rc true
        ) else (
         if (decide (x_4.1 < 4)) = true then
         (
          if (x_4.2.2.2 != 0) = true then
          (
           F.ref30_said_s_K2 x_4 a1 a2 a0 rc true
          ) else (
           F.ref30_said_s_K2 x_4 a1 a2 a0 rc (decide (x_4.2.2.2 < 0))
          )
         ) else (
          if (x_4.1 == 7) = true then
          (
           if (x_4.2.2.2 != 0) = true then
           (
            F.ref30_said_s_K2 x_4 a1 a2 a0 rc true
           ) else (
            F.ref30_said_s_K2 x_4 a1 a2 a0 rc (decide (x_4.2.2.2 < 0))
           )
          ) else (
           F.ref30_said_s_K2 x_4 a1 a2 a0 rc (decide (x_4.2.2.2 < 0))
          )
         )
        )
       ) else (
        if (decide (x_4.1 < 4)) = true then
        (
         if (x_4.2.2.2 != 0) = true then
         (
          F.ref30_said_s_K2 x_4 a1 a2 a0 rc true
         ) else (
          F.ref30_said_s_K2 x_4 a1 a2 a0 rc (decide (x_4.2.2.2 < 0))
         )
        ) else (
         if (x_4.1 == 7) = true then
         (
          if (x_4.2.2.2 != 0) = true then
          (
           F.ref30_said_s_K2 x_4 a1 a2 a0 rc true
          ) else (
           F.ref30_said_s_K2 x_4 a1 a2 a0 rc (decide (x_4.2.2.2 < 0))
          )
         ) else (
          F.ref30_said_s_K2 x_4 a1 a2 a0 rc (decide (x_4.2.2.2 < 0))
         )
        )
       )
      ) else (
       if (decide (x_4.1 < 4)) = true then
       (
        if (x_4.2.2.2 != 0) = true then
        (
         F.ref30_said_s_K2 x_4 a1 a2 a0 rc true
        ) else (
         F.ref30_said_s_K2 x_4 a1 a2 a0 rc (decide (x_4.2.2.2 < 0))
        )
       ) else (
        if (x_4.1 == 7) = true then
        (
         if (x_4.2.2.2 != 0) = true then
         (
          F.ref30_said_s_K2 x_4 a1 a2 a0 rc true
         ) else (
          F.ref30_said_s_K2 x_4 a1 a2 a0 rc (decide (x_4.2.2.2 < 0))
         )
        ) else (
         F.ref30_said_s_K2 x_4 a1 a2 a0 rc (decide (x_4.2.2.2 < 0))
        )
       )
      )
     )
    ) else (
     if (decide ((2 : Int) ≤ x_4.1)) = true then
     (
      if (decide (x_4.1 ≤ 5)) = true then
      (
       if (x_4.2.1 != 0) = true then
       (
        F.ref30_said_s_K2 x_4 a1 a2 a0 rc true
       ) else (
        if (decide (x_4.1 < 4)) = true then
        (
         if (x_4.2.2.2 != 0) = true then
         (
          F.ref30_said_s_K2 x_4 a1 a2 a0 rc true
         ) else (
          F.ref30_said_s_K2 x_4 a1 a2 a0 rc (decide (x_4.2.2.2 < 0))
         )
        ) else (
         if (x_4.1 == 7) = true then
         (
          if (x_4.2.2.2 != 0) = true then
          (
           F.ref30_said_s_K2 x_4 a1 a2 a0 rc true
          ) else (
           F.ref30_said_s_K2 x_4 a1 a2 a0 rc (decide (x_4.2.2.2 < 0))
          )
         ) else (
          F.ref30_said_s_K2 x_4 a1 a2 a0 rc (decide (x_4.2.2.2 < 0))
         )
        )
       )
      ) else (
       if (decide (x_4.1 < 4)) = true then
       (
        if (x_4.2.2.2 != 0) = true then
        (
         F.ref30_said_s_K2 x_4 a1 a2 a0 rc true
        ) else (
         F.ref30_said_s_K2 x_4 a1 a2 a0 rc (decide (x_4.2.2.2 < 0))
        )
       ) else (
        if (x_4.1 == 7) = true then
        (
         if (x_4.2.2.2 != 0) = true then
         (
          F.ref30_said_s_K2 x_4 a1 a2 a0 rc true
         ) else (
          F.ref30_said_s_K2 x_4 a1 a2 a0 rc (decide (x_4.2.2.2 < 0))
         )
        ) else (
         F.ref30_said_s_K2 x_4 a1 a2 a0 rc (decide (x_4.2.2.2 < 0))
        )
       )
      )
     ) else (
      if (decide (x_4.1 < 4)) = true then
      (
       if (x_4.2.2.2 != 0) = true then
       (
        F.ref30_said_s_K2 x_4 a1 a2 a0 rc true
       ) else (
        F.ref30_said_s_K2 x_4 a1 a2 a0 rc (decide (x_4.2.2.2 < 0))
       )
      ) else (
       if (x_4.1 == 7) = true then
       (
        if (x_4.2.2.2 != 0) = true then
        (
         F.ref30_said_s_K2 x_4 a1 a2 a0 rc true
        ) else (
         F.ref30_said_s_K2 x_4 a1 a2 a0 rc (decide (x_4.2.2.2 < 0))
        )
       ) else (
        F.ref30_said_s_K2 x_4 a1 a2 a0 rc (decide (x_4.2.2.2 < 0))
       )
      )
     )
    )
   )
  )
noncomputable def F.ref30_said_s (rc : (List (Int × UInt64 × (List UInt8) × Int)) → Int → Int → Option (List UInt8 × Int)) (a0 : List (Int × UInt64 × (List UInt8) × Int)) (a1 : Int) (a2 : Int) : Option (List UInt8 × Int) :=
 if (decide ((a0.length : Int) ≤ a1)) = true then
 (
  obind (F.ref30_none ) fun x_3 =>
  some (x_3.1, x_3.2)
 ) else (
  obind (getO a0 (a1 : Int)) fun x_4 =>
  if (x_4.1 == 2) = true then
  (
   F.ref30_said_s_K1 x_4 a1 a2 a0 rc true
  ) else (
   F.ref30_said_s_K1 x_4 a1 a2 a0 rc (x_4.1 == 3)
  )
 )
noncomputable def F.ref30_said_n : Nat → (List (Int × UInt64 × (List UInt8) × Int)) → Int → Int → Option (List UInt8 × Int)
 | 0 => fun _ _ _ => none
 | n + 1 => F.ref30_said_s (F.ref30_said_n n)
noncomputable def F.ref30_said (a0 : List (Int × UInt64 × (List UInt8) × Int)) (a1 : Int) (a2 : Int) : Option (List UInt8 × Int) := F.ref30_said_n 64 a0 a1 a2
noncomputable def F.ref30_Shaped (a0 : List (Int × UInt64 × (List UInt8) × Int)) : Option (Bool) :=
 obind (F.ref30_said a0 0 0) fun x_1 =>
 if (x_1.2 == (a0.length : Int)) = true then
 (
  some (decide ((0 : Int) < x_1.2))
 ) else (
  some false
 )
noncomputable def F.ref30_Reader_item_s_K4 (a0_1 : Int) (x_27 : List UInt8 × List UInt8 × Int × List (Int × UInt64 × (List UInt8) × Int) × Int × Int) (x_32 : List (Int × UInt64 × (List UInt8) × Int)) : Bool → Option (List UInt8 × Int × List (Int × UInt64 × (List UInt8) × Int) × Int × Int)
 | x_38 =>
  if x_38 = true then
  (
   obind (F.ref30_Reader_fail x_27.2.1 x_27.2.2.1 x_32 x_27.2.2.2.2.1 x_27.2.2.2.2.2 32 a0_1) fun x_40 =>
   some (x_40.1, x_40.2.1, x_40.2.2.1, x_40.2.2.2.1, x_40.2.2.2.2)
  ) else (
   some (x_27.2.1, x_27.2.2.1, x_32, x_27.2.2.2.2.1, x_27.2.2.2.2.2)
  )
noncomputable def F.ref30_Reader_item_s_K5 (a0_2 : List (Int × UInt64 × (List UInt8) × Int)) (a1 : Int) (rc : (List UInt8) → Int → (List (Int × UInt64 × (List UInt8) × Int)) → Int → Int → Int → Option (List UInt8 × Int × List (Int × UInt64 × (List UInt8) × Int) × Int × Int)) (x_3 : Int × UInt64 × List UInt8 × Int × List (Int × UInt64 × (List UInt8) × Int) × Int × Int) (x_49 : UInt64) (x_50 : List UInt8) (x_51 : Int) (x_52 : List (Int × UInt64 × (List UInt8) × Int)) (x_55 : Int) (x_56 : Int) : Bool → Option ((UInt64 × List UInt8 × Int × (List (Int × UInt64 × (List UInt8) × Int)) × Int × Int) ⊕ (List UInt8 × Int × List (Int × UInt64 × (List UInt8) × Int) × Int × Int))
 | x_61 =>
  if x_61 = true then
  (
   obind (rc x_50 x_51 x_52 x_55 x_56 (wI (a1 + 1))) fun x_63 =>
   oinl (x_49 + 1, x_63.1, x_63.2.1, x_63.2.2.1, x_63.2.2.2.1, x_63.2.2.2.2)
  ) else (
   oinr (
    obind (getO x_52 ((a0_2.length : Int) : Int)) fun x_66 =>
    olet (x_52.set ((a0_2.length : Int) : Int).toNat (x_66.1, x_66.2.1, x_66.2.2.1, wI ((x_3.2.1 &&& 4294967295).toNat : Int))) fun x_67 =>
    some (x_50, x_51, x_67, x_55, x_56)
   )
  )
noncomputable def F.ref30_Reader_item_s_L1 (x_3 : Int × UInt64 × List UInt8 × Int × List (Int × UInt64 × (List UInt8) × Int) × Int × Int) (a0_2 : List (Int × UInt64 × (List UInt8) × Int)) (a1 : Int) (rc : (List UInt8) → Int → (List (Int × UInt64 × (List UInt8) × Int)) → Int → Int → Int → Option (List UInt8 × Int × List (Int × UInt64 × (List UInt8) × Int) × Int × Int)) : UInt64 × List UInt8 × Int × (List (Int × UInt64 × (List UInt8) × Int)) × Int × Int → Option ((UInt64 × List UInt8 × Int × (List (Int × UInt64 × (List UInt8) × Int)) × Int × Int) ⊕ (List UInt8 × Int × List (Int × UInt64 × (List UInt8) × Int) × Int × Int))
 | (x_49, x_50, x_51, x_52, x_55, x_56) =>
  if (decide (x_49 < x_3.2.1)) = true then
  (
   F.ref30_Reader_item_s_K5 a0_2 a1 rc x_3 x_49 x_50 x_51 x_52 x_55 x_56 (x_55 == 0)
  ) else (
   F.ref30_Reader_item_s_K5 a0_2 a1 rc x_3 x_49 x_50 x_51 x_52 x_55 x_56 false
  )
noncomputable def F.ref30_Reader_item_s_K3 (a0_2 : List (Int × UInt64 × (List UInt8) × Int)) (a1 : Int) (rc : (List UInt8) → Int → (List (Int × UInt64 × (List UInt8) × Int)) → Int → Int → Int → Option (List UInt8 × Int × List (Int × UInt64 × (List UInt8) × Int) × Int × Int)) (x_3 : Int × UInt64 × List UInt8 × Int × List (Int × UInt64 × (List UInt8) × Int) × Int × Int) (a0_1 : Int) : Bool → Option (List UInt8 × Int × List (Int × UInt64 × (List UInt8) × Int) × Int × Int)
 | x_25 =>
  if x_25 = true then
  (
   obind (F.ref30_Reader_text x_3.2.2.1 x_3.2.2.2.1 x_3.2.2.2.2.1 x_3.2.2.2.2.2.1 x_3.2.2.2.2.2.2 x_3.2.1) fun x_27 =>
   obind (apO 40 x_27.2.2.2.1 ([(x_3.1, 0, x_27.1, 0)] : List (Int × UInt64 × (List UInt8) × Int))) fun x_32 =>
   if (x_27.2.2.2.2.1 == 0) = true then
   (
    if (x_3.1 == 3) = true then
    (
     obind (F.ref30_utf8 x_27.1) fun x_37 =>
     F.ref30_Reader_item_s_K4 a0_1 x_27 x_32 (!x_37)
    ) else (
     F.ref30_Reader_item_s_K4 a0_1 x_27 x_32 false
    )
   ) else (
    F.ref30_Reader_item_s_K4 a0_1 x_27 x_32 false
   )
  ) else (
   if (x_3.1 == 4) = true then
   (
    obind (apO 40 x_3.2.2.2.2.1 ([(x_3.1, 0, [], 0)] : List (Int × UInt64 × (List UInt8) × Int))) fun x_46 =>
    loop (F.ref30_Reader_item_s_L1 x_3 a0_2 a1 rc) (0, x_3.2.2.1, x_3.2.2.2.1, x_46, x_3.2.2.2.2.2.1, x_3.2.2.2.2.2.2)
   ) else (
    if (x_3.1 == 5) = true then
    (
     obind (apO 40 x_3.2.2.2.2.1 ([(x_3.1, 0, [], 0)] : List (Int × UInt64 × (List UInt8) × Int))) fun x_72 =>
     obind (F.ref30_Reader_pairs rc x_3.2.2.1 x_3.2.2.2.1 x_72 x_3.2.2.2.2.2.1 x_3.2.2.2.2.2.2 x_3.2.1 a1) fun x_75 =>
     obind (getO x_75.2.2.1 ((a0_2.length : Int) : Int)) fun x_78 =>
     olet (x_75.2.2.1.set ((a0_2.length : Int) : Int).toNat (x_78.1, x_78.2.1, x_78.2.2.1, wI (2 * (wI ((x_3.2.1 &&& 4294967295).toNat : Int))))) fun x_79 =>
     some (x_75.1, x_75.2.1, x_79, x_75.2.2.2.1, x_75.2.2.2.2)
    ) else (
     if (x_3.1 == 6) = true then
     (
      obind (apO 40 x_3.2.2.2.2.1 ([(x_3.1, x_3.2.1, [], 1)] : List (Int × UInt64 × (List UInt8) × Int))) fun x_82 =>
      obind (rc x_3.2.2.1 x_3.2.2.2.1 x_82 x_3.2.2.2.2.2.1 x_3.2.2.2.2.2.2 (wI (a1 + 1))) fun x_85 =>
      some (x_85.1, x_85.2.1, x_85.2.2.1, x_85.2.2.2.1, x_85.2.2.2.2)
     ) else (
      some (x_3.2.2.1, x_3.2.2.2.1, x_3.2.2.2.2.1, x_3.2.2.2.2.2.1, x_3.2.2.2.2.2.2)
     )
    )
   )
  )
noncomputable def F.ref30_Reader_item_s_K2 (x_3 : Int × UInt64 × List UInt8 × Int × List (Int × UInt64 × (List UInt8) × Int) × Int × Int) (a0_2 : List (Int × UInt64 × (List UInt8) × Int)) (a1 : Int) (rc : (List UInt8) → Int → (List (Int × UInt64 × (List UInt8) × Int)) → Int → Int → Int → Option (List UInt8 × Int × List (Int × UInt64 × (List UInt8) × Int) × Int × Int)) (a0_1 : Int) : Bool → Option (List UInt8 × Int × List (Int × UInt64 × (List UInt8) × Int) × Int × Int)
 | x_17 =>
  if x_17 = true then
  (
   obind (apO 40 x_3.2.2.2.2.1 ([(x_3.1, x_3.2.1, [], 0)] : List (Int × UInt64 × (List UInt8) × Int))) fun x_21 =>
   some (x_3.2.2.1, x_3.2.2.2.1, x_21, x_3.2.2.2.2.2.1, x_3.2.2.2.2.2.2)
  ) else (
   if (x_3.1 == 2) = true then
   (
    F.ref30_Reader_item_s_K3 a0_2 a1 rc x_3 a0_1 (x_3.1 == 2)
   ) else (
    F.ref30_Reader_item_s_K3 a0_2 a1 rc x_3 a0_1 (x_3.1 == 3)
   )
  )
noncomputable def F.ref30_Reader_item_s_K1 (a0_1 : Int) (x_3 : Int × UInt64 × List UInt8 × Int × List (Int × UInt64 × (List UInt8) × Int) × Int × Int) (a0_2 : List (Int × UInt64 × (List UInt8) × Int)) (a1 : Int) (rc : (List UInt8) → Int → (List (Int × UInt64 × (List UInt8) × Int)) → Int → Int → Int → Option (List UInt8 × Int × List (Int × UInt64 × (List UInt8) × Int) × Int × Int)) : Bool → Option (List UInt8 × Int × List (Int × UInt64 × (List UInt8) × Int) × Int × Int)
 | x_8 =>
  if x_8 = true then
  (
   obind (F.ref30_Reader_fail x_3.2.2.1 x_3.2.2.2.1 x_3.2.2.2.2.1 x_3.2.2.2.2.2.1 x_3.2.2.2.2.2.2 11 a0_1) fun x_10 =>
   some (x_10.1, x_10.2.1, x_10.2.2.1, x_10.2.2.2.1, x_10.2.2.2.2)
  ) else (
   if (x_3.1 == 0) = true then
   (
    F.ref30_Reader_item_s_K2 x_3 a0_2 a1 rc a0_1 (x_3.1 == 0)
   ) else (
    if (x_3.1 == 1) = true then
    (
     F.ref30_Reader_item_s_K2 x_3 a0_2 a1 rc a0_1 (x_3.1 == 1)
    ) else (
     F.ref30_Reader_item_s_K2 x_3 a0_2 a1 rc a0_1 (x_3.1 == 7)
    )
   )
  )
noncomputable def F.ref30_Reader_item_s (rc : (List UInt8) → Int → (List (Int × UInt64 × (List UInt8) × Int)) → Int → Int → Int → Option (List UInt8 × Int × List (Int × UInt64 × (List UInt8) × Int) × Int × Int)) (a0_0 : List UInt8) (a0_1 : Int) (a0_2 : List (Int × UInt64 × (List UInt8) × Int)) (a0_3 : Int) (a0_4 : Int) (a1 : Int) : Option (List UInt8 × Int × List (Int × UInt64 × (List UInt8) × Int) × Int × Int) :=
 if (a0_3 != 0) = true then
 (
  some (a0_0, a0_1, a0_2, a0_3, a0_4)
 ) else (
  obind (F.ref30_Reader_head a0_0 a0_1 a0_2 a0_3 a0_4) fun x_3 =>
  if (x_3.2.2.2.2.2.1 != 0) = true then
  (
   some (x_3.2.2.1, x_3.2.2.2.1, x_3.2.2.2.2.1, x_3.2.2.2.2.2.1, x_3.2.2.2.2.2.2)
  ) else (
   if (decide ((4 : Int) ≤ x_3.1)) = true then
   (
    if (decide (x_3.1 ≤ 6)) = true then
    (
     F.ref30_Reader_item_s_K1 a0_1 x_3 a0_2 a1 rc (a1 == 32)
    ) else (
     F.ref30_Reader_item_s_K1 a0_1 x_3 a0_2 a1 rc false
    )
   ) else (
    F.ref30_Reader_item_s_K1 a0_1 x_3 a0_2 a1 rc false
   )
  )
 )
noncomputable def F.ref30_Reader_item_n : Nat → (List UInt8) → Int → (List (Int × UInt64 × (List UInt8) × Int)) → Int → Int → Int → Option (List UInt8 × Int × List (Int × UInt64 × (List UInt8) × Int) × Int × Int)
 | 0 => fun _ _ _ _ _ _ => none
 | n + 1 => F.ref30_Reader_item_s (F.ref30_Reader_item_n n)
noncomputable def F.ref30_Reader_item (a0_0 : List UInt8) (a0_1 : Int) (a0_2 : List (Int × UInt64 × (List UInt8) × Int)) (a0_3 : Int) (a0_4 : Int) (a1 : Int) : Option (List UInt8 × Int × List (Int × UInt64 × (List UInt8) × Int) × Int × Int) := F.ref30_Reader_item_n 64 a0_0 a0_1 a0_2 a0_3 a0_4 a1
noncomputable def F.ref30_Parse_K1  : List UInt8 × Int × (List (Int × UInt64 × (List UInt8) × Int)) × Int × Int → Option (List (Int × UInt64 × (List UInt8) × Int) × Int × Int)
 | (x_14, x_15, x_16, x_19, x_20) =>
  if (x_19 != 0) = true then
  (
   some ([], x_19, x_20)
  ) else (
   some (x_16, 0, 0)
  )
noncomputable def F.ref30_Parse_K2 (x_4 : List UInt8 × Int × List (Int × UInt64 × (List UInt8) × Int) × Int × Int) : Bool → Option (List (Int × UInt64 × (List UInt8) × Int) × Int × Int)
 | x_8 =>
  if x_8 = true then
  (
   obind (F.ref30_Reader_fail x_4.1 x_4.2.1 x_4.2.2.1 x_4.2.2.2.1 x_4.2.2.2.2 220 x_4.2.1) fun x_10 =>
   F.ref30_Parse_K1 (x_10.1, x_10.2.1, x_10.2.2.1, x_10.2.2.2.1, x_10.2.2.2.2)
  ) else (
   F.ref30_Parse_K1 (x_4.1, x_4.2.1, x_4.2.2.1, x_4.2.2.2.1, x_4.2.2.2.2)
  )
noncomputable def F.ref30_Parse (a0 : List UInt8) : Option (List (Int × UInt64 × (List UInt8) × Int) × Int × Int) :=
 if (decide ((65536 : Int) < (a0.length : Int))) = true then
 (
  some ([], 10, 0)
 ) else (
  obind (F.ref30_Reader_item a0 0 [] 0 0 0) fun x_4 =>
  if (x_4.2.2.2.1 == 0) = true then
  (
   F.ref30_Parse_K2 x_4 (decide (x_4.2.1 < (a0.length : Int)))
  ) else (
   F.ref30_Parse_K2 x_4 false
  )
 )
noncomputable def F.ref30_Behind_K1 (a0 : List (Int × UInt64 × (List UInt8) × Int)) (a1 : Int) : Bool → Option (Int)
 | x_4 =>
  if x_4 = true then
  (
   some (-1)
  ) else (
   obind (F.ref30_behind a0 a1) fun x_6 =>
   some x_6
  )
noncomputable def F.ref30_Behind (a0 : List (Int × UInt64 × (List UInt8) × Int)) (a1 : Int) : Option (Int) :=
 obind (F.ref30_Shaped a0) fun x_1 =>
 if (!x_1) = true then
 (
  F.ref30_Behind_K1 a0 a1 true
 ) else (
  if (decide (a1 < 0)) = true then
  (
   F.ref30_Behind_K1 a0 a1 true
  ) else (
   F.ref30_Behind_K1 a0 a1 (decide ((a0.length : Int) ≤ a1))
  )
 )
noncomputable def F.ref30_Member_L1 (a0 : List (Int × UInt64 × (List UInt8) × Int)) (a1 : Int) (a2 : List (Int × UInt64 × (List UInt8) × Int)) : Int × Int → Option ((Int × Int) ⊕ (Int))
 | (x_8, x_9) =>
  obind (getO a0 (a1 : Int)) fun x_13 =>
  if (decide (x_9 < (wI (Int.tdiv x_13.2.2.2 2)))) = true then
  (
   obind (F.ref30_behind a0 x_8) fun x_14 =>
   obind (slO a0 (x_8 : Int) (x_14 : Int)) fun x_15 =>
   obind (F.ref30_same x_15 a2) fun x_16 =>
   if x_16 = true then
   (
    oinr (
     some x_14
    )
   ) else (
    obind (F.ref30_behind a0 x_14) fun x_17 =>
    oinl (x_17, wI (x_9 + 1))
   )
  ) else (
   oinr (
    some (-1)
   )
  )
noncomputable def F.ref30_Member_K1 (a1 : Int) (a0 : List (Int × UInt64 × (List UInt8) × Int)) (a2 : List (Int × UInt64 × (List UInt8) × Int)) : Bool → Option (Int)
 | x_6 =>
  if x_6 = true then
  (
   some (-1)
  ) else (
   loop (F.ref30_Member_L1 a0 a1 a2) (wI (a1 + 1), 0)
  )
noncomputable def F.ref30_Member (a0 : List (Int × UInt64 × (List UInt8) × Int)) (a1 : Int) (a2 : List (Int × UInt64 × (List UInt8) × Int)) : Option (Int) :=
 obind (F.ref30_Shaped a0) fun x_1 =>
 if (!x_1) = true then
 (
  F.ref30_Member_K1 a1 a0 a2 true
 ) else (
  if (decide (a1 < 0)) = true then
  (
   F.ref30_Member_K1 a1 a0 a2 true
  ) else (
   if (decide ((a0.length : Int) ≤ a1)) = true then
   (
    F.ref30_Member_K1 a1 a0 a2 true
   ) else (
    obind (getO a0 (a1 : Int)) fun x_5 =>
    F.ref30_Member_K1 a1 a0 a2 (x_5.1 != 5)
   )
  )
 )
noncomputable def F.ref30_Print_K1 (x_1 : List UInt8 × Int) : Bool → Option (List UInt8 × Int)
 | x_5 =>
  if x_5 = true then
  (
   some ([], 220)
  ) else (
   if (decide ((65536 : Int) < (x_1.1.length : Int))) = true then
   (
    some ([], 10)
   ) else (
    some (x_1.1, 0)
   )
  )
noncomputable def F.ref30_Print (a0 : List (Int × UInt64 × (List UInt8) × Int)) : Option (List UInt8 × Int) :=
 obind (F.ref30_said a0 0 0) fun x_1 =>
 if (x_1.2 != (a0.length : Int)) = true then
 (
  F.ref30_Print_K1 x_1 true
 ) else (
  F.ref30_Print_K1 x_1 (decide (x_1.2 ≤ 0))
 )
end Go.Gk
