import Derived.Test.YtldhmmipbogabaaGreatDoorGkS
set_option linter.unusedVariables false
set_option linter.unusedSimpArgs false
set_option linter.unusedVariables false
namespace Go.Gk
noncomputable def F.ref1_signs (a0 : Bool) : Option (List UInt8) :=
 if a0 = true then
 (
  obind (sadO [65, 66, 67, 68, 69, 70, 71, 72, 73, 74, 75, 76, 77, 78, 79, 80, 81, 82, 83, 84, 85, 86, 87, 88, 89, 90, 97, 98, 99, 100, 101, 102, 103, 104, 105, 106, 107, 108, 109, 110, 111, 112, 113, 114, 115, 116, 117, 118, 119, 120, 121, 122, 48, 49, 50, 51, 52, 53, 54, 55, 56, 57] [43, 47]) fun x_1 =>
  some x_1
 ) else (
  obind (sadO [65, 66, 67, 68, 69, 70, 71, 72, 73, 74, 75, 76, 77, 78, 79, 80, 81, 82, 83, 84, 85, 86, 87, 88, 89, 90, 97, 98, 99, 100, 101, 102, 103, 104, 105, 106, 107, 108, 109, 110, 111, 112, 113, 114, 115, 116, 117, 118, 119, 120, 121, 122, 48, 49, 50, 51, 52, 53, 54, 55, 56, 57] [45, 95]) fun x_2 =>
  some x_2
 )
noncomputable def F.ref1_bit (a0 : List UInt8) (a1 : Int) : Option (Int) :=
 if (decide ((a0.length : Int) ≤ (wI (Int.tdiv a1 8)))) = true then
 (
  some 0
 ) else (
  obind (getO a0 (wI (Int.tdiv a1 8) : Int)) fun x_1 =>
  some (iAnd ((shr8 x_1 ((UInt64.ofInt (wI (7 - (Int.tmod a1 8)))).toNat)).toNat : Int) 1)
 )
noncomputable def F.ref1_spell_L2 (a0 : List UInt8) (x_1 : List UInt8) (x_2 : List UInt8) (x_5 : Int) : Int × Int → Option ((Int × Int) ⊕ ((List UInt8 × Int) ⊕ (List UInt8)))
 | (x_9, x_10) =>
  if (decide (x_10 < 6)) = true then
  (
   obind (F.ref1_bit a0 (wI (x_5 + x_10))) fun x_14 =>
   olet (wI ((wI (2 * x_9)) + x_14)) fun x_15 =>
   oinl (x_15, wI (x_10 + 1))
  ) else (
   oinr (
    obind (getO x_1 (x_9 : Int)) fun x_16 =>
    obind (apO 1 x_2 [x_16]) fun x_19 =>
    oinl (x_19, wI (x_5 + 6))
   )
  )
noncomputable def F.ref1_spell_L1 (a0 : List UInt8) (x_1 : List UInt8) : List UInt8 × Int → Option ((List UInt8 × Int) ⊕ (List UInt8))
 | (x_2, x_5) =>
  if (decide (x_5 < (wI (8 * (a0.length : Int))))) = true then
  (
   loop (F.ref1_spell_L2 a0 x_1 x_2 x_5) (0, 0)
  ) else (
   oinr (
    some x_2
   )
  )
noncomputable def F.ref1_spell (a0 : List UInt8) (a1 : Bool) : Option (List UInt8) :=
 obind (F.ref1_signs a1) fun x_1 =>
 loop (F.ref1_spell_L1 a0 x_1) ([], 0)
noncomputable def F.ref1_Encode (a0 : List UInt8) : Option (List UInt8) :=
 obind (F.ref1_spell a0 false) fun x_1 =>
 some x_1
noncomputable def F.ref1_EncodeStd_L1  : List UInt8 → Option ((List UInt8) ⊕ (List UInt8))
 | x_2 =>
  if ((Int.tmod (x_2.length : Int) 4) != 0) = true then
  (
   obind (sadO x_2 [61]) fun x_6 =>
   oinl x_6
  ) else (
   oinr (
    some x_2
   )
  )
noncomputable def F.ref1_EncodeStd (a0 : List UInt8) : Option (List UInt8) :=
 obind (F.ref1_spell a0 true) fun x_1 =>
 loop (F.ref1_EncodeStd_L1) x_1
noncomputable def F.ref1_number_L1 (a0 : UInt8) (x_1 : List UInt8) : Int → Option ((Int) ⊕ (Int))
 | x_2 =>
  if (decide (x_2 < (x_1.length : Int))) = true then
  (
   obind (getO x_1 (x_2 : Int)) fun x_6 =>
   if (x_6 == a0) = true then
   (
    oinr (
     some x_2
    )
   ) else (
    oinl (wI (x_2 + 1))
   )
  ) else (
   oinr (
    some (-1)
   )
  )
noncomputable def F.ref1_number (a0 : UInt8) (a1 : Bool) : Option (Int) :=
 obind (F.ref1_signs a1) fun x_1 =>
 loop (F.ref1_number_L1 a0 x_1) 0
noncomputable def F.ref1_read_K1 (x_4 : Int) : List UInt8 → Option ((Int × List UInt8) ⊕ (List UInt8 × Bool))
 | x_17 =>
  oinl (wI (x_4 + 1), x_17)
noncomputable def F.ref1_read_L1 (a0 : List UInt8) (a1 : Bool) : Int × List UInt8 → Option ((Int × List UInt8) ⊕ (List UInt8 × Bool))
 | (x_4, x_5) =>
  if (decide (x_4 < (wI (6 * (a0.length : Int))))) = true then
  (
   obind (getO a0 (wI (Int.tdiv x_4 6) : Int)) fun x_9 =>
   obind (F.ref1_number x_9 a1) fun x_10 =>
   olet (iAnd (iShr x_10 ((UInt64.ofInt (wI (5 - (Int.tmod x_4 6)))).toNat)) 1) fun x_11 =>
   if (decide ((wI (Int.tdiv x_4 8)) < (x_5.length : Int))) = true then
   (
    obind (getO x_5 (wI (Int.tdiv x_4 8) : Int)) fun x_12 =>
    obind (getO x_5 (wI (Int.tdiv x_4 8) : Int)) fun x_13 =>
    olet (x_5.set (wI (Int.tdiv x_4 8) : Int).toNat (x_12 ||| (UInt8.ofInt (iShl x_11 ((UInt64.ofInt (wI (7 - (Int.tmod x_4 8)))).toNat))))) fun x_14 =>
    F.ref1_read_K1 x_4 x_14
   ) else (
    if (x_11 == 1) = true then
    (
     oinr (
      some ([], false)
     )
    ) else (
     F.ref1_read_K1 x_4 x_5
    )
   )
  ) else (
   oinr (
    some (x_5, true)
   )
  )
noncomputable def F.ref1_read (a0 : List UInt8) (a1 : Bool) : Option (List UInt8 × Bool) :=
 obind (mkO 1 (wI (Int.tdiv (wI ((a0.length : Int) * 6)) 8) : Int) (wI (Int.tdiv (wI ((a0.length : Int) * 6)) 8) : Int) (0 : UInt8)) fun x_1 =>
 loop (F.ref1_read_L1 a0 a1) (0, x_1)
noncomputable def F.ref1_Decode_L1 (a0 : List UInt8) : Int → Option ((Int) ⊕ (List UInt8 × Int × Int))
 | x_1 =>
  if (decide (x_1 < (a0.length : Int))) = true then
  (
   obind (getO a0 (x_1 : Int)) fun x_5 =>
   obind (F.ref1_number x_5 false) fun x_6 =>
   if (decide (x_6 < 0)) = true then
   (
    oinr (
     some ([], 20, x_1)
    )
   ) else (
    oinl (wI (x_1 + 1))
   )
  ) else (
   oinr (
    if ((Int.tmod (a0.length : Int) 4) == 1) = true then
    (
     some ([], 21, (a0.length : Int))
    ) else (
     obind (F.ref1_read a0 false) fun x_8 =>
     if (!x_8.2) = true then
     (
      some ([], 22, wI ((a0.length : Int) - 1))
     ) else (
      some (x_8.1, 0, 0)
     )
    )
   )
  )
noncomputable def F.ref1_Decode (a0 : List UInt8) : Option (List UInt8 × Int × Int) :=
 loop (F.ref1_Decode_L1 a0) 0
noncomputable def F.ref1_DecodeStd_K1 (x_2 : Int) : Int → Option ((Int × Int) ⊕ (List UInt8 × Int × Int))
 | x_23 =>
  oinl (x_23, wI (x_2 + 1))
noncomputable def F.ref1_DecodeStd_K4 (x_1 : Int) (x_2 : Int) : Bool → Option ((Int × Int) ⊕ (List UInt8 × Int × Int))
 | x_19 =>
  if x_19 = true then
  (
   F.ref1_DecodeStd_K1 x_2 x_2
  ) else (
   F.ref1_DecodeStd_K1 x_2 x_1
  )
noncomputable def F.ref1_DecodeStd_K3 (x_1 : Int) (x_2 : Int) (x_11 : Bool) : Bool → Option ((Int × Int) ⊕ (List UInt8 × Int × Int))
 | x_16 =>
  if x_16 = true then
  (
   oinr (
    some ([], 20, x_2)
   )
  ) else (
   if x_11 = true then
   (
    F.ref1_DecodeStd_K4 x_1 x_2 (decide (x_2 < x_1))
   ) else (
    F.ref1_DecodeStd_K4 x_1 x_2 false
   )
  )
noncomputable def F.ref1_DecodeStd_K2 (a0 : List UInt8) (x_2 : Int) (x_1 : Int) : Bool → Option ((Int × Int) ⊕ (List UInt8 × Int × Int))
 | x_11 =>
  obind (getO a0 (x_2 : Int)) fun x_13 =>
  obind (F.ref1_number x_13 true) fun x_14 =>
  if (decide (x_14 < 0)) = true then
  (
   F.ref1_DecodeStd_K3 x_1 x_2 x_11 (!x_11)
  ) else (
   F.ref1_DecodeStd_K3 x_1 x_2 x_11 false
  )
noncomputable def F.ref1_DecodeStd_L1 (a0 : List UInt8) : Int × Int → Option ((Int × Int) ⊕ (List UInt8 × Int × Int))
 | (x_1, x_2) =>
  if (decide (x_2 < (a0.length : Int))) = true then
  (
   obind (getO a0 (x_2 : Int)) fun x_6 =>
   if (x_6 == 61) = true then
   (
    if (x_2 == (wI ((a0.length : Int) - 1))) = true then
    (
     F.ref1_DecodeStd_K2 a0 x_2 x_1 true
    ) else (
     if (x_2 == (wI ((a0.length : Int) - 2))) = true then
     (
      obind (getO a0 (wI ((a0.length : Int) - 1) : Int)) fun x_10 =>
      F.ref1_DecodeStd_K2 a0 x_2 x_1 (x_10 == 61)
     ) else (
      F.ref1_DecodeStd_K2 a0 x_2 x_1 false
     )
    )
   ) else (
    F.ref1_DecodeStd_K2 a0 x_2 x_1 false
   )
  ) else (
   oinr (
    if ((Int.tmod (a0.length : Int) 4) != 0) = true then
    (
     some ([], 21, (a0.length : Int))
    ) else (
     obind (tkO a0 (x_1 : Int)) fun x_25 =>
     obind (F.ref1_read x_25 true) fun x_26 =>
     if (!x_26.2) = true then
     (
      some ([], 22, wI (x_1 - 1))
     ) else (
      some (x_26.1, 0, 0)
     )
    )
   )
  )
noncomputable def F.ref1_DecodeStd (a0 : List UInt8) : Option (List UInt8 × Int × Int) :=
 loop (F.ref1_DecodeStd_L1 a0) ((a0.length : Int), 0)
end Go.Gk
