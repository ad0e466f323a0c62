import Derived.Test.YtldhmmipbogabaaGreatDoorGkS
import Derived.Test.YtldhmmipbogabaaGreatDoorGkFref1
import Derived.Test.YtldhmmipbogabaaGreatDoorGkFref4
import Derived.Test.YtldhmmipbogabaaGreatDoorGkFref5
set_option linter.unusedVariables false
set_option linter.unusedSimpArgs false
set_option linter.unusedVariables false
namespace Go.Gk
noncomputable def F.ref18_Split_K1 (x_4 : Int) : List Int → Option ((List Int × Int) ⊕ (List UInt8 × List UInt8 × List UInt8 × Int))
 | x_8 =>
  oinl (x_8, wI (x_4 + 1))
noncomputable def F.ref18_Split_L1 (a0 : List UInt8) : List Int × Int → Option ((List Int × Int) ⊕ (List UInt8 × List UInt8 × List UInt8 × Int))
 | (x_1, x_4) =>
  if (decide (x_4 < (a0.length : Int))) = true then
  (
   obind (getO a0 (x_4 : Int)) fun x_12 =>
   if (x_12 == 46) = true then
   (
    obind (apO 8 x_1 ([x_4] : List Int)) fun x_15 =>
    F.ref18_Split_K1 x_4 x_15
   ) else (
    F.ref18_Split_K1 x_4 x_1
   )
  ) else (
   oinr (
    if ((x_1.length : Int) != 2) = true then
    (
     some ([], [], [], 120)
    ) else (
     obind (getO x_1 (0 : Int)) fun x_19 =>
     obind (tkO a0 (x_19 : Int)) fun x_20 =>
     obind (getO x_1 (0 : Int)) fun x_21 =>
     obind (getO x_1 (1 : Int)) fun x_22 =>
     obind (slO a0 (wI (x_21 + 1) : Int) (x_22 : Int)) fun x_23 =>
     obind (getO x_1 (1 : Int)) fun x_24 =>
     obind (drO a0 (wI (x_24 + 1) : Int)) fun x_25 =>
     some (x_20, x_23, x_25, 0)
    )
   )
  )
noncomputable def F.ref18_Split (a0 : List UInt8) : Option (List UInt8 × List UInt8 × List UInt8 × Int) :=
 if (decide ((65536 : Int) < (a0.length : Int))) = true then
 (
  some ([], [], [], 10)
 ) else (
  loop (F.ref18_Split_L1 a0) ([], 0)
 )
noncomputable def F.ref18_Decode (a0 : List UInt8) : Option (List UInt8 × List UInt8 × List UInt8 × Int) :=
 obind (F.ref18_Split a0) fun x_1 =>
 if (x_1.2.2.2 != 0) = true then
 (
  some ([], [], [], x_1.2.2.2)
 ) else (
  obind (F.ref1_Decode x_1.1) fun x_2 =>
  if (x_2.2.1 != 0) = true then
  (
   some ([], [], [], x_2.2.1)
  ) else (
   obind (F.ref1_Decode x_1.2.1) fun x_5 =>
   if (x_5.2.1 != 0) = true then
   (
    some ([], [], [], x_5.2.1)
   ) else (
    obind (F.ref1_Decode x_1.2.2.1) fun x_8 =>
    if (x_8.2.1 != 0) = true then
    (
     some ([], [], [], x_8.2.1)
    ) else (
     some (x_2.1, x_5.1, x_8.1, 0)
    )
   )
  )
 )
noncomputable def F.ref18_Compact_K1 (a0 : List UInt8) (a1 : List UInt8) (a2 : List UInt8) : Bool → Option (List UInt8 × Int)
 | x_1 =>
  if x_1 = true then
  (
   some ([], 10)
  ) else (
   obind (F.ref1_Encode a0) fun x_3 =>
   obind (sadO x_3 [46]) fun x_4 =>
   obind (F.ref1_Encode a1) fun x_5 =>
   obind (sadO x_4 x_5) fun x_6 =>
   obind (sadO x_6 [46]) fun x_7 =>
   obind (F.ref1_Encode a2) fun x_8 =>
   obind (sadO x_7 x_8) fun x_9 =>
   if (decide ((65536 : Int) < (x_9.length : Int))) = true then
   (
    some ([], 10)
   ) else (
    some (x_9, 0)
   )
  )
noncomputable def F.ref18_Compact (a0 : List UInt8) (a1 : List UInt8) (a2 : List UInt8) : Option (List UInt8 × Int) :=
 if (decide ((65536 : Int) < (a0.length : Int))) = true then
 (
  F.ref18_Compact_K1 a0 a1 a2 true
 ) else (
  if (decide ((65536 : Int) < (a1.length : Int))) = true then
  (
   F.ref18_Compact_K1 a0 a1 a2 true
  ) else (
   F.ref18_Compact_K1 a0 a1 a2 (decide ((65536 : Int) < (a2.length : Int)))
  )
 )
noncomputable def F.ref18_Rows  : Option (List (Int × Int × Int × Int × Int)) :=
 some ([(1, 1, 0, 1, 1), (2, 1, 0, 2, 1), (3, 1, 0, 3, 1), (4, 2, 0, 1, 2), (5, 2, 0, 2, 2), (6, 2, 0, 3, 2), (7, 2, 0, 1, 3), (8, 2, 0, 2, 3), (9, 2, 0, 3, 3), (10, 3, 1, 1, 4), (11, 3, 2, 2, 4), (12, 4, 3, 0, 5)] : List (Int × Int × Int × Int × Int))
noncomputable def F.ref18_Find_L1 (a0 : Int) (x_3 : List (Int × Int × Int × Int × Int)) : Int → Option ((Int) ⊕ (Int × Int × Int × Int × Int × Bool))
 | x_6 =>
  if (decide (x_6 < (x_3.length : Int))) = true then
  (
   obind (getO x_3 (x_6 : Int)) fun x_10 =>
   if (x_10.1 == a0) = true then
   (
    obind (getO x_3 (x_6 : Int)) fun x_11 =>
    oinr (
     some (x_11.1, x_11.2.1, x_11.2.2.1, x_11.2.2.2.1, x_11.2.2.2.2, true)
    )
   ) else (
    oinl (wI (x_6 + 1))
   )
  ) else (
   oinr (
    some (0, 0, 0, 0, 0, false)
   )
  )
noncomputable def F.ref18_Find (a0 : Int) : Option (Int × Int × Int × Int × Int × Bool) :=
 obind (F.ref18_Rows ) fun x_3 =>
 loop (F.ref18_Find_L1 a0 x_3) 0
noncomputable def F.ref18_Tag_K2 (a1 : List UInt8) (a2 : List UInt8) (x_1 : Int × Int × Int × Int × Int × Bool) : Bool → Option (List UInt8 × Int)
 | x_9 =>
  if x_9 = true then
  (
   some ([], 90)
  ) else (
   obind (apO 1 [] a2) fun x_11 =>
   obind (F.ref5_Sum x_1.2.2.2.1 a1 x_11) fun x_14 =>
   some (x_14, 0)
  )
noncomputable def F.ref18_Tag_K1 (a1 : List UInt8) (x_1 : Int × Int × Int × Int × Int × Bool) (a2 : List UInt8) : Bool → Option (List UInt8 × Int)
 | x_5 =>
  if x_5 = true then
  (
   some ([], 111)
  ) else (
   obind (F.ref4_Size x_1.2.2.2.1) fun x_7 =>
   if (decide ((a1.length : Int) < x_7)) = true then
   (
    F.ref18_Tag_K2 a1 a2 x_1 true
   ) else (
    F.ref18_Tag_K2 a1 a2 x_1 (decide ((4096 : Int) < (a1.length : Int)))
   )
  )
noncomputable def F.ref18_Tag (a0 : Int) (a1 : List UInt8) (a2 : List UInt8) : Option (List UInt8 × Int) :=
 obind (F.ref18_Find a0) fun x_1 =>
 if (!x_1.2.2.2.2.2) = true then
 (
  F.ref18_Tag_K1 a1 x_1 a2 true
 ) else (
  F.ref18_Tag_K1 a1 x_1 a2 (x_1.2.2.2.2.1 != 1)
 )
end Go.Gk
