import Derived.Test.YtpbgncmffgnohaaGkS
import Derived.Test.YtpbgncmffgnohaaGkFref6
import Derived.Test.YtpbgncmffgnohaaGkFref7
set_option linter.unusedVariables false
set_option linter.unusedSimpArgs false
set_option linter.unusedVariables false
namespace Go.Gk
noncomputable def F.ref11_digit (a0 : UInt8) : Option (UInt32) :=
 if (decide ((97 : UInt8) ≤ a0)) = true then
 (
  some (((a0 - 97).toUInt32) + 10)
 ) else (
  some ((a0 - 48).toUInt32)
 )
noncomputable def F.ref11_number_L2 (a0 : List UInt8) (x_1 : List UInt32) (x_4 : Int) : UInt32 × Int → Option ((UInt32 × Int) ⊕ ((List UInt32 × Int) ⊕ (List UInt32)))
 | (x_8, x_9) =>
  if (decide (x_9 < x_4)) = true then
  (
   obind (getO a0 (x_9 : Int)) fun x_13 =>
   obind (F.ref11_digit x_13) fun x_14 =>
   oinl ((16 * x_8) + x_14, wI (x_9 + 1))
  ) else (
   oinr (
    obind (apO 4 x_1 ([x_8] : List UInt32)) fun x_17 =>
    oinl (x_17, wI (x_4 - 8))
   )
  )
noncomputable def F.ref11_number_L1 (a0 : List UInt8) : List UInt32 × Int → Option ((List UInt32 × Int) ⊕ (List UInt32))
 | (x_1, x_4) =>
  if (decide ((0 : Int) < x_4)) = true then
  (
   loop (F.ref11_number_L2 a0 x_1 x_4) (0, wI (x_4 - 8))
  ) else (
   oinr (
    some x_1
   )
  )
noncomputable def F.ref11_number (a0 : List UInt8) : Option (List UInt32) :=
 loop (F.ref11_number_L1 a0) ([], (a0.length : Int))
noncomputable def F.ref11_Field (a0 : Int) : Option (List UInt32) :=
 if (a0 == 1) = true then
 (
  obind (F.ref11_number [102, 102, 102, 102, 102, 102, 102, 102, 48, 48, 48, 48, 48, 48, 48, 49, 48, 48, 48, 48, 48, 48, 48, 48, 48, 48, 48, 48, 48, 48, 48, 48, 48, 48, 48, 48, 48, 48, 48, 48, 102, 102, 102, 102, 102, 102, 102, 102, 102, 102, 102, 102, 102, 102, 102, 102, 102, 102, 102, 102, 102, 102, 102, 102]) fun x_1 =>
  some x_1
 ) else (
  if (a0 == 2) = true then
  (
   obind (F.ref11_number [102, 102, 102, 102, 102, 102, 102, 102, 102, 102, 102, 102, 102, 102, 102, 102, 102, 102, 102, 102, 102, 102, 102, 102, 102, 102, 102, 102, 102, 102, 102, 102, 102, 102, 102, 102, 102, 102, 102, 102, 102, 102, 102, 102, 102, 102, 102, 102, 102, 102, 102, 102, 102, 102, 102, 102, 102, 102, 102, 102, 102, 102, 102, 101, 102, 102, 102, 102, 102, 102, 102, 102, 48, 48, 48, 48, 48, 48, 48, 48, 48, 48, 48, 48, 48, 48, 48, 48, 102, 102, 102, 102, 102, 102, 102, 102]) fun x_4 =>
   some x_4
  ) else (
   some []
  )
 )
noncomputable def F.ref11_Order (a0 : Int) : Option (List UInt32) :=
 if (a0 == 1) = true then
 (
  obind (F.ref11_number [102, 102, 102, 102, 102, 102, 102, 102, 48, 48, 48, 48, 48, 48, 48, 48, 102, 102, 102, 102, 102, 102, 102, 102, 102, 102, 102, 102, 102, 102, 102, 102, 98, 99, 101, 54, 102, 97, 97, 100, 97, 55, 49, 55, 57, 101, 56, 52, 102, 51, 98, 57, 99, 97, 99, 50, 102, 99, 54, 51, 50, 53, 53, 49]) fun x_1 =>
  some x_1
 ) else (
  if (a0 == 2) = true then
  (
   obind (F.ref11_number [102, 102, 102, 102, 102, 102, 102, 102, 102, 102, 102, 102, 102, 102, 102, 102, 102, 102, 102, 102, 102, 102, 102, 102, 102, 102, 102, 102, 102, 102, 102, 102, 102, 102, 102, 102, 102, 102, 102, 102, 102, 102, 102, 102, 102, 102, 102, 102, 99, 55, 54, 51, 52, 100, 56, 49, 102, 52, 51, 55, 50, 100, 100, 102, 53, 56, 49, 97, 48, 100, 98, 50, 52, 56, 98, 48, 97, 55, 55, 97, 101, 99, 101, 99, 49, 57, 54, 97, 99, 99, 99, 53, 50, 57, 55, 51]) fun x_4 =>
   some x_4
  ) else (
   some []
  )
 )
noncomputable def F.ref11_Base (a0 : Int) : Option (List UInt32 × List UInt32 × Bool) :=
 if (a0 == 1) = true then
 (
  obind (F.ref11_number [54, 98, 49, 55, 100, 49, 102, 50, 101, 49, 50, 99, 52, 50, 52, 55, 102, 56, 98, 99, 101, 54, 101, 53, 54, 51, 97, 52, 52, 48, 102, 50, 55, 55, 48, 51, 55, 100, 56, 49, 50, 100, 101, 98, 51, 51, 97, 48, 102, 52, 97, 49, 51, 57, 52, 53, 100, 56, 57, 56, 99, 50, 57, 54]) fun x_3 =>
  obind (F.ref11_number [52, 102, 101, 51, 52, 50, 101, 50, 102, 101, 49, 97, 55, 102, 57, 98, 56, 101, 101, 55, 101, 98, 52, 97, 55, 99, 48, 102, 57, 101, 49, 54, 50, 98, 99, 101, 51, 51, 53, 55, 54, 98, 51, 49, 53, 101, 99, 101, 99, 98, 98, 54, 52, 48, 54, 56, 51, 55, 98, 102, 53, 49, 102, 53]) fun x_6 =>
  some (x_3, x_6, false)
 ) else (
  if (a0 == 2) = true then
  (
   obind (F.ref11_number [97, 97, 56, 55, 99, 97, 50, 50, 98, 101, 56, 98, 48, 53, 51, 55, 56, 101, 98, 49, 99, 55, 49, 101, 102, 51, 50, 48, 97, 100, 55, 52, 54, 101, 49, 100, 51, 98, 54, 50, 56, 98, 97, 55, 57, 98, 57, 56, 53, 57, 102, 55, 52, 49, 101, 48, 56, 50, 53, 52, 50, 97, 51, 56, 53, 53, 48, 50, 102, 50, 53, 100, 98, 102, 53, 53, 50, 57, 54, 99, 51, 97, 53, 52, 53, 101, 51, 56, 55, 50, 55, 54, 48, 97, 98, 55]) fun x_9 =>
   obind (F.ref11_number [51, 54, 49, 55, 100, 101, 52, 97, 57, 54, 50, 54, 50, 99, 54, 102, 53, 100, 57, 101, 57, 56, 98, 102, 57, 50, 57, 50, 100, 99, 50, 57, 102, 56, 102, 52, 49, 100, 98, 100, 50, 56, 57, 97, 49, 52, 55, 99, 101, 57, 100, 97, 51, 49, 49, 51, 98, 53, 102, 48, 98, 56, 99, 48, 48, 97, 54, 48, 98, 49, 99, 101, 49, 100, 55, 101, 56, 49, 57, 100, 55, 97, 52, 51, 49, 100, 55, 99, 57, 48, 101, 97, 48, 101, 53, 102]) fun x_12 =>
   some (x_9, x_12, false)
  ) else (
   some ([], [], false)
  )
 )
noncomputable def F.ref11_Size (a0 : Int) : Option (Int) :=
 if (a0 == 1) = true then
 (
  some 32
 ) else (
  if (a0 == 2) = true then
  (
   some 48
  ) else (
   some 0
  )
 )
noncomputable def F.ref11_Proper_L2 (a0 : List UInt32) (x_1 : Int) : List UInt32 × Int → Option ((List UInt32 × Int) ⊕ (List UInt32))
 | (x_9, x_12) =>
  if (decide (x_12 < x_1)) = true then
  (
   obind (getO a0 (x_12 : Int)) fun x_16 =>
   obind (apO 4 x_9 ([x_16] : List UInt32)) fun x_19 =>
   oinl (x_19, wI (x_12 + 1))
  ) else (
   oinr (
    some x_9
   )
  )
noncomputable def F.ref11_Proper_K1 (x_1 : Int) (a0 : List UInt32) : Bool → Option ((Int) ⊕ (List UInt32))
 | x_7 =>
  if x_7 = true then
  (
   oinl (wI (x_1 - 1))
  ) else (
   oinr (
    loop (F.ref11_Proper_L2 a0 x_1) ([], 0)
   )
  )
noncomputable def F.ref11_Proper_L1 (a0 : List UInt32) : Int → Option ((Int) ⊕ (List UInt32))
 | x_1 =>
  if (decide ((0 : Int) < x_1)) = true then
  (
   obind (getO a0 (wI (x_1 - 1) : Int)) fun x_6 =>
   F.ref11_Proper_K1 x_1 a0 (x_6 == 0)
  ) else (
   F.ref11_Proper_K1 x_1 a0 false
  )
noncomputable def F.ref11_Proper (a0 : List UInt32) : Option (List UInt32) :=
 loop (F.ref11_Proper_L1 a0) (a0.length : Int)
noncomputable def F.ref11_mul (a0 : Int) (a1 : List UInt32) (a2 : List UInt32) : Option (List UInt32) :=
 obind (F.ref11_Field a0) fun x_1 =>
 obind (F.ref7_Mul a1 a2 x_1) fun x_4 =>
 some x_4.1
noncomputable def F.ref11_sub (a0 : Int) (a1 : List UInt32) (a2 : List UInt32) : Option (List UInt32) :=
 obind (F.ref11_Field a0) fun x_1 =>
 obind (F.ref7_Sub a1 a2 x_1) fun x_4 =>
 some x_4.1
noncomputable def F.ref11_b (a0 : Int) : Option (List UInt32) :=
 if (a0 == 1) = true then
 (
  obind (F.ref11_number [53, 97, 99, 54, 51, 53, 100, 56, 97, 97, 51, 97, 57, 51, 101, 55, 98, 51, 101, 98, 98, 100, 53, 53, 55, 54, 57, 56, 56, 54, 98, 99, 54, 53, 49, 100, 48, 54, 98, 48, 99, 99, 53, 51, 98, 48, 102, 54, 51, 98, 99, 101, 51, 99, 51, 101, 50, 55, 100, 50, 54, 48, 52, 98]) fun x_1 =>
  some x_1
 ) else (
  obind (F.ref11_number [98, 51, 51, 49, 50, 102, 97, 55, 101, 50, 51, 101, 101, 55, 101, 52, 57, 56, 56, 101, 48, 53, 54, 98, 101, 51, 102, 56, 50, 100, 49, 57, 49, 56, 49, 100, 57, 99, 54, 101, 102, 101, 56, 49, 52, 49, 49, 50, 48, 51, 49, 52, 48, 56, 56, 102, 53, 48, 49, 51, 56, 55, 53, 97, 99, 54, 53, 54, 51, 57, 56, 100, 56, 97, 50, 101, 100, 49, 57, 100, 50, 97, 56, 53, 99, 56, 101, 100, 100, 51, 101, 99, 50, 97, 101, 102]) fun x_4 =>
  some x_4
 )
noncomputable def F.ref11_add (a0 : Int) (a1 : List UInt32) (a2 : List UInt32) : Option (List UInt32) :=
 obind (F.ref11_Field a0) fun x_1 =>
 obind (F.ref7_Add a1 a2 x_1) fun x_4 =>
 some x_4.1
noncomputable def F.ref11_On_K1 (a0 : Int) (x_4 : List UInt32) (x_7 : List UInt32) : Bool → Option (Bool)
 | x_20 =>
  if x_20 = true then
  (
   some false
  ) else (
   obind (F.ref11_mul a0 x_4 x_4) fun x_22 =>
   obind (F.ref11_mul a0 x_4 x_22) fun x_25 =>
   obind (F.ref11_mul a0 ([3] : List UInt32) x_4) fun x_30 =>
   obind (F.ref11_sub a0 x_25 x_30) fun x_33 =>
   obind (F.ref11_b a0) fun x_36 =>
   obind (F.ref11_add a0 x_33 x_36) fun x_39 =>
   obind (F.ref11_mul a0 x_7 x_7) fun x_42 =>
   obind (F.ref6_Cmp x_42 x_39) fun x_45 =>
   some (x_45 == 0)
  )
noncomputable def F.ref11_On (a0 : Int) (a1_0 : List UInt32) (a1_1 : List UInt32) (a1_2 : Bool) : Option (Bool) :=
 obind (F.ref11_Size a0) fun x_3 =>
 if (x_3 == 0) = true then
 (
  some false
 ) else (
  obind (F.ref11_Proper a1_0) fun x_4 =>
  obind (F.ref11_Proper a1_1) fun x_7 =>
  if a1_2 = true then
  (
   if ((x_4.length : Int) == 0) = true then
   (
    some ((x_7.length : Int) == 0)
   ) else (
    some false
   )
  ) else (
   obind (F.ref11_Field a0) fun x_11 =>
   obind (F.ref6_Cmp x_4 x_11) fun x_14 =>
   if (decide ((0 : Int) ≤ x_14)) = true then
   (
    F.ref11_On_K1 a0 x_4 x_7 true
   ) else (
    obind (F.ref11_Field a0) fun x_16 =>
    obind (F.ref6_Cmp x_7 x_16) fun x_19 =>
    F.ref11_On_K1 a0 x_4 x_7 (decide ((0 : Int) ≤ x_19))
   )
  )
 )
noncomputable def F.ref11_Decode_K1 (a0 : Int) (a1 : List UInt8) (a2 : List UInt8) : Bool → Option (List UInt32 × List UInt32 × Bool × Int)
 | x_8 =>
  if x_8 = true then
  (
   some ([], [], false, 93)
  ) else (
   obind (F.ref6_FromBytes a1) fun x_10 =>
   obind (F.ref6_FromBytes a2) fun x_13 =>
   obind (F.ref11_On a0 x_10 x_13 false) fun x_18 =>
   if (!x_18) = true then
   (
    some ([], [], false, 93)
   ) else (
    some (x_10, x_13, false, 0)
   )
  )
noncomputable def F.ref11_Decode (a0 : Int) (a1 : List UInt8) (a2 : List UInt8) : Option (List UInt32 × List UInt32 × Bool × Int) :=
 obind (F.ref11_Size a0) fun x_3 =>
 if (x_3 == 0) = true then
 (
  F.ref11_Decode_K1 a0 a1 a2 true
 ) else (
  obind (F.ref11_Size a0) fun x_5 =>
  if ((a1.length : Int) != x_5) = true then
  (
   F.ref11_Decode_K1 a0 a1 a2 true
  ) else (
   obind (F.ref11_Size a0) fun x_7 =>
   F.ref11_Decode_K1 a0 a1 a2 ((a2.length : Int) != x_7)
  )
 )
noncomputable def F.ref11_Encode_K1 (a0 : Int) (a1_0 : List UInt32) (a1_1 : List UInt32) : Bool → Option (List UInt8 × List UInt8 × Int)
 | x_5 =>
  if x_5 = true then
  (
   some ([], [], 93)
  ) else (
   obind (F.ref11_Size a0) fun x_7 =>
   obind (F.ref6_Fixed a1_0 x_7) fun x_8 =>
   obind (F.ref11_Size a0) fun x_11 =>
   obind (F.ref6_Fixed a1_1 x_11) fun x_12 =>
   some (x_8.1, x_12.1, 0)
  )
noncomputable def F.ref11_Encode (a0 : Int) (a1_0 : List UInt32) (a1_1 : List UInt32) (a1_2 : Bool) : Option (List UInt8 × List UInt8 × Int) :=
 if a1_2 = true then
 (
  F.ref11_Encode_K1 a0 a1_0 a1_1 true
 ) else (
  obind (F.ref11_On a0 a1_0 a1_1 a1_2) fun x_4 =>
  F.ref11_Encode_K1 a0 a1_0 a1_1 (!x_4)
 )
noncomputable def F.ref11_proper (a0_0 : List UInt32) (a0_1 : List UInt32) (a0_2 : Bool) : Option (List UInt32 × List UInt32 × Bool) :=
 obind (F.ref11_Proper a0_0) fun x_5 =>
 obind (F.ref11_Proper a0_1) fun x_9 =>
 some (x_5, x_9, a0_2)
noncomputable def F.ref11_Neg_K1 (x_6 : List UInt32 × List UInt32 × Bool) : List UInt32 → Option (List UInt32 × List UInt32 × Bool × Int)
 | x_17 =>
  some (x_6.1, x_17, x_6.2.2, 0)
noncomputable def F.ref11_Neg (a0 : Int) (a1_0 : List UInt32) (a1_1 : List UInt32) (a1_2 : Bool) : Option (List UInt32 × List UInt32 × Bool × Int) :=
 obind (F.ref11_On a0 a1_0 a1_1 a1_2) fun x_5 =>
 if (!x_5) = true then
 (
  some ([], [], false, 93)
 ) else (
  obind (F.ref11_proper a1_0 a1_1 a1_2) fun x_6 =>
  if (!x_6.2.2) = true then
  (
   obind (F.ref11_sub a0 [] x_6.2.1) fun x_13 =>
   F.ref11_Neg_K1 x_6 x_13
  ) else (
   F.ref11_Neg_K1 x_6 x_6.2.1
  )
 )
noncomputable def F.ref11_over (a0 : Int) (a1 : List UInt32) (a2 : List UInt32) : Option (List UInt32) :=
 obind (F.ref11_Field a0) fun x_1 =>
 obind (F.ref7_Inv a2 x_1) fun x_4 =>
 obind (F.ref11_mul a0 a1 x_4.1) fun x_7 =>
 some x_7
noncomputable def F.ref11_Sum_K1 (a0 : Int) (a1_0 : List UInt32) (a1_1 : List UInt32) (a2_0 : List UInt32) : List UInt32 → Option (List UInt32 × List UInt32 × Bool)
 | x_52 =>
  obind (F.ref11_mul a0 x_52 x_52) fun x_55 =>
  obind (F.ref11_sub a0 x_55 a1_0) fun x_58 =>
  obind (F.ref11_sub a0 x_58 a2_0) fun x_61 =>
  obind (F.ref11_sub a0 a1_0 x_61) fun x_64 =>
  obind (F.ref11_mul a0 x_52 x_64) fun x_67 =>
  obind (F.ref11_sub a0 x_67 a1_1) fun x_70 =>
  some (x_61, x_70, false)
noncomputable def F.ref11_Sum (a0 : Int) (a1_0 : List UInt32) (a1_1 : List UInt32) (a1_2 : Bool) (a2_0 : List UInt32) (a2_1 : List UInt32) (a2_2 : Bool) : Option (List UInt32 × List UInt32 × Bool) :=
 if a1_2 = true then
 (
  some (a2_0, a2_1, a2_2)
 ) else (
  if a2_2 = true then
  (
   some (a1_0, a1_1, a1_2)
  ) else (
   obind (F.ref6_Cmp a1_0 a2_0) fun x_7 =>
   if (x_7 == 0) = true then
   (
    obind (F.ref11_add a0 a1_1 a2_1) fun x_8 =>
    obind (F.ref6_Cmp x_8 []) fun x_11 =>
    if (x_11 == 0) = true then
    (
     some ([], [], true)
    ) else (
     obind (F.ref11_mul a0 a1_0 a1_0) fun x_14 =>
     obind (F.ref11_mul a0 ([3] : List UInt32) x_14) fun x_17 =>
     obind (F.ref11_sub a0 x_17 ([3] : List UInt32)) fun x_22 =>
     obind (F.ref11_mul a0 ([2] : List UInt32) a1_1) fun x_27 =>
     obind (F.ref11_over a0 x_22 x_27) fun x_30 =>
     F.ref11_Sum_K1 a0 a1_0 a1_1 a2_0 x_30
    )
   ) else (
    obind (F.ref11_sub a0 a2_1 a1_1) fun x_38 =>
    obind (F.ref11_sub a0 a2_0 a1_0) fun x_41 =>
    obind (F.ref11_over a0 x_38 x_41) fun x_44 =>
    F.ref11_Sum_K1 a0 a1_0 a1_1 a2_0 x_44
   )
  )
 )
noncomputable def F.ref11_Add_K1 (a0 : Int) (a1_0 : List UInt32) (a1_1 : List UInt32) (a1_2 : Bool) (a2_0 : List UInt32) (a2_1 : List UInt32) (a2_2 : Bool) : Bool → Option (List UInt32 × List UInt32 × Bool × Int)
 | x_12 =>
  if x_12 = true then
  (
   some ([], [], false, 93)
  ) else (
   obind (F.ref11_proper a1_0 a1_1 a1_2) fun x_14 =>
   obind (F.ref11_proper a2_0 a2_1 a2_2) fun x_19 =>
   obind (F.ref11_Sum a0 x_14.1 x_14.2.1 x_14.2.2 x_19.1 x_19.2.1 x_19.2.2) fun x_24 =>
   some (x_24.1, x_24.2.1, x_24.2.2, 0)
  )
noncomputable def F.ref11_Add (a0 : Int) (a1_0 : List UInt32) (a1_1 : List UInt32) (a1_2 : Bool) (a2_0 : List UInt32) (a2_1 : List UInt32) (a2_2 : Bool) : Option (List UInt32 × List UInt32 × Bool × Int) :=
 obind (F.ref11_On a0 a1_0 a1_1 a1_2) fun x_7 =>
 if (!x_7) = true then
 (
  F.ref11_Add_K1 a0 a1_0 a1_1 a1_2 a2_0 a2_1 a2_2 true
 ) else (
  obind (F.ref11_On a0 a2_0 a2_1 a2_2) fun x_9 =>
  F.ref11_Add_K1 a0 a1_0 a1_1 a1_2 a2_0 a2_1 a2_2 (!x_9)
 )
end Go.Gk
