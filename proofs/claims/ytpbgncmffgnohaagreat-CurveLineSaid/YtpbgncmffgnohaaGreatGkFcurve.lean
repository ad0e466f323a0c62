import Derived.Test.YtpbgncmffgnohaaGreatGkS
import Derived.Test.YtpbgncmffgnohaaGreatGkFbignum
import Derived.Test.YtpbgncmffgnohaaGreatGkFnat
set_option linter.unusedVariables false
set_option linter.unusedSimpArgs false
set_option linter.unusedVariables false
namespace Go.Gk
noncomputable def F.curve_number (a0 : List UInt8) : Option (Bool × List UInt32) :=
 obind (F.bignum_Int_SetString false [] a0 16) fun x_4 =>
 some (x_4.2.1, x_4.2.2)
noncomputable def F.curve_group_mod (a0_0_0 : Bool) (a0_0_1 : List UInt32) (a0_1_0 : Bool) (a0_1_1 : List UInt32) (a0_2_0 : Bool) (a0_2_1 : List UInt32) (a0_3_0 : Bool) (a0_3_1 : List UInt32) (a0_4_0 : Bool) (a0_4_1 : List UInt32) (a0_5 : Int) (a1_0 : Bool) (a1_1 : List UInt32) : Option (Bool × List UInt32) :=
 obind (F.bignum_Int_Mod_a10 a1_0 a1_1 a0_0_0 a0_0_1) fun x_3 =>
 some (x_3.1, x_3.2)
noncomputable def F.curve_group_mul (a0_0_0 : Bool) (a0_0_1 : List UInt32) (a0_1_0 : Bool) (a0_1_1 : List UInt32) (a0_2_0 : Bool) (a0_2_1 : List UInt32) (a0_3_0 : Bool) (a0_3_1 : List UInt32) (a0_4_0 : Bool) (a0_4_1 : List UInt32) (a0_5 : Int) (a1_0 : Bool) (a1_1 : List UInt32) (a2_0 : Bool) (a2_1 : List UInt32) : Option (Bool × List UInt32) :=
 obind (F.bignum_Int_Mul false [] a1_0 a1_1 a2_0 a2_1) fun x_4 =>
 obind (F.curve_group_mod a0_0_0 a0_0_1 a0_1_0 a0_1_1 a0_2_0 a0_2_1 a0_3_0 a0_3_1 a0_4_0 a0_4_1 a0_5 x_4.1 x_4.2) fun x_7 =>
 some (x_7.1, x_7.2)
noncomputable def F.curve_group_times (a0_0_0 : Bool) (a0_0_1 : List UInt32) (a0_1_0 : Bool) (a0_1_1 : List UInt32) (a0_2_0 : Bool) (a0_2_1 : List UInt32) (a0_3_0 : Bool) (a0_3_1 : List UInt32) (a0_4_0 : Bool) (a0_4_1 : List UInt32) (a0_5 : Int) (a1 : Int) (a2_0 : Bool) (a2_1 : List UInt32) : Option (Bool × List UInt32) :=
 obind (F.bignum_NewInt a1) fun x_1 =>
 obind (F.curve_group_mul a0_0_0 a0_0_1 a0_1_0 a0_1_1 a0_2_0 a0_2_1 a0_3_0 a0_3_1 a0_4_0 a0_4_1 a0_5 x_1.1 x_1.2 a2_0 a2_1) fun x_6 =>
 some (x_6.1, x_6.2)
noncomputable def F.curve_group_sub (a0_0_0 : Bool) (a0_0_1 : List UInt32) (a0_1_0 : Bool) (a0_1_1 : List UInt32) (a0_2_0 : Bool) (a0_2_1 : List UInt32) (a0_3_0 : Bool) (a0_3_1 : List UInt32) (a0_4_0 : Bool) (a0_4_1 : List UInt32) (a0_5 : Int) (a1_0 : Bool) (a1_1 : List UInt32) (a2_0 : Bool) (a2_1 : List UInt32) : Option (Bool × List UInt32) :=
 obind (F.bignum_Int_Sub false [] a1_0 a1_1 a2_0 a2_1) fun x_4 =>
 obind (F.curve_group_mod a0_0_0 a0_0_1 a0_1_0 a0_1_1 a0_2_0 a0_2_1 a0_3_0 a0_3_1 a0_4_0 a0_4_1 a0_5 x_4.1 x_4.2) fun x_7 =>
 some (x_7.1, x_7.2)
noncomputable def F.curve_infinity  : Option (Bool × List UInt32 × Bool × List UInt32 × Bool × List UInt32) :=
 some (false, [], false, [], false, [])
noncomputable def F.curve_group_on (a0_0_0 : Bool) (a0_0_1 : List UInt32) (a0_1_0 : Bool) (a0_1_1 : List UInt32) (a0_2_0 : Bool) (a0_2_1 : List UInt32) (a0_3_0 : Bool) (a0_3_1 : List UInt32) (a0_4_0 : Bool) (a0_4_1 : List UInt32) (a0_5 : Int) (a1_0 : Bool) (a1_1 : List UInt32) (a2_0 : Bool) (a2_1 : List UInt32) : Option (Bool) :=
 obind (F.curve_group_mul a0_0_0 a0_0_1 a0_1_0 a0_1_1 a0_2_0 a0_2_1 a0_3_0 a0_3_1 a0_4_0 a0_4_1 a0_5 a1_0 a1_1 a1_0 a1_1) fun x_1 =>
 obind (F.curve_group_mul a0_0_0 a0_0_1 a0_1_0 a0_1_1 a0_2_0 a0_2_1 a0_3_0 a0_3_1 a0_4_0 a0_4_1 a0_5 a1_0 a1_1 x_1.1 x_1.2) fun x_6 =>
 obind (F.curve_group_times a0_0_0 a0_0_1 a0_1_0 a0_1_1 a0_2_0 a0_2_1 a0_3_0 a0_3_1 a0_4_0 a0_4_1 a0_5 3 a1_0 a1_1) fun x_11 =>
 obind (F.curve_group_sub a0_0_0 a0_0_1 a0_1_0 a0_1_1 a0_2_0 a0_2_1 a0_3_0 a0_3_1 a0_4_0 a0_4_1 a0_5 x_6.1 x_6.2 x_11.1 x_11.2) fun x_16 =>
 obind (F.bignum_Int_Add_a10 x_16.1 x_16.2 a0_1_0 a0_1_1) fun x_21 =>
 obind (F.curve_group_mod a0_0_0 a0_0_1 a0_1_0 a0_1_1 a0_2_0 a0_2_1 a0_3_0 a0_3_1 a0_4_0 a0_4_1 a0_5 x_21.1 x_21.2) fun x_24 =>
 obind (F.bignum_Int_Cmp a1_0 a1_1 a0_0_0 a0_0_1) fun x_27 =>
 if (decide (x_27 < 0)) = true then
 (
  obind (F.bignum_Int_Cmp a2_0 a2_1 a0_0_0 a0_0_1) fun x_29 =>
  if (decide (x_29 < 0)) = true then
  (
   obind (F.curve_group_mul a0_0_0 a0_0_1 a0_1_0 a0_1_1 a0_2_0 a0_2_1 a0_3_0 a0_3_1 a0_4_0 a0_4_1 a0_5 a2_0 a2_1 a2_0 a2_1) fun x_31 =>
   obind (F.bignum_Int_Cmp x_31.1 x_31.2 x_24.1 x_24.2) fun x_36 =>
   some (x_36 == 0)
  ) else (
   some false
  )
 ) else (
  some false
 )
noncomputable def F.curve_out (a0_0 : Bool) (a0_1 : List UInt32) : Option (List UInt32) :=
 obind (F.bignum_Int_Bytes a0_0 a0_1) fun x_1 =>
 obind (F.nat_FromBytes x_1) fun x_4 =>
 some x_4
noncomputable def F.curve_in (a0 : List UInt32) : Option (Bool × List UInt32) :=
 obind (F.nat_Bytes a0) fun x_3 =>
 obind (F.bignum_Int_SetBytes false [] x_3) fun x_7 =>
 some (x_7.1, x_7.2)
noncomputable def F.curve_group_read (a0_0_0 : Bool) (a0_0_1 : List UInt32) (a0_1_0 : Bool) (a0_1_1 : List UInt32) (a0_2_0 : Bool) (a0_2_1 : List UInt32) (a0_3_0 : Bool) (a0_3_1 : List UInt32) (a0_4_0 : Bool) (a0_4_1 : List UInt32) (a0_5 : Int) (a1_0 : List UInt32) (a1_1 : List UInt32) (a1_2 : Bool) : Option (Bool × List UInt32 × Bool × List UInt32 × Bool × List UInt32 × Bool) :=
 obind (F.curve_in a1_0) fun x_5 =>
 obind (F.curve_in a1_1) fun x_10 =>
 if a1_2 = true then
 (
  obind (F.curve_infinity ) fun x_15 =>
  obind (F.bignum_Int_Sign x_5.1 x_5.2) fun x_28 =>
  if (x_28 == 0) = true then
  (
   obind (F.bignum_Int_Sign x_10.1 x_10.2) fun x_30 =>
   some (x_15.1, x_15.2.1, x_15.2.2.1, x_15.2.2.2.1, x_15.2.2.2.2.1, x_15.2.2.2.2.2, x_30 == 0)
  ) else (
   some (x_15.1, x_15.2.1, x_15.2.2.1, x_15.2.2.2.1, x_15.2.2.2.2.1, x_15.2.2.2.2.2, false)
  )
 ) else (
  obind (F.bignum_NewInt 1) fun x_31 =>
  obind (F.curve_group_on a0_0_0 a0_0_1 a0_1_0 a0_1_1 a0_2_0 a0_2_1 a0_3_0 a0_3_1 a0_4_0 a0_4_1 a0_5 x_5.1 x_5.2 x_10.1 x_10.2) fun x_36 =>
  some (x_5.1, x_5.2, x_10.1, x_10.2, x_31.1, x_31.2, x_36)
 )
noncomputable def F.curve_scalar (a0 : List UInt32) : Option (Bool × List UInt32 × Bool) :=
 obind (F.curve_in a0) fun x_1 =>
 obind (F.nat_Bits a0) fun x_6 =>
 some (x_1.1, x_1.2, decide (x_6 ≤ 1024))
noncomputable def F.curve_p256  : Option (Bool × List UInt32 × Bool × List UInt32 × Bool × List UInt32 × Bool × List UInt32 × Bool × List UInt32 × Int) :=
 obind (F.curve_number [102, 102, 102, 102, 102, 102, 102, 102, 48, 48, 48, 48, 48, 48, 48, 49, 48, 48, 48, 48, 48, 48, 48, 48, 48, 48, 48, 48, 48, 48, 48, 48, 48, 48, 48, 48, 48, 48, 48, 48, 102, 102, 102, 102, 102, 102, 102, 102, 102, 102, 102, 102, 102, 102, 102, 102, 102, 102, 102, 102, 102, 102, 102, 102]) fun x_1 =>
 obind (F.curve_number [53, 97, 99, 54, 51, 53, 100, 56, 97, 97, 51, 97, 57, 51, 101, 55, 98, 51, 101, 98, 98, 100, 53, 53, 55, 54, 57, 56, 56, 54, 98, 99, 54, 53, 49, 100, 48, 54, 98, 48, 99, 99, 53, 51, 98, 48, 102, 54, 51, 98, 99, 101, 51, 99, 51, 101, 50, 55, 100, 50, 54, 48, 52, 98]) fun x_6 =>
 obind (F.curve_number [102, 102, 102, 102, 102, 102, 102, 102, 48, 48, 48, 48, 48, 48, 48, 48, 102, 102, 102, 102, 102, 102, 102, 102, 102, 102, 102, 102, 102, 102, 102, 102, 98, 99, 101, 54, 102, 97, 97, 100, 97, 55, 49, 55, 57, 101, 56, 52, 102, 51, 98, 57, 99, 97, 99, 50, 102, 99, 54, 51, 50, 53, 53, 49]) fun x_11 =>
 obind (F.curve_number [54, 98, 49, 55, 100, 49, 102, 50, 101, 49, 50, 99, 52, 50, 52, 55, 102, 56, 98, 99, 101, 54, 101, 53, 54, 51, 97, 52, 52, 48, 102, 50, 55, 55, 48, 51, 55, 100, 56, 49, 50, 100, 101, 98, 51, 51, 97, 48, 102, 52, 97, 49, 51, 57, 52, 53, 100, 56, 57, 56, 99, 50, 57, 54]) fun x_16 =>
 obind (F.curve_number [52, 102, 101, 51, 52, 50, 101, 50, 102, 101, 49, 97, 55, 102, 57, 98, 56, 101, 101, 55, 101, 98, 52, 97, 55, 99, 48, 102, 57, 101, 49, 54, 50, 98, 99, 101, 51, 51, 53, 55, 54, 98, 51, 49, 53, 101, 99, 101, 99, 98, 98, 54, 52, 48, 54, 56, 51, 55, 98, 102, 53, 49, 102, 53]) fun x_21 =>
 some (x_1.1, x_1.2, x_6.1, x_6.2, x_11.1, x_11.2, x_16.1, x_16.2, x_21.1, x_21.2, 32)
noncomputable def F.curve_p384  : Option (Bool × List UInt32 × Bool × List UInt32 × Bool × List UInt32 × Bool × List UInt32 × Bool × List UInt32 × Int) :=
 obind (F.curve_number [102, 102, 102, 102, 102, 102, 102, 102, 102, 102, 102, 102, 102, 102, 102, 102, 102, 102, 102, 102, 102, 102, 102, 102, 102, 102, 102, 102, 102, 102, 102, 102, 102, 102, 102, 102, 102, 102, 102, 102, 102, 102, 102, 102, 102, 102, 102, 102, 102, 102, 102, 102, 102, 102, 102, 102, 102, 102, 102, 102, 102, 102, 102, 101, 102, 102, 102, 102, 102, 102, 102, 102, 48, 48, 48, 48, 48, 48, 48, 48, 48, 48, 48, 48, 48, 48, 48, 48, 102, 102, 102, 102, 102, 102, 102, 102]) fun x_1 =>
 obind (F.curve_number [98, 51, 51, 49, 50, 102, 97, 55, 101, 50, 51, 101, 101, 55, 101, 52, 57, 56, 56, 101, 48, 53, 54, 98, 101, 51, 102, 56, 50, 100, 49, 57, 49, 56, 49, 100, 57, 99, 54, 101, 102, 101, 56, 49, 52, 49, 49, 50, 48, 51, 49, 52, 48, 56, 56, 102, 53, 48, 49, 51, 56, 55, 53, 97, 99, 54, 53, 54, 51, 57, 56, 100, 56, 97, 50, 101, 100, 49, 57, 100, 50, 97, 56, 53, 99, 56, 101, 100, 100, 51, 101, 99, 50, 97, 101, 102]) fun x_6 =>
 obind (F.curve_number [102, 102, 102, 102, 102, 102, 102, 102, 102, 102, 102, 102, 102, 102, 102, 102, 102, 102, 102, 102, 102, 102, 102, 102, 102, 102, 102, 102, 102, 102, 102, 102, 102, 102, 102, 102, 102, 102, 102, 102, 102, 102, 102, 102, 102, 102, 102, 102, 99, 55, 54, 51, 52, 100, 56, 49, 102, 52, 51, 55, 50, 100, 100, 102, 53, 56, 49, 97, 48, 100, 98, 50, 52, 56, 98, 48, 97, 55, 55, 97, 101, 99, 101, 99, 49, 57, 54, 97, 99, 99, 99, 53, 50, 57, 55, 51]) fun x_11 =>
 obind (F.curve_number [97, 97, 56, 55, 99, 97, 50, 50, 98, 101, 56, 98, 48, 53, 51, 55, 56, 101, 98, 49, 99, 55, 49, 101, 102, 51, 50, 48, 97, 100, 55, 52, 54, 101, 49, 100, 51, 98, 54, 50, 56, 98, 97, 55, 57, 98, 57, 56, 53, 57, 102, 55, 52, 49, 101, 48, 56, 50, 53, 52, 50, 97, 51, 56, 53, 53, 48, 50, 102, 50, 53, 100, 98, 102, 53, 53, 50, 57, 54, 99, 51, 97, 53, 52, 53, 101, 51, 56, 55, 50, 55, 54, 48, 97, 98, 55]) fun x_16 =>
 obind (F.curve_number [51, 54, 49, 55, 100, 101, 52, 97, 57, 54, 50, 54, 50, 99, 54, 102, 53, 100, 57, 101, 57, 56, 98, 102, 57, 50, 57, 50, 100, 99, 50, 57, 102, 56, 102, 52, 49, 100, 98, 100, 50, 56, 57, 97, 49, 52, 55, 99, 101, 57, 100, 97, 51, 49, 49, 51, 98, 53, 102, 48, 98, 56, 99, 48, 48, 97, 54, 48, 98, 49, 99, 101, 49, 100, 55, 101, 56, 49, 57, 100, 55, 97, 52, 51, 49, 100, 55, 99, 57, 48, 101, 97, 48, 101, 53, 102]) fun x_21 =>
 some (x_1.1, x_1.2, x_6.1, x_6.2, x_11.1, x_11.2, x_16.1, x_16.2, x_21.1, x_21.2, 48)
noncomputable def F.curve_of (a0 : Int) : Option (Option (Bool × List UInt32 × Bool × List UInt32 × Bool × List UInt32 × Bool × List UInt32 × Bool × List UInt32 × Int)) :=
 if (a0 == 1) = true then
 (
  obind (F.curve_p256 ) fun x_1 =>
  some (some (x_1.1, x_1.2.1, x_1.2.2.1, x_1.2.2.2.1, x_1.2.2.2.2.1, x_1.2.2.2.2.2.1, x_1.2.2.2.2.2.2.1, x_1.2.2.2.2.2.2.2.1, x_1.2.2.2.2.2.2.2.2.1, x_1.2.2.2.2.2.2.2.2.2.1, x_1.2.2.2.2.2.2.2.2.2.2))
 ) else (
  if (a0 == 2) = true then
  (
   obind (F.curve_p384 ) fun x_7 =>
   some (some (x_7.1, x_7.2.1, x_7.2.2.1, x_7.2.2.2.1, x_7.2.2.2.2.1, x_7.2.2.2.2.2.1, x_7.2.2.2.2.2.2.1, x_7.2.2.2.2.2.2.2.1, x_7.2.2.2.2.2.2.2.2.1, x_7.2.2.2.2.2.2.2.2.2.1, x_7.2.2.2.2.2.2.2.2.2.2))
  ) else (
   some none
  )
 )
noncomputable def F.curve_take (a0 : Int) (a1_0 : List UInt32) (a1_1 : List UInt32) (a1_2 : Bool) : Option (Option (Bool × List UInt32 × Bool × List UInt32 × Bool × List UInt32 × Bool × List UInt32 × Bool × List UInt32 × Int × Bool × List UInt32 × Bool × List UInt32 × Bool × List UInt32) × Bool) :=
 obind (F.curve_of a0) fun x_5 =>
 ocase x_5 (
  some (none, false)
 ) (fun x_8 =>
  obind (F.curve_group_read x_8.1 x_8.2.1 x_8.2.2.1 x_8.2.2.2.1 x_8.2.2.2.2.1 x_8.2.2.2.2.2.1 x_8.2.2.2.2.2.2.1 x_8.2.2.2.2.2.2.2.1 x_8.2.2.2.2.2.2.2.2.1 x_8.2.2.2.2.2.2.2.2.2.1 x_8.2.2.2.2.2.2.2.2.2.2 a1_0 a1_1 a1_2) fun x_13 =>
  some (some (x_8.1, x_8.2.1, x_8.2.2.1, x_8.2.2.2.1, x_8.2.2.2.2.1, x_8.2.2.2.2.2.1, x_8.2.2.2.2.2.2.1, x_8.2.2.2.2.2.2.2.1, x_8.2.2.2.2.2.2.2.2.1, x_8.2.2.2.2.2.2.2.2.2.1, x_8.2.2.2.2.2.2.2.2.2.2, x_13.1, x_13.2.1, x_13.2.2.1, x_13.2.2.2.1, x_13.2.2.2.2.1, x_13.2.2.2.2.2.1), x_13.2.2.2.2.2.2)
 )
noncomputable def F.curve_Field (a0 : Int) : Option (List UInt32) :=
 obind (F.curve_of a0) fun x_1 =>
 ocase x_1 (
  some []
 ) (fun x_4 =>
  obind (F.curve_out x_4.1 x_4.2.1) fun x_9 =>
  some x_9
 )
noncomputable def F.curve_Base (a0 : Int) : Option (List UInt32 × List UInt32 × Bool) :=
 obind (F.curve_of a0) fun x_3 =>
 ocase x_3 (
  some ([], [], false)
 ) (fun x_6 =>
  obind (F.curve_out x_6.2.2.2.2.2.2.1 x_6.2.2.2.2.2.2.2.1) fun x_11 =>
  obind (F.curve_out x_6.2.2.2.2.2.2.2.2.1 x_6.2.2.2.2.2.2.2.2.2.1) fun x_15 =>
  some (x_11, x_15, false)
 )
noncomputable def F.curve_On (a0 : Int) (a1_0 : List UInt32) (a1_1 : List UInt32) (a1_2 : Bool) : Option (Bool) :=
 obind (F.curve_take a0 a1_0 a1_1 a1_2) fun x_3 =>
 ocase x_3.1 (
  some x_3.2
 ) (fun x_6 =>
  some x_3.2
 )
noncomputable def F.curve_group_double (a0_0_0 : Bool) (a0_0_1 : List UInt32) (a0_1_0 : Bool) (a0_1_1 : List UInt32) (a0_2_0 : Bool) (a0_2_1 : List UInt32) (a0_3_0 : Bool) (a0_3_1 : List UInt32) (a0_4_0 : Bool) (a0_4_1 : List UInt32) (a0_5 : Int) (a1_0_0 : Bool) (a1_0_1 : List UInt32) (a1_1_0 : Bool) (a1_1_1 : List UInt32) (a1_2_0 : Bool) (a1_2_1 : List UInt32) : Option (Bool × List UInt32 × Bool × List UInt32 × Bool × List UInt32) :=
 obind (F.bignum_Int_Sign a1_2_0 a1_2_1) fun x_5 =>
 if (x_5 == 0) = true then
 (
  some (a1_0_0, a1_0_1, a1_1_0, a1_1_1, a1_2_0, a1_2_1)
 ) else (
  obind (F.curve_group_mul a0_0_0 a0_0_1 a0_1_0 a0_1_1 a0_2_0 a0_2_1 a0_3_0 a0_3_1 a0_4_0 a0_4_1 a0_5 a1_2_0 a1_2_1 a1_2_0 a1_2_1) fun x_6 =>
  obind (F.curve_group_mul a0_0_0 a0_0_1 a0_1_0 a0_1_1 a0_2_0 a0_2_1 a0_3_0 a0_3_1 a0_4_0 a0_4_1 a0_5 a1_1_0 a1_1_1 a1_1_0 a1_1_1) fun x_11 =>
  obind (F.curve_group_mul a0_0_0 a0_0_1 a0_1_0 a0_1_1 a0_2_0 a0_2_1 a0_3_0 a0_3_1 a0_4_0 a0_4_1 a0_5 a1_0_0 a1_0_1 x_11.1 x_11.2) fun x_16 =>
  obind (F.curve_group_times a0_0_0 a0_0_1 a0_1_0 a0_1_1 a0_2_0 a0_2_1 a0_3_0 a0_3_1 a0_4_0 a0_4_1 a0_5 4 x_16.1 x_16.2) fun x_21 =>
  obind (F.curve_group_sub a0_0_0 a0_0_1 a0_1_0 a0_1_1 a0_2_0 a0_2_1 a0_3_0 a0_3_1 a0_4_0 a0_4_1 a0_5 a1_0_0 a1_0_1 x_6.1 x_6.2) fun x_26 =>
  obind (F.bignum_Int_Add false [] a1_0_0 a1_0_1 x_6.1 x_6.2) fun x_34 =>
  obind (F.curve_group_mod a0_0_0 a0_0_1 a0_1_0 a0_1_1 a0_2_0 a0_2_1 a0_3_0 a0_3_1 a0_4_0 a0_4_1 a0_5 x_34.1 x_34.2) fun x_37 =>
  obind (F.curve_group_mul a0_0_0 a0_0_1 a0_1_0 a0_1_1 a0_2_0 a0_2_1 a0_3_0 a0_3_1 a0_4_0 a0_4_1 a0_5 x_26.1 x_26.2 x_37.1 x_37.2) fun x_40 =>
  obind (F.curve_group_times a0_0_0 a0_0_1 a0_1_0 a0_1_1 a0_2_0 a0_2_1 a0_3_0 a0_3_1 a0_4_0 a0_4_1 a0_5 3 x_40.1 x_40.2) fun x_45 =>
  obind (F.curve_group_mul a0_0_0 a0_0_1 a0_1_0 a0_1_1 a0_2_0 a0_2_1 a0_3_0 a0_3_1 a0_4_0 a0_4_1 a0_5 x_45.1 x_45.2 x_45.1 x_45.2) fun x_52 =>
  obind (F.curve_group_times a0_0_0 a0_0_1 a0_1_0 a0_1_1 a0_2_0 a0_2_1 a0_3_0 a0_3_1 a0_4_0 a0_4_1 a0_5 2 x_21.1 x_21.2) fun x_57 =>
  obind (F.curve_group_sub a0_0_0 a0_0_1 a0_1_0 a0_1_1 a0_2_0 a0_2_1 a0_3_0 a0_3_1 a0_4_0 a0_4_1 a0_5 x_52.1 x_52.2 x_57.1 x_57.2) fun x_62 =>
  obind (F.curve_group_sub a0_0_0 a0_0_1 a0_1_0 a0_1_1 a0_2_0 a0_2_1 a0_3_0 a0_3_1 a0_4_0 a0_4_1 a0_5 x_21.1 x_21.2 x_62.1 x_62.2) fun x_67 =>
  obind (F.curve_group_mul a0_0_0 a0_0_1 a0_1_0 a0_1_1 a0_2_0 a0_2_1 a0_3_0 a0_3_1 a0_4_0 a0_4_1 a0_5 x_45.1 x_45.2 x_67.1 x_67.2) fun x_72 =>
  obind (F.curve_group_mul a0_0_0 a0_0_1 a0_1_0 a0_1_1 a0_2_0 a0_2_1 a0_3_0 a0_3_1 a0_4_0 a0_4_1 a0_5 x_11.1 x_11.2 x_11.1 x_11.2) fun x_77 =>
  obind (F.curve_group_times a0_0_0 a0_0_1 a0_1_0 a0_1_1 a0_2_0 a0_2_1 a0_3_0 a0_3_1 a0_4_0 a0_4_1 a0_5 8 x_77.1 x_77.2) fun x_82 =>
  obind (F.curve_group_sub a0_0_0 a0_0_1 a0_1_0 a0_1_1 a0_2_0 a0_2_1 a0_3_0 a0_3_1 a0_4_0 a0_4_1 a0_5 x_72.1 x_72.2 x_82.1 x_82.2) fun x_87 =>
  obind (F.curve_group_mul a0_0_0 a0_0_1 a0_1_0 a0_1_1 a0_2_0 a0_2_1 a0_3_0 a0_3_1 a0_4_0 a0_4_1 a0_5 a1_1_0 a1_1_1 a1_2_0 a1_2_1) fun x_92 =>
  obind (F.curve_group_times a0_0_0 a0_0_1 a0_1_0 a0_1_1 a0_2_0 a0_2_1 a0_3_0 a0_3_1 a0_4_0 a0_4_1 a0_5 2 x_92.1 x_92.2) fun x_97 =>
  some (x_62.1, x_62.2, x_87.1, x_87.2, x_97.1, x_97.2)
 )
noncomputable def F.curve_group_add (a0_0_0 : Bool) (a0_0_1 : List UInt32) (a0_1_0 : Bool) (a0_1_1 : List UInt32) (a0_2_0 : Bool) (a0_2_1 : List UInt32) (a0_3_0 : Bool) (a0_3_1 : List UInt32) (a0_4_0 : Bool) (a0_4_1 : List UInt32) (a0_5 : Int) (a1_0_0 : Bool) (a1_0_1 : List UInt32) (a1_1_0 : Bool) (a1_1_1 : List UInt32) (a1_2_0 : Bool) (a1_2_1 : List UInt32) (a2_0_0 : Bool) (a2_0_1 : List UInt32) (a2_1_0 : Bool) (a2_1_1 : List UInt32) (a2_2_0 : Bool) (a2_2_1 : List UInt32) : Option (Bool × List UInt32 × Bool × List UInt32 × Bool × List UInt32) :=
 obind (F.bignum_Int_Sign a1_2_0 a1_2_1) fun x_7 =>
 if (x_7 == 0) = true then
 (
  some (a2_0_0, a2_0_1, a2_1_0, a2_1_1, a2_2_0, a2_2_1)
 ) else (
  obind (F.bignum_Int_Sign a2_2_0 a2_2_1) fun x_8 =>
  if (x_8 == 0) = true then
  (
   some (a1_0_0, a1_0_1, a1_1_0, a1_1_1, a1_2_0, a1_2_1)
  ) else (
   obind (F.curve_group_mul a0_0_0 a0_0_1 a0_1_0 a0_1_1 a0_2_0 a0_2_1 a0_3_0 a0_3_1 a0_4_0 a0_4_1 a0_5 a1_2_0 a1_2_1 a1_2_0 a1_2_1) fun x_9 =>
   obind (F.curve_group_mul a0_0_0 a0_0_1 a0_1_0 a0_1_1 a0_2_0 a0_2_1 a0_3_0 a0_3_1 a0_4_0 a0_4_1 a0_5 a2_2_0 a2_2_1 a2_2_0 a2_2_1) fun x_14 =>
   obind (F.curve_group_mul a0_0_0 a0_0_1 a0_1_0 a0_1_1 a0_2_0 a0_2_1 a0_3_0 a0_3_1 a0_4_0 a0_4_1 a0_5 a1_0_0 a1_0_1 x_14.1 x_14.2) fun x_19 =>
   obind (F.curve_group_mul a0_0_0 a0_0_1 a0_1_0 a0_1_1 a0_2_0 a0_2_1 a0_3_0 a0_3_1 a0_4_0 a0_4_1 a0_5 a2_0_0 a2_0_1 x_9.1 x_9.2) fun x_24 =>
   obind (F.curve_group_mul a0_0_0 a0_0_1 a0_1_0 a0_1_1 a0_2_0 a0_2_1 a0_3_0 a0_3_1 a0_4_0 a0_4_1 a0_5 a2_2_0 a2_2_1 x_14.1 x_14.2) fun x_29 =>
   obind (F.curve_group_mul a0_0_0 a0_0_1 a0_1_0 a0_1_1 a0_2_0 a0_2_1 a0_3_0 a0_3_1 a0_4_0 a0_4_1 a0_5 a1_1_0 a1_1_1 x_29.1 x_29.2) fun x_34 =>
   obind (F.curve_group_mul a0_0_0 a0_0_1 a0_1_0 a0_1_1 a0_2_0 a0_2_1 a0_3_0 a0_3_1 a0_4_0 a0_4_1 a0_5 a1_2_0 a1_2_1 x_9.1 x_9.2) fun x_39 =>
   obind (F.curve_group_mul a0_0_0 a0_0_1 a0_1_0 a0_1_1 a0_2_0 a0_2_1 a0_3_0 a0_3_1 a0_4_0 a0_4_1 a0_5 a2_1_0 a2_1_1 x_39.1 x_39.2) fun x_44 =>
   obind (F.curve_group_sub a0_0_0 a0_0_1 a0_1_0 a0_1_1 a0_2_0 a0_2_1 a0_3_0 a0_3_1 a0_4_0 a0_4_1 a0_5 x_24.1 x_24.2 x_19.1 x_19.2) fun x_49 =>
   obind (F.curve_group_sub a0_0_0 a0_0_1 a0_1_0 a0_1_1 a0_2_0 a0_2_1 a0_3_0 a0_3_1 a0_4_0 a0_4_1 a0_5 x_44.1 x_44.2 x_34.1 x_34.2) fun x_54 =>
   obind (F.bignum_Int_Sign x_49.1 x_49.2) fun x_59 =>
   if (x_59 == 0) = true then
   (
    obind (F.bignum_Int_Sign x_54.1 x_54.2) fun x_60 =>
    if (x_60 == 0) = true then
    (
     obind (F.curve_group_double a0_0_0 a0_0_1 a0_1_0 a0_1_1 a0_2_0 a0_2_1 a0_3_0 a0_3_1 a0_4_0 a0_4_1 a0_5 a1_0_0 a1_0_1 a1_1_0 a1_1_1 a1_2_0 a1_2_1) fun x_61 =>
     some (x_61.1, x_61.2.1, x_61.2.2.1, x_61.2.2.2.1, x_61.2.2.2.2.1, x_61.2.2.2.2.2)
    ) else (
     obind (F.curve_infinity ) fun x_67 =>
     some (x_67.1, x_67.2.1, x_67.2.2.1, x_67.2.2.2.1, x_67.2.2.2.2.1, x_67.2.2.2.2.2)
    )
   ) else (
    obind (F.curve_group_mul a0_0_0 a0_0_1 a0_1_0 a0_1_1 a0_2_0 a0_2_1 a0_3_0 a0_3_1 a0_4_0 a0_4_1 a0_5 x_49.1 x_49.2 x_49.1 x_49.2) fun x_81 =>
    obind (F.curve_group_mul a0_0_0 a0_0_1 a0_1_0 a0_1_1 a0_2_0 a0_2_1 a0_3_0 a0_3_1 a0_4_0 a0_4_1 a0_5 x_49.1 x_49.2 x_81.1 x_81.2) fun x_86 =>
    obind (F.curve_group_mul a0_0_0 a0_0_1 a0_1_0 a0_1_1 a0_2_0 a0_2_1 a0_3_0 a0_3_1 a0_4_0 a0_4_1 a0_5 x_19.1 x_19.2 x_81.1 x_81.2) fun x_91 =>
    obind (F.curve_group_mul a0_0_0 a0_0_1 a0_1_0 a0_1_1 a0_2_0 a0_2_1 a0_3_0 a0_3_1 a0_4_0 a0_4_1 a0_5 x_54.1 x_54.2 x_54.1 x_54.2) fun x_96 =>
    obind (F.curve_group_sub a0_0_0 a0_0_1 a0_1_0 a0_1_1 a0_2_0 a0_2_1 a0_3_0 a0_3_1 a0_4_0 a0_4_1 a0_5 x_96.1 x_96.2 x_86.1 x_86.2) fun x_101 =>
    obind (F.curve_group_times a0_0_0 a0_0_1 a0_1_0 a0_1_1 a0_2_0 a0_2_1 a0_3_0 a0_3_1 a0_4_0 a0_4_1 a0_5 2 x_91.1 x_91.2) fun x_106 =>
    obind (F.curve_group_sub a0_0_0 a0_0_1 a0_1_0 a0_1_1 a0_2_0 a0_2_1 a0_3_0 a0_3_1 a0_4_0 a0_4_1 a0_5 x_101.1 x_101.2 x_106.1 x_106.2) fun x_111 =>
    obind (F.curve_group_sub a0_0_0 a0_0_1 a0_1_0 a0_1_1 a0_2_0 a0_2_1 a0_3_0 a0_3_1 a0_4_0 a0_4_1 a0_5 x_91.1 x_91.2 x_111.1 x_111.2) fun x_116 =>
    obind (F.curve_group_mul a0_0_0 a0_0_1 a0_1_0 a0_1_1 a0_2_0 a0_2_1 a0_3_0 a0_3_1 a0_4_0 a0_4_1 a0_5 x_54.1 x_54.2 x_116.1 x_116.2) fun x_121 =>
    obind (F.curve_group_mul a0_0_0 a0_0_1 a0_1_0 a0_1_1 a0_2_0 a0_2_1 a0_3_0 a0_3_1 a0_4_0 a0_4_1 a0_5 x_34.1 x_34.2 x_86.1 x_86.2) fun x_126 =>
    obind (F.curve_group_sub a0_0_0 a0_0_1 a0_1_0 a0_1_1 a0_2_0 a0_2_1 a0_3_0 a0_3_1 a0_4_0 a0_4_1 a0_5 x_121.1 x_121.2 x_126.1 x_126.2) fun x_131 =>
    obind (F.curve_group_mul a0_0_0 a0_0_1 a0_1_0 a0_1_1 a0_2_0 a0_2_1 a0_3_0 a0_3_1 a0_4_0 a0_4_1 a0_5 a1_2_0 a1_2_1 a2_2_0 a2_2_1) fun x_136 =>
    obind (F.curve_group_mul a0_0_0 a0_0_1 a0_1_0 a0_1_1 a0_2_0 a0_2_1 a0_3_0 a0_3_1 a0_4_0 a0_4_1 a0_5 x_49.1 x_49.2 x_136.1 x_136.2) fun x_141 =>
    some (x_111.1, x_111.2, x_131.1, x_131.2, x_141.1, x_141.2)
   )
  )
 )
noncomputable def F.curve_group_show (a0_0_0 : Bool) (a0_0_1 : List UInt32) (a0_1_0 : Bool) (a0_1_1 : List UInt32) (a0_2_0 : Bool) (a0_2_1 : List UInt32) (a0_3_0 : Bool) (a0_3_1 : List UInt32) (a0_4_0 : Bool) (a0_4_1 : List UInt32) (a0_5 : Int) (a1_0_0 : Bool) (a1_0_1 : List UInt32) (a1_1_0 : Bool) (a1_1_1 : List UInt32) (a1_2_0 : Bool) (a1_2_1 : List UInt32) : Option (List UInt32 × List UInt32 × Bool) :=
 obind (F.bignum_Int_Sign a1_2_0 a1_2_1) fun x_5 =>
 if (x_5 == 0) = true then
 (
  some ([], [], true)
 ) else (
  obind (F.bignum_Int_ModInverse false [] a1_2_0 a1_2_1 a0_0_0 a0_0_1) fun x_9 =>
  obind (F.curve_group_mul a0_0_0 a0_0_1 a0_1_0 a0_1_1 a0_2_0 a0_2_1 a0_3_0 a0_3_1 a0_4_0 a0_4_1 a0_5 x_9.1 x_9.2 x_9.1 x_9.2) fun x_12 =>
  obind (F.curve_group_mul a0_0_0 a0_0_1 a0_1_0 a0_1_1 a0_2_0 a0_2_1 a0_3_0 a0_3_1 a0_4_0 a0_4_1 a0_5 a1_0_0 a1_0_1 x_12.1 x_12.2) fun x_17 =>
  obind (F.curve_out x_17.1 x_17.2) fun x_22 =>
  obind (F.curve_group_mul a0_0_0 a0_0_1 a0_1_0 a0_1_1 a0_2_0 a0_2_1 a0_3_0 a0_3_1 a0_4_0 a0_4_1 a0_5 x_9.1 x_9.2 x_12.1 x_12.2) fun x_26 =>
  obind (F.curve_group_mul a0_0_0 a0_0_1 a0_1_0 a0_1_1 a0_2_0 a0_2_1 a0_3_0 a0_3_1 a0_4_0 a0_4_1 a0_5 a1_1_0 a1_1_1 x_26.1 x_26.2) fun x_31 =>
  obind (F.curve_out x_31.1 x_31.2) fun x_36 =>
  some (x_22, x_36, false)
 )
noncomputable def F.curve_Add_K1  : Bool → Option (List UInt32 × List UInt32 × Bool × Int)
 | x_30 =>
  if x_30 = true then
  (
   some ([], [], false, 93)
  ) else (
   none
  )
noncomputable def F.curve_Add_K2  : Bool → Option (List UInt32 × List UInt32 × Bool × Int)
 | x_38 =>
  if x_38 = true then
  (
   some ([], [], false, 93)
  ) else (
   none
  )
noncomputable def F.curve_Add_K3  : Bool → Option (List UInt32 × List UInt32 × Bool × Int)
 | x_56 =>
  if x_56 = true then
  (
   some ([], [], false, 93)
  ) else (
   none
  )
noncomputable def F.curve_Add_K4 (x_10 : Bool × List UInt32 × Bool × List UInt32 × Bool × List UInt32 × Bool × List UInt32 × Bool × List UInt32 × Int × Bool × List UInt32 × Bool × List UInt32 × Bool × List UInt32) (x_46 : Bool × List UInt32 × Bool × List UInt32 × Bool × List UInt32 × Bool × List UInt32 × Bool × List UInt32 × Int × Bool × List UInt32 × Bool × List UInt32 × Bool × List UInt32) : Bool → Option (List UInt32 × List UInt32 × Bool × Int)
 | x_64 =>
  if x_64 = true then
  (
   some ([], [], false, 93)
  ) else (
   obind (F.curve_group_add x_10.1 x_10.2.1 x_10.2.2.1 x_10.2.2.2.1 x_10.2.2.2.2.1 x_10.2.2.2.2.2.1 x_10.2.2.2.2.2.2.1 x_10.2.2.2.2.2.2.2.1 x_10.2.2.2.2.2.2.2.2.1 x_10.2.2.2.2.2.2.2.2.2.1 x_10.2.2.2.2.2.2.2.2.2.2.1 x_10.2.2.2.2.2.2.2.2.2.2.2.1 x_10.2.2.2.2.2.2.2.2.2.2.2.2.1 x_10.2.2.2.2.2.2.2.2.2.2.2.2.2.1 x_10.2.2.2.2.2.2.2.2.2.2.2.2.2.2.1 x_10.2.2.2.2.2.2.2.2.2.2.2.2.2.2.2.1 x_10.2.2.2.2.2.2.2.2.2.2.2.2.2.2.2.2 x_46.2.2.2.2.2.2.2.2.2.2.2.1 x_46.2.2.2.2.2.2.2.2.2.2.2.2.1 x_46.2.2.2.2.2.2.2.2.2.2.2.2.2.1 x_46.2.2.2.2.2.2.2.2.2.2.2.2.2.2.1 x_46.2.2.2.2.2.2.2.2.2.2.2.2.2.2.2.1 x_46.2.2.2.2.2.2.2.2.2.2.2.2.2.2.2.2) fun x_66 =>
   obind (F.curve_group_show x_10.1 x_10.2.1 x_10.2.2.1 x_10.2.2.2.1 x_10.2.2.2.2.1 x_10.2.2.2.2.2.1 x_10.2.2.2.2.2.2.1 x_10.2.2.2.2.2.2.2.1 x_10.2.2.2.2.2.2.2.2.1 x_10.2.2.2.2.2.2.2.2.2.1 x_10.2.2.2.2.2.2.2.2.2.2.1 x_66.1 x_66.2.1 x_66.2.2.1 x_66.2.2.2.1 x_66.2.2.2.2.1 x_66.2.2.2.2.2) fun x_72 =>
   some (x_72.1, x_72.2.1, x_72.2.2, 0)
  )
noncomputable def F.curve_Add (a0 : Int) (a1_0 : List UInt32) (a1_1 : List UInt32) (a1_2 : Bool) (a2_0 : List UInt32) (a2_1 : List UInt32) (a2_2 : Bool) : Option (List UInt32 × List UInt32 × Bool × Int) :=
 obind (F.curve_take a0 a1_0 a1_1 a1_2) fun x_7 =>
 ocase x_7.1 (
  obind (F.curve_take a0 a2_0 a2_1 a2_2) fun x_17 =>
  ocase x_17.1 (
   if (!x_7.2) = true then
   (
    F.curve_Add_K1 true
   ) else (
    F.curve_Add_K1 (!x_17.2)
   )
  ) (fun x_20 =>
   if (!x_7.2) = true then
   (
    F.curve_Add_K2 true
   ) else (
    F.curve_Add_K2 (!x_17.2)
   )
  )
 ) (fun x_10 =>
  obind (F.curve_take a0 a2_0 a2_1 a2_2) fun x_43 =>
  ocase x_43.1 (
   if (!x_7.2) = true then
   (
    F.curve_Add_K3 true
   ) else (
    F.curve_Add_K3 (!x_43.2)
   )
  ) (fun x_46 =>
   if (!x_7.2) = true then
   (
    F.curve_Add_K4 x_10 x_46 true
   ) else (
    F.curve_Add_K4 x_10 x_46 (!x_43.2)
   )
  )
 )
noncomputable def F.curve_step_K1  : Bool × List UInt32 × Bool × List UInt32 × Bool × List UInt32 → Option (Bool × List UInt32 × Bool × List UInt32 × Bool × List UInt32)
 | (x_23, x_24, x_27, x_28, x_31, x_32) =>
  some (x_23, x_24, x_27, x_28, x_31, x_32)
noncomputable def F.curve_step (a0_0_0 : Bool) (a0_0_1 : List UInt32) (a0_1_0 : Bool) (a0_1_1 : List UInt32) (a0_2_0 : Bool) (a0_2_1 : List UInt32) (a0_3_0 : Bool) (a0_3_1 : List UInt32) (a0_4_0 : Bool) (a0_4_1 : List UInt32) (a0_5 : Int) (a1_0_0 : Bool) (a1_0_1 : List UInt32) (a1_1_0 : Bool) (a1_1_1 : List UInt32) (a1_2_0 : Bool) (a1_2_1 : List UInt32) (a2 : Bool) (a3_0_0 : Bool) (a3_0_1 : List UInt32) (a3_1_0 : Bool) (a3_1_1 : List UInt32) (a3_2_0 : Bool) (a3_2_1 : List UInt32) : Option (Bool × List UInt32 × Bool × List UInt32 × Bool × List UInt32) :=
 obind (F.curve_group_double a0_0_0 a0_0_1 a0_1_0 a0_1_1 a0_2_0 a0_2_1 a0_3_0 a0_3_1 a0_4_0 a0_4_1 a0_5 a1_0_0 a1_0_1 a1_1_0 a1_1_1 a1_2_0 a1_2_1) fun x_7 =>
 if a2 = true then
 (
  obind (F.curve_group_add a0_0_0 a0_0_1 a0_1_0 a0_1_1 a0_2_0 a0_2_1 a0_3_0 a0_3_1 a0_4_0 a0_4_1 a0_5 x_7.1 x_7.2.1 x_7.2.2.1 x_7.2.2.2.1 x_7.2.2.2.2.1 x_7.2.2.2.2.2 a3_0_0 a3_0_1 a3_1_0 a3_1_1 a3_2_0 a3_2_1) fun x_13 =>
  F.curve_step_K1 (x_13.1, x_13.2.1, x_13.2.2.1, x_13.2.2.2.1, x_13.2.2.2.2.1, x_13.2.2.2.2.2)
 ) else (
  F.curve_step_K1 (x_7.1, x_7.2.1, x_7.2.2.1, x_7.2.2.2.1, x_7.2.2.2.2.1, x_7.2.2.2.2.2)
 )
noncomputable def F.curve_group_ladder_L1 (a0_0_0 : Bool) (a0_0_1 : List UInt32) (a0_1_0 : Bool) (a0_1_1 : List UInt32) (a0_2_0 : Bool) (a0_2_1 : List UInt32) (a0_3_0 : Bool) (a0_3_1 : List UInt32) (a0_4_0 : Bool) (a0_4_1 : List UInt32) (a0_5 : Int) (a1_0 : Bool) (a1_1 : List UInt32) (a2_0_0 : Bool) (a2_0_1 : List UInt32) (a2_1_0 : Bool) (a2_1_1 : List UInt32) (a2_2_0 : Bool) (a2_2_1 : List UInt32) : Int × Bool × List UInt32 × Bool × List UInt32 × Bool × List UInt32 → Option ((Int × Bool × List UInt32 × Bool × List UInt32 × Bool × List UInt32) ⊕ (Bool × List UInt32 × Bool × List UInt32 × Bool × List UInt32))
 | (x_25, x_27, x_28, x_31, x_32, x_35, x_36) =>
  if (decide ((0 : Int) ≤ x_25)) = true then
  (
   obind (F.bignum_Int_Bit a1_0 a1_1 x_25) fun x_41 =>
   obind (F.curve_step a0_0_0 a0_0_1 a0_1_0 a0_1_1 a0_2_0 a0_2_1 a0_3_0 a0_3_1 a0_4_0 a0_4_1 a0_5 x_27 x_28 x_31 x_32 x_35 x_36 (x_41 == 1) a2_0_0 a2_0_1 a2_1_0 a2_1_1 a2_2_0 a2_2_1) fun x_42 =>
   oinl (wI (x_25 - 1), x_42.1, x_42.2.1, x_42.2.2.1, x_42.2.2.2.1, x_42.2.2.2.2.1, x_42.2.2.2.2.2)
  ) else (
   oinr (
    some (x_27, x_28, x_31, x_32, x_35, x_36)
   )
  )
noncomputable def F.curve_group_ladder (a0_0_0 : Bool) (a0_0_1 : List UInt32) (a0_1_0 : Bool) (a0_1_1 : List UInt32) (a0_2_0 : Bool) (a0_2_1 : List UInt32) (a0_3_0 : Bool) (a0_3_1 : List UInt32) (a0_4_0 : Bool) (a0_4_1 : List UInt32) (a0_5 : Int) (a1_0 : Bool) (a1_1 : List UInt32) (a2_0_0 : Bool) (a2_0_1 : List UInt32) (a2_1_0 : Bool) (a2_1_1 : List UInt32) (a2_2_0 : Bool) (a2_2_1 : List UInt32) : Option (Bool × List UInt32 × Bool × List UInt32 × Bool × List UInt32) :=
 obind (F.curve_infinity ) fun x_5 =>
 obind (F.bignum_Int_BitLen a1_0 a1_1) fun x_20 =>
 loop (F.curve_group_ladder_L1 a0_0_0 a0_0_1 a0_1_0 a0_1_1 a0_2_0 a0_2_1 a0_3_0 a0_3_1 a0_4_0 a0_4_1 a0_5 a1_0 a1_1 a2_0_0 a2_0_1 a2_1_0 a2_1_1 a2_2_0 a2_2_1) (wI (x_20 - 1), x_5.1, x_5.2.1, x_5.2.2.1, x_5.2.2.2.1, x_5.2.2.2.2.1, x_5.2.2.2.2.2)
noncomputable def F.curve_Mul (a0 : Int) (a1 : List UInt32) (a2_0 : List UInt32) (a2_1 : List UInt32) (a2_2 : Bool) : Option (List UInt32 × List UInt32 × Bool × Int) :=
 obind (F.curve_take a0 a2_0 a2_1 a2_2) fun x_5 =>
 ocase x_5.1 (
  if (!x_5.2) = true then
  (
   some ([], [], false, 93)
  ) else (
   obind (F.curve_scalar a1) fun x_15 =>
   if (!x_15.2.2) = true then
   (
    some ([], [], false, 10)
   ) else (
    none
   )
  )
 ) (fun x_8 =>
  if (!x_5.2) = true then
  (
   some ([], [], false, 93)
  ) else (
   obind (F.curve_scalar a1) fun x_24 =>
   if (!x_24.2.2) = true then
   (
    some ([], [], false, 10)
   ) else (
    obind (F.bignum_Int_Mod_a10 x_24.1 x_24.2.1 x_8.2.2.2.2.1 x_8.2.2.2.2.2.1) fun x_29 =>
    obind (F.curve_group_ladder x_8.1 x_8.2.1 x_8.2.2.1 x_8.2.2.2.1 x_8.2.2.2.2.1 x_8.2.2.2.2.2.1 x_8.2.2.2.2.2.2.1 x_8.2.2.2.2.2.2.2.1 x_8.2.2.2.2.2.2.2.2.1 x_8.2.2.2.2.2.2.2.2.2.1 x_8.2.2.2.2.2.2.2.2.2.2.1 x_29.1 x_29.2 x_8.2.2.2.2.2.2.2.2.2.2.2.1 x_8.2.2.2.2.2.2.2.2.2.2.2.2.1 x_8.2.2.2.2.2.2.2.2.2.2.2.2.2.1 x_8.2.2.2.2.2.2.2.2.2.2.2.2.2.2.1 x_8.2.2.2.2.2.2.2.2.2.2.2.2.2.2.2.1 x_8.2.2.2.2.2.2.2.2.2.2.2.2.2.2.2.2) fun x_32 =>
    obind (F.curve_group_show x_8.1 x_8.2.1 x_8.2.2.1 x_8.2.2.2.1 x_8.2.2.2.2.1 x_8.2.2.2.2.2.1 x_8.2.2.2.2.2.2.1 x_8.2.2.2.2.2.2.2.1 x_8.2.2.2.2.2.2.2.2.1 x_8.2.2.2.2.2.2.2.2.2.1 x_8.2.2.2.2.2.2.2.2.2.2.1 x_32.1 x_32.2.1 x_32.2.2.1 x_32.2.2.2.1 x_32.2.2.2.2.1 x_32.2.2.2.2.2) fun x_38 =>
    some (x_38.1, x_38.2.1, x_38.2.2, 0)
   )
  )
 )
end Go.Gk
