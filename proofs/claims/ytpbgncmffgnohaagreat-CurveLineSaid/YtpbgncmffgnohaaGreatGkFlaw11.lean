import Derived.Test.YtpbgncmffgnohaaGreatGkS
import Derived.Test.YtpbgncmffgnohaaGreatGkFcurve
import Derived.Test.YtpbgncmffgnohaaGreatGkFmodn
import Derived.Test.YtpbgncmffgnohaaGreatGkFnat
import Derived.Test.YtpbgncmffgnohaaGreatGkFref11
set_option linter.unusedVariables false
set_option linter.unusedSimpArgs false
set_option linter.unusedVariables false
namespace Go.Gk
noncomputable def F.law11_sameNat_L1 (a0 : List UInt32) (a1 : List UInt32) : Int → Option ((Int) ⊕ (Bool))
 | x_1 =>
  if (decide (x_1 < (a0.length : Int))) = true then
  (
   obind (getO a0 (x_1 : Int)) fun x_5 =>
   obind (getO a1 (x_1 : Int)) fun x_6 =>
   if (x_5 != x_6) = true then
   (
    oinr (
     some false
    )
   ) else (
    oinl (wI (x_1 + 1))
   )
  ) else (
   oinr (
    some true
   )
  )
noncomputable def F.law11_sameNat (a0 : List UInt32) (a1 : List UInt32) : Option (Bool) :=
 if ((a0.length : Int) != (a1.length : Int)) = true then
 (
  some false
 ) else (
  loop (F.law11_sameNat_L1 a0 a1) 0
 )
noncomputable def F.law11_same (a0_0 : List UInt32) (a0_1 : List UInt32) (a0_2 : Bool) (a1_0 : List UInt32) (a1_1 : List UInt32) (a1_2 : Bool) : Option (Bool) :=
 if (a0_2 == a1_2) = true then
 (
  obind (F.law11_sameNat a0_0 a1_0) fun x_6 =>
  if x_6 = true then
  (
   obind (F.law11_sameNat a0_1 a1_1) fun x_8 =>
   some x_8
  ) else (
   some false
  )
 ) else (
  some false
 )
noncomputable def F.law11_started  : Option (Bool) :=
 obind (F.curve_Base 1) fun x_1 =>
 obind (F.curve_Add 1 x_1.1 x_1.2.1 x_1.2.2 x_1.1 x_1.2.1 x_1.2.2) fun x_8 =>
 obind (F.curve_Mul 1 ([2] : List UInt32) x_1.1 x_1.2.1 x_1.2.2) fun x_17 =>
 obind (F.curve_Add 1 x_1.1 x_1.2.1 x_1.2.2 [] [] false) fun x_24 =>
 if (x_8.2.2.2 == 0) = true then
 (
  if (x_17.2.2.2 == 0) = true then
  (
   if (x_24.2.2.2 == 93) = true then
   (
    obind (F.law11_same x_8.1 x_8.2.1 x_8.2.2.1 x_17.1 x_17.2.1 x_17.2.2.1) fun x_34 =>
    if x_34 = true then
    (
     if ((x_8.1.length : Int) == 8) = true then
     (
      obind (getO x_8.1 (0 : Int)) fun x_37 =>
      if (x_37 == 1197906296) = true then
      (
       obind (getO x_8.2.1 (0 : Int)) fun x_39 =>
       if (x_39 == 578319313) = true then
       (
        obind (F.curve_On 1 x_8.1 x_8.2.1 x_8.2.2.1) fun x_41 =>
        if x_41 = true then
        (
         obind (F.curve_Base 2) fun x_43 =>
         obind (F.curve_On 2 x_43.1 x_43.2.1 x_43.2.2) fun x_48 =>
         some x_48
        ) else (
         some false
        )
       ) else (
        some false
       )
      ) else (
       some false
      )
     ) else (
      some false
     )
    ) else (
     some false
    )
   ) else (
    some false
   )
  ) else (
   some false
  )
 ) else (
  some false
 )
noncomputable def F.law11_field_sub (a0_0 : List UInt32) (a1 : List UInt32) (a2 : List UInt32) : Option (List UInt32) :=
 obind (F.modn_Sub a1 a2 a0_0) fun x_3 =>
 some x_3.1
noncomputable def F.law11_field_add (a0_0 : List UInt32) (a1 : List UInt32) (a2 : List UInt32) : Option (List UInt32) :=
 obind (F.modn_Add a1 a2 a0_0) fun x_3 =>
 some x_3.1
noncomputable def F.law11_field_mul (a0_0 : List UInt32) (a1 : List UInt32) (a2 : List UInt32) : Option (List UInt32) :=
 obind (F.modn_Mul a1 a2 a0_0) fun x_3 =>
 some x_3.1
noncomputable def F.law11_line (a0_0 : List UInt32) (a1_0 : List UInt32) (a1_1 : List UInt32) (a1_2 : Bool) (a2_0 : List UInt32) (a2_1 : List UInt32) (a2_2 : Bool) (a3_0 : List UInt32) (a3_1 : List UInt32) (a3_2 : Bool) (a4 : List UInt32) (a5 : List UInt32) : Option (Bool) :=
 obind (F.law11_field_add a0_0 a1_0 a2_0) fun x_9 =>
 obind (F.law11_field_add a0_0 a3_0 x_9) fun x_12 =>
 obind (F.law11_field_mul a0_0 a5 a5) fun x_15 =>
 obind (F.law11_field_mul a0_0 x_12 x_15) fun x_18 =>
 obind (F.law11_field_add a0_0 a3_1 a1_1) fun x_21 =>
 obind (F.law11_field_mul a0_0 x_21 a5) fun x_24 =>
 obind (F.law11_field_mul a0_0 a4 a4) fun x_27 =>
 obind (F.nat_Cmp x_18 x_27) fun x_30 =>
 if (x_30 == 0) = true then
 (
  obind (F.law11_field_sub a0_0 a1_0 a3_0) fun x_32 =>
  obind (F.law11_field_mul a0_0 a4 x_32) fun x_35 =>
  obind (F.nat_Cmp x_24 x_35) fun x_38 =>
  some (x_38 == 0)
 ) else (
  some false
 )
noncomputable def F.law11_CurveLine_K4 (x_6 : List UInt32 × List UInt32 × Bool × Int) : List UInt32 × List UInt32 × Bool → Option (Bool)
 | (x_42, x_44, x_46) =>
  if (x_6.2.2.1 == x_46) = true then
  (
   obind (F.nat_Cmp x_6.1 x_42) fun x_49 =>
   if (x_49 == 0) = true then
   (
    obind (F.nat_Cmp x_6.2.1 x_44) fun x_51 =>
    some (x_51 == 0)
   ) else (
    some false
   )
  ) else (
   some false
  )
noncomputable def F.law11_CurveLine_K3 (a0 : Int) (a1_0 : List UInt32) (a1_1 : List UInt32) (a1_2 : Bool) (a2_0 : List UInt32) (a2_1 : List UInt32) (a2_2 : Bool) (x_6 : List UInt32 × List UInt32 × Bool × Int) : Bool → Option (Bool)
 | x_35 =>
  if x_35 = true then
  (
   if a2_2 = true then
   (
    F.law11_CurveLine_K4 x_6 (a1_0, a1_1, a1_2)
   ) else (
    F.law11_CurveLine_K4 x_6 (a2_0, a2_1, a2_2)
   )
  ) else (
   obind (F.curve_Field a0) fun x_52 =>
   obind (F.nat_Cmp a1_0 a2_0) fun x_57 =>
   if (x_57 != 0) = true then
   (
    if (!x_6.2.2.1) = true then
    (
     obind (F.law11_field_sub x_52 a2_1 a1_1) fun x_59 =>
     obind (F.law11_field_sub x_52 a2_0 a1_0) fun x_62 =>
     obind (F.law11_line x_52 a1_0 a1_1 a1_2 a2_0 a2_1 a2_2 x_6.1 x_6.2.1 x_6.2.2.1 x_59 x_62) fun x_65 =>
     some x_65
    ) else (
     some false
    )
   ) else (
    obind (F.law11_field_add x_52 a1_1 a2_1) fun x_66 =>
    obind (F.nat_Cmp x_66 []) fun x_69 =>
    if (x_69 == 0) = true then
    (
     if x_6.2.2.1 = true then
     (
      if ((x_6.1.length : Int) == 0) = true then
      (
       some ((x_6.2.1.length : Int) == 0)
      ) else (
       some false
      )
     ) else (
      some false
     )
    ) else (
     obind (F.law11_field_mul x_52 a1_0 a1_0) fun x_74 =>
     obind (F.law11_field_sub x_52 x_74 ([1] : List UInt32)) fun x_79 =>
     obind (F.law11_field_mul x_52 ([3] : List UInt32) x_79) fun x_82 =>
     if (!x_6.2.2.1) = true then
     (
      obind (F.law11_field_add x_52 a1_1 a1_1) fun x_88 =>
      obind (F.law11_line x_52 a1_0 a1_1 a1_2 a1_0 a1_1 a1_2 x_6.1 x_6.2.1 x_6.2.2.1 x_82 x_88) fun x_91 =>
      some x_91
     ) else (
      some false
     )
    )
   )
  )
noncomputable def F.law11_CurveLine_K2 (a1_2 : Bool) (a2_2 : Bool) (a0 : Int) (a1_0 : List UInt32) (a1_1 : List UInt32) (a2_0 : List UInt32) (a2_1 : List UInt32) (x_6 : List UInt32 × List UInt32 × Bool × Int) : Bool → Option (Bool)
 | x_30 =>
  if x_30 = true then
  (
   some false
  ) else (
   if a1_2 = true then
   (
    F.law11_CurveLine_K3 a0 a1_0 a1_1 a1_2 a2_0 a2_1 a2_2 x_6 true
   ) else (
    F.law11_CurveLine_K3 a0 a1_0 a1_1 a1_2 a2_0 a2_1 a2_2 x_6 a2_2
   )
  )
noncomputable def F.law11_CurveLine_K1 (a0 : Int) (x_6 : List UInt32 × List UInt32 × Bool × Int) (a1_2 : Bool) (a2_2 : Bool) (a1_0 : List UInt32) (a1_1 : List UInt32) (a2_0 : List UInt32) (a2_1 : List UInt32) : Bool → Option (Bool)
 | x_22 =>
  if x_22 = true then
  (
   if (x_6.2.2.2 == 93) = true then
   (
    obind (F.law11_same x_6.1 x_6.2.1 x_6.2.2.1 [] [] false) fun x_25 =>
    some x_25
   ) else (
    some false
   )
  ) else (
   if (x_6.2.2.2 != 0) = true then
   (
    F.law11_CurveLine_K2 a1_2 a2_2 a0 a1_0 a1_1 a2_0 a2_1 x_6 true
   ) else (
    obind (F.curve_On a0 x_6.1 x_6.2.1 x_6.2.2.1) fun x_27 =>
    F.law11_CurveLine_K2 a1_2 a2_2 a0 a1_0 a1_1 a2_0 a2_1 x_6 (!x_27)
   )
  )
noncomputable def F.law11_CurveLine (a0 : Int) (a1_0 : List UInt32) (a1_1 : List UInt32) (a1_2 : Bool) (a2_0 : List UInt32) (a2_1 : List UInt32) (a2_2 : Bool) : Option (Bool) :=
 obind (F.law11_started ) fun x_5 =>
 if (!x_5) = true then
 (
  some false
 ) else (
  obind (F.curve_Add a0 a1_0 a1_1 a1_2 a2_0 a2_1 a2_2) fun x_6 =>
  obind (F.curve_On a0 a1_0 a1_1 a1_2) fun x_13 =>
  if (!x_13) = true then
  (
   F.law11_CurveLine_K1 a0 x_6 a1_2 a2_2 a1_0 a1_1 a2_0 a2_1 true
  ) else (
   obind (F.curve_On a0 a2_0 a2_1 a2_2) fun x_17 =>
   F.law11_CurveLine_K1 a0 x_6 a1_2 a2_2 a1_0 a1_1 a2_0 a2_1 (!x_17)
  )
 )
end Go.Gk
