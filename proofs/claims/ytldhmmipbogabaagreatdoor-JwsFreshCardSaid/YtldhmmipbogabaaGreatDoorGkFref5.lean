import Derived.Test.YtldhmmipbogabaaGreatDoorGkS
import Derived.Test.YtldhmmipbogabaaGreatDoorGkFref4
set_option linter.unusedVariables false
set_option linter.unusedSimpArgs false
set_option linter.unusedVariables false
namespace Go.Gk
noncomputable def F.ref5_Block_K1  : Bool → Option (Int)
 | x_2 =>
  if x_2 = true then
  (
   some 128
  ) else (
   some 0
  )
noncomputable def F.ref5_Block (a0 : Int) : Option (Int) :=
 if (a0 == 1) = true then
 (
  some 64
 ) else (
  if (a0 == 2) = true then
  (
   F.ref5_Block_K1 (a0 == 2)
  ) else (
   F.ref5_Block_K1 (a0 == 3)
  )
 )
noncomputable def F.ref5_Filled_K1 (a2 : UInt8) (x_10 : List UInt8) (x_13 : Int) : UInt8 → Option ((List UInt8 × Int) ⊕ (List UInt8))
 | x_20 =>
  obind (apO 1 x_10 [x_20 ^^^ a2]) fun x_24 =>
  oinl (x_24, wI (x_13 + 1))
noncomputable def F.ref5_Filled_L1 (a0 : Int) (x_7 : List UInt8) (a2 : UInt8) : List UInt8 × Int → Option ((List UInt8 × Int) ⊕ (List UInt8))
 | (x_10, x_13) =>
  obind (F.ref5_Block a0) fun x_17 =>
  if (decide (x_13 < x_17)) = true then
  (
   if (decide (x_13 < (x_7.length : Int))) = true then
   (
    obind (getO x_7 (x_13 : Int)) fun x_18 =>
    F.ref5_Filled_K1 a2 x_10 x_13 x_18
   ) else (
    F.ref5_Filled_K1 a2 x_10 x_13 0
   )
  ) else (
   oinr (
    some x_10
   )
  )
noncomputable def F.ref5_Filled_K2 (a2 : UInt8) (x_29 : List UInt8) (x_32 : Int) : UInt8 → Option ((List UInt8 × Int) ⊕ (List UInt8))
 | x_39 =>
  obind (apO 1 x_29 [x_39 ^^^ a2]) fun x_43 =>
  oinl (x_43, wI (x_32 + 1))
noncomputable def F.ref5_Filled_L2 (a0 : Int) (a1 : List UInt8) (a2 : UInt8) : List UInt8 × Int → Option ((List UInt8 × Int) ⊕ (List UInt8))
 | (x_29, x_32) =>
  obind (F.ref5_Block a0) fun x_36 =>
  if (decide (x_32 < x_36)) = true then
  (
   if (decide (x_32 < (a1.length : Int))) = true then
   (
    obind (getO a1 (x_32 : Int)) fun x_37 =>
    F.ref5_Filled_K2 a2 x_29 x_32 x_37
   ) else (
    F.ref5_Filled_K2 a2 x_29 x_32 0
   )
  ) else (
   oinr (
    some x_29
   )
  )
noncomputable def F.ref5_Filled (a0 : Int) (a1 : List UInt8) (a2 : UInt8) : Option (List UInt8) :=
 obind (F.ref5_Block a0) fun x_6 =>
 if (decide (x_6 < (a1.length : Int))) = true then
 (
  obind (F.ref4_Sum a0 a1) fun x_7 =>
  loop (F.ref5_Filled_L1 a0 x_7 a2) ([], 0)
 ) else (
  loop (F.ref5_Filled_L2 a0 a1 a2) ([], 0)
 )
noncomputable def F.ref5_Sum_L2 (a0 : Int) (x_18 : List UInt8) : List UInt8 × Int → Option ((List UInt8 × Int) ⊕ (List UInt8))
 | (x_24, x_27) =>
  if (decide (x_27 < (x_18.length : Int))) = true then
  (
   obind (getO x_18 (x_27 : Int)) fun x_31 =>
   obind (apO 1 x_24 [x_31]) fun x_34 =>
   oinl (x_34, wI (x_27 + 1))
  ) else (
   oinr (
    obind (F.ref4_Sum a0 x_24) fun x_37 =>
    some x_37
   )
  )
noncomputable def F.ref5_Sum_L1 (a0 : Int) (a1 : List UInt8) (a2 : List UInt8) : List UInt8 × Int → Option ((List UInt8 × Int) ⊕ (List UInt8))
 | (x_5, x_8) =>
  if (decide (x_8 < (a2.length : Int))) = true then
  (
   obind (getO a2 (x_8 : Int)) fun x_12 =>
   obind (apO 1 x_5 [x_12]) fun x_15 =>
   oinl (x_15, wI (x_8 + 1))
  ) else (
   oinr (
    obind (F.ref4_Sum a0 x_5) fun x_18 =>
    obind (F.ref5_Filled a0 a1 92) fun x_21 =>
    loop (F.ref5_Sum_L2 a0 x_18) (x_21, 0)
   )
  )
noncomputable def F.ref5_Sum (a0 : Int) (a1 : List UInt8) (a2 : List UInt8) : Option (List UInt8) :=
 obind (F.ref5_Block a0) fun x_1 =>
 if (x_1 == 0) = true then
 (
  some []
 ) else (
  obind (F.ref5_Filled a0 a1 54) fun x_2 =>
  loop (F.ref5_Sum_L1 a0 a1 a2) (x_2, 0)
 )
end Go.Gk
