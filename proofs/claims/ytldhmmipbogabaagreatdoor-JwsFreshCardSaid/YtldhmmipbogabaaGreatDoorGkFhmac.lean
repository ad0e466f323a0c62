import Derived.Test.YtldhmmipbogabaaGreatDoorGkS
import Derived.Test.YtldhmmipbogabaaGreatDoorGkFsha
set_option linter.unusedVariables false
set_option linter.unusedSimpArgs false
set_option linter.unusedVariables false
namespace Go.Gk
noncomputable def F.hmac_Equal_L1 (a0 : List UInt8) (a1 : List UInt8) : UInt8 × Int → Option ((UInt8 × Int) ⊕ (Bool))
 | (x_1, x_2) =>
  if (decide (x_2 < (a0.length : Int))) = true then
  (
   obind (getO a0 (x_2 : Int)) fun x_6 =>
   obind (getO a1 (x_2 : Int)) fun x_7 =>
   oinl (x_1 ||| (x_6 ^^^ x_7), wI (x_2 + 1))
  ) else (
   oinr (
    some (x_1 == 0)
   )
  )
noncomputable def F.hmac_Equal (a0 : List UInt8) (a1 : List UInt8) : Option (Bool) :=
 if ((a0.length : Int) != (a1.length : Int)) = true then
 (
  some false
 ) else (
  loop (F.hmac_Equal_L1 a0 a1) (0, 0)
 )
noncomputable def F.hmac_filled_L1 (a2 : UInt8) (x_19 : Int) : Int × List UInt8 → Option ((Int × List UInt8) ⊕ (List UInt8))
 | (x_20, x_21) =>
  if (decide (x_20 < x_19)) = true then
  (
   obind (getO x_21 (x_20 : Int)) fun x_25 =>
   obind (getO x_21 (x_20 : Int)) fun x_26 =>
   olet (x_21.set (x_20 : Int).toNat (x_25 ^^^ a2)) fun x_27 =>
   oinl (wI (x_20 + 1), x_27)
  ) else (
   oinr (
    some x_21
   )
  )
noncomputable def F.hmac_filled_L2 (a2 : UInt8) (x_35 : Int) : Int × List UInt8 → Option ((Int × List UInt8) ⊕ (List UInt8))
 | (x_36, x_37) =>
  if (decide (x_36 < x_35)) = true then
  (
   obind (getO x_37 (x_36 : Int)) fun x_41 =>
   obind (getO x_37 (x_36 : Int)) fun x_42 =>
   olet (x_37.set (x_36 : Int).toNat (x_41 ^^^ a2)) fun x_43 =>
   oinl (wI (x_36 + 1), x_43)
  ) else (
   oinr (
    some x_37
   )
  )
noncomputable def F.hmac_filled (a0 : Int) (a1 : List UInt8) (a2 : UInt8) : Option (List UInt8) :=
 obind (F.sha_Block a0) fun x_8 =>
 if (decide (x_8 < (a1.length : Int))) = true then
 (
  obind (F.sha_Sum a0 [a1]) fun x_11 =>
  obind (F.sha_Block a0) fun x_14 =>
  obind (mkO 1 (x_14 : Int) (x_14 : Int) (0 : UInt8)) fun x_15 =>
  olet (cpL x_15 x_11 0 x_15.length) fun x_18 =>
  obind (F.sha_Block a0) fun x_19 =>
  loop (F.hmac_filled_L1 a2 x_19) (0, x_18)
 ) else (
  obind (F.sha_Block a0) fun x_30 =>
  obind (mkO 1 (x_30 : Int) (x_30 : Int) (0 : UInt8)) fun x_31 =>
  olet (cpL x_31 a1 0 x_31.length) fun x_34 =>
  obind (F.sha_Block a0) fun x_35 =>
  loop (F.hmac_filled_L2 a2 x_35) (0, x_34)
 )
noncomputable def F.hmac_Sum (a0 : Int) (a1 : List UInt8) (a2 : List UInt8) : Option (List UInt8) :=
 obind (F.sha_Size a0) fun x_1 =>
 if (x_1 == 0) = true then
 (
  some []
 ) else (
  obind (F.hmac_filled a0 a1 92) fun x_2 =>
  obind (F.hmac_filled a0 a1 54) fun x_5 =>
  obind (F.sha_Sum a0 [x_5, a2]) fun x_10 =>
  obind (F.sha_Sum a0 [x_2, x_10]) fun x_15 =>
  some x_15
 )
noncomputable def F.hmac_Check (a0 : Int) (a1 : List UInt8) (a2 : List UInt8) (a3 : List UInt8) : Option (Bool) :=
 obind (F.sha_Size a0) fun x_1 =>
 if (decide ((0 : Int) < x_1)) = true then
 (
  obind (F.hmac_Sum a0 a1 a2) fun x_3 =>
  obind (F.hmac_Equal x_3 a3) fun x_6 =>
  some x_6
 ) else (
  some false
 )
end Go.Gk
