import Derived.Test.YtgjpaedgcpjigaaDoorGkS
import Derived.Test.YtgjpaedgcpjigaaDoorGkFman
set_option linter.unusedVariables false
set_option linter.unusedSimpArgs false
set_option linter.unusedVariables false
namespace Go.Gk
noncomputable def F.cmp_isNaN_byte (a0 : UInt8) : Option (Bool) :=
 some (a0 != a0)
noncomputable def F.cmp_Compare_byte (a0 : UInt8) (a1 : UInt8) : Option (Int) :=
 obind (F.cmp_isNaN_byte a0) fun x_1 =>
 obind (F.cmp_isNaN_byte a1) fun x_2 =>
 if x_1 = true then
 (
  if x_2 = true then
  (
   some 0
  ) else (
   some (-1)
  )
 ) else (
  if x_2 = true then
  (
   some 1
  ) else (
   if (decide (a0 < a1)) = true then
   (
    some (-1)
   ) else (
    if (decide (a1 < a0)) = true then
    (
     some 1
    ) else (
     some 0
    )
   )
  )
 )
noncomputable def F.slices_Compare_byte_byte_L1 (a0 : List UInt8) (a1 : List UInt8) : Int → Option ((Int) ⊕ (Int))
 | x_1 =>
  if (decide (x_1 < (a0.length : Int))) = true then
  (
   obind (getO a0 (x_1 : Int)) fun x_5 =>
   if (decide ((a1.length : Int) ≤ x_1)) = true then
   (
    oinr (
     some 1
    )
   ) else (
    obind (getO a1 (x_1 : Int)) fun x_6 =>
    obind (F.cmp_Compare_byte x_5 x_6) fun x_7 =>
    if (x_7 != 0) = true then
    (
     oinr (
      some x_7
     )
    ) else (
     oinl (wI (x_1 + 1))
    )
   )
  ) else (
   oinr (
    if (decide ((a0.length : Int) < (a1.length : Int))) = true then
    (
     some (-1)
    ) else (
     some 0
    )
   )
  )
noncomputable def F.slices_Compare_byte_byte (a0 : List UInt8) (a1 : List UInt8) : Option (Int) :=
 loop (F.slices_Compare_byte_byte_L1 a0 a1) 0
noncomputable def F.slices_Clone_byte_byte (a0 : List UInt8) : Option (List UInt8) :=
 obind (apO 1 [] a0) fun x_6 =>
 some x_6
noncomputable def F.slices_Index_int_int_L1 (a0 : List Int) (a1 : Int) : Int → Option ((Int) ⊕ (Int))
 | x_1 =>
  if (decide (x_1 < (a0.length : Int))) = true then
  (
   obind (getO a0 (x_1 : Int)) fun x_5 =>
   if (a1 == x_5) = true then
   (
    oinr (
     some x_1
    )
   ) else (
    oinl (wI (x_1 + 1))
   )
  ) else (
   oinr (
    some (-1)
   )
  )
noncomputable def F.slices_Index_int_int (a0 : List Int) (a1 : Int) : Option (Int) :=
 loop (F.slices_Index_int_int_L1 a0 a1) 0
noncomputable def F.slices_Contains_int_int (a0 : List Int) (a1 : Int) : Option (Bool) :=
 obind (F.slices_Index_int_int a0 a1) fun x_1 =>
 some (decide ((0 : Int) ≤ x_1))
end Go.Gk
