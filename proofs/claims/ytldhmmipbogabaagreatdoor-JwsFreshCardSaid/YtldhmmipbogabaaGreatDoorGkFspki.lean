import Derived.Test.YtldhmmipbogabaaGreatDoorGkS
set_option linter.unusedVariables false
set_option linter.unusedSimpArgs false
set_option linter.unusedVariables false
namespace Go.Gk
noncomputable def F.spki_unused_L1 (a0 : List (List UInt8)) : Int × Int → Option ((Int × Int) ⊕ (Bool))
 | (x_1, x_2) =>
  if (decide (x_2 < (a0.length : Int))) = true then
  (
   obind (getO a0 (x_2 : Int)) fun x_6 =>
   olet (wI (x_1 + (x_6.length : Int))) fun x_8 =>
   oinl (x_8, wI (x_2 + 1))
  ) else (
   oinr (
    some (x_1 == 0)
   )
  )
noncomputable def F.spki_unused (a0 : List (List UInt8)) : Option (Bool) :=
 loop (F.spki_unused_L1 a0) (0, 0)
noncomputable def F.spki_good_K1  : Bool → Option (Bool)
 | x_18 =>
  if x_18 = true then
  (
   some false
  ) else (
   none
  )
noncomputable def F.spki_good (a0_0 : Int) (a0_1 : Int) (a0_2 : List UInt8) (a0_3 : List UInt8) (a0_4 : List UInt8) (a0_5 : List UInt8) (a0_6 : List UInt8) : Option (Bool) :=
 if (a0_0 == 1) = true then
 (
  if (a0_1 == 0) = true then
  (
   if (decide ((32 : Int) ≤ (a0_2.length : Int))) = true then
   (
    if (decide ((a0_2.length : Int) ≤ 4096)) = true then
    (
     obind (F.spki_unused [a0_3, a0_4, a0_5, a0_6]) fun x_8 =>
     some x_8
    ) else (
     some false
    )
   ) else (
    some false
   )
  ) else (
   some false
  )
 ) else (
  if (a0_0 == 2) = true then
  (
   if (a0_1 == 0) = true then
   (
    obind (F.spki_unused [a0_2, a0_5, a0_6]) fun x_12 =>
    if x_12 = true then
    (
     none
    ) else (
     some false
    )
   ) else (
    some false
   )
  ) else (
   if (a0_0 == 3) = true then
   (
    none
   ) else (
    if (a0_0 == 4) = true then
    (
     if (a0_1 != 3) = true then
     (
      F.spki_good_K1 true
     ) else (
      obind (F.spki_unused [a0_2, a0_3, a0_4, a0_6]) fun x_17 =>
      F.spki_good_K1 (!x_17)
     )
    ) else (
     some false
    )
   )
  )
 )
noncomputable def F.spki_Check (a0_0 : Int) (a0_1 : Int) (a0_2 : List UInt8) (a0_3 : List UInt8) (a0_4 : List UInt8) (a0_5 : List UInt8) (a0_6 : List UInt8) : Option (Int) :=
 obind (F.spki_good a0_0 a0_1 a0_2 a0_3 a0_4 a0_5 a0_6) fun x_3 =>
 if x_3 = true then
 (
  some 0
 ) else (
  some 90
 )
end Go.Gk
