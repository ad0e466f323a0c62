import Derived.Test.YtpbgncmffgnohaaGkS
set_option linter.unusedVariables false
set_option linter.unusedSimpArgs false
set_option linter.unusedVariables false
namespace Go.Gk
noncomputable def F.ref6_limb (a0 : List UInt32) (a1 : Int) : Option (UInt64) :=
 if (decide ((a0.length : Int) ≤ a1)) = true then
 (
  some 0
 ) else (
  obind (getO a0 (a1 : Int)) fun x_1 =>
  some x_1.toUInt64
 )
noncomputable def F.ref6_Cmp_L1 (a0 : List UInt32) (a1 : List UInt32) : Int → Option ((Int) ⊕ (Int))
 | x_4 =>
  if (decide ((0 : Int) ≤ x_4)) = true then
  (
   obind (F.ref6_limb a0 x_4) fun x_8 =>
   obind (F.ref6_limb a1 x_4) fun x_9 =>
   if (decide (x_8 < x_9)) = true then
   (
    oinr (
     some (-1)
    )
   ) else (
    if (decide (x_9 < x_8)) = true then
    (
     oinr (
      some 1
     )
    ) else (
     oinl (wI (x_4 - 1))
    )
   )
  ) else (
   oinr (
    some 0
   )
  )
noncomputable def F.ref6_Cmp_K1 (a0 : List UInt32) (a1 : List UInt32) : Int → Option (Int)
 | x_2 =>
  loop (F.ref6_Cmp_L1 a0 a1) (wI (x_2 - 1))
noncomputable def F.ref6_Cmp (a0 : List UInt32) (a1 : List UInt32) : Option (Int) :=
 if (decide ((a0.length : Int) < (a1.length : Int))) = true then
 (
  F.ref6_Cmp_K1 a0 a1 (a1.length : Int)
 ) else (
  F.ref6_Cmp_K1 a0 a1 (a0.length : Int)
 )
end Go.Gk
