import Derived.Test.YtpbgncmffgnohaaGreatGkS
import Derived.Test.YtpbgncmffgnohaaGreatGkFnat
set_option linter.unusedVariables false
set_option linter.unusedSimpArgs false
set_option linter.unusedVariables false
namespace Go.Gk
noncomputable def F.modn_size (a0 : List UInt32) : Option (Int) :=
 obind (F.nat_Bits a0) fun x_1 =>
 some (wI (Int.tdiv (wI (x_1 + 31)) 32))
noncomputable def F.modn_wrong_L1 (a0 : List (List UInt32)) : Int → Option ((Int) ⊕ (Int))
 | x_1 =>
  if (decide (x_1 < (a0.length : Int))) = true then
  (
   obind (getO a0 (x_1 : Int)) fun x_5 =>
   obind (F.modn_size x_5) fun x_7 =>
   if (decide ((128 : Int) < x_7)) = true then
   (
    oinr (
     some 10
    )
   ) else (
    oinl (wI (x_1 + 1))
   )
  ) else (
   oinr (
    obind (getO a0 (wI ((a0.length : Int) - 1) : Int)) fun x_9 =>
    obind (F.nat_Bits x_9) fun x_11 =>
    if (decide (x_11 < 2)) = true then
    (
     some 60
    ) else (
     some 0
    )
   )
  )
noncomputable def F.modn_wrong (a0 : List (List UInt32)) : Option (Int) :=
 loop (F.modn_wrong_L1 a0) 0
noncomputable def F.modn_minus_K1  : List UInt32 → Option (List UInt32)
 | x_11 =>
  some x_11
noncomputable def F.modn_minus (a0 : List UInt32) (a1 : List UInt32) (a2 : List UInt32) : Option (List UInt32) :=
 obind (F.nat_Sub a0 a1) fun x_1 =>
 if (!x_1.2) = true then
 (
  obind (F.nat_Add a0 a2) fun x_4 =>
  obind (F.nat_Sub x_4 a1) fun x_7 =>
  F.modn_minus_K1 x_7.1
 ) else (
  F.modn_minus_K1 x_1.1
 )
noncomputable def F.modn_rest (a0 : List UInt32) (a1 : List UInt32) : Option (List UInt32) :=
 obind (F.nat_DivMod a0 a1) fun x_1 =>
 some x_1.2.1
noncomputable def F.modn_Sub (a0 : List UInt32) (a1 : List UInt32) (a2 : List UInt32) : Option (List UInt32 × Int) :=
 obind (F.modn_wrong [a0, a1, a2]) fun x_3 =>
 if (x_3 != 0) = true then
 (
  some ([], x_3)
 ) else (
  obind (F.modn_rest a0 a2) fun x_4 =>
  obind (F.modn_rest a1 a2) fun x_7 =>
  obind (F.modn_minus x_4 x_7 a2) fun x_10 =>
  some (x_10, 0)
 )
noncomputable def F.modn_Add (a0 : List UInt32) (a1 : List UInt32) (a2 : List UInt32) : Option (List UInt32 × Int) :=
 obind (F.modn_wrong [a0, a1, a2]) fun x_3 =>
 if (x_3 != 0) = true then
 (
  some ([], x_3)
 ) else (
  obind (F.nat_Add a0 a1) fun x_4 =>
  obind (F.modn_rest x_4 a2) fun x_7 =>
  some (x_7, 0)
 )
noncomputable def F.modn_Mul (a0 : List UInt32) (a1 : List UInt32) (a2 : List UInt32) : Option (List UInt32 × Int) :=
 obind (F.modn_wrong [a0, a1, a2]) fun x_3 =>
 if (x_3 != 0) = true then
 (
  some ([], x_3)
 ) else (
  obind (F.nat_Mul a0 a1) fun x_4 =>
  obind (F.modn_rest x_4 a2) fun x_7 =>
  some (x_7, 0)
 )
end Go.Gk
