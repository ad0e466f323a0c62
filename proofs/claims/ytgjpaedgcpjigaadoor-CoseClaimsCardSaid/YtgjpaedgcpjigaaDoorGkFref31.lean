import Derived.Test.YtgjpaedgcpjigaaDoorGkS
import Derived.Test.YtgjpaedgcpjigaaDoorGkFref30
set_option linter.unusedVariables false
set_option linter.unusedSimpArgs false
set_option linter.unusedVariables false
namespace Go.Gk
noncomputable def F.ref31_value (a0 : List (Int × UInt64 × (List UInt8) × Int)) (a1 : Int) (a2 : UInt64) : Option (Int) :=
 obind (F.ref30_Member a0 a1 ([(0, a2, [], 0)] : List (Int × UInt64 × (List UInt8) × Int))) fun x_3 =>
 some x_3
noncomputable def F.ref31_said1 (a0 : List (Int × UInt64 × (List UInt8) × Int)) (a1 : UInt64) (a2 : Int) : Option (List UInt8 × Bool × Bool) :=
 obind (F.ref31_value a0 0 a1) fun x_1 =>
 if (decide (x_1 < 0)) = true then
 (
  some ([], false, true)
 ) else (
  obind (getO a0 (x_1 : Int)) fun x_2 =>
  obind (getO a0 (x_1 : Int)) fun x_3 =>
  some (x_2.2.2.1, true, x_3.1 == a2)
 )
noncomputable def F.ref31_audience_L1 (a0 : List (Int × UInt64 × (List UInt8) × Int)) (x_1 : Int) : List (List UInt8) × Int × Int → Option ((List (List UInt8) × Int × Int) ⊕ (List (List UInt8) × Bool × Bool))
 | (x_7, x_10, x_11) =>
  obind (getO a0 (x_1 : Int)) fun x_15 =>
  if (decide (x_11 < x_15.2.2.2)) = true then
  (
   obind (getO a0 (x_10 : Int)) fun x_16 =>
   if (x_16.1 != 3) = true then
   (
    oinr (
     some ([], true, false)
    )
   ) else (
    obind (getO a0 (x_10 : Int)) fun x_17 =>
    obind (apO 16 x_7 ([x_17.2.2.1] : List (List UInt8))) fun x_20 =>
    oinl (x_20, wI (x_10 + 1), wI (x_11 + 1))
   )
  ) else (
   oinr (
    some (x_7, true, true)
   )
  )
noncomputable def F.ref31_audience (a0 : List (Int × UInt64 × (List UInt8) × Int)) : Option (List (List UInt8) × Bool × Bool) :=
 obind (F.ref31_value a0 0 3) fun x_1 =>
 if (decide (x_1 < 0)) = true then
 (
  some ([], false, true)
 ) else (
  obind (getO a0 (x_1 : Int)) fun x_2 =>
  if (x_2.1 == 3) = true then
  (
   obind (getO a0 (x_1 : Int)) fun x_3 =>
   some (([x_3.2.2.1] : List (List UInt8)), true, true)
  ) else (
   obind (getO a0 (x_1 : Int)) fun x_6 =>
   if (x_6.1 != 4) = true then
   (
    some ([], true, false)
   ) else (
    loop (F.ref31_audience_L1 a0 x_1) ([], wI (x_1 + 1), 0)
   )
  )
 )
noncomputable def F.ref31_time_K2  : Int → Option (Bool × Int × Bool)
 | x_13 =>
  some (true, x_13, true)
noncomputable def F.ref31_time_K1 (a0 : List (Int × UInt64 × (List UInt8) × Int)) (x_3 : Int) : Bool → Option (Bool × Int × Bool)
 | x_7 =>
  if x_7 = true then
  (
   some (false, 0, false)
  ) else (
   obind (getO a0 (x_3 : Int)) fun x_9 =>
   obind (getO a0 (x_3 : Int)) fun x_10 =>
   if (x_10.1 == 1) = true then
   (
    olet (wI ((-1) - (wI (x_9.2.1.toNat : Int)))) fun x_11 =>
    F.ref31_time_K2 x_11
   ) else (
    F.ref31_time_K2 (wI (x_9.2.1.toNat : Int))
   )
  )
noncomputable def F.ref31_time (a0 : List (Int × UInt64 × (List UInt8) × Int)) (a1 : UInt64) : Option (Bool × Int × Bool) :=
 obind (F.ref31_value a0 0 a1) fun x_3 =>
 if (decide (x_3 < 0)) = true then
 (
  some (false, 0, true)
 ) else (
  obind (getO a0 (x_3 : Int)) fun x_4 =>
  if (decide ((1 : Int) < x_4.1)) = true then
  (
   F.ref31_time_K1 a0 x_3 true
  ) else (
   obind (getO a0 (x_3 : Int)) fun x_6 =>
   F.ref31_time_K1 a0 x_3 (decide ((9223372036854775807 : UInt64) < x_6.2.1))
  )
 )
noncomputable def F.ref31_Claims_K1 (x_7 : List UInt8 × Bool × Bool) (x_8 : List UInt8 × Bool × Bool) (x_9 : List (List UInt8) × Bool × Bool) (x_12 : Bool × Int × Bool) (x_15 : Bool × Int × Bool) (x_18 : Bool × Int × Bool) (x_21 : List UInt8 × Bool × Bool) : Bool → Option (List (Int × (List UInt8) × (List UInt8) × Bool × Int × Int) × List UInt8 × Bool × List UInt8 × Bool × List (List UInt8) × Bool × List UInt8 × Bool × Bool × Int × Bool × Int × Bool × Int × Int)
 | x_28 =>
  if x_28 = true then
  (
   some ([], [], false, [], false, [], false, [], false, false, 0, false, 0, false, 0, 131)
  ) else (
   some ([], x_7.1, x_7.2.1, x_8.1, x_8.2.1, x_9.1, x_9.2.1, x_21.1, x_21.2.1, x_12.1, x_12.2.1, x_15.1, x_15.2.1, x_18.1, x_18.2.1, 0)
  )
noncomputable def F.ref31_Claims (a0 : List UInt8) : Option (List (Int × (List UInt8) × (List UInt8) × Bool × Int × Int) × List UInt8 × Bool × List UInt8 × Bool × List (List UInt8) × Bool × List UInt8 × Bool × Bool × Int × Bool × Int × Bool × Int × Int) :=
 obind (F.ref30_Parse a0) fun x_3 =>
 if (x_3.2.1 != 0) = true then
 (
  some ([], [], false, [], false, [], false, [], false, false, 0, false, 0, false, 0, x_3.2.1)
 ) else (
  obind (getO x_3.1 (0 : Int)) fun x_6 =>
  if (x_6.1 != 5) = true then
  (
   some ([], [], false, [], false, [], false, [], false, false, 0, false, 0, false, 0, 130)
  ) else (
   obind (F.ref31_said1 x_3.1 1 3) fun x_7 =>
   obind (F.ref31_said1 x_3.1 2 3) fun x_8 =>
   obind (F.ref31_audience x_3.1) fun x_9 =>
   obind (F.ref31_time x_3.1 4) fun x_12 =>
   obind (F.ref31_time x_3.1 5) fun x_15 =>
   obind (F.ref31_time x_3.1 6) fun x_18 =>
   obind (F.ref31_said1 x_3.1 7 2) fun x_21 =>
   if (!x_7.2.2) = true then
   (
    F.ref31_Claims_K1 x_7 x_8 x_9 x_12 x_15 x_18 x_21 true
   ) else (
    if (!x_8.2.2) = true then
    (
     F.ref31_Claims_K1 x_7 x_8 x_9 x_12 x_15 x_18 x_21 true
    ) else (
     if (!x_9.2.2) = true then
     (
      F.ref31_Claims_K1 x_7 x_8 x_9 x_12 x_15 x_18 x_21 true
     ) else (
      if (!x_12.2.2) = true then
      (
       F.ref31_Claims_K1 x_7 x_8 x_9 x_12 x_15 x_18 x_21 true
      ) else (
       if (!x_15.2.2) = true then
       (
        F.ref31_Claims_K1 x_7 x_8 x_9 x_12 x_15 x_18 x_21 true
       ) else (
        if (!x_18.2.2) = true then
        (
         F.ref31_Claims_K1 x_7 x_8 x_9 x_12 x_15 x_18 x_21 true
        ) else (
         F.ref31_Claims_K1 x_7 x_8 x_9 x_12 x_15 x_18 x_21 (!x_21.2.2)
        )
       )
      )
     )
    )
   )
  )
 )
end Go.Gk
