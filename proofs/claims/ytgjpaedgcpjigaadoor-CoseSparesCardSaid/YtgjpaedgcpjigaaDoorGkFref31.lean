import Derived.Test.YtgjpaedgcpjigaaDoorGkS
import Derived.Test.YtgjpaedgcpjigaaDoorGkFref30
set_option linter.unusedVariables false
set_option linter.unusedSimpArgs false
set_option linter.unusedVariables false
namespace Go.Gk
noncomputable def F.ref31_said (a0 : Int) (a1 : List UInt8) : Option (List UInt8) :=
 obind (F.ref30_Head a0 (UInt64.ofInt (a1.length : Int))) fun x_1 =>
 obind (sadO x_1 a1) fun x_2 =>
 some x_2
noncomputable def F.ref31_value (a0 : List (Int × UInt64 × (List UInt8) × Int)) (a1 : Int) (a2 : UInt64) : Option (Int) :=
 obind (F.ref30_Member a0 a1 ([(0, a2, [], 0)] : List (Int × UInt64 × (List UInt8) × Int))) fun x_3 =>
 some x_3
noncomputable def F.ref31_said1 (a0 : List (Int × UInt64 × (List UInt8) × Int)) (a1 : UInt64) (a2 : Int) : Option (List UInt8 × Bool × Bool) :=
 obind (F.ref31_value a0 0 a1) fun x_1 =>
 if (decide (x_1 < 0)) = true then
 (
  some ([], false, true)
 ) else (
  obind (getO a0 (x_1 : Int)) fun x_2 =>
  obind (getO a0 (x_1 : Int)) fun x_3 =>
  some (x_2.2.2.1, true, x_3.1 == a2)
 )
noncomputable def F.ref31_audience_L1 (a0 : List (Int × UInt64 × (List UInt8) × Int)) (x_1 : Int) : List (List UInt8) × Int × Int → Option ((List (List UInt8) × Int × Int) ⊕ (List (List UInt8) × Bool × Bool))
 | (x_7, x_10, x_11) =>
  obind (getO a0 (x_1 : Int)) fun x_15 =>
  if (decide (x_11 < x_15.2.2.2)) = true then
  (
   obind (getO a0 (x_10 : Int)) fun x_16 =>
   if (x_16.1 != 3) = true then
   (
    oinr (
     some ([], true, false)
    )
   ) else (
    obind (getO a0 (x_10 : Int)) fun x_17 =>
    obind (apO 16 x_7 ([x_17.2.2.1] : List (List UInt8))) fun x_20 =>
    oinl (x_20, wI (x_10 + 1), wI (x_11 + 1))
   )
  ) else (
   oinr (
    some (x_7, true, true)
   )
  )
noncomputable def F.ref31_audience (a0 : List (Int × UInt64 × (List UInt8) × Int)) : Option (List (List UInt8) × Bool × Bool) :=
 obind (F.ref31_value a0 0 3) fun x_1 =>
 if (decide (x_1 < 0)) = true then
 (
  some ([], false, true)
 ) else (
  obind (getO a0 (x_1 : Int)) fun x_2 =>
  if (x_2.1 == 3) = true then
  (
   obind (getO a0 (x_1 : Int)) fun x_3 =>
   some (([x_3.2.2.1] : List (List UInt8)), true, true)
  ) else (
   obind (getO a0 (x_1 : Int)) fun x_6 =>
   if (x_6.1 != 4) = true then
   (
    some ([], true, false)
   ) else (
    loop (F.ref31_audience_L1 a0 x_1) ([], wI (x_1 + 1), 0)
   )
  )
 )
noncomputable def F.ref31_time_K2  : Int → Option (Bool × Int × Bool)
 | x_13 =>
  some (true, x_13, true)
noncomputable def F.ref31_time_K1 (a0 : List (Int × UInt64 × (List UInt8) × Int)) (x_3 : Int) : Bool → Option (Bool × Int × Bool)
 | x_7 =>
  if x_7 = true then
  (
   some (false, 0, false)
  ) else (
   obind (getO a0 (x_3 : Int)) fun x_9 =>
   obind (getO a0 (x_3 : Int)) fun x_10 =>
   if (x_10.1 == 1) = true then
   (
    olet (wI ((-1) - (wI (x_9.2.1.toNat : Int)))) fun x_11 =>
    F.ref31_time_K2 x_11
   ) else (
    F.ref31_time_K2 (wI (x_9.2.1.toNat : Int))
   )
  )
noncomputable def F.ref31_time (a0 : List (Int × UInt64 × (List UInt8) × Int)) (a1 : UInt64) : Option (Bool × Int × Bool) :=
 obind (F.ref31_value a0 0 a1) fun x_3 =>
 if (decide (x_3 < 0)) = true then
 (
  some (false, 0, true)
 ) else (
  obind (getO a0 (x_3 : Int)) fun x_4 =>
  if (decide ((1 : Int) < x_4.1)) = true then
  (
   F.ref31_time_K1 a0 x_3 true
  ) else (
   obind (getO a0 (x_3 : Int)) fun x_6 =>
   F.ref31_time_K1 a0 x_3 (decide ((9223372036854775807 : UInt64) < x_6.2.1))
  )
 )
noncomputable def F.ref31_Claims_K1 (x_7 : List UInt8 × Bool × Bool) (x_8 : List UInt8 × Bool × Bool) (x_9 : List (List UInt8) × Bool × Bool) (x_12 : Bool × Int × Bool) (x_15 : Bool × Int × Bool) (x_18 : Bool × Int × Bool) (x_21 : List UInt8 × Bool × Bool) : Bool → Option (List (Int × (List UInt8) × (List UInt8) × Bool × Int × Int) × List UInt8 × Bool × List UInt8 × Bool × List (List UInt8) × Bool × List UInt8 × Bool × Bool × Int × Bool × Int × Bool × Int × Int)
 | x_28 =>
  if x_28 = true then
  (
   some ([], [], false, [], false, [], false, [], false, false, 0, false, 0, false, 0, 131)
  ) else (
   some ([], x_7.1, x_7.2.1, x_8.1, x_8.2.1, x_9.1, x_9.2.1, x_21.1, x_21.2.1, x_12.1, x_12.2.1, x_15.1, x_15.2.1, x_18.1, x_18.2.1, 0)
  )
noncomputable def F.ref31_Claims (a0 : List UInt8) : Option (List (Int × (List UInt8) × (List UInt8) × Bool × Int × Int) × List UInt8 × Bool × List UInt8 × Bool × List (List UInt8) × Bool × List UInt8 × Bool × Bool × Int × Bool × Int × Bool × Int × Int) :=
 obind (F.ref30_Parse a0) fun x_3 =>
 if (x_3.2.1 != 0) = true then
 (
  some ([], [], false, [], false, [], false, [], false, false, 0, false, 0, false, 0, x_3.2.1)
 ) else (
  obind (getO x_3.1 (0 : Int)) fun x_6 =>
  if (x_6.1 != 5) = true then
  (
   some ([], [], false, [], false, [], false, [], false, false, 0, false, 0, false, 0, 130)
  ) else (
   obind (F.ref31_said1 x_3.1 1 3) fun x_7 =>
   obind (F.ref31_said1 x_3.1 2 3) fun x_8 =>
   obind (F.ref31_audience x_3.1) fun x_9 =>
   obind (F.ref31_time x_3.1 4) fun x_12 =>
   obind (F.ref31_time x_3.1 5) fun x_15 =>
   obind (F.ref31_time x_3.1 6) fun x_18 =>
   obind (F.ref31_said1 x_3.1 7 2) fun x_21 =>
   if (!x_7.2.2) = true then
   (
    F.ref31_Claims_K1 x_7 x_8 x_9 x_12 x_15 x_18 x_21 true
   ) else (
    if (!x_8.2.2) = true then
    (
     F.ref31_Claims_K1 x_7 x_8 x_9 x_12 x_15 x_18 x_21 true
    ) else (
     if (!x_9.2.2) = true then
     (
      F.ref31_Claims_K1 x_7 x_8 x_9 x_12 x_15 x_18 x_21 true
     ) else (
      if (!x_12.2.2) = true then
      (
       F.ref31_Claims_K1 x_7 x_8 x_9 x_12 x_15 x_18 x_21 true
      ) else (
       if (!x_15.2.2) = true then
       (
        F.ref31_Claims_K1 x_7 x_8 x_9 x_12 x_15 x_18 x_21 true
       ) else (
        if (!x_18.2.2) = true then
        (
         F.ref31_Claims_K1 x_7 x_8 x_9 x_12 x_15 x_18 x_21 true
        ) else (
         F.ref31_Claims_K1 x_7 x_8 x_9 x_12 x_15 x_18 x_21 (!x_21.2.2)
        )
       )
      )
     )
    )
   )
  )
 )
noncomputable def F.ref31_kid (a0 : List (Int × UInt64 × (List UInt8) × Int)) (a1 : Int) : Option (List UInt8 × Bool × Bool) :=
 obind (F.ref31_value a0 a1 4) fun x_1 =>
 if (decide (x_1 < 0)) = true then
 (
  some ([], false, true)
 ) else (
  obind (getO a0 (x_1 : Int)) fun x_2 =>
  obind (getO a0 (x_1 : Int)) fun x_3 =>
  some (x_2.2.2.1, true, x_3.1 == 2)
 )
noncomputable def F.ref31_alg_K2 (a0_1 : UInt64) : Bool → Option (Int)
 | x_9 =>
  if x_9 = true then
  (
   some (wI ((wI (4 + (wI (a0_1.toNat : Int)))) - 256))
  ) else (
   some 0
  )
noncomputable def F.ref31_alg_K1 (a0_1 : UInt64) : Bool → Option (Int)
 | x_5 =>
  if x_5 = true then
  (
   some (wI ((wI (7 + (wI (a0_1.toNat : Int)))) - 36))
  ) else (
   if (a0_1 == 256) = true then
   (
    F.ref31_alg_K2 a0_1 (a0_1 == 256)
   ) else (
    if (a0_1 == 257) = true then
    (
     F.ref31_alg_K2 a0_1 (a0_1 == 257)
    ) else (
     F.ref31_alg_K2 a0_1 (a0_1 == 258)
    )
   )
  )
noncomputable def F.ref31_alg (a0_0 : Int) (a0_1 : UInt64) (a0_2 : List UInt8) (a0_3 : Int) : Option (Int) :=
 if (a0_0 != 1) = true then
 (
  some 0
 ) else (
  if (a0_1 == 6) = true then
  (
   some 10
  ) else (
   if (a0_1 == 34) = true then
   (
    some 11
   ) else (
    if (a0_1 == 7) = true then
    (
     some 12
    ) else (
     if (a0_1 == 36) = true then
     (
      F.ref31_alg_K1 a0_1 (a0_1 == 36)
     ) else (
      if (a0_1 == 37) = true then
      (
       F.ref31_alg_K1 a0_1 (a0_1 == 37)
      ) else (
       F.ref31_alg_K1 a0_1 (a0_1 == 38)
      )
     )
    )
   )
  )
 )
noncomputable def F.ref31_split_K7 (x_26 : (Int × UInt64 × (List UInt8) × Int)) (x_27 : (Int × UInt64 × (List UInt8) × Int)) (x_28 : (Int × UInt64 × (List UInt8) × Int)) (x_33 : List (Int × UInt64 × (List UInt8) × Int) × Int × Int) (x_36 : Int) (x_37 : List UInt8 × Bool × Bool) (x_46 : List UInt8 × Bool × Bool) : Bool → Option (List UInt8 × List UInt8 × List UInt8 × List UInt8 × Int × Int)
 | x_54 =>
  if x_54 = true then
  (
   some ([], [], [], [], 0, 221)
  ) else (
   obind (sadO x_37.1 x_46.1) fun x_56 =>
   obind (getO x_33.1 (x_36 : Int)) fun x_57 =>
   obind (F.ref31_alg x_57.1 x_57.2.1 x_57.2.2.1 x_57.2.2.2) fun x_58 =>
   if (x_58 == 0) = true then
   (
    some ([], [], [], [], 0, 111)
   ) else (
    some (x_26.2.2.1, x_56, x_27.2.2.1, x_28.2.2.1, x_58, 0)
   )
  )
noncomputable def F.ref31_split_K6 (a0 : List (Int × UInt64 × (List UInt8) × Int)) (x_9 : Int) (x_37 : List UInt8 × Bool × Bool) (x_46 : List UInt8 × Bool × Bool) (x_26 : (Int × UInt64 × (List UInt8) × Int)) (x_27 : (Int × UInt64 × (List UInt8) × Int)) (x_28 : (Int × UInt64 × (List UInt8) × Int)) (x_33 : List (Int × UInt64 × (List UInt8) × Int) × Int × Int) (x_36 : Int) : Int → Option (List UInt8 × List UInt8 × List UInt8 × List UInt8 × Int × Int)
 | x_48 =>
  if (!x_46.2.2) = true then
  (
   F.ref31_split_K7 x_26 x_27 x_28 x_33 x_36 x_37 x_46 true
  ) else (
   obind (getO a0 (wI (x_9 + 2) : Int)) fun x_51 =>
   if (x_51.2.2.2 != (wI (2 * x_48))) = true then
   (
    F.ref31_split_K7 x_26 x_27 x_28 x_33 x_36 x_37 x_46 true
   ) else (
    if x_37.2.1 = true then
    (
     F.ref31_split_K7 x_26 x_27 x_28 x_33 x_36 x_37 x_46 x_46.2.1
    ) else (
     F.ref31_split_K7 x_26 x_27 x_28 x_33 x_36 x_37 x_46 false
    )
   )
  )
noncomputable def F.ref31_split_K5 (a0 : List (Int × UInt64 × (List UInt8) × Int)) (x_9 : Int) (x_37 : List UInt8 × Bool × Bool) (x_26 : (Int × UInt64 × (List UInt8) × Int)) (x_27 : (Int × UInt64 × (List UInt8) × Int)) (x_28 : (Int × UInt64 × (List UInt8) × Int)) (x_33 : List (Int × UInt64 × (List UInt8) × Int) × Int × Int) (x_36 : Int) : Bool → Option (List UInt8 × List UInt8 × List UInt8 × List UInt8 × Int × Int)
 | x_44 =>
  if x_44 = true then
  (
   some ([], [], [], [], 0, 221)
  ) else (
   obind (F.ref31_kid a0 (wI (x_9 + 2))) fun x_46 =>
   if x_46.2.1 = true then
   (
    F.ref31_split_K6 a0 x_9 x_37 x_46 x_26 x_27 x_28 x_33 x_36 1
   ) else (
    F.ref31_split_K6 a0 x_9 x_37 x_46 x_26 x_27 x_28 x_33 x_36 0
   )
  )
noncomputable def F.ref31_split_K4 (x_33 : List (Int × UInt64 × (List UInt8) × Int) × Int × Int) (x_36 : Int) (x_37 : List UInt8 × Bool × Bool) (a0 : List (Int × UInt64 × (List UInt8) × Int)) (x_9 : Int) (x_26 : (Int × UInt64 × (List UInt8) × Int)) (x_27 : (Int × UInt64 × (List UInt8) × Int)) (x_28 : (Int × UInt64 × (List UInt8) × Int)) : Int → Option (List UInt8 × List UInt8 × List UInt8 × List UInt8 × Int × Int)
 | x_39 =>
  if (decide (x_36 < 0)) = true then
  (
   F.ref31_split_K5 a0 x_9 x_37 x_26 x_27 x_28 x_33 x_36 true
  ) else (
   if (!x_37.2.2) = true then
   (
    F.ref31_split_K5 a0 x_9 x_37 x_26 x_27 x_28 x_33 x_36 true
   ) else (
    obind (getO x_33.1 (0 : Int)) fun x_43 =>
    F.ref31_split_K5 a0 x_9 x_37 x_26 x_27 x_28 x_33 x_36 (x_43.2.2.2 != (wI (2 * x_39)))
   )
  )
noncomputable def F.ref31_split_K3 (a0 : List (Int × UInt64 × (List UInt8) × Int)) (x_9 : Int) (x_20 : Int) : Bool → Option (List UInt8 × List UInt8 × List UInt8 × List UInt8 × Int × Int)
 | x_24 =>
  if x_24 = true then
  (
   some ([], [], [], [], 0, 221)
  ) else (
   obind (getO a0 (wI (x_9 + 1) : Int)) fun x_26 =>
   obind (getO a0 (x_20 : Int)) fun x_27 =>
   obind (getO a0 (wI (x_20 + 1) : Int)) fun x_28 =>
   obind (F.ref30_Parse x_26.2.2.1) fun x_33 =>
   if (x_33.2.1 != 0) = true then
   (
    some ([], [], [], [], 0, x_33.2.1)
   ) else (
    obind (F.ref31_value x_33.1 0 1) fun x_36 =>
    obind (F.ref31_kid x_33.1 0) fun x_37 =>
    if x_37.2.1 = true then
    (
     F.ref31_split_K4 x_33 x_36 x_37 a0 x_9 x_26 x_27 x_28 2
    ) else (
     F.ref31_split_K4 x_33 x_36 x_37 a0 x_9 x_26 x_27 x_28 1
    )
   )
  )
noncomputable def F.ref31_split_K2 (a0 : List (Int × UInt64 × (List UInt8) × Int)) (x_9 : Int) : Bool → Option (List UInt8 × List UInt8 × List UInt8 × List UInt8 × Int × Int)
 | x_18 =>
  if x_18 = true then
  (
   some ([], [], [], [], 0, 221)
  ) else (
   obind (F.ref30_Behind a0 (wI (x_9 + 2))) fun x_20 =>
   obind (getO a0 (x_20 : Int)) fun x_21 =>
   if (x_21.1 != 2) = true then
   (
    F.ref31_split_K3 a0 x_9 x_20 true
   ) else (
    obind (getO a0 (wI (x_20 + 1) : Int)) fun x_23 =>
    F.ref31_split_K3 a0 x_9 x_20 (x_23.1 != 2)
   )
  )
noncomputable def F.ref31_split_K1 (a0 : List (Int × UInt64 × (List UInt8) × Int)) : Int → Option (List UInt8 × List UInt8 × List UInt8 × List UInt8 × Int × Int)
 | x_9 =>
  obind (getO a0 (x_9 : Int)) fun x_11 =>
  if (x_11.1 != 4) = true then
  (
   F.ref31_split_K2 a0 x_9 true
  ) else (
   obind (getO a0 (x_9 : Int)) fun x_13 =>
   if (x_13.2.2.2 != 4) = true then
   (
    F.ref31_split_K2 a0 x_9 true
   ) else (
    obind (getO a0 (wI (x_9 + 1) : Int)) fun x_15 =>
    if (x_15.1 != 2) = true then
    (
     F.ref31_split_K2 a0 x_9 true
    ) else (
     obind (getO a0 (wI (x_9 + 2) : Int)) fun x_17 =>
     F.ref31_split_K2 a0 x_9 (x_17.1 != 5)
    )
   )
  )
noncomputable def F.ref31_split_K8 (a0 : List (Int × UInt64 × (List UInt8) × Int)) : Bool → Option (List UInt8 × List UInt8 × List UInt8 × List UInt8 × Int × Int)
 | x_6 =>
  if x_6 = true then
  (
   F.ref31_split_K1 a0 1
  ) else (
   F.ref31_split_K1 a0 0
  )
noncomputable def F.ref31_split (a0 : List (Int × UInt64 × (List UInt8) × Int)) : Option (List UInt8 × List UInt8 × List UInt8 × List UInt8 × Int × Int) :=
 obind (getO a0 (0 : Int)) fun x_3 =>
 if (x_3.1 == 6) = true then
 (
  obind (getO a0 (0 : Int)) fun x_5 =>
  F.ref31_split_K8 a0 (x_5.2.1 == 18)
 ) else (
  F.ref31_split_K8 a0 false
 )
noncomputable def F.ref31_Parse_K1 (a0 : List UInt8) (a1 : List UInt8) : Bool → Option (Int × List UInt8 × List UInt8 × List UInt8 × List UInt8 × Int)
 | x_2 =>
  if x_2 = true then
  (
   some (0, [], [], [], [], 10)
  ) else (
   obind (F.ref30_Parse a0) fun x_4 =>
   if (x_4.2.1 != 0) = true then
   (
    some (0, [], [], [], [], x_4.2.1)
   ) else (
    obind (F.ref31_split x_4.1) fun x_7 =>
    if (x_7.2.2.2.2.2 != 0) = true then
    (
     some (0, [], [], [], [], x_7.2.2.2.2.2)
    ) else (
     obind (F.ref30_Head 4 4) fun x_10 =>
     obind (F.ref31_said 3 [83, 105, 103, 110, 97, 116, 117, 114, 101, 49]) fun x_11 =>
     obind (sadO x_10 x_11) fun x_12 =>
     obind (F.ref31_said 2 x_7.1) fun x_13 =>
     obind (sadO x_12 x_13) fun x_14 =>
     obind (F.ref31_said 2 a1) fun x_15 =>
     obind (sadO x_14 x_15) fun x_16 =>
     obind (F.ref31_said 2 x_7.2.2.1) fun x_17 =>
     obind (sadO x_16 x_17) fun x_18 =>
     some (x_7.2.2.2.2.1, x_7.2.1, x_7.2.2.1, x_7.2.2.2.1, x_18, 0)
    )
   )
  )
noncomputable def F.ref31_Parse (a0 : List UInt8) (a1 : List UInt8) : Option (Int × List UInt8 × List UInt8 × List UInt8 × List UInt8 × Int) :=
 if (decide ((65536 : Int) < (a0.length : Int))) = true then
 (
  F.ref31_Parse_K1 a0 a1 true
 ) else (
  F.ref31_Parse_K1 a0 a1 (decide ((65536 : Int) < (a1.length : Int)))
 )
end Go.Gk
