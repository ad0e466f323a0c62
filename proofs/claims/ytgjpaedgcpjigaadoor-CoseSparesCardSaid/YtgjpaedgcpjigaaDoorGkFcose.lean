import Derived.Test.YtgjpaedgcpjigaaDoorGkS
import Derived.Test.YtgjpaedgcpjigaaDoorGkFman2
import Derived.Test.YtgjpaedgcpjigaaDoorGkFcbor
import Derived.Test.YtgjpaedgcpjigaaDoorGkFlib
set_option linter.unusedVariables false
set_option linter.unusedSimpArgs false
set_option linter.unusedVariables false
namespace Go.Gk
noncomputable def F.signet_cose_Parse_1 (a0 : Int) : Option (Int × List UInt8 × List UInt8 × List UInt8 × List UInt8 × Int) :=
 some (0, [], [], [], [], a0)
noncomputable def F.signet_cose_Claims_1_K1 (x_5 : Int) : Bool → Option (Int × Bool)
 | x_10 =>
  some (x_5, x_10)
noncomputable def F.signet_cose_Claims_1 (a0 : UInt64) (a1 : List Int) (c0_0 : List (Int × UInt64 × (List UInt8) × Int)) (c1_0 : Bool) : Option (Int × Bool) :=
 obind (F.cbor_Member c0_0 0 ([(0, a0, [], 0)] : List (Int × UInt64 × (List UInt8) × Int))) fun x_5 =>
 if c1_0 = true then
 (
  F.signet_cose_Claims_1_K1 x_5 true
 ) else (
  if (decide ((0 : Int) ≤ x_5)) = true then
  (
   obind (getO c0_0 (x_5 : Int)) fun x_8 =>
   obind (F.slices_Contains_int_int a1 x_8.1) fun x_9 =>
   F.signet_cose_Claims_1_K1 x_5 (!x_9)
  ) else (
   F.signet_cose_Claims_1_K1 x_5 false
  )
 )
noncomputable def F.signet_cose_Claims_2 (a0 : UInt64) (a1 : Int) (c1_0 : List (Int × UInt64 × (List UInt8) × Int)) (c2_0 : Bool) : Option (List UInt8 × Bool × Bool) :=
 obind (F.signet_cose_Claims_1 a0 ([a1] : List Int) c1_0 c2_0) fun x_6 =>
 if (decide (x_6.1 < 0)) = true then
 (
  some ([], false, x_6.2)
 ) else (
  obind (getO c1_0 (x_6.1 : Int)) fun x_7 =>
  some (x_7.2.2.1, true, x_6.2)
 )
noncomputable def F.signet_cose_Claims_3_K2 (x_11 : Bool) : Int → Option (Bool × Int × Bool)
 | x_17 =>
  some (true, x_17, x_11)
noncomputable def F.signet_cose_Claims_3_K1 (c2_0 : List (Int × UInt64 × (List UInt8) × Int)) (x_8 : Int × Bool) : Bool → Option (Bool × Int × Bool)
 | x_11 =>
  obind (getO c2_0 (x_8.1 : Int)) fun x_13 =>
  olet (wI (x_13.2.1.toNat : Int)) fun x_14 =>
  obind (getO c2_0 (x_8.1 : Int)) fun x_15 =>
  if (x_15.1 == 1) = true then
  (
   F.signet_cose_Claims_3_K2 x_11 (wI ((-1) - x_14))
  ) else (
   F.signet_cose_Claims_3_K2 x_11 x_14
  )
noncomputable def F.signet_cose_Claims_3 (a0 : UInt64) (c1_0 : Bool) (c2_0 : List (Int × UInt64 × (List UInt8) × Int)) : Option (Bool × Int × Bool) :=
 obind (F.signet_cose_Claims_1 a0 ([0, 1] : List Int) c2_0 c1_0) fun x_8 =>
 if (decide (x_8.1 < 0)) = true then
 (
  some (false, 0, x_8.2)
 ) else (
  if x_8.2 = true then
  (
   F.signet_cose_Claims_3_K1 c2_0 x_8 true
  ) else (
   obind (getO c2_0 (x_8.1 : Int)) fun x_10 =>
   F.signet_cose_Claims_3_K1 c2_0 x_8 (decide ((9223372036854775807 : UInt64) < x_10.2.1))
  )
 )
noncomputable def F.cose_Claims_K1 (x_15 : List UInt8 × Bool × Bool) (x_16 : List UInt8 × Bool × Bool) (x_17 : Bool × Int × Bool) (x_18 : Bool × Int × Bool) (x_19 : Bool × Int × Bool) (x_20 : List UInt8 × Bool × Bool) : Bool × List (List UInt8) × Bool → Option (List (Int × (List UInt8) × (List UInt8) × Bool × Int × Int) × List UInt8 × Bool × List UInt8 × Bool × List (List UInt8) × Bool × List UInt8 × Bool × Bool × Int × Bool × Int × Bool × Int × Int)
 | (x_56, x_57, x_60) =>
  if x_56 = true then
  (
   some ([], [], false, [], false, [], false, [], false, false, 0, false, 0, false, 0, 131)
  ) else (
   some ([], x_15.1, x_15.2.1, x_16.1, x_16.2.1, x_57, x_60, x_20.1, x_20.2.1, x_17.1, x_17.2.1, x_18.1, x_18.2.1, x_19.1, x_19.2.1, 0)
  )
noncomputable def F.cose_Claims_K3 (x_3 : List (Int × UInt64 × (List UInt8) × Int) × Int × Int) (x_23 : Int × Bool) (x_34 : Int) (x_36 : List (List UInt8)) (x_15 : List UInt8 × Bool × Bool) (x_16 : List UInt8 × Bool × Bool) (x_17 : Bool × Int × Bool) (x_18 : Bool × Int × Bool) (x_19 : Bool × Int × Bool) (x_20 : List UInt8 × Bool × Bool) : Bool → Option ((Int × Bool × List (List UInt8)) ⊕ (List (Int × (List UInt8) × (List UInt8) × Bool × Int × Int) × List UInt8 × Bool × List UInt8 × Bool × List (List UInt8) × Bool × List UInt8 × Bool × Bool × Int × Bool × Int × Bool × Int × Int))
 | x_44 =>
  if x_44 = true then
  (
   oinr (
    F.cose_Claims_K1 x_15 x_16 x_17 x_18 x_19 x_20 (x_44, x_36, true)
   )
  ) else (
   obind (getO x_3.1 (wI ((wI (x_23.1 + 1)) + x_34) : Int)) fun x_46 =>
   obind (apO 16 x_36 ([x_46.2.2.1] : List (List UInt8))) fun x_49 =>
   oinl (wI (x_34 + 1), x_44, x_49)
  )
noncomputable def F.cose_Claims_L1 (x_3 : List (Int × UInt64 × (List UInt8) × Int) × Int × Int) (x_23 : Int × Bool) (x_33 : (Int × UInt64 × (List UInt8) × Int)) (x_15 : List UInt8 × Bool × Bool) (x_16 : List UInt8 × Bool × Bool) (x_17 : Bool × Int × Bool) (x_18 : Bool × Int × Bool) (x_19 : Bool × Int × Bool) (x_20 : List UInt8 × Bool × Bool) : Int × Bool × List (List UInt8) → Option ((Int × Bool × List (List UInt8)) ⊕ (List (Int × (List UInt8) × (List UInt8) × Bool × Int × Int) × List UInt8 × Bool × List UInt8 × Bool × List (List UInt8) × Bool × List UInt8 × Bool × Bool × Int × Bool × Int × Bool × Int × Int))
 | (x_34, x_35, x_36) =>
  if (decide (x_34 < x_33.2.2.2)) = true then
  (
   if x_35 = true then
   (
    F.cose_Claims_K3 x_3 x_23 x_34 x_36 x_15 x_16 x_17 x_18 x_19 x_20 true
   ) else (
    obind (getO x_3.1 (wI ((wI (x_23.1 + 1)) + x_34) : Int)) fun x_43 =>
    F.cose_Claims_K3 x_3 x_23 x_34 x_36 x_15 x_16 x_17 x_18 x_19 x_20 (x_43.1 != 3)
   )
  ) else (
   oinr (
    F.cose_Claims_K1 x_15 x_16 x_17 x_18 x_19 x_20 (x_35, x_36, true)
   )
  )
noncomputable def F.cose_Claims_K2 (x_3 : List (Int × UInt64 × (List UInt8) × Int) × Int × Int) (x_23 : Int × Bool) (x_15 : List UInt8 × Bool × Bool) (x_16 : List UInt8 × Bool × Bool) (x_17 : Bool × Int × Bool) (x_18 : Bool × Int × Bool) (x_19 : Bool × Int × Bool) (x_20 : List UInt8 × Bool × Bool) : List (List UInt8) → Option (List (Int × (List UInt8) × (List UInt8) × Bool × Int × Int) × List UInt8 × Bool × List UInt8 × Bool × List (List UInt8) × Bool × List UInt8 × Bool × Bool × Int × Bool × Int × Bool × Int × Int)
 | x_29 =>
  obind (getO x_3.1 (x_23.1 : Int)) fun x_33 =>
  loop (F.cose_Claims_L1 x_3 x_23 x_33 x_15 x_16 x_17 x_18 x_19 x_20) (0, x_23.2, x_29)
noncomputable def F.cose_Claims (a0 : List UInt8) : Option (List (Int × (List UInt8) × (List UInt8) × Bool × Int × Int) × List UInt8 × Bool × List UInt8 × Bool × List (List UInt8) × Bool × List UInt8 × Bool × Bool × Int × Bool × Int × Bool × Int × Int) :=
 obind (F.cbor_Parse a0) fun x_3 =>
 if (x_3.2.1 != 0) = true then
 (
  some ([], [], false, [], false, [], false, [], false, false, 0, false, 0, false, 0, x_3.2.1)
 ) else (
  obind (getO x_3.1 (0 : Int)) fun x_8 =>
  if (x_8.1 != 5) = true then
  (
   some ([], [], false, [], false, [], false, [], false, false, 0, false, 0, false, 0, 130)
  ) else (
   obind (F.signet_cose_Claims_2 1 3 x_3.1 false) fun x_15 =>
   obind (F.signet_cose_Claims_2 2 3 x_3.1 x_15.2.2) fun x_16 =>
   obind (F.signet_cose_Claims_3 4 x_16.2.2 x_3.1) fun x_17 =>
   obind (F.signet_cose_Claims_3 5 x_17.2.2 x_3.1) fun x_18 =>
   obind (F.signet_cose_Claims_3 6 x_18.2.2 x_3.1) fun x_19 =>
   obind (F.signet_cose_Claims_2 7 2 x_3.1 x_19.2.2) fun x_20 =>
   obind (F.signet_cose_Claims_1 3 ([3, 4] : List Int) x_3.1 x_20.2.2) fun x_23 =>
   if (decide ((0 : Int) ≤ x_23.1)) = true then
   (
    obind (getO x_3.1 (x_23.1 : Int)) fun x_24 =>
    if (x_24.1 == 3) = true then
    (
     obind (getO x_3.1 (x_23.1 : Int)) fun x_25 =>
     F.cose_Claims_K2 x_3 x_23 x_15 x_16 x_17 x_18 x_19 x_20 ([x_25.2.2.1] : List (List UInt8))
    ) else (
     F.cose_Claims_K2 x_3 x_23 x_15 x_16 x_17 x_18 x_19 x_20 []
    )
   ) else (
    F.cose_Claims_K1 x_15 x_16 x_17 x_18 x_19 x_20 (x_23.2, [], false)
   )
  )
 )
noncomputable def F.signet_cose_header_1_K1 (c1_0 : Int) (x_6 : Int) : Int → Option (Int × Int × Int)
 | x_8 =>
  some (x_6, c1_0, x_8)
noncomputable def F.signet_cose_header_1 (a0 : UInt64) (c0_0 : List (Int × UInt64 × (List UInt8) × Int)) (c1_0 : Int) (c2_0 : Int) : Option (Int × Int × Int) :=
 obind (F.cbor_Member c0_0 c1_0 ([(0, a0, [], 0)] : List (Int × UInt64 × (List UInt8) × Int))) fun x_6 =>
 if (decide ((0 : Int) ≤ x_6)) = true then
 (
  F.signet_cose_header_1_K1 c1_0 x_6 (wI (c2_0 + 1))
 ) else (
  F.signet_cose_header_1_K1 c1_0 x_6 c2_0
 )
noncomputable def F.cose_header (a0 : List (Int × UInt64 × (List UInt8) × Int)) (a1 : Int) : Option (Int × Int × Bool) :=
 obind (F.signet_cose_header_1 1 a0 a1 0) fun x_7 =>
 obind (F.signet_cose_header_1 4 a0 x_7.2.1 x_7.2.2) fun x_8 =>
 obind (getO a0 (x_8.2.1 : Int)) fun x_9 =>
 if (x_9.2.2.2 == (wI (2 * x_8.2.2))) = true then
 (
  if (decide (x_8.1 < 0)) = true then
  (
   some (x_7.1, x_8.1, true)
  ) else (
   obind (getO a0 (x_8.1 : Int)) fun x_12 =>
   some (x_7.1, x_8.1, x_12.1 == 2)
  )
 ) else (
  some (x_7.1, x_8.1, false)
 )
noncomputable def F.cose_read_K6 (x_26 : (Int × UInt64 × (List UInt8) × Int)) (x_27 : (Int × UInt64 × (List UInt8) × Int)) (x_28 : (Int × UInt64 × (List UInt8) × Int)) (x_50 : List UInt8) : Int → Option (Int × List UInt8 × List UInt8 × List UInt8 × List UInt8 × Int)
 | x_56 =>
  if (x_56 == 0) = true then
  (
   some (0, [], [], [], [], 111)
  ) else (
   some (x_56, x_26.2.2.1, x_50, x_27.2.2.1, x_28.2.2.1, 0)
  )
noncomputable def F.cose_read_K5 (x_33 : List (Int × UInt64 × (List UInt8) × Int) × Int × Int) (x_37 : Int × Int × Bool) (x_26 : (Int × UInt64 × (List UInt8) × Int)) (x_27 : (Int × UInt64 × (List UInt8) × Int)) (x_28 : (Int × UInt64 × (List UInt8) × Int)) : List UInt8 → Option (Int × List UInt8 × List UInt8 × List UInt8 × List UInt8 × Int)
 | x_50 =>
  obind (getO x_33.1 (x_37.1 : Int)) fun x_52 =>
  if (x_52.1 == 1) = true then
  (
   obind (getO x_33.1 (x_37.1 : Int)) fun x_53 =>
   obind (F.cose_algorithm x_53.2.1) fun x_54 =>
   F.cose_read_K6 x_26 x_27 x_28 x_50 x_54
  ) else (
   F.cose_read_K6 x_26 x_27 x_28 x_50 0
  )
noncomputable def F.cose_read_K4 (a0 : List (Int × UInt64 × (List UInt8) × Int)) (x_33 : List (Int × UInt64 × (List UInt8) × Int) × Int × Int) (x_37 : Int × Int × Bool) (x_38 : Int × Int × Bool) (x_26 : (Int × UInt64 × (List UInt8) × Int)) (x_27 : (Int × UInt64 × (List UInt8) × Int)) (x_28 : (Int × UInt64 × (List UInt8) × Int)) : Bool → Option (Int × List UInt8 × List UInt8 × List UInt8 × List UInt8 × Int)
 | x_44 =>
  if x_44 = true then
  (
   some (0, [], [], [], [], 221)
  ) else (
   if (decide ((0 : Int) ≤ x_37.2.1)) = true then
   (
    obind (getO x_33.1 (x_37.2.1 : Int)) fun x_46 =>
    F.cose_read_K5 x_33 x_37 x_26 x_27 x_28 x_46.2.2.1
   ) else (
    if (decide ((0 : Int) ≤ x_38.2.1)) = true then
    (
     obind (getO a0 (x_38.2.1 : Int)) fun x_47 =>
     F.cose_read_K5 x_33 x_37 x_26 x_27 x_28 x_47.2.2.1
    ) else (
     F.cose_read_K5 x_33 x_37 x_26 x_27 x_28 []
    )
   )
  )
noncomputable def F.cose_read_K3 (a0 : List (Int × UInt64 × (List UInt8) × Int)) (x_9 : Int) (x_20 : Int) : Bool → Option (Int × List UInt8 × List UInt8 × List UInt8 × List UInt8 × Int)
 | x_24 =>
  if x_24 = true then
  (
   some (0, [], [], [], [], 221)
  ) else (
   obind (getO a0 (wI (x_9 + 1) : Int)) fun x_26 =>
   obind (getO a0 (x_20 : Int)) fun x_27 =>
   obind (getO a0 (wI (x_20 + 1) : Int)) fun x_28 =>
   obind (F.cbor_Parse x_26.2.2.1) fun x_33 =>
   if (x_33.2.1 != 0) = true then
   (
    some (0, [], [], [], [], x_33.2.1)
   ) else (
    obind (getO x_33.1 (0 : Int)) fun x_36 =>
    if (x_36.1 != 5) = true then
    (
     some (0, [], [], [], [], 221)
    ) else (
     obind (F.cose_header x_33.1 0) fun x_37 =>
     obind (F.cose_header a0 (wI (x_9 + 2))) fun x_38 =>
     if (!x_37.2.2) = true then
     (
      F.cose_read_K4 a0 x_33 x_37 x_38 x_26 x_27 x_28 true
     ) else (
      if (!x_38.2.2) = true then
      (
       F.cose_read_K4 a0 x_33 x_37 x_38 x_26 x_27 x_28 true
      ) else (
       if (decide (x_37.1 < 0)) = true then
       (
        F.cose_read_K4 a0 x_33 x_37 x_38 x_26 x_27 x_28 true
       ) else (
        if (decide ((0 : Int) ≤ x_38.1)) = true then
        (
         F.cose_read_K4 a0 x_33 x_37 x_38 x_26 x_27 x_28 true
        ) else (
         if (decide ((0 : Int) ≤ x_37.2.1)) = true then
         (
          F.cose_read_K4 a0 x_33 x_37 x_38 x_26 x_27 x_28 (decide ((0 : Int) ≤ x_38.2.1))
         ) else (
          F.cose_read_K4 a0 x_33 x_37 x_38 x_26 x_27 x_28 false
         )
        )
       )
      )
     )
    )
   )
  )
noncomputable def F.cose_read_K2 (a0 : List (Int × UInt64 × (List UInt8) × Int)) (x_9 : Int) : Bool → Option (Int × List UInt8 × List UInt8 × List UInt8 × List UInt8 × Int)
 | x_18 =>
  if x_18 = true then
  (
   some (0, [], [], [], [], 221)
  ) else (
   obind (F.cbor_Behind a0 (wI (x_9 + 2))) fun x_20 =>
   obind (getO a0 (x_20 : Int)) fun x_21 =>
   if (x_21.1 != 2) = true then
   (
    F.cose_read_K3 a0 x_9 x_20 true
   ) else (
    obind (getO a0 (wI (x_20 + 1) : Int)) fun x_23 =>
    F.cose_read_K3 a0 x_9 x_20 (x_23.1 != 2)
   )
  )
noncomputable def F.cose_read_K1 (a0 : List (Int × UInt64 × (List UInt8) × Int)) : Int → Option (Int × List UInt8 × List UInt8 × List UInt8 × List UInt8 × Int)
 | x_9 =>
  obind (getO a0 (x_9 : Int)) fun x_11 =>
  if (x_11.1 != 4) = true then
  (
   F.cose_read_K2 a0 x_9 true
  ) else (
   obind (getO a0 (x_9 : Int)) fun x_13 =>
   if (x_13.2.2.2 != 4) = true then
   (
    F.cose_read_K2 a0 x_9 true
   ) else (
    obind (getO a0 (wI (x_9 + 1) : Int)) fun x_15 =>
    if (x_15.1 != 2) = true then
    (
     F.cose_read_K2 a0 x_9 true
    ) else (
     obind (getO a0 (wI (x_9 + 2) : Int)) fun x_17 =>
     F.cose_read_K2 a0 x_9 (x_17.1 != 5)
    )
   )
  )
noncomputable def F.cose_read_K7 (a0 : List (Int × UInt64 × (List UInt8) × Int)) : Bool → Option (Int × List UInt8 × List UInt8 × List UInt8 × List UInt8 × Int)
 | x_6 =>
  if x_6 = true then
  (
   F.cose_read_K1 a0 1
  ) else (
   F.cose_read_K1 a0 0
  )
noncomputable def F.cose_read (a0 : List (Int × UInt64 × (List UInt8) × Int)) : Option (Int × List UInt8 × List UInt8 × List UInt8 × List UInt8 × Int) :=
 obind (getO a0 (0 : Int)) fun x_3 =>
 if (x_3.1 == 6) = true then
 (
  obind (getO a0 (0 : Int)) fun x_5 =>
  F.cose_read_K7 a0 (x_5.2.1 == 18)
 ) else (
  F.cose_read_K7 a0 false
 )
noncomputable def F.cose_laid_K1 (a2 : List UInt8) : List UInt8 → Option (List UInt8)
 | x_25 =>
  obind (apO 1 x_25 a2) fun x_29 =>
  some x_29
noncomputable def F.cose_laid (a0 : List UInt8) (a1 : UInt8) (a2 : List UInt8) : Option (List UInt8) :=
 if (decide ((a2.length : Int) < 24)) = true then
 (
  obind (apO 1 a0 [(shl8 a1 5) ||| (UInt8.ofInt (a2.length : Int))]) fun x_4 =>
  F.cose_laid_K1 a2 x_4
 ) else (
  if (decide ((a2.length : Int) < 256)) = true then
  (
   obind (apO 1 a0 [(shl8 a1 5) ||| 24, UInt8.ofInt (a2.length : Int)]) fun x_9 =>
   F.cose_laid_K1 a2 x_9
  ) else (
   if (decide ((a2.length : Int) < 65536)) = true then
   (
    obind (apO 1 a0 [(shl8 a1 5) ||| 25, UInt8.ofInt (iShr (a2.length : Int) 8), UInt8.ofInt (a2.length : Int)]) fun x_14 =>
    F.cose_laid_K1 a2 x_14
   ) else (
    obind (apO 1 a0 [(shl8 a1 5) ||| 26, UInt8.ofInt (iShr (a2.length : Int) 24), UInt8.ofInt (iShr (a2.length : Int) 16), UInt8.ofInt (iShr (a2.length : Int) 8), UInt8.ofInt (a2.length : Int)]) fun x_19 =>
    F.cose_laid_K1 a2 x_19
   )
  )
 )
noncomputable def F.cose_Parse_K1 (a0 : List UInt8) (a1 : List UInt8) : Bool → Option (Int × List UInt8 × List UInt8 × List UInt8 × List UInt8 × Int)
 | x_2 =>
  if x_2 = true then
  (
   obind (F.signet_cose_Parse_1 10) fun x_4 =>
   some (x_4.1, x_4.2.1, x_4.2.2.1, x_4.2.2.2.1, x_4.2.2.2.2.1, x_4.2.2.2.2.2)
  ) else (
   obind (F.cbor_Parse a0) fun x_13 =>
   if (x_13.2.1 != 0) = true then
   (
    obind (F.signet_cose_Parse_1 x_13.2.1) fun x_16 =>
    some (x_16.1, x_16.2.1, x_16.2.2.1, x_16.2.2.2.1, x_16.2.2.2.2.1, x_16.2.2.2.2.2)
   ) else (
    obind (F.cose_read x_13.1) fun x_25 =>
    if (x_25.2.2.2.2.2 != 0) = true then
    (
     obind (F.signet_cose_Parse_1 x_25.2.2.2.2.2) fun x_28 =>
     some (x_28.1, x_28.2.1, x_28.2.2.1, x_28.2.2.2.1, x_28.2.2.2.2.1, x_28.2.2.2.2.2)
    ) else (
     obind (F.cose_laid [132] 3 [83, 105, 103, 110, 97, 116, 117, 114, 101, 49]) fun x_39 =>
     obind (F.cose_laid x_39 2 x_25.2.1) fun x_42 =>
     obind (F.cose_laid x_42 2 a1) fun x_45 =>
     obind (F.cose_laid x_45 2 x_25.2.2.2.1) fun x_48 =>
     grd (x_25.2.2.1.length ≤ 225000000000000) <|
     grd (x_25.2.2.2.1.length ≤ 225000000000000) <|
     grd (x_25.2.2.2.2.1.length ≤ 225000000000000) <|
     some (x_25.1, x_25.2.2.1, x_25.2.2.2.1, x_25.2.2.2.2.1, x_48, 0)
    )
   )
  )
noncomputable def F.cose_Parse (a0 : List UInt8) (a1 : List UInt8) : Option (Int × List UInt8 × List UInt8 × List UInt8 × List UInt8 × Int) :=
 if (decide ((65536 : Int) < (a0.length : Int))) = true then
 (
  F.cose_Parse_K1 a0 a1 true
 ) else (
  F.cose_Parse_K1 a0 a1 (decide ((65536 : Int) < (a1.length : Int)))
 )
end Go.Gk
