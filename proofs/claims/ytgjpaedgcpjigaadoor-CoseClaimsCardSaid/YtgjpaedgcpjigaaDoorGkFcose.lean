import Derived.Test.YtgjpaedgcpjigaaDoorGkS
import Derived.Test.YtgjpaedgcpjigaaDoorGkFman2
import Derived.Test.YtgjpaedgcpjigaaDoorGkFcbor
import Derived.Test.YtgjpaedgcpjigaaDoorGkFlib
set_option linter.unusedVariables false
set_option linter.unusedSimpArgs false
set_option linter.unusedVariables false
namespace Go.Gk
noncomputable def F.signet_cose_Claims_1_K1 (x_5 : Int) : Bool → Option (Int × Bool)
 | x_10 =>
  some (x_5, x_10)
noncomputable def F.signet_cose_Claims_1 (a0 : UInt64) (a1 : List Int) (c0_0 : List (Int × UInt64 × (List UInt8) × Int)) (c1_0 : Bool) : Option (Int × Bool) :=
 obind (F.cbor_Member c0_0 0 ([(0, a0, [], 0)] : List (Int × UInt64 × (List UInt8) × Int))) fun x_5 =>
 if c1_0 = true then
 (
  F.signet_cose_Claims_1_K1 x_5 true
 ) else (
  if (decide ((0 : Int) ≤ x_5)) = true then
  (
   obind (getO c0_0 (x_5 : Int)) fun x_8 =>
   obind (F.slices_Contains_int_int a1 x_8.1) fun x_9 =>
   F.signet_cose_Claims_1_K1 x_5 (!x_9)
  ) else (
   F.signet_cose_Claims_1_K1 x_5 false
  )
 )
noncomputable def F.signet_cose_Claims_2 (a0 : UInt64) (a1 : Int) (c1_0 : List (Int × UInt64 × (List UInt8) × Int)) (c2_0 : Bool) : Option (List UInt8 × Bool × Bool) :=
 obind (F.signet_cose_Claims_1 a0 ([a1] : List Int) c1_0 c2_0) fun x_6 =>
 if (decide (x_6.1 < 0)) = true then
 (
  some ([], false, x_6.2)
 ) else (
  obind (getO c1_0 (x_6.1 : Int)) fun x_7 =>
  some (x_7.2.2.1, true, x_6.2)
 )
noncomputable def F.signet_cose_Claims_3_K2 (x_11 : Bool) : Int → Option (Bool × Int × Bool)
 | x_17 =>
  some (true, x_17, x_11)
noncomputable def F.signet_cose_Claims_3_K1 (c2_0 : List (Int × UInt64 × (List UInt8) × Int)) (x_8 : Int × Bool) : Bool → Option (Bool × Int × Bool)
 | x_11 =>
  obind (getO c2_0 (x_8.1 : Int)) fun x_13 =>
  olet (wI (x_13.2.1.toNat : Int)) fun x_14 =>
  obind (getO c2_0 (x_8.1 : Int)) fun x_15 =>
  if (x_15.1 == 1) = true then
  (
   F.signet_cose_Claims_3_K2 x_11 (wI ((-1) - x_14))
  ) else (
   F.signet_cose_Claims_3_K2 x_11 x_14
  )
noncomputable def F.signet_cose_Claims_3 (a0 : UInt64) (c1_0 : Bool) (c2_0 : List (Int × UInt64 × (List UInt8) × Int)) : Option (Bool × Int × Bool) :=
 obind (F.signet_cose_Claims_1 a0 ([0, 1] : List Int) c2_0 c1_0) fun x_8 =>
 if (decide (x_8.1 < 0)) = true then
 (
  some (false, 0, x_8.2)
 ) else (
  if x_8.2 = true then
  (
   F.signet_cose_Claims_3_K1 c2_0 x_8 true
  ) else (
   obind (getO c2_0 (x_8.1 : Int)) fun x_10 =>
   F.signet_cose_Claims_3_K1 c2_0 x_8 (decide ((9223372036854775807 : UInt64) < x_10.2.1))
  )
 )
noncomputable def F.cose_Claims_K1 (x_15 : List UInt8 × Bool × Bool) (x_16 : List UInt8 × Bool × Bool) (x_17 : Bool × Int × Bool) (x_18 : Bool × Int × Bool) (x_19 : Bool × Int × Bool) (x_20 : List UInt8 × Bool × Bool) : Bool × List (List UInt8) × Bool → Option (List (Int × (List UInt8) × (List UInt8) × Bool × Int × Int) × List UInt8 × Bool × List UInt8 × Bool × List (List UInt8) × Bool × List UInt8 × Bool × Bool × Int × Bool × Int × Bool × Int × Int)
 | (x_56, x_57, x_60) =>
  if x_56 = true then
  (
   some ([], [], false, [], false, [], false, [], false, false, 0, false, 0, false, 0, 131)
  ) else (
   some ([], x_15.1, x_15.2.1, x_16.1, x_16.2.1, x_57, x_60, x_20.1, x_20.2.1, x_17.1, x_17.2.1, x_18.1, x_18.2.1, x_19.1, x_19.2.1, 0)
  )
noncomputable def F.cose_Claims_K3 (x_3 : List (Int × UInt64 × (List UInt8) × Int) × Int × Int) (x_23 : Int × Bool) (x_34 : Int) (x_36 : List (List UInt8)) (x_15 : List UInt8 × Bool × Bool) (x_16 : List UInt8 × Bool × Bool) (x_17 : Bool × Int × Bool) (x_18 : Bool × Int × Bool) (x_19 : Bool × Int × Bool) (x_20 : List UInt8 × Bool × Bool) : Bool → Option ((Int × Bool × List (List UInt8)) ⊕ (List (Int × (List UInt8) × (List UInt8) × Bool × Int × Int) × List UInt8 × Bool × List UInt8 × Bool × List (List UInt8) × Bool × List UInt8 × Bool × Bool × Int × Bool × Int × Bool × Int × Int))
 | x_44 =>
  if x_44 = true then
  (
   oinr (
    F.cose_Claims_K1 x_15 x_16 x_17 x_18 x_19 x_20 (x_44, x_36, true)
   )
  ) else (
   obind (getO x_3.1 (wI ((wI (x_23.1 + 1)) + x_34) : Int)) fun x_46 =>
   obind (apO 16 x_36 ([x_46.2.2.1] : List (List UInt8))) fun x_49 =>
   oinl (wI (x_34 + 1), x_44, x_49)
  )
noncomputable def F.cose_Claims_L1 (x_3 : List (Int × UInt64 × (List UInt8) × Int) × Int × Int) (x_23 : Int × Bool) (x_33 : (Int × UInt64 × (List UInt8) × Int)) (x_15 : List UInt8 × Bool × Bool) (x_16 : List UInt8 × Bool × Bool) (x_17 : Bool × Int × Bool) (x_18 : Bool × Int × Bool) (x_19 : Bool × Int × Bool) (x_20 : List UInt8 × Bool × Bool) : Int × Bool × List (List UInt8) → Option ((Int × Bool × List (List UInt8)) ⊕ (List (Int × (List UInt8) × (List UInt8) × Bool × Int × Int) × List UInt8 × Bool × List UInt8 × Bool × List (List UInt8) × Bool × List UInt8 × Bool × Bool × Int × Bool × Int × Bool × Int × Int))
 | (x_34, x_35, x_36) =>
  if (decide (x_34 < x_33.2.2.2)) = true then
  (
   if x_35 = true then
   (
    F.cose_Claims_K3 x_3 x_23 x_34 x_36 x_15 x_16 x_17 x_18 x_19 x_20 true
   ) else (
    obind (getO x_3.1 (wI ((wI (x_23.1 + 1)) + x_34) : Int)) fun x_43 =>
    F.cose_Claims_K3 x_3 x_23 x_34 x_36 x_15 x_16 x_17 x_18 x_19 x_20 (x_43.1 != 3)
   )
  ) else (
   oinr (
    F.cose_Claims_K1 x_15 x_16 x_17 x_18 x_19 x_20 (x_35, x_36, true)
   )
  )
noncomputable def F.cose_Claims_K2 (x_3 : List (Int × UInt64 × (List UInt8) × Int) × Int × Int) (x_23 : Int × Bool) (x_15 : List UInt8 × Bool × Bool) (x_16 : List UInt8 × Bool × Bool) (x_17 : Bool × Int × Bool) (x_18 : Bool × Int × Bool) (x_19 : Bool × Int × Bool) (x_20 : List UInt8 × Bool × Bool) : List (List UInt8) → Option (List (Int × (List UInt8) × (List UInt8) × Bool × Int × Int) × List UInt8 × Bool × List UInt8 × Bool × List (List UInt8) × Bool × List UInt8 × Bool × Bool × Int × Bool × Int × Bool × Int × Int)
 | x_29 =>
  obind (getO x_3.1 (x_23.1 : Int)) fun x_33 =>
  loop (F.cose_Claims_L1 x_3 x_23 x_33 x_15 x_16 x_17 x_18 x_19 x_20) (0, x_23.2, x_29)
noncomputable def F.cose_Claims (a0 : List UInt8) : Option (List (Int × (List UInt8) × (List UInt8) × Bool × Int × Int) × List UInt8 × Bool × List UInt8 × Bool × List (List UInt8) × Bool × List UInt8 × Bool × Bool × Int × Bool × Int × Bool × Int × Int) :=
 obind (F.cbor_Parse a0) fun x_3 =>
 if (x_3.2.1 != 0) = true then
 (
  some ([], [], false, [], false, [], false, [], false, false, 0, false, 0, false, 0, x_3.2.1)
 ) else (
  obind (getO x_3.1 (0 : Int)) fun x_8 =>
  if (x_8.1 != 5) = true then
  (
   some ([], [], false, [], false, [], false, [], false, false, 0, false, 0, false, 0, 130)
  ) else (
   obind (F.signet_cose_Claims_2 1 3 x_3.1 false) fun x_15 =>
   obind (F.signet_cose_Claims_2 2 3 x_3.1 x_15.2.2) fun x_16 =>
   obind (F.signet_cose_Claims_3 4 x_16.2.2 x_3.1) fun x_17 =>
   obind (F.signet_cose_Claims_3 5 x_17.2.2 x_3.1) fun x_18 =>
   obind (F.signet_cose_Claims_3 6 x_18.2.2 x_3.1) fun x_19 =>
   obind (F.signet_cose_Claims_2 7 2 x_3.1 x_19.2.2) fun x_20 =>
   obind (F.signet_cose_Claims_1 3 ([3, 4] : List Int) x_3.1 x_20.2.2) fun x_23 =>
   if (decide ((0 : Int) ≤ x_23.1)) = true then
   (
    obind (getO x_3.1 (x_23.1 : Int)) fun x_24 =>
    if (x_24.1 == 3) = true then
    (
     obind (getO x_3.1 (x_23.1 : Int)) fun x_25 =>
     F.cose_Claims_K2 x_3 x_23 x_15 x_16 x_17 x_18 x_19 x_20 ([x_25.2.2.1] : List (List UInt8))
    ) else (
     F.cose_Claims_K2 x_3 x_23 x_15 x_16 x_17 x_18 x_19 x_20 []
    )
   ) else (
    F.cose_Claims_K1 x_15 x_16 x_17 x_18 x_19 x_20 (x_23.2, [], false)
   )
  )
 )
end Go.Gk
