import Derived.Test.YtgjpaedgcpjigaaDoorGkS
import Derived.Test.YtgjpaedgcpjigaaDoorGkFcbor
import Derived.Test.YtgjpaedgcpjigaaDoorGkFref30
set_option linter.unusedVariables false
set_option linter.unusedSimpArgs false
set_option linter.unusedVariables false
namespace Go.Gk
noncomputable def F.law30_sameBytes_L1 (a0 : List UInt8) (a1 : List UInt8) : Int → Option ((Int) ⊕ (Bool))
 | x_1 =>
  if (decide (x_1 < (a0.length : Int))) = true then
  (
   obind (getO a0 (x_1 : Int)) fun x_5 =>
   obind (getO a1 (x_1 : Int)) fun x_6 =>
   if (x_5 != x_6) = true then
   (
    oinr (
     some false
    )
   ) else (
    oinl (wI (x_1 + 1))
   )
  ) else (
   oinr (
    some true
   )
  )
noncomputable def F.law30_sameBytes (a0 : List UInt8) (a1 : List UInt8) : Option (Bool) :=
 if ((a0.length : Int) != (a1.length : Int)) = true then
 (
  some false
 ) else (
  loop (F.law30_sameBytes_L1 a0 a1) 0
 )
noncomputable def F.law30_spared_L1 (a0 : List UInt8) (k0 : Nat) (a1 : List UInt8) : Int → Option ((Int) ⊕ (Bool))
 | x_2 =>
  if (decide (x_2 < ((a0.take ((wI ((a1.length : Int) + 9) : Int).toNat)).length : Int))) = true then
  (
   obind (getO (a0.take ((wI ((a1.length : Int) + 9) : Int).toNat)) (x_2 : Int)) fun x_6 =>
   if (x_6 != 165) = true then
   (
    oinr (
     some false
    )
   ) else (
    oinl (wI (x_2 + 1))
   )
  ) else (
   oinr (
    obind (F.law30_sameBytes (a0.take k0) a1) fun x_8 =>
    some x_8
   )
  )
noncomputable def F.law30_spared (a0 : List UInt8) (k0 : Nat) (a1 : List UInt8) : Option (Bool) :=
 grd (0 ≤ (wI ((a1.length : Int) + 9) : Int) ∧ (wI ((a1.length : Int) + 9) : Int).toNat ≤ a0.length) <|
 loop (F.law30_spared_L1 a0 k0 a1) (a1.length : Int)
noncomputable def F.law30_headed_L2 (a1 : UInt64) : List UInt8 × Int → Option ((List UInt8 × Int) ⊕ (List UInt8))
 | (x_10, x_13) =>
  if (decide ((0 : Int) ≤ x_13)) = true then
  (
   obind (apO 1 x_10 [((shr64 a1 ((UInt64.ofInt (wI (8 * x_13))).toNat)) &&& 255).toUInt8]) fun x_19 =>
   oinl (x_19, wI (x_13 - 1))
  ) else (
   oinr (
    some x_10
   )
  )
noncomputable def F.law30_headed_L1 (a0 : Int) (a2 : Int) (a1 : UInt64) : Int × Int → Option ((Int × Int) ⊕ (List UInt8))
 | (x_3, x_4) =>
  if (decide (x_4 < a2)) = true then
  (
   oinl (wI (x_3 + 1), wI (2 * x_4))
  ) else (
   oinr (
    loop (F.law30_headed_L2 a1) ([UInt8.ofInt (wI ((wI (32 * a0)) + x_3))], wI (a2 - 1))
   )
  )
noncomputable def F.law30_headed (a0 : Int) (a1 : UInt64) (a2 : Int) : Option (List UInt8) :=
 if (a2 == 0) = true then
 (
  some [(UInt8.ofInt (wI (32 * a0))) + ((a1 % 24).toUInt8)]
 ) else (
  loop (F.law30_headed_L1 a0 a2 a1) (24, 1)
 )
noncomputable def F.law30_same_L1 (a0 : List (Int × UInt64 × (List UInt8) × Int)) (a1 : List (Int × UInt64 × (List UInt8) × Int)) : Int → Option ((Int) ⊕ (Bool))
 | x_1 =>
  if (decide (x_1 < (a0.length : Int))) = true then
  (
   obind (getO a0 (x_1 : Int)) fun x_5 =>
   obind (getO a1 (x_1 : Int)) fun x_6 =>
   if (x_5 != x_6) = true then
   (
    oinr (
     some false
    )
   ) else (
    oinl (wI (x_1 + 1))
   )
  ) else (
   oinr (
    some true
   )
  )
noncomputable def F.law30_same (a0 : List (Int × UInt64 × (List UInt8) × Int)) (a1 : List (Int × UInt64 × (List UInt8) × Int)) : Option (Bool) :=
 if ((a0.length : Int) != (a1.length : Int)) = true then
 (
  some false
 ) else (
  loop (F.law30_same_L1 a0 a1) 0
 )
noncomputable def F.law30_roomy_L1 (a0 : List UInt8) : List UInt8 × Int → Option ((List UInt8 × Int) ⊕ ((List UInt8 × Nat)))
 | (x_4, x_7) =>
  if (decide (x_7 < 9)) = true then
  (
   obind (apO 1 x_4 [165]) fun x_13 =>
   oinl (x_13, wI (x_7 + 1))
  ) else (
   oinr (
    grd (0 ≤ ((a0.length : Int) : Int) ∧ ((a0.length : Int) : Int).toNat ≤ x_4.length) <|
    some (x_4, ((a0.length : Int) : Int).toNat)
   )
  )
noncomputable def F.law30_roomy (a0 : List UInt8) : Option ((List UInt8 × Nat)) :=
 obind (apO 1 [] a0) fun x_1 =>
 loop (F.law30_roomy_L1 a0) (x_1, 0)
noncomputable def F.law30_CborParses_K2 (x_1 : (List UInt8 × Nat)) : List UInt8 → Option (Bool)
 | x_22 =>
  obind (F.ref30_Parse (x_22.take x_1.2)) fun x_25 =>
  obind (F.cbor_Parse (x_22.take x_1.2)) fun x_28 =>
  if (x_28.2.1 == x_25.2.1) = true then
  (
   if (x_28.2.2 == x_25.2.2) = true then
   (
    obind (F.law30_same x_28.1 x_25.1) fun x_33 =>
    some x_33
   ) else (
    some false
   )
  ) else (
   some false
  )
noncomputable def F.law30_CborParses_K1 (x_1 : (List UInt8 × Nat)) : Bool → Option (Bool)
 | x_16 =>
  if x_16 = true then
  (
   some false
  ) else (
   if (decide ((0 : Int) < ((x_1.1.take x_1.2).length : Int))) = true then
   (
    obind (getO (x_1.1.take x_1.2) (wI (Int.tdiv ((x_1.1.take x_1.2).length : Int) 2) : Int)) fun x_18 =>
    obind (getO (x_1.1.take x_1.2) (wI (Int.tdiv ((x_1.1.take x_1.2).length : Int) 2) : Int)) fun x_19 =>
    olet (x_1.1.set (wI (Int.tdiv ((x_1.1.take x_1.2).length : Int) 2) : Int).toNat (x_18 ^^^ 1)) fun x_20 =>
    F.law30_CborParses_K2 x_1 x_20
   ) else (
    F.law30_CborParses_K2 x_1 x_1.1
   )
  )
noncomputable def F.law30_CborParses (a0 : List UInt8) : Option (Bool) :=
 obind (F.law30_roomy a0) fun x_1 =>
 obind (F.cbor_Parse (x_1.1.take x_1.2)) fun x_5 =>
 obind (F.ref30_Parse a0) fun x_8 =>
 if (x_5.2.1 != x_8.2.1) = true then
 (
  F.law30_CborParses_K1 x_1 true
 ) else (
  if (x_5.2.2 != x_8.2.2) = true then
  (
   F.law30_CborParses_K1 x_1 true
  ) else (
   obind (F.law30_same x_5.1 x_8.1) fun x_13 =>
   if (!x_13) = true then
   (
    F.law30_CborParses_K1 x_1 true
   ) else (
    obind (F.law30_spared x_1.1 x_1.2 a0) fun x_15 =>
    F.law30_CborParses_K1 x_1 (!x_15)
   )
  )
 )
noncomputable def F.law30_awake_K1 (x_3 : List (Int × UInt64 × (List UInt8) × Int) × Int × Int) (x_8 : List UInt8 × Int) : Bool → Option (Bool)
 | x_24 =>
  if x_24 = true then
  (
   some false
  ) else (
   obind (F.law30_sameBytes x_8.1 [130, 56, 99, 66, 120, 121]) fun x_28 =>
   if x_28 = true then
   (
    obind (F.cbor_Member x_3.1 0 ([(3, 0, [97], 0)] : List (Int × UInt64 × (List UInt8) × Int))) fun x_32 =>
    some (x_32 == 2)
   ) else (
    some false
   )
  )
noncomputable def F.law30_awake  : Option (Bool) :=
 obind (F.cbor_Parse [161, 97, 97, 130, 1, 245]) fun x_3 =>
 obind (F.cbor_Print ([(4, 0, [], 2), (1, 99, [], 0), (2, 0, [120, 121], 0)] : List (Int × UInt64 × (List UInt8) × Int))) fun x_8 =>
 obind (F.cbor_Parse [130, 24, 23, 0]) fun x_13 =>
 if (x_3.2.1 != 0) = true then
 (
  F.law30_awake_K1 x_3 x_8 true
 ) else (
  if (x_8.2 != 0) = true then
  (
   F.law30_awake_K1 x_3 x_8 true
  ) else (
   if (x_13.2.1 != 220) = true then
   (
    F.law30_awake_K1 x_3 x_8 true
   ) else (
    if (x_13.2.2 != 1) = true then
    (
     F.law30_awake_K1 x_3 x_8 true
    ) else (
     if ((x_3.1.length : Int) != 5) = true then
     (
      F.law30_awake_K1 x_3 x_8 true
     ) else (
      obind (getO x_3.1 (1 : Int)) fun x_21 =>
      if (x_21.2.2.1 != [97]) = true then
      (
       F.law30_awake_K1 x_3 x_8 true
      ) else (
       obind (getO x_3.1 (4 : Int)) fun x_23 =>
       F.law30_awake_K1 x_3 x_8 (x_23.2.1 != 21)
      )
     )
    )
   )
  )
 )
noncomputable def F.law30_CborOne_K3 (a0 : List UInt8) (a1 : List UInt8) (x_2 : List (Int × UInt64 × (List UInt8) × Int) × Int × Int) (x_5 : List (Int × UInt64 × (List UInt8) × Int) × Int × Int) : Bool → Option (Bool)
 | x_18 =>
  if x_18 = true then
  (
   some false
  ) else (
   obind (F.law30_same x_2.1 x_5.1) fun x_20 =>
   obind (F.law30_sameBytes a0 a1) fun x_21 =>
   some (x_20 == x_21)
  )
noncomputable def F.law30_CborOne_K2 (a0 : List UInt8) (a1 : List UInt8) (x_2 : List (Int × UInt64 × (List UInt8) × Int) × Int × Int) (x_5 : List (Int × UInt64 × (List UInt8) × Int) × Int × Int) : Int → Option (Bool)
 | x_12 =>
  obind (tkO a0 (x_12 : Int)) fun x_14 =>
  obind (tkO a1 (x_12 : Int)) fun x_15 =>
  obind (F.law30_sameBytes x_14 x_15) fun x_16 =>
  if x_16 = true then
  (
   F.law30_CborOne_K3 a0 a1 x_2 x_5 ((a0.length : Int) != (a1.length : Int))
  ) else (
   F.law30_CborOne_K3 a0 a1 x_2 x_5 false
  )
noncomputable def F.law30_CborOne_K1 (a0 : List UInt8) (a1 : List UInt8) (x_2 : List (Int × UInt64 × (List UInt8) × Int) × Int × Int) (x_5 : List (Int × UInt64 × (List UInt8) × Int) × Int × Int) : Bool → Option (Bool)
 | x_9 =>
  if x_9 = true then
  (
   some true
  ) else (
   if (decide ((a1.length : Int) < (a0.length : Int))) = true then
   (
    F.law30_CborOne_K2 a0 a1 x_2 x_5 (a1.length : Int)
   ) else (
    F.law30_CborOne_K2 a0 a1 x_2 x_5 (a0.length : Int)
   )
  )
noncomputable def F.law30_CborOne (a0 : List UInt8) (a1 : List UInt8) : Option (Bool) :=
 obind (F.law30_awake ) fun x_1 =>
 if (!x_1) = true then
 (
  some false
 ) else (
  obind (F.cbor_Parse a0) fun x_2 =>
  obind (F.cbor_Parse a1) fun x_5 =>
  if (x_2.2.1 != 0) = true then
  (
   F.law30_CborOne_K1 a0 a1 x_2 x_5 true
  ) else (
   F.law30_CborOne_K1 a0 a1 x_2 x_5 (x_5.2.1 != 0)
  )
 )
noncomputable def F.law30_CborCuts_K2 (a0 : List UInt8) (a2 : List UInt8) : Bool → Option (Bool)
 | x_17 =>
  if x_17 = true then
  (
   some false
  ) else (
   if ((a2.length : Int) == 0) = true then
   (
    some true
   ) else (
    obind (apO 1 [] a0) fun x_19 =>
    obind (apO 1 x_19 a2) fun x_22 =>
    obind (F.cbor_Parse x_22) fun x_25 =>
    if (decide ((65536 : Int) < (x_22.length : Int))) = true then
    (
     if (x_25.2.1 == 10) = true then
     (
      if (x_25.2.2 == 0) = true then
      (
       some ((x_25.1.length : Int) == 0)
      ) else (
       some false
      )
     ) else (
      some false
     )
    ) else (
     if (x_25.2.1 == 220) = true then
     (
      if (x_25.2.2 == (a0.length : Int)) = true then
      (
       some ((x_25.1.length : Int) == 0)
      ) else (
       some false
      )
     ) else (
      some false
     )
    )
   )
  )
noncomputable def F.law30_CborCuts_K1 (a0 : List UInt8) (a2 : List UInt8) : Int → Option (Bool)
 | x_9 =>
  obind (tkO a0 (x_9 : Int)) fun x_11 =>
  obind (F.cbor_Parse x_11) fun x_12 =>
  if (x_12.2.1 != 220) = true then
  (
   F.law30_CborCuts_K2 a0 a2 true
  ) else (
   if (x_12.2.2 != x_9) = true then
   (
    F.law30_CborCuts_K2 a0 a2 true
   ) else (
    F.law30_CborCuts_K2 a0 a2 ((x_12.1.length : Int) != 0)
   )
  )
noncomputable def F.law30_CborCuts (a0 : List UInt8) (a1 : Int) (a2 : List UInt8) : Option (Bool) :=
 obind (F.law30_awake ) fun x_1 =>
 if (!x_1) = true then
 (
  some false
 ) else (
  obind (F.cbor_Parse a0) fun x_2 =>
  if (x_2.2.1 != 0) = true then
  (
   some true
  ) else (
   grd (¬ (a0.length : Int) = 0) <|
   olet (Int.tmod a1 (a0.length : Int)) fun x_6 =>
   if (decide (x_6 < 0)) = true then
   (
    olet (wI (x_6 + (a0.length : Int))) fun x_7 =>
    F.law30_CborCuts_K1 a0 a2 x_7
   ) else (
    F.law30_CborCuts_K1 a0 a2 x_6
   )
  )
 )
end Go.Gk
