import Derived.Test.YtgjpaedgcpjigaaDoorGkS
import Derived.Test.YtgjpaedgcpjigaaDoorGkFman
import Derived.Test.YtgjpaedgcpjigaaDoorGkFlib
set_option linter.unusedVariables false
set_option linter.unusedSimpArgs false
set_option linter.unusedVariables false
namespace Go.Gk
noncomputable def F.cbor_width (a0 : UInt64) : Option (Int) :=
 if (decide (a0 < 24)) = true then
 (
  some 0
 ) else (
  if (decide (a0 < 256)) = true then
  (
   some 1
  ) else (
   if (decide (a0 < 65536)) = true then
   (
    some 2
   ) else (
    if (decide (a0 < 4294967296)) = true then
    (
     some 4
    ) else (
     some 8
    )
   )
  )
 )
noncomputable def F.cbor_behind_L1 (a0 : List (Int × UInt64 × (List UInt8) × Int)) : Int × Int → Option ((Int × Int) ⊕ (Int))
 | (x_1, x_2) =>
  if (decide ((0 : Int) < x_2)) = true then
  (
   obind (getO a0 (x_1 : Int)) fun x_6 =>
   olet (wI (x_2 + (wI (x_6.2.2.2 - 1)))) fun x_7 =>
   oinl (wI (x_1 + 1), x_7)
  ) else (
   oinr (
    some x_1
   )
  )
noncomputable def F.cbor_behind (a0 : List (Int × UInt64 × (List UInt8) × Int)) (a1 : Int) : Option (Int) :=
 loop (F.cbor_behind_L1 a0) (a1, 1)
noncomputable def F.cbor_reader_argument_L1 (a0_1 : Int) (a0_2 : List (Int × UInt64 × (List UInt8) × Int)) (a0_3 : List (Int × Int × UInt64 × Bool × Int × Option (Nat × Nat))) (x_7 : Int) (x_17 : Int) (x_20 : List UInt8) : UInt64 × Int → Option ((UInt64 × Int) ⊕ (Int × UInt64 × Option (Int × Int) × Int × List (Int × UInt64 × (List UInt8) × Int) × List (Int × Int × UInt64 × Bool × Int × Option (Nat × Nat))))
 | (x_21, x_22) =>
  if (decide (x_22 < (x_20.length : Int))) = true then
  (
   obind (getO x_20 (x_22 : Int)) fun x_26 =>
   olet ((shl64 x_21 8) ||| x_26.toUInt64) fun x_27 =>
   oinl (x_27, wI (x_22 + 1))
  ) else (
   oinr (
    obind (F.cbor_width x_21) fun x_28 =>
    if (x_28 != x_17) = true then
    (
     some (0, 0, some (220, a0_1), wI ((wI (a0_1 + 1)) + x_17), a0_2, a0_3)
    ) else (
     some (x_7, x_21, none, wI ((wI (a0_1 + 1)) + x_17), a0_2, a0_3)
    )
   )
  )
noncomputable def F.cbor_reader_argument_K1 (a0_0 : List UInt8) (a0_1 : Int) (a0_2 : List (Int × UInt64 × (List UInt8) × Int)) (a0_3 : List (Int × Int × UInt64 × Bool × Int × Option (Nat × Nat))) (x_7 : Int) (x_8 : Int) : Bool → Option (Int × UInt64 × Option (Int × Int) × Int × List (Int × UInt64 × (List UInt8) × Int) × List (Int × Int × UInt64 × Bool × Int × Option (Nat × Nat)))
 | x_12 =>
  if x_12 = true then
  (
   some (0, 0, some (220, a0_1), a0_1, a0_2, a0_3)
  ) else (
   if (decide (x_8 < 24)) = true then
   (
    some (x_7, UInt64.ofInt x_8, none, wI (a0_1 + 1), a0_2, a0_3)
   ) else (
    grd (0 ≤ (wI (x_8 - 24))) <|
    olet (iShl 1 (((wI (x_8 - 24))).toNat)) fun x_17 =>
    if (decide ((wI ((a0_0.length : Int) - (wI (a0_1 + 1)))) < x_17)) = true then
    (
     some (0, 0, some (220, (a0_0.length : Int)), wI (a0_1 + 1), a0_2, a0_3)
    ) else (
     obind (slO a0_0 (wI (a0_1 + 1) : Int) (wI ((wI (a0_1 + 1)) + x_17) : Int)) fun x_20 =>
     loop (F.cbor_reader_argument_L1 a0_1 a0_2 a0_3 x_7 x_17 x_20) (0, 0)
    )
   )
  )
noncomputable def F.cbor_reader_argument (a0_0 : List UInt8) (a0_1 : Int) (a0_2 : List (Int × UInt64 × (List UInt8) × Int)) (a0_3 : List (Int × Int × UInt64 × Bool × Int × Option (Nat × Nat))) : Option (Int × UInt64 × Option (Int × Int) × Int × List (Int × UInt64 × (List UInt8) × Int) × List (Int × Int × UInt64 × Bool × Int × Option (Nat × Nat))) :=
 if (a0_1 == (a0_0.length : Int)) = true then
 (
  some (0, 0, some (220, a0_1), a0_1, a0_2, a0_3)
 ) else (
  obind (getO a0_0 (a0_1 : Int)) fun x_6 =>
  olet (((shr8 x_6 5).toNat : Int)) fun x_7 =>
  olet (((x_6 &&& 31).toNat : Int)) fun x_8 =>
  if (decide ((27 : Int) < x_8)) = true then
  (
   F.cbor_reader_argument_K1 a0_0 a0_1 a0_2 a0_3 x_7 x_8 true
  ) else (
   if (x_7 == 7) = true then
   (
    if (decide (x_8 < 20)) = true then
    (
     F.cbor_reader_argument_K1 a0_0 a0_1 a0_2 a0_3 x_7 x_8 true
    ) else (
     F.cbor_reader_argument_K1 a0_0 a0_1 a0_2 a0_3 x_7 x_8 (decide ((22 : Int) < x_8))
    )
   ) else (
    F.cbor_reader_argument_K1 a0_0 a0_1 a0_2 a0_3 x_7 x_8 false
   )
  )
 )
noncomputable def F.cbor_same_L1 (a0 : List (Int × UInt64 × (List UInt8) × Int)) (a1 : List (Int × UInt64 × (List UInt8) × Int)) : Int → Option ((Int) ⊕ (Bool))
 | x_1 =>
  if (decide (x_1 < (min (a0.length : Int) (a1.length : Int)))) = true then
  (
   obind (getO a0 (x_1 : Int)) fun x_5 =>
   obind (getO a1 (x_1 : Int)) fun x_6 =>
   if (x_5 != x_6) = true then
   (
    oinr (
     some false
    )
   ) else (
    oinl (wI (x_1 + 1))
   )
  ) else (
   oinr (
    some ((a0.length : Int) == (a1.length : Int))
   )
  )
noncomputable def F.cbor_same (a0 : List (Int × UInt64 × (List UInt8) × Int)) (a1 : List (Int × UInt64 × (List UInt8) × Int)) : Option (Bool) :=
 loop (F.cbor_same_L1 a0 a1) 0
noncomputable def F.cbor_reader_done_K1 (a0_1 : Int) (x_7 : List (Int × UInt64 × (List UInt8) × Int)) : (List (Int × Int × UInt64 × Bool × Int × Option (Nat × Nat))) → Option (Option (Int × Int) × Int × List (Int × UInt64 × (List UInt8) × Int) × List (Int × Int × UInt64 × Bool × Int × Option (Nat × Nat)))
 | x_28 =>
  some (none, a0_1, x_7, x_28)
noncomputable def F.cbor_reader_done_K2 (a0_1 : Int) (a0_3 : List (Int × Int × UInt64 × Bool × Int × Option (Nat × Nat))) (x_4 : (Int × Int × UInt64 × Bool × Int × Option (Nat × Nat))) (x_7 : List (Int × UInt64 × (List UInt8) × Int)) : Bool → Option (Option (Int × Int) × Int × List (Int × UInt64 × (List UInt8) × Int) × List (Int × Int × UInt64 × Bool × Int × Option (Nat × Nat)))
 | x_19 =>
  if x_19 = true then
  (
   some (some (220, x_4.2.2.2.2.1), a0_1, x_7, a0_3)
  ) else (
   olet (a0_3.set (wI ((a0_3.length : Int) - 1) : Int).toNat (x_4.1, x_4.2.1, x_4.2.2.1, x_4.2.2.2.1, x_4.2.2.2.2.1, (some ((x_4.2.2.2.2.1 : Int).toNat, (a0_1 : Int).toNat)))) fun x_23 =>
   olet (x_23.set (wI ((a0_3.length : Int) - 1) : Int).toNat (x_4.1, x_4.2.1, x_4.2.2.1, true, x_4.2.2.2.2.1, (some ((x_4.2.2.2.2.1 : Int).toNat, (a0_1 : Int).toNat)))) fun x_24 =>
   F.cbor_reader_done_K1 a0_1 x_7 x_24
  )
noncomputable def F.cbor_reader_done (a0_0 : List UInt8) (a0_1 : Int) (a0_2 : List (Int × UInt64 × (List UInt8) × Int)) (a0_3 : List (Int × Int × UInt64 × Bool × Int × Option (Nat × Nat))) : Option (Option (Int × Int) × Int × List (Int × UInt64 × (List UInt8) × Int) × List (Int × Int × UInt64 × Bool × Int × Option (Nat × Nat))) :=
 if ((a0_3.length : Int) == 0) = true then
 (
  some (none, a0_1, a0_2, a0_3)
 ) else (
  obind (getO a0_3 (wI ((a0_3.length : Int) - 1) : Int)) fun x_4 =>
  obind (getO a0_2 (x_4.1 : Int)) fun x_5 =>
  obind (getO a0_2 (x_4.1 : Int)) fun x_6 =>
  olet (a0_2.set (x_4.1 : Int).toNat (x_6.1, x_6.2.1, x_6.2.2.1, wI (x_5.2.2.2 + 1))) fun x_7 =>
  if (x_4.2.1 != 5) = true then
  (
   olet (a0_3.set (wI ((a0_3.length : Int) - 1) : Int).toNat (x_4.1, x_4.2.1, x_4.2.2.1 - 1, x_4.2.2.2.1, x_4.2.2.2.2.1, x_4.2.2.2.2.2)) fun x_8 =>
   F.cbor_reader_done_K1 a0_1 x_7 x_8
  ) else (
   if x_4.2.2.2.1 = true then
   (
    olet (a0_3.set (wI ((a0_3.length : Int) - 1) : Int).toNat (x_4.1, x_4.2.1, x_4.2.2.1 - 1, x_4.2.2.2.1, x_4.2.2.2.2.1, x_4.2.2.2.2.2)) fun x_9 =>
    olet (x_9.set (wI ((a0_3.length : Int) - 1) : Int).toNat (x_4.1, x_4.2.1, x_4.2.2.1 - 1, false, x_4.2.2.2.2.1, x_4.2.2.2.2.2)) fun x_10 =>
    olet (x_10.set (wI ((a0_3.length : Int) - 1) : Int).toNat (x_4.1, x_4.2.1, x_4.2.2.1 - 1, false, a0_1, x_4.2.2.2.2.2)) fun x_11 =>
    F.cbor_reader_done_K1 a0_1 x_7 x_11
   ) else (
    obind (slO a0_0 (x_4.2.2.2.2.1 : Int) (a0_1 : Int)) fun x_12 =>
    grd (a0_0 ≠ []) <|
    if x_4.2.2.2.2.2.isSome = true then
    (
     obind x_4.2.2.2.2.2 fun x_16 =>
     grd (x_16.1 ≤ x_16.2 ∧ x_16.2 ≤ a0_0.length) <|
     obind (F.slices_Compare_byte_byte (vwL a0_0 x_16) x_12) fun x_18 =>
     F.cbor_reader_done_K2 a0_1 a0_3 x_4 x_7 (decide ((0 : Int) ≤ x_18))
    ) else (
     F.cbor_reader_done_K2 a0_1 a0_3 x_4 x_7 false
    )
   )
  )
 )
noncomputable def F.cbor_reader_item_K1 (a0_0 : List UInt8) (x_4 : Int × UInt64 × Option (Int × Int) × Int × List (Int × UInt64 × (List UInt8) × Int) × List (Int × Int × UInt64 × Bool × Int × Option (Nat × Nat))) : Int × UInt64 × List UInt8 → Option (Option (Int × Int) × Int × List (Int × UInt64 × (List UInt8) × Int) × List (Int × Int × UInt64 × Bool × Int × Option (Nat × Nat)))
 | (x_56, x_57, x_58) =>
  obind (apO 40 x_4.2.2.2.2.1 ([(x_4.1, x_57, x_58, 0)] : List (Int × UInt64 × (List UInt8) × Int))) fun x_62 =>
  obind (F.cbor_reader_done a0_0 x_56 x_62 x_4.2.2.2.2.2) fun x_65 =>
  ocase x_65.1 (
   some (none, x_65.2.1, x_65.2.2.1, x_65.2.2.2)
  ) (fun x_73 =>
   some (some (x_73.1, x_73.2), x_65.2.1, x_65.2.2.1, x_65.2.2.2)
  )
noncomputable def F.cbor_reader_item_K4 (a0_1 : Int) (x_4 : Int × UInt64 × Option (Int × Int) × Int × List (Int × UInt64 × (List UInt8) × Int) × List (Int × Int × UInt64 × Bool × Int × Option (Nat × Nat))) (x_26 : List UInt8) (a0_0 : List UInt8) : Bool → Option (Option (Int × Int) × Int × List (Int × UInt64 × (List UInt8) × Int) × List (Int × Int × UInt64 × Bool × Int × Option (Nat × Nat)))
 | x_29 =>
  if x_29 = true then
  (
   some (some (32, a0_1), wI (x_4.2.2.2.1 + (wI (x_4.2.1.toNat : Int))), x_4.2.2.2.2.1, x_4.2.2.2.2.2)
  ) else (
   F.cbor_reader_item_K1 a0_0 x_4 (wI (x_4.2.2.2.1 + (wI (x_4.2.1.toNat : Int))), 0, x_26)
  )
noncomputable def F.cbor_reader_item_K5 (x_4 : Int × UInt64 × Option (Int × Int) × Int × List (Int × UInt64 × (List UInt8) × Int) × List (Int × Int × UInt64 × Bool × Int × Option (Nat × Nat))) : UInt64 × UInt64 → Option (Option (Int × Int) × Int × List (Int × UInt64 × (List UInt8) × Int) × List (Int × Int × UInt64 × Bool × Int × Option (Nat × Nat)))
 | (x_40, x_41) =>
  obind (apO 40 x_4.2.2.2.2.1 ([(x_4.1, x_40, [], 0)] : List (Int × UInt64 × (List UInt8) × Int))) fun x_45 =>
  obind (apO 64 x_4.2.2.2.2.2 ([((x_4.2.2.2.2.1.length : Int), x_4.1, x_41, false, x_4.2.2.2.1, none)] : List (Int × Int × UInt64 × Bool × Int × Option (Nat × Nat)))) fun x_50 =>
  some (none, x_4.2.2.2.1, x_45, x_50)
noncomputable def F.cbor_reader_item_K3 (a0_0 : List UInt8) (a0_1 : Int) (x_4 : Int × UInt64 × Option (Int × Int) × Int × List (Int × UInt64 × (List UInt8) × Int) × List (Int × Int × UInt64 × Bool × Int × Option (Nat × Nat))) : Bool → Option (Option (Int × Int) × Int × List (Int × UInt64 × (List UInt8) × Int) × List (Int × Int × UInt64 × Bool × Int × Option (Nat × Nat)))
 | x_22 =>
  if x_22 = true then
  (
   if (decide ((UInt64.ofInt (wI ((a0_0.length : Int) - x_4.2.2.2.1))) < x_4.2.1)) = true then
   (
    some (some (220, (a0_0.length : Int)), x_4.2.2.2.1, x_4.2.2.2.2.1, x_4.2.2.2.2.2)
   ) else (
    obind (slO a0_0 (x_4.2.2.2.1 : Int) (wI (x_4.2.2.2.1 + (wI (x_4.2.1.toNat : Int))) : Int)) fun x_26 =>
    if (x_4.1 == 3) = true then
    (
     obind (F.unicode_utf8_ValidString x_26) fun x_28 =>
     F.cbor_reader_item_K4 a0_1 x_4 x_26 a0_0 (!x_28)
    ) else (
     F.cbor_reader_item_K4 a0_1 x_4 x_26 a0_0 false
    )
   )
  ) else (
   if ((x_4.2.2.2.2.2.length : Int) == 32) = true then
   (
    some (some (11, a0_1), x_4.2.2.2.1, x_4.2.2.2.2.1, x_4.2.2.2.2.2)
   ) else (
    if (x_4.1 == 6) = true then
    (
     F.cbor_reader_item_K5 x_4 (x_4.2.1, 1)
    ) else (
     F.cbor_reader_item_K5 x_4 (0, x_4.2.1)
    )
   )
  )
noncomputable def F.cbor_reader_item_K2 (x_4 : Int × UInt64 × Option (Int × Int) × Int × List (Int × UInt64 × (List UInt8) × Int) × List (Int × Int × UInt64 × Bool × Int × Option (Nat × Nat))) (a0_0 : List UInt8) (a0_1 : Int) : Bool → Option (Option (Int × Int) × Int × List (Int × UInt64 × (List UInt8) × Int) × List (Int × Int × UInt64 × Bool × Int × Option (Nat × Nat)))
 | x_19 =>
  if x_19 = true then
  (
   F.cbor_reader_item_K1 a0_0 x_4 (x_4.2.2.2.1, x_4.2.1, [])
  ) else (
   if (x_4.1 == 2) = true then
   (
    F.cbor_reader_item_K3 a0_0 a0_1 x_4 (x_4.1 == 2)
   ) else (
    F.cbor_reader_item_K3 a0_0 a0_1 x_4 (x_4.1 == 3)
   )
  )
noncomputable def F.cbor_reader_item (a0_0 : List UInt8) (a0_1 : Int) (a0_2 : List (Int × UInt64 × (List UInt8) × Int)) (a0_3 : List (Int × Int × UInt64 × Bool × Int × Option (Nat × Nat))) : Option (Option (Int × Int) × Int × List (Int × UInt64 × (List UInt8) × Int) × List (Int × Int × UInt64 × Bool × Int × Option (Nat × Nat))) :=
 obind (F.cbor_reader_argument a0_0 a0_1 a0_2 a0_3) fun x_4 =>
 ocase x_4.2.2.1 (
  if (x_4.1 == 0) = true then
  (
   F.cbor_reader_item_K2 x_4 a0_0 a0_1 (x_4.1 == 0)
  ) else (
   if (x_4.1 == 1) = true then
   (
    F.cbor_reader_item_K2 x_4 a0_0 a0_1 (x_4.1 == 1)
   ) else (
    F.cbor_reader_item_K2 x_4 a0_0 a0_1 (x_4.1 == 7)
   )
  )
 ) (fun x_12 =>
  some (some (x_12.1, x_12.2), x_4.2.2.2.1, x_4.2.2.2.2.1, x_4.2.2.2.2.2)
 )
noncomputable def F.cbor_Parse_K1 (a0 : List UInt8) (x_24 : Int) (x_25 : List (Int × UInt64 × (List UInt8) × Int)) (x_28 : List (Int × Int × UInt64 × Bool × Int × Option (Nat × Nat))) : Bool → Option ((Int × (List (Int × UInt64 × (List UInt8) × Int)) × (List (Int × Int × UInt64 × Bool × Int × Option (Nat × Nat)))) ⊕ ((Int × (List (Int × UInt64 × (List UInt8) × Int)) × (List (Int × Int × UInt64 × Bool × Int × Option (Nat × Nat)))) ⊕ (List (Int × UInt64 × (List UInt8) × Int) × Int × Int)))
 | x_36 =>
  if x_36 = true then
  (
   grd (0 ≤ (wI ((x_28.length : Int) - 1) : Int) ∧ (wI ((x_28.length : Int) - 1) : Int).toNat ≤ x_28.length) <|
   obind (F.cbor_reader_done a0 x_24 x_25 (x_28.take ((wI ((x_28.length : Int) - 1) : Int).toNat))) fun x_39 =>
   ocase x_39.1 (
    oinl (x_39.2.1, x_39.2.2.1, x_39.2.2.2)
   ) (fun x_47 =>
    oinr (
     oinr (
      some ([], x_47.1, x_47.2)
     )
    )
   )
  ) else (
   oinr (
    if ((x_28.length : Int) == 0) = true then
    (
     oinr (
      if (decide (x_24 < (a0.length : Int))) = true then
      (
       some ([], 220, x_24)
      ) else (
       some (x_25, 0, 0)
      )
     )
    ) else (
     oinl (x_24, x_25, x_28)
    )
   )
  )
noncomputable def F.cbor_Parse_L2 (a0 : List UInt8) : Int × (List (Int × UInt64 × (List UInt8) × Int)) × (List (Int × Int × UInt64 × Bool × Int × Option (Nat × Nat))) → Option ((Int × (List (Int × UInt64 × (List UInt8) × Int)) × (List (Int × Int × UInt64 × Bool × Int × Option (Nat × Nat)))) ⊕ ((Int × (List (Int × UInt64 × (List UInt8) × Int)) × (List (Int × Int × UInt64 × Bool × Int × Option (Nat × Nat)))) ⊕ (List (Int × UInt64 × (List UInt8) × Int) × Int × Int)))
 | (x_24, x_25, x_28) =>
  if (decide ((0 : Int) < (x_28.length : Int))) = true then
  (
   obind (getO x_28 (wI ((x_28.length : Int) - 1) : Int)) fun x_35 =>
   F.cbor_Parse_K1 a0 x_24 x_25 x_28 (x_35.2.2.1 == 0)
  ) else (
   F.cbor_Parse_K1 a0 x_24 x_25 x_28 false
  )
noncomputable def F.cbor_Parse_L1 (a0 : List UInt8) : Int × (List (Int × UInt64 × (List UInt8) × Int)) × (List (Int × Int × UInt64 × Bool × Int × Option (Nat × Nat))) → Option ((Int × (List (Int × UInt64 × (List UInt8) × Int)) × (List (Int × Int × UInt64 × Bool × Int × Option (Nat × Nat)))) ⊕ (List (Int × UInt64 × (List UInt8) × Int) × Int × Int))
 | (x_3, x_4, x_7) =>
  obind (F.cbor_reader_item a0 x_3 x_4 x_7) fun x_13 =>
  ocase x_13.1 (
   loop (F.cbor_Parse_L2 a0) (x_13.2.1, x_13.2.2.1, x_13.2.2.2)
  ) (fun x_21 =>
   oinr (
    some ([], x_21.1, x_21.2)
   )
  )
noncomputable def F.cbor_Parse (a0 : List UInt8) : Option (List (Int × UInt64 × (List UInt8) × Int) × Int × Int) :=
 if (decide ((65536 : Int) < (a0.length : Int))) = true then
 (
  some ([], 10, 0)
 ) else (
  loop (F.cbor_Parse_L1 a0) (0, [], [])
 )
noncomputable def F.cbor_head_L1 (a0 : List UInt8) (a2 : UInt64) (x_4 : Int) : UInt8 × Int → Option ((UInt8 × Int) ⊕ (List UInt8))
 | (x_16, x_17) =>
  if (decide (x_17 < x_4)) = true then
  (
   oinl (x_16 + 1, wI (x_17 * 2))
  ) else (
   oinr (
    obind (mkO 1 (wI (1 + x_4) : Int) (wI (1 + x_4) : Int) (0 : UInt8)) fun x_21 =>
    obind (getO x_21 (0 : Int)) fun x_24 =>
    olet (x_21.set (0 : Int).toNat (x_16 ||| 24)) fun x_25 =>
    obind (drO x_25 (1 : Int)) fun x_26 =>
    obind (drO ([(shr64 a2 56).toUInt8, (shr64 a2 48).toUInt8, (shr64 a2 40).toUInt8, (shr64 a2 32).toUInt8, (shr64 a2 24).toUInt8, (shr64 a2 16).toUInt8, (shr64 a2 8).toUInt8, (shr64 a2 0).toUInt8] : List UInt8) (wI (8 - x_4) : Int)) fun x_27 =>
    olet (cpL x_25 x_27 ((1 : Int).toNat) x_25.length) fun x_28 =>
    obind (apO 1 a0 x_28) fun x_29 =>
    some x_29
   )
  )
noncomputable def F.cbor_head (a0 : List UInt8) (a1 : Int) (a2 : UInt64) : Option (List UInt8) :=
 obind (F.cbor_width a2) fun x_4 =>
 if (x_4 == 0) = true then
 (
  obind (apO 1 a0 [(UInt8.ofInt (iShl a1 5)) ||| a2.toUInt8]) fun x_7 =>
  some x_7
 ) else (
  if (x_4 == 1) = true then
  (
   olet ((UInt8.ofInt (iShl a1 5)) ||| 24) fun x_10 =>
   obind (apO 1 a0 [x_10, a2.toUInt8]) fun x_13 =>
   some x_13
  ) else (
   loop (F.cbor_head_L1 a0 a2 x_4) (UInt8.ofInt (iShl a1 5), 1)
  )
 )
noncomputable def F.cbor_write_s_K5 (x_73 : Int) : List UInt8 × Int × List UInt8 → Option ((List UInt8 × Int × List UInt8 × Int) ⊕ (List UInt8 × Int))
 | (x_94, x_97, x_98) =>
  oinl (x_94, x_97, x_98, wI (x_73 + 1))
noncomputable def F.cbor_write_s_K7 (x_77 : List UInt8 × Int) (x_83 : List UInt8) (x_73 : Int) : Bool → Option ((List UInt8 × Int × List UInt8 × Int) ⊕ (List UInt8 × Int))
 | x_86 =>
  if x_86 = true then
  (
   oinr (
    some ([], (-1))
   )
  ) else (
   obind (F.slices_Clone_byte_byte x_83) fun x_88 =>
   F.cbor_write_s_K5 x_73 (x_77.1, x_77.2, x_88)
  )
noncomputable def F.cbor_write_s_K6 (x_66 : List UInt8) (x_70 : List UInt8) (x_73 : Int) (x_77 : List UInt8 × Int) : Bool → Option ((List UInt8 × Int × List UInt8 × Int) ⊕ (List UInt8 × Int))
 | x_81 =>
  if x_81 = true then
  (
   obind (drO x_77.1 ((x_66.length : Int) : Int)) fun x_83 =>
   if (decide ((0 : Int) < x_73)) = true then
   (
    obind (F.slices_Compare_byte_byte x_70 x_83) fun x_85 =>
    F.cbor_write_s_K7 x_77 x_83 x_73 (decide ((0 : Int) ≤ x_85))
   ) else (
    F.cbor_write_s_K7 x_77 x_83 x_73 false
   )
  ) else (
   F.cbor_write_s_K5 x_73 (x_77.1, x_77.2, x_70)
  )
noncomputable def F.cbor_write_s_L1 (a1 : List (Int × UInt64 × (List UInt8) × Int)) (a3 : Int) (rc : (List UInt8) → (List (Int × UInt64 × (List UInt8) × Int)) → Int → Int → Option (List UInt8 × Int)) (x_2 : (Int × UInt64 × (List UInt8) × Int)) : List UInt8 × Int × List UInt8 × Int → Option ((List UInt8 × Int × List UInt8 × Int) ⊕ (List UInt8 × Int))
 | (x_66, x_69, x_70, x_73) =>
  if (decide (x_73 < x_2.2.2.2)) = true then
  (
   obind (rc x_66 a1 x_69 (wI (a3 + 1))) fun x_77 =>
   if (decide (x_77.2 < 0)) = true then
   (
    oinr (
     some ([], (-1))
    )
   ) else (
    if (x_2.1 == 5) = true then
    (
     F.cbor_write_s_K6 x_66 x_70 x_73 x_77 ((Int.tmod x_73 2) == 0)
    ) else (
     F.cbor_write_s_K6 x_66 x_70 x_73 x_77 false
    )
   )
  ) else (
   oinr (
    some (x_66, x_69)
   )
  )
noncomputable def F.cbor_write_s_K4 (a0 : List UInt8) (a2 : Int) (x_2 : (Int × UInt64 × (List UInt8) × Int)) (x_55 : UInt64) (a1 : List (Int × UInt64 × (List UInt8) × Int)) (a3 : Int) (rc : (List UInt8) → (List (Int × UInt64 × (List UInt8) × Int)) → Int → Int → Option (List UInt8 × Int)) : Bool → Option (List UInt8 × Int)
 | x_58 =>
  if x_58 = true then
  (
   some ([], (-1))
  ) else (
   obind (F.cbor_head a0 x_2.1 x_55) fun x_60 =>
   obind (apO 1 x_60 x_2.2.2.1) fun x_63 =>
   loop (F.cbor_write_s_L1 a1 a3 rc x_2) (x_63, wI (a2 + 1), [], 0)
  )
noncomputable def F.cbor_write_s_K3 (a3 : Int) (x_18 : Bool) (a0 : List UInt8) (a2 : Int) (x_2 : (Int × UInt64 × (List UInt8) × Int)) (a1 : List (Int × UInt64 × (List UInt8) × Int)) (rc : (List UInt8) → (List (Int × UInt64 × (List UInt8) × Int)) → Int → Int → Option (List UInt8 × Int)) : UInt64 → Option (List UInt8 × Int)
 | x_55 =>
  if x_18 = true then
  (
   F.cbor_write_s_K4 a0 a2 x_2 x_55 a1 a3 rc (a3 == 32)
  ) else (
   F.cbor_write_s_K4 a0 a2 x_2 x_55 a1 a3 rc false
  )
noncomputable def F.cbor_write_s_K8 (x_2 : (Int × UInt64 × (List UInt8) × Int)) (a3 : Int) (x_18 : Bool) (a0 : List UInt8) (a2 : Int) (a1 : List (Int × UInt64 × (List UInt8) × Int)) (rc : (List UInt8) → (List (Int × UInt64 × (List UInt8) × Int)) → Int → Int → Option (List UInt8 × Int)) : Unit → Option (List UInt8 × Int)
 | _ =>
  olet (UInt64.ofInt (x_2.2.2.1.length : Int)) fun x_54 =>
  F.cbor_write_s_K3 a3 x_18 a0 a2 x_2 a1 rc x_54
noncomputable def F.cbor_write_s_K9 (x_2 : (Int × UInt64 × (List UInt8) × Int)) (a3 : Int) (x_18 : Bool) (a0 : List UInt8) (a2 : Int) (a1 : List (Int × UInt64 × (List UInt8) × Int)) (rc : (List UInt8) → (List (Int × UInt64 × (List UInt8) × Int)) → Int → Int → Option (List UInt8 × Int)) : Bool → Option (List UInt8 × Int)
 | x_39 =>
  if x_39 = true then
  (
   some ([], (-1))
  ) else (
   F.cbor_write_s_K3 a3 x_18 a0 a2 x_2 a1 rc x_2.2.1
  )
noncomputable def F.cbor_write_s_K2 (x_2 : (Int × UInt64 × (List UInt8) × Int)) (a3 : Int) (x_18 : Bool) (a0 : List UInt8) (a2 : Int) (a1 : List (Int × UInt64 × (List UInt8) × Int)) (rc : (List UInt8) → (List (Int × UInt64 × (List UInt8) × Int)) → Int → Int → Option (List UInt8 × Int)) : Bool → Option (List UInt8 × Int)
 | x_36 =>
  if x_36 = true then
  (
   some ([], (-1))
  ) else (
   if (x_2.1 == 7) = true then
   (
    if (decide (x_2.2.1 < 20)) = true then
    (
     F.cbor_write_s_K9 x_2 a3 x_18 a0 a2 a1 rc true
    ) else (
     F.cbor_write_s_K9 x_2 a3 x_18 a0 a2 a1 rc (decide ((22 : UInt64) < x_2.2.1))
    )
   ) else (
    if (x_2.1 == 3) = true then
    (
     obind (F.unicode_utf8_ValidString x_2.2.2.1) fun x_42 =>
     if (!x_42) = true then
     (
      some ([], (-1))
     ) else (
      F.cbor_write_s_K8 x_2 a3 x_18 a0 a2 a1 rc ()
     )
    ) else (
     if (x_2.1 == 2) = true then
     (
      F.cbor_write_s_K8 x_2 a3 x_18 a0 a2 a1 rc ()
     ) else (
      if (x_2.1 == 4) = true then
      (
       F.cbor_write_s_K3 a3 x_18 a0 a2 x_2 a1 rc (UInt64.ofInt x_2.2.2.2)
      ) else (
       if (x_2.1 == 5) = true then
       (
        if ((Int.tmod x_2.2.2.2 2) != 0) = true then
        (
         some ([], (-1))
        ) else (
         olet (UInt64.ofInt (wI (Int.tdiv x_2.2.2.2 2))) fun x_44 =>
         F.cbor_write_s_K3 a3 x_18 a0 a2 x_2 a1 rc x_44
        )
       ) else (
        if (x_2.1 == 6) = true then
        (
         if (x_2.2.2.2 != 1) = true then
         (
          some ([], (-1))
         ) else (
          F.cbor_write_s_K3 a3 x_18 a0 a2 x_2 a1 rc x_2.2.1
         )
        ) else (
         F.cbor_write_s_K3 a3 x_18 a0 a2 x_2 a1 rc x_2.2.1
        )
       )
      )
     )
    )
   )
  )
noncomputable def F.cbor_write_s_K1 (x_2 : (Int × UInt64 × (List UInt8) × Int)) (a3 : Int) (a0 : List UInt8) (a2 : Int) (a1 : List (Int × UInt64 × (List UInt8) × Int)) (rc : (List UInt8) → (List (Int × UInt64 × (List UInt8) × Int)) → Int → Int → Option (List UInt8 × Int)) : Bool × Bool × Bool → Option (List UInt8 × Int)
 | (x_16, x_17, x_18) =>
  if (decide (x_2.1 < 0)) = true then
  (
   F.cbor_write_s_K2 x_2 a3 x_18 a0 a2 a1 rc true
  ) else (
   if (decide ((7 : Int) < x_2.1)) = true then
   (
    F.cbor_write_s_K2 x_2 a3 x_18 a0 a2 a1 rc true
   ) else (
    if (!x_16) = true then
    (
     if (x_2.2.2.1 != []) = true then
     (
      F.cbor_write_s_K2 x_2 a3 x_18 a0 a2 a1 rc true
     ) else (
      if (!x_17) = true then
      (
       if (x_2.2.1 != 0) = true then
       (
        F.cbor_write_s_K2 x_2 a3 x_18 a0 a2 a1 rc true
       ) else (
        if (!x_18) = true then
        (
         if (x_2.2.2.2 != 0) = true then
         (
          F.cbor_write_s_K2 x_2 a3 x_18 a0 a2 a1 rc true
         ) else (
          F.cbor_write_s_K2 x_2 a3 x_18 a0 a2 a1 rc (decide (x_2.2.2.2 < 0))
         )
        ) else (
         F.cbor_write_s_K2 x_2 a3 x_18 a0 a2 a1 rc (decide (x_2.2.2.2 < 0))
        )
       )
      ) else (
       if (!x_18) = true then
       (
        if (x_2.2.2.2 != 0) = true then
        (
         F.cbor_write_s_K2 x_2 a3 x_18 a0 a2 a1 rc true
        ) else (
         F.cbor_write_s_K2 x_2 a3 x_18 a0 a2 a1 rc (decide (x_2.2.2.2 < 0))
        )
       ) else (
        F.cbor_write_s_K2 x_2 a3 x_18 a0 a2 a1 rc (decide (x_2.2.2.2 < 0))
       )
      )
     )
    ) else (
     if (!x_17) = true then
     (
      if (x_2.2.1 != 0) = true then
      (
       F.cbor_write_s_K2 x_2 a3 x_18 a0 a2 a1 rc true
      ) else (
       if (!x_18) = true then
       (
        if (x_2.2.2.2 != 0) = true then
        (
         F.cbor_write_s_K2 x_2 a3 x_18 a0 a2 a1 rc true
        ) else (
         F.cbor_write_s_K2 x_2 a3 x_18 a0 a2 a1 rc (decide (x_2.2.2.2 < 0))
        )
       ) else (
        F.cbor_write_s_K2 x_2 a3 x_18 a0 a2 a1 rc (decide (x_2.2.2.2 < 0))
       )
      )
     ) else (
      if (!x_18) = true then
      (
       if (x_2.2.2.2 != 0) = true then
       (
        F.cbor_write_s_K2 x_2 a3 x_18 a0 a2 a1 rc true
       ) else (
        F.cbor_write_s_K2 x_2 a3 x_18 a0 a2 a1 rc (decide (x_2.2.2.2 < 0))
       )
      ) else (
       F.cbor_write_s_K2 x_2 a3 x_18 a0 a2 a1 rc (decide (x_2.2.2.2 < 0))
      )
     )
    )
   )
  )
noncomputable def F.cbor_write_s (rc : (List UInt8) → (List (Int × UInt64 × (List UInt8) × Int)) → Int → Int → Option (List UInt8 × Int)) (a0 : List UInt8) (a1 : List (Int × UInt64 × (List UInt8) × Int)) (a2 : Int) (a3 : Int) : Option (List UInt8 × Int) :=
 if (decide ((a1.length : Int) ≤ a2)) = true then
 (
  some ([], (-1))
 ) else (
  obind (getO a1 (a2 : Int)) fun x_2 =>
  if (x_2.1 == 2) = true then
  (
   if (decide (x_2.1 < 2)) = true then
   (
    if (decide ((4 : Int) ≤ x_2.1)) = true then
    (
     F.cbor_write_s_K1 x_2 a3 a0 a2 a1 rc (true, true, decide (x_2.1 ≤ 6))
    ) else (
     F.cbor_write_s_K1 x_2 a3 a0 a2 a1 rc (true, true, false)
    )
   ) else (
    if (decide ((4 : Int) ≤ x_2.1)) = true then
    (
     olet (decide ((5 : Int) < x_2.1)) fun x_9 =>
     F.cbor_write_s_K1 x_2 a3 a0 a2 a1 rc (true, x_9, decide (x_2.1 ≤ 6))
    ) else (
     olet (decide ((5 : Int) < x_2.1)) fun x_10 =>
     F.cbor_write_s_K1 x_2 a3 a0 a2 a1 rc (true, x_10, false)
    )
   )
  ) else (
   if (decide (x_2.1 < 2)) = true then
   (
    if (decide ((4 : Int) ≤ x_2.1)) = true then
    (
     F.cbor_write_s_K1 x_2 a3 a0 a2 a1 rc (x_2.1 == 3, true, decide (x_2.1 ≤ 6))
    ) else (
     F.cbor_write_s_K1 x_2 a3 a0 a2 a1 rc (x_2.1 == 3, true, false)
    )
   ) else (
    if (decide ((4 : Int) ≤ x_2.1)) = true then
    (
     olet (decide ((5 : Int) < x_2.1)) fun x_14 =>
     F.cbor_write_s_K1 x_2 a3 a0 a2 a1 rc (x_2.1 == 3, x_14, decide (x_2.1 ≤ 6))
    ) else (
     olet (decide ((5 : Int) < x_2.1)) fun x_15 =>
     F.cbor_write_s_K1 x_2 a3 a0 a2 a1 rc (x_2.1 == 3, x_15, false)
    )
   )
  )
 )
noncomputable def F.cbor_write_n : Nat → (List UInt8) → (List (Int × UInt64 × (List UInt8) × Int)) → Int → Int → Option (List UInt8 × Int)
 | 0 => fun _ _ _ _ => none
 | n + 1 => F.cbor_write_s (F.cbor_write_n n)
noncomputable def F.cbor_write (a0 : List UInt8) (a1 : List (Int × UInt64 × (List UInt8) × Int)) (a2 : Int) (a3 : Int) : Option (List UInt8 × Int) := F.cbor_write_n 64 a0 a1 a2 a3
noncomputable def F.cbor_Print_K1 (x_2 : List UInt8 × Int) : Bool → Option (List UInt8 × Int)
 | x_6 =>
  if x_6 = true then
  (
   some ([], 220)
  ) else (
   if (decide ((65536 : Int) < (x_2.1.length : Int))) = true then
   (
    some ([], 10)
   ) else (
    some (x_2.1, 0)
   )
  )
noncomputable def F.cbor_Print (a0 : List (Int × UInt64 × (List UInt8) × Int)) : Option (List UInt8 × Int) :=
 obind (F.cbor_write [] a0 0 0) fun x_2 =>
 if (x_2.2 != (a0.length : Int)) = true then
 (
  F.cbor_Print_K1 x_2 true
 ) else (
  F.cbor_Print_K1 x_2 (decide (x_2.2 ≤ 0))
 )
noncomputable def F.cbor_Shaped (a0 : List (Int × UInt64 × (List UInt8) × Int)) : Option (Bool) :=
 obind (F.cbor_write [] a0 0 0) fun x_2 =>
 if (x_2.2 == (a0.length : Int)) = true then
 (
  some (decide ((0 : Int) < x_2.2))
 ) else (
  some false
 )
noncomputable def F.cbor_Behind_K1 (a0 : List (Int × UInt64 × (List UInt8) × Int)) (a1 : Int) : Bool → Option (Int)
 | x_4 =>
  if x_4 = true then
  (
   some (-1)
  ) else (
   obind (F.cbor_behind a0 a1) fun x_6 =>
   some x_6
  )
noncomputable def F.cbor_Behind (a0 : List (Int × UInt64 × (List UInt8) × Int)) (a1 : Int) : Option (Int) :=
 if (decide (a1 < 0)) = true then
 (
  F.cbor_Behind_K1 a0 a1 true
 ) else (
  if (decide ((a0.length : Int) ≤ a1)) = true then
  (
   F.cbor_Behind_K1 a0 a1 true
  ) else (
   obind (F.cbor_Shaped a0) fun x_3 =>
   F.cbor_Behind_K1 a0 a1 (!x_3)
  )
 )
noncomputable def F.cbor_Member_L1 (a0 : List (Int × UInt64 × (List UInt8) × Int)) (a2 : List (Int × UInt64 × (List UInt8) × Int)) (x_8 : (Int × UInt64 × (List UInt8) × Int)) : Int × Int → Option ((Int × Int) ⊕ (Int))
 | (x_9, x_10) =>
  if (decide (x_10 < (wI (Int.tdiv x_8.2.2.2 2)))) = true then
  (
   obind (F.cbor_behind a0 x_9) fun x_14 =>
   obind (slO a0 (x_9 : Int) (x_14 : Int)) fun x_15 =>
   obind (F.cbor_same x_15 a2) fun x_16 =>
   if x_16 = true then
   (
    oinr (
     some x_14
    )
   ) else (
    obind (F.cbor_behind a0 x_14) fun x_17 =>
    oinl (x_17, wI (x_10 + 1))
   )
  ) else (
   oinr (
    some (-1)
   )
  )
noncomputable def F.cbor_Member_K1 (a0 : List (Int × UInt64 × (List UInt8) × Int)) (a1 : Int) (a2 : List (Int × UInt64 × (List UInt8) × Int)) : Bool → Option (Int)
 | x_6 =>
  if x_6 = true then
  (
   some (-1)
  ) else (
   obind (getO a0 (a1 : Int)) fun x_8 =>
   loop (F.cbor_Member_L1 a0 a2 x_8) (wI (a1 + 1), 0)
  )
noncomputable def F.cbor_Member (a0 : List (Int × UInt64 × (List UInt8) × Int)) (a1 : Int) (a2 : List (Int × UInt64 × (List UInt8) × Int)) : Option (Int) :=
 if (decide (a1 < 0)) = true then
 (
  F.cbor_Member_K1 a0 a1 a2 true
 ) else (
  if (decide ((a0.length : Int) ≤ a1)) = true then
  (
   F.cbor_Member_K1 a0 a1 a2 true
  ) else (
   obind (getO a0 (a1 : Int)) fun x_3 =>
   if (x_3.1 != 5) = true then
   (
    F.cbor_Member_K1 a0 a1 a2 true
   ) else (
    obind (F.cbor_Shaped a0) fun x_5 =>
    F.cbor_Member_K1 a0 a1 a2 (!x_5)
   )
  )
 )
end Go.Gk
