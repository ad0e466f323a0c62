/- Plain functions of package cbor, written by a program of ours from what the seat holds of it. -/
import Derived.Test.YtcdneplfgppapaaDoorGkB
import Derived.Test.YtcdneplfgppapaaDoorGkS
import Derived.Test.YtcdneplfgppapaaDoorGkFman
import Derived.Test.YtcdneplfgppapaaDoorGkFlib
import Derived.Test.YtcdneplfgppapaaDoorGkFman
set_option linter.unusedVariables false
namespace Go.Gk
-- Go: signet/cbor.width
noncomputable def F.cbor_width (a0 : UInt64) : Option (Int) :=
  if (decide (a0 < 24)) = true then
  (
    some 0
  ) else (
    if (decide (a0 < 256)) = true then
    (
      some 1
    ) else (
      if (decide (a0 < 65536)) = true then
      (
        some 2
      ) else (
        if (decide (a0 < 4294967296)) = true then
        (
          some 4
        ) else (
          some 8
        )
      )
    )
  )

-- Go: (*signet/cbor.reader).argument
noncomputable def F.cbor_reader_argument_L1 (a0_1 : Int) (a0_2 : List (Int × UInt64 × (List UInt8) × Int)) (a0_3 : List (Int × Int × UInt64 × Bool × Int × Option (Nat × Nat))) (x_7 : Int) (x_17 : Int) (x_20 : List UInt8) : UInt64 × Int → Option ((UInt64 × Int) ⊕ (Int × UInt64 × Option (Int × Int) × Int × List (Int × UInt64 × (List UInt8) × Int) × List (Int × Int × UInt64 × Bool × Int × Option (Nat × Nat))))
  | (x_21, x_22) =>
    if (decide (x_22 < (x_20.length : Int))) = true then
    (
      obind (getO x_20 (x_22 : Int)) fun x_26 =>
      olet ((shl64 x_21 8) ||| x_26.toUInt64) fun x_27 =>
      oinl (x_27, wI (x_22 + 1))
    ) else (
      oinr (
        obind (F.cbor_width x_21) fun x_28 =>
        if (x_28 != x_17) = true then
        (
          some (0, 0, some (220, a0_1), wI ((wI (a0_1 + 1)) + x_17), a0_2, a0_3)
        ) else (
          some (x_7, x_21, none, wI ((wI (a0_1 + 1)) + x_17), a0_2, a0_3)
        )
      )
    )

noncomputable def F.cbor_reader_argument_K1 (a0_0 : List UInt8) (a0_1 : Int) (a0_2 : List (Int × UInt64 × (List UInt8) × Int)) (a0_3 : List (Int × Int × UInt64 × Bool × Int × Option (Nat × Nat))) (x_7 : Int) (x_8 : Int) : Bool → Option (Int × UInt64 × Option (Int × Int) × Int × List (Int × UInt64 × (List UInt8) × Int) × List (Int × Int × UInt64 × Bool × Int × Option (Nat × Nat)))
  | x_12 =>
    if x_12 = true then
    (
      some (0, 0, some (220, a0_1), a0_1, a0_2, a0_3)
    ) else (
      if (decide (x_8 < 24)) = true then
      (
        some (x_7, UInt64.ofInt x_8, none, wI (a0_1 + 1), a0_2, a0_3)
      ) else (
        grd (0 ≤ (wI (x_8 - 24))) <|
        olet (iShl 1 (((wI (x_8 - 24))).toNat)) fun x_17 =>
        if (decide ((wI ((a0_0.length : Int) - (wI (a0_1 + 1)))) < x_17)) = true then
        (
          some (0, 0, some (220, (a0_0.length : Int)), wI (a0_1 + 1), a0_2, a0_3)
        ) else (
          obind (slO a0_0 (wI (a0_1 + 1) : Int) (wI ((wI (a0_1 + 1)) + x_17) : Int)) fun x_20 =>
          loop (F.cbor_reader_argument_L1 a0_1 a0_2 a0_3 x_7 x_17 x_20) (0, 0)
        )
      )
    )

noncomputable def F.cbor_reader_argument (a0_0 : List UInt8) (a0_1 : Int) (a0_2 : List (Int × UInt64 × (List UInt8) × Int)) (a0_3 : List (Int × Int × UInt64 × Bool × Int × Option (Nat × Nat))) : Option (Int × UInt64 × Option (Int × Int) × Int × List (Int × UInt64 × (List UInt8) × Int) × List (Int × Int × UInt64 × Bool × Int × Option (Nat × Nat))) :=
  if (a0_1 == (a0_0.length : Int)) = true then
  (
    some (0, 0, some (220, a0_1), a0_1, a0_2, a0_3)
  ) else (
    obind (getO a0_0 (a0_1 : Int)) fun x_6 =>
    olet (((shr8 x_6 5).toNat : Int)) fun x_7 =>
    olet (((x_6 &&& 31).toNat : Int)) fun x_8 =>
    if (decide ((27 : Int) < x_8)) = true then
    (
      F.cbor_reader_argument_K1 a0_0 a0_1 a0_2 a0_3 x_7 x_8 true
    ) else (
      if (x_7 == 7) = true then
      (
        if (decide (x_8 < 20)) = true then
        (
          F.cbor_reader_argument_K1 a0_0 a0_1 a0_2 a0_3 x_7 x_8 true
        ) else (
          F.cbor_reader_argument_K1 a0_0 a0_1 a0_2 a0_3 x_7 x_8 (decide ((22 : Int) < x_8))
        )
      ) else (
        F.cbor_reader_argument_K1 a0_0 a0_1 a0_2 a0_3 x_7 x_8 false
      )
    )
  )

-- Go: (*signet/cbor.reader).done
noncomputable def F.cbor_reader_done_K1 (a0_1 : Int) (x_7 : List (Int × UInt64 × (List UInt8) × Int)) : (List (Int × Int × UInt64 × Bool × Int × Option (Nat × Nat))) → Option (Option (Int × Int) × Int × List (Int × UInt64 × (List UInt8) × Int) × List (Int × Int × UInt64 × Bool × Int × Option (Nat × Nat)))
  | x_28 =>
    some (none, a0_1, x_7, x_28)

noncomputable def F.cbor_reader_done_K2 (a0_1 : Int) (a0_3 : List (Int × Int × UInt64 × Bool × Int × Option (Nat × Nat))) (x_4 : (Int × Int × UInt64 × Bool × Int × Option (Nat × Nat))) (x_7 : List (Int × UInt64 × (List UInt8) × Int)) : Bool → Option (Option (Int × Int) × Int × List (Int × UInt64 × (List UInt8) × Int) × List (Int × Int × UInt64 × Bool × Int × Option (Nat × Nat)))
  | x_19 =>
    if x_19 = true then
    (
      some (some (220, x_4.2.2.2.2.1), a0_1, x_7, a0_3)
    ) else (
      olet (a0_3.set (wI ((a0_3.length : Int) - 1) : Int).toNat (x_4.1, x_4.2.1, x_4.2.2.1, x_4.2.2.2.1, x_4.2.2.2.2.1, (some ((x_4.2.2.2.2.1 : Int).toNat, (a0_1 : Int).toNat)))) fun x_23 =>
      olet (x_23.set (wI ((a0_3.length : Int) - 1) : Int).toNat (x_4.1, x_4.2.1, x_4.2.2.1, true, x_4.2.2.2.2.1, (some ((x_4.2.2.2.2.1 : Int).toNat, (a0_1 : Int).toNat)))) fun x_24 =>
      F.cbor_reader_done_K1 a0_1 x_7 x_24
    )

noncomputable def F.cbor_reader_done (a0_0 : List UInt8) (a0_1 : Int) (a0_2 : List (Int × UInt64 × (List UInt8) × Int)) (a0_3 : List (Int × Int × UInt64 × Bool × Int × Option (Nat × Nat))) : Option (Option (Int × Int) × Int × List (Int × UInt64 × (List UInt8) × Int) × List (Int × Int × UInt64 × Bool × Int × Option (Nat × Nat))) :=
  if ((a0_3.length : Int) == 0) = true then
  (
    some (none, a0_1, a0_2, a0_3)
  ) else (
    obind (getO a0_3 (wI ((a0_3.length : Int) - 1) : Int)) fun x_4 =>
    obind (getO a0_2 (x_4.1 : Int)) fun x_5 =>
    obind (getO a0_2 (x_4.1 : Int)) fun x_6 =>
    olet (a0_2.set (x_4.1 : Int).toNat (x_6.1, x_6.2.1, x_6.2.2.1, wI (x_5.2.2.2 + 1))) fun x_7 =>
    if (x_4.2.1 != 5) = true then
    (
      olet (a0_3.set (wI ((a0_3.length : Int) - 1) : Int).toNat (x_4.1, x_4.2.1, x_4.2.2.1 - 1, x_4.2.2.2.1, x_4.2.2.2.2.1, x_4.2.2.2.2.2)) fun x_8 =>
      F.cbor_reader_done_K1 a0_1 x_7 x_8
    ) else (
      if x_4.2.2.2.1 = true then
      (
        olet (a0_3.set (wI ((a0_3.length : Int) - 1) : Int).toNat (x_4.1, x_4.2.1, x_4.2.2.1 - 1, x_4.2.2.2.1, x_4.2.2.2.2.1, x_4.2.2.2.2.2)) fun x_9 =>
        olet (x_9.set (wI ((a0_3.length : Int) - 1) : Int).toNat (x_4.1, x_4.2.1, x_4.2.2.1 - 1, false, x_4.2.2.2.2.1, x_4.2.2.2.2.2)) fun x_10 =>
        olet (x_10.set (wI ((a0_3.length : Int) - 1) : Int).toNat (x_4.1, x_4.2.1, x_4.2.2.1 - 1, false, a0_1, x_4.2.2.2.2.2)) fun x_11 =>
        F.cbor_reader_done_K1 a0_1 x_7 x_11
      ) else (
        obind (slO a0_0 (x_4.2.2.2.2.1 : Int) (a0_1 : Int)) fun x_12 =>
        grd (a0_0 ≠ []) <|
        if x_4.2.2.2.2.2.isSome = true then
        (
          obind x_4.2.2.2.2.2 fun x_16 =>
          grd (x_16.1 ≤ x_16.2 ∧ x_16.2 ≤ a0_0.length) <|
          obind (F.slices_Compare_byte_byte (vwL a0_0 x_16) x_12) fun x_18 =>
          F.cbor_reader_done_K2 a0_1 a0_3 x_4 x_7 (decide ((0 : Int) ≤ x_18))
        ) else (
          F.cbor_reader_done_K2 a0_1 a0_3 x_4 x_7 false
        )
      )
    )
  )

-- Go: (*signet/cbor.reader).item
noncomputable def F.cbor_reader_item_K1 (a0_0 : List UInt8) (x_4 : Int × UInt64 × Option (Int × Int) × Int × List (Int × UInt64 × (List UInt8) × Int) × List (Int × Int × UInt64 × Bool × Int × Option (Nat × Nat))) : Int × UInt64 × List UInt8 → Option (Option (Int × Int) × Int × List (Int × UInt64 × (List UInt8) × Int) × List (Int × Int × UInt64 × Bool × Int × Option (Nat × Nat)))
  | (x_56, x_57, x_58) =>
    obind (apO 40 x_4.2.2.2.2.1 ([(x_4.1, x_57, x_58, 0)] : List (Int × UInt64 × (List UInt8) × Int))) fun x_62 =>
    obind (F.cbor_reader_done a0_0 x_56 x_62 x_4.2.2.2.2.2) fun x_65 =>
    ocase x_65.1 (
      some (none, x_65.2.1, x_65.2.2.1, x_65.2.2.2)
    ) (fun x_73 =>
      some (some (x_73.1, x_73.2), x_65.2.1, x_65.2.2.1, x_65.2.2.2)
    )

noncomputable def F.cbor_reader_item_K4 (a0_1 : Int) (x_4 : Int × UInt64 × Option (Int × Int) × Int × List (Int × UInt64 × (List UInt8) × Int) × List (Int × Int × UInt64 × Bool × Int × Option (Nat × Nat))) (x_26 : List UInt8) (a0_0 : List UInt8) : Bool → Option (Option (Int × Int) × Int × List (Int × UInt64 × (List UInt8) × Int) × List (Int × Int × UInt64 × Bool × Int × Option (Nat × Nat)))
  | x_29 =>
    if x_29 = true then
    (
      some (some (32, a0_1), wI (x_4.2.2.2.1 + (wI (x_4.2.1.toNat : Int))), x_4.2.2.2.2.1, x_4.2.2.2.2.2)
    ) else (
      F.cbor_reader_item_K1 a0_0 x_4 (wI (x_4.2.2.2.1 + (wI (x_4.2.1.toNat : Int))), 0, x_26)
    )

noncomputable def F.cbor_reader_item_K5 (x_4 : Int × UInt64 × Option (Int × Int) × Int × List (Int × UInt64 × (List UInt8) × Int) × List (Int × Int × UInt64 × Bool × Int × Option (Nat × Nat))) : UInt64 × UInt64 → Option (Option (Int × Int) × Int × List (Int × UInt64 × (List UInt8) × Int) × List (Int × Int × UInt64 × Bool × Int × Option (Nat × Nat)))
  | (x_40, x_41) =>
    obind (apO 40 x_4.2.2.2.2.1 ([(x_4.1, x_40, [], 0)] : List (Int × UInt64 × (List UInt8) × Int))) fun x_45 =>
    obind (apO 64 x_4.2.2.2.2.2 ([((x_4.2.2.2.2.1.length : Int), x_4.1, x_41, false, x_4.2.2.2.1, none)] : List (Int × Int × UInt64 × Bool × Int × Option (Nat × Nat)))) fun x_50 =>
    some (none, x_4.2.2.2.1, x_45, x_50)

noncomputable def F.cbor_reader_item_K3 (a0_0 : List UInt8) (a0_1 : Int) (x_4 : Int × UInt64 × Option (Int × Int) × Int × List (Int × UInt64 × (List UInt8) × Int) × List (Int × Int × UInt64 × Bool × Int × Option (Nat × Nat))) : Bool → Option (Option (Int × Int) × Int × List (Int × UInt64 × (List UInt8) × Int) × List (Int × Int × UInt64 × Bool × Int × Option (Nat × Nat)))
  | x_22 =>
    if x_22 = true then
    (
      if (decide ((UInt64.ofInt (wI ((a0_0.length : Int) - x_4.2.2.2.1))) < x_4.2.1)) = true then
      (
        some (some (220, (a0_0.length : Int)), x_4.2.2.2.1, x_4.2.2.2.2.1, x_4.2.2.2.2.2)
      ) else (
        obind (slO a0_0 (x_4.2.2.2.1 : Int) (wI (x_4.2.2.2.1 + (wI (x_4.2.1.toNat : Int))) : Int)) fun x_26 =>
        if (x_4.1 == 3) = true then
        (
          obind (F.unicode_utf8_ValidString x_26) fun x_28 =>
          F.cbor_reader_item_K4 a0_1 x_4 x_26 a0_0 (!x_28)
        ) else (
          F.cbor_reader_item_K4 a0_1 x_4 x_26 a0_0 false
        )
      )
    ) else (
      if ((x_4.2.2.2.2.2.length : Int) == 32) = true then
      (
        some (some (11, a0_1), x_4.2.2.2.1, x_4.2.2.2.2.1, x_4.2.2.2.2.2)
      ) else (
        if (x_4.1 == 6) = true then
        (
          F.cbor_reader_item_K5 x_4 (x_4.2.1, 1)
        ) else (
          F.cbor_reader_item_K5 x_4 (0, x_4.2.1)
        )
      )
    )

noncomputable def F.cbor_reader_item_K2 (x_4 : Int × UInt64 × Option (Int × Int) × Int × List (Int × UInt64 × (List UInt8) × Int) × List (Int × Int × UInt64 × Bool × Int × Option (Nat × Nat))) (a0_0 : List UInt8) (a0_1 : Int) : Bool → Option (Option (Int × Int) × Int × List (Int × UInt64 × (List UInt8) × Int) × List (Int × Int × UInt64 × Bool × Int × Option (Nat × Nat)))
  | x_19 =>
    if x_19 = true then
    (
      F.cbor_reader_item_K1 a0_0 x_4 (x_4.2.2.2.1, x_4.2.1, [])
    ) else (
      if (x_4.1 == 2) = true then
      (
        F.cbor_reader_item_K3 a0_0 a0_1 x_4 (x_4.1 == 2)
      ) else (
        F.cbor_reader_item_K3 a0_0 a0_1 x_4 (x_4.1 == 3)
      )
    )

noncomputable def F.cbor_reader_item (a0_0 : List UInt8) (a0_1 : Int) (a0_2 : List (Int × UInt64 × (List UInt8) × Int)) (a0_3 : List (Int × Int × UInt64 × Bool × Int × Option (Nat × Nat))) : Option (Option (Int × Int) × Int × List (Int × UInt64 × (List UInt8) × Int) × List (Int × Int × UInt64 × Bool × Int × Option (Nat × Nat))) :=
  obind (F.cbor_reader_argument a0_0 a0_1 a0_2 a0_3) fun x_4 =>
  ocase x_4.2.2.1 (
    if (x_4.1 == 0) = true then
    (
      F.cbor_reader_item_K2 x_4 a0_0 a0_1 (x_4.1 == 0)
    ) else (
      if (x_4.1 == 1) = true then
      (
        F.cbor_reader_item_K2 x_4 a0_0 a0_1 (x_4.1 == 1)
      ) else (
        F.cbor_reader_item_K2 x_4 a0_0 a0_1 (x_4.1 == 7)
      )
    )
  ) (fun x_12 =>
    some (some (x_12.1, x_12.2), x_4.2.2.2.1, x_4.2.2.2.2.1, x_4.2.2.2.2.2)
  )

-- Go: signet/cbor.Parse
noncomputable def F.cbor_Parse_K1 (a0 : List UInt8) (x_24 : Int) (x_25 : List (Int × UInt64 × (List UInt8) × Int)) (x_28 : List (Int × Int × UInt64 × Bool × Int × Option (Nat × Nat))) : Bool → Option ((Int × (List (Int × UInt64 × (List UInt8) × Int)) × (List (Int × Int × UInt64 × Bool × Int × Option (Nat × Nat)))) ⊕ ((Int × (List (Int × UInt64 × (List UInt8) × Int)) × (List (Int × Int × UInt64 × Bool × Int × Option (Nat × Nat)))) ⊕ (List (Int × UInt64 × (List UInt8) × Int) × Int × Int)))
  | x_36 =>
    if x_36 = true then
    (
      grd (0 ≤ (wI ((x_28.length : Int) - 1) : Int) ∧ (wI ((x_28.length : Int) - 1) : Int).toNat ≤ x_28.length) <|
      obind (F.cbor_reader_done a0 x_24 x_25 (x_28.take ((wI ((x_28.length : Int) - 1) : Int).toNat))) fun x_39 =>
      ocase x_39.1 (
        oinl (x_39.2.1, x_39.2.2.1, x_39.2.2.2)
      ) (fun x_47 =>
        oinr (
          oinr (
            some ([], x_47.1, x_47.2)
          )
        )
      )
    ) else (
      oinr (
        if ((x_28.length : Int) == 0) = true then
        (
          oinr (
            if (decide (x_24 < (a0.length : Int))) = true then
            (
              some ([], 220, x_24)
            ) else (
              some (x_25, 0, 0)
            )
          )
        ) else (
          oinl (x_24, x_25, x_28)
        )
      )
    )

noncomputable def F.cbor_Parse_L2 (a0 : List UInt8) : Int × (List (Int × UInt64 × (List UInt8) × Int)) × (List (Int × Int × UInt64 × Bool × Int × Option (Nat × Nat))) → Option ((Int × (List (Int × UInt64 × (List UInt8) × Int)) × (List (Int × Int × UInt64 × Bool × Int × Option (Nat × Nat)))) ⊕ ((Int × (List (Int × UInt64 × (List UInt8) × Int)) × (List (Int × Int × UInt64 × Bool × Int × Option (Nat × Nat)))) ⊕ (List (Int × UInt64 × (List UInt8) × Int) × Int × Int)))
  | (x_24, x_25, x_28) =>
    if (decide ((0 : Int) < (x_28.length : Int))) = true then
    (
      obind (getO x_28 (wI ((x_28.length : Int) - 1) : Int)) fun x_35 =>
      F.cbor_Parse_K1 a0 x_24 x_25 x_28 (x_35.2.2.1 == 0)
    ) else (
      F.cbor_Parse_K1 a0 x_24 x_25 x_28 false
    )

noncomputable def F.cbor_Parse_L1 (a0 : List UInt8) : Int × (List (Int × UInt64 × (List UInt8) × Int)) × (List (Int × Int × UInt64 × Bool × Int × Option (Nat × Nat))) → Option ((Int × (List (Int × UInt64 × (List UInt8) × Int)) × (List (Int × Int × UInt64 × Bool × Int × Option (Nat × Nat)))) ⊕ (List (Int × UInt64 × (List UInt8) × Int) × Int × Int))
  | (x_3, x_4, x_7) =>
    obind (F.cbor_reader_item a0 x_3 x_4 x_7) fun x_13 =>
    ocase x_13.1 (
      loop (F.cbor_Parse_L2 a0) (x_13.2.1, x_13.2.2.1, x_13.2.2.2)
    ) (fun x_21 =>
      oinr (
        some ([], x_21.1, x_21.2)
      )
    )

noncomputable def F.cbor_Parse (a0 : List UInt8) : Option (List (Int × UInt64 × (List UInt8) × Int) × Int × Int) :=
  if (decide ((65536 : Int) < (a0.length : Int))) = true then
  (
    some ([], 10, 0)
  ) else (
    loop (F.cbor_Parse_L1 a0) (0, [], [])
  )


end Go.Gk
