import Derived.Test.YtldhmmipbogabaaGreatDoorGkS
import Derived.Test.YtldhmmipbogabaaGreatDoorGkFlib
set_option linter.unusedVariables false
set_option linter.unusedSimpArgs false
set_option linter.unusedVariables false
namespace Go.Gk
noncomputable def F.b64_spell_K1  : List UInt8 → Option (List UInt8)
 | x_49 =>
  some x_49
noncomputable def F.b64_spell_L1 (a1 : List UInt8) : List UInt8 × List UInt8 → Option ((List UInt8 × List UInt8) ⊕ (List UInt8))
 | (x_4, x_7) =>
  if (decide ((3 : Int) ≤ (x_4.length : Int))) = true then
  (
   obind (getO x_4 (0 : Int)) fun x_13 =>
   obind (getO x_4 (1 : Int)) fun x_14 =>
   obind (getO x_4 (2 : Int)) fun x_15 =>
   obind (getO a1 ((shr64 (((shl64 x_13.toUInt64 16) ||| (shl64 x_14.toUInt64 8)) ||| x_15.toUInt64) 18).toNat : Int)) fun x_16 =>
   obind (getO a1 (((shr64 (((shl64 x_13.toUInt64 16) ||| (shl64 x_14.toUInt64 8)) ||| x_15.toUInt64) 12) &&& 63).toNat : Int)) fun x_17 =>
   obind (getO a1 (((shr64 (((shl64 x_13.toUInt64 16) ||| (shl64 x_14.toUInt64 8)) ||| x_15.toUInt64) 6) &&& 63).toNat : Int)) fun x_18 =>
   obind (getO a1 (((((shl64 x_13.toUInt64 16) ||| (shl64 x_14.toUInt64 8)) ||| x_15.toUInt64) &&& 63).toNat : Int)) fun x_19 =>
   obind (apO 1 x_7 [x_16, x_17, x_18, x_19]) fun x_22 =>
   obind (drO x_4 (3 : Int)) fun x_25 =>
   oinl (x_25, x_22)
  ) else (
   oinr (
    if ((x_4.length : Int) == 2) = true then
    (
     obind (getO x_4 (0 : Int)) fun x_26 =>
     obind (getO a1 ((shr8 x_26 2).toNat : Int)) fun x_27 =>
     obind (getO x_4 (0 : Int)) fun x_28 =>
     obind (getO x_4 (1 : Int)) fun x_29 =>
     obind (getO a1 (((shl8 (x_28 &&& 3) 4) ||| (shr8 x_29 4)).toNat : Int)) fun x_30 =>
     obind (getO x_4 (1 : Int)) fun x_31 =>
     obind (getO a1 ((shl8 (x_31 &&& 15) 2).toNat : Int)) fun x_32 =>
     obind (apO 1 x_7 [x_27, x_30, x_32]) fun x_35 =>
     F.b64_spell_K1 x_35
    ) else (
     if ((x_4.length : Int) == 1) = true then
     (
      obind (getO x_4 (0 : Int)) fun x_38 =>
      obind (getO a1 ((shr8 x_38 2).toNat : Int)) fun x_39 =>
      obind (getO x_4 (0 : Int)) fun x_40 =>
      obind (getO a1 ((shl8 (x_40 &&& 3) 4).toNat : Int)) fun x_41 =>
      obind (apO 1 x_7 [x_39, x_41]) fun x_44 =>
      F.b64_spell_K1 x_44
     ) else (
      F.b64_spell_K1 x_7
     )
    )
   )
  )
noncomputable def F.b64_spell (a0 : List UInt8) (a1 : List UInt8) : Option (List UInt8) :=
 obind (mkO 1 (0 : Int) (wI ((wI (Int.tdiv (wI ((a0.length : Int) + 2)) 3)) * 4) : Int) (0 : UInt8)) fun x_1 =>
 loop (F.b64_spell_L1 a1) (a0, x_1)
noncomputable def F.b64_Encode (a0 : List UInt8) : Option (List UInt8) :=
 obind (F.b64_spell a0 [65, 66, 67, 68, 69, 70, 71, 72, 73, 74, 75, 76, 77, 78, 79, 80, 81, 82, 83, 84, 85, 86, 87, 88, 89, 90, 97, 98, 99, 100, 101, 102, 103, 104, 105, 106, 107, 108, 109, 110, 111, 112, 113, 114, 115, 116, 117, 118, 119, 120, 121, 122, 48, 49, 50, 51, 52, 53, 54, 55, 56, 57, 45, 95]) fun x_1 =>
 some x_1
noncomputable def F.b64_EncodeStd_K1  : List UInt8 → Option (List UInt8)
 | x_20 =>
  some x_20
noncomputable def F.b64_EncodeStd_K2  : List UInt8 → Option (List UInt8)
 | x_11 =>
  obind (apO 1 x_11 [61]) fun x_17 =>
  F.b64_EncodeStd_K1 x_17
noncomputable def F.b64_EncodeStd (a0 : List UInt8) : Option (List UInt8) :=
 obind (F.b64_spell a0 [65, 66, 67, 68, 69, 70, 71, 72, 73, 74, 75, 76, 77, 78, 79, 80, 81, 82, 83, 84, 85, 86, 87, 88, 89, 90, 97, 98, 99, 100, 101, 102, 103, 104, 105, 106, 107, 108, 109, 110, 111, 112, 113, 114, 115, 116, 117, 118, 119, 120, 121, 122, 48, 49, 50, 51, 52, 53, 54, 55, 56, 57, 43, 47]) fun x_1 =>
 if ((Int.tmod (x_1.length : Int) 4) == 2) = true then
 (
  obind (apO 1 x_1 [61]) fun x_6 =>
  F.b64_EncodeStd_K2 x_6
 ) else (
  if ((Int.tmod (x_1.length : Int) 4) == 3) = true then
  (
   F.b64_EncodeStd_K2 x_1
  ) else (
   F.b64_EncodeStd_K1 x_1
  )
 )
noncomputable def F.b64_number (a0 : UInt8) (a1 : List UInt8) : Option (UInt64) :=
 obind (F.strings_IndexByte a1 a0) fun x_1 =>
 some (UInt64.ofInt x_1)
noncomputable def F.b64_read_K1 (a1 : List UInt8) (x_4 : List UInt8) (x_5 : List UInt8) : UInt64 → Option (List UInt8 × Bool)
 | x_29 =>
  obind (getO x_4 (0 : Int)) fun x_31 =>
  obind (F.b64_number x_31 a1) fun x_32 =>
  obind (getO x_4 (1 : Int)) fun x_33 =>
  obind (F.b64_number x_33 a1) fun x_34 =>
  obind (apO 1 x_5 [(shr64 (x_29 ||| ((shl64 x_32 18) ||| (shl64 x_34 12))) 16).toUInt8]) fun x_37 =>
  if ((x_4.length : Int) == 3) = true then
  (
   obind (apO 1 x_37 [(shr64 (x_29 ||| ((shl64 x_32 18) ||| (shl64 x_34 12))) 8).toUInt8]) fun x_42 =>
   some (x_42, ((x_29 ||| ((shl64 x_32 18) ||| (shl64 x_34 12))) &&& 255) == 0)
  ) else (
   some (x_37, ((x_29 ||| ((shl64 x_32 18) ||| (shl64 x_34 12))) &&& 65535) == 0)
  )
noncomputable def F.b64_read_L1 (a1 : List UInt8) : List UInt8 × List UInt8 → Option ((List UInt8 × List UInt8) ⊕ (List UInt8 × Bool))
 | (x_4, x_5) =>
  if (decide ((4 : Int) ≤ (x_4.length : Int))) = true then
  (
   obind (getO x_4 (0 : Int)) fun x_11 =>
   obind (F.b64_number x_11 a1) fun x_12 =>
   obind (getO x_4 (1 : Int)) fun x_13 =>
   obind (F.b64_number x_13 a1) fun x_14 =>
   obind (getO x_4 (2 : Int)) fun x_15 =>
   obind (F.b64_number x_15 a1) fun x_16 =>
   obind (getO x_4 (3 : Int)) fun x_17 =>
   obind (F.b64_number x_17 a1) fun x_18 =>
   obind (apO 1 x_5 [(shr64 ((((shl64 x_12 18) ||| (shl64 x_14 12)) ||| (shl64 x_16 6)) ||| x_18) 16).toUInt8, (shr64 ((((shl64 x_12 18) ||| (shl64 x_14 12)) ||| (shl64 x_16 6)) ||| x_18) 8).toUInt8, ((((shl64 x_12 18) ||| (shl64 x_14 12)) ||| (shl64 x_16 6)) ||| x_18).toUInt8]) fun x_21 =>
   obind (drO x_4 (4 : Int)) fun x_24 =>
   oinl (x_24, x_21)
  ) else (
   oinr (
    if ((x_4.length : Int) == 3) = true then
    (
     obind (getO x_4 (2 : Int)) fun x_25 =>
     obind (F.b64_number x_25 a1) fun x_26 =>
     F.b64_read_K1 a1 x_4 x_5 (shl64 x_26 6)
    ) else (
     if ((x_4.length : Int) == 2) = true then
     (
      F.b64_read_K1 a1 x_4 x_5 0
     ) else (
      some (x_5, true)
     )
    )
   )
  )
noncomputable def F.b64_read (a0 : List UInt8) (a1 : List UInt8) : Option (List UInt8 × Bool) :=
 obind (mkO 1 (0 : Int) (wI ((wI ((wI (Int.tdiv (a0.length : Int) 4)) * 3)) + 2) : Int) (0 : UInt8)) fun x_1 =>
 loop (F.b64_read_L1 a1) (a0, x_1)
noncomputable def F.b64_Decode_L1 (a0 : List UInt8) : Int → Option ((Int) ⊕ (List UInt8 × Int × Int))
 | x_1 =>
  if (decide (x_1 < (a0.length : Int))) = true then
  (
   obind (getO a0 (x_1 : Int)) fun x_5 =>
   obind (F.strings_IndexByte [65, 66, 67, 68, 69, 70, 71, 72, 73, 74, 75, 76, 77, 78, 79, 80, 81, 82, 83, 84, 85, 86, 87, 88, 89, 90, 97, 98, 99, 100, 101, 102, 103, 104, 105, 106, 107, 108, 109, 110, 111, 112, 113, 114, 115, 116, 117, 118, 119, 120, 121, 122, 48, 49, 50, 51, 52, 53, 54, 55, 56, 57, 45, 95] x_5) fun x_6 =>
   if (decide (x_6 < 0)) = true then
   (
    oinr (
     some ([], 20, x_1)
    )
   ) else (
    oinl (wI (x_1 + 1))
   )
  ) else (
   oinr (
    if ((Int.tmod (a0.length : Int) 4) == 1) = true then
    (
     some ([], 21, (a0.length : Int))
    ) else (
     obind (F.b64_read a0 [65, 66, 67, 68, 69, 70, 71, 72, 73, 74, 75, 76, 77, 78, 79, 80, 81, 82, 83, 84, 85, 86, 87, 88, 89, 90, 97, 98, 99, 100, 101, 102, 103, 104, 105, 106, 107, 108, 109, 110, 111, 112, 113, 114, 115, 116, 117, 118, 119, 120, 121, 122, 48, 49, 50, 51, 52, 53, 54, 55, 56, 57, 45, 95]) fun x_8 =>
     if (!x_8.2) = true then
     (
      some ([], 22, wI ((a0.length : Int) - 1))
     ) else (
      some (x_8.1, 0, 0)
     )
    )
   )
  )
noncomputable def F.b64_Decode (a0 : List UInt8) : Option (List UInt8 × Int × Int) :=
 loop (F.b64_Decode_L1 a0) 0
noncomputable def F.b64_DecodeStd_L2 (a0 : List UInt8) (x_1 : Int) : Int → Option ((Int) ⊕ (List UInt8 × Int × Int))
 | x_11 =>
  if (decide (x_11 < x_1)) = true then
  (
   obind (getO a0 (x_11 : Int)) fun x_15 =>
   obind (F.strings_IndexByte [65, 66, 67, 68, 69, 70, 71, 72, 73, 74, 75, 76, 77, 78, 79, 80, 81, 82, 83, 84, 85, 86, 87, 88, 89, 90, 97, 98, 99, 100, 101, 102, 103, 104, 105, 106, 107, 108, 109, 110, 111, 112, 113, 114, 115, 116, 117, 118, 119, 120, 121, 122, 48, 49, 50, 51, 52, 53, 54, 55, 56, 57, 43, 47] x_15) fun x_16 =>
   if (decide (x_16 < 0)) = true then
   (
    oinr (
     some ([], 20, x_11)
    )
   ) else (
    oinl (wI (x_11 + 1))
   )
  ) else (
   oinr (
    if ((Int.tmod (a0.length : Int) 4) != 0) = true then
    (
     some ([], 21, (a0.length : Int))
    ) else (
     obind (tkO a0 (x_1 : Int)) fun x_18 =>
     obind (F.b64_read x_18 [65, 66, 67, 68, 69, 70, 71, 72, 73, 74, 75, 76, 77, 78, 79, 80, 81, 82, 83, 84, 85, 86, 87, 88, 89, 90, 97, 98, 99, 100, 101, 102, 103, 104, 105, 106, 107, 108, 109, 110, 111, 112, 113, 114, 115, 116, 117, 118, 119, 120, 121, 122, 48, 49, 50, 51, 52, 53, 54, 55, 56, 57, 43, 47]) fun x_19 =>
     if (!x_19.2) = true then
     (
      some ([], 22, wI (x_1 - 1))
     ) else (
      some (x_19.1, 0, 0)
     )
    )
   )
  )
noncomputable def F.b64_DecodeStd_K1 (x_1 : Int) (x_2 : Int) (a0 : List UInt8) : Bool → Option ((Int × Int) ⊕ (List UInt8 × Int × Int))
 | x_9 =>
  if x_9 = true then
  (
   oinl (wI (x_1 - 1), wI (x_2 + 1))
  ) else (
   oinr (
    loop (F.b64_DecodeStd_L2 a0 x_1) 0
   )
  )
noncomputable def F.b64_DecodeStd_L1 (a0 : List UInt8) : Int × Int → Option ((Int × Int) ⊕ (List UInt8 × Int × Int))
 | (x_1, x_2) =>
  if (decide (x_2 < 2)) = true then
  (
   if (decide ((0 : Int) < x_1)) = true then
   (
    obind (getO a0 (wI (x_1 - 1) : Int)) fun x_8 =>
    F.b64_DecodeStd_K1 x_1 x_2 a0 (x_8 == 61)
   ) else (
    F.b64_DecodeStd_K1 x_1 x_2 a0 false
   )
  ) else (
   F.b64_DecodeStd_K1 x_1 x_2 a0 false
  )
noncomputable def F.b64_DecodeStd (a0 : List UInt8) : Option (List UInt8 × Int × Int) :=
 loop (F.b64_DecodeStd_L1 a0) ((a0.length : Int), 0)
end Go.Gk
