import Derived.Test.YtpbgncmffgnohaaGkS
set_option linter.unusedVariables false
set_option linter.unusedSimpArgs false
set_option linter.unusedVariables false
namespace Go.Gk
noncomputable def F.ref6_limb (a0 : List UInt32) (a1 : Int) : Option (UInt64) :=
 if (decide ((a0.length : Int) ≤ a1)) = true then
 (
  some 0
 ) else (
  obind (getO a0 (a1 : Int)) fun x_1 =>
  some x_1.toUInt64
 )
noncomputable def F.ref6_Cmp_L1 (a0 : List UInt32) (a1 : List UInt32) : Int → Option ((Int) ⊕ (Int))
 | x_4 =>
  if (decide ((0 : Int) ≤ x_4)) = true then
  (
   obind (F.ref6_limb a0 x_4) fun x_8 =>
   obind (F.ref6_limb a1 x_4) fun x_9 =>
   if (decide (x_8 < x_9)) = true then
   (
    oinr (
     some (-1)
    )
   ) else (
    if (decide (x_9 < x_8)) = true then
    (
     oinr (
      some 1
     )
    ) else (
     oinl (wI (x_4 - 1))
    )
   )
  ) else (
   oinr (
    some 0
   )
  )
noncomputable def F.ref6_Cmp_K1 (a0 : List UInt32) (a1 : List UInt32) : Int → Option (Int)
 | x_2 =>
  loop (F.ref6_Cmp_L1 a0 a1) (wI (x_2 - 1))
noncomputable def F.ref6_Cmp (a0 : List UInt32) (a1 : List UInt32) : Option (Int) :=
 if (decide ((a0.length : Int) < (a1.length : Int))) = true then
 (
  F.ref6_Cmp_K1 a0 a1 (a1.length : Int)
 ) else (
  F.ref6_Cmp_K1 a0 a1 (a0.length : Int)
 )
noncomputable def F.ref6_Proper_L2 (a0 : List UInt32) (x_1 : Int) : List UInt32 × Int → Option ((List UInt32 × Int) ⊕ (List UInt32))
 | (x_9, x_12) =>
  if (decide (x_12 < x_1)) = true then
  (
   obind (getO a0 (x_12 : Int)) fun x_16 =>
   obind (apO 4 x_9 ([x_16] : List UInt32)) fun x_19 =>
   oinl (x_19, wI (x_12 + 1))
  ) else (
   oinr (
    some x_9
   )
  )
noncomputable def F.ref6_Proper_K1 (x_1 : Int) (a0 : List UInt32) : Bool → Option ((Int) ⊕ (List UInt32))
 | x_7 =>
  if x_7 = true then
  (
   oinl (wI (x_1 - 1))
  ) else (
   oinr (
    loop (F.ref6_Proper_L2 a0 x_1) ([], 0)
   )
  )
noncomputable def F.ref6_Proper_L1 (a0 : List UInt32) : Int → Option ((Int) ⊕ (List UInt32))
 | x_1 =>
  if (decide ((0 : Int) < x_1)) = true then
  (
   obind (getO a0 (wI (x_1 - 1) : Int)) fun x_6 =>
   F.ref6_Proper_K1 x_1 a0 (x_6 == 0)
  ) else (
   F.ref6_Proper_K1 x_1 a0 false
  )
noncomputable def F.ref6_Proper (a0 : List UInt32) : Option (List UInt32) :=
 loop (F.ref6_Proper_L1 a0) (a0.length : Int)
noncomputable def F.ref6_FromBytes_K1 (x_9 : Int) : UInt32 → Option ((UInt32 × Int) ⊕ ((List UInt32 × Int) ⊕ (List UInt32)))
 | x_16 =>
  oinl (x_16, wI (x_9 + 1))
noncomputable def F.ref6_FromBytes_L2 (a0 : List UInt8) (x_1 : List UInt32) (x_4 : Int) : UInt32 × Int → Option ((UInt32 × Int) ⊕ ((List UInt32 × Int) ⊕ (List UInt32)))
 | (x_8, x_9) =>
  if (decide (x_9 < x_4)) = true then
  (
   if (decide ((0 : Int) ≤ x_9)) = true then
   (
    obind (getO a0 (x_9 : Int)) fun x_13 =>
    olet ((x_8 * 256) + x_13.toUInt32) fun x_14 =>
    F.ref6_FromBytes_K1 x_9 x_14
   ) else (
    F.ref6_FromBytes_K1 x_9 (x_8 * 256)
   )
  ) else (
   oinr (
    obind (apO 4 x_1 ([x_8] : List UInt32)) fun x_20 =>
    oinl (x_20, wI (x_4 - 4))
   )
  )
noncomputable def F.ref6_FromBytes_L1 (a0 : List UInt8) : List UInt32 × Int → Option ((List UInt32 × Int) ⊕ (List UInt32))
 | (x_1, x_4) =>
  if (decide ((0 : Int) < x_4)) = true then
  (
   loop (F.ref6_FromBytes_L2 a0 x_1 x_4) (0, wI (x_4 - 4))
  ) else (
   oinr (
    obind (F.ref6_Proper x_1) fun x_25 =>
    some x_25
   )
  )
noncomputable def F.ref6_FromBytes (a0 : List UInt8) : Option (List UInt32) :=
 loop (F.ref6_FromBytes_L1 a0) ([], (a0.length : Int))
noncomputable def F.ref6_byteAt_L1 (a1 : Int) : UInt64 × Int → Option ((UInt64 × Int) ⊕ (UInt8))
 | (x_2, x_3) =>
  if (decide (x_3 < (Int.tmod a1 4))) = true then
  (
   oinl (x_2 / 256, wI (x_3 + 1))
  ) else (
   oinr (
    some ((x_2 % 256).toUInt8)
   )
  )
noncomputable def F.ref6_byteAt (a0 : List UInt32) (a1 : Int) : Option (UInt8) :=
 obind (F.ref6_limb a0 (wI (Int.tdiv a1 4))) fun x_1 =>
 loop (F.ref6_byteAt_L1 a1) (x_1, 0)
noncomputable def F.ref6_Bytes_L2 (a0 : List UInt32) : List UInt8 × Int → Option ((List UInt8 × Int) ⊕ (List UInt8))
 | (x_10, x_13) =>
  if (decide ((0 : Int) ≤ x_13)) = true then
  (
   obind (F.ref6_byteAt a0 x_13) fun x_17 =>
   obind (apO 1 x_10 [x_17]) fun x_20 =>
   oinl (x_20, wI (x_13 - 1))
  ) else (
   oinr (
    some x_10
   )
  )
noncomputable def F.ref6_Bytes_K1 (x_2 : Int) (a0 : List UInt32) : Bool → Option ((Int) ⊕ (List UInt8))
 | x_8 =>
  if x_8 = true then
  (
   oinl (wI (x_2 - 1))
  ) else (
   oinr (
    loop (F.ref6_Bytes_L2 a0) ([], wI (x_2 - 1))
   )
  )
noncomputable def F.ref6_Bytes_L1 (a0 : List UInt32) : Int → Option ((Int) ⊕ (List UInt8))
 | x_2 =>
  if (decide ((0 : Int) < x_2)) = true then
  (
   obind (F.ref6_byteAt a0 (wI (x_2 - 1))) fun x_7 =>
   F.ref6_Bytes_K1 x_2 a0 (x_7 == 0)
  ) else (
   F.ref6_Bytes_K1 x_2 a0 false
  )
noncomputable def F.ref6_Bytes (a0 : List UInt32) : Option (List UInt8) :=
 olet (wI (4 * (a0.length : Int))) fun x_1 =>
 loop (F.ref6_Bytes_L1 a0) x_1
noncomputable def F.ref6_Fixed_K1 (a1 : Int) (x_1 : List UInt8) : Bool → Option (List UInt8 × Bool)
 | x_6 =>
  if x_6 = true then
  (
   some ([], false)
  ) else (
   obind (mkO 1 (wI (a1 - (x_1.length : Int)) : Int) (wI (a1 - (x_1.length : Int)) : Int) (0 : UInt8)) fun x_8 =>
   obind (apO 1 x_8 x_1) fun x_11 =>
   some (x_11, true)
  )
noncomputable def F.ref6_Fixed (a0 : List UInt32) (a1 : Int) : Option (List UInt8 × Bool) :=
 obind (F.ref6_Bytes a0) fun x_1 =>
 if (decide (a1 < 0)) = true then
 (
  F.ref6_Fixed_K1 a1 x_1 true
 ) else (
  if (decide ((16384 : Int) < a1)) = true then
  (
   F.ref6_Fixed_K1 a1 x_1 true
  ) else (
   F.ref6_Fixed_K1 a1 x_1 (decide (a1 < (x_1.length : Int)))
  )
 )
end Go.Gk
