import Derived.Test.YtgjpaedgcpjigaaDoorGkS
import Derived.Test.YtgjpaedgcpjigaaDoorGkFref2
set_option linter.unusedVariables false
set_option linter.unusedSimpArgs false
set_option linter.unusedVariables false
namespace Go.Gk
noncomputable def F.ref3_bounds_K1 (a0 : Int) : Bool → Option (Int × Int × Int)
 | x_2 =>
  if x_2 = true then
  (
   some ((-1), 0, 0)
  ) else (
   if (decide (a0 < 224)) = true then
   (
    some (1, 128, 191)
   ) else (
    if (a0 == 224) = true then
    (
     some (2, 160, 191)
    ) else (
     if (a0 == 237) = true then
     (
      some (2, 128, 159)
     ) else (
      if (decide (a0 < 240)) = true then
      (
       some (2, 128, 191)
      ) else (
       if (a0 == 240) = true then
       (
        some (3, 144, 191)
       ) else (
        if (a0 == 244) = true then
        (
         some (3, 128, 143)
        ) else (
         some (3, 128, 191)
        )
       )
      )
     )
    )
   )
  )
noncomputable def F.ref3_bounds (a0 : Int) : Option (Int × Int × Int) :=
 if (decide (a0 < 194)) = true then
 (
  F.ref3_bounds_K1 a0 true
 ) else (
  F.ref3_bounds_K1 a0 (decide ((244 : Int) < a0))
 )
noncomputable def F.ref3_byteAt (a0 : List UInt8) (a1 : Int) : Option (Int) :=
 if (decide ((a0.length : Int) ≤ a1)) = true then
 (
  some (-1)
 ) else (
  obind (getO a0 (a1 : Int)) fun x_1 =>
  some (x_1.toNat : Int)
 )
noncomputable def F.ref3_among_L1 (a0 : List (List UInt8)) (a1 : List UInt8) : Int → Option ((Int) ⊕ (Bool))
 | x_1 =>
  if (decide (x_1 < (a0.length : Int))) = true then
  (
   obind (getO a0 (x_1 : Int)) fun x_5 =>
   if (x_5 == a1) = true then
   (
    oinr (
     some true
    )
   ) else (
    oinl (wI (x_1 + 1))
   )
  ) else (
   oinr (
    some false
   )
  )
noncomputable def F.ref3_among (a0 : List (List UInt8)) (a1 : List UInt8) : Option (Bool) :=
 loop (F.ref3_among_L1 a0 a1) 0
noncomputable def F.ref3_fault (a0 : Int) (a1 : Int) : Option (Int × List (Int × (List UInt8) × (List UInt8) × Bool × Int × Int) × List UInt8 × Int × Int) :=
 some (0, [], [], a0, a1)
noncomputable def F.ref3_sequence_K1 (a1 : Int) (x_10 : Int) : Bool → Option ((Int × Int × Int) ⊕ (Int × List (Int × (List UInt8) × (List UInt8) × Bool × Int × Int) × List UInt8 × Int × Int))
 | x_19 =>
  if x_19 = true then
  (
   obind (F.ref3_fault 32 a1) fun x_21 =>
   oinr (
    some (x_21.1, x_21.2.1, x_21.2.2.1, x_21.2.2.2.1, x_21.2.2.2.2)
   )
  ) else (
   oinl (128, 191, wI (x_10 + 1))
  )
noncomputable def F.ref3_sequence_L1 (a0 : List UInt8) (a1 : Int) (x_4 : Int × Int × Int) : Int × Int × Int → Option ((Int × Int × Int) ⊕ (Int × List (Int × (List UInt8) × (List UInt8) × Bool × Int × Int) × List UInt8 × Int × Int))
 | (x_8, x_9, x_10) =>
  if (decide (x_10 ≤ x_4.1)) = true then
  (
   obind (F.ref3_byteAt a0 (wI (a1 + x_10))) fun x_14 =>
   if (decide (x_14 < 0)) = true then
   (
    obind (F.ref3_fault 31 (a0.length : Int)) fun x_15 =>
    oinr (
     some (x_15.1, x_15.2.1, x_15.2.2.1, x_15.2.2.2.1, x_15.2.2.2.2)
    )
   ) else (
    if (decide (x_14 < x_8)) = true then
    (
     F.ref3_sequence_K1 a1 x_10 true
    ) else (
     F.ref3_sequence_K1 a1 x_10 (decide (x_9 < x_14))
    )
   )
  ) else (
   oinr (
    obind (slO a0 (a1 : Int) (wI ((wI (a1 + x_4.1)) + 1) : Int)) fun x_26 =>
    some (wI ((wI (a1 + x_4.1)) + 1), [], x_26, 0, 0)
   )
  )
noncomputable def F.ref3_sequence (a0 : List UInt8) (a1 : Int) : Option (Int × List (Int × (List UInt8) × (List UInt8) × Bool × Int × Int) × List UInt8 × Int × Int) :=
 obind (getO a0 (a1 : Int)) fun x_3 =>
 obind (F.ref3_bounds (x_3.toNat : Int)) fun x_4 =>
 if (decide (x_4.1 < 0)) = true then
 (
  obind (F.ref3_fault 32 a1) fun x_5 =>
  some (x_5.1, x_5.2.1, x_5.2.2.1, x_5.2.2.2.1, x_5.2.2.2.2)
 ) else (
  loop (F.ref3_sequence_L1 a0 a1 x_4) (x_4.2.1, x_4.2.2, 1)
 )
noncomputable def F.ref3_utf_L1 (a0 : List UInt8) : Int → Option ((Int) ⊕ (Bool))
 | x_1 =>
  if (decide (x_1 < (a0.length : Int))) = true then
  (
   obind (getO a0 (x_1 : Int)) fun x_5 =>
   if (decide (x_5 < 128)) = true then
   (
    oinl (wI (x_1 + 1))
   ) else (
    obind (F.ref3_sequence a0 x_1) fun x_6 =>
    if (x_6.2.2.2.1 != 0) = true then
    (
     oinr (
      some false
     )
    ) else (
     oinl x_6.1
    )
   )
  ) else (
   oinr (
    some true
   )
  )
noncomputable def F.ref3_utf (a0 : List UInt8) : Option (Bool) :=
 loop (F.ref3_utf_L1 a0) 0
noncomputable def F.ref3_plain_K2 (a0_0 : Int) (a0_2 : List UInt8) (x_11 : Bool) : Bool → Option (Bool)
 | x_15 =>
  if x_15 = true then
  (
   some false
  ) else (
   if (a0_0 == 5) = true then
   (
    some x_11
   ) else (
    some (a0_2 == [])
   )
  )
noncomputable def F.ref3_plain_K1 (a0_0 : Int) (a0_2 : List UInt8) (a0_3 : Bool) (a0_4 : Int) : Bool → Option (Bool)
 | x_7 =>
  if x_7 = true then
  (
   some false
  ) else (
   obind (F.ref2_Whole a0_2) fun x_9 =>
   obind (F.ref2_Valid a0_2) fun x_10 =>
   obind (F.ref3_utf a0_2) fun x_11 =>
   if (a0_0 == 4) = true then
   (
    if x_10 = true then
    (
     if (x_9.2 == a0_3) = true then
     (
      some (x_9.1 == a0_4)
     ) else (
      some false
     )
    ) else (
     some false
    )
   ) else (
    if a0_3 = true then
    (
     F.ref3_plain_K2 a0_0 a0_2 x_11 true
    ) else (
     F.ref3_plain_K2 a0_0 a0_2 x_11 (a0_4 != 0)
    )
   )
  )
noncomputable def F.ref3_plain (a0_0 : Int) (a0_1 : List UInt8) (a0_2 : List UInt8) (a0_3 : Bool) (a0_4 : Int) (a0_5 : Int) : Option (Bool) :=
 if (decide (a0_0 < 1)) = true then
 (
  F.ref3_plain_K1 a0_0 a0_2 a0_3 a0_4 true
 ) else (
  if (decide ((7 : Int) < a0_0)) = true then
  (
   F.ref3_plain_K1 a0_0 a0_2 a0_3 a0_4 true
  ) else (
   if (decide (a0_5 < 0)) = true then
   (
    F.ref3_plain_K1 a0_0 a0_2 a0_3 a0_4 true
   ) else (
    if (decide ((0 : Int) < a0_5)) = true then
    (
     F.ref3_plain_K1 a0_0 a0_2 a0_3 a0_4 (decide (a0_0 < 6))
    ) else (
     F.ref3_plain_K1 a0_0 a0_2 a0_3 a0_4 false
    )
   )
  )
 )
noncomputable def F.ref3_take_s_K2 (a0 : List (Int × (List UInt8) × (List UInt8) × Bool × Int × Int)) (x_14 : Int) (x_15 : List (List UInt8)) (x_18 : Int) (x_22 : Int) : Bool → Option ((Int × List (List UInt8) × Int) ⊕ (Int))
 | x_27 =>
  if x_27 = true then
  (
   oinr (
    some (-1)
   )
  ) else (
   obind (getO a0 (x_14 : Int)) fun x_29 =>
   obind (apO 16 x_15 ([x_29.2.1] : List (List UInt8))) fun x_32 =>
   oinl (x_22, x_32, wI (x_18 + 1))
  )
noncomputable def F.ref3_take_s_L1 (a0 : List (Int × (List UInt8) × (List UInt8) × Bool × Int × Int)) (a3 : Int) (rc : (List (Int × (List UInt8) × (List UInt8) × Bool × Int × Int)) → Int → Bool → Int → Option (Int)) (x_1 : (Int × (List UInt8) × (List UInt8) × Bool × Int × Int)) : Int × List (List UInt8) × Int → Option ((Int × List (List UInt8) × Int) ⊕ (Int))
 | (x_14, x_15, x_18) =>
  if (decide (x_18 < x_1.2.2.2.2.2)) = true then
  (
   obind (rc a0 x_14 (x_1.1 == 7) (wI (a3 + 1))) fun x_22 =>
   if (decide (x_22 < 0)) = true then
   (
    F.ref3_take_s_K2 a0 x_14 x_15 x_18 x_22 true
   ) else (
    if (x_1.1 == 7) = true then
    (
     obind (getO a0 (x_14 : Int)) fun x_25 =>
     obind (F.ref3_among x_15 x_25.2.1) fun x_26 =>
     F.ref3_take_s_K2 a0 x_14 x_15 x_18 x_22 x_26
    ) else (
     F.ref3_take_s_K2 a0 x_14 x_15 x_18 x_22 false
    )
   )
  ) else (
   oinr (
    some x_14
   )
  )
noncomputable def F.ref3_take_s_K1 (a1 : Int) (a0 : List (Int × (List UInt8) × (List UInt8) × Bool × Int × Int)) (a3 : Int) (rc : (List (Int × (List UInt8) × (List UInt8) × Bool × Int × Int)) → Int → Bool → Int → Option (Int)) (x_1 : (Int × (List UInt8) × (List UInt8) × Bool × Int × Int)) : Bool → Option (Int)
 | x_12 =>
  if x_12 = true then
  (
   some (-1)
  ) else (
   loop (F.ref3_take_s_L1 a0 a3 rc x_1) (wI (a1 + 1), [], 0)
  )
noncomputable def F.ref3_take_s (rc : (List (Int × (List UInt8) × (List UInt8) × Bool × Int × Int)) → Int → Bool → Int → Option (Int)) (a0 : List (Int × (List UInt8) × (List UInt8) × Bool × Int × Int)) (a1 : Int) (a2 : Bool) (a3 : Int) : Option (Int) :=
 if (decide ((a0.length : Int) ≤ a1)) = true then
 (
  some (-1)
 ) else (
  obind (getO a0 (a1 : Int)) fun x_1 =>
  obind (F.ref3_plain x_1.1 x_1.2.1 x_1.2.2.1 x_1.2.2.2.1 x_1.2.2.2.2.1 x_1.2.2.2.2.2) fun x_4 =>
  obind (F.ref3_utf x_1.2.1) fun x_5 =>
  if (!x_4) = true then
  (
   F.ref3_take_s_K1 a1 a0 a3 rc x_1 true
  ) else (
   if (!x_5) = true then
   (
    F.ref3_take_s_K1 a1 a0 a3 rc x_1 true
   ) else (
    if (!a2) = true then
    (
     if (x_1.2.1 != []) = true then
     (
      F.ref3_take_s_K1 a1 a0 a3 rc x_1 true
     ) else (
      if (decide ((6 : Int) ≤ x_1.1)) = true then
      (
       F.ref3_take_s_K1 a1 a0 a3 rc x_1 (a3 == 32)
      ) else (
       F.ref3_take_s_K1 a1 a0 a3 rc x_1 false
      )
     )
    ) else (
     if (decide ((6 : Int) ≤ x_1.1)) = true then
     (
      F.ref3_take_s_K1 a1 a0 a3 rc x_1 (a3 == 32)
     ) else (
      F.ref3_take_s_K1 a1 a0 a3 rc x_1 false
     )
    )
   )
  )
 )
noncomputable def F.ref3_take_n : Nat → (List (Int × (List UInt8) × (List UInt8) × Bool × Int × Int)) → Int → Bool → Int → Option (Int)
 | 0 => fun _ _ _ _ => none
 | n + 1 => F.ref3_take_s (F.ref3_take_n n)
noncomputable def F.ref3_take (a0 : List (Int × (List UInt8) × (List UInt8) × Bool × Int × Int)) (a1 : Int) (a2 : Bool) (a3 : Int) : Option (Int) := F.ref3_take_n 64 a0 a1 a2 a3
noncomputable def F.ref3_Shaped (a0 : List (Int × (List UInt8) × (List UInt8) × Bool × Int × Int)) : Option (Bool) :=
 if (decide ((0 : Int) < (a0.length : Int))) = true then
 (
  obind (F.ref3_take a0 0 false 0) fun x_2 =>
  some (x_2 == (a0.length : Int))
 ) else (
  some false
 )
end Go.Gk
