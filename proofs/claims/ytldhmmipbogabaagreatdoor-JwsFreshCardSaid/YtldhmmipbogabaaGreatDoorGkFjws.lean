import Derived.Test.YtldhmmipbogabaaGreatDoorGkS
import Derived.Test.YtldhmmipbogabaaGreatDoorGkFb64
import Derived.Test.YtldhmmipbogabaaGreatDoorGkFhmac
import Derived.Test.YtldhmmipbogabaaGreatDoorGkFlib
import Derived.Test.YtldhmmipbogabaaGreatDoorGkFsha
import Derived.Test.YtldhmmipbogabaaGreatDoorGkFspki
set_option linter.unusedVariables false
set_option linter.unusedSimpArgs false
set_option linter.unusedVariables false
namespace Go.Gk
noncomputable def F.jws_kind_K3 (a0 : Int) : Bool → Option (Int × Int × Int)
 | x_11 =>
  if x_11 = true then
  (
   some (3, wI (1 + (wI (a0 - 7))), 0)
  ) else (
   if (a0 == 10) = true then
   (
    some (4, 1, 1)
   ) else (
    if (a0 == 11) = true then
    (
     some (4, 2, 2)
    ) else (
     if (a0 == 12) = true then
     (
      some (5, 0, 3)
     ) else (
      some (0, 0, 0)
     )
    )
   )
  )
noncomputable def F.jws_kind_K2 (a0 : Int) : Bool → Option (Int × Int × Int)
 | x_7 =>
  if x_7 = true then
  (
   some (2, wI (1 + (wI (a0 - 4))), 0)
  ) else (
   if (a0 == 7) = true then
   (
    F.jws_kind_K3 a0 (a0 == 7)
   ) else (
    if (a0 == 8) = true then
    (
     F.jws_kind_K3 a0 (a0 == 8)
    ) else (
     F.jws_kind_K3 a0 (a0 == 9)
    )
   )
  )
noncomputable def F.jws_kind_K1 (a0 : Int) : Bool → Option (Int × Int × Int)
 | x_3 =>
  if x_3 = true then
  (
   some (1, wI (1 + (wI (a0 - 1))), 0)
  ) else (
   if (a0 == 4) = true then
   (
    F.jws_kind_K2 a0 (a0 == 4)
   ) else (
    if (a0 == 5) = true then
    (
     F.jws_kind_K2 a0 (a0 == 5)
    ) else (
     F.jws_kind_K2 a0 (a0 == 6)
    )
   )
  )
noncomputable def F.jws_kind (a0 : Int) : Option (Int × Int × Int) :=
 if (a0 == 1) = true then
 (
  F.jws_kind_K1 a0 (a0 == 1)
 ) else (
  if (a0 == 2) = true then
  (
   F.jws_kind_K1 a0 (a0 == 2)
  ) else (
   F.jws_kind_K1 a0 (a0 == 3)
  )
 )
noncomputable def F.jws_Compact (a0 : List UInt8) (a1 : List UInt8) (a2 : List UInt8) : Option (List UInt8 × Int) :=
 olet (wI (2 + (wI (Int.tdiv (wI ((wI ((a0.length : Int) * 4)) + 2)) 3)))) fun x_1 =>
 olet (wI (x_1 + (wI (Int.tdiv (wI ((wI ((a1.length : Int) * 4)) + 2)) 3)))) fun x_2 =>
 olet (wI (x_2 + (wI (Int.tdiv (wI ((wI ((a2.length : Int) * 4)) + 2)) 3)))) fun x_3 =>
 if (decide ((65536 : Int) < x_3)) = true then
 (
  some ([], 10)
 ) else (
  obind (F.b64_Encode a0) fun x_4 =>
  obind (sadO x_4 [46]) fun x_5 =>
  obind (F.b64_Encode a1) fun x_6 =>
  obind (sadO x_5 x_6) fun x_7 =>
  obind (sadO x_7 [46]) fun x_8 =>
  obind (F.b64_Encode a2) fun x_9 =>
  obind (sadO x_8 x_9) fun x_10 =>
  some (x_10, 0)
 )
noncomputable def F.jws_Split (a0 : List UInt8) : Option (List UInt8 × List UInt8 × List UInt8 × Int) :=
 if (decide ((65536 : Int) < (a0.length : Int))) = true then
 (
  some ([], [], [], 10)
 ) else (
  obind (F.strings_Count a0) fun x_1 =>
  if (x_1 != 2) = true then
  (
   some ([], [], [], 120)
  ) else (
   obind (F.strings_Cut a0) fun x_2 =>
   obind (F.strings_Cut x_2.2.1) fun x_3 =>
   some (x_2.1, x_3.1, x_3.2.1, 0)
  )
 )
noncomputable def F.jws_Decode (a0 : List UInt8) : Option (List UInt8 × List UInt8 × List UInt8 × Int) :=
 obind (F.jws_Split a0) fun x_1 =>
 if (x_1.2.2.2 != 0) = true then
 (
  some ([], [], [], x_1.2.2.2)
 ) else (
  obind (F.b64_Decode x_1.1) fun x_4 =>
  if (x_4.2.1 != 0) = true then
  (
   some ([], [], [], x_4.2.1)
  ) else (
   obind (F.b64_Decode x_1.2.1) fun x_7 =>
   if (x_7.2.1 != 0) = true then
   (
    some ([], [], [], x_7.2.1)
   ) else (
    obind (F.b64_Decode x_1.2.2.1) fun x_10 =>
    if (x_10.2.1 != 0) = true then
    (
     some ([], [], [], x_10.2.1)
    ) else (
     some (x_4.1, x_7.1, x_10.1, 0)
    )
   )
  )
 )
noncomputable def F.jws_Tag_K1 (a1 : List UInt8) (a2 : List UInt8) (x_1 : Int × Int × Int) : Bool → Option (List UInt8 × Int)
 | x_4 =>
  if x_4 = true then
  (
   some ([], 90)
  ) else (
   obind (F.hmac_Sum x_1.2.1 a1 a2) fun x_8 =>
   some (x_8, 0)
  )
noncomputable def F.jws_Tag (a0 : Int) (a1 : List UInt8) (a2 : List UInt8) : Option (List UInt8 × Int) :=
 obind (F.jws_kind a0) fun x_1 =>
 if (x_1.1 != 1) = true then
 (
  some ([], 111)
 ) else (
  obind (F.sha_Size x_1.2.1) fun x_2 =>
  if (decide ((a1.length : Int) < x_2)) = true then
  (
   F.jws_Tag_K1 a1 a2 x_1 true
  ) else (
   F.jws_Tag_K1 a1 a2 x_1 (decide ((4096 : Int) < (a1.length : Int)))
  )
 )
noncomputable def F.jws_Fits_K1 (a1_0 : Int) (a1_1 : Int) (x_3 : Int × Int × Int) : Bool → Option (Bool)
 | x_5 =>
  if x_5 = true then
  (
   some (a1_0 == 2)
  ) else (
   if (x_3.1 == 4) = true then
   (
    if (a1_0 == 3) = true then
    (
     some (a1_1 == x_3.2.2)
    ) else (
     some false
    )
   ) else (
    if (x_3.1 == 5) = true then
    (
     if (a1_0 == 4) = true then
     (
      some (a1_1 == x_3.2.2)
     ) else (
      some false
     )
    ) else (
     some false
    )
   )
  )
noncomputable def F.jws_Fits (a0 : Int) (a1_0 : Int) (a1_1 : Int) (a1_2 : List UInt8) (a1_3 : List UInt8) (a1_4 : List UInt8) (a1_5 : List UInt8) (a1_6 : List UInt8) : Option (Bool) :=
 obind (F.jws_kind a0) fun x_3 =>
 if (x_3.1 == 1) = true then
 (
  some (a1_0 == 1)
 ) else (
  if (x_3.1 == 2) = true then
  (
   F.jws_Fits_K1 a1_0 a1_1 x_3 (x_3.1 == 2)
  ) else (
   F.jws_Fits_K1 a1_0 a1_1 x_3 (x_3.1 == 3)
  )
 )
noncomputable def F.jws_Check_K2  : Int → Option (Int)
 | x_19 =>
  if (x_19 != 0) = true then
  (
   some 91
  ) else (
   some 0
  )
noncomputable def F.jws_Check_K1 (a1_2 : List UInt8) (a2 : List UInt8) (a3 : List UInt8) (x_3 : Int × Int × Int) : Bool → Option (Int)
 | x_9 =>
  if x_9 = true then
  (
   some 90
  ) else (
   if (x_3.1 == 1) = true then
   (
    obind (F.hmac_Check x_3.2.1 a1_2 a2 a3) fun x_13 =>
    if (!x_13) = true then
    (
     F.jws_Check_K2 91
    ) else (
     F.jws_Check_K2 0
    )
   ) else (
    if (x_3.1 == 2) = true then
    (
     none
    ) else (
     if (x_3.1 == 3) = true then
     (
      none
     ) else (
      if (x_3.1 == 4) = true then
      (
       none
      ) else (
       none
      )
     )
    )
   )
  )
noncomputable def F.jws_Check (a0 : Int) (a1_0 : Int) (a1_1 : Int) (a1_2 : List UInt8) (a1_3 : List UInt8) (a1_4 : List UInt8) (a1_5 : List UInt8) (a1_6 : List UInt8) (a2 : List UInt8) (a3 : List UInt8) : Option (Int) :=
 obind (F.jws_kind a0) fun x_3 =>
 if (x_3.1 == 0) = true then
 (
  some 111
 ) else (
  obind (F.jws_Fits a0 a1_0 a1_1 a1_2 a1_3 a1_4 a1_5 a1_6) fun x_4 =>
  if (!x_4) = true then
  (
   some 105
  ) else (
   obind (F.spki_Check a1_0 a1_1 a1_2 a1_3 a1_4 a1_5 a1_6) fun x_5 =>
   if (x_5 != 0) = true then
   (
    F.jws_Check_K1 a1_2 a2 a3 x_3 (x_5 != 0)
   ) else (
    if (x_3.1 == 1) = true then
    (
     obind (F.sha_Size x_3.2.1) fun x_7 =>
     F.jws_Check_K1 a1_2 a2 a3 x_3 (decide ((a1_2.length : Int) < x_7))
    ) else (
     F.jws_Check_K1 a1_2 a2 a3 x_3 false
    )
   )
  )
 )
end Go.Gk
