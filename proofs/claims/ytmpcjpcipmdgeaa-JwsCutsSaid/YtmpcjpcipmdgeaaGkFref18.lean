/- Plain functions of package ref18, written by a program of ours from what the seat holds of it. -/
import Derived.Test.YtmpcjpcipmdgeaaGkB
import Derived.Test.YtmpcjpcipmdgeaaGkS
import Derived.Test.YtmpcjpcipmdgeaaGkFref1
set_option linter.unusedVariables false
namespace Go.Gk
-- Go: signet/signetref18.Split
noncomputable def F.ref18_Split_K1 (x_4 : Int) : List Int → Option ((List Int × Int) ⊕ (List UInt8 × List UInt8 × List UInt8 × Int))
  | x_8 =>
    oinl (x_8, wI (x_4 + 1))

noncomputable def F.ref18_Split_L1 (a0 : List UInt8) : List Int × Int → Option ((List Int × Int) ⊕ (List UInt8 × List UInt8 × List UInt8 × Int))
  | (x_1, x_4) =>
    if (decide (x_4 < (a0.length : Int))) = true then
    (
      obind (getO a0 (x_4 : Int)) fun x_12 =>
      if (x_12 == 46) = true then
      (
        obind (apO 8 x_1 ([x_4] : List Int)) fun x_15 =>
        F.ref18_Split_K1 x_4 x_15
      ) else (
        F.ref18_Split_K1 x_4 x_1
      )
    ) else (
      oinr (
        if ((x_1.length : Int) != 2) = true then
        (
          some ([], [], [], 120)
        ) else (
          obind (getO x_1 (0 : Int)) fun x_19 =>
          obind (tkO a0 (x_19 : Int)) fun x_20 =>
          obind (getO x_1 (0 : Int)) fun x_21 =>
          obind (getO x_1 (1 : Int)) fun x_22 =>
          obind (slO a0 (wI (x_21 + 1) : Int) (x_22 : Int)) fun x_23 =>
          obind (getO x_1 (1 : Int)) fun x_24 =>
          obind (drO a0 (wI (x_24 + 1) : Int)) fun x_25 =>
          some (x_20, x_23, x_25, 0)
        )
      )
    )

noncomputable def F.ref18_Split (a0 : List UInt8) : Option (List UInt8 × List UInt8 × List UInt8 × Int) :=
  if (decide ((65536 : Int) < (a0.length : Int))) = true then
  (
    some ([], [], [], 10)
  ) else (
    loop (F.ref18_Split_L1 a0) ([], 0)
  )

-- Go: signet/signetref18.Decode
noncomputable def F.ref18_Decode (a0 : List UInt8) : Option (List UInt8 × List UInt8 × List UInt8 × Int) :=
  obind (F.ref18_Split a0) fun x_1 =>
  if (x_1.2.2.2 != 0) = true then
  (
    some ([], [], [], x_1.2.2.2)
  ) else (
    obind (F.ref1_Decode x_1.1) fun x_2 =>
    if (x_2.2.1 != 0) = true then
    (
      some ([], [], [], x_2.2.1)
    ) else (
      obind (F.ref1_Decode x_1.2.1) fun x_5 =>
      if (x_5.2.1 != 0) = true then
      (
        some ([], [], [], x_5.2.1)
      ) else (
        obind (F.ref1_Decode x_1.2.2.1) fun x_8 =>
        if (x_8.2.1 != 0) = true then
        (
          some ([], [], [], x_8.2.1)
        ) else (
          some (x_2.1, x_5.1, x_8.1, 0)
        )
      )
    )
  )

-- Go: signet/signetref18.Compact
noncomputable def F.ref18_Compact_K1 (a0 : List UInt8) (a1 : List UInt8) (a2 : List UInt8) : Bool → Option (List UInt8 × Int)
  | x_1 =>
    if x_1 = true then
    (
      some ([], 10)
    ) else (
      obind (F.ref1_Encode a0) fun x_3 =>
      obind (sadO x_3 [46]) fun x_4 =>
      obind (F.ref1_Encode a1) fun x_5 =>
      obind (sadO x_4 x_5) fun x_6 =>
      obind (sadO x_6 [46]) fun x_7 =>
      obind (F.ref1_Encode a2) fun x_8 =>
      obind (sadO x_7 x_8) fun x_9 =>
      if (decide ((65536 : Int) < (x_9.length : Int))) = true then
      (
        some ([], 10)
      ) else (
        some (x_9, 0)
      )
    )

noncomputable def F.ref18_Compact (a0 : List UInt8) (a1 : List UInt8) (a2 : List UInt8) : Option (List UInt8 × Int) :=
  if (decide ((65536 : Int) < (a0.length : Int))) = true then
  (
    F.ref18_Compact_K1 a0 a1 a2 true
  ) else (
    if (decide ((65536 : Int) < (a1.length : Int))) = true then
    (
      F.ref18_Compact_K1 a0 a1 a2 true
    ) else (
      F.ref18_Compact_K1 a0 a1 a2 (decide ((65536 : Int) < (a2.length : Int)))
    )
  )

end Go.Gk
