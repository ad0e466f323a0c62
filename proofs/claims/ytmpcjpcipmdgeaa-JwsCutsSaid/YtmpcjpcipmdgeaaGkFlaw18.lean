/- Plain functions of package law18, written by a program of ours from what the seat holds of it. -/
import Derived.Test.YtmpcjpcipmdgeaaGkB
import Derived.Test.YtmpcjpcipmdgeaaGkS
import Derived.Test.YtmpcjpcipmdgeaaGkFjws
import Derived.Test.YtmpcjpcipmdgeaaGkFref18
set_option linter.unusedVariables false
namespace Go.Gk
-- Go: signet/signetlaw18.same
noncomputable def F.law18_same_L1 (a0 : List UInt8) (a1 : List UInt8) : Int → Option ((Int) ⊕ (Bool))
  | x_1 =>
    if (decide (x_1 < (a0.length : Int))) = true then
    (
      obind (getO a0 (x_1 : Int)) fun x_5 =>
      obind (getO a1 (x_1 : Int)) fun x_6 =>
      if (x_5 != x_6) = true then
      (
        oinr (
          some false
        )
      ) else (
        oinl (wI (x_1 + 1))
      )
    ) else (
      oinr (
        some true
      )
    )

noncomputable def F.law18_same (a0 : List UInt8) (a1 : List UInt8) : Option (Bool) :=
  if ((a0.length : Int) != (a1.length : Int)) = true then
  (
    some false
  ) else (
    loop (F.law18_same_L1 a0 a1) 0
  )

-- Go: signet/signetlaw18.still
noncomputable def F.law18_still_K1 (x_2 : Int) : Bool → Option ((Int) ⊕ (Bool))
  | x_6 =>
    if x_6 = true then
    (
      oinr (
        some false
      )
    ) else (
      oinl (wI (x_2 + 1))
    )

noncomputable def F.law18_still_L1 (a0 : List UInt8) (a1 : List UInt8) : Int → Option ((Int) ⊕ (Bool))
  | x_2 =>
    if (decide (x_2 < ((a0.take ((wI ((a1.length : Int) + 40) : Int).toNat)).length : Int))) = true then
    (
      if (decide (x_2 < (a1.length : Int))) = true then
      (
        obind (getO (a0.take ((wI ((a1.length : Int) + 40) : Int).toNat)) (x_2 : Int)) fun x_10 =>
        obind (getO a1 (x_2 : Int)) fun x_11 =>
        if (x_10 != x_11) = true then
        (
          F.law18_still_K1 x_2 true
        ) else (
          if (decide ((a1.length : Int) ≤ x_2)) = true then
          (
            obind (getO (a0.take ((wI ((a1.length : Int) + 40) : Int).toNat)) (x_2 : Int)) fun x_14 =>
            F.law18_still_K1 x_2 (x_14 != 165)
          ) else (
            F.law18_still_K1 x_2 false
          )
        )
      ) else (
        if (decide ((a1.length : Int) ≤ x_2)) = true then
        (
          obind (getO (a0.take ((wI ((a1.length : Int) + 40) : Int).toNat)) (x_2 : Int)) fun x_16 =>
          F.law18_still_K1 x_2 (x_16 != 165)
        ) else (
          F.law18_still_K1 x_2 false
        )
      )
    ) else (
      oinr (
        some true
      )
    )

noncomputable def F.law18_still (a0 : List UInt8) (k0 : Nat) (a1 : List UInt8) : Option (Bool) :=
  if (((a0.take k0).length : Int) != (a1.length : Int)) = true then
  (
    some false
  ) else (
    grd (0 ≤ (wI ((a1.length : Int) + 40) : Int) ∧ (wI ((a1.length : Int) + 40) : Int).toNat ≤ a0.length) <|
    loop (F.law18_still_L1 a0 a1) 0
  )

-- Go: signet/signetlaw18.marked
noncomputable def F.law18_marked_K1 (x_1 : Int) : Bool → Option ((Int) ⊕ (Bool))
  | x_5 =>
    if x_5 = true then
    (
      oinr (
        some false
      )
    ) else (
      oinl (wI (x_1 + 1))
    )

noncomputable def F.law18_marked_L1 (a0 : List UInt8) (a1 : Int) (a2 : UInt8) (a3 : UInt8) : Int → Option ((Int) ⊕ (Bool))
  | x_1 =>
    if (decide (x_1 < (a0.length : Int))) = true then
    (
      if (decide (x_1 < a1)) = true then
      (
        obind (getO a0 (x_1 : Int)) fun x_9 =>
        if (x_9 != a2) = true then
        (
          F.law18_marked_K1 x_1 true
        ) else (
          if (decide (a1 ≤ x_1)) = true then
          (
            obind (getO a0 (x_1 : Int)) fun x_12 =>
            F.law18_marked_K1 x_1 (x_12 != a3)
          ) else (
            F.law18_marked_K1 x_1 false
          )
        )
      ) else (
        if (decide (a1 ≤ x_1)) = true then
        (
          obind (getO a0 (x_1 : Int)) fun x_14 =>
          F.law18_marked_K1 x_1 (x_14 != a3)
        ) else (
          F.law18_marked_K1 x_1 false
        )
      )
    ) else (
      oinr (
        some ((a0.length : Int) == (wI (a1 + 70)))
      )
    )

noncomputable def F.law18_marked (a0 : List UInt8) (a1 : Int) (a2 : UInt8) (a3 : UInt8) : Option (Bool) :=
  loop (F.law18_marked_L1 a0 a1 a2 a3) 0

-- Go: signet/signetlaw18.hash
noncomputable def F.law18_hash_K2 (a0 : Int) : Bool → Option (Int)
  | x_3 =>
    if x_3 = true then
    (
      some (wI (a0 - 9))
    ) else (
      some 0
    )

noncomputable def F.law18_hash_K1 (a0 : Int) : Bool → Option (Int)
  | x_1 =>
    if x_1 = true then
    (
      some (wI ((Int.tmod (wI (a0 - 1)) 3) + 1))
    ) else (
      if (a0 == 10) = true then
      (
        F.law18_hash_K2 a0 true
      ) else (
        F.law18_hash_K2 a0 (a0 == 11)
      )
    )

noncomputable def F.law18_hash (a0 : Int) : Option (Int) :=
  if (decide ((1 : Int) ≤ a0)) = true then
  (
    F.law18_hash_K1 a0 (decide (a0 ≤ 9))
  ) else (
    F.law18_hash_K1 a0 false
  )

-- Go: signet/signetlaw18.lent
noncomputable def F.law18_lent_L1 (a0 : List UInt8) : List UInt8 × Int → Option ((List UInt8 × Int) ⊕ ((List UInt8 × Nat)))
  | (x_4, x_7) =>
    if (decide (x_7 < 40)) = true then
    (
      obind (apO 1 x_4 [165]) fun x_13 =>
      oinl (x_13, wI (x_7 + 1))
    ) else (
      oinr (
        grd (0 ≤ ((a0.length : Int) : Int) ∧ ((a0.length : Int) : Int).toNat ≤ x_4.length) <|
        some (x_4, ((a0.length : Int) : Int).toNat)
      )
    )

noncomputable def F.law18_lent (a0 : List UInt8) : Option ((List UInt8 × Nat)) :=
  obind (apO 1 [] a0) fun x_1 =>
  loop (F.law18_lent_L1 a0) (x_1, 0)

-- Go: signet/signetlaw18.JwsCuts
noncomputable def F.law18_JwsCuts_L2 (a2 : List UInt8) (x_21 : (List UInt8 × Nat)) (x_25 : (List UInt8 × Nat)) (x_29 : (List UInt8 × Nat)) (x_38 : List UInt8) : Int × List UInt8 → Option ((Int × List UInt8) ⊕ (Bool))
  | (x_46, x_47) =>
    if (decide (x_46 < ((x_47.take x_29.2).length : Int))) = true then
    (
      obind (getO (x_47.take x_29.2) (x_46 : Int)) fun x_52 =>
      obind (getO (x_47.take x_29.2) (x_46 : Int)) fun x_53 =>
      olet (x_47.set (x_46 : Int).toNat (255 - x_52)) fun x_54 =>
      oinl (wI (x_46 + 1), x_54)
    ) else (
      oinr (
        obind (apO 1 [] (x_38.take x_21.2)) fun x_55 =>
        obind (apO 1 [] (x_47.take x_29.2)) fun x_58 =>
        obind (F.jws_Compact (x_38.take x_21.2) (x_25.1.take x_25.2) (x_47.take x_29.2)) fun x_61 =>
        obind (F.ref18_Compact x_55 a2 x_58) fun x_62 =>
        if (x_61.1 == x_62.1) = true then
        (
          if (x_61.2 == x_62.2) = true then
          (
            obind (F.law18_still x_38 x_21.2 x_55) fun x_65 =>
            if x_65 = true then
            (
              obind (F.law18_still x_25.1 x_25.2 a2) fun x_67 =>
              if x_67 = true then
              (
                obind (F.law18_still x_47 x_29.2 x_58) fun x_69 =>
                some x_69
              ) else (
                some false
              )
            ) else (
              some false
            )
          ) else (
            some false
          )
        ) else (
          some false
        )
      )
    )

noncomputable def F.law18_JwsCuts_L1 (x_21 : (List UInt8 × Nat)) (x_29 : (List UInt8 × Nat)) (a2 : List UInt8) (x_25 : (List UInt8 × Nat)) : Int × List UInt8 → Option ((Int × List UInt8) ⊕ (Bool))
  | (x_37, x_38) =>
    if (decide (x_37 < ((x_38.take x_21.2).length : Int))) = true then
    (
      obind (getO (x_38.take x_21.2) (x_37 : Int)) fun x_43 =>
      obind (getO (x_38.take x_21.2) (x_37 : Int)) fun x_44 =>
      olet (x_38.set (x_37 : Int).toNat (x_43 + 1)) fun x_45 =>
      oinl (wI (x_37 + 1), x_45)
    ) else (
      oinr (
        loop (F.law18_JwsCuts_L2 a2 x_21 x_25 x_29 x_38) (0, x_29.1)
      )
    )

noncomputable def F.law18_JwsCuts_K3 (x_21 : (List UInt8 × Nat)) (x_29 : (List UInt8 × Nat)) (a2 : List UInt8) (x_25 : (List UInt8 × Nat)) : Bool → Option (Bool)
  | x_35 =>
    if x_35 = true then
    (
      some false
    ) else (
      loop (F.law18_JwsCuts_L1 x_21 x_29 a2 x_25) (0, x_21.1)
    )

noncomputable def F.law18_JwsCuts_K2 (a1 : List UInt8) (a2 : List UInt8) (a3 : List UInt8) : Bool → Option (Bool)
  | x_19 =>
    if x_19 = true then
    (
      some false
    ) else (
      obind (F.law18_lent a1) fun x_21 =>
      obind (F.law18_lent a2) fun x_25 =>
      obind (F.law18_lent a3) fun x_29 =>
      obind (F.jws_Compact (x_21.1.take x_21.2) (x_25.1.take x_25.2) (x_29.1.take x_29.2)) fun x_33 =>
      obind (F.ref18_Compact a1 a2 a3) fun x_34 =>
      if (x_33.1 != x_34.1) = true then
      (
        F.law18_JwsCuts_K3 x_21 x_29 a2 x_25 true
      ) else (
        if (x_33.2 != x_34.2) = true then
        (
          F.law18_JwsCuts_K3 x_21 x_29 a2 x_25 true
        ) else (
          obind (F.law18_still x_21.1 x_21.2 a1) fun x_77 =>
          if (!x_77) = true then
          (
            F.law18_JwsCuts_K3 x_21 x_29 a2 x_25 true
          ) else (
            obind (F.law18_still x_25.1 x_25.2 a2) fun x_79 =>
            if (!x_79) = true then
            (
              F.law18_JwsCuts_K3 x_21 x_29 a2 x_25 true
            ) else (
              obind (F.law18_still x_29.1 x_29.2 a3) fun x_81 =>
              F.law18_JwsCuts_K3 x_21 x_29 a2 x_25 (!x_81)
            )
          )
        )
      )
    )

noncomputable def F.law18_JwsCuts_K1 (a0 : List UInt8) (a1 : List UInt8) (a2 : List UInt8) (a3 : List UInt8) : Bool → Option (Bool)
  | x_3 =>
    if x_3 = true then
    (
      some false
    ) else (
      obind (F.jws_Decode a0) fun x_5 =>
      obind (F.ref18_Decode a0) fun x_12 =>
      obind (F.law18_same x_5.1 x_12.1) fun x_83 =>
      if (!x_83) = true then
      (
        F.law18_JwsCuts_K2 a1 a2 a3 true
      ) else (
        obind (F.law18_same x_5.2.1 x_12.2.1) fun x_85 =>
        if (!x_85) = true then
        (
          F.law18_JwsCuts_K2 a1 a2 a3 true
        ) else (
          obind (F.law18_same x_5.2.2.1 x_12.2.2.1) fun x_87 =>
          if (!x_87) = true then
          (
            F.law18_JwsCuts_K2 a1 a2 a3 true
          ) else (
            F.law18_JwsCuts_K2 a1 a2 a3 (x_5.2.2.2 != x_12.2.2.2)
          )
        )
      )
    )

noncomputable def F.law18_JwsCuts (a0 : List UInt8) (a1 : List UInt8) (a2 : List UInt8) (a3 : List UInt8) : Option (Bool) :=
  obind (F.jws_Split a0) fun x_1 =>
  obind (F.ref18_Split a0) fun x_2 =>
  if (x_1.1 != x_2.1) = true then
  (
    F.law18_JwsCuts_K1 a0 a1 a2 a3 true
  ) else (
    if (x_1.2.1 != x_2.2.1) = true then
    (
      F.law18_JwsCuts_K1 a0 a1 a2 a3 true
    ) else (
      if (x_1.2.2.1 != x_2.2.2.1) = true then
      (
        F.law18_JwsCuts_K1 a0 a1 a2 a3 true
      ) else (
        F.law18_JwsCuts_K1 a0 a1 a2 a3 (x_1.2.2.2 != x_2.2.2.2)
      )
    )
  )

end Go.Gk
