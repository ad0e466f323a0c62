/- Plain functions of package law30, written by a program of ours from what the seat holds of it. -/
import Derived.Test.YtcdneplfgppapaaDoorGkB
import Derived.Test.YtcdneplfgppapaaDoorGkS
import Derived.Test.YtcdneplfgppapaaDoorGkFcbor
import Derived.Test.YtcdneplfgppapaaDoorGkFref30
set_option linter.unusedVariables false
namespace Go.Gk
-- Go: signet/signetlaw30.sameBytes
noncomputable def F.law30_sameBytes_L1 (a0 : List UInt8) (a1 : List UInt8) : Int → Option ((Int) ⊕ (Bool))
  | x_1 =>
    if (decide (x_1 < (a0.length : Int))) = true then
    (
      obind (getO a0 (x_1 : Int)) fun x_5 =>
      obind (getO a1 (x_1 : Int)) fun x_6 =>
      if (x_5 != x_6) = true then
      (
        oinr (
          some false
        )
      ) else (
        oinl (wI (x_1 + 1))
      )
    ) else (
      oinr (
        some true
      )
    )

noncomputable def F.law30_sameBytes (a0 : List UInt8) (a1 : List UInt8) : Option (Bool) :=
  if ((a0.length : Int) != (a1.length : Int)) = true then
  (
    some false
  ) else (
    loop (F.law30_sameBytes_L1 a0 a1) 0
  )

-- Go: signet/signetlaw30.spared
noncomputable def F.law30_spared_L1 (a0 : List UInt8) (k0 : Nat) (a1 : List UInt8) : Int → Option ((Int) ⊕ (Bool))
  | x_2 =>
    if (decide (x_2 < ((a0.take ((wI ((a1.length : Int) + 9) : Int).toNat)).length : Int))) = true then
    (
      obind (getO (a0.take ((wI ((a1.length : Int) + 9) : Int).toNat)) (x_2 : Int)) fun x_6 =>
      if (x_6 != 165) = true then
      (
        oinr (
          some false
        )
      ) else (
        oinl (wI (x_2 + 1))
      )
    ) else (
      oinr (
        obind (F.law30_sameBytes (a0.take k0) a1) fun x_8 =>
        some x_8
      )
    )

noncomputable def F.law30_spared (a0 : List UInt8) (k0 : Nat) (a1 : List UInt8) : Option (Bool) :=
  grd (0 ≤ (wI ((a1.length : Int) + 9) : Int) ∧ (wI ((a1.length : Int) + 9) : Int).toNat ≤ a0.length) <|
  loop (F.law30_spared_L1 a0 k0 a1) (a1.length : Int)

-- Go: signet/signetlaw30.same
noncomputable def F.law30_same_L1 (a0 : List (Int × UInt64 × (List UInt8) × Int)) (a1 : List (Int × UInt64 × (List UInt8) × Int)) : Int → Option ((Int) ⊕ (Bool))
  | x_1 =>
    if (decide (x_1 < (a0.length : Int))) = true then
    (
      obind (getO a0 (x_1 : Int)) fun x_5 =>
      obind (getO a1 (x_1 : Int)) fun x_6 =>
      if (x_5 != x_6) = true then
      (
        oinr (
          some false
        )
      ) else (
        oinl (wI (x_1 + 1))
      )
    ) else (
      oinr (
        some true
      )
    )

noncomputable def F.law30_same (a0 : List (Int × UInt64 × (List UInt8) × Int)) (a1 : List (Int × UInt64 × (List UInt8) × Int)) : Option (Bool) :=
  if ((a0.length : Int) != (a1.length : Int)) = true then
  (
    some false
  ) else (
    loop (F.law30_same_L1 a0 a1) 0
  )

-- Go: signet/signetlaw30.roomy
noncomputable def F.law30_roomy_L1 (a0 : List UInt8) : List UInt8 × Int → Option ((List UInt8 × Int) ⊕ ((List UInt8 × Nat)))
  | (x_4, x_7) =>
    if (decide (x_7 < 9)) = true then
    (
      obind (apO 1 x_4 [165]) fun x_13 =>
      oinl (x_13, wI (x_7 + 1))
    ) else (
      oinr (
        grd (0 ≤ ((a0.length : Int) : Int) ∧ ((a0.length : Int) : Int).toNat ≤ x_4.length) <|
        some (x_4, ((a0.length : Int) : Int).toNat)
      )
    )

noncomputable def F.law30_roomy (a0 : List UInt8) : Option ((List UInt8 × Nat)) :=
  obind (apO 1 [] a0) fun x_1 =>
  loop (F.law30_roomy_L1 a0) (x_1, 0)

-- Go: signet/signetlaw30.CborParses
noncomputable def F.law30_CborParses_K2 (x_1 : (List UInt8 × Nat)) : List UInt8 → Option (Bool)
  | x_22 =>
    obind (F.ref30_Parse (x_22.take x_1.2)) fun x_25 =>
    obind (F.cbor_Parse (x_22.take x_1.2)) fun x_28 =>
    if (x_28.2.1 == x_25.2.1) = true then
    (
      if (x_28.2.2 == x_25.2.2) = true then
      (
        obind (F.law30_same x_28.1 x_25.1) fun x_33 =>
        some x_33
      ) else (
        some false
      )
    ) else (
      some false
    )

noncomputable def F.law30_CborParses_K1 (x_1 : (List UInt8 × Nat)) : Bool → Option (Bool)
  | x_16 =>
    if x_16 = true then
    (
      some false
    ) else (
      if (decide ((0 : Int) < ((x_1.1.take x_1.2).length : Int))) = true then
      (
        obind (getO (x_1.1.take x_1.2) (wI (Int.tdiv ((x_1.1.take x_1.2).length : Int) 2) : Int)) fun x_18 =>
        obind (getO (x_1.1.take x_1.2) (wI (Int.tdiv ((x_1.1.take x_1.2).length : Int) 2) : Int)) fun x_19 =>
        olet (x_1.1.set (wI (Int.tdiv ((x_1.1.take x_1.2).length : Int) 2) : Int).toNat (x_18 ^^^ 1)) fun x_20 =>
        F.law30_CborParses_K2 x_1 x_20
      ) else (
        F.law30_CborParses_K2 x_1 x_1.1
      )
    )

noncomputable def F.law30_CborParses (a0 : List UInt8) : Option (Bool) :=
  obind (F.law30_roomy a0) fun x_1 =>
  obind (F.cbor_Parse (x_1.1.take x_1.2)) fun x_5 =>
  obind (F.ref30_Parse a0) fun x_8 =>
  if (x_5.2.1 != x_8.2.1) = true then
  (
    F.law30_CborParses_K1 x_1 true
  ) else (
    if (x_5.2.2 != x_8.2.2) = true then
    (
      F.law30_CborParses_K1 x_1 true
    ) else (
      obind (F.law30_same x_5.1 x_8.1) fun x_13 =>
      if (!x_13) = true then
      (
        F.law30_CborParses_K1 x_1 true
      ) else (
        obind (F.law30_spared x_1.1 x_1.2 a0) fun x_15 =>
        F.law30_CborParses_K1 x_1 (!x_15)
      )
    )
  )


end Go.Gk
