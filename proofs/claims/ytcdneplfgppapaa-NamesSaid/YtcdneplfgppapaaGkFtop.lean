/- Plain functions of package top, written by a program of ours from what the seat holds of it. -/
import Derived.Test.YtcdneplfgppapaaGkB
import Derived.Test.YtcdneplfgppapaaGkS
set_option linter.unusedVariables false
namespace Go.Gk
-- Go: signet/signettop.numbers
noncomputable def F.top_numbers  : Option (List Int) :=
  obind (apO 8 [] ([0, 10, 11, 12, 20, 21, 22, 30, 31, 32, 33, 34] : List Int)) fun x_3 =>
  obind (apO 8 x_3 ([60, 61, 80, 90, 91, 92, 93, 100, 101, 102, 103, 104] : List Int)) fun x_8 =>
  obind (apO 8 x_8 ([105, 110, 111, 112, 113, 120, 130, 131, 132, 133, 134, 135] : List Int)) fun x_13 =>
  obind (apO 8 x_13 ([136, 137, 140, 141, 150, 151, 152, 153, 160, 161, 162, 163] : List Int)) fun x_18 =>
  obind (apO 8 x_18 ([170, 180, 181, 190, 1, 2, 3, 4, 5, 6, 7, 1] : List Int)) fun x_23 =>
  obind (apO 8 x_23 ([2, 3, 0, 1, 2, 3, 4, 5, 6, 7, 8, 9] : List Int)) fun x_28 =>
  obind (apO 8 x_28 ([10, 11, 12, 0, 1, 2, 3, 4, 0, 1, 2, 3] : List Int)) fun x_33 =>
  obind (apO 8 x_33 ([1, 2, 3, 4, 5, 6, 7, 8, 9, 10, 11] : List Int)) fun x_38 =>
  obind (apO 8 x_38 ([200, 201, 210, 211, 220, 221, 230, 231, 232, 233, 234, 240, 241, 242, 250] : List Int)) fun x_43 =>
  some x_43

-- Go: signet/signettop.limits
noncomputable def F.top_limits_L1  : Int → Option ((Int) ⊕ (Bool))
  | x_5 =>
    if (decide (x_5 < (([65536, 262144, 32, 600, 2048, 4096, 32, 4096, 128, 32, 65536, 8, 4096, 1024, 16, 1024, 65536, 8, 1048576, 65536] : List Int).length : Int))) = true then
    (
      obind (getO ([65536, 262144, 32, 600, 2048, 4096, 32, 4096, 128, 32, 65536, 8, 4096, 1024, 16, 1024, 65536, 8, 1048576, 65536] : List Int) (x_5 : Int)) fun x_9 =>
      obind (getO ([65536, 262144, 32, 600, 2048, 4096, 32, 4096, 128, 32, 65536, 8, 4096, 1024, 16, 1024, 65536, 8, 1048576, 65536] : List Int) (x_5 : Int)) fun x_10 =>
      if (x_9 != x_10) = true then
      (
        oinr (
          some false
        )
      ) else (
        oinl (wI (x_5 + 1))
      )
    ) else (
      oinr (
        some true
      )
    )

noncomputable def F.top_limits  : Option (Bool) :=
  loop (F.top_limits_L1) 0

-- Go: signet/signettop.wanted
noncomputable def F.top_wanted  : Option (List Int) :=
  some ([0, 10, 11, 12, 20, 21, 22, 30, 31, 32, 33, 34, 60, 61, 80, 90, 91, 92, 93, 100, 101, 102, 103, 104, 105, 110, 111, 112, 113, 120, 130, 131, 132, 133, 134, 135, 136, 137, 140, 141, 150, 151, 152, 153, 160, 161, 162, 163, 170, 180, 181, 190, 1, 2, 3, 4, 5, 6, 7, 1, 2, 3, 0, 1, 2, 3, 4, 5, 6, 7, 8, 9, 10, 11, 12, 0, 1, 2, 3, 4, 0, 1, 2, 3, 1, 2, 3, 4, 5, 6, 7, 8, 9, 10, 11, 200, 201, 210, 211, 220, 221, 230, 231, 232, 233, 234, 240, 241, 242, 250] : List Int)

-- Go: signet/signettop.Names
noncomputable def F.top_Names_L1 (x_1 : List Int) (x_4 : List Int) : Int → Option ((Int) ⊕ (Bool))
  | x_7 =>
    if (decide (x_7 < (x_1.length : Int))) = true then
    (
      obind (getO x_1 (x_7 : Int)) fun x_11 =>
      obind (getO x_4 (x_7 : Int)) fun x_12 =>
      if (x_11 != x_12) = true then
      (
        oinr (
          some false
        )
      ) else (
        oinl (wI (x_7 + 1))
      )
    ) else (
      oinr (
        obind (F.top_limits ) fun x_14 =>
        some x_14
      )
    )

noncomputable def F.top_Names  : Option (Bool) :=
  obind (F.top_numbers ) fun x_1 =>
  obind (F.top_wanted ) fun x_4 =>
  if ((x_1.length : Int) != (x_4.length : Int)) = true then
  (
    some false
  ) else (
    loop (F.top_Names_L1 x_1 x_4) 0
  )

end Go.Gk
