import Derived.Test.YtpbgncmffgnohaaGreatRows
import Derived.Test.YtpbgncmffgnohaaGreatGkR
import Derived.Test.YtpbgncmffgnohaaGreatGkUJ
import Derived.Test.YtpbgncmffgnohaaGreatTWlaw11b
import Derived.WalkKit
set_option linter.unusedVariables false
set_option linter.unusedSimpArgs false
namespace Go.Proofs.YtpbgncmffgnohaaGreat.curveCodes
open Go.ChangeShapes Go.WideShapes Go.ChangeAt Go.RowKit Go.Gk Go.Gk.Bn
set_option linter.unusedVariables false
theorem own : ownKnob Tryz.prog.godebug = none := by kernel_rfl
theorem laidOut : laidOutB Tryz.prog = true := by kernel_rfl
set_option maxRecDepth 100000 in
theorem contract (H : Type) (enc : TypeId × Value → H) (W : World) (base : Nat) (args : Array Value) (ds gs : List (DataW H)) (before : List MemPlace)
    (hval0 : ∀ (j : Nat) t v, Tryz.f3.params[j]? = some t → args[j]? = some v → Value.okWide Tryz.prog W .any base t v)
    (hW : DataW.Whole enc Tryz.prog Tryz.f3.params.toList Rows.curveCodesSpec.vars false W args.toList ds gs before)
    (hsz0 : (DataW.weightsEach Tryz.prog (Tryz.f3.params.toList ++ Rows.curveCodesSpec.plain.varTypes Tryz.prog) (ds ++ gs)).all (fun x => decide (x ≤ reachBytes)) = true) :
    Calls Tryz.prog 3 args W fun e W' => ∃ v, e = .returned v ∧ Rows.curveCodesSpec.post enc Tryz.prog Tryz.f3 false true false false W args v W' := by
  have hW' := hW
  obtain ⟨p, q, hA0, hV, rfl, hfz, hnd⟩ := hW
  obtain ⟨rfl, rfl⟩ := trodVars_none hV
  have hsz := hsz0
  have hval := hval0
  have hA : DataW.TrodAll enc Tryz.prog W 0 (fun _ => true) true Tryz.f3.params.toList args.toList ds p := hA0
  rw [Tryz.params3] at hA hval hsz
  obtain ⟨v0, vs0, d0, ds0, p0, q0, hargs, rfl, rfl, h0, r0⟩ := trodAll_cons hA
  obtain ⟨v1, vs1, d1, ds1, p1, q1, rfl, rfl, rfl, h1, r1⟩ := trodAll_cons r0
  obtain ⟨v2, vs2, d2, ds2, p2, q2, rfl, rfl, rfl, h2, r2⟩ := trodAll_cons r1
  obtain ⟨v3, vs3, d3, ds3, p3, q3, rfl, rfl, rfl, h3, r3⟩ := trodAll_cons r2
  obtain ⟨rfl, rfl, rfl⟩ := trodAll_nil r3
  obtain rfl : args = #[v0, v1, v2, v3] := by cases args; simp_all
  obtain ⟨n0, rfl, hn0⟩ := arg_int Tryz.underlying22 (hval 0 22 v0 rfl rfl) h0
  obtain ⟨l1, hl1, hd1⟩ := arg_bytes Tryz.underlying23 Tryz.underlying5 (by kernel_rfl) (hval 1 23 v1 rfl rfl) h1
  have hs1 : l1.length ≤ 140737488351232 := size_bytes hsz (j := 1) rfl rfl Tryz.underlying23 (by kernel_rfl) hd1
  obtain ⟨l2, hl2, hd2⟩ := arg_bytes Tryz.underlying23 Tryz.underlying5 (by kernel_rfl) (hval 2 23 v2 rfl rfl) h2
  have hs2 : l2.length ≤ 140737488351232 := size_bytes hsz (j := 2) rfl rfl Tryz.underlying23 (by kernel_rfl) hd2
  obtain ⟨v3_0, v3_1, l3_0, l3_1, q3_, d3_0, d3_1, rfl, hl3_0, hl3_1, hd3, hd3_0, hd3_1⟩ := arg_point Tryz.underlying27 rfl rfl rfl (by kernel_rfl) Tryz.underlying25 Tryz.underlying25 Tryz.underlying4 Tryz.underlying52 (by kernel_rfl) (by kernel_rfl) (by kernel_rfl) (by kernel_rfl) (hval 3 27 v3 rfl rfl) h3
  have hz3 := size_part hsz (j := 3) (us := [25, 25, 4]) rfl (by rw [hd3]; rfl) Tryz.underlying27 rfl
  have hs3_0 : l3_0.length ≤ 35184372087808 := size_words hz3 (j := 0) rfl rfl Tryz.underlying25 (by kernel_rfl) hd3_0
  have hs3_1 : l3_1.length ≤ 35184372087808 := size_words hz3 (j := 1) rfl rfl Tryz.underlying25 (by kernel_rfl) hd3_1
  refine (Go.Proofs.c_law11_CurveCodes W n0 l1 l2 l3_0 l3_1 q3_ v1 v2 v3_0 v3_1 hl1 hl2 hl3_0 hl3_1 true (law11_CurveCodes_eq n0 l1 l2 l3_0 l3_1 q3_ (by omega) (by omega) (by omega) (by omega))).mono fun e W' he => ?_
  cases e with
  | returned v =>
    obtain ⟨rfl, hS⟩ := he
    exact ⟨_, rfl, law_post rfl rfl rfl rfl Tryz.underlying4 laidOut (by kernel_rfl) hW' hS.fr.below⟩
  | _ => exact he.elim
set_option maxRecDepth 100000 in
theorem lifted (os : Os) (started : os.Started) (H : Type) (enc : TypeId × Value → H) :
    ReturnsInHanded {} Tryz.checked os 3 .any (Rows.curveCodesSpec.pre6 enc Tryz.prog Tryz.f3 Rows.curveCodesRow.domain false) (Rows.curveCodesSpec.post enc Tryz.prog Tryz.f3 false true false false) := by
  refine returnsInHanded_of_change_sized (C := Tryz.checked) own started (by kernel_rfl) Tryz.func3
    (ChangeSpec.witness6 (enc := enc) (C := Tryz.checked) false ⟨#[], #[.int .i64 0, .slice none 0 0, .slice none 0 0, .agg #[.slice none 0 0, .slice none 0 0, .bool false]], []⟩ 8 (by kernel_rfl) (by kernel_rfl) (by kernel_rfl) (by kernel_rfl)) ?_
  intro W base args ds gs before hval hW _ hsz _
  exact contract H enc W base args ds gs before hval hW hsz
theorem over : Rows.curveCodesRow.holds Tryz.pinned (OpenSpec.ofChange Rows.curveCodesSpec) :=
  OpenClaim.holds_of_wide 3 Tryz.f3 rfl rfl rfl rfl rfl rfl rfl ⟨rfl, rfl, rfl, rfl, rfl⟩ rfl rfl rfl rfl rfl (by kernel_rfl) Tryz.func3 (by kernel_rfl)
    (of_decide_eq_true (by kernel_rfl)) (by unfold Func.isWrapper; first | (rw [if_pos (by decide +kernel)]; kernel_rfl) | (rw [if_neg (by decide +kernel)]; exact ⟨rfl, rfl⟩))
    (fun os started H enc _ => lifted os started H enc)
theorem proved : Rows.CurveCodesSaid := over
#print axioms proved
end Go.Proofs.YtpbgncmffgnohaaGreat.curveCodes
