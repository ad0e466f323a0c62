import Derived.Test.YtpbgncmffgnohaaGreatRows
import Derived.Test.YtpbgncmffgnohaaGreatGkR
import Derived.Test.YtpbgncmffgnohaaGreatGkUW
import Derived.Test.YtpbgncmffgnohaaGreatUWlaw11d
import Derived.WalkKit
set_option linter.unusedVariables false
set_option linter.unusedSimpArgs false
namespace Go.Proofs.YtpbgncmffgnohaaGreat.curveLine
open Go.ChangeShapes Go.WideShapes Go.ChangeAt Go.RowKit Go.Gk Go.Gk.Bn
set_option linter.unusedVariables false
theorem own : ownKnob Tryz.prog.godebug = none := by kernel_rfl
theorem laidOut : laidOutB Tryz.prog = true := by kernel_rfl
set_option maxRecDepth 100000 in
theorem contract (H : Type) (enc : TypeId × Value → H) (W : World) (base : Nat) (args : Array Value) (ds gs : List (DataW H)) (before : List MemPlace)
    (hval0 : ∀ (j : Nat) t v, Tryz.f5.params[j]? = some t → args[j]? = some v → Value.okWide Tryz.prog W .any base t v)
    (hW : DataW.Whole enc Tryz.prog Tryz.f5.params.toList Rows.curveLineSpec.vars false W args.toList ds gs before)
    (hsz0 : (DataW.weightsEach Tryz.prog (Tryz.f5.params.toList ++ Rows.curveLineSpec.plain.varTypes Tryz.prog) (ds ++ gs)).all (fun x => decide (x ≤ reachBytes)) = true) :
    Calls Tryz.prog 5 args W fun e W' => ∃ v, e = .returned v ∧ Rows.curveLineSpec.post enc Tryz.prog Tryz.f5 false true false false W args v W' := by
  have hW' := hW
  obtain ⟨p, q, hA0, hV, rfl, hfz, hnd⟩ := hW
  obtain ⟨rfl, rfl⟩ := trodVars_none hV
  have hsz := hsz0
  have hval := hval0
  have hA : DataW.TrodAll enc Tryz.prog W 0 (fun _ => true) true Tryz.f5.params.toList args.toList ds p := hA0
  rw [Tryz.params5] at hA hval hsz
  obtain ⟨v0, vs0, d0, ds0, p0, q0, hargs, rfl, rfl, h0, r0⟩ := trodAll_cons hA
  obtain ⟨v1, vs1, d1, ds1, p1, q1, rfl, rfl, rfl, h1, r1⟩ := trodAll_cons r0
  obtain ⟨v2, vs2, d2, ds2, p2, q2, rfl, rfl, rfl, h2, r2⟩ := trodAll_cons r1
  obtain ⟨rfl, rfl, rfl⟩ := trodAll_nil r2
  obtain rfl : args = #[v0, v1, v2] := by cases args; simp_all
  obtain ⟨n0, rfl, hn0⟩ := arg_int Tryz.underlying22 (hval 0 22 v0 rfl rfl) h0
  obtain ⟨v1_0, v1_1, l1_0, l1_1, q1_, d1_0, d1_1, rfl, hl1_0, hl1_1, hd1, hd1_0, hd1_1⟩ := arg_point Tryz.underlying27 rfl rfl rfl (by kernel_rfl) Tryz.underlying25 Tryz.underlying25 Tryz.underlying4 Tryz.underlying52 (by kernel_rfl) (by kernel_rfl) (by kernel_rfl) (by kernel_rfl) (hval 1 27 v1 rfl rfl) h1
  have hz1 := size_part hsz (j := 1) (us := [25, 25, 4]) rfl (by rw [hd1]; rfl) Tryz.underlying27 rfl
  have hs1_0 : l1_0.length ≤ 35184372087808 := size_words hz1 (j := 0) rfl rfl Tryz.underlying25 (by kernel_rfl) hd1_0
  have hs1_1 : l1_1.length ≤ 35184372087808 := size_words hz1 (j := 1) rfl rfl Tryz.underlying25 (by kernel_rfl) hd1_1
  obtain ⟨v2_0, v2_1, l2_0, l2_1, q2_, d2_0, d2_1, rfl, hl2_0, hl2_1, hd2, hd2_0, hd2_1⟩ := arg_point Tryz.underlying27 rfl rfl rfl (by kernel_rfl) Tryz.underlying25 Tryz.underlying25 Tryz.underlying4 Tryz.underlying52 (by kernel_rfl) (by kernel_rfl) (by kernel_rfl) (by kernel_rfl) (hval 2 27 v2 rfl rfl) h2
  have hz2 := size_part hsz (j := 2) (us := [25, 25, 4]) rfl (by rw [hd2]; rfl) Tryz.underlying27 rfl
  have hs2_0 : l2_0.length ≤ 35184372087808 := size_words hz2 (j := 0) rfl rfl Tryz.underlying25 (by kernel_rfl) hd2_0
  have hs2_1 : l2_1.length ≤ 35184372087808 := size_words hz2 (j := 1) rfl rfl Tryz.underlying25 (by kernel_rfl) hd2_1
  refine (Go.Proofs.c_law11_CurveLine W n0 l1_0 l1_1 q1_ l2_0 l2_1 q2_ v1_0 v1_1 v2_0 v2_1 hl1_0 hl1_1 hl2_0 hl2_1 true (law11_CurveLine_eq n0 l1_0 l1_1 q1_ l2_0 l2_1 q2_ (by omega) (by omega) (by omega) (by omega))).mono fun e W' he => ?_
  cases e with
  | returned v =>
    obtain ⟨rfl, hS⟩ := he
    exact ⟨_, rfl, law_post rfl rfl rfl rfl Tryz.underlying4 laidOut (by kernel_rfl) hW' hS.fr.below⟩
  | _ => exact he.elim
set_option maxRecDepth 100000 in
theorem lifted (os : Os) (started : os.Started) (H : Type) (enc : TypeId × Value → H) :
    ReturnsInHanded {} Tryz.checked os 5 .any (Rows.curveLineSpec.pre6 enc Tryz.prog Tryz.f5 Rows.curveLineRow.domain false) (Rows.curveLineSpec.post enc Tryz.prog Tryz.f5 false true false false) := by
  refine returnsInHanded_of_change_sized (C := Tryz.checked) own started (by kernel_rfl) Tryz.func5
    (ChangeSpec.witness6 (enc := enc) (C := Tryz.checked) false ⟨#[], #[.int .i64 0, .agg #[.slice none 0 0, .slice none 0 0, .bool false], .agg #[.slice none 0 0, .slice none 0 0, .bool false]], []⟩ 8 (by kernel_rfl) (by kernel_rfl) (by kernel_rfl) (by kernel_rfl)) ?_
  intro W base args ds gs before hval hW _ hsz _
  exact contract H enc W base args ds gs before hval hW hsz
theorem over : Rows.curveLineRow.holds Tryz.pinned (OpenSpec.ofChange Rows.curveLineSpec) :=
  OpenClaim.holds_of_wide 5 Tryz.f5 rfl rfl rfl rfl rfl rfl rfl ⟨rfl, rfl, rfl, rfl, rfl⟩ rfl rfl rfl rfl rfl (by kernel_rfl) Tryz.func5 (by kernel_rfl)
    (of_decide_eq_true (by kernel_rfl)) (by unfold Func.isWrapper; first | (rw [if_pos (by decide +kernel)]; kernel_rfl) | (rw [if_neg (by decide +kernel)]; exact ⟨rfl, rfl⟩))
    (fun os started H enc _ => lifted os started H enc)
theorem proved : Rows.CurveLineSaid := over
#print axioms proved
end Go.Proofs.YtpbgncmffgnohaaGreat.curveLine
