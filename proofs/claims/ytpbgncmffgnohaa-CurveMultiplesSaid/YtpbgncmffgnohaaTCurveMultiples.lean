import Derived.Test.YtpbgncmffgnohaaRows
import Derived.Test.YtpbgncmffgnohaaGkR
import Derived.Test.YtpbgncmffgnohaaGkUR
import Derived.Test.YtpbgncmffgnohaaTWlaw11c
import Derived.WalkKit
set_option linter.unusedVariables false
set_option linter.unusedSimpArgs false
namespace Go.Proofs.Ytpbgncmffgnohaa.curveMultiples
open Go.ChangeShapes Go.WideShapes Go.ChangeAt Go.RowKit Go.Gk Go.Gk.Bn
set_option linter.unusedVariables false
theorem own : ownKnob Try.prog.godebug = none := by kernel_rfl
theorem laidOut : laidOutB Try.prog = true := by kernel_rfl
set_option maxRecDepth 100000 in
theorem contract (H : Type) (enc : TypeId × Value → H) (W : World) (base : Nat) (args : Array Value) (ds gs : List (DataW H)) (before : List MemPlace)
    (hval0 : ∀ (j : Nat) t v, Try.f6.params[j]? = some t → args[j]? = some v → Value.okWide Try.prog W .any base t v)
    (hW : DataW.Whole enc Try.prog Try.f6.params.toList Rows.curveMultiplesSpec.vars false W args.toList ds gs before)
    (hsz0 : (DataW.weightsEach Try.prog (Try.f6.params.toList ++ Rows.curveMultiplesSpec.plain.varTypes Try.prog) (ds ++ gs)).all (fun x => decide (x ≤ reachBytes)) = true) :
    Calls Try.prog 6 args W fun e W' => ∃ v, e = .returned v ∧ Rows.curveMultiplesSpec.post enc Try.prog Try.f6 false true false false W args v W' := by
  have hW' := hW
  obtain ⟨p, q, hA0, hV, rfl, hfz, hnd⟩ := hW
  obtain ⟨rfl, rfl⟩ := trodVars_none hV
  have hsz := hsz0
  have hval := hval0
  have hA : DataW.TrodAll enc Try.prog W 0 (fun _ => true) true Try.f6.params.toList args.toList ds p := hA0
  rw [Try.params6] at hA hval hsz
  obtain ⟨v0, vs0, d0, ds0, p0, q0, hargs, rfl, rfl, h0, r0⟩ := trodAll_cons hA
  obtain ⟨v1, vs1, d1, ds1, p1, q1, rfl, rfl, rfl, h1, r1⟩ := trodAll_cons r0
  obtain ⟨v2, vs2, d2, ds2, p2, q2, rfl, rfl, rfl, h2, r2⟩ := trodAll_cons r1
  obtain ⟨v3, vs3, d3, ds3, p3, q3, rfl, rfl, rfl, h3, r3⟩ := trodAll_cons r2
  obtain ⟨rfl, rfl, rfl⟩ := trodAll_nil r3
  obtain rfl : args = #[v0, v1, v2, v3] := by cases args; simp_all
  obtain ⟨n0, rfl, hn0⟩ := arg_int Try.underlying22 (hval 0 22 v0 rfl rfl) h0
  obtain ⟨l1, hl1, hd1⟩ := arg_words Try.underlying24 Try.underlying52 (by kernel_rfl) (hval 1 24 v1 rfl rfl) h1
  have hs1 : l1.length ≤ 35184372087808 := size_words hsz (j := 1) rfl rfl Try.underlying24 (by kernel_rfl) hd1
  obtain ⟨l2, hl2, hd2⟩ := arg_words Try.underlying24 Try.underlying52 (by kernel_rfl) (hval 2 24 v2 rfl rfl) h2
  have hs2 : l2.length ≤ 35184372087808 := size_words hsz (j := 2) rfl rfl Try.underlying24 (by kernel_rfl) hd2
  obtain ⟨v3_0, v3_1, l3_0, l3_1, q3_, d3_0, d3_1, rfl, hl3_0, hl3_1, hd3, hd3_0, hd3_1⟩ := arg_point Try.underlying26 rfl rfl rfl (by kernel_rfl) Try.underlying24 Try.underlying24 Try.underlying4 Try.underlying52 (by kernel_rfl) (by kernel_rfl) (by kernel_rfl) (by kernel_rfl) (hval 3 26 v3 rfl rfl) h3
  have hz3 := size_part hsz (j := 3) (us := [24, 24, 4]) rfl (by rw [hd3]; rfl) Try.underlying26 rfl
  have hs3_0 : l3_0.length ≤ 35184372087808 := size_words hz3 (j := 0) rfl rfl Try.underlying24 (by kernel_rfl) hd3_0
  have hs3_1 : l3_1.length ≤ 35184372087808 := size_words hz3 (j := 1) rfl rfl Try.underlying24 (by kernel_rfl) hd3_1
  refine (Go.Proofs.c_law11_CurveMultiples W n0 l1 l2 l3_0 l3_1 q3_ v1 v2 v3_0 v3_1 hl1 hl2 hl3_0 hl3_1 true (law11_CurveMultiples_eq n0 l1 l2 l3_0 l3_1 q3_ (by omega) (by omega) (by omega) (by omega))).mono fun e W' he => ?_
  cases e with
  | returned v =>
    obtain ⟨rfl, hS⟩ := he
    exact ⟨_, rfl, law_post rfl rfl rfl rfl Try.underlying4 laidOut (by kernel_rfl) hW' hS.fr.below⟩
  | _ => exact he.elim
set_option maxRecDepth 100000 in
theorem lifted (os : Os) (started : os.Started) (H : Type) (enc : TypeId × Value → H) :
    ReturnsInHanded {} Try.checked os 6 .any (Rows.curveMultiplesSpec.pre6 enc Try.prog Try.f6 Rows.curveMultiplesRow.domain false) (Rows.curveMultiplesSpec.post enc Try.prog Try.f6 false true false false) := by
  refine returnsInHanded_of_change_sized (C := Try.checked) own started (by kernel_rfl) Try.func6
    (ChangeSpec.witness6 (enc := enc) (C := Try.checked) false ⟨#[], #[.int .i64 0, .slice none 0 0, .slice none 0 0, .agg #[.slice none 0 0, .slice none 0 0, .bool false]], []⟩ 8 (by kernel_rfl) (by kernel_rfl) (by kernel_rfl) (by kernel_rfl)) ?_
  intro W base args ds gs before hval hW _ hsz _
  exact contract H enc W base args ds gs before hval hW hsz
theorem over : Rows.curveMultiplesRow.holds Try.pinned (OpenSpec.ofChange Rows.curveMultiplesSpec) :=
  OpenClaim.holds_of_wide 6 Try.f6 rfl rfl rfl rfl rfl rfl rfl ⟨rfl, rfl, rfl, rfl, rfl⟩ rfl rfl rfl rfl rfl (by kernel_rfl) Try.func6 (by kernel_rfl)
    (of_decide_eq_true (by kernel_rfl)) (by unfold Func.isWrapper; first | (rw [if_pos (by decide +kernel)]; kernel_rfl) | (rw [if_neg (by decide +kernel)]; exact ⟨rfl, rfl⟩))
    (fun os started H enc _ => lifted os started H enc)
theorem proved : Rows.CurveMultiplesSaid := over
#print axioms proved
end Go.Proofs.Ytpbgncmffgnohaa.curveMultiples
