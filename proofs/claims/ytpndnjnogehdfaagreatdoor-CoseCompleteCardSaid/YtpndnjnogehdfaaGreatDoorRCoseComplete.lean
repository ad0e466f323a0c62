import Derived.Test.YtpndnjnogehdfaaGreatDoorRTabs
import Derived.Test.YtpndnjnogehdfaaGreatDoorGkR
import Derived.Test.YtpndnjnogehdfaaGreatDoorGkQ0
import Derived.Test.YtpndnjnogehdfaaGreatDoorRWlaw31
import Derived.WalkKit
set_option linter.unusedVariables false
set_option linter.unusedSimpArgs false
set_option linter.unusedSectionVars false
namespace Go.Proofs.YtpndnjnogehdfaaGreatDoor.coseComplete
open Go.ChangeShapes Go.WideShapes Go.ChangeAt Go.RowKit Go.Gk Go.Gk.Cb
set_option linter.unusedVariables false
theorem own : ownKnob Tryz.prog.godebug = none := by kernel_rfl
theorem laidOut : laidOutB Tryz.prog = true := by kernel_rfl
set_option maxRecDepth 100000 in
theorem contract (H : Type) (enc : TypeId × Value → H) (W : World) (base : Nat) (args : Array Value) (ds gs : List (DataW H)) (before : List MemPlace)
    (hval0 : ∀ (j : Nat) t v, Tryz.f3.params[j]? = some t → args[j]? = some v → Value.okWide Tryz.prog W .any base t v)
    (hW : DataW.Whole enc Tryz.prog Tryz.f3.params.toList Rows.coseCompleteSpec.vars false W args.toList ds gs before)
    (hsz0 : (DataW.weightsEach Tryz.prog (Tryz.f3.params.toList ++ Rows.coseCompleteSpec.plain.varTypes Tryz.prog) (ds ++ gs)).all (fun x => decide (x ≤ reachBytes)) = true)
    (hL : laidMetH Tryz.prog Rows.coseCompleteRow.laid W) :
    Calls Tryz.prog 3 args W fun e W' => ∃ v, e = .returned v ∧ Rows.coseCompleteSpec.post enc Tryz.prog Tryz.f3 false true false false W args v W' := by
  have hW' := hW
  obtain ⟨p, q, hA0, hV, rfl, hfz, hnd⟩ := hW
  obtain ⟨rfl, rfl⟩ := trodVars_none hV
  have hsz := hsz0
  have hval : ∀ (j : Nat) t v, Tryz.f3.params[j]? = some t → args[j]? = some v → Value.okWide Tryz.prog W .any base t v := hval0
  have hA : DataW.TrodAll enc Tryz.prog W 0 (fun _ => true) true Tryz.f3.params.toList args.toList ds p := hA0
  rw [Tryz.params3] at hA hval hsz
  obtain ⟨v0, vs0, d0, ds0, p0, q0, hargs, rfl, rfl, h0, r0⟩ := trodAll_cons hA
  obtain ⟨v1, vs1, d1, ds1, p1, q1, rfl, rfl, rfl, h1, r1⟩ := trodAll_cons r0
  obtain ⟨v2, vs2, d2, ds2, p2, q2, rfl, rfl, rfl, h2, r2⟩ := trodAll_cons r1
  obtain ⟨v3, vs3, d3, ds3, p3, q3, rfl, rfl, rfl, h3, r3⟩ := trodAll_cons r2
  obtain ⟨v4, vs4, d4, ds4, p4, q4, rfl, rfl, rfl, h4, r4⟩ := trodAll_cons r3
  obtain ⟨rfl, rfl, rfl⟩ := trodAll_nil r4
  obtain rfl : args = #[v0, v1, v2, v3, v4] := by cases args; simp_all
  obtain ⟨l0, hl0, hd0⟩ := arg_bytes Tryz.underlying22 Tryz.underlying5 (by kernel_rfl) (hval 0 22 v0 rfl rfl) h0
  have hs0 : l0.length ≤ 140737488351232 := size_bytes hsz (j := 0) rfl rfl Tryz.underlying22 (by kernel_rfl) hd0
  obtain ⟨l1, hl1, hd1⟩ := arg_bytes Tryz.underlying22 Tryz.underlying5 (by kernel_rfl) (hval 1 22 v1 rfl rfl) h1
  have hs1 : l1.length ≤ 140737488351232 := size_bytes hsz (j := 1) rfl rfl Tryz.underlying22 (by kernel_rfl) hd1
  obtain ⟨l2, hl2, hd2⟩ := arg_words Tryz.underlying24 Tryz.underlying97 (by kernel_rfl) (hval 2 24 v2 rfl rfl) h2
  have hs2 : l2.length ≤ 35184372087808 := size_words hsz (j := 2) rfl rfl Tryz.underlying24 (by kernel_rfl) hd2
  obtain ⟨l3, hl3, hd3⟩ := arg_words Tryz.underlying24 Tryz.underlying97 (by kernel_rfl) (hval 3 24 v3 rfl rfl) h3
  have hs3 : l3.length ≤ 35184372087808 := size_words hsz (j := 3) rfl rfl Tryz.underlying24 (by kernel_rfl) hd3
  obtain ⟨v4_0, v4_1, l4_0, l4_1, q4_, d4_0, d4_1, rfl, hl4_0, hl4_1, hd4, hd4_0, hd4_1⟩ := arg_point Tryz.underlying26 rfl rfl rfl (by kernel_rfl) Tryz.underlying24 Tryz.underlying24 Tryz.underlying4 Tryz.underlying97 (by kernel_rfl) (by kernel_rfl) (by kernel_rfl) (by kernel_rfl) (hval 4 26 v4 rfl rfl) h4
  have hz4 := size_part hsz (j := 4) (us := [24, 24, 4]) rfl (by rw [hd4]; rfl) Tryz.underlying26 rfl
  have hs4_0 : l4_0.length ≤ 35184372087808 := size_words hz4 (j := 0) rfl rfl Tryz.underlying24 (by kernel_rfl) hd4_0
  have hs4_1 : l4_1.length ≤ 35184372087808 := size_words hz4 (j := 1) rfl rfl Tryz.underlying24 (by kernel_rfl) hd4_1
  refine (Go.Proofs.c_law31_CoseComplete q4_ (law31_CoseComplete_eq l0 l1 l2 l3 l4_0 l4_1 q4_ (by omega) (by omega) (by omega) (by omega) (by omega) (by omega)) (tabs hL) hl0 hl1 hl2 hl3 hl4_0 hl4_1).mono fun e W' he => ?_
  cases e with
  | returned v =>
    obtain ⟨rfl, hS⟩ := he
    exact ⟨_, rfl, law_post rfl rfl rfl rfl Tryz.underlying4 laidOut (by kernel_rfl) hW' hS.fr.below⟩
  | _ => exact he.elim
set_option maxRecDepth 100000 in
theorem lifted (os : Os) (started : os.Started) (H : Type) (enc : TypeId × Value → H) (F : Stop.Interp) :
    ReturnsInHanded {} Tryz.checked os 3 .any ((OpenSpec.ofChange Rows.coseCompleteSpec).preRow enc Tryz.prog Tryz.f3 Rows.coseCompleteRow.domain false Rows.coseCompleteRow.laid) (((OpenSpec.ofChange Rows.coseCompleteSpec).at F).post enc Tryz.prog Tryz.f3 false true false false) := by
  have hw : (DataW.whole enc Tryz.prog ((laidWorld os).forCall (fun _ _ => 0) ⟨#[], #[.slice none 0 0, .slice none 0 0, .slice none 0 0, .slice none 0 0, .agg #[.slice none 0 0, .slice none 0 0, .bool false]], []⟩).memory Tryz.f3.params.toList Rows.coseCompleteSpec.vars false (#[.slice none 0 0, .slice none 0 0, .slice none 0 0, .slice none 0 0, .agg #[.slice none 0 0, .slice none 0 0, .bool false]] : Array Value).toList 8).map (fun x => (x.1, x.2.1)) =
      some ([.nil, .nil, .nil, .nil, .agg [.nil, .nil, .lit (.bool false)]], []) := by kernel_rfl
  obtain ⟨⟨x1, x2, x3⟩, hx, hx1⟩ := Option.map_eq_some_iff.1 hw
  simp only [Prod.mk.injEq] at hx1
  obtain ⟨rfl, rfl⟩ := hx1
  refine returnsInHanded_of_row (C := Tryz.checked) (s := OpenSpec.ofChange Rows.coseCompleteSpec) own started (by kernel_rfl) Tryz.func3
    (witness_row_atRef (enc := enc) (C := Tryz.checked) false (laidWorld os) #[.slice none 0 0, .slice none 0 0, .slice none 0 0, .slice none 0 0, .agg #[.slice none 0 0, .slice none 0 0, .bool false]] (laidWorld_os os) (by kernel_rfl) (by kernel_rfl) (by kernel_rfl)
      (OpenSpec.preRow_of_cond 8 hx (by kernel_rfl) (fun k hk => by cases hk) (by kernel_rfl) (laid_met os _))) ?_
  intro W base args ds gs before hval hW _ hcond hsz hL _ _
  exact contract H enc W base args ds gs before hval hW hsz hL
theorem closed0 : (Rows.coseCompleteRow.inPlace == Tryz.pinned.checked.prog.inPlace 3) = true := by kernel_rfl
theorem closed1 : (Rows.coseCompleteRow.unfollowed == Tryz.pinned.checked.prog.unfollowed 3) = true := by kernel_rfl
theorem closed2 : (Rows.coseCompleteRow.recurses == Tryz.pinned.checked.prog.recurses 3) = true := by kernel_rfl
theorem closed3 : (Rows.coseCompleteRow.named == Tryz.pinned.checked.prog.varsNamed 3) = true := by kernel_rfl
theorem closed : joinedFacts Tryz.pinned.checked.prog 3 Tryz.f3 (OpenSpec.ofChange Rows.coseCompleteSpec).bare Rows.coseCompleteRow = true := by
  unfold joinedFacts
  rw [closed0, closed1, closed2, closed3]
  kernel_rfl
theorem over : Rows.coseCompleteRow.holds Tryz.pinned (OpenSpec.ofChange Rows.coseCompleteSpec) :=
  OpenClaim.holds_of_cond 3 Tryz.f3 rfl rfl rfl rfl rfl rfl rfl ⟨rfl, rfl, rfl, rfl, rfl⟩ rfl rfl rfl rfl rfl (by kernel_rfl) Tryz.func3 closed
    (of_decide_eq_true (by kernel_rfl)) (by unfold Func.isWrapper; first | (rw [if_pos (by decide +kernel)]; kernel_rfl) | (rw [if_neg (by decide +kernel)]; exact ⟨rfl, rfl⟩))
    (fun os started H enc _ F => by rw [OpenClaim.pre_eq_preRow]; exact lifted os started H enc F)
theorem plain (f : FuncId) (fn : Func) (hf : Tryz.pinned.checked.prog.funcNamed "signet/signetlaw31.CoseComplete" = some f) (hfn : Tryz.pinned.checked.prog.funcs[f]? = some fn) :
    false = Tryz.pinned.checked.prog.looks [] ∧ ∀ (j : Nat) t, fn.params[j]? = some t → Tryz.pinned.checked.prog.wantsStandIn t = false := by
  obtain rfl : f = 3 := Option.some.inj ((show Tryz.prog.funcNamed "signet/signetlaw31.CoseComplete" = some 3 by kernel_rfl).symm.trans hf) |>.symm
  obtain rfl : fn = Tryz.f3 := (Option.some.inj (Tryz.func3.symm.trans hfn)).symm
  refine ⟨by kernel_rfl, fun j t ht => ?_⟩
  rw [Tryz.params3] at ht
  have hm : t ∈ [22, 22, 24, 24, 26] := by simpa using Array.mem_of_getElem? ht
  have hall : ([22, 22, 24, 24, 26].all fun u => !Tryz.prog.wantsStandIn u) = true := by kernel_rfl
  exact (show Tryz.prog.wantsStandIn t = false by simpa using List.all_eq_true.1 hall t hm)
theorem proved : Rows.CoseCompleteCardSaid :=
  Claim7.holds_tied_plain_at .later [] _ _ _ _ over (fun _ h => by cases h) (by kernel_rfl) (fun _ h => by cases h) coseComplete_row_tie rfl ⟨rfl, rfl⟩ (by kernel_rfl) rfl plain (by kernel_rfl)
#print axioms proved
end Go.Proofs.YtpndnjnogehdfaaGreatDoor.coseComplete
