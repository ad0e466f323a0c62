import Derived.Test.YtahgjafdhjbkeaaGreatDoorRTabs
import Derived.Test.YtahgjafdhjbkeaaGreatDoorGkR
import Derived.Test.YtahgjafdhjbkeaaGreatDoorGkX9
import Derived.Test.YtahgjafdhjbkeaaGreatDoorRWlaw12
import Derived.WalkKit
set_option linter.unusedVariables false
set_option linter.unusedSimpArgs false
set_option linter.unusedSectionVars false
namespace Go.Proofs.YtahgjafdhjbkeaaGreatDoor.ecdsaRecovers
open Go.ChangeShapes Go.WideShapes Go.ChangeAt Go.RowKit Go.Gk Go.Gk.Bn
set_option linter.unusedVariables false
theorem own : ownKnob Tryz.prog.godebug = none := by kernel_rfl
theorem laidOut : laidOutB Tryz.prog = true := by kernel_rfl
set_option maxRecDepth 100000 in
theorem contract (H : Type) (enc : TypeId × Value → H) (W : World) (base : Nat) (args : Array Value) (ds gs : List (DataW H)) (before : List MemPlace)
    (hval0 : ∀ (j : Nat) t v, Tryz.f4.params[j]? = some t → args[j]? = some v → Value.okWide Tryz.prog W .any base t v)
    (hW : DataW.Whole enc Tryz.prog Tryz.f4.params.toList Rows.ecdsaRecoversSpec.vars false W args.toList ds gs before)
    (hsz0 : (DataW.weightsEach Tryz.prog (Tryz.f4.params.toList ++ Rows.ecdsaRecoversSpec.plain.varTypes Tryz.prog) (ds ++ gs)).all (fun x => decide (x ≤ reachBytes)) = true)
    (hL : laidMetH Tryz.prog Rows.ecdsaRecoversRow.laid W) :
    Calls Tryz.prog 4 args W fun e W' => ∃ v, e = .returned v ∧ Rows.ecdsaRecoversSpec.post enc Tryz.prog Tryz.f4 false true false false W args v W' := by
  have hW' := hW
  obtain ⟨p, q, hA0, hV, rfl, hfz, hnd⟩ := hW
  obtain ⟨rfl, rfl⟩ := trodVars_none hV
  have hsz := hsz0
  have hval : ∀ (j : Nat) t v, Tryz.f4.params[j]? = some t → args[j]? = some v → Value.okWide Tryz.prog W .any base t v := hval0
  have hA : DataW.TrodAll enc Tryz.prog W 0 (fun _ => true) true Tryz.f4.params.toList args.toList ds p := hA0
  rw [Tryz.params4] at hA hval hsz
  obtain ⟨v0, vs0, d0, ds0, p0, q0, hargs, rfl, rfl, h0, r0⟩ := trodAll_cons hA
  obtain ⟨v1, vs1, d1, ds1, p1, q1, rfl, rfl, rfl, h1, r1⟩ := trodAll_cons r0
  obtain ⟨v2, vs2, d2, ds2, p2, q2, rfl, rfl, rfl, h2, r2⟩ := trodAll_cons r1
  obtain ⟨v3, vs3, d3, ds3, p3, q3, rfl, rfl, rfl, h3, r3⟩ := trodAll_cons r2
  obtain ⟨v4, vs4, d4, ds4, p4, q4, rfl, rfl, rfl, h4, r4⟩ := trodAll_cons r3
  obtain ⟨v5, vs5, d5, ds5, p5, q5, rfl, rfl, rfl, h5, r5⟩ := trodAll_cons r4
  obtain ⟨rfl, rfl, rfl⟩ := trodAll_nil r5
  obtain rfl : args = #[v0, v1, v2, v3, v4, v5] := by cases args; simp_all
  obtain ⟨l0, rfl, hd0, _, hw0⟩ := open_int Tryz.underlying22 (hval 0 22 v0 rfl rfl) h0
  have hb0 : -9223372036854775808 ≤ l0 ∧ l0 ≤ 9223372036854775807 := bounds_i64 hw0
  obtain ⟨l1, rfl, hd1, _, hw1⟩ := open_int Tryz.underlying23 (hval 1 23 v1 rfl rfl) h1
  have hb1 : -9223372036854775808 ≤ l1 ∧ l1 ≤ 9223372036854775807 := bounds_i64 hw1
  obtain ⟨l2, hl2, hd2⟩ := arg_bytes Tryz.underlying24 Tryz.underlying5 (by kernel_rfl) (hval 2 24 v2 rfl rfl) h2
  have hs2 : l2.length ≤ 140737488351232 := size_bytes hsz (j := 2) rfl rfl Tryz.underlying24 (by kernel_rfl) hd2
  obtain ⟨l3, hl3, hd3⟩ := arg_words Tryz.underlying31 Tryz.underlying38 (by kernel_rfl) (hval 3 31 v3 rfl rfl) h3
  have hs3 : l3.length ≤ 35184372087808 := size_words hsz (j := 3) rfl rfl Tryz.underlying31 (by kernel_rfl) hd3
  obtain ⟨l4, hl4, hd4⟩ := arg_words Tryz.underlying31 Tryz.underlying38 (by kernel_rfl) (hval 4 31 v4 rfl rfl) h4
  have hs4 : l4.length ≤ 35184372087808 := size_words hsz (j := 4) rfl rfl Tryz.underlying31 (by kernel_rfl) hd4
  obtain ⟨v5_0, v5_1, l5_0, l5_1, q5_, d5_0, d5_1, rfl, hl5_0, hl5_1, hd5, hd5_0, hd5_1⟩ := arg_point Tryz.underlying33 rfl rfl rfl (by kernel_rfl) Tryz.underlying31 Tryz.underlying31 Tryz.underlying4 Tryz.underlying38 (by kernel_rfl) (by kernel_rfl) (by kernel_rfl) (by kernel_rfl) (hval 5 33 v5 rfl rfl) h5
  have hz5 := size_part hsz (j := 5) (us := [31, 31, 4]) rfl (by rw [hd5]; rfl) Tryz.underlying33 rfl
  have hs5_0 : l5_0.length ≤ 35184372087808 := size_words hz5 (j := 0) rfl rfl Tryz.underlying31 (by kernel_rfl) hd5_0
  have hs5_1 : l5_1.length ≤ 35184372087808 := size_words hz5 (j := 1) rfl rfl Tryz.underlying31 (by kernel_rfl) hd5_1
  refine (Go.Proofs.c_law12_EcdsaRecovers l0 l1 q5_ (law12_EcdsaRecovers_J l0 l1 l2 l3 l4 l5_0 l5_1 q5_ (by omega) (by omega) (by omega) (by omega) (by omega)) (tabs hL) hl2 hl3 hl4 hl5_0 hl5_1).mono fun e W' he => ?_
  cases e with
  | returned v =>
    obtain ⟨rfl, hS⟩ := he
    exact ⟨_, rfl, law_post rfl rfl rfl rfl Tryz.underlying4 laidOut (by kernel_rfl) hW' hS.fr.below⟩
  | _ => exact he.elim
set_option maxRecDepth 100000 in
theorem lifted (os : Os) (started : os.Started) (H : Type) (enc : TypeId × Value → H) (F : Stop.Interp) :
    ReturnsInHanded {} Tryz.checked os 4 .any ((OpenSpec.ofChange Rows.ecdsaRecoversSpec).preRow enc Tryz.prog Tryz.f4 Rows.ecdsaRecoversRow.domain false Rows.ecdsaRecoversRow.laid) (((OpenSpec.ofChange Rows.ecdsaRecoversSpec).at F).post enc Tryz.prog Tryz.f4 false true false false) := by
  have hw : (DataW.whole enc Tryz.prog ((laidWorld os).forCall (fun _ _ => 0) ⟨#[], #[.int .i64 0, .int .i64 0, .slice none 0 0, .slice none 0 0, .slice none 0 0, .agg #[.slice none 0 0, .slice none 0 0, .bool false]], []⟩).memory Tryz.f4.params.toList Rows.ecdsaRecoversSpec.vars false (#[.int .i64 0, .int .i64 0, .slice none 0 0, .slice none 0 0, .slice none 0 0, .agg #[.slice none 0 0, .slice none 0 0, .bool false]] : Array Value).toList 8).map (fun x => (x.1, x.2.1)) =
      some ([.lit (.int .i64 0), .lit (.int .i64 0), .nil, .nil, .nil, .agg [.nil, .nil, .lit (.bool false)]], []) := by kernel_rfl
  obtain ⟨⟨x1, x2, x3⟩, hx, hx1⟩ := Option.map_eq_some_iff.1 hw
  simp only [Prod.mk.injEq] at hx1
  obtain ⟨rfl, rfl⟩ := hx1
  refine returnsInHanded_of_row (C := Tryz.checked) (s := OpenSpec.ofChange Rows.ecdsaRecoversSpec) own started (by kernel_rfl) Tryz.func4
    (witness_row_atRef (enc := enc) (C := Tryz.checked) false (laidWorld os) #[.int .i64 0, .int .i64 0, .slice none 0 0, .slice none 0 0, .slice none 0 0, .agg #[.slice none 0 0, .slice none 0 0, .bool false]] (laidWorld_os os) (by kernel_rfl) (by kernel_rfl) (by kernel_rfl)
      (OpenSpec.preRow_of_cond 8 hx (by kernel_rfl) (fun k hk => by cases hk) (by kernel_rfl) (laid_met os _))) ?_
  intro W base args ds gs before hval hW _ hcond hsz hL _ _
  exact contract H enc W base args ds gs before hval hW hsz hL
theorem closed0 : (Rows.ecdsaRecoversRow.inPlace == Tryz.pinned.checked.prog.inPlace 4) = true := by kernel_rfl
theorem closed1 : (Rows.ecdsaRecoversRow.unfollowed == Tryz.pinned.checked.prog.unfollowed 4) = true := by kernel_rfl
theorem closed2 : (Rows.ecdsaRecoversRow.recurses == Tryz.pinned.checked.prog.recurses 4) = true := by kernel_rfl
theorem closed3 : (Rows.ecdsaRecoversRow.named == Tryz.pinned.checked.prog.varsNamed 4) = true := by kernel_rfl
theorem closed : joinedFacts Tryz.pinned.checked.prog 4 Tryz.f4 (OpenSpec.ofChange Rows.ecdsaRecoversSpec).bare Rows.ecdsaRecoversRow = true := by
  unfold joinedFacts
  rw [closed0, closed1, closed2, closed3]
  kernel_rfl
theorem over : Rows.ecdsaRecoversRow.holds Tryz.pinned (OpenSpec.ofChange Rows.ecdsaRecoversSpec) :=
  OpenClaim.holds_of_cond 4 Tryz.f4 rfl rfl rfl rfl rfl rfl rfl ⟨rfl, rfl, rfl, rfl, rfl⟩ rfl rfl rfl rfl rfl (by kernel_rfl) Tryz.func4 closed
    (of_decide_eq_true (by kernel_rfl)) (by unfold Func.isWrapper; first | (rw [if_pos (by decide +kernel)]; kernel_rfl) | (rw [if_neg (by decide +kernel)]; exact ⟨rfl, rfl⟩))
    (fun os started H enc _ F => by rw [OpenClaim.pre_eq_preRow]; exact lifted os started H enc F)
theorem plain (f : FuncId) (fn : Func) (hf : Tryz.pinned.checked.prog.funcNamed "signet/signetlaw12.EcdsaRecovers" = some f) (hfn : Tryz.pinned.checked.prog.funcs[f]? = some fn) :
    false = Tryz.pinned.checked.prog.looks [] ∧ ∀ (j : Nat) t, fn.params[j]? = some t → Tryz.pinned.checked.prog.wantsStandIn t = false := by
  obtain rfl : f = 4 := Option.some.inj ((show Tryz.prog.funcNamed "signet/signetlaw12.EcdsaRecovers" = some 4 by kernel_rfl).symm.trans hf) |>.symm
  obtain rfl : fn = Tryz.f4 := (Option.some.inj (Tryz.func4.symm.trans hfn)).symm
  refine ⟨by kernel_rfl, fun j t ht => ?_⟩
  rw [Tryz.params4] at ht
  have hm : t ∈ [22, 23, 24, 31, 31, 33] := by simpa using Array.mem_of_getElem? ht
  have hall : ([22, 23, 24, 31, 31, 33].all fun u => !Tryz.prog.wantsStandIn u) = true := by kernel_rfl
  exact (show Tryz.prog.wantsStandIn t = false by simpa using List.all_eq_true.1 hall t hm)
theorem proved : Rows.EcdsaRecoversCardSaid :=
  Claim7.holds_tied_plain_at .later [] _ _ _ _ over (fun _ h => by cases h) (by kernel_rfl) (fun _ h => by cases h) ecdsaRecovers_row_tie rfl ⟨rfl, rfl⟩ (by kernel_rfl) rfl plain (by kernel_rfl)
#print axioms proved
end Go.Proofs.YtahgjafdhjbkeaaGreatDoor.ecdsaRecovers
