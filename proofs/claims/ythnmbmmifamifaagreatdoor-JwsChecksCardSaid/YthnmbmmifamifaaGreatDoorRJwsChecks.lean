import Derived.Test.YthnmbmmifamifaaGreatDoorRTabs
import Derived.Test.YthnmbmmifamifaaGreatDoorGkR
import Derived.Test.YthnmbmmifamifaaGreatDoorGkA0
import Derived.Test.YthnmbmmifamifaaGreatDoorRWlaw18
import Derived.WalkKit
set_option linter.unusedVariables false
set_option linter.unusedSimpArgs false
set_option linter.unusedSectionVars false
namespace Go.Proofs.YthnmbmmifamifaaGreatDoor.jwsChecks
open Go.ChangeShapes Go.WideShapes Go.ChangeAt Go.RowKit Go.Gk Go.Gk.Bn
set_option linter.unusedVariables false
theorem own : ownKnob Tryz.prog.godebug = none := by kernel_rfl
theorem laidOut : laidOutB Tryz.prog = true := by kernel_rfl
set_option maxRecDepth 100000 in
theorem contract (H : Type) (enc : TypeId × Value → H) (W : World) (base : Nat) (args : Array Value) (ds gs : List (DataW H)) (before : List MemPlace)
    (hval0 : ∀ (j : Nat) t v, Tryz.f3.params[j]? = some t → args[j]? = some v → Value.okWide Tryz.prog W .any base t v)
    (hW : DataW.Whole enc Tryz.prog Tryz.f3.params.toList Rows.jwsChecksSpec.vars false W args.toList ds gs before)
    (hsz0 : (DataW.weightsEach Tryz.prog (Tryz.f3.params.toList ++ Rows.jwsChecksSpec.plain.varTypes Tryz.prog) (ds ++ gs)).all (fun x => decide (x ≤ reachBytes)) = true)
    (hL : laidMetH Tryz.prog Rows.jwsChecksRow.laid W) :
    Calls Tryz.prog 3 args W fun e W' => ∃ v, e = .returned v ∧ Rows.jwsChecksSpec.post enc Tryz.prog Tryz.f3 false true false false W args v W' := by
  have hW' := hW
  obtain ⟨p, q, hA0, hV, rfl, hfz, hnd⟩ := hW
  obtain ⟨rfl, rfl⟩ := trodVars_none hV
  have hsz := hsz0
  have hval : ∀ (j : Nat) t v, Tryz.f3.params[j]? = some t → args[j]? = some v → Value.okWide Tryz.prog W .any base t v := hval0
  have hA : DataW.TrodAll enc Tryz.prog W 0 (fun _ => true) true Tryz.f3.params.toList args.toList ds p := hA0
  rw [Tryz.params3] at hA hval hsz
  obtain ⟨v0, vs0, d0, ds0, p0, q0, hargs, rfl, rfl, h0, r0⟩ := trodAll_cons hA
  obtain ⟨v1, vs1, d1, ds1, p1, q1, rfl, rfl, rfl, h1, r1⟩ := trodAll_cons r0
  obtain ⟨v2, vs2, d2, ds2, p2, q2, rfl, rfl, rfl, h2, r2⟩ := trodAll_cons r1
  obtain ⟨v3, vs3, d3, ds3, p3, q3, rfl, rfl, rfl, h3, r3⟩ := trodAll_cons r2
  obtain ⟨rfl, rfl, rfl⟩ := trodAll_nil r3
  obtain rfl : args = #[v0, v1, v2, v3] := by cases args; simp_all
  obtain ⟨l0, rfl, hd0, _, hw0⟩ := open_int Tryz.underlying22 (hval 0 22 v0 rfl rfl) h0
  have hb0 : -9223372036854775808 ≤ l0 ∧ l0 ≤ 9223372036854775807 := bounds_i64 hw0
  obtain ⟨k1_, c1_, v1_2, v1_3, v1_4, v1_5, v1_6, l1_2, l1_3, l1_4, l1_5, l1_6, _, _, d1_2, d1_3, d1_4, d1_5, d1_6, rfl, hl1_2, hl1_3, hl1_4, hl1_5, hl1_6, hd1, hd1_2, hd1_3, hd1_4, hd1_5, hd1_6⟩ := arg_key Tryz.underlying27 rfl (by kernel_rfl) (by kernel_rfl) Tryz.underlying23 Tryz.underlying24 Tryz.underlying25 Tryz.underlying25 Tryz.underlying25 Tryz.underlying25 Tryz.underlying25 Tryz.underlying5 (by kernel_rfl) (hval 1 27 v1 rfl rfl) h1
  have hz1 := size_part hsz (j := 1) (us := [23, 24, 25, 25, 25, 25, 25]) rfl (by rw [hd1]; rfl) Tryz.underlying27 rfl
  have hs1_2 : l1_2.length ≤ 140737488351232 := size_bytes hz1 (j := 2) rfl rfl Tryz.underlying25 (by kernel_rfl) hd1_2
  have hs1_3 : l1_3.length ≤ 140737488351232 := size_bytes hz1 (j := 3) rfl rfl Tryz.underlying25 (by kernel_rfl) hd1_3
  have hs1_4 : l1_4.length ≤ 140737488351232 := size_bytes hz1 (j := 4) rfl rfl Tryz.underlying25 (by kernel_rfl) hd1_4
  have hs1_5 : l1_5.length ≤ 140737488351232 := size_bytes hz1 (j := 5) rfl rfl Tryz.underlying25 (by kernel_rfl) hd1_5
  have hs1_6 : l1_6.length ≤ 140737488351232 := size_bytes hz1 (j := 6) rfl rfl Tryz.underlying25 (by kernel_rfl) hd1_6
  obtain ⟨l2, rfl, hd2⟩ := arg_string Tryz.underlying9 (hval 2 9 v2 rfl rfl) h2
  have hs2 : l2.length ≤ 140737488351232 := size_string hsz (j := 2) rfl rfl hd2
  obtain ⟨l3, hl3, hd3⟩ := arg_bytes Tryz.underlying25 Tryz.underlying5 (by kernel_rfl) (hval 3 25 v3 rfl rfl) h3
  have hs3 : l3.length ≤ 140737488351232 := size_bytes hsz (j := 3) rfl rfl Tryz.underlying25 (by kernel_rfl) hd3
  refine (Go.Proofs.c_law18_JwsChecks l0 k1_ c1_ l2 (law18_JwsChecks_eq l0 k1_ c1_ l1_2 l1_3 l1_4 l1_5 l1_6 l2 l3 (by omega) (by omega) (by omega) (by omega) (by omega) (by omega) (by omega)) (tabs hL) hl1_2 hl1_3 hl1_4 hl1_5 hl1_6 hl3).mono fun e W' he => ?_
  cases e with
  | returned v =>
    obtain ⟨rfl, hS⟩ := he
    exact ⟨_, rfl, law_post rfl rfl rfl rfl Tryz.underlying4 laidOut (by kernel_rfl) hW' hS.fr.below⟩
  | _ => exact he.elim
set_option maxRecDepth 100000 in
theorem lifted (os : Os) (started : os.Started) (H : Type) (enc : TypeId × Value → H) (F : Stop.Interp) :
    ReturnsInHanded {} Tryz.checked os 3 .any ((OpenSpec.ofChange Rows.jwsChecksSpec).preRow enc Tryz.prog Tryz.f3 Rows.jwsChecksRow.domain false Rows.jwsChecksRow.laid) (((OpenSpec.ofChange Rows.jwsChecksSpec).at F).post enc Tryz.prog Tryz.f3 false true false false) := by
  have hw : (DataW.whole enc Tryz.prog ((laidWorld os).forCall (fun _ _ => 0) ⟨#[], #[.int .i64 0, .agg #[.int .i64 0, .int .i64 0, .slice none 0 0, .slice none 0 0, .slice none 0 0, .slice none 0 0, .slice none 0 0], .string ByteArray.empty, .slice none 0 0], []⟩).memory Tryz.f3.params.toList Rows.jwsChecksSpec.vars false (#[.int .i64 0, .agg #[.int .i64 0, .int .i64 0, .slice none 0 0, .slice none 0 0, .slice none 0 0, .slice none 0 0, .slice none 0 0], .string ByteArray.empty, .slice none 0 0] : Array Value).toList 8).map (fun x => (x.1, x.2.1)) =
      some ([.lit (.int .i64 0), .agg [.lit (.int .i64 0), .lit (.int .i64 0), .nil, .nil, .nil, .nil, .nil], .lit (.string []), .nil], []) := by kernel_rfl
  obtain ⟨⟨x1, x2, x3⟩, hx, hx1⟩ := Option.map_eq_some_iff.1 hw
  simp only [Prod.mk.injEq] at hx1
  obtain ⟨rfl, rfl⟩ := hx1
  refine returnsInHanded_of_row (C := Tryz.checked) (s := OpenSpec.ofChange Rows.jwsChecksSpec) own started (by kernel_rfl) Tryz.func3
    (witness_row_atRef (enc := enc) (C := Tryz.checked) false (laidWorld os) #[.int .i64 0, .agg #[.int .i64 0, .int .i64 0, .slice none 0 0, .slice none 0 0, .slice none 0 0, .slice none 0 0, .slice none 0 0], .string ByteArray.empty, .slice none 0 0] (laidWorld_os os) (by kernel_rfl) (by kernel_rfl) (by kernel_rfl)
      (OpenSpec.preRow_of_cond 8 hx (by kernel_rfl) (fun k hk => by cases hk) (by kernel_rfl) (laid_met os _))) ?_
  intro W base args ds gs before hval hW _ hcond hsz hL _ _
  exact contract H enc W base args ds gs before hval hW hsz hL
theorem closed0 : (Rows.jwsChecksRow.inPlace == Tryz.pinned.checked.prog.inPlace 3) = true := by kernel_rfl
theorem closed1 : (Rows.jwsChecksRow.unfollowed == Tryz.pinned.checked.prog.unfollowed 3) = true := by kernel_rfl
theorem closed2 : (Rows.jwsChecksRow.recurses == Tryz.pinned.checked.prog.recurses 3) = true := by kernel_rfl
theorem closed3 : (Rows.jwsChecksRow.named == Tryz.pinned.checked.prog.varsNamed 3) = true := by kernel_rfl
theorem closed : joinedFacts Tryz.pinned.checked.prog 3 Tryz.f3 (OpenSpec.ofChange Rows.jwsChecksSpec).bare Rows.jwsChecksRow = true := by
  unfold joinedFacts
  rw [closed0, closed1, closed2, closed3]
  kernel_rfl
theorem over : Rows.jwsChecksRow.holds Tryz.pinned (OpenSpec.ofChange Rows.jwsChecksSpec) :=
  OpenClaim.holds_of_cond 3 Tryz.f3 rfl rfl rfl rfl rfl rfl rfl ⟨rfl, rfl, rfl, rfl, rfl⟩ rfl rfl rfl rfl rfl (by kernel_rfl) Tryz.func3 closed
    (of_decide_eq_true (by kernel_rfl)) (by unfold Func.isWrapper; first | (rw [if_pos (by decide +kernel)]; kernel_rfl) | (rw [if_neg (by decide +kernel)]; exact ⟨rfl, rfl⟩))
    (fun os started H enc _ F => by rw [OpenClaim.pre_eq_preRow]; exact lifted os started H enc F)
theorem plain (f : FuncId) (fn : Func) (hf : Tryz.pinned.checked.prog.funcNamed "signet/signetlaw18.JwsChecks" = some f) (hfn : Tryz.pinned.checked.prog.funcs[f]? = some fn) :
    false = Tryz.pinned.checked.prog.looks [] ∧ ∀ (j : Nat) t, fn.params[j]? = some t → Tryz.pinned.checked.prog.wantsStandIn t = false := by
  obtain rfl : f = 3 := Option.some.inj ((show Tryz.prog.funcNamed "signet/signetlaw18.JwsChecks" = some 3 by kernel_rfl).symm.trans hf) |>.symm
  obtain rfl : fn = Tryz.f3 := (Option.some.inj (Tryz.func3.symm.trans hfn)).symm
  refine ⟨by kernel_rfl, fun j t ht => ?_⟩
  rw [Tryz.params3] at ht
  have hm : t ∈ [22, 27, 9, 25] := by simpa using Array.mem_of_getElem? ht
  have hall : ([22, 27, 9, 25].all fun u => !Tryz.prog.wantsStandIn u) = true := by kernel_rfl
  exact (show Tryz.prog.wantsStandIn t = false by simpa using List.all_eq_true.1 hall t hm)
theorem proved : Rows.JwsChecksCardSaid :=
  Claim7.holds_tied_plain_at .later [] _ _ _ _ over (fun _ h => by cases h) (by kernel_rfl) (fun _ h => by cases h) jwsChecks_row_tie rfl ⟨rfl, rfl⟩ (by kernel_rfl) rfl plain (by kernel_rfl)
#print axioms proved
end Go.Proofs.YthnmbmmifamifaaGreatDoor.jwsChecks
