import Derived.Test.YtkbacjmklhgpcaaGreatDoorSTabs
import Derived.Test.YtkbacjmklhgpcaaGreatDoorQGkR
import Derived.Test.YtkbacjmklhgpcaaGreatDoorQGkQ0
import Derived.Test.YtkbacjmklhgpcaaGreatDoorSWlaw31b
import Derived.WalkKit
set_option linter.unusedVariables false
set_option linter.unusedSimpArgs false
set_option linter.unusedSectionVars false
namespace Go.Proofs.YtkbacjmklhgpcaaGreatDoor.coseOthers
open Go.ChangeShapes Go.WideShapes Go.ChangeAt Go.RowKit Go.Gk Go.Gk.Cb
set_option linter.unusedVariables false
theorem own : ownKnob Tryz.prog.godebug = none := by kernel_rfl
theorem laidOut : laidOutB Tryz.prog = true := by kernel_rfl
theorem len_le {H : Type} (l : List (DataW H)) : l.length ≤ Rows.uptoBulkAll l := by
  induction l with
  | nil => simp [Rows.uptoBulkAll]
  | cons x r ih =>
    have : 1 ≤ Rows.uptoBulk x := by
      cases x with
      | lit l => cases l <;> simp [Rows.uptoBulk]
      | _ => simp [Rows.uptoBulk]
    simp only [Rows.uptoBulkAll, List.length_cons]; omega
theorem bulk_bytes {H : Type} {d : DataW H} {l : List UInt8} (h : (d = .nil ∧ l = []) ∨ ∃ elems spare, d = .slice elems spare ∧ elems.length = l.length) : l.length ≤ Rows.uptoBulk d := by
  rcases h with ⟨_, rfl⟩ | ⟨elems, spare, rfl, h⟩
  · simp
  · have := len_le elems
    simp only [Rows.uptoBulk]; omega
theorem bulk_string {H : Type} {d : DataW H} {l : List UInt8} (h : d = .lit (.string l)) : l.length ≤ Rows.uptoBulk d := by
  subst h; simp [Rows.uptoBulk]
theorem bulk_app {H : Type} : ∀ (a b : List (DataW H)), Rows.uptoBulkAll (a ++ b) = Rows.uptoBulkAll a + Rows.uptoBulkAll b
  | [], b => by simp [Rows.uptoBulkAll]
  | x :: a, b => by simp only [List.cons_append, Rows.uptoBulkAll, bulk_app a b]; omega
set_option maxRecDepth 100000 in
theorem contract (H : Type) (enc : TypeId × Value → H) (W : World) (base : Nat) (args : Array Value) (ds gs : List (DataW H)) (before : List MemPlace)
    (hval0 : ∀ (j : Nat) t v, Tryz.f4.params[j]? = some t → args[j]? = some v → Value.okWide Tryz.prog W .any base t v)
    (hW : DataW.Whole enc Tryz.prog Tryz.f4.params.toList Rows.coseOthersSpec.vars false W args.toList ds gs before)
    (hsz0 : (DataW.weightsEach Tryz.prog (Tryz.f4.params.toList ++ Rows.coseOthersSpec.plain.varTypes Tryz.prog) (ds ++ gs)).all (fun x => decide (x ≤ reachBytes)) = true) (hk : Rows.uptoSmall H (ds ++ gs) = true)
    (hL : laidMetH Tryz.prog Rows.coseOthersUptoRow.laid W) :
    Calls Tryz.prog 4 args W fun e W' => ∃ v, e = .returned v ∧ Rows.coseOthersSpec.post enc Tryz.prog Tryz.f4 false true false false W args v W' := by
  have hW' := hW
  obtain ⟨p, q, hA0, hV, rfl, hfz, hnd⟩ := hW
  obtain ⟨rfl, rfl⟩ := trodVars_none hV
  have hsz := hsz0
  have hval : ∀ (j : Nat) t v, Tryz.f4.params[j]? = some t → args[j]? = some v → Value.okWide Tryz.prog W .any base t v := hval0
  have hA : DataW.TrodAll enc Tryz.prog W 0 (fun _ => true) true Tryz.f4.params.toList args.toList ds p := hA0
  rw [Tryz.params4] at hA hval hsz
  obtain ⟨v0, vs0, d0, ds0, p0, q0, hargs, rfl, rfl, h0, r0⟩ := trodAll_cons hA
  obtain ⟨v1, vs1, d1, ds1, p1, q1, rfl, rfl, rfl, h1, r1⟩ := trodAll_cons r0
  obtain ⟨v2, vs2, d2, ds2, p2, q2, rfl, rfl, rfl, h2, r2⟩ := trodAll_cons r1
  obtain ⟨v3, vs3, d3, ds3, p3, q3, rfl, rfl, rfl, h3, r3⟩ := trodAll_cons r2
  obtain ⟨v4, vs4, d4, ds4, p4, q4, rfl, rfl, rfl, h4, r4⟩ := trodAll_cons r3
  obtain ⟨v5, vs5, d5, ds5, p5, q5, rfl, rfl, rfl, h5, r5⟩ := trodAll_cons r4
  obtain ⟨v6, vs6, d6, ds6, p6, q6, rfl, rfl, rfl, h6, r6⟩ := trodAll_cons r5
  obtain ⟨rfl, rfl, rfl⟩ := trodAll_nil r6
  obtain rfl : args = #[v0, v1, v2, v3, v4, v5, v6] := by cases args; simp_all
  obtain ⟨l0, hl0, hd0⟩ := arg_bytes Tryz.underlying22 Tryz.underlying5 (by kernel_rfl) (hval 0 22 v0 rfl rfl) h0
  have hs0 : l0.length ≤ 140737488351232 := size_bytes hsz (j := 0) rfl rfl Tryz.underlying22 (by kernel_rfl) hd0
  obtain ⟨l1, hl1, hd1⟩ := arg_bytes Tryz.underlying22 Tryz.underlying5 (by kernel_rfl) (hval 1 22 v1 rfl rfl) h1
  have hs1 : l1.length ≤ 140737488351232 := size_bytes hsz (j := 1) rfl rfl Tryz.underlying22 (by kernel_rfl) hd1
  obtain ⟨l2, hl2, hd2⟩ := arg_bytes Tryz.underlying22 Tryz.underlying5 (by kernel_rfl) (hval 2 22 v2 rfl rfl) h2
  have hs2 : l2.length ≤ 140737488351232 := size_bytes hsz (j := 2) rfl rfl Tryz.underlying22 (by kernel_rfl) hd2
  obtain ⟨l3, hl3, hd3⟩ := arg_bytes Tryz.underlying22 Tryz.underlying5 (by kernel_rfl) (hval 3 22 v3 rfl rfl) h3
  have hs3 : l3.length ≤ 140737488351232 := size_bytes hsz (j := 3) rfl rfl Tryz.underlying22 (by kernel_rfl) hd3
  obtain ⟨l4, hl4, hd4⟩ := arg_bytes Tryz.underlying22 Tryz.underlying5 (by kernel_rfl) (hval 4 22 v4 rfl rfl) h4
  have hs4 : l4.length ≤ 140737488351232 := size_bytes hsz (j := 4) rfl rfl Tryz.underlying22 (by kernel_rfl) hd4
  obtain ⟨k5_, c5_, v5_2, v5_3, v5_4, v5_5, v5_6, l5_2, l5_3, l5_4, l5_5, l5_6, _, _, d5_2, d5_3, d5_4, d5_5, d5_6, rfl, hl5_2, hl5_3, hl5_4, hl5_5, hl5_6, hd5, hd5_2, hd5_3, hd5_4, hd5_5, hd5_6⟩ := arg_key Tryz.underlying26 rfl (by kernel_rfl) (by kernel_rfl) Tryz.underlying23 Tryz.underlying24 Tryz.underlying22 Tryz.underlying22 Tryz.underlying22 Tryz.underlying22 Tryz.underlying22 Tryz.underlying5 (by kernel_rfl) (hval 5 26 v5 rfl rfl) h5
  have hz5 := size_part hsz (j := 5) (us := [23, 24, 22, 22, 22, 22, 22]) rfl (by rw [hd5]; rfl) Tryz.underlying26 rfl
  have hs5_2 : l5_2.length ≤ 140737488351232 := size_bytes hz5 (j := 2) rfl rfl Tryz.underlying22 (by kernel_rfl) hd5_2
  have hs5_3 : l5_3.length ≤ 140737488351232 := size_bytes hz5 (j := 3) rfl rfl Tryz.underlying22 (by kernel_rfl) hd5_3
  have hs5_4 : l5_4.length ≤ 140737488351232 := size_bytes hz5 (j := 4) rfl rfl Tryz.underlying22 (by kernel_rfl) hd5_4
  have hs5_5 : l5_5.length ≤ 140737488351232 := size_bytes hz5 (j := 5) rfl rfl Tryz.underlying22 (by kernel_rfl) hd5_5
  have hs5_6 : l5_6.length ≤ 140737488351232 := size_bytes hz5 (j := 6) rfl rfl Tryz.underlying22 (by kernel_rfl) hd5_6
  obtain ⟨l6, hl6, hd6⟩ := arg_texts Tryz.underlying27 Tryz.underlying9 (by kernel_rfl) (hval 6 27 v6 rfl rfl) h6
  have hs6 : l6.length < 9223372036854775807 := size_texts hsz (j := 6) rfl rfl Tryz.underlying27 (by kernel_rfl) hd6
  have hbulk : Rows.uptoBulkAll ([d0, d1, d2, d3, d4, d5, d6] ++ []) ≤ 1048576 := of_decide_eq_true hk
  have hb0 : l0.length ≤ Rows.uptoBulk d0 := bulk_bytes hd0
  have hb1 : l1.length ≤ Rows.uptoBulk d1 := bulk_bytes hd1
  have hb2 : l2.length ≤ Rows.uptoBulk d2 := bulk_bytes hd2
  have hb3 : l3.length ≤ Rows.uptoBulk d3 := bulk_bytes hd3
  have hb4 : l4.length ≤ Rows.uptoBulk d4 := bulk_bytes hd4
  simp only [List.cons_append, List.nil_append, Rows.uptoBulkAll] at hbulk
  refine (Go.Proofs.c_law31_CoseOthers k5_ c5_ (law31_CoseOthers_eq l0 l1 l2 l3 l4 k5_ c5_ l5_2 l5_3 l5_4 l5_5 l5_6 l6 (by omega) (by omega) (by omega) (by omega) (by omega) (by omega) (by omega) (by omega) (by omega) (by omega) (by omega)) (tabs hL) hl0 hl1 hl2 hl3 hl4 hl5_2 hl5_3 hl5_4 hl5_5 hl5_6 hl6).mono fun e W' he => ?_
  cases e with
  | returned v =>
    obtain ⟨rfl, hS⟩ := he
    exact ⟨_, rfl, law_post rfl rfl rfl rfl Tryz.underlying4 laidOut (by kernel_rfl) hW' hS.fr.below⟩
  | _ => exact he.elim
set_option maxRecDepth 100000 in
theorem lifted (os : Os) (started : os.Started) (H : Type) (enc : TypeId × Value → H) (F : Stop.Interp) :
    ReturnsInHanded {} Tryz.checked os 4 .any ((Rows.OpenSpec.upto Rows.coseOthersSpec).preRow enc Tryz.prog Tryz.f4 Rows.coseOthersUptoRow.domain false Rows.coseOthersUptoRow.laid) (((Rows.OpenSpec.upto Rows.coseOthersSpec).at F).post enc Tryz.prog Tryz.f4 false true false false) := by
  have hw : (DataW.whole enc Tryz.prog ((laidWorld os).forCall (fun _ _ => 0) ⟨#[], #[.slice none 0 0, .slice none 0 0, .slice none 0 0, .slice none 0 0, .slice none 0 0, .agg #[.int .i64 0, .int .i64 0, .slice none 0 0, .slice none 0 0, .slice none 0 0, .slice none 0 0, .slice none 0 0], .slice none 0 0], []⟩).memory Tryz.f4.params.toList Rows.coseOthersSpec.vars false (#[.slice none 0 0, .slice none 0 0, .slice none 0 0, .slice none 0 0, .slice none 0 0, .agg #[.int .i64 0, .int .i64 0, .slice none 0 0, .slice none 0 0, .slice none 0 0, .slice none 0 0, .slice none 0 0], .slice none 0 0] : Array Value).toList 8).map (fun x => (x.1, x.2.1)) =
      some ([.nil, .nil, .nil, .nil, .nil, .agg [.lit (.int .i64 0), .lit (.int .i64 0), .nil, .nil, .nil, .nil, .nil], .nil], []) := by kernel_rfl
  obtain ⟨⟨x1, x2, x3⟩, hx, hx1⟩ := Option.map_eq_some_iff.1 hw
  simp only [Prod.mk.injEq] at hx1
  obtain ⟨rfl, rfl⟩ := hx1
  refine returnsInHanded_of_row (C := Tryz.checked) (s := Rows.OpenSpec.upto Rows.coseOthersSpec) own started (by kernel_rfl) Tryz.func4
    (witness_row_atRef (enc := enc) (C := Tryz.checked) false (laidWorld os) #[.slice none 0 0, .slice none 0 0, .slice none 0 0, .slice none 0 0, .slice none 0 0, .agg #[.int .i64 0, .int .i64 0, .slice none 0 0, .slice none 0 0, .slice none 0 0, .slice none 0 0, .slice none 0 0], .slice none 0 0] (laidWorld_os os) (by kernel_rfl) (by kernel_rfl) (by kernel_rfl)
      (OpenSpec.preRow_of_cond 8 hx (by kernel_rfl) (fun k hk => by cases hk; kernel_rfl) (by kernel_rfl) (laid_met os _))) ?_
  intro W base args ds gs before hval hW _ hcond hsz hL _ _
  exact contract H enc W base args ds gs before hval hW hsz (hcond _ rfl) hL
theorem closed0 : (Rows.coseOthersUptoRow.inPlace == Tryz.pinned.checked.prog.inPlace 4) = true := by kernel_rfl
theorem closed1 : (Rows.coseOthersUptoRow.unfollowed == Tryz.pinned.checked.prog.unfollowed 4) = true := by kernel_rfl
theorem closed2 : (Rows.coseOthersUptoRow.recurses == Tryz.pinned.checked.prog.recurses 4) = true := by kernel_rfl
theorem closed3 : (Rows.coseOthersUptoRow.named == Tryz.pinned.checked.prog.varsNamed 4) = true := by kernel_rfl
theorem closed : joinedFacts Tryz.pinned.checked.prog 4 Tryz.f4 (Rows.OpenSpec.upto Rows.coseOthersSpec).bare Rows.coseOthersUptoRow = true := by
  unfold joinedFacts
  rw [closed0, closed1, closed2, closed3]
  kernel_rfl
theorem over : Rows.coseOthersUptoRow.holds Tryz.pinned (Rows.OpenSpec.upto Rows.coseOthersSpec) :=
  OpenClaim.holds_of_cond 4 Tryz.f4 rfl rfl rfl rfl rfl rfl rfl ⟨rfl, rfl, rfl, rfl, rfl⟩ rfl rfl rfl rfl rfl (by kernel_rfl) Tryz.func4 closed
    (of_decide_eq_true (by kernel_rfl)) (by unfold Func.isWrapper; first | (rw [if_pos (by decide +kernel)]; kernel_rfl) | (rw [if_neg (by decide +kernel)]; exact ⟨rfl, rfl⟩))
    (fun os started H enc _ F => by rw [OpenClaim.pre_eq_preRow]; exact lifted os started H enc F)
theorem plain (f : FuncId) (fn : Func) (hf : Tryz.pinned.checked.prog.funcNamed "signet/signetlaw31.CoseOthers" = some f) (hfn : Tryz.pinned.checked.prog.funcs[f]? = some fn) :
    false = Tryz.pinned.checked.prog.looks [] ∧ ∀ (j : Nat) t, fn.params[j]? = some t → Tryz.pinned.checked.prog.wantsStandIn t = false := by
  obtain rfl : f = 4 := Option.some.inj ((show Tryz.prog.funcNamed "signet/signetlaw31.CoseOthers" = some 4 by kernel_rfl).symm.trans hf) |>.symm
  obtain rfl : fn = Tryz.f4 := (Option.some.inj (Tryz.func4.symm.trans hfn)).symm
  refine ⟨by kernel_rfl, fun j t ht => ?_⟩
  rw [Tryz.params4] at ht
  have hm : t ∈ [22, 22, 22, 22, 22, 26, 27] := by simpa using Array.mem_of_getElem? ht
  have hall : ([22, 22, 22, 22, 22, 26, 27].all fun u => !Tryz.prog.wantsStandIn u) = true := by kernel_rfl
  exact (show Tryz.prog.wantsStandIn t = false by simpa using List.all_eq_true.1 hall t hm)
theorem proved : Rows.CoseOthersUptoCardSaid :=
  Claim7.holds_tied_plain_at .later [] _ _ _ _ over (fun _ h => by cases h) (by kernel_rfl) (fun _ h => by cases h) coseOthersUpto_row_tie rfl ⟨rfl, rfl⟩ (by kernel_rfl) rfl plain (by kernel_rfl)
#print axioms proved
end Go.Proofs.YtkbacjmklhgpcaaGreatDoor.coseOthers
