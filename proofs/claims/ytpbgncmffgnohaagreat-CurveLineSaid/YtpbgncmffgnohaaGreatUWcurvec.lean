import Derived.Test.YtpbgncmffgnohaaGreatUW0
import Derived.Test.YtpbgncmffgnohaaGreatGkFcurve
import Derived.Test.YtpbgncmffgnohaaGreatUWbignumc
import Derived.Test.YtpbgncmffgnohaaGreatUWcurveb
import Derived.Test.YtpbgncmffgnohaaGreatUWnatb
set_option linter.unusedVariables false
set_option linter.unusedSimpArgs false
set_option linter.unusedVariables false
set_option maxRecDepth 4000
namespace Go.Proofs
open Go Go.RowKit Go.Gk
theorem c_curve_group_add (w0 : World) (a0_0_0 : Bool) (a0_0_1 : List UInt32) (a0_1_0 : Bool) (a0_1_1 : List UInt32) (a0_2_0 : Bool) (a0_2_1 : List UInt32) (a0_3_0 : Bool) (a0_3_1 : List UInt32) (a0_4_0 : Bool) (a0_4_1 : List UInt32) (a0_5 : Int) (a1_0_0 : Bool) (a1_0_1 : List UInt32) (a1_1_0 : Bool) (a1_1_1 : List UInt32) (a1_2_0 : Bool) (a1_2_1 : List UInt32) (a2_0_0 : Bool) (a2_0_1 : List UInt32) (a2_1_0 : Bool) (a2_1_1 : List UInt32) (a2_2_0 : Bool) (a2_2_1 : List UInt32) (va0_0_1 : Value) (va0_1_1 : Value) (va0_2_1 : Value) (va0_3_1 : Value) (va0_4_1 : Value) (va1_0_1 : Value) (va1_1_1 : Value) (va1_2_1 : Value) (va2_0_1 : Value) (va2_1_1 : Value) (va2_2_1 : Value) (ba0 : Nat) (ba0_0 : Nat) (ba0_1 : Nat) (ba0_2 : Nat) (ba0_3 : Nat) (ba0_4 : Nat) (ba1_0 : Nat) (ba1_1 : Nat) (ba1_2 : Nat) (ba2_0 : Nat) (ba2_1 : Nat) (ba2_2 : Nat) (T : List Nat) (hTT : TOk [] T w0) (ha0_0_1 : RP T w0 e32 va0_0_1 a0_0_1) (hBa0_0 : RB T w0 ba0_0 [vB a0_0_0, va0_0_1]) (ha0_1_1 : RP T w0 e32 va0_1_1 a0_1_1) (hBa0_1 : RB T w0 ba0_1 [vB a0_1_0, va0_1_1]) (ha0_2_1 : RP T w0 e32 va0_2_1 a0_2_1) (hBa0_2 : RB T w0 ba0_2 [vB a0_2_0, va0_2_1]) (ha0_3_1 : RP T w0 e32 va0_3_1 a0_3_1) (hBa0_3 : RB T w0 ba0_3 [vB a0_3_0, va0_3_1]) (ha0_4_1 : RP T w0 e32 va0_4_1 a0_4_1) (hBa0_4 : RB T w0 ba0_4 [vB a0_4_0, va0_4_1]) (hBa0 : RB T w0 ba0 [pB ba0_0 0, pB ba0_1 0, pB ba0_2 0, pB ba0_3 0, pB ba0_4 0, vI a0_5, .func (.func 101) #[] #[]]) (ha1_0_1 : RP T w0 e32 va1_0_1 a1_0_1) (hBa1_0 : RB T w0 ba1_0 [vB a1_0_0, va1_0_1]) (ha1_1_1 : RP T w0 e32 va1_1_1 a1_1_1) (hBa1_1 : RB T w0 ba1_1 [vB a1_1_0, va1_1_1]) (ha1_2_1 : RP T w0 e32 va1_2_1 a1_2_1) (hBa1_2 : RB T w0 ba1_2 [vB a1_2_0, va1_2_1]) (ha2_0_1 : RP T w0 e32 va2_0_1 a2_0_1) (hBa2_0 : RB T w0 ba2_0 [vB a2_0_0, va2_0_1]) (ha2_1_1 : RP T w0 e32 va2_1_1 a2_1_1) (hBa2_1 : RB T w0 ba2_1 [vB a2_1_0, va2_1_1]) (ha2_2_1 : RP T w0 e32 va2_2_1 a2_2_1) (hBa2_2 : RB T w0 ba2_2 [vB a2_2_0, va2_2_1]) (r : Bool × List UInt32 × Bool × List UInt32 × Bool × List UInt32)
  (h : F.curve_group_add a0_0_0 a0_0_1 a0_1_0 a0_1_1 a0_2_0 a0_2_1 a0_3_0 a0_3_1 a0_4_0 a0_4_1 a0_5 a1_0_0 a1_0_1 a1_1_0 a1_1_1 a1_2_0 a1_2_1 a2_0_0 a2_0_1 a2_1_0 a2_1_1 a2_2_0 a2_2_1 = some r) : Calls Tryz.prog 49 #[pB ba0 0, .agg #[pB ba1_0 0, pB ba1_1 0, pB ba1_2 0], .agg #[pB ba2_0 0, pB ba2_1 0, pB ba2_2 0]] w0 (Ret fun v w => ∃ b0_0 : Nat, ∃ u0_0_1 : Value, ∃ b0_1 : Nat, ∃ u0_1_1 : Value, ∃ b0_2 : Nat, ∃ u0_2_1 : Value, v = .agg #[pB b0_0 0, pB b0_1 0, pB b0_2 0] ∧ St [] w0 w [] ∧ Rds T w [OE.bx b0_2 [vB r.2.2.2.2.1, u0_2_1], red e32 u0_2_1 r.2.2.2.2.2, OE.bx b0_1 [vB r.2.2.1, u0_1_1], red e32 u0_1_1 r.2.2.2.1, OE.bx b0_0 [vB r.1, u0_0_1], red e32 u0_0_1 r.2.1]) := by
 refine kz 137 Tryz.func49 rfl rfl rfl ?_
 have hS := St.start w0
 have hZ := Fz.start (S := []) (w0 := w0)
 have hA0 : Rds T w0 [OE.bx ba2_2 [vB a2_2_0, va2_2_1], red e32 va2_2_1 a2_2_1, OE.bx ba2_1 [vB a2_1_0, va2_1_1], red e32 va2_1_1 a2_1_1, OE.bx ba2_0 [vB a2_0_0, va2_0_1], red e32 va2_0_1 a2_0_1, OE.bx ba1_2 [vB a1_2_0, va1_2_1], red e32 va1_2_1 a1_2_1, OE.bx ba1_1 [vB a1_1_0, va1_1_1], red e32 va1_1_1 a1_1_1, OE.bx ba1_0 [vB a1_0_0, va1_0_1], red e32 va1_0_1 a1_0_1, OE.bx ba0 [pB ba0_0 0, pB ba0_1 0, pB ba0_2 0, pB ba0_3 0, pB ba0_4 0, vI a0_5, .func (.func 101) #[] #[]], OE.bx ba0_4 [vB a0_4_0, va0_4_1], red e32 va0_4_1 a0_4_1, OE.bx ba0_3 [vB a0_3_0, va0_3_1], red e32 va0_3_1 a0_3_1, OE.bx ba0_2 [vB a0_2_0, va0_2_1], red e32 va0_2_1 a0_2_1, OE.bx ba0_1 [vB a0_1_0, va0_1_1], red e32 va0_1_1 a0_1_1, OE.bx ba0_0 [vB a0_0_0, va0_0_1], red e32 va0_0_1 a0_0_1] := Rds.cons hBa2_2.kept (Rds.cons (RP.kept (Nat.le_of_ble_eq_true rfl) ha2_2_1) (Rds.cons hBa2_1.kept (Rds.cons (RP.kept (Nat.le_of_ble_eq_true rfl) ha2_1_1) (Rds.cons hBa2_0.kept (Rds.cons (RP.kept (Nat.le_of_ble_eq_true rfl) ha2_0_1) (Rds.cons hBa1_2.kept (Rds.cons (RP.kept (Nat.le_of_ble_eq_true rfl) ha1_2_1) (Rds.cons hBa1_1.kept (Rds.cons (RP.kept (Nat.le_of_ble_eq_true rfl) ha1_1_1) (Rds.cons hBa1_0.kept (Rds.cons (RP.kept (Nat.le_of_ble_eq_true rfl) ha1_0_1) (Rds.cons hBa0.kept (Rds.cons hBa0_4.kept (Rds.cons (RP.kept (Nat.le_of_ble_eq_true rfl) ha0_4_1) (Rds.cons hBa0_3.kept (Rds.cons (RP.kept (Nat.le_of_ble_eq_true rfl) ha0_3_1) (Rds.cons hBa0_2.kept (Rds.cons (RP.kept (Nat.le_of_ble_eq_true rfl) ha0_2_1) (Rds.cons hBa0_1.kept (Rds.cons (RP.kept (Nat.le_of_ble_eq_true rfl) ha0_1_1) (Rds.cons hBa0_0.kept (Rds.cons (RP.kept (Nat.le_of_ble_eq_true rfl) ha0_0_1) (Rds.nil)))))))))))))))))))))))
 have hA := hA0.all
 have hP := hA0.off rfl
 refine kn [(0, pB ba0 0), (1, .agg #[pB ba1_0 0, pB ba1_1 0, pB ba1_2 0]), (2, .agg #[pB ba2_0 0, pB ba2_1 0, pB ba2_2 0])] ⟨rfl, rfl, rfl, trivial⟩ ?_
 unfold F.curve_group_add at h
 refine ke (kc (kW (OpX_box (cs := [pB ba1_0 0, pB ba1_1 0, pB ba1_2 0]) rfl rfl hS) rfl ?_))
 rintro _ w ⟨b_1, rfl, hS⟩
 refine kW (OpX_box (cs := [pB ba2_0 0, pB ba2_1 0, pB ba2_2 0]) rfl rfl hS) rfl ?_
 rintro _ w ⟨b_3, rfl, hS⟩
 refine kW (kE (cs := [.pointer none, .pointer none, .pointer none]) tz66 rfl hS) rfl ?_
 rintro _ w ⟨b_5, rfl, hS⟩
 refine kf (ka (ke (ke (kc (ki (kl (k := 2) Tryz.underlying66 rfl rfl nz56 rfl) rfl (ki (ku Tryz.underlying56 rfl rfl (hS.bxc 2 rfl 2)) rfl ?_))))))
 obtain ⟨x_7, hx_7, h⟩ := kg h
 refine kk (by kernel_rfl) rfl (c_bignum_Int_Sign _ a1_2_0 a1_2_1 va1_2_1 ba1_2 ((hA.rp 15 rfl).now hS.fr).rp ((hA.rb 16 rfl).now hS.fr) _ hx_7) rfl ?_
 rintro _ w ⟨rfl, hS1⟩
 have hS := hS.call hS1
 refine kb 1 rfl ?_
 refine kf (ka ?_)
 refine ko rfl (fun hb_148 => ?_) (fun hb_148 => ?_)
 ·have h := if_t h hb_148
  refine ke (kc (ki (kH (us := [pB ba2_0 0, pB ba2_1 0, pB ba2_2 0]) Tryz.underlying66 rfl sz66 rfl (hS.bxs 1 rfl rfl)) rfl (kX (kM (i := 0) (us := [pB ba2_0 0, pB ba2_1 0, pB ba2_2 0]) rfl sz66 rfl rfl rfl ⟨rfl, rfl, rfl, trivial⟩ rfl hS) ?_)))
  intro w hS
  refine kf (ka (kq (kv ?_)))
  cases h
  obtain ⟨hS0, hR⟩ := hZ.outT hTT hA hP hS
  exact QE_rv1 rfl ⟨_, rfl, run_ldAgg (us := [pB ba2_0 0, pB ba2_1 0, pB ba2_2 0]) Tryz.underlying66 rfl sz66 (hS.bxs 0 rfl rfl)⟩ ⟨ba2_0, va2_0_1, ba2_1, va2_1_1, ba2_2, va2_2_1, rfl, hS0, (Rds.cons (hR.nth 22 rfl) (Rds.cons (hR.nth 21 rfl) (Rds.cons (hR.nth 20 rfl) (Rds.cons (hR.nth 19 rfl) (Rds.cons (hR.nth 18 rfl) (Rds.cons (hR.nth 17 rfl) Rds.nil))))))⟩
 have h := if_f h hb_148
 refine kr (ka (ke (ke (kc (ki (kl (k := 2) Tryz.underlying66 rfl rfl nz56 rfl) rfl (ki (ku Tryz.underlying56 rfl rfl (hS.bxc 1 rfl 2)) rfl ?_))))))
 obtain ⟨x_8, hx_8, h⟩ := kg h
 refine kk (by kernel_rfl) rfl (c_bignum_Int_Sign _ a2_2_0 a2_2_1 va2_2_1 ba2_2 ((hA.rp 21 rfl).now hS.fr).rp ((hA.rb 22 rfl).now hS.fr) _ hx_8) rfl ?_
 rintro _ w ⟨rfl, hS1⟩
 have hS := hS.call hS1
 refine kb 1 rfl ?_
 refine kf (ka ?_)
 refine ko rfl (fun hb_147 => ?_) (fun hb_147 => ?_)
 ·have h := if_t h hb_147
  refine ke (kc (ki (kH (us := [pB ba1_0 0, pB ba1_1 0, pB ba1_2 0]) Tryz.underlying66 rfl sz66 rfl (hS.bxs 2 rfl rfl)) rfl (kX (kM (i := 0) (us := [pB ba1_0 0, pB ba1_1 0, pB ba1_2 0]) rfl sz66 rfl rfl rfl ⟨rfl, rfl, rfl, trivial⟩ rfl hS) ?_)))
  intro w hS
  refine kf (ka (kq (kv ?_)))
  cases h
  obtain ⟨hS0, hR⟩ := hZ.outT hTT hA hP hS
  exact QE_rv1 rfl ⟨_, rfl, run_ldAgg (us := [pB ba1_0 0, pB ba1_1 0, pB ba1_2 0]) Tryz.underlying66 rfl sz66 (hS.bxs 0 rfl rfl)⟩ ⟨ba1_0, va1_0_1, ba1_1, va1_1_1, ba1_2, va1_2_1, rfl, hS0, (Rds.cons (hR.nth 16 rfl) (Rds.cons (hR.nth 15 rfl) (Rds.cons (hR.nth 14 rfl) (Rds.cons (hR.nth 13 rfl) (Rds.cons (hR.nth 12 rfl) (Rds.cons (hR.nth 11 rfl) Rds.nil))))))⟩
 have h := if_f h hb_147
 refine kr (ka (ke ?_))
 refine kN (fun w' => St [] w0 w' [OE.bx b_5 [.pointer none, .pointer none, .pointer none], OE.bx b_3 [pB ba2_0 0, pB ba2_1 0, pB ba2_2 0], OE.bx b_1 [pB ba1_0 0, pB ba1_1 0, pB ba1_2 0]]) (fun i => !([5, 11].contains i)) hmix (fun _ _ _ hf => hf.2) (fun _ _ hf => hf) (by kernel_rfl) ?_
 have hS := hS.drew
 show lxE _ _ _ _ _ _ _ [0, 1, 2, 3, 4, 5, 6, 7, 8, 9, 10, 11, 12, 13] _ _
 refine kj hS rfl rfl (fun w hF => km rfl) rfl (kj hS rfl rfl (fun w hF => kl (k := 2) Tryz.underlying66 rfl rfl nz56 rfl) rfl (kj hS rfl rfl (fun w hF => ku Tryz.underlying56 rfl rfl (hF.bxc 2 rfl 2)) rfl (kj hS rfl rfl (fun w hF => kl (k := 2) Tryz.underlying66 rfl rfl nz56 rfl) rfl (kj hS rfl rfl (fun w hF => ku Tryz.underlying56 rfl rfl (hF.bxc 2 rfl 2)) rfl ?_))))
 obtain ⟨x_9, hx_9, h⟩ := kg h
 refine kP hS rfl rfl (by kernel_rfl) rfl (c_curve_group_mul _ a0_0_0 a0_0_1 a0_1_0 a0_1_1 a0_2_0 a0_2_1 a0_3_0 a0_3_1 a0_4_0 a0_4_1 a0_5 a1_2_0 a1_2_1 a1_2_0 a1_2_1 va0_0_1 va0_1_1 va0_2_1 va0_3_1 va0_4_1 va1_2_1 va1_2_1 ba0 ba0_0 ba0_1 ba0_2 ba0_3 ba0_4 ba1_2 ba1_2 ((hA.rp 0 rfl).now hS.fr).rp ((hA.rb 1 rfl).now hS.fr) ((hA.rp 2 rfl).now hS.fr).rp ((hA.rb 3 rfl).now hS.fr) ((hA.rp 4 rfl).now hS.fr).rp ((hA.rb 5 rfl).now hS.fr) ((hA.rp 6 rfl).now hS.fr).rp ((hA.rb 7 rfl).now hS.fr) ((hA.rp 8 rfl).now hS.fr).rp ((hA.rb 9 rfl).now hS.fr) ((hA.rb 10 rfl).now hS.fr) ((hA.rp 15 rfl).now hS.fr).rp ((hA.rb 16 rfl).now hS.fr) ((hA.rp 15 rfl).now hS.fr).rp ((hA.rb 16 rfl).now hS.fr) _ hx_9) rfl ?_
 rintro _ w ⟨v_10, b_12, rfl, hS1⟩
 have hS := hS.call hS1
 refine kj (hS.pick [2, 3, 4] (by decide) rfl) rfl rfl (fun w hF => km rfl) rfl ?_
 refine kj (hS.pick [2, 3, 4] (by decide) rfl) rfl rfl (fun w hF => kl (k := 2) Tryz.underlying66 rfl rfl nz56 rfl) rfl ?_
 refine kj (hS.pick [2, 3, 4] (by decide) rfl) rfl rfl (fun w hF => ku Tryz.underlying56 rfl rfl (hF.bxc 1 rfl 2)) rfl ?_
 refine kj (hS.pick [2, 3, 4] (by decide) rfl) rfl rfl (fun w hF => kl (k := 2) Tryz.underlying66 rfl rfl nz56 rfl) rfl ?_
 refine kj (hS.pick [2, 3, 4] (by decide) rfl) rfl rfl (fun w hF => ku Tryz.underlying56 rfl rfl (hF.bxc 1 rfl 2)) rfl ?_
 obtain ⟨x_14, hx_14, h⟩ := kg h
 refine kP (hS.pick [2, 3, 4] (by decide) rfl) rfl rfl (by kernel_rfl) rfl (c_curve_group_mul _ a0_0_0 a0_0_1 a0_1_0 a0_1_1 a0_2_0 a0_2_1 a0_3_0 a0_3_1 a0_4_0 a0_4_1 a0_5 a2_2_0 a2_2_1 a2_2_0 a2_2_1 va0_0_1 va0_1_1 va0_2_1 va0_3_1 va0_4_1 va2_2_1 va2_2_1 ba0 ba0_0 ba0_1 ba0_2 ba0_3 ba0_4 ba2_2 ba2_2 ((hA.rp 0 rfl).now hS.fr).rp ((hA.rb 1 rfl).now hS.fr) ((hA.rp 2 rfl).now hS.fr).rp ((hA.rb 3 rfl).now hS.fr) ((hA.rp 4 rfl).now hS.fr).rp ((hA.rb 5 rfl).now hS.fr) ((hA.rp 6 rfl).now hS.fr).rp ((hA.rb 7 rfl).now hS.fr) ((hA.rp 8 rfl).now hS.fr).rp ((hA.rb 9 rfl).now hS.fr) ((hA.rb 10 rfl).now hS.fr) ((hA.rp 21 rfl).now hS.fr).rp ((hA.rb 22 rfl).now hS.fr) ((hA.rp 21 rfl).now hS.fr).rp ((hA.rb 22 rfl).now hS.fr) _ hx_14) rfl ?_
 rintro _ w ⟨v_15, b_17, rfl, hS1⟩
 have hS := hS.call hS1
 refine kj (hS.pick [4, 5, 6] (by decide) rfl) rfl rfl (fun w hF => kA rfl) rfl ?_
 refine kj (hS.pick [4, 5, 6] (by decide) rfl) rfl rfl (fun w hF => kA rfl) rfl ?_
 refine kY (hS.pick [4, 5, 6] (by decide) rfl) ?_
 refine ka (ke ?_)
 refine kN (fun w' => St [] w0 w' [OE.bx b_17 [vB x_14.1, v_15], own e32 v_15 x_14.2, OE.bx b_12 [vB x_9.1, v_10], own e32 v_10 x_9.2, OE.bx b_5 [.pointer none, .pointer none, .pointer none], OE.bx b_3 [pB ba2_0 0, pB ba2_1 0, pB ba2_2 0], OE.bx b_1 [pB ba1_0 0, pB ba1_1 0, pB ba1_2 0]]) (fun i => !([4, 9].contains i)) hmix (fun _ _ _ hf => hf.2) (fun _ _ hf => hf) (by kernel_rfl) ?_
 have hS := hS.drew
 show lxE _ _ _ _ _ _ _ [0, 1, 2, 3, 4, 5, 6, 7, 8, 9, 10, 11] _ _
 refine kj hS rfl rfl (fun w hF => km rfl) rfl (kj hS rfl rfl (fun w hF => kl (k := 0) Tryz.underlying66 rfl rfl nz56 rfl) rfl (kj hS rfl rfl (fun w hF => ku Tryz.underlying56 rfl rfl (hF.bxc 6 rfl 0)) rfl (kj hS rfl rfl (fun w hF => km rfl) rfl ?_)))
 obtain ⟨x_19, hx_19, h⟩ := kg h
 refine kP hS rfl rfl (by kernel_rfl) rfl (c_curve_group_mul _ a0_0_0 a0_0_1 a0_1_0 a0_1_1 a0_2_0 a0_2_1 a0_3_0 a0_3_1 a0_4_0 a0_4_1 a0_5 a1_0_0 a1_0_1 x_14.1 x_14.2 va0_0_1 va0_1_1 va0_2_1 va0_3_1 va0_4_1 va1_0_1 v_15 ba0 ba0_0 ba0_1 ba0_2 ba0_3 ba0_4 ba1_0 b_17 ((hA.rp 0 rfl).now hS.fr).rp ((hA.rb 1 rfl).now hS.fr) ((hA.rp 2 rfl).now hS.fr).rp ((hA.rb 3 rfl).now hS.fr) ((hA.rp 4 rfl).now hS.fr).rp ((hA.rb 5 rfl).now hS.fr) ((hA.rp 6 rfl).now hS.fr).rp ((hA.rb 7 rfl).now hS.fr) ((hA.rp 8 rfl).now hS.fr).rp ((hA.rb 9 rfl).now hS.fr) ((hA.rb 10 rfl).now hS.fr) ((hA.rp 11 rfl).now hS.fr).rp ((hA.rb 12 rfl).now hS.fr) (hS.ro 1 rfl).rp (hS.rb 0 rfl) _ hx_19) rfl ?_
 rintro _ w ⟨v_20, b_22, rfl, hS1⟩
 have hS := hS.call hS1
 refine kj (hS.pick [2, 3, 4, 5, 6, 7, 8] (by decide) rfl) rfl rfl (fun w hF => km rfl) rfl ?_
 refine kj (hS.pick [2, 3, 4, 5, 6, 7, 8] (by decide) rfl) rfl rfl (fun w hF => kl (k := 0) Tryz.underlying66 rfl rfl nz56 rfl) rfl ?_
 refine kj (hS.pick [2, 3, 4, 5, 6, 7, 8] (by decide) rfl) rfl rfl (fun w hF => ku Tryz.underlying56 rfl rfl (hF.bxc 5 rfl 0)) rfl ?_
 refine kj (hS.pick [2, 3, 4, 5, 6, 7, 8] (by decide) rfl) rfl rfl (fun w hF => km rfl) rfl ?_
 obtain ⟨x_24, hx_24, h⟩ := kg h
 refine kP (hS.pick [2, 3, 4, 5, 6, 7, 8] (by decide) rfl) rfl rfl (by kernel_rfl) rfl (c_curve_group_mul _ a0_0_0 a0_0_1 a0_1_0 a0_1_1 a0_2_0 a0_2_1 a0_3_0 a0_3_1 a0_4_0 a0_4_1 a0_5 a2_0_0 a2_0_1 x_9.1 x_9.2 va0_0_1 va0_1_1 va0_2_1 va0_3_1 va0_4_1 va2_0_1 v_10 ba0 ba0_0 ba0_1 ba0_2 ba0_3 ba0_4 ba2_0 b_12 ((hA.rp 0 rfl).now hS.fr).rp ((hA.rb 1 rfl).now hS.fr) ((hA.rp 2 rfl).now hS.fr).rp ((hA.rb 3 rfl).now hS.fr) ((hA.rp 4 rfl).now hS.fr).rp ((hA.rb 5 rfl).now hS.fr) ((hA.rp 6 rfl).now hS.fr).rp ((hA.rb 7 rfl).now hS.fr) ((hA.rp 8 rfl).now hS.fr).rp ((hA.rb 9 rfl).now hS.fr) ((hA.rb 10 rfl).now hS.fr) ((hA.rp 17 rfl).now hS.fr).rp ((hA.rb 18 rfl).now hS.fr) (hS.ro 5 rfl).rp (hS.rb 4 rfl) _ hx_24) rfl ?_
 rintro _ w ⟨v_25, b_27, rfl, hS1⟩
 have hS := hS.call hS1
 refine kj (hS.pick [4, 5, 6, 7, 8, 9, 10] (by decide) rfl) rfl rfl (fun w hF => kA rfl) rfl ?_
 refine kj (hS.pick [4, 5, 6, 7, 8, 9, 10] (by decide) rfl) rfl rfl (fun w hF => kA rfl) rfl ?_
 refine kY (hS.pick [4, 5, 6, 7, 8, 9, 10] (by decide) rfl) ?_
 refine ka (ke ?_)
 refine kN (fun w' => St [] w0 w' [OE.bx b_27 [vB x_24.1, v_25], own e32 v_25 x_24.2, OE.bx b_22 [vB x_19.1, v_20], own e32 v_20 x_19.2, OE.bx b_17 [vB x_14.1, v_15], own e32 v_15 x_14.2, OE.bx b_12 [vB x_9.1, v_10], own e32 v_10 x_9.2, OE.bx b_5 [.pointer none, .pointer none, .pointer none], OE.bx b_3 [pB ba2_0 0, pB ba2_1 0, pB ba2_2 0], OE.bx b_1 [pB ba1_0 0, pB ba1_1 0, pB ba1_2 0]]) (fun i => !([7, 8, 16, 17].contains i)) hmix (fun _ _ _ hf => hf.2) (fun _ _ hf => hf) (by kernel_rfl) ?_
 have hS := hS.drew
 show lxE _ _ _ _ _ _ _ [0, 1, 2, 3, 4, 5, 6, 7, 8, 9, 10, 11, 12, 13, 14, 15, 16, 17, 18, 19] _ _
 refine kj hS rfl rfl (fun w hF => km rfl) rfl (kj hS rfl rfl (fun w hF => kl (k := 1) Tryz.underlying66 rfl rfl nz56 rfl) rfl (kj hS rfl rfl (fun w hF => ku Tryz.underlying56 rfl rfl (hF.bxc 10 rfl 1)) rfl (kj hS rfl rfl (fun w hF => km rfl) rfl (kj hS rfl rfl (fun w hF => kl (k := 2) Tryz.underlying66 rfl rfl nz56 rfl) rfl (kj hS rfl rfl (fun w hF => ku Tryz.underlying56 rfl rfl (hF.bxc 9 rfl 2)) rfl (kj hS rfl rfl (fun w hF => km rfl) rfl ?_))))))
 obtain ⟨x_29, hx_29, h⟩ := kg h
 refine kP hS rfl rfl (by kernel_rfl) rfl (c_curve_group_mul _ a0_0_0 a0_0_1 a0_1_0 a0_1_1 a0_2_0 a0_2_1 a0_3_0 a0_3_1 a0_4_0 a0_4_1 a0_5 a2_2_0 a2_2_1 x_14.1 x_14.2 va0_0_1 va0_1_1 va0_2_1 va0_3_1 va0_4_1 va2_2_1 v_15 ba0 ba0_0 ba0_1 ba0_2 ba0_3 ba0_4 ba2_2 b_17 ((hA.rp 0 rfl).now hS.fr).rp ((hA.rb 1 rfl).now hS.fr) ((hA.rp 2 rfl).now hS.fr).rp ((hA.rb 3 rfl).now hS.fr) ((hA.rp 4 rfl).now hS.fr).rp ((hA.rb 5 rfl).now hS.fr) ((hA.rp 6 rfl).now hS.fr).rp ((hA.rb 7 rfl).now hS.fr) ((hA.rp 8 rfl).now hS.fr).rp ((hA.rb 9 rfl).now hS.fr) ((hA.rb 10 rfl).now hS.fr) ((hA.rp 21 rfl).now hS.fr).rp ((hA.rb 22 rfl).now hS.fr) (hS.ro 5 rfl).rp (hS.rb 4 rfl) _ hx_29) rfl ?_
 rintro _ w ⟨v_30, b_32, rfl, hS1⟩
 have hS := hS.call hS1
 obtain ⟨x_34, hx_34, h⟩ := kg h
 refine kP (hS.pick [2, 3, 4, 5, 6, 7, 8, 9, 10, 11, 12] (by decide) rfl) rfl rfl (by kernel_rfl) rfl (c_curve_group_mul _ a0_0_0 a0_0_1 a0_1_0 a0_1_1 a0_2_0 a0_2_1 a0_3_0 a0_3_1 a0_4_0 a0_4_1 a0_5 a1_1_0 a1_1_1 x_29.1 x_29.2 va0_0_1 va0_1_1 va0_2_1 va0_3_1 va0_4_1 va1_1_1 v_30 ba0 ba0_0 ba0_1 ba0_2 ba0_3 ba0_4 ba1_1 b_32 ((hA.rp 0 rfl).now hS.fr).rp ((hA.rb 1 rfl).now hS.fr) ((hA.rp 2 rfl).now hS.fr).rp ((hA.rb 3 rfl).now hS.fr) ((hA.rp 4 rfl).now hS.fr).rp ((hA.rb 5 rfl).now hS.fr) ((hA.rp 6 rfl).now hS.fr).rp ((hA.rb 7 rfl).now hS.fr) ((hA.rp 8 rfl).now hS.fr).rp ((hA.rb 9 rfl).now hS.fr) ((hA.rb 10 rfl).now hS.fr) ((hA.rp 13 rfl).now hS.fr).rp ((hA.rb 14 rfl).now hS.fr) (hS.ro 1 rfl).rp (hS.rb 0 rfl) _ hx_34) rfl ?_
 rintro _ w ⟨v_35, b_37, rfl, hS1⟩
 have hS := hS.call hS1
 refine kj (hS.pick [4, 5, 6, 7, 8, 9, 10, 11, 12, 13, 14] (by decide) rfl) rfl rfl (fun w hF => km rfl) rfl ?_
 refine kj (hS.pick [4, 5, 6, 7, 8, 9, 10, 11, 12, 13, 14] (by decide) rfl) rfl rfl (fun w hF => kl (k := 1) Tryz.underlying66 rfl rfl nz56 rfl) rfl ?_
 refine kj (hS.pick [4, 5, 6, 7, 8, 9, 10, 11, 12, 13, 14] (by decide) rfl) rfl rfl (fun w hF => ku Tryz.underlying56 rfl rfl (hF.bxc 9 rfl 1)) rfl ?_
 refine kj (hS.pick [4, 5, 6, 7, 8, 9, 10, 11, 12, 13, 14] (by decide) rfl) rfl rfl (fun w hF => km rfl) rfl ?_
 refine kj (hS.pick [4, 5, 6, 7, 8, 9, 10, 11, 12, 13, 14] (by decide) rfl) rfl rfl (fun w hF => kl (k := 2) Tryz.underlying66 rfl rfl nz56 rfl) rfl ?_
 refine kj (hS.pick [4, 5, 6, 7, 8, 9, 10, 11, 12, 13, 14] (by decide) rfl) rfl rfl (fun w hF => ku Tryz.underlying56 rfl rfl (hF.bxc 10 rfl 2)) rfl ?_
 refine kj (hS.pick [4, 5, 6, 7, 8, 9, 10, 11, 12, 13, 14] (by decide) rfl) rfl rfl (fun w hF => km rfl) rfl ?_
 obtain ⟨x_39, hx_39, h⟩ := kg h
 refine kP (hS.pick [4, 5, 6, 7, 8, 9, 10, 11, 12, 13, 14] (by decide) rfl) rfl rfl (by kernel_rfl) rfl (c_curve_group_mul _ a0_0_0 a0_0_1 a0_1_0 a0_1_1 a0_2_0 a0_2_1 a0_3_0 a0_3_1 a0_4_0 a0_4_1 a0_5 a1_2_0 a1_2_1 x_9.1 x_9.2 va0_0_1 va0_1_1 va0_2_1 va0_3_1 va0_4_1 va1_2_1 v_10 ba0 ba0_0 ba0_1 ba0_2 ba0_3 ba0_4 ba1_2 b_12 ((hA.rp 0 rfl).now hS.fr).rp ((hA.rb 1 rfl).now hS.fr) ((hA.rp 2 rfl).now hS.fr).rp ((hA.rb 3 rfl).now hS.fr) ((hA.rp 4 rfl).now hS.fr).rp ((hA.rb 5 rfl).now hS.fr) ((hA.rp 6 rfl).now hS.fr).rp ((hA.rb 7 rfl).now hS.fr) ((hA.rp 8 rfl).now hS.fr).rp ((hA.rb 9 rfl).now hS.fr) ((hA.rb 10 rfl).now hS.fr) ((hA.rp 15 rfl).now hS.fr).rp ((hA.rb 16 rfl).now hS.fr) (hS.ro 11 rfl).rp (hS.rb 10 rfl) _ hx_39) rfl ?_
 rintro _ w ⟨v_40, b_42, rfl, hS1⟩
 have hS := hS.call hS1
 obtain ⟨x_44, hx_44, h⟩ := kg h
 refine kP (hS.pick [6, 7, 8, 9, 10, 11, 12, 13, 14, 15, 16] (by decide) rfl) rfl rfl (by kernel_rfl) rfl (c_curve_group_mul _ a0_0_0 a0_0_1 a0_1_0 a0_1_1 a0_2_0 a0_2_1 a0_3_0 a0_3_1 a0_4_0 a0_4_1 a0_5 a2_1_0 a2_1_1 x_39.1 x_39.2 va0_0_1 va0_1_1 va0_2_1 va0_3_1 va0_4_1 va2_1_1 v_40 ba0 ba0_0 ba0_1 ba0_2 ba0_3 ba0_4 ba2_1 b_42 ((hA.rp 0 rfl).now hS.fr).rp ((hA.rb 1 rfl).now hS.fr) ((hA.rp 2 rfl).now hS.fr).rp ((hA.rb 3 rfl).now hS.fr) ((hA.rp 4 rfl).now hS.fr).rp ((hA.rb 5 rfl).now hS.fr) ((hA.rp 6 rfl).now hS.fr).rp ((hA.rb 7 rfl).now hS.fr) ((hA.rp 8 rfl).now hS.fr).rp ((hA.rb 9 rfl).now hS.fr) ((hA.rb 10 rfl).now hS.fr) ((hA.rp 19 rfl).now hS.fr).rp ((hA.rb 20 rfl).now hS.fr) (hS.ro 1 rfl).rp (hS.rb 0 rfl) _ hx_44) rfl ?_
 rintro _ w ⟨v_45, b_47, rfl, hS1⟩
 have hS := hS.call hS1
 refine kj (hS.pick [8, 9, 10, 11, 12, 13, 14, 15, 16, 17, 18] (by decide) rfl) rfl rfl (fun w hF => kA rfl) rfl ?_
 refine kj (hS.pick [8, 9, 10, 11, 12, 13, 14, 15, 16, 17, 18] (by decide) rfl) rfl rfl (fun w hF => kA rfl) rfl ?_
 refine kY (hS.pick [8, 9, 10, 11, 12, 13, 14, 15, 16, 17, 18] (by decide) rfl) ?_
 refine ka (ke (kc (kb 3 rfl ?_)))
 obtain ⟨x_49, hx_49, h⟩ := kg h
 refine kk (by kernel_rfl) rfl (c_curve_group_sub _ a0_0_0 a0_0_1 a0_1_0 a0_1_1 a0_2_0 a0_2_1 a0_3_0 a0_3_1 a0_4_0 a0_4_1 a0_5 x_24.1 x_24.2 x_19.1 x_19.2 va0_0_1 va0_1_1 va0_2_1 va0_3_1 va0_4_1 v_25 v_20 ba0 ba0_0 ba0_1 ba0_2 ba0_3 ba0_4 b_27 b_22 ((hA.rp 0 rfl).now hS.fr).rp ((hA.rb 1 rfl).now hS.fr) ((hA.rp 2 rfl).now hS.fr).rp ((hA.rb 3 rfl).now hS.fr) ((hA.rp 4 rfl).now hS.fr).rp ((hA.rb 5 rfl).now hS.fr) ((hA.rp 6 rfl).now hS.fr).rp ((hA.rb 7 rfl).now hS.fr) ((hA.rp 8 rfl).now hS.fr).rp ((hA.rb 9 rfl).now hS.fr) ((hA.rb 10 rfl).now hS.fr) (hS.ro 9 rfl).rp (hS.rb 8 rfl) (hS.ro 11 rfl).rp (hS.rb 10 rfl) _ hx_49) rfl ?_
 rintro _ w ⟨v_50, b_52, rfl, hS1⟩
 have hS := hS.call hS1
 refine kb 3 rfl ?_
 obtain ⟨x_54, hx_54, h⟩ := kg h
 refine kk (by kernel_rfl) rfl (c_curve_group_sub _ a0_0_0 a0_0_1 a0_1_0 a0_1_1 a0_2_0 a0_2_1 a0_3_0 a0_3_1 a0_4_0 a0_4_1 a0_5 x_44.1 x_44.2 x_34.1 x_34.2 va0_0_1 va0_1_1 va0_2_1 va0_3_1 va0_4_1 v_45 v_35 ba0 ba0_0 ba0_1 ba0_2 ba0_3 ba0_4 b_47 b_37 ((hA.rp 0 rfl).now hS.fr).rp ((hA.rb 1 rfl).now hS.fr) ((hA.rp 2 rfl).now hS.fr).rp ((hA.rb 3 rfl).now hS.fr) ((hA.rp 4 rfl).now hS.fr).rp ((hA.rb 5 rfl).now hS.fr) ((hA.rp 6 rfl).now hS.fr).rp ((hA.rb 7 rfl).now hS.fr) ((hA.rp 8 rfl).now hS.fr).rp ((hA.rb 9 rfl).now hS.fr) ((hA.rb 10 rfl).now hS.fr) (hS.ro 3 rfl).rp (hS.rb 2 rfl) (hS.ro 7 rfl).rp (hS.rb 6 rfl) _ hx_54) rfl ?_
 rintro _ w ⟨v_55, b_57, rfl, hS1⟩
 have hS := hS.call hS1
 refine kb 2 rfl ?_
 refine kf (ka (ke (ke (kc (kb 1 rfl ?_)))))
 obtain ⟨x_59, hx_59, h⟩ := kg h
 refine kk (by kernel_rfl) rfl (c_bignum_Int_Sign _ x_49.1 x_49.2 v_50 b_52 (hS.ro 3 rfl).rp (hS.rb 2 rfl) _ hx_59) rfl ?_
 rintro _ w ⟨rfl, hS1⟩
 have hS := hS.call hS1
 refine kb 1 rfl ?_
 refine kf (ka ?_)
 refine ko rfl (fun hb_146 => ?_) (fun hb_146 => ?_)
 ·have h := if_t h hb_146
  refine ke (ke (kc (kb 1 rfl ?_)))
  obtain ⟨x_60, hx_60, h⟩ := kg h
  refine kk (by kernel_rfl) rfl (c_bignum_Int_Sign _ x_54.1 x_54.2 v_55 b_57 (hS.ro 1 rfl).rp (hS.rb 0 rfl) _ hx_60) rfl ?_
  rintro _ w ⟨rfl, hS1⟩
  have hS := hS.call hS1
  refine kb 1 rfl ?_
  refine kf (ka ?_)
  refine ko rfl (fun hb_80 => ?_) (fun hb_80 => ?_)
  ·have h := if_t h hb_80
   refine ke (kc (kb 1 rfl ?_))
   refine ki (kH (us := [pB ba1_0 0, pB ba1_1 0, pB ba1_2 0]) Tryz.underlying66 rfl sz66 rfl (hS.bxs 22 rfl rfl)) rfl ?_
   replace hS := hS.pick (os' := [OE.bx b_57 [vB x_54.1, v_55], own e32 v_55 x_54.2, OE.bx b_52 [vB x_49.1, v_50], own e32 v_50 x_49.2, OE.bx b_47 [vB x_44.1, v_45], own e32 v_45 x_44.2, OE.bx b_42 [vB x_39.1, v_40], own e32 v_40 x_39.2, OE.bx b_37 [vB x_34.1, v_35], own e32 v_35 x_34.2, OE.bx b_32 [vB x_29.1, v_30], own e32 v_30 x_29.2, OE.bx b_27 [vB x_24.1, v_25], own e32 v_25 x_24.2, OE.bx b_22 [vB x_19.1, v_20], own e32 v_20 x_19.2, OE.bx b_17 [vB x_14.1, v_15], own e32 v_15 x_14.2, OE.bx b_12 [vB x_9.1, v_10], own e32 v_10 x_9.2] ++ [OE.bx b_5 [.pointer none, .pointer none, .pointer none], OE.bx b_3 [pB ba2_0 0, pB ba2_1 0, pB ba2_2 0], OE.bx b_1 [pB ba1_0 0, pB ba1_1 0, pB ba1_2 0]]) [0, 1, 2, 3, 4, 5, 6, 7, 8, 9, 10, 11, 12, 13, 14, 15, 16, 17, 18, 19, 20, 21, 22] (by decide) rfl
   obtain ⟨hZ, hA, hP, hS⟩ := hZ.frzK hTT hA hP hS
   obtain ⟨x_61, hx_61, h⟩ := kg h
   refine kk (by kernel_rfl) rfl (c_curve_group_double _ a0_0_0 a0_0_1 a0_1_0 a0_1_1 a0_2_0 a0_2_1 a0_3_0 a0_3_1 a0_4_0 a0_4_1 a0_5 a1_0_0 a1_0_1 a1_1_0 a1_1_1 a1_2_0 a1_2_1 va0_0_1 va0_1_1 va0_2_1 va0_3_1 va0_4_1 va1_0_1 va1_1_1 va1_2_1 ba0 ba0_0 ba0_1 ba0_2 ba0_3 ba0_4 ba1_0 ba1_1 ba1_2 _ (hZ.okT hTT hS) (hA.rpT hP 0 rfl) (hA.rbT hP 1 rfl) (hA.rpT hP 2 rfl) (hA.rbT hP 3 rfl) (hA.rpT hP 4 rfl) (hA.rbT hP 5 rfl) (hA.rpT hP 6 rfl) (hA.rbT hP 7 rfl) (hA.rpT hP 8 rfl) (hA.rbT hP 9 rfl) (hA.rbT hP 10 rfl) (hA.rpT hP 11 rfl) (hA.rbT hP 12 rfl) (hA.rpT hP 13 rfl) (hA.rbT hP 14 rfl) (hA.rpT hP 15 rfl) (hA.rbT hP 16 rfl) _ hx_61) rfl ?_
   rintro _ w ⟨b0_62_0, u0_62_0_1, b0_62_1, u0_62_1_1, b0_62_2, u0_62_2_1, rfl, hS1, hR1⟩
   obtain ⟨S_65, wb_66, hZ, hA, hP, hS⟩ := hZ.callK hA hP hS hS1 hR1 rfl
   refine kX (kM (i := 0) (us := [pB b0_62_0 0, pB b0_62_1 0, pB b0_62_2 0]) rfl sz66 rfl rfl rfl ⟨rfl, rfl, rfl, trivial⟩ rfl hS) ?_
   intro w hS
   refine kf (ka (kq (kv (kv ?_))))
   cases h
   obtain ⟨hS0, hR⟩ := hZ.outT hTT hA hP hS
   exact QE_rv1 rfl ⟨_, rfl, run_ldAgg (us := [pB b0_62_0 0, pB b0_62_1 0, pB b0_62_2 0]) Tryz.underlying66 rfl sz66 (hS.bxs 0 rfl rfl)⟩ ⟨b0_62_0, u0_62_0_1, b0_62_1, u0_62_1_1, b0_62_2, u0_62_2_1, rfl, hS0, (Rds.cons (hR.nth 48 rfl) (Rds.cons (hR.nth 47 rfl) (Rds.cons (hR.nth 46 rfl) (Rds.cons (hR.nth 45 rfl) (Rds.cons (hR.nth 44 rfl) (Rds.cons (hR.nth 43 rfl) Rds.nil))))))⟩
  have h := if_f h hb_80
  refine kr (ka (ke (kc ?_)))
  obtain ⟨x_67, hx_67, h⟩ := kg h
  refine kk (by kernel_rfl) rfl (c_curve_infinity _     _ hx_67) rfl ?_
  rintro _ w ⟨v_68, v_70, v_72, b_74, b_76, b_78, rfl, hS1⟩
  have hS := hS.call hS1
  refine kX (kM (i := 26) (us := [pB b_74 0, pB b_76 0, pB b_78 0]) rfl sz66 rfl rfl rfl ⟨rfl, rfl, rfl, trivial⟩ rfl hS) ?_
  intro w hS
  refine kf (ka (kq (kv ?_)))
  cases h
  obtain ⟨hS0, hR⟩ := hZ.outT hTT hA hP hS
  exact QE_rv1 rfl ⟨_, rfl, run_ldAgg (us := [pB b_74 0, pB b_76 0, pB b_78 0]) Tryz.underlying66 rfl sz66 (hS.bxs 26 rfl rfl)⟩ ⟨b_74, v_68, b_76, v_70, b_78, v_72, rfl, hS0, (Rds.cons (hR.nth 47 rfl) (Rds.cons (hR.nth 46 rfl) (Rds.cons (hR.nth 49 rfl) (Rds.cons (hR.nth 48 rfl) (Rds.cons (hR.nth 51 rfl) (Rds.cons (hR.nth 50 rfl) Rds.nil))))))⟩
 have h := if_f h hb_146
 refine kr (ka (ke (kc (kb 3 rfl ?_))))
 obtain ⟨x_81, hx_81, h⟩ := kg h
 refine kk (by kernel_rfl) rfl (c_curve_group_mul _ a0_0_0 a0_0_1 a0_1_0 a0_1_1 a0_2_0 a0_2_1 a0_3_0 a0_3_1 a0_4_0 a0_4_1 a0_5 x_49.1 x_49.2 x_49.1 x_49.2 va0_0_1 va0_1_1 va0_2_1 va0_3_1 va0_4_1 v_50 v_50 ba0 ba0_0 ba0_1 ba0_2 ba0_3 ba0_4 b_52 b_52 ((hA.rp 0 rfl).now hS.fr).rp ((hA.rb 1 rfl).now hS.fr) ((hA.rp 2 rfl).now hS.fr).rp ((hA.rb 3 rfl).now hS.fr) ((hA.rp 4 rfl).now hS.fr).rp ((hA.rb 5 rfl).now hS.fr) ((hA.rp 6 rfl).now hS.fr).rp ((hA.rb 7 rfl).now hS.fr) ((hA.rp 8 rfl).now hS.fr).rp ((hA.rb 9 rfl).now hS.fr) ((hA.rb 10 rfl).now hS.fr) (hS.ro 3 rfl).rp (hS.rb 2 rfl) (hS.ro 3 rfl).rp (hS.rb 2 rfl) _ hx_81) rfl ?_
 rintro _ w ⟨v_82, b_84, rfl, hS1⟩
 have hS := hS.call hS1
 refine kb 1 rfl ?_
 refine kf (ka (ke (kc (kb 3 rfl ?_))))
 obtain ⟨x_86, hx_86, h⟩ := kg h
 refine kk (by kernel_rfl) rfl (c_curve_group_mul _ a0_0_0 a0_0_1 a0_1_0 a0_1_1 a0_2_0 a0_2_1 a0_3_0 a0_3_1 a0_4_0 a0_4_1 a0_5 x_49.1 x_49.2 x_81.1 x_81.2 va0_0_1 va0_1_1 va0_2_1 va0_3_1 va0_4_1 v_50 v_82 ba0 ba0_0 ba0_1 ba0_2 ba0_3 ba0_4 b_52 b_84 ((hA.rp 0 rfl).now hS.fr).rp ((hA.rb 1 rfl).now hS.fr) ((hA.rp 2 rfl).now hS.fr).rp ((hA.rb 3 rfl).now hS.fr) ((hA.rp 4 rfl).now hS.fr).rp ((hA.rb 5 rfl).now hS.fr) ((hA.rp 6 rfl).now hS.fr).rp ((hA.rb 7 rfl).now hS.fr) ((hA.rp 8 rfl).now hS.fr).rp ((hA.rb 9 rfl).now hS.fr) ((hA.rb 10 rfl).now hS.fr) (hS.ro 5 rfl).rp (hS.rb 4 rfl) (hS.ro 1 rfl).rp (hS.rb 0 rfl) _ hx_86) rfl ?_
 rintro _ w ⟨v_87, b_89, rfl, hS1⟩
 have hS := hS.call hS1
 refine kb 3 rfl ?_
 obtain ⟨x_91, hx_91, h⟩ := kg h
 refine kk (by kernel_rfl) rfl (c_curve_group_mul _ a0_0_0 a0_0_1 a0_1_0 a0_1_1 a0_2_0 a0_2_1 a0_3_0 a0_3_1 a0_4_0 a0_4_1 a0_5 x_19.1 x_19.2 x_81.1 x_81.2 va0_0_1 va0_1_1 va0_2_1 va0_3_1 va0_4_1 v_20 v_82 ba0 ba0_0 ba0_1 ba0_2 ba0_3 ba0_4 b_22 b_84 ((hA.rp 0 rfl).now hS.fr).rp ((hA.rb 1 rfl).now hS.fr) ((hA.rp 2 rfl).now hS.fr).rp ((hA.rb 3 rfl).now hS.fr) ((hA.rp 4 rfl).now hS.fr).rp ((hA.rb 5 rfl).now hS.fr) ((hA.rp 6 rfl).now hS.fr).rp ((hA.rb 7 rfl).now hS.fr) ((hA.rp 8 rfl).now hS.fr).rp ((hA.rb 9 rfl).now hS.fr) ((hA.rb 10 rfl).now hS.fr) (hS.ro 19 rfl).rp (hS.rb 18 rfl) (hS.ro 3 rfl).rp (hS.rb 2 rfl) _ hx_91) rfl ?_
 rintro _ w ⟨v_92, b_94, rfl, hS1⟩
 have hS := hS.call hS1
 refine kb 2 rfl ?_
 refine kf (ka (ke (kc (kb 5 rfl ?_))))
 obtain ⟨x_96, hx_96, h⟩ := kg h
 refine kk (by kernel_rfl) rfl (c_curve_group_mul _ a0_0_0 a0_0_1 a0_1_0 a0_1_1 a0_2_0 a0_2_1 a0_3_0 a0_3_1 a0_4_0 a0_4_1 a0_5 x_54.1 x_54.2 x_54.1 x_54.2 va0_0_1 va0_1_1 va0_2_1 va0_3_1 va0_4_1 v_55 v_55 ba0 ba0_0 ba0_1 ba0_2 ba0_3 ba0_4 b_57 b_57 ((hA.rp 0 rfl).now hS.fr).rp ((hA.rb 1 rfl).now hS.fr) ((hA.rp 2 rfl).now hS.fr).rp ((hA.rb 3 rfl).now hS.fr) ((hA.rp 4 rfl).now hS.fr).rp ((hA.rb 5 rfl).now hS.fr) ((hA.rp 6 rfl).now hS.fr).rp ((hA.rb 7 rfl).now hS.fr) ((hA.rp 8 rfl).now hS.fr).rp ((hA.rb 9 rfl).now hS.fr) ((hA.rb 10 rfl).now hS.fr) (hS.ro 7 rfl).rp (hS.rb 6 rfl) (hS.ro 7 rfl).rp (hS.rb 6 rfl) _ hx_96) rfl ?_
 rintro _ w ⟨v_97, b_99, rfl, hS1⟩
 have hS := hS.call hS1
 refine kb 1 rfl ?_
 obtain ⟨x_101, hx_101, h⟩ := kg h
 refine kk (by kernel_rfl) rfl (c_curve_group_sub _ a0_0_0 a0_0_1 a0_1_0 a0_1_1 a0_2_0 a0_2_1 a0_3_0 a0_3_1 a0_4_0 a0_4_1 a0_5 x_96.1 x_96.2 x_86.1 x_86.2 va0_0_1 va0_1_1 va0_2_1 va0_3_1 va0_4_1 v_97 v_87 ba0 ba0_0 ba0_1 ba0_2 ba0_3 ba0_4 b_99 b_89 ((hA.rp 0 rfl).now hS.fr).rp ((hA.rb 1 rfl).now hS.fr) ((hA.rp 2 rfl).now hS.fr).rp ((hA.rb 3 rfl).now hS.fr) ((hA.rp 4 rfl).now hS.fr).rp ((hA.rb 5 rfl).now hS.fr) ((hA.rp 6 rfl).now hS.fr).rp ((hA.rb 7 rfl).now hS.fr) ((hA.rp 8 rfl).now hS.fr).rp ((hA.rb 9 rfl).now hS.fr) ((hA.rb 10 rfl).now hS.fr) (hS.ro 1 rfl).rp (hS.rb 0 rfl) (hS.ro 5 rfl).rp (hS.rb 4 rfl) _ hx_101) rfl ?_
 rintro _ w ⟨v_102, b_104, rfl, hS1⟩
 have hS := hS.call hS1
 refine kb 2 rfl ?_
 obtain ⟨x_106, hx_106, h⟩ := kg h
 refine kk (by kernel_rfl) rfl (c_curve_group_times _ a0_0_0 a0_0_1 a0_1_0 a0_1_1 a0_2_0 a0_2_1 a0_3_0 a0_3_1 a0_4_0 a0_4_1 a0_5 2 x_91.1 x_91.2 va0_0_1 va0_1_1 va0_2_1 va0_3_1 va0_4_1 v_92 ba0 ba0_0 ba0_1 ba0_2 ba0_3 ba0_4 b_94 ((hA.rp 0 rfl).now hS.fr).rp ((hA.rb 1 rfl).now hS.fr) ((hA.rp 2 rfl).now hS.fr).rp ((hA.rb 3 rfl).now hS.fr) ((hA.rp 4 rfl).now hS.fr).rp ((hA.rb 5 rfl).now hS.fr) ((hA.rp 6 rfl).now hS.fr).rp ((hA.rb 7 rfl).now hS.fr) ((hA.rp 8 rfl).now hS.fr).rp ((hA.rb 9 rfl).now hS.fr) ((hA.rb 10 rfl).now hS.fr) (hS.ro 5 rfl).rp (hS.rb 4 rfl) _ hx_106) rfl ?_
 rintro _ w ⟨v_107, b_109, rfl, hS1⟩
 have hS := hS.call hS1
 obtain ⟨x_111, hx_111, h⟩ := kg h
 refine kk (by kernel_rfl) rfl (c_curve_group_sub _ a0_0_0 a0_0_1 a0_1_0 a0_1_1 a0_2_0 a0_2_1 a0_3_0 a0_3_1 a0_4_0 a0_4_1 a0_5 x_101.1 x_101.2 x_106.1 x_106.2 va0_0_1 va0_1_1 va0_2_1 va0_3_1 va0_4_1 v_102 v_107 ba0 ba0_0 ba0_1 ba0_2 ba0_3 ba0_4 b_104 b_109 ((hA.rp 0 rfl).now hS.fr).rp ((hA.rb 1 rfl).now hS.fr) ((hA.rp 2 rfl).now hS.fr).rp ((hA.rb 3 rfl).now hS.fr) ((hA.rp 4 rfl).now hS.fr).rp ((hA.rb 5 rfl).now hS.fr) ((hA.rp 6 rfl).now hS.fr).rp ((hA.rb 7 rfl).now hS.fr) ((hA.rp 8 rfl).now hS.fr).rp ((hA.rb 9 rfl).now hS.fr) ((hA.rb 10 rfl).now hS.fr) (hS.ro 3 rfl).rp (hS.rb 2 rfl) (hS.ro 1 rfl).rp (hS.rb 0 rfl) _ hx_111) rfl ?_
 rintro _ w ⟨v_112, b_114, rfl, hS1⟩
 have hS := hS.call hS1
 refine kb 1 rfl ?_
 refine kf (ka (ke (kc (kb 6 rfl ?_))))
 obtain ⟨x_116, hx_116, h⟩ := kg h
 refine kk (by kernel_rfl) rfl (c_curve_group_sub _ a0_0_0 a0_0_1 a0_1_0 a0_1_1 a0_2_0 a0_2_1 a0_3_0 a0_3_1 a0_4_0 a0_4_1 a0_5 x_91.1 x_91.2 x_111.1 x_111.2 va0_0_1 va0_1_1 va0_2_1 va0_3_1 va0_4_1 v_92 v_112 ba0 ba0_0 ba0_1 ba0_2 ba0_3 ba0_4 b_94 b_114 ((hA.rp 0 rfl).now hS.fr).rp ((hA.rb 1 rfl).now hS.fr) ((hA.rp 2 rfl).now hS.fr).rp ((hA.rb 3 rfl).now hS.fr) ((hA.rp 4 rfl).now hS.fr).rp ((hA.rb 5 rfl).now hS.fr) ((hA.rp 6 rfl).now hS.fr).rp ((hA.rb 7 rfl).now hS.fr) ((hA.rp 8 rfl).now hS.fr).rp ((hA.rb 9 rfl).now hS.fr) ((hA.rb 10 rfl).now hS.fr) (hS.ro 9 rfl).rp (hS.rb 8 rfl) (hS.ro 1 rfl).rp (hS.rb 0 rfl) _ hx_116) rfl ?_
 rintro _ w ⟨v_117, b_119, rfl, hS1⟩
 have hS := hS.call hS1
 obtain ⟨x_121, hx_121, h⟩ := kg h
 refine kk (by kernel_rfl) rfl (c_curve_group_mul _ a0_0_0 a0_0_1 a0_1_0 a0_1_1 a0_2_0 a0_2_1 a0_3_0 a0_3_1 a0_4_0 a0_4_1 a0_5 x_54.1 x_54.2 x_116.1 x_116.2 va0_0_1 va0_1_1 va0_2_1 va0_3_1 va0_4_1 v_55 v_117 ba0 ba0_0 ba0_1 ba0_2 ba0_3 ba0_4 b_57 b_119 ((hA.rp 0 rfl).now hS.fr).rp ((hA.rb 1 rfl).now hS.fr) ((hA.rp 2 rfl).now hS.fr).rp ((hA.rb 3 rfl).now hS.fr) ((hA.rp 4 rfl).now hS.fr).rp ((hA.rb 5 rfl).now hS.fr) ((hA.rp 6 rfl).now hS.fr).rp ((hA.rb 7 rfl).now hS.fr) ((hA.rp 8 rfl).now hS.fr).rp ((hA.rb 9 rfl).now hS.fr) ((hA.rb 10 rfl).now hS.fr) (hS.ro 17 rfl).rp (hS.rb 16 rfl) (hS.ro 1 rfl).rp (hS.rb 0 rfl) _ hx_121) rfl ?_
 rintro _ w ⟨v_122, b_124, rfl, hS1⟩
 have hS := hS.call hS1
 refine kb 3 rfl ?_
 obtain ⟨x_126, hx_126, h⟩ := kg h
 refine kk (by kernel_rfl) rfl (c_curve_group_mul _ a0_0_0 a0_0_1 a0_1_0 a0_1_1 a0_2_0 a0_2_1 a0_3_0 a0_3_1 a0_4_0 a0_4_1 a0_5 x_34.1 x_34.2 x_86.1 x_86.2 va0_0_1 va0_1_1 va0_2_1 va0_3_1 va0_4_1 v_35 v_87 ba0 ba0_0 ba0_1 ba0_2 ba0_3 ba0_4 b_37 b_89 ((hA.rp 0 rfl).now hS.fr).rp ((hA.rb 1 rfl).now hS.fr) ((hA.rp 2 rfl).now hS.fr).rp ((hA.rb 3 rfl).now hS.fr) ((hA.rp 4 rfl).now hS.fr).rp ((hA.rb 5 rfl).now hS.fr) ((hA.rp 6 rfl).now hS.fr).rp ((hA.rb 7 rfl).now hS.fr) ((hA.rp 8 rfl).now hS.fr).rp ((hA.rb 9 rfl).now hS.fr) ((hA.rb 10 rfl).now hS.fr) (hS.ro 27 rfl).rp (hS.rb 26 rfl) (hS.ro 15 rfl).rp (hS.rb 14 rfl) _ hx_126) rfl ?_
 rintro _ w ⟨v_127, b_129, rfl, hS1⟩
 have hS := hS.call hS1
 obtain ⟨x_131, hx_131, h⟩ := kg h
 refine kk (by kernel_rfl) rfl (c_curve_group_sub _ a0_0_0 a0_0_1 a0_1_0 a0_1_1 a0_2_0 a0_2_1 a0_3_0 a0_3_1 a0_4_0 a0_4_1 a0_5 x_121.1 x_121.2 x_126.1 x_126.2 va0_0_1 va0_1_1 va0_2_1 va0_3_1 va0_4_1 v_122 v_127 ba0 ba0_0 ba0_1 ba0_2 ba0_3 ba0_4 b_124 b_129 ((hA.rp 0 rfl).now hS.fr).rp ((hA.rb 1 rfl).now hS.fr) ((hA.rp 2 rfl).now hS.fr).rp ((hA.rb 3 rfl).now hS.fr) ((hA.rp 4 rfl).now hS.fr).rp ((hA.rb 5 rfl).now hS.fr) ((hA.rp 6 rfl).now hS.fr).rp ((hA.rb 7 rfl).now hS.fr) ((hA.rp 8 rfl).now hS.fr).rp ((hA.rb 9 rfl).now hS.fr) ((hA.rb 10 rfl).now hS.fr) (hS.ro 3 rfl).rp (hS.rb 2 rfl) (hS.ro 1 rfl).rp (hS.rb 0 rfl) _ hx_131) rfl ?_
 rintro _ w ⟨v_132, b_134, rfl, hS1⟩
 have hS := hS.call hS1
 refine kb 1 rfl ?_
 refine kf (ka (ke (kc (kb 5 rfl ?_))))
 refine ki (kl (k := 2) Tryz.underlying66 rfl rfl nz56 rfl) rfl (ki (ku Tryz.underlying56 rfl rfl (hS.bxc 44 rfl 2)) rfl (ki (kl (k := 2) Tryz.underlying66 rfl rfl nz56 rfl) rfl (ki (ku Tryz.underlying56 rfl rfl (hS.bxc 43 rfl 2)) rfl ?_)))
 obtain ⟨x_136, hx_136, h⟩ := kg h
 refine kk (by kernel_rfl) rfl (c_curve_group_mul _ a0_0_0 a0_0_1 a0_1_0 a0_1_1 a0_2_0 a0_2_1 a0_3_0 a0_3_1 a0_4_0 a0_4_1 a0_5 a1_2_0 a1_2_1 a2_2_0 a2_2_1 va0_0_1 va0_1_1 va0_2_1 va0_3_1 va0_4_1 va1_2_1 va2_2_1 ba0 ba0_0 ba0_1 ba0_2 ba0_3 ba0_4 ba1_2 ba2_2 ((hA.rp 0 rfl).now hS.fr).rp ((hA.rb 1 rfl).now hS.fr) ((hA.rp 2 rfl).now hS.fr).rp ((hA.rb 3 rfl).now hS.fr) ((hA.rp 4 rfl).now hS.fr).rp ((hA.rb 5 rfl).now hS.fr) ((hA.rp 6 rfl).now hS.fr).rp ((hA.rb 7 rfl).now hS.fr) ((hA.rp 8 rfl).now hS.fr).rp ((hA.rb 9 rfl).now hS.fr) ((hA.rb 10 rfl).now hS.fr) ((hA.rp 15 rfl).now hS.fr).rp ((hA.rb 16 rfl).now hS.fr) ((hA.rp 21 rfl).now hS.fr).rp ((hA.rb 22 rfl).now hS.fr) _ hx_136) rfl ?_
 rintro _ w ⟨v_137, b_139, rfl, hS1⟩
 have hS := hS.call hS1
 obtain ⟨x_141, hx_141, h⟩ := kg h
 refine kk (by kernel_rfl) rfl (c_curve_group_mul _ a0_0_0 a0_0_1 a0_1_0 a0_1_1 a0_2_0 a0_2_1 a0_3_0 a0_3_1 a0_4_0 a0_4_1 a0_5 x_49.1 x_49.2 x_136.1 x_136.2 va0_0_1 va0_1_1 va0_2_1 va0_3_1 va0_4_1 v_50 v_137 ba0 ba0_0 ba0_1 ba0_2 ba0_3 ba0_4 b_52 b_139 ((hA.rp 0 rfl).now hS.fr).rp ((hA.rb 1 rfl).now hS.fr) ((hA.rp 2 rfl).now hS.fr).rp ((hA.rb 3 rfl).now hS.fr) ((hA.rp 4 rfl).now hS.fr).rp ((hA.rb 5 rfl).now hS.fr) ((hA.rp 6 rfl).now hS.fr).rp ((hA.rb 7 rfl).now hS.fr) ((hA.rp 8 rfl).now hS.fr).rp ((hA.rb 9 rfl).now hS.fr) ((hA.rb 10 rfl).now hS.fr) (hS.ro 27 rfl).rp (hS.rb 26 rfl) (hS.ro 1 rfl).rp (hS.rb 0 rfl) _ hx_141) rfl ?_
 rintro _ w ⟨v_142, b_144, rfl, hS1⟩
 have hS := hS.call hS1
 refine ki (OpV_build (vs := [(0, pB b_114 0, [pB b_114 0]), (1, pB b_134 0, [pB b_134 0]), (2, pB b_144 0, [pB b_144 0])]) (cells := [pB b_114 0, pB b_134 0, pB b_144 0]) rfl lay66 ⟨rfl, rfl, rfl, trivial⟩ rfl) rfl ?_
 refine kX (kM (i := 46) (us := [pB b_114 0, pB b_134 0, pB b_144 0]) rfl sz66 rfl rfl rfl ⟨rfl, rfl, rfl, trivial⟩ rfl hS) ?_
 intro w hS
 refine kf (ka (kq ?_))
 cases h
 obtain ⟨hS0, hR⟩ := hZ.outT hTT hA hP hS
 exact QE_rv1 rfl ⟨_, rfl, run_ldAgg (us := [pB b_114 0, pB b_134 0, pB b_144 0]) Tryz.underlying66 rfl sz66 (hS.bxs 46 rfl rfl)⟩ ⟨b_114, v_112, b_134, v_132, b_144, v_142, rfl, hS0, (Rds.cons (hR.nth 71 rfl) (Rds.cons (hR.nth 70 rfl) (Rds.cons (hR.nth 67 rfl) (Rds.cons (hR.nth 66 rfl) (Rds.cons (hR.nth 59 rfl) (Rds.cons (hR.nth 58 rfl) Rds.nil))))))⟩
theorem c_curve_Add (w0 : World) (a0 : Int) (a1_0 : List UInt32) (a1_1 : List UInt32) (a1_2 : Bool) (a2_0 : List UInt32) (a2_1 : List UInt32) (a2_2 : Bool) (va1_0 : Value) (va1_1 : Value) (va2_0 : Value) (va2_1 : Value) (ha1_0 : RP [] w0 e32 va1_0 a1_0) (ha1_1 : RP [] w0 e32 va1_1 a1_1) (ha2_0 : RP [] w0 e32 va2_0 a2_0) (ha2_1 : RP [] w0 e32 va2_1 a2_1) (r : List UInt32 × List UInt32 × Bool × Int)
  (h : F.curve_Add a0 a1_0 a1_1 a1_2 a2_0 a2_1 a2_2 = some r) : Calls Tryz.prog 21 #[vI a0, .agg #[va1_0, va1_1, vB a1_2], .agg #[va2_0, va2_1, vB a2_2]] w0 (Ret fun v w => ∃ u0_0 u0_1 : Value, v = .tuple #[.agg #[u0_0, u0_1, vB r.2.2.1], vI r.2.2.2] ∧ St [] w0 w [own e32 u0_0 r.1, own e32 u0_1 r.2.1]) := by
 refine kz 41 Tryz.func21 rfl rfl rfl ?_
 have hS := St.start w0
 have hZ := Fz.start (S := []) (w0 := w0)
 have hTT : TOk [] [] w0 := TOk.nil
 have hA : Rds [] w0 [red e32 va2_1 a2_1, red e32 va2_0 a2_0, red e32 va1_1 a1_1, red e32 va1_0 a1_0] := Rds.cons (RP.kept (Nat.le_of_ble_eq_true rfl) ha2_1) (Rds.cons (RP.kept (Nat.le_of_ble_eq_true rfl) ha2_0) (Rds.cons (RP.kept (Nat.le_of_ble_eq_true rfl) ha1_1) (Rds.cons (RP.kept (Nat.le_of_ble_eq_true rfl) ha1_0) (Rds.nil))))
 have hP : Off [] [red e32 va2_1 a2_1, red e32 va2_0 a2_0, red e32 va1_1 a1_1, red e32 va1_0 a1_0] := Off.emp
 refine kn [(0, vI a0), (1, .agg #[va1_0, va1_1, vB a1_2]), (2, .agg #[va2_0, va2_1, vB a2_2])] ⟨rfl, rfl, rfl, trivial⟩ ?_
 unfold F.curve_Add at h
 refine ke (kc (kW (OpX_box (cs := [va1_0, va1_1, vB a1_2]) rfl rfl hS) rfl ?_))
 rintro _ w ⟨b_1, rfl, hS⟩
 refine kW (OpX_box (cs := [va2_0, va2_1, vB a2_2]) rfl rfl hS) rfl ?_
 rintro _ w ⟨b_3, rfl, hS⟩
 refine kW (kE (cs := [.slice none 0 0, .slice none 0 0, vB false]) tz27 rfl hS) rfl ?_
 rintro _ w ⟨b_5, rfl, hS⟩
 refine kb 1 rfl ?_
 refine kf (ka (ke (kc (kb 1 rfl ?_))))
 refine ki (kH (us := [va1_0, va1_1, vB a1_2]) Tryz.underlying27 rfl sz27 rfl (hS.bxs 2 rfl rfl)) rfl ?_
 replace hS := hS.pick (os' := [] ++ [OE.bx b_5 [.slice none 0 0, .slice none 0 0, vB false], OE.bx b_3 [va2_0, va2_1, vB a2_2], OE.bx b_1 [va1_0, va1_1, vB a1_2]]) [0, 1, 2] (by decide) rfl
 obtain ⟨hZ, hA, hP, hS⟩ := hZ.frzK hTT hA hP hS
 obtain ⟨x_7, hx_7, h⟩ := kg h
 refine kk (by kernel_rfl) rfl (c_curve_take _ a0 a1_0 a1_1 a1_2 va1_0 va1_1  _ (hZ.okT hTT hS) (hA.rpT hP 0 rfl) (hA.rpT hP 1 rfl) _ hx_7) rfl ?_
 rintro v_q w hQ
 cases hc_9 : x_7.1 with
 | none =>
  have h := ocase_n h hc_9
  rw [hc_9] at hQ
  obtain ⟨rfl, hS1⟩ := ocaseP_n' hQ
  obtain ⟨S_11, wb_12, hZ, hA, hP, hS⟩ := hZ.callK hA hP hS hS1 Rds.nil rfl
  refine kb 4 rfl ?_
  refine kW (kE (cs := [.pointer none, .pointer none, .pointer none]) tz66 rfl hS) rfl ?_
  rintro _ w ⟨b_15, rfl, hS⟩
  refine kb 1 rfl ?_
  refine kX (kM (i := 0) (us := [.pointer none, .pointer none, .pointer none]) rfl sz66 rfl rfl rfl ⟨rfl, rfl, rfl, trivial⟩ rfl hS) ?_
  intro w hS
  refine kb 1 rfl ?_
  refine kf (ka (ke (kc (kb 1 rfl ?_))))
  refine ki (kH (us := [va2_0, va2_1, vB a2_2]) Tryz.underlying27 rfl sz27 rfl (hS.bxs 2 rfl rfl)) rfl ?_
  replace hS := hS.pick (os' := [] ++ [OE.bx b_15 [.pointer none, .pointer none, .pointer none], OE.bx b_5 [.slice none 0 0, .slice none 0 0, vB false], OE.bx b_3 [va2_0, va2_1, vB a2_2], OE.bx b_1 [va1_0, va1_1, vB a1_2]]) [0, 1, 2, 3] (by decide) rfl
  obtain ⟨hZ, hA, hP, hS⟩ := hZ.frzK hTT hA hP hS
  obtain ⟨x_17, hx_17, h⟩ := kg h
  refine kk (by kernel_rfl) rfl (c_curve_take _ a0 a2_0 a2_1 a2_2 va2_0 va2_1  _ (hZ.okT hTT hS) (hA.rpT hP 2 rfl) (hA.rpT hP 3 rfl) _ hx_17) rfl ?_
  rintro v_q w hQ
  cases hc_19 : x_17.1 with
  | none =>
   have h := ocase_n h hc_19
   rw [hc_19] at hQ
   obtain ⟨rfl, hS1⟩ := ocaseP_n' hQ
   obtain ⟨S_21, wb_22, hZ, hA, hP, hS⟩ := hZ.callK hA hP hS hS1 Rds.nil rfl
   refine kb 4 rfl ?_
   refine kW (kE (cs := [.pointer none, .pointer none, .pointer none]) tz66 rfl hS) rfl ?_
   rintro _ w ⟨b_25, rfl, hS⟩
   refine kb 1 rfl ?_
   refine kX (kM (i := 0) (us := [.pointer none, .pointer none, .pointer none]) rfl sz66 rfl rfl rfl ⟨rfl, rfl, rfl, trivial⟩ rfl hS) ?_
   intro w hS
   refine kb 1 rfl ?_
   refine kf (ka (ke ?_))
   refine kO (r := r) (fun (g : Bool) L w => L = [(6, pB b_5 0), (8, .pointer none), (9, pB b_15 0), (12, pB b_25 0), (33, vB g)] ∧ SfT [] [] w0 w [] [OE.bx b_5 [.slice none 0 0, .slice none 0 0, vB false], OE.bx b_15 [.pointer none, .pointer none, .pointer none], OE.bx b_25 [.pointer none, .pointer none, .pointer none]]) (F.curve_Add_K1) ?_ ?_
   rotate_left
   ·intro hK_31
    refine kc (kb 3 rfl ?_)
    cases hb_27 : (!x_7.2)
    case true =>
     have h := if_t h hb_27
     try simp only [hb_27]
     refine kb 3 rfl ?_
     refine kf (ka ?_)
     exact kn _ (by exact ⟨rfl, rfl, rfl, rfl, rfl, trivial⟩) (hK_31 true _ _ ⟨rfl, (SfT.mk' hZ Rds.nil Off.nil (hS.pick [2, 1, 0] (by decide) rfl))⟩ h)
    case false =>
     have h := if_f h hb_27
     try simp only [hb_27]
     refine kb 3 rfl ?_
     refine kf (ka ?_)
     exact kn _ (by exact ⟨rfl, rfl, rfl, rfl, rfl, trivial⟩) (hK_31 (!x_17.2) _ _ ⟨rfl, (SfT.mk' hZ Rds.nil Off.nil (hS.pick [2, 1, 0] (by decide) rfl))⟩ h)
   rintro x_30 L w hJ h
   try dsimp only at hJ
   obtain ⟨rfl, ⟨S_28, wb_29, hZ, hA, hP, hS⟩⟩ := hJ
   unfold F.curve_Add_K1 at h
   refine ko rfl (fun hb_32 => ?_) (fun hb_32 => ?_)
   ·have h := if_t h hb_32
    refine ke (kc (ki (OpV_build (vs := []) (cells := [.slice none 0 0, .slice none 0 0, vB false]) rfl lay27 trivial rfl) rfl (kX (kM (i := 0) (us := [.slice none 0 0, .slice none 0 0, vB false]) rfl sz27 rfl rfl rfl ⟨rfl, rfl, rfl, trivial⟩ rfl hS) ?_)))
    intro w hS
    refine kb 1 rfl ?_
    refine kf (ka (kq (kv ?_)))
    cases h
    replace hS := hZ.st hS
    exact QE_rv2 rfl ⟨_, rfl, run_ldAgg (us := [.slice none 0 0, .slice none 0 0, vB false]) Tryz.underlying27 rfl sz27 (hS.bxs 0 rfl rfl)⟩ rfl ⟨.slice none 0 0, .slice none 0 0, rfl, ((hS.nil e32).nil e32).pick [1, 0] (by decide) rfl⟩
   have h := if_f h hb_32
   refine kr (ka (ke (kc (kb 2 rfl ?_))))
   refine ki (kH (us := [.pointer none, .pointer none, .pointer none]) Tryz.underlying66 rfl sz66 rfl (hS.bxs 1 rfl rfl)) rfl (ki (kH (us := [.pointer none, .pointer none, .pointer none]) Tryz.underlying66 rfl sz66 rfl (hS.bxs 2 rfl rfl)) rfl ?_)
   replace hS := hS.pick (os' := [] ++ [OE.bx b_5 [.slice none 0 0, .slice none 0 0, vB false], OE.bx b_15 [.pointer none, .pointer none, .pointer none], OE.bx b_25 [.pointer none, .pointer none, .pointer none]]) [0, 1, 2] (by decide) rfl
   obtain ⟨hZ, hA, hP, hS⟩ := hZ.frzK hTT hA hP hS
   cases h
  | some x_20 =>
   have h := ocase_s h hc_19
   rw [hc_19] at hQ
   obtain ⟨b0_18, b0_18_0, u0_18_0_1, b0_18_1, u0_18_1_1, b0_18_2, u0_18_2_1, b0_18_3, u0_18_3_1, b0_18_4, u0_18_4_1, b1_18_0, u1_18_0_1, b1_18_1, u1_18_1_1, b1_18_2, u1_18_2_1, rfl, hS1, hR1⟩ := ocaseP_s' hQ
   obtain ⟨S_23, wb_24, hZ, hA, hP, hS⟩ := hZ.callK hA hP hS hS1 hR1 rfl
   refine kb 4 rfl ?_
   refine kW (kE (cs := [.pointer none, .pointer none, .pointer none]) tz66 rfl hS) rfl ?_
   rintro _ w ⟨b_33, rfl, hS⟩
   refine kb 1 rfl ?_
   refine kX (kM (i := 0) (us := [pB b1_18_0 0, pB b1_18_1 0, pB b1_18_2 0]) rfl sz66 rfl rfl rfl ⟨rfl, rfl, rfl, trivial⟩ rfl hS) ?_
   intro w hS
   refine kb 1 rfl ?_
   refine kf (ka (ke ?_))
   refine kO (r := r) (fun (g : Bool) L w => L = [(6, pB b_5 0), (8, .pointer none), (9, pB b_15 0), (12, pB b_33 0), (33, vB g)] ∧ SfT [] [] w0 w [OE.bx b1_18_2 [vB x_20.2.2.2.2.2.2.2.2.2.2.2.2.2.2.2.1, u1_18_2_1], red e32 u1_18_2_1 x_20.2.2.2.2.2.2.2.2.2.2.2.2.2.2.2.2, OE.bx b1_18_1 [vB x_20.2.2.2.2.2.2.2.2.2.2.2.2.2.1, u1_18_1_1], red e32 u1_18_1_1 x_20.2.2.2.2.2.2.2.2.2.2.2.2.2.2.1, OE.bx b1_18_0 [vB x_20.2.2.2.2.2.2.2.2.2.2.2.1, u1_18_0_1], red e32 u1_18_0_1 x_20.2.2.2.2.2.2.2.2.2.2.2.2.1] [OE.bx b_5 [.slice none 0 0, .slice none 0 0, vB false], OE.bx b_15 [.pointer none, .pointer none, .pointer none], OE.bx b_33 [pB b1_18_0 0, pB b1_18_1 0, pB b1_18_2 0]]) (F.curve_Add_K2) ?_ ?_
   rotate_left
   ·intro hK_39
    refine kc (kb 3 rfl ?_)
    cases hb_35 : (!x_7.2)
    case true =>
     have h := if_t h hb_35
     try simp only [hb_35]
     refine kb 3 rfl ?_
     refine kf (ka ?_)
     exact kn _ (by exact ⟨rfl, rfl, rfl, rfl, rfl, trivial⟩) (hK_39 true _ _ ⟨rfl, (SfT.mk' hZ (Rds.cons (hA.nth 20 rfl) (Rds.cons (hA.nth 19 rfl) (Rds.cons (hA.nth 18 rfl) (Rds.cons (hA.nth 17 rfl) (Rds.cons (hA.nth 16 rfl) (Rds.cons (hA.nth 15 rfl) Rds.nil)))))) (Off.cons (hP.nth 20 rfl) (Off.cons (hP.nth 19 rfl) (Off.cons (hP.nth 18 rfl) (Off.cons (hP.nth 17 rfl) (Off.cons (hP.nth 16 rfl) (Off.cons (hP.nth 15 rfl) Off.nil)))))) (hS.pick [2, 1, 0] (by decide) rfl))⟩ h)
    case false =>
     have h := if_f h hb_35
     try simp only [hb_35]
     refine kb 3 rfl ?_
     refine kf (ka ?_)
     exact kn _ (by exact ⟨rfl, rfl, rfl, rfl, rfl, trivial⟩) (hK_39 (!x_17.2) _ _ ⟨rfl, (SfT.mk' hZ (Rds.cons (hA.nth 20 rfl) (Rds.cons (hA.nth 19 rfl) (Rds.cons (hA.nth 18 rfl) (Rds.cons (hA.nth 17 rfl) (Rds.cons (hA.nth 16 rfl) (Rds.cons (hA.nth 15 rfl) Rds.nil)))))) (Off.cons (hP.nth 20 rfl) (Off.cons (hP.nth 19 rfl) (Off.cons (hP.nth 18 rfl) (Off.cons (hP.nth 17 rfl) (Off.cons (hP.nth 16 rfl) (Off.cons (hP.nth 15 rfl) Off.nil)))))) (hS.pick [2, 1, 0] (by decide) rfl))⟩ h)
   rintro x_38 L w hJ h
   try dsimp only at hJ
   obtain ⟨rfl, ⟨S_36, wb_37, hZ, hA, hP, hS⟩⟩ := hJ
   unfold F.curve_Add_K2 at h
   refine ko rfl (fun hb_40 => ?_) (fun hb_40 => ?_)
   ·have h := if_t h hb_40
    refine ke (kc (ki (OpV_build (vs := []) (cells := [.slice none 0 0, .slice none 0 0, vB false]) rfl lay27 trivial rfl) rfl (kX (kM (i := 0) (us := [.slice none 0 0, .slice none 0 0, vB false]) rfl sz27 rfl rfl rfl ⟨rfl, rfl, rfl, trivial⟩ rfl hS) ?_)))
    intro w hS
    refine kb 1 rfl ?_
    refine kf (ka (kq (kv ?_)))
    cases h
    replace hS := hZ.st hS
    exact QE_rv2 rfl ⟨_, rfl, run_ldAgg (us := [.slice none 0 0, .slice none 0 0, vB false]) Tryz.underlying27 rfl sz27 (hS.bxs 0 rfl rfl)⟩ rfl ⟨.slice none 0 0, .slice none 0 0, rfl, ((hS.nil e32).nil e32).pick [1, 0] (by decide) rfl⟩
   have h := if_f h hb_40
   refine kr (ka (ke (kc (kb 2 rfl ?_))))
   refine ki (kH (us := [.pointer none, .pointer none, .pointer none]) Tryz.underlying66 rfl sz66 rfl (hS.bxs 1 rfl rfl)) rfl (ki (kH (us := [pB b1_18_0 0, pB b1_18_1 0, pB b1_18_2 0]) Tryz.underlying66 rfl sz66 rfl (hS.bxs 2 rfl rfl)) rfl ?_)
   replace hS := hS.pick (os' := [] ++ [OE.bx b_5 [.slice none 0 0, .slice none 0 0, vB false], OE.bx b_15 [.pointer none, .pointer none, .pointer none], OE.bx b_33 [pB b1_18_0 0, pB b1_18_1 0, pB b1_18_2 0]]) [0, 1, 2] (by decide) rfl
   obtain ⟨hZ, hA, hP, hS⟩ := hZ.frzK hTT hA hP hS
   cases h
 | some x_10 =>
  have h := ocase_s h hc_9
  rw [hc_9] at hQ
  obtain ⟨b0_8, b0_8_0, u0_8_0_1, b0_8_1, u0_8_1_1, b0_8_2, u0_8_2_1, b0_8_3, u0_8_3_1, b0_8_4, u0_8_4_1, b1_8_0, u1_8_0_1, b1_8_1, u1_8_1_1, b1_8_2, u1_8_2_1, rfl, hS1, hR1⟩ := ocaseP_s' hQ
  obtain ⟨S_13, wb_14, hZ, hA, hP, hS⟩ := hZ.callK hA hP hS hS1 hR1 rfl
  refine kb 4 rfl ?_
  refine kW (kE (cs := [.pointer none, .pointer none, .pointer none]) tz66 rfl hS) rfl ?_
  rintro _ w ⟨b_41, rfl, hS⟩
  refine kb 1 rfl ?_
  refine kX (kM (i := 0) (us := [pB b1_8_0 0, pB b1_8_1 0, pB b1_8_2 0]) rfl sz66 rfl rfl rfl ⟨rfl, rfl, rfl, trivial⟩ rfl hS) ?_
  intro w hS
  refine kb 1 rfl ?_
  refine kf (ka (ke (kc (kb 1 rfl ?_))))
  refine ki (kH (us := [va2_0, va2_1, vB a2_2]) Tryz.underlying27 rfl sz27 rfl (hS.bxs 2 rfl rfl)) rfl ?_
  replace hS := hS.pick (os' := [] ++ [OE.bx b_41 [pB b1_8_0 0, pB b1_8_1 0, pB b1_8_2 0], OE.bx b_5 [.slice none 0 0, .slice none 0 0, vB false], OE.bx b_3 [va2_0, va2_1, vB a2_2], OE.bx b_1 [va1_0, va1_1, vB a1_2]]) [0, 1, 2, 3] (by decide) rfl
  obtain ⟨hZ, hA, hP, hS⟩ := hZ.frzK hTT hA hP hS
  obtain ⟨x_43, hx_43, h⟩ := kg h
  refine kk (by kernel_rfl) rfl (c_curve_take _ a0 a2_0 a2_1 a2_2 va2_0 va2_1  _ (hZ.okT hTT hS) (hA.rpT hP 2 rfl) (hA.rpT hP 3 rfl) _ hx_43) rfl ?_
  rintro v_q w hQ
  cases hc_45 : x_43.1 with
  | none =>
   have h := ocase_n h hc_45
   rw [hc_45] at hQ
   obtain ⟨rfl, hS1⟩ := ocaseP_n' hQ
   obtain ⟨S_47, wb_48, hZ, hA, hP, hS⟩ := hZ.callK hA hP hS hS1 Rds.nil rfl
   refine kb 4 rfl ?_
   refine kW (kE (cs := [.pointer none, .pointer none, .pointer none]) tz66 rfl hS) rfl ?_
   rintro _ w ⟨b_51, rfl, hS⟩
   refine kb 1 rfl ?_
   refine kX (kM (i := 0) (us := [.pointer none, .pointer none, .pointer none]) rfl sz66 rfl rfl rfl ⟨rfl, rfl, rfl, trivial⟩ rfl hS) ?_
   intro w hS
   refine kb 1 rfl ?_
   refine kf (ka (ke ?_))
   refine kO (r := r) (fun (g : Bool) L w => L = [(6, pB b_5 0), (8, pB b0_8 0), (9, pB b_41 0), (12, pB b_51 0), (33, vB g)] ∧ SfT [] [] w0 w [OE.bx b1_8_2 [vB x_10.2.2.2.2.2.2.2.2.2.2.2.2.2.2.2.1, u1_8_2_1], red e32 u1_8_2_1 x_10.2.2.2.2.2.2.2.2.2.2.2.2.2.2.2.2, OE.bx b1_8_1 [vB x_10.2.2.2.2.2.2.2.2.2.2.2.2.2.1, u1_8_1_1], red e32 u1_8_1_1 x_10.2.2.2.2.2.2.2.2.2.2.2.2.2.2.1, OE.bx b1_8_0 [vB x_10.2.2.2.2.2.2.2.2.2.2.2.1, u1_8_0_1], red e32 u1_8_0_1 x_10.2.2.2.2.2.2.2.2.2.2.2.2.1, OE.bx b0_8 [pB b0_8_0 0, pB b0_8_1 0, pB b0_8_2 0, pB b0_8_3 0, pB b0_8_4 0, vI x_10.2.2.2.2.2.2.2.2.2.2.1, .func (.func 101) #[] #[]], OE.bx b0_8_4 [vB x_10.2.2.2.2.2.2.2.2.1, u0_8_4_1], red e32 u0_8_4_1 x_10.2.2.2.2.2.2.2.2.2.1, OE.bx b0_8_3 [vB x_10.2.2.2.2.2.2.1, u0_8_3_1], red e32 u0_8_3_1 x_10.2.2.2.2.2.2.2.1, OE.bx b0_8_2 [vB x_10.2.2.2.2.1, u0_8_2_1], red e32 u0_8_2_1 x_10.2.2.2.2.2.1, OE.bx b0_8_1 [vB x_10.2.2.1, u0_8_1_1], red e32 u0_8_1_1 x_10.2.2.2.1, OE.bx b0_8_0 [vB x_10.1, u0_8_0_1], red e32 u0_8_0_1 x_10.2.1] [OE.bx b_5 [.slice none 0 0, .slice none 0 0, vB false], OE.bx b_41 [pB b1_8_0 0, pB b1_8_1 0, pB b1_8_2 0], OE.bx b_51 [.pointer none, .pointer none, .pointer none]]) (F.curve_Add_K3) ?_ ?_
   rotate_left
   ·intro hK_57
    refine kc (kb 3 rfl ?_)
    cases hb_53 : (!x_7.2)
    case true =>
     have h := if_t h hb_53
     try simp only [hb_53]
     refine kb 3 rfl ?_
     refine kf (ka ?_)
     exact kn _ (by exact ⟨rfl, rfl, rfl, rfl, rfl, trivial⟩) (hK_57 true _ _ ⟨rfl, (SfT.mk' hZ (Rds.cons (hA.nth 20 rfl) (Rds.cons (hA.nth 19 rfl) (Rds.cons (hA.nth 18 rfl) (Rds.cons (hA.nth 17 rfl) (Rds.cons (hA.nth 16 rfl) (Rds.cons (hA.nth 15 rfl) (Rds.cons (hA.nth 14 rfl) (Rds.cons (hA.nth 13 rfl) (Rds.cons (hA.nth 12 rfl) (Rds.cons (hA.nth 11 rfl) (Rds.cons (hA.nth 10 rfl) (Rds.cons (hA.nth 9 rfl) (Rds.cons (hA.nth 8 rfl) (Rds.cons (hA.nth 7 rfl) (Rds.cons (hA.nth 6 rfl) (Rds.cons (hA.nth 5 rfl) (Rds.cons (hA.nth 4 rfl) Rds.nil))))))))))))))))) (Off.cons (hP.nth 20 rfl) (Off.cons (hP.nth 19 rfl) (Off.cons (hP.nth 18 rfl) (Off.cons (hP.nth 17 rfl) (Off.cons (hP.nth 16 rfl) (Off.cons (hP.nth 15 rfl) (Off.cons (hP.nth 14 rfl) (Off.cons (hP.nth 13 rfl) (Off.cons (hP.nth 12 rfl) (Off.cons (hP.nth 11 rfl) (Off.cons (hP.nth 10 rfl) (Off.cons (hP.nth 9 rfl) (Off.cons (hP.nth 8 rfl) (Off.cons (hP.nth 7 rfl) (Off.cons (hP.nth 6 rfl) (Off.cons (hP.nth 5 rfl) (Off.cons (hP.nth 4 rfl) Off.nil))))))))))))))))) (hS.pick [2, 1, 0] (by decide) rfl))⟩ h)
    case false =>
     have h := if_f h hb_53
     try simp only [hb_53]
     refine kb 3 rfl ?_
     refine kf (ka ?_)
     exact kn _ (by exact ⟨rfl, rfl, rfl, rfl, rfl, trivial⟩) (hK_57 (!x_43.2) _ _ ⟨rfl, (SfT.mk' hZ (Rds.cons (hA.nth 20 rfl) (Rds.cons (hA.nth 19 rfl) (Rds.cons (hA.nth 18 rfl) (Rds.cons (hA.nth 17 rfl) (Rds.cons (hA.nth 16 rfl) (Rds.cons (hA.nth 15 rfl) (Rds.cons (hA.nth 14 rfl) (Rds.cons (hA.nth 13 rfl) (Rds.cons (hA.nth 12 rfl) (Rds.cons (hA.nth 11 rfl) (Rds.cons (hA.nth 10 rfl) (Rds.cons (hA.nth 9 rfl) (Rds.cons (hA.nth 8 rfl) (Rds.cons (hA.nth 7 rfl) (Rds.cons (hA.nth 6 rfl) (Rds.cons (hA.nth 5 rfl) (Rds.cons (hA.nth 4 rfl) Rds.nil))))))))))))))))) (Off.cons (hP.nth 20 rfl) (Off.cons (hP.nth 19 rfl) (Off.cons (hP.nth 18 rfl) (Off.cons (hP.nth 17 rfl) (Off.cons (hP.nth 16 rfl) (Off.cons (hP.nth 15 rfl) (Off.cons (hP.nth 14 rfl) (Off.cons (hP.nth 13 rfl) (Off.cons (hP.nth 12 rfl) (Off.cons (hP.nth 11 rfl) (Off.cons (hP.nth 10 rfl) (Off.cons (hP.nth 9 rfl) (Off.cons (hP.nth 8 rfl) (Off.cons (hP.nth 7 rfl) (Off.cons (hP.nth 6 rfl) (Off.cons (hP.nth 5 rfl) (Off.cons (hP.nth 4 rfl) Off.nil))))))))))))))))) (hS.pick [2, 1, 0] (by decide) rfl))⟩ h)
   rintro x_56 L w hJ h
   try dsimp only at hJ
   obtain ⟨rfl, ⟨S_54, wb_55, hZ, hA, hP, hS⟩⟩ := hJ
   unfold F.curve_Add_K3 at h
   refine ko rfl (fun hb_58 => ?_) (fun hb_58 => ?_)
   ·have h := if_t h hb_58
    refine ke (kc (ki (OpV_build (vs := []) (cells := [.slice none 0 0, .slice none 0 0, vB false]) rfl lay27 trivial rfl) rfl (kX (kM (i := 0) (us := [.slice none 0 0, .slice none 0 0, vB false]) rfl sz27 rfl rfl rfl ⟨rfl, rfl, rfl, trivial⟩ rfl hS) ?_)))
    intro w hS
    refine kb 1 rfl ?_
    refine kf (ka (kq (kv ?_)))
    cases h
    replace hS := hZ.st hS
    exact QE_rv2 rfl ⟨_, rfl, run_ldAgg (us := [.slice none 0 0, .slice none 0 0, vB false]) Tryz.underlying27 rfl sz27 (hS.bxs 0 rfl rfl)⟩ rfl ⟨.slice none 0 0, .slice none 0 0, rfl, ((hS.nil e32).nil e32).pick [1, 0] (by decide) rfl⟩
   have h := if_f h hb_58
   refine kr (ka (ke (kc (kb 2 rfl ?_))))
   refine ki (kH (us := [pB b1_8_0 0, pB b1_8_1 0, pB b1_8_2 0]) Tryz.underlying66 rfl sz66 rfl (hS.bxs 1 rfl rfl)) rfl (ki (kH (us := [.pointer none, .pointer none, .pointer none]) Tryz.underlying66 rfl sz66 rfl (hS.bxs 2 rfl rfl)) rfl ?_)
   replace hS := hS.pick (os' := [] ++ [OE.bx b_5 [.slice none 0 0, .slice none 0 0, vB false], OE.bx b_41 [pB b1_8_0 0, pB b1_8_1 0, pB b1_8_2 0], OE.bx b_51 [.pointer none, .pointer none, .pointer none]]) [0, 1, 2] (by decide) rfl
   obtain ⟨hZ, hA, hP, hS⟩ := hZ.frzK hTT hA hP hS
   cases h
  | some x_46 =>
   have h := ocase_s h hc_45
   rw [hc_45] at hQ
   obtain ⟨b0_44, b0_44_0, u0_44_0_1, b0_44_1, u0_44_1_1, b0_44_2, u0_44_2_1, b0_44_3, u0_44_3_1, b0_44_4, u0_44_4_1, b1_44_0, u1_44_0_1, b1_44_1, u1_44_1_1, b1_44_2, u1_44_2_1, rfl, hS1, hR1⟩ := ocaseP_s' hQ
   obtain ⟨S_49, wb_50, hZ, hA, hP, hS⟩ := hZ.callK hA hP hS hS1 hR1 rfl
   refine kb 4 rfl ?_
   refine kW (kE (cs := [.pointer none, .pointer none, .pointer none]) tz66 rfl hS) rfl ?_
   rintro _ w ⟨b_59, rfl, hS⟩
   refine kb 1 rfl ?_
   refine kX (kM (i := 0) (us := [pB b1_44_0 0, pB b1_44_1 0, pB b1_44_2 0]) rfl sz66 rfl rfl rfl ⟨rfl, rfl, rfl, trivial⟩ rfl hS) ?_
   intro w hS
   refine kb 1 rfl ?_
   refine kf (ka (ke ?_))
   refine kO (r := r) (fun (g : Bool) L w => L = [(6, pB b_5 0), (8, pB b0_8 0), (9, pB b_41 0), (12, pB b_59 0), (33, vB g)] ∧ SfT [] [] w0 w [OE.bx b1_44_2 [vB x_46.2.2.2.2.2.2.2.2.2.2.2.2.2.2.2.1, u1_44_2_1], red e32 u1_44_2_1 x_46.2.2.2.2.2.2.2.2.2.2.2.2.2.2.2.2, OE.bx b1_44_1 [vB x_46.2.2.2.2.2.2.2.2.2.2.2.2.2.1, u1_44_1_1], red e32 u1_44_1_1 x_46.2.2.2.2.2.2.2.2.2.2.2.2.2.2.1, OE.bx b1_44_0 [vB x_46.2.2.2.2.2.2.2.2.2.2.2.1, u1_44_0_1], red e32 u1_44_0_1 x_46.2.2.2.2.2.2.2.2.2.2.2.2.1, OE.bx b1_8_2 [vB x_10.2.2.2.2.2.2.2.2.2.2.2.2.2.2.2.1, u1_8_2_1], red e32 u1_8_2_1 x_10.2.2.2.2.2.2.2.2.2.2.2.2.2.2.2.2, OE.bx b1_8_1 [vB x_10.2.2.2.2.2.2.2.2.2.2.2.2.2.1, u1_8_1_1], red e32 u1_8_1_1 x_10.2.2.2.2.2.2.2.2.2.2.2.2.2.2.1, OE.bx b1_8_0 [vB x_10.2.2.2.2.2.2.2.2.2.2.2.1, u1_8_0_1], red e32 u1_8_0_1 x_10.2.2.2.2.2.2.2.2.2.2.2.2.1, OE.bx b0_8 [pB b0_8_0 0, pB b0_8_1 0, pB b0_8_2 0, pB b0_8_3 0, pB b0_8_4 0, vI x_10.2.2.2.2.2.2.2.2.2.2.1, .func (.func 101) #[] #[]], OE.bx b0_8_4 [vB x_10.2.2.2.2.2.2.2.2.1, u0_8_4_1], red e32 u0_8_4_1 x_10.2.2.2.2.2.2.2.2.2.1, OE.bx b0_8_3 [vB x_10.2.2.2.2.2.2.1, u0_8_3_1], red e32 u0_8_3_1 x_10.2.2.2.2.2.2.2.1, OE.bx b0_8_2 [vB x_10.2.2.2.2.1, u0_8_2_1], red e32 u0_8_2_1 x_10.2.2.2.2.2.1, OE.bx b0_8_1 [vB x_10.2.2.1, u0_8_1_1], red e32 u0_8_1_1 x_10.2.2.2.1, OE.bx b0_8_0 [vB x_10.1, u0_8_0_1], red e32 u0_8_0_1 x_10.2.1] [OE.bx b_5 [.slice none 0 0, .slice none 0 0, vB false], OE.bx b_41 [pB b1_8_0 0, pB b1_8_1 0, pB b1_8_2 0], OE.bx b_59 [pB b1_44_0 0, pB b1_44_1 0, pB b1_44_2 0]]) (F.curve_Add_K4 x_10 x_46) ?_ ?_
   rotate_left
   ·intro hK_65
    refine kc (kb 3 rfl ?_)
    cases hb_61 : (!x_7.2)
    case true =>
     have h := if_t h hb_61
     try simp only [hb_61]
     refine kb 3 rfl ?_
     refine kf (ka ?_)
     exact kn _ (by exact ⟨rfl, rfl, rfl, rfl, rfl, trivial⟩) (hK_65 true _ _ ⟨rfl, (SfT.mk' hZ (Rds.cons (hA.nth 37 rfl) (Rds.cons (hA.nth 36 rfl) (Rds.cons (hA.nth 35 rfl) (Rds.cons (hA.nth 34 rfl) (Rds.cons (hA.nth 33 rfl) (Rds.cons (hA.nth 32 rfl) (Rds.cons (hA.nth 20 rfl) (Rds.cons (hA.nth 19 rfl) (Rds.cons (hA.nth 18 rfl) (Rds.cons (hA.nth 17 rfl) (Rds.cons (hA.nth 16 rfl) (Rds.cons (hA.nth 15 rfl) (Rds.cons (hA.nth 14 rfl) (Rds.cons (hA.nth 13 rfl) (Rds.cons (hA.nth 12 rfl) (Rds.cons (hA.nth 11 rfl) (Rds.cons (hA.nth 10 rfl) (Rds.cons (hA.nth 9 rfl) (Rds.cons (hA.nth 8 rfl) (Rds.cons (hA.nth 7 rfl) (Rds.cons (hA.nth 6 rfl) (Rds.cons (hA.nth 5 rfl) (Rds.cons (hA.nth 4 rfl) Rds.nil))))))))))))))))))))))) (Off.cons (hP.nth 37 rfl) (Off.cons (hP.nth 36 rfl) (Off.cons (hP.nth 35 rfl) (Off.cons (hP.nth 34 rfl) (Off.cons (hP.nth 33 rfl) (Off.cons (hP.nth 32 rfl) (Off.cons (hP.nth 20 rfl) (Off.cons (hP.nth 19 rfl) (Off.cons (hP.nth 18 rfl) (Off.cons (hP.nth 17 rfl) (Off.cons (hP.nth 16 rfl) (Off.cons (hP.nth 15 rfl) (Off.cons (hP.nth 14 rfl) (Off.cons (hP.nth 13 rfl) (Off.cons (hP.nth 12 rfl) (Off.cons (hP.nth 11 rfl) (Off.cons (hP.nth 10 rfl) (Off.cons (hP.nth 9 rfl) (Off.cons (hP.nth 8 rfl) (Off.cons (hP.nth 7 rfl) (Off.cons (hP.nth 6 rfl) (Off.cons (hP.nth 5 rfl) (Off.cons (hP.nth 4 rfl) Off.nil))))))))))))))))))))))) (hS.pick [2, 1, 0] (by decide) rfl))⟩ h)
    case false =>
     have h := if_f h hb_61
     try simp only [hb_61]
     refine kb 3 rfl ?_
     refine kf (ka ?_)
     exact kn _ (by exact ⟨rfl, rfl, rfl, rfl, rfl, trivial⟩) (hK_65 (!x_43.2) _ _ ⟨rfl, (SfT.mk' hZ (Rds.cons (hA.nth 37 rfl) (Rds.cons (hA.nth 36 rfl) (Rds.cons (hA.nth 35 rfl) (Rds.cons (hA.nth 34 rfl) (Rds.cons (hA.nth 33 rfl) (Rds.cons (hA.nth 32 rfl) (Rds.cons (hA.nth 20 rfl) (Rds.cons (hA.nth 19 rfl) (Rds.cons (hA.nth 18 rfl) (Rds.cons (hA.nth 17 rfl) (Rds.cons (hA.nth 16 rfl) (Rds.cons (hA.nth 15 rfl) (Rds.cons (hA.nth 14 rfl) (Rds.cons (hA.nth 13 rfl) (Rds.cons (hA.nth 12 rfl) (Rds.cons (hA.nth 11 rfl) (Rds.cons (hA.nth 10 rfl) (Rds.cons (hA.nth 9 rfl) (Rds.cons (hA.nth 8 rfl) (Rds.cons (hA.nth 7 rfl) (Rds.cons (hA.nth 6 rfl) (Rds.cons (hA.nth 5 rfl) (Rds.cons (hA.nth 4 rfl) Rds.nil))))))))))))))))))))))) (Off.cons (hP.nth 37 rfl) (Off.cons (hP.nth 36 rfl) (Off.cons (hP.nth 35 rfl) (Off.cons (hP.nth 34 rfl) (Off.cons (hP.nth 33 rfl) (Off.cons (hP.nth 32 rfl) (Off.cons (hP.nth 20 rfl) (Off.cons (hP.nth 19 rfl) (Off.cons (hP.nth 18 rfl) (Off.cons (hP.nth 17 rfl) (Off.cons (hP.nth 16 rfl) (Off.cons (hP.nth 15 rfl) (Off.cons (hP.nth 14 rfl) (Off.cons (hP.nth 13 rfl) (Off.cons (hP.nth 12 rfl) (Off.cons (hP.nth 11 rfl) (Off.cons (hP.nth 10 rfl) (Off.cons (hP.nth 9 rfl) (Off.cons (hP.nth 8 rfl) (Off.cons (hP.nth 7 rfl) (Off.cons (hP.nth 6 rfl) (Off.cons (hP.nth 5 rfl) (Off.cons (hP.nth 4 rfl) Off.nil))))))))))))))))))))))) (hS.pick [2, 1, 0] (by decide) rfl))⟩ h)
   rintro x_64 L w hJ h
   try dsimp only at hJ
   obtain ⟨rfl, ⟨S_62, wb_63, hZ, hA, hP, hS⟩⟩ := hJ
   unfold F.curve_Add_K4 at h
   refine ko rfl (fun hb_77 => ?_) (fun hb_77 => ?_)
   ·have h := if_t h hb_77
    refine ke (kc (ki (OpV_build (vs := []) (cells := [.slice none 0 0, .slice none 0 0, vB false]) rfl lay27 trivial rfl) rfl (kX (kM (i := 0) (us := [.slice none 0 0, .slice none 0 0, vB false]) rfl sz27 rfl rfl rfl ⟨rfl, rfl, rfl, trivial⟩ rfl hS) ?_)))
    intro w hS
    refine kb 1 rfl ?_
    refine kf (ka (kq (kv ?_)))
    cases h
    replace hS := hZ.st hS
    exact QE_rv2 rfl ⟨_, rfl, run_ldAgg (us := [.slice none 0 0, .slice none 0 0, vB false]) Tryz.underlying27 rfl sz27 (hS.bxs 0 rfl rfl)⟩ rfl ⟨.slice none 0 0, .slice none 0 0, rfl, ((hS.nil e32).nil e32).pick [1, 0] (by decide) rfl⟩
   have h := if_f h hb_77
   refine kr (ka (ke (kc (kb 2 rfl ?_))))
   refine ki (kH (us := [pB b1_8_0 0, pB b1_8_1 0, pB b1_8_2 0]) Tryz.underlying66 rfl sz66 rfl (hS.bxs 1 rfl rfl)) rfl (ki (kH (us := [pB b1_44_0 0, pB b1_44_1 0, pB b1_44_2 0]) Tryz.underlying66 rfl sz66 rfl (hS.bxs 2 rfl rfl)) rfl ?_)
   replace hS := hS.pick (os' := [] ++ [OE.bx b_5 [.slice none 0 0, .slice none 0 0, vB false], OE.bx b_41 [pB b1_8_0 0, pB b1_8_1 0, pB b1_8_2 0], OE.bx b_59 [pB b1_44_0 0, pB b1_44_1 0, pB b1_44_2 0]]) [0, 1, 2] (by decide) rfl
   obtain ⟨hZ, hA, hP, hS⟩ := hZ.frzK hTT hA hP hS
   obtain ⟨x_66, hx_66, h⟩ := kg h
   refine kk (by kernel_rfl) rfl (c_curve_group_add _ x_10.1 x_10.2.1 x_10.2.2.1 x_10.2.2.2.1 x_10.2.2.2.2.1 x_10.2.2.2.2.2.1 x_10.2.2.2.2.2.2.1 x_10.2.2.2.2.2.2.2.1 x_10.2.2.2.2.2.2.2.2.1 x_10.2.2.2.2.2.2.2.2.2.1 x_10.2.2.2.2.2.2.2.2.2.2.1 x_10.2.2.2.2.2.2.2.2.2.2.2.1 x_10.2.2.2.2.2.2.2.2.2.2.2.2.1 x_10.2.2.2.2.2.2.2.2.2.2.2.2.2.1 x_10.2.2.2.2.2.2.2.2.2.2.2.2.2.2.1 x_10.2.2.2.2.2.2.2.2.2.2.2.2.2.2.2.1 x_10.2.2.2.2.2.2.2.2.2.2.2.2.2.2.2.2 x_46.2.2.2.2.2.2.2.2.2.2.2.1 x_46.2.2.2.2.2.2.2.2.2.2.2.2.1 x_46.2.2.2.2.2.2.2.2.2.2.2.2.2.1 x_46.2.2.2.2.2.2.2.2.2.2.2.2.2.2.1 x_46.2.2.2.2.2.2.2.2.2.2.2.2.2.2.2.1 x_46.2.2.2.2.2.2.2.2.2.2.2.2.2.2.2.2 u0_8_0_1 u0_8_1_1 u0_8_2_1 u0_8_3_1 u0_8_4_1 u1_8_0_1 u1_8_1_1 u1_8_2_1 u1_44_0_1 u1_44_1_1 u1_44_2_1 b0_8 b0_8_0 b0_8_1 b0_8_2 b0_8_3 b0_8_4 b1_8_0 b1_8_1 b1_8_2 b1_44_0 b1_44_1 b1_44_2 _ (hZ.okT hTT hS) (hA.rpT hP 0 rfl) (hA.rbT hP 1 rfl) (hA.rpT hP 2 rfl) (hA.rbT hP 3 rfl) (hA.rpT hP 4 rfl) (hA.rbT hP 5 rfl) (hA.rpT hP 6 rfl) (hA.rbT hP 7 rfl) (hA.rpT hP 8 rfl) (hA.rbT hP 9 rfl) (hA.rbT hP 10 rfl) (hA.rpT hP 11 rfl) (hA.rbT hP 12 rfl) (hA.rpT hP 13 rfl) (hA.rbT hP 14 rfl) (hA.rpT hP 15 rfl) (hA.rbT hP 16 rfl) (hA.rpT hP 17 rfl) (hA.rbT hP 18 rfl) (hA.rpT hP 19 rfl) (hA.rbT hP 20 rfl) (hA.rpT hP 21 rfl) (hA.rbT hP 22 rfl) _ hx_66) rfl ?_
   rintro _ w ⟨b0_67_0, u0_67_0_1, b0_67_1, u0_67_1_1, b0_67_2, u0_67_2_1, rfl, hS1, hR1⟩
   obtain ⟨S_70, wb_71, hZ, hA, hP, hS⟩ := hZ.callK hA hP hS hS1 hR1 rfl
   obtain ⟨x_72, hx_72, h⟩ := kg h
   refine kk (by kernel_rfl) rfl (c_curve_group_show _ x_10.1 x_10.2.1 x_10.2.2.1 x_10.2.2.2.1 x_10.2.2.2.2.1 x_10.2.2.2.2.2.1 x_10.2.2.2.2.2.2.1 x_10.2.2.2.2.2.2.2.1 x_10.2.2.2.2.2.2.2.2.1 x_10.2.2.2.2.2.2.2.2.2.1 x_10.2.2.2.2.2.2.2.2.2.2.1 x_66.1 x_66.2.1 x_66.2.2.1 x_66.2.2.2.1 x_66.2.2.2.2.1 x_66.2.2.2.2.2 u0_8_0_1 u0_8_1_1 u0_8_2_1 u0_8_3_1 u0_8_4_1 u0_67_0_1 u0_67_1_1 u0_67_2_1 b0_8 b0_8_0 b0_8_1 b0_8_2 b0_8_3 b0_8_4 b0_67_0 b0_67_1 b0_67_2 ((hA.rp 0 rfl).now hS.fr).rp ((hA.rb 1 rfl).now hS.fr) ((hA.rp 2 rfl).now hS.fr).rp ((hA.rb 3 rfl).now hS.fr) ((hA.rp 4 rfl).now hS.fr).rp ((hA.rb 5 rfl).now hS.fr) ((hA.rp 6 rfl).now hS.fr).rp ((hA.rb 7 rfl).now hS.fr) ((hA.rp 8 rfl).now hS.fr).rp ((hA.rb 9 rfl).now hS.fr) ((hA.rb 10 rfl).now hS.fr) ((hA.rp 23 rfl).now hS.fr).rp ((hA.rb 24 rfl).now hS.fr) ((hA.rp 25 rfl).now hS.fr).rp ((hA.rb 26 rfl).now hS.fr) ((hA.rp 27 rfl).now hS.fr).rp ((hA.rb 28 rfl).now hS.fr) _ hx_72) rfl ?_
   rintro _ w ⟨v_73, v_75, rfl, hS1⟩
   have hS := hS.call hS1
   refine kX (kM (i := 2) (us := [v_73, v_75, vB x_72.2.2]) rfl sz27 rfl rfl rfl ⟨(hS.ro 0 rfl).one, (hS.ro 1 rfl).one, rfl, trivial⟩ rfl hS) ?_
   intro w hS
   refine kb 1 rfl ?_
   refine kf (ka (kq ?_))
   cases h
   replace hS := hZ.st hS
   exact QE_rv2 rfl ⟨_, rfl, run_ldAgg (us := [v_73, v_75, vB x_72.2.2]) Tryz.underlying27 rfl sz27 (hS.bxs 2 rfl rfl)⟩ rfl ⟨v_73, v_75, rfl, hS.pick [0, 1] (by decide) rfl⟩
theorem c_curve_On (w0 : World) (a0 : Int) (a1_0 : List UInt32) (a1_1 : List UInt32) (a1_2 : Bool) (va1_0 : Value) (va1_1 : Value) (ha1_0 : RP [] w0 e32 va1_0 a1_0) (ha1_1 : RP [] w0 e32 va1_1 a1_1) (r : Bool)
  (h : F.curve_On a0 a1_0 a1_1 a1_2 = some r) : Calls Tryz.prog 24 #[vI a0, .agg #[va1_0, va1_1, vB a1_2]] w0 (Ret fun v w => v = vB r ∧ St [] w0 w []) := by
 refine kz 16 Tryz.func24 rfl rfl rfl ?_
 have hS := St.start w0
 have hZ := Fz.start (S := []) (w0 := w0)
 have hTT : TOk [] [] w0 := TOk.nil
 have hA : Rds [] w0 [red e32 va1_1 a1_1, red e32 va1_0 a1_0] := Rds.cons (RP.kept (Nat.le_of_ble_eq_true rfl) ha1_1) (Rds.cons (RP.kept (Nat.le_of_ble_eq_true rfl) ha1_0) (Rds.nil))
 have hP : Off [] [red e32 va1_1 a1_1, red e32 va1_0 a1_0] := Off.emp
 refine kn [(0, vI a0), (1, .agg #[va1_0, va1_1, vB a1_2])] ⟨rfl, rfl, trivial⟩ ?_
 unfold F.curve_On at h
 refine ke (kc (kW (OpX_box (cs := [va1_0, va1_1, vB a1_2]) rfl rfl hS) rfl ?_))
 rintro _ w ⟨b_1, rfl, hS⟩
 refine kb 1 rfl ?_
 refine kf (ka (ke (kc (kb 1 rfl ?_))))
 refine ki (kH (us := [va1_0, va1_1, vB a1_2]) Tryz.underlying27 rfl sz27 rfl (hS.bxs 0 rfl rfl)) rfl ?_
 replace hS := hS.pick (os' := [] ++ [OE.bx b_1 [va1_0, va1_1, vB a1_2]]) [0] (by decide) rfl
 obtain ⟨hZ, hA, hP, hS⟩ := hZ.frzK hTT hA hP hS
 obtain ⟨x_3, hx_3, h⟩ := kg h
 refine kk (by kernel_rfl) rfl (c_curve_take _ a0 a1_0 a1_1 a1_2 va1_0 va1_1  _ (hZ.okT hTT hS) (hA.rpT hP 0 rfl) (hA.rpT hP 1 rfl) _ hx_3) rfl ?_
 rintro v_q w hQ
 cases hc_5 : x_3.1 with
 | none =>
  have h := ocase_n h hc_5
  rw [hc_5] at hQ
  obtain ⟨rfl, hS1⟩ := ocaseP_n' hQ
  obtain ⟨S_7, wb_8, hZ, hA, hP, hS⟩ := hZ.callK hA hP hS hS1 Rds.nil rfl
  refine kb 4 rfl ?_
  refine kW (kE (cs := [.pointer none, .pointer none, .pointer none]) tz66 rfl hS) rfl ?_
  rintro _ w ⟨b_11, rfl, hS⟩
  refine kb 1 rfl ?_
  refine kX (kM (i := 0) (us := [.pointer none, .pointer none, .pointer none]) rfl sz66 rfl rfl rfl ⟨rfl, rfl, rfl, trivial⟩ rfl hS) ?_
  intro w hS
  refine kb 1 rfl ?_
  refine kf (ka (ke (kc (kb 2 rfl ?_))))
  refine kf (ka (kq ?_))
  cases h
  replace hS := hZ.st hS
  exact ky rfl rfl ⟨rfl, hS.pick [] (by decide) rfl⟩
 | some x_6 =>
  have h := ocase_s h hc_5
  rw [hc_5] at hQ
  obtain ⟨b0_4, b0_4_0, u0_4_0_1, b0_4_1, u0_4_1_1, b0_4_2, u0_4_2_1, b0_4_3, u0_4_3_1, b0_4_4, u0_4_4_1, b1_4_0, u1_4_0_1, b1_4_1, u1_4_1_1, b1_4_2, u1_4_2_1, rfl, hS1, hR1⟩ := ocaseP_s' hQ
  obtain ⟨S_9, wb_10, hZ, hA, hP, hS⟩ := hZ.callK hA hP hS hS1 hR1 rfl
  refine kb 4 rfl ?_
  refine kW (kE (cs := [.pointer none, .pointer none, .pointer none]) tz66 rfl hS) rfl ?_
  rintro _ w ⟨b_13, rfl, hS⟩
  refine kb 1 rfl ?_
  refine kX (kM (i := 0) (us := [pB b1_4_0 0, pB b1_4_1 0, pB b1_4_2 0]) rfl sz66 rfl rfl rfl ⟨rfl, rfl, rfl, trivial⟩ rfl hS) ?_
  intro w hS
  refine kb 1 rfl ?_
  refine kf (ka (ke (kc (kb 2 rfl ?_))))
  refine kf (ka (kq ?_))
  cases h
  replace hS := hZ.st hS
  exact ky rfl rfl ⟨rfl, hS.pick [] (by decide) rfl⟩
theorem c_curve_Base (w0 : World) (a0 : Int)   (r : List UInt32 × List UInt32 × Bool)
  (h : F.curve_Base a0 = some r) : Calls Tryz.prog 59 #[vI a0] w0 (Ret fun v w => ∃ u0_0 u0_1 : Value, v = .agg #[u0_0, u0_1, vB r.2.2] ∧ St [] w0 w [own e32 u0_0 r.1, own e32 u0_1 r.2.1]) := by
 refine kz 20 Tryz.func59 rfl rfl rfl ?_
 have hS := St.start w0
 have hZ := Fz.start (S := []) (w0 := w0)
 have hTT : TOk [] [] w0 := TOk.nil
 have hA : Rds [] w0 [] := Rds.nil
 have hP : Off [] [] := Off.emp
 refine kn [(0, vI a0)] ⟨rfl, trivial⟩ ?_
 unfold F.curve_Base at h
 refine ke (kc (kW (kE (cs := [.slice none 0 0, .slice none 0 0, vB false]) tz27 rfl hS) rfl ?_))
 rintro _ w ⟨b_1, rfl, hS⟩
 refine kf (ka (ke (ke (kc (kb 1 rfl ?_)))))
 replace hS := hS.pick (os' := [] ++ [OE.bx b_1 [.slice none 0 0, .slice none 0 0, vB false]]) [0] (by decide) rfl
 obtain ⟨hZ, hA, hP, hS⟩ := hZ.frzK hTT hA hP hS
 obtain ⟨x_3, hx_3, h⟩ := kg h
 refine kk (by kernel_rfl) rfl (c_curve_of _ a0   _ (hZ.okT hTT hS)  _ hx_3) rfl ?_
 rintro v_q w hQ
 cases hc_5 : x_3 with
 | none =>
  have h := ocase_n h hc_5
  rw [hc_5] at hQ
  obtain ⟨rfl, hS1⟩ := ocaseP_n' hQ
  obtain ⟨S_7, wb_8, hZ, hA, hP, hS⟩ := hZ.callK hA hP hS hS1 Rds.nil rfl
  refine kb 1 rfl ?_
  refine kf (ka (ke (kc (kb 1 rfl ?_))))
  refine ki (kt rfl rfl (b_pnnN Tryz.underlying54)) rfl (kf (ka (wpC_condF rfl ?_)))
  refine kr (ka (ke (kc (ki (OpV_build (vs := []) (cells := [.slice none 0 0, .slice none 0 0, vB false]) rfl lay27 trivial rfl) rfl (kX (kM (i := 0) (us := [.slice none 0 0, .slice none 0 0, vB false]) rfl sz27 rfl rfl rfl ⟨rfl, rfl, rfl, trivial⟩ rfl hS) ?_)))))
  intro w hS
  refine kf (ka (kq ?_))
  cases h
  replace hS := hZ.st hS
  exact QE_rv1 rfl ⟨_, rfl, run_ldAgg (us := [.slice none 0 0, .slice none 0 0, vB false]) Tryz.underlying27 rfl sz27 (hS.bxs 0 rfl rfl)⟩ ⟨.slice none 0 0, .slice none 0 0, rfl, ((hS.nil e32).nil e32).pick [1, 0] (by decide) rfl⟩
 | some x_6 =>
  have h := ocase_s h hc_5
  rw [hc_5] at hQ
  obtain ⟨b0_4, b0_4_0, u0_4_0_1, b0_4_1, u0_4_1_1, b0_4_2, u0_4_2_1, b0_4_3, u0_4_3_1, b0_4_4, u0_4_4_1, rfl, hS1, hR1⟩ := ocaseP_s' hQ
  obtain ⟨S_9, wb_10, hZ, hA, hP, hS⟩ := hZ.callK hA hP hS hS1 hR1 rfl
  refine kb 1 rfl ?_
  refine kf (ka (ke (kc (kb 1 rfl ?_))))
  refine ki (kt rfl rfl (b_pneN Tryz.underlying54 b0_4 0)) rfl (kf (ka (wpC_condT rfl ?_)))
  refine ke ?_
  refine wpC_regionS (fun w' => St S_9 wb_10 w' [OE.bx b_1 [.slice none 0 0, .slice none 0 0, vB false]]) (fun i => !([4, 9, 11].contains i)) hmix (fun _ _ _ hf => hf.2) (fun _ _ hf => hf) (by kernel_rfl) ?_
  have hS := hS.drew
  show lxE _ _ _ _ _ _ _ [0, 1, 2, 3, 4, 5, 6, 7, 8, 9, 10, 11] _ _
  refine kj hS rfl rfl (fun w hF => km rfl) rfl (kj hS rfl rfl (fun w hF => kJ rfl) rfl (kj hS rfl rfl (fun w hF => kl (k := 3) Tryz.underlying59 rfl rfl nz56 rfl) rfl (kj hS rfl rfl (fun w hF => ku Tryz.underlying56 rfl rfl ((hA.rb 10 rfl).cell hF.fr 3 rfl)) rfl ?_)))
  obtain ⟨x_11, hx_11, h⟩ := kg h
  refine kP hS rfl rfl (by kernel_rfl) rfl (c_curve_out _ x_6.2.2.2.2.2.2.1 x_6.2.2.2.2.2.2.2.1 u0_4_3_1 b0_4_3 ((hA.rp 6 rfl).now hS.fr).rp ((hA.rb 7 rfl).now hS.fr) _ hx_11) rfl ?_
  rintro v_12 w hS1
  have hS := hS.call hS1
  have h1_14 := (hS.ro 0 rfl).one
  refine kj (hS.pick [1] (by decide) rfl) rfl rfl (fun w hF => km rfl) rfl ?_
  refine kj (hS.pick [1] (by decide) rfl) rfl rfl (fun w hF => kJ rfl) rfl ?_
  refine kj (hS.pick [1] (by decide) rfl) rfl rfl (fun w hF => kl (k := 4) Tryz.underlying59 rfl rfl nz56 rfl) rfl ?_
  refine kj (hS.pick [1] (by decide) rfl) rfl rfl (fun w hF => ku Tryz.underlying56 rfl rfl ((hA.rb 10 rfl).cell hF.fr 4 rfl)) rfl ?_
  obtain ⟨x_15, hx_15, h⟩ := kg h
  refine kP (hS.pick [1] (by decide) rfl) rfl rfl (by kernel_rfl) rfl (c_curve_out _ x_6.2.2.2.2.2.2.2.2.1 x_6.2.2.2.2.2.2.2.2.2.1 u0_4_4_1 b0_4_4 ((hA.rp 8 rfl).now hS.fr).rp ((hA.rb 9 rfl).now hS.fr) _ hx_15) rfl ?_
  rintro v_16 w hS1
  have hS := hS.call hS1
  have h1_18 := (hS.ro 0 rfl).one
  refine kj (hS.pick [2] (by decide) rfl) rfl rfl (fun w hF => OpV_build (vs := [(0, v_12, [v_12]), (1, v_16, [v_16])]) (cells := [v_12, v_16, vB false]) rfl lay27 ⟨(cells_one h1_14), (cells_one h1_18), trivial⟩ rfl) rfl ?_
  refine ka1 (hS.pick [2] (by decide) rfl) rfl rfl (kM (i := 2) (us := [v_12, v_16, vB false]) rfl sz27 rfl rfl rfl ⟨(hS.ro 1 rfl).one, (hS.ro 0 rfl).one, rfl, trivial⟩ rfl hS) ?_
  intro w hS
  refine kY trivial ?_
  refine ka (kq (kv ?_))
  cases h
  replace hS := hZ.st hS
  exact QE_rv1 rfl ⟨_, rfl, run_ldAgg (us := [v_12, v_16, vB false]) Tryz.underlying27 rfl sz27 (hS.bxs 2 rfl rfl)⟩ ⟨v_12, v_16, rfl, hS.pick [1, 0] (by decide) rfl⟩
theorem c_curve_scalar (w0 : World) (a0 : List UInt32) (va0 : Value) (ha0 : RP [] w0 e32 va0 a0) (r : Bool × List UInt32 × Bool)
  (h : F.curve_scalar a0 = some r) : Calls Tryz.prog 92 #[va0] w0 (Ret fun v w => ∃ u0_1 : Value, ∃ un0 : Nat, v = .tuple #[pB un0 0, vB r.2.2] ∧ St [] w0 w [OE.bx un0 [vB r.1, u0_1], own e32 u0_1 r.2.1]) := by
 refine kz 9 Tryz.func92 rfl rfl rfl ?_
 have hS := St.start w0
 have hZ := Fz.start (S := []) (w0 := w0)
 have hTT : TOk [] [] w0 := TOk.nil
 have hA : Rds [] w0 [red e32 va0 a0] := Rds.cons (RP.kept (Nat.le_of_ble_eq_true rfl) ha0) (Rds.nil)
 have hP : Off [] [red e32 va0 a0] := Off.emp
 refine kn [(0, va0)] ⟨rfl, trivial⟩ ?_
 unfold F.curve_scalar at h
 refine ke (kc (kb 2 rfl ?_))
 refine kf (ka (ke (kc (kb 1 rfl ?_))))
 obtain ⟨x_1, hx_1, h⟩ := kg h
 refine kk (by kernel_rfl) rfl (c_curve_in _ a0 va0  ((hA.rp 0 rfl).now hS.fr).rp _ hx_1) rfl ?_
 rintro _ w ⟨v_2, b_4, rfl, hS1⟩
 have hS := hS.call hS1
 refine kb 1 rfl ?_
 obtain ⟨x_6, hx_6, h⟩ := kg h
 refine kk (by kernel_rfl) rfl (c_nat_Bits _ a0 va0  ((hA.rp 0 rfl).now hS.fr).rp _ hx_6) rfl ?_
 rintro _ w ⟨rfl, hS1⟩
 have hS := hS.call hS1
 refine kb 3 rfl ?_
 refine kf (ka (kq ?_))
 cases h
 replace hS := hZ.st hS
 exact QE_ret2 rfl rfl rfl ⟨v_2, b_4, rfl, hS.pick [0, 1] (by decide) rfl⟩
end Go.Proofs
