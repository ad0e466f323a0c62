import Derived.Test.YtpbgncmffgnohaaGreatUW0
import Derived.Test.YtpbgncmffgnohaaGreatGkFcurve
import Derived.Test.YtpbgncmffgnohaaGreatUWbignumc
import Derived.Test.YtpbgncmffgnohaaGreatUWcurvec
set_option linter.unusedVariables false
set_option linter.unusedSimpArgs false
set_option linter.unusedVariables false
set_option maxRecDepth 4000
namespace Go.Proofs
open Go Go.RowKit Go.Gk
theorem c_curve_step (w0 : World) (a0_0_0 : Bool) (a0_0_1 : List UInt32) (a0_1_0 : Bool) (a0_1_1 : List UInt32) (a0_2_0 : Bool) (a0_2_1 : List UInt32) (a0_3_0 : Bool) (a0_3_1 : List UInt32) (a0_4_0 : Bool) (a0_4_1 : List UInt32) (a0_5 : Int) (a1_0_0 : Bool) (a1_0_1 : List UInt32) (a1_1_0 : Bool) (a1_1_1 : List UInt32) (a1_2_0 : Bool) (a1_2_1 : List UInt32) (a2 : Bool) (a3_0_0 : Bool) (a3_0_1 : List UInt32) (a3_1_0 : Bool) (a3_1_1 : List UInt32) (a3_2_0 : Bool) (a3_2_1 : List UInt32) (va0_0_1 : Value) (va0_1_1 : Value) (va0_2_1 : Value) (va0_3_1 : Value) (va0_4_1 : Value) (va1_0_1 : Value) (va1_1_1 : Value) (va1_2_1 : Value) (va3_0_1 : Value) (va3_1_1 : Value) (va3_2_1 : Value) (ba0 : Nat) (ba0_0 : Nat) (ba0_1 : Nat) (ba0_2 : Nat) (ba0_3 : Nat) (ba0_4 : Nat) (ba1_0 : Nat) (ba1_1 : Nat) (ba1_2 : Nat) (ba3_0 : Nat) (ba3_1 : Nat) (ba3_2 : Nat) (T : List Nat) (hTT : TOk [] T w0) (ha0_0_1 : RP T w0 e32 va0_0_1 a0_0_1) (hBa0_0 : RB T w0 ba0_0 [vB a0_0_0, va0_0_1]) (ha0_1_1 : RP T w0 e32 va0_1_1 a0_1_1) (hBa0_1 : RB T w0 ba0_1 [vB a0_1_0, va0_1_1]) (ha0_2_1 : RP T w0 e32 va0_2_1 a0_2_1) (hBa0_2 : RB T w0 ba0_2 [vB a0_2_0, va0_2_1]) (ha0_3_1 : RP T w0 e32 va0_3_1 a0_3_1) (hBa0_3 : RB T w0 ba0_3 [vB a0_3_0, va0_3_1]) (ha0_4_1 : RP T w0 e32 va0_4_1 a0_4_1) (hBa0_4 : RB T w0 ba0_4 [vB a0_4_0, va0_4_1]) (hBa0 : RB T w0 ba0 [pB ba0_0 0, pB ba0_1 0, pB ba0_2 0, pB ba0_3 0, pB ba0_4 0, vI a0_5, .func (.func 101) #[] #[]]) (ha1_0_1 : RP T w0 e32 va1_0_1 a1_0_1) (hBa1_0 : RB T w0 ba1_0 [vB a1_0_0, va1_0_1]) (ha1_1_1 : RP T w0 e32 va1_1_1 a1_1_1) (hBa1_1 : RB T w0 ba1_1 [vB a1_1_0, va1_1_1]) (ha1_2_1 : RP T w0 e32 va1_2_1 a1_2_1) (hBa1_2 : RB T w0 ba1_2 [vB a1_2_0, va1_2_1]) (ha3_0_1 : RP T w0 e32 va3_0_1 a3_0_1) (hBa3_0 : RB T w0 ba3_0 [vB a3_0_0, va3_0_1]) (ha3_1_1 : RP T w0 e32 va3_1_1 a3_1_1) (hBa3_1 : RB T w0 ba3_1 [vB a3_1_0, va3_1_1]) (ha3_2_1 : RP T w0 e32 va3_2_1 a3_2_1) (hBa3_2 : RB T w0 ba3_2 [vB a3_2_0, va3_2_1]) (r : Bool × List UInt32 × Bool × List UInt32 × Bool × List UInt32)
  (h : F.curve_step a0_0_0 a0_0_1 a0_1_0 a0_1_1 a0_2_0 a0_2_1 a0_3_0 a0_3_1 a0_4_0 a0_4_1 a0_5 a1_0_0 a1_0_1 a1_1_0 a1_1_1 a1_2_0 a1_2_1 a2 a3_0_0 a3_0_1 a3_1_0 a3_1_1 a3_2_0 a3_2_1 = some r) : Calls Tryz.prog 101 #[pB ba0 0, .agg #[pB ba1_0 0, pB ba1_1 0, pB ba1_2 0], vB a2, .agg #[pB ba3_0 0, pB ba3_1 0, pB ba3_2 0]] w0 (Ret fun v w => ∃ b0_0 : Nat, ∃ u0_0_1 : Value, ∃ b0_1 : Nat, ∃ u0_1_1 : Value, ∃ b0_2 : Nat, ∃ u0_2_1 : Value, v = .agg #[pB b0_0 0, pB b0_1 0, pB b0_2 0] ∧ St [] w0 w [] ∧ Rds T w [OE.bx b0_2 [vB r.2.2.2.2.1, u0_2_1], red e32 u0_2_1 r.2.2.2.2.2, OE.bx b0_1 [vB r.2.2.1, u0_1_1], red e32 u0_1_1 r.2.2.2.1, OE.bx b0_0 [vB r.1, u0_0_1], red e32 u0_0_1 r.2.1]) := by
 refine kz 18 Tryz.func101 rfl rfl rfl ?_
 have hS := St.start w0
 have hZ := Fz.start (S := []) (w0 := w0)
 have hA0 : Rds T w0 [OE.bx ba3_2 [vB a3_2_0, va3_2_1], red e32 va3_2_1 a3_2_1, OE.bx ba3_1 [vB a3_1_0, va3_1_1], red e32 va3_1_1 a3_1_1, OE.bx ba3_0 [vB a3_0_0, va3_0_1], red e32 va3_0_1 a3_0_1, OE.bx ba1_2 [vB a1_2_0, va1_2_1], red e32 va1_2_1 a1_2_1, OE.bx ba1_1 [vB a1_1_0, va1_1_1], red e32 va1_1_1 a1_1_1, OE.bx ba1_0 [vB a1_0_0, va1_0_1], red e32 va1_0_1 a1_0_1, OE.bx ba0 [pB ba0_0 0, pB ba0_1 0, pB ba0_2 0, pB ba0_3 0, pB ba0_4 0, vI a0_5, .func (.func 101) #[] #[]], OE.bx ba0_4 [vB a0_4_0, va0_4_1], red e32 va0_4_1 a0_4_1, OE.bx ba0_3 [vB a0_3_0, va0_3_1], red e32 va0_3_1 a0_3_1, OE.bx ba0_2 [vB a0_2_0, va0_2_1], red e32 va0_2_1 a0_2_1, OE.bx ba0_1 [vB a0_1_0, va0_1_1], red e32 va0_1_1 a0_1_1, OE.bx ba0_0 [vB a0_0_0, va0_0_1], red e32 va0_0_1 a0_0_1] := Rds.cons hBa3_2.kept (Rds.cons (RP.kept (Nat.le_of_ble_eq_true rfl) ha3_2_1) (Rds.cons hBa3_1.kept (Rds.cons (RP.kept (Nat.le_of_ble_eq_true rfl) ha3_1_1) (Rds.cons hBa3_0.kept (Rds.cons (RP.kept (Nat.le_of_ble_eq_true rfl) ha3_0_1) (Rds.cons hBa1_2.kept (Rds.cons (RP.kept (Nat.le_of_ble_eq_true rfl) ha1_2_1) (Rds.cons hBa1_1.kept (Rds.cons (RP.kept (Nat.le_of_ble_eq_true rfl) ha1_1_1) (Rds.cons hBa1_0.kept (Rds.cons (RP.kept (Nat.le_of_ble_eq_true rfl) ha1_0_1) (Rds.cons hBa0.kept (Rds.cons hBa0_4.kept (Rds.cons (RP.kept (Nat.le_of_ble_eq_true rfl) ha0_4_1) (Rds.cons hBa0_3.kept (Rds.cons (RP.kept (Nat.le_of_ble_eq_true rfl) ha0_3_1) (Rds.cons hBa0_2.kept (Rds.cons (RP.kept (Nat.le_of_ble_eq_true rfl) ha0_2_1) (Rds.cons hBa0_1.kept (Rds.cons (RP.kept (Nat.le_of_ble_eq_true rfl) ha0_1_1) (Rds.cons hBa0_0.kept (Rds.cons (RP.kept (Nat.le_of_ble_eq_true rfl) ha0_0_1) (Rds.nil)))))))))))))))))))))))
 have hA := hA0.all
 have hP := hA0.off rfl
 refine kn [(0, pB ba0 0), (1, .agg #[pB ba1_0 0, pB ba1_1 0, pB ba1_2 0]), (2, vB a2), (3, .agg #[pB ba3_0 0, pB ba3_1 0, pB ba3_2 0])] ⟨rfl, rfl, rfl, rfl, trivial⟩ ?_
 unfold F.curve_step at h
 refine ke (kc (kW (OpX_box (cs := [pB ba1_0 0, pB ba1_1 0, pB ba1_2 0]) rfl rfl hS) rfl ?_))
 rintro _ w ⟨b_1, rfl, hS⟩
 refine kW (OpX_box (cs := [pB ba3_0 0, pB ba3_1 0, pB ba3_2 0]) rfl rfl hS) rfl ?_
 rintro _ w ⟨b_3, rfl, hS⟩
 refine kW (kE (cs := [.pointer none, .pointer none, .pointer none]) tz66 rfl hS) rfl ?_
 rintro _ w ⟨b_5, rfl, hS⟩
 refine kf (ka (ke (kc (kb 1 rfl ?_))))
 refine ki (kH (us := [pB ba1_0 0, pB ba1_1 0, pB ba1_2 0]) Tryz.underlying66 rfl sz66 rfl (hS.bxs 2 rfl rfl)) rfl ?_
 replace hS := hS.pick (os' := [] ++ [OE.bx b_5 [.pointer none, .pointer none, .pointer none], OE.bx b_3 [pB ba3_0 0, pB ba3_1 0, pB ba3_2 0], OE.bx b_1 [pB ba1_0 0, pB ba1_1 0, pB ba1_2 0]]) [0, 1, 2] (by decide) rfl
 obtain ⟨hZ, hA, hP, hS⟩ := hZ.frzK hTT hA hP hS
 obtain ⟨x_7, hx_7, h⟩ := kg h
 refine kk (by kernel_rfl) rfl (c_curve_group_double _ a0_0_0 a0_0_1 a0_1_0 a0_1_1 a0_2_0 a0_2_1 a0_3_0 a0_3_1 a0_4_0 a0_4_1 a0_5 a1_0_0 a1_0_1 a1_1_0 a1_1_1 a1_2_0 a1_2_1 va0_0_1 va0_1_1 va0_2_1 va0_3_1 va0_4_1 va1_0_1 va1_1_1 va1_2_1 ba0 ba0_0 ba0_1 ba0_2 ba0_3 ba0_4 ba1_0 ba1_1 ba1_2 _ (hZ.okT hTT hS) (hA.rpT hP 0 rfl) (hA.rbT hP 1 rfl) (hA.rpT hP 2 rfl) (hA.rbT hP 3 rfl) (hA.rpT hP 4 rfl) (hA.rbT hP 5 rfl) (hA.rpT hP 6 rfl) (hA.rbT hP 7 rfl) (hA.rpT hP 8 rfl) (hA.rbT hP 9 rfl) (hA.rbT hP 10 rfl) (hA.rpT hP 11 rfl) (hA.rbT hP 12 rfl) (hA.rpT hP 13 rfl) (hA.rbT hP 14 rfl) (hA.rpT hP 15 rfl) (hA.rbT hP 16 rfl) _ hx_7) rfl ?_
 rintro _ w ⟨b0_8_0, u0_8_0_1, b0_8_1, u0_8_1_1, b0_8_2, u0_8_2_1, rfl, hS1, hR1⟩
 obtain ⟨S_11, wb_12, hZ, hA, hP, hS⟩ := hZ.callK hA hP hS hS1 hR1 rfl
 refine kX (kM (i := 2) (us := [pB b0_8_0 0, pB b0_8_1 0, pB b0_8_2 0]) rfl sz66 rfl rfl rfl ⟨rfl, rfl, rfl, trivial⟩ rfl hS) ?_
 intro w hS
 refine kf (ka ?_)
 refine kO (r := r) (fun (g : Bool × List UInt32 × Bool × List UInt32 × Bool × List UInt32) L w => ∃ (b_22 : Nat) (v_25 : Value) (b_26 : Nat) (v_29 : Value) (b_30 : Nat) (v_33 : Value), L = [(5, pB b_1 0), (8, pB b_5 0)] ∧ SfT [] T w0 w [OE.bx b_30 [vB g.2.2.2.2.1, v_33], red e32 v_33 g.2.2.2.2.2, OE.bx b_26 [vB g.2.2.1, v_29], red e32 v_29 g.2.2.2.1, OE.bx b_22 [vB g.1, v_25], red e32 v_25 g.2.1] [OE.bx b_1 [pB b_22 0, pB b_26 0, pB b_30 0], OE.bx b_5 [.pointer none, .pointer none, .pointer none]]) (F.curve_step_K1) ?_ ?_
 rotate_left
 ·intro hK_34
  refine ke (kc (kb 1 rfl ?_))
  refine kf (ka ?_)
  refine ko rfl (fun hb_19 => ?_) (fun hb_19 => ?_)
  ·have h := if_t h hb_19
   refine kc (kb 1 rfl ?_)
   refine ki (kH (us := [pB b0_8_0 0, pB b0_8_1 0, pB b0_8_2 0]) Tryz.underlying66 rfl sz66 rfl (hS.bxs 2 rfl rfl)) rfl (ki (kH (us := [pB ba3_0 0, pB ba3_1 0, pB ba3_2 0]) Tryz.underlying66 rfl sz66 rfl (hS.bxs 1 rfl rfl)) rfl ?_)
   replace hS := hS.pick (os' := [] ++ [OE.bx b_5 [.pointer none, .pointer none, .pointer none], OE.bx b_3 [pB ba3_0 0, pB ba3_1 0, pB ba3_2 0], OE.bx b_1 [pB b0_8_0 0, pB b0_8_1 0, pB b0_8_2 0]]) [0, 1, 2] (by decide) rfl
   obtain ⟨hZ, hA, hP, hS⟩ := hZ.frzK hTT hA hP hS
   obtain ⟨x_13, hx_13, h⟩ := kg h
   refine kk (by kernel_rfl) rfl (c_curve_group_add _ a0_0_0 a0_0_1 a0_1_0 a0_1_1 a0_2_0 a0_2_1 a0_3_0 a0_3_1 a0_4_0 a0_4_1 a0_5 x_7.1 x_7.2.1 x_7.2.2.1 x_7.2.2.2.1 x_7.2.2.2.2.1 x_7.2.2.2.2.2 a3_0_0 a3_0_1 a3_1_0 a3_1_1 a3_2_0 a3_2_1 va0_0_1 va0_1_1 va0_2_1 va0_3_1 va0_4_1 u0_8_0_1 u0_8_1_1 u0_8_2_1 va3_0_1 va3_1_1 va3_2_1 ba0 ba0_0 ba0_1 ba0_2 ba0_3 ba0_4 b0_8_0 b0_8_1 b0_8_2 ba3_0 ba3_1 ba3_2 _ (hZ.okT hTT hS) (hA.rpT hP 0 rfl) (hA.rbT hP 1 rfl) (hA.rpT hP 2 rfl) (hA.rbT hP 3 rfl) (hA.rpT hP 4 rfl) (hA.rbT hP 5 rfl) (hA.rpT hP 6 rfl) (hA.rbT hP 7 rfl) (hA.rpT hP 8 rfl) (hA.rbT hP 9 rfl) (hA.rbT hP 10 rfl) (hA.rpT hP 23 rfl) (hA.rbT hP 24 rfl) (hA.rpT hP 25 rfl) (hA.rbT hP 26 rfl) (hA.rpT hP 27 rfl) (hA.rbT hP 28 rfl) (hA.rpT hP 17 rfl) (hA.rbT hP 18 rfl) (hA.rpT hP 19 rfl) (hA.rbT hP 20 rfl) (hA.rpT hP 21 rfl) (hA.rbT hP 22 rfl) _ hx_13) rfl ?_
   rintro _ w ⟨b0_14_0, u0_14_0_1, b0_14_1, u0_14_1_1, b0_14_2, u0_14_2_1, rfl, hS1, hR1⟩
   obtain ⟨S_17, wb_18, hZ, hA, hP, hS⟩ := hZ.callK hA hP hS hS1 hR1 rfl
   refine kX (kM (i := 2) (us := [pB b0_14_0 0, pB b0_14_1 0, pB b0_14_2 0]) rfl sz66 rfl rfl rfl ⟨rfl, rfl, rfl, trivial⟩ rfl hS) ?_
   intro w hS
   refine kf (ka ?_)
   exact kn _ (by exact ⟨rfl, rfl, trivial⟩) (hK_34 (x_13.1, x_13.2.1, x_13.2.2.1, x_13.2.2.2.1, x_13.2.2.2.2.1, x_13.2.2.2.2.2) _ _ ⟨b0_14_0, u0_14_0_1, b0_14_1, u0_14_1_1, b0_14_2, u0_14_2_1, rfl, (SfT.mk' hZ (Rds.cons (hA.nth 34 rfl) (Rds.cons (hA.nth 33 rfl) (Rds.cons (hA.nth 32 rfl) (Rds.cons (hA.nth 31 rfl) (Rds.cons (hA.nth 30 rfl) (Rds.cons (hA.nth 29 rfl) Rds.nil)))))) (Off.cons (hP.nth 34 rfl) (Off.cons (hP.nth 33 rfl) (Off.cons (hP.nth 32 rfl) (Off.cons (hP.nth 31 rfl) (Off.cons (hP.nth 30 rfl) (Off.cons (hP.nth 29 rfl) Off.nil)))))) (hS.pick [2, 0] (by decide) rfl))⟩ h)
  have h := if_f h hb_19
  refine kr (ka ?_)
  exact kn _ (by exact ⟨rfl, rfl, trivial⟩) (hK_34 (x_7.1, x_7.2.1, x_7.2.2.1, x_7.2.2.2.1, x_7.2.2.2.2.1, x_7.2.2.2.2.2) _ _ ⟨b0_8_0, u0_8_0_1, b0_8_1, u0_8_1_1, b0_8_2, u0_8_2_1, rfl, (SfT.mk' hZ (Rds.cons (hA.nth 28 rfl) (Rds.cons (hA.nth 27 rfl) (Rds.cons (hA.nth 26 rfl) (Rds.cons (hA.nth 25 rfl) (Rds.cons (hA.nth 24 rfl) (Rds.cons (hA.nth 23 rfl) Rds.nil)))))) (Off.cons (hP.nth 28 rfl) (Off.cons (hP.nth 27 rfl) (Off.cons (hP.nth 26 rfl) (Off.cons (hP.nth 25 rfl) (Off.cons (hP.nth 24 rfl) (Off.cons (hP.nth 23 rfl) Off.nil)))))) (hS.pick [2, 0] (by decide) rfl))⟩ h)
 rintro ⟨x_23, x_24, x_27, x_28, x_31, x_32⟩ L w hJ h
 try dsimp only at hJ
 obtain ⟨b_22, v_25, b_26, v_29, b_30, v_33, rfl, ⟨S_20, wb_21, hZ, hA, hP, hS⟩⟩ := hJ
 unfold F.curve_step_K1 at h
 refine ke (kc (ki (kH (us := [pB b_22 0, pB b_26 0, pB b_30 0]) Tryz.underlying66 rfl sz66 rfl (hS.bxs 0 rfl rfl)) rfl (kX (kM (i := 1) (us := [pB b_22 0, pB b_26 0, pB b_30 0]) rfl sz66 rfl rfl rfl ⟨rfl, rfl, rfl, trivial⟩ rfl hS) ?_)))
 intro w hS
 refine kf (ka (kq ?_))
 cases h
 obtain ⟨hS0, hR⟩ := hZ.outT hTT hA hP hS
 exact QE_rv1 rfl ⟨_, rfl, run_ldAgg (us := [pB b_22 0, pB b_26 0, pB b_30 0]) Tryz.underlying66 rfl sz66 (hS.bxs 1 rfl rfl)⟩ ⟨b_22, v_25, b_26, v_29, b_30, v_33, rfl, hS0, (Rds.cons (hR.nth 5 rfl) (Rds.cons (hR.nth 4 rfl) (Rds.cons (hR.nth 3 rfl) (Rds.cons (hR.nth 2 rfl) (Rds.cons (hR.nth 1 rfl) (Rds.cons (hR.nth 0 rfl) Rds.nil))))))⟩
theorem c_curve_group_ladder (w0 : World) (a0_0_0 : Bool) (a0_0_1 : List UInt32) (a0_1_0 : Bool) (a0_1_1 : List UInt32) (a0_2_0 : Bool) (a0_2_1 : List UInt32) (a0_3_0 : Bool) (a0_3_1 : List UInt32) (a0_4_0 : Bool) (a0_4_1 : List UInt32) (a0_5 : Int) (a1_0 : Bool) (a1_1 : List UInt32) (a2_0_0 : Bool) (a2_0_1 : List UInt32) (a2_1_0 : Bool) (a2_1_1 : List UInt32) (a2_2_0 : Bool) (a2_2_1 : List UInt32) (va0_0_1 : Value) (va0_1_1 : Value) (va0_2_1 : Value) (va0_3_1 : Value) (va0_4_1 : Value) (va1_1 : Value) (va2_0_1 : Value) (va2_1_1 : Value) (va2_2_1 : Value) (ba0 : Nat) (ba0_0 : Nat) (ba0_1 : Nat) (ba0_2 : Nat) (ba0_3 : Nat) (ba0_4 : Nat) (ba1 : Nat) (ba2_0 : Nat) (ba2_1 : Nat) (ba2_2 : Nat) (T : List Nat) (hTT : TOk [] T w0) (ha0_0_1 : RP T w0 e32 va0_0_1 a0_0_1) (hBa0_0 : RB T w0 ba0_0 [vB a0_0_0, va0_0_1]) (ha0_1_1 : RP T w0 e32 va0_1_1 a0_1_1) (hBa0_1 : RB T w0 ba0_1 [vB a0_1_0, va0_1_1]) (ha0_2_1 : RP T w0 e32 va0_2_1 a0_2_1) (hBa0_2 : RB T w0 ba0_2 [vB a0_2_0, va0_2_1]) (ha0_3_1 : RP T w0 e32 va0_3_1 a0_3_1) (hBa0_3 : RB T w0 ba0_3 [vB a0_3_0, va0_3_1]) (ha0_4_1 : RP T w0 e32 va0_4_1 a0_4_1) (hBa0_4 : RB T w0 ba0_4 [vB a0_4_0, va0_4_1]) (hBa0 : RB T w0 ba0 [pB ba0_0 0, pB ba0_1 0, pB ba0_2 0, pB ba0_3 0, pB ba0_4 0, vI a0_5, .func (.func 101) #[] #[]]) (ha1_1 : RP T w0 e32 va1_1 a1_1) (hBa1 : RB T w0 ba1 [vB a1_0, va1_1]) (ha2_0_1 : RP T w0 e32 va2_0_1 a2_0_1) (hBa2_0 : RB T w0 ba2_0 [vB a2_0_0, va2_0_1]) (ha2_1_1 : RP T w0 e32 va2_1_1 a2_1_1) (hBa2_1 : RB T w0 ba2_1 [vB a2_1_0, va2_1_1]) (ha2_2_1 : RP T w0 e32 va2_2_1 a2_2_1) (hBa2_2 : RB T w0 ba2_2 [vB a2_2_0, va2_2_1]) (r : Bool × List UInt32 × Bool × List UInt32 × Bool × List UInt32)
  (h : F.curve_group_ladder a0_0_0 a0_0_1 a0_1_0 a0_1_1 a0_2_0 a0_2_1 a0_3_0 a0_3_1 a0_4_0 a0_4_1 a0_5 a1_0 a1_1 a2_0_0 a2_0_1 a2_1_0 a2_1_1 a2_2_0 a2_2_1 = some r) : Calls Tryz.prog 93 #[pB ba0 0, pB ba1 0, .agg #[pB ba2_0 0, pB ba2_1 0, pB ba2_2 0]] w0 (Ret fun v w => ∃ b0_0 : Nat, ∃ u0_0_1 : Value, ∃ b0_1 : Nat, ∃ u0_1_1 : Value, ∃ b0_2 : Nat, ∃ u0_2_1 : Value, v = .agg #[pB b0_0 0, pB b0_1 0, pB b0_2 0] ∧ St [] w0 w [] ∧ Rds T w [OE.bx b0_2 [vB r.2.2.2.2.1, u0_2_1], red e32 u0_2_1 r.2.2.2.2.2, OE.bx b0_1 [vB r.2.2.1, u0_1_1], red e32 u0_1_1 r.2.2.2.1, OE.bx b0_0 [vB r.1, u0_0_1], red e32 u0_0_1 r.2.1]) := by
 refine kz 30 Tryz.func93 rfl rfl rfl ?_
 have hS := St.start w0
 have hZ := Fz.start (S := []) (w0 := w0)
 have hA0 : Rds T w0 [OE.bx ba2_2 [vB a2_2_0, va2_2_1], red e32 va2_2_1 a2_2_1, OE.bx ba2_1 [vB a2_1_0, va2_1_1], red e32 va2_1_1 a2_1_1, OE.bx ba2_0 [vB a2_0_0, va2_0_1], red e32 va2_0_1 a2_0_1, OE.bx ba1 [vB a1_0, va1_1], red e32 va1_1 a1_1, OE.bx ba0 [pB ba0_0 0, pB ba0_1 0, pB ba0_2 0, pB ba0_3 0, pB ba0_4 0, vI a0_5, .func (.func 101) #[] #[]], OE.bx ba0_4 [vB a0_4_0, va0_4_1], red e32 va0_4_1 a0_4_1, OE.bx ba0_3 [vB a0_3_0, va0_3_1], red e32 va0_3_1 a0_3_1, OE.bx ba0_2 [vB a0_2_0, va0_2_1], red e32 va0_2_1 a0_2_1, OE.bx ba0_1 [vB a0_1_0, va0_1_1], red e32 va0_1_1 a0_1_1, OE.bx ba0_0 [vB a0_0_0, va0_0_1], red e32 va0_0_1 a0_0_1] := Rds.cons hBa2_2.kept (Rds.cons (RP.kept (Nat.le_of_ble_eq_true rfl) ha2_2_1) (Rds.cons hBa2_1.kept (Rds.cons (RP.kept (Nat.le_of_ble_eq_true rfl) ha2_1_1) (Rds.cons hBa2_0.kept (Rds.cons (RP.kept (Nat.le_of_ble_eq_true rfl) ha2_0_1) (Rds.cons hBa1.kept (Rds.cons (RP.kept (Nat.le_of_ble_eq_true rfl) ha1_1) (Rds.cons hBa0.kept (Rds.cons hBa0_4.kept (Rds.cons (RP.kept (Nat.le_of_ble_eq_true rfl) ha0_4_1) (Rds.cons hBa0_3.kept (Rds.cons (RP.kept (Nat.le_of_ble_eq_true rfl) ha0_3_1) (Rds.cons hBa0_2.kept (Rds.cons (RP.kept (Nat.le_of_ble_eq_true rfl) ha0_2_1) (Rds.cons hBa0_1.kept (Rds.cons (RP.kept (Nat.le_of_ble_eq_true rfl) ha0_1_1) (Rds.cons hBa0_0.kept (Rds.cons (RP.kept (Nat.le_of_ble_eq_true rfl) ha0_0_1) (Rds.nil)))))))))))))))))))
 have hA := hA0.all
 have hP := hA0.off rfl
 refine kn [(0, pB ba0 0), (1, pB ba1 0), (2, .agg #[pB ba2_0 0, pB ba2_1 0, pB ba2_2 0])] ⟨rfl, rfl, rfl, trivial⟩ ?_
 unfold F.curve_group_ladder at h
 refine ke (kc (kW (OpX_box (cs := [pB ba2_0 0, pB ba2_1 0, pB ba2_2 0]) rfl rfl hS) rfl ?_))
 rintro _ w ⟨b_1, rfl, hS⟩
 refine kW (kE (cs := [.pointer none, .pointer none, .pointer none]) tz66 rfl hS) rfl ?_
 rintro _ w ⟨b_3, rfl, hS⟩
 refine kf (ka (ke (kc ?_)))
 obtain ⟨x_5, hx_5, h⟩ := kg h
 refine kk (by kernel_rfl) rfl (c_curve_infinity _     _ hx_5) rfl ?_
 rintro _ w ⟨v_6, v_8, v_10, b_12, b_14, b_16, rfl, hS1⟩
 have hS := hS.call hS1
 refine kW (kE (cs := [.pointer none, .pointer none, .pointer none]) tz66 rfl hS) rfl ?_
 rintro _ w ⟨b_18, rfl, hS⟩
 refine kX (kM (i := 0) (us := [pB b_12 0, pB b_14 0, pB b_16 0]) rfl sz66 rfl rfl rfl ⟨rfl, rfl, rfl, trivial⟩ rfl hS) ?_
 intro w hS
 refine kf (ka (ke (ke (kc (kb 1 rfl ?_)))))
 obtain ⟨x_20, hx_20, h⟩ := kg h
 refine kk (by kernel_rfl) rfl (c_bignum_Int_BitLen _ a1_0 a1_1 va1_1 ba1 ((hA.rp 11 rfl).now hS.fr).rp ((hA.rb 12 rfl).now hS.fr) _ hx_20) rfl ?_
 rintro _ w ⟨rfl, hS1⟩
 have hS := hS.call hS1
 refine kb 2 rfl ?_
 refine kf (ka (kw ?_))
 replace hS := hS.pick (os' := [OE.bx b_12 [vB x_5.1, v_6], own e32 v_6 x_5.2.1, OE.bx b_14 [vB x_5.2.2.1, v_8], own e32 v_8 x_5.2.2.2.1, OE.bx b_16 [vB x_5.2.2.2.2.1, v_10], own e32 v_10 x_5.2.2.2.2.2] ++ [OE.bx b_18 [pB b_12 0, pB b_14 0, pB b_16 0], OE.bx b_3 [.pointer none, .pointer none, .pointer none], OE.bx b_1 [pB ba2_0 0, pB ba2_1 0, pB ba2_2 0]]) [1, 2, 3, 4, 5, 6, 0, 7, 8] (by decide) rfl
 obtain ⟨S_21, wb_22, hZ, hA, hP, hS⟩ := hZ.frzT hTT hA hP hS
 refine kn [(0, pB ba0 0), (1, pB ba1 0), (5, pB b_1 0), (6, pB b_3 0), (7, pB b_18 0), (8, vI (wI (x_20 - 1)))] ⟨rfl, rfl, rfl, rfl, rfl, rfl, trivial⟩ ?_
 refine kS (F.curve_group_ladder_L1 a0_0_0 a0_0_1 a0_1_0 a0_1_1 a0_2_0 a0_2_1 a0_3_0 a0_3_1 a0_4_0 a0_4_1 a0_5 a1_0 a1_1 a2_0_0 a2_0_1 a2_1_0 a2_1_1 a2_2_0 a2_2_1) (fun (s : Int × Bool × List UInt32 × Bool × List UInt32 × Bool × List UInt32) L w => ∃ (b_26 : Nat) (v_29 : Value) (b_30 : Nat) (v_33 : Value) (b_34 : Nat) (v_37 : Value), L = [(0, pB ba0 0), (1, pB ba1 0), (5, pB b_1 0), (6, pB b_3 0), (7, pB b_18 0), (8, vI s.1)] ∧ SfT [] T w0 w [OE.bx b_34 [vB s.2.2.2.2.2.1, v_37], red e32 v_37 s.2.2.2.2.2.2, OE.bx b_30 [vB s.2.2.2.1, v_33], red e32 v_33 s.2.2.2.2.1, OE.bx b_26 [vB s.2.1, v_29], red e32 v_29 s.2.2.1, OE.bx ba2_2 [vB a2_2_0, va2_2_1], red e32 va2_2_1 a2_2_1, OE.bx ba2_1 [vB a2_1_0, va2_1_1], red e32 va2_1_1 a2_1_1, OE.bx ba2_0 [vB a2_0_0, va2_0_1], red e32 va2_0_1 a2_0_1, OE.bx ba1 [vB a1_0, va1_1], red e32 va1_1 a1_1, OE.bx ba0 [pB ba0_0 0, pB ba0_1 0, pB ba0_2 0, pB ba0_3 0, pB ba0_4 0, vI a0_5, .func (.func 101) #[] #[]], OE.bx ba0_4 [vB a0_4_0, va0_4_1], red e32 va0_4_1 a0_4_1, OE.bx ba0_3 [vB a0_3_0, va0_3_1], red e32 va0_3_1 a0_3_1, OE.bx ba0_2 [vB a0_2_0, va0_2_1], red e32 va0_2_1 a0_2_1, OE.bx ba0_1 [vB a0_1_0, va0_1_1], red e32 va0_1_1 a0_1_1, OE.bx ba0_0 [vB a0_0_0, va0_0_1], red e32 va0_0_1 a0_0_1] [OE.bx b_1 [pB ba2_0 0, pB ba2_1 0, pB ba2_2 0], OE.bx b_3 [.pointer none, .pointer none, .pointer none], OE.bx b_18 [pB b_26 0, pB b_30 0, pB b_34 0]]) ?_ (wI (x_20 - 1), x_5.1, x_5.2.1, x_5.2.2.1, x_5.2.2.2.1, x_5.2.2.2.2.1, x_5.2.2.2.2.2) ⟨b_12, v_6, b_14, v_8, b_16, v_10, rfl, (SfT.mk' hZ (Rds.cons (hA.nth 20 rfl) (Rds.cons (hA.nth 19 rfl) (Rds.cons (hA.nth 22 rfl) (Rds.cons (hA.nth 21 rfl) (Rds.cons (hA.nth 24 rfl) (Rds.cons (hA.nth 23 rfl) (Rds.cons (hA.nth 18 rfl) (Rds.cons (hA.nth 17 rfl) (Rds.cons (hA.nth 16 rfl) (Rds.cons (hA.nth 15 rfl) (Rds.cons (hA.nth 14 rfl) (Rds.cons (hA.nth 13 rfl) (Rds.cons (hA.nth 12 rfl) (Rds.cons (hA.nth 11 rfl) (Rds.cons (hA.nth 10 rfl) (Rds.cons (hA.nth 9 rfl) (Rds.cons (hA.nth 8 rfl) (Rds.cons (hA.nth 7 rfl) (Rds.cons (hA.nth 6 rfl) (Rds.cons (hA.nth 5 rfl) (Rds.cons (hA.nth 4 rfl) (Rds.cons (hA.nth 3 rfl) (Rds.cons (hA.nth 2 rfl) (Rds.cons (hA.nth 1 rfl) (Rds.cons (hA.nth 0 rfl) Rds.nil))))))))))))))))))))))))) (Off.cons (hP.nth 20 rfl) (Off.cons (hP.nth 19 rfl) (Off.cons (hP.nth 22 rfl) (Off.cons (hP.nth 21 rfl) (Off.cons (hP.nth 24 rfl) (Off.cons (hP.nth 23 rfl) (Off.cons (hP.nth 18 rfl) (Off.cons (hP.nth 17 rfl) (Off.cons (hP.nth 16 rfl) (Off.cons (hP.nth 15 rfl) (Off.cons (hP.nth 14 rfl) (Off.cons (hP.nth 13 rfl) (Off.cons (hP.nth 12 rfl) (Off.cons (hP.nth 11 rfl) (Off.cons (hP.nth 10 rfl) (Off.cons (hP.nth 9 rfl) (Off.cons (hP.nth 8 rfl) (Off.cons (hP.nth 7 rfl) (Off.cons (hP.nth 6 rfl) (Off.cons (hP.nth 5 rfl) (Off.cons (hP.nth 4 rfl) (Off.cons (hP.nth 3 rfl) (Off.cons (hP.nth 2 rfl) (Off.cons (hP.nth 1 rfl) (Off.cons (hP.nth 0 rfl) Off.nil))))))))))))))))))))))))) (hS.pick [2, 1, 0] (by decide) rfl))⟩ h
 rintro k_51 ⟨x_25, x_27, x_28, x_31, x_32, x_35, x_36⟩ L w q_40 hI ih_39 h hk_38
 try dsimp only at hI
 obtain ⟨b_26, v_29, b_30, v_33, b_34, v_37, rfl, ⟨S_23, wb_24, hZ, hA, hP, hS⟩⟩ := hI
 unfold F.curve_group_ladder_L1 at h
 refine ke (ke (kc (kb 2 rfl ?_)))
 refine kf (ka ?_)
 refine ko rfl (fun hb_50 => ?_) (fun hb_50 => ?_)
 ·have h := if_t h hb_50
  refine kr (ka (ke (kw ?_)))
  obtain ⟨x_41, hx_41, h⟩ := kg h
  obtain ⟨x_42, hx_42, h⟩ := kg h
  refine wpC_regionM (es := [OE.bx b_34 [vB x_35, v_37], red e32 v_37 x_36, OE.bx b_30 [vB x_31, v_33], red e32 v_33 x_32, OE.bx b_26 [vB x_27, v_29], red e32 v_29 x_28, OE.bx ba2_2 [vB a2_2_0, va2_2_1], red e32 va2_2_1 a2_2_1, OE.bx ba2_1 [vB a2_1_0, va2_1_1], red e32 va2_1_1 a2_1_1, OE.bx ba2_0 [vB a2_0_0, va2_0_1], red e32 va2_0_1 a2_0_1, OE.bx ba1 [vB a1_0, va1_1], red e32 va1_1 a1_1, OE.bx ba0 [pB ba0_0 0, pB ba0_1 0, pB ba0_2 0, pB ba0_3 0, pB ba0_4 0, vI a0_5, .func (.func 101) #[] #[]], OE.bx ba0_4 [vB a0_4_0, va0_4_1], red e32 va0_4_1 a0_4_1, OE.bx ba0_3 [vB a0_3_0, va0_3_1], red e32 va0_3_1 a0_3_1, OE.bx ba0_2 [vB a0_2_0, va0_2_1], red e32 va0_2_1 a0_2_1, OE.bx ba0_1 [vB a0_1_0, va0_1_1], red e32 va0_1_1 a0_1_1, OE.bx ba0_0 [vB a0_0_0, va0_0_1], red e32 va0_0_1 a0_0_1]) (os := [OE.bx b_1 [pB ba2_0 0, pB ba2_1 0, pB ba2_2 0], OE.bx b_3 [.pointer none, .pointer none, .pointer none]]) (fun i => [5, 8, 11, 12].contains i) (fun i => none) (fun i => if i = 12 then [11] else []) (fun i => if i = 12 then [OE.bx b_18 [pB b_26 0, pB b_30 0, pB b_34 0]] else []) (fun i => if i = 5 then [12] else []) (fun i => if i = 12 then [11] else []) (fun i => if i = 5 then (fun h v x y => v = .agg #[pB b_26 0, pB b_30 0, pB b_34 0] ∧ x = [] ∧ y = []) else if i = 8 then (fun h v x y => v = v64 x_41 ∧ x = [] ∧ y = []) else if i = 11 then (fun h v x y => ∃ b0_43_0 : Nat, ∃ b0_43_1 : Nat, ∃ b0_43_2 : Nat, ∃ u0_43_0_1 : Value, ∃ u0_43_1_1 : Value, ∃ u0_43_2_1 : Value, v = .agg #[pB b0_43_0 0, pB b0_43_1 0, pB b0_43_2 0] ∧ x = [] ∧ y = [red e32 u0_43_0_1 x_42.2.1, OE.bx b0_43_0 [vB x_42.1, u0_43_0_1], red e32 u0_43_1_1 x_42.2.2.2.1, OE.bx b0_43_1 [vB x_42.2.2.1, u0_43_1_1], red e32 u0_43_2_1 x_42.2.2.2.2.2, OE.bx b0_43_2 [vB x_42.2.2.2.2.1, u0_43_2_1]]) else (fun h v x y => ∃ b0_43_0 : Nat, ∃ b0_43_1 : Nat, ∃ b0_43_2 : Nat, ∃ u0_43_0_1 : Value, ∃ u0_43_1_1 : Value, ∃ u0_43_2_1 : Value, h = [(.agg #[pB b0_43_0 0, pB b0_43_1 0, pB b0_43_2 0], [], [red e32 u0_43_0_1 x_42.2.1, OE.bx b0_43_0 [vB x_42.1, u0_43_0_1], red e32 u0_43_1_1 x_42.2.2.2.1, OE.bx b0_43_1 [vB x_42.2.2.1, u0_43_1_1], red e32 u0_43_2_1 x_42.2.2.2.2.2, OE.bx b0_43_2 [vB x_42.2.2.2.2.1, u0_43_2_1]])] ∧ v = undef ∧ x = [OE.bx b_18 [pB b0_43_0 0, pB b0_43_1 0, pB b0_43_2 0]] ∧ y = [red e32 u0_43_0_1 x_42.2.1, OE.bx b0_43_0 [vB x_42.1, u0_43_0_1], red e32 u0_43_1_1 x_42.2.2.2.1, OE.bx b0_43_1 [vB x_42.2.2.1, u0_43_1_1], red e32 u0_43_2_1 x_42.2.2.2.2.2, OE.bx b0_43_2 [vB x_42.2.2.2.2.1, u0_43_2_1]])) (SfT.mk' hZ hA hP (hS.pick (os' := [OE.bx b_18 [pB b_26 0, pB b_30 0, pB b_34 0], OE.bx b_1 [pB ba2_0 0, pB ba2_1 0, pB ba2_2 0], OE.bx b_3 [.pointer none, .pointer none, .pointer none]]) [2, 0, 1] (by decide) rfl)) (fun k hk => (if_neg (fun q => by subst q; exact absurd hk (by decide)))) hTT rfl (fun i => (ite_ns (by rintro h v x y ⟨rfl, rfl, rfl⟩; exact ns_all rfl) (ite_ns (by rintro h v x y ⟨rfl, rfl, rfl⟩; exact ns_all rfl) (ite_ns (by rintro h v x y ⟨_, _, _, _, _, _, rfl, rfl, rfl⟩; exact ns_all rfl) (by rintro h v x y ⟨_, _, _, _, _, _, _, rfl, rfl, rfl⟩; exact ns_all rfl))))) hmix (by kernel_rfl) (by kernel_rfl) ?_
  show lxME _ _ _ _ _ _ _ _ _ _ _ _ _ _ _ _ [0, 1, 2, 3, 4, 5, 6, 7, 8, 9, 10, 11, 12] _ _
  refine lxME_v rfl rfl (fun w Sb wb hZ hA hP hF => km rfl) rfl (lxME_v rfl rfl (fun w Sb wb hZ hA hP hF => kJ rfl) rfl (lxME_v rfl rfl (fun w Sb wb hZ hA hP hF => kl (k := 6) Tryz.underlying59 rfl rfl nz57 rfl) rfl (lxME_v rfl rfl (fun w Sb wb hZ hA hP hF => ku Tryz.underlying57 rfl rfl ((hA.rb 10 rfl).cell hF.fr 6 rfl)) rfl (lxME_v rfl rfl (fun w Sb wb hZ hA hP hF => km rfl) rfl ?_))))
  refine lxME_new (fun h v x y => v = .agg #[pB b_26 0, pB b_30 0, pB b_34 0] ∧ x = [] ∧ y = []) [] [] [] [OE.bx b_18 [pB b_26 0, pB b_30 0, pB b_34 0], OE.bx b_1 [pB ba2_0 0, pB ba2_1 0, pB ba2_2 0], OE.bx b_3 [.pointer none, .pointer none, .pointer none]] rfl rfl (fun h v x y => rfl) rfl rfl rfl rfl ⟨_, _, _, rfl, rfl, rfl⟩ (fun w Sl Tl hZ hTT hA hP hS => ?_) rfl ?_
  ·exact opx_v (kH (us := [pB b_26 0, pB b_30 0, pB b_34 0]) Tryz.underlying66 rfl sz66 rfl (hS.bxs 0 rfl rfl)) ⟨_, _, ⟨rfl, rfl, rfl⟩, SfT.mk' hZ Rds.nil Off.nil hS⟩
  rintro v_q x_q y_q ⟨rfl, rfl, rfl⟩
  refine lxME_v rfl rfl (fun w Sb wb hZ hA hP hF => km rfl) rfl (lxME_v rfl rfl (fun w Sb wb hZ hA hP hF => km rfl) rfl ?_)
  refine lxME_call (fun h v x y => v = v64 x_41 ∧ x = [] ∧ y = []) [] [] [] _ rfl rfl (fun h v x y => rfl) rfl rfl rfl rfl ⟨_, _, _, rfl, rfl, rfl⟩ (by kernel_rfl) rfl (fun w Sl Tl hZ hTT hA hP hS => ?_) rfl ?_
  ·refine calls_ret (c_bignum_Int_Bit _ a1_0 a1_1 x_25 va1_1 ba1 ((hA.rp 11 rfl).now hS.fr).rp ((hA.rb 12 rfl).now hS.fr) _ hx_41) ?_
   rintro _ w ⟨rfl, hS1⟩
   have hS := hS.call hS1
   exact ⟨_, _, ⟨rfl, rfl, rfl⟩, SfT.mk' hZ Rds.nil Off.nil hS⟩
  rintro v_q x_q y_q ⟨rfl, rfl, rfl⟩
  refine lxME_v rfl rfl (fun w Sb wb hZ hA hP hF => kt rfl rfl (b_eql64 _ x_41 1)) rfl (lxME_v rfl rfl (fun w Sb wb hZ hA hP hF => kH (us := [pB ba2_0 0, pB ba2_1 0, pB ba2_2 0]) Tryz.underlying66 rfl sz66 rfl (hF.bxs 0 rfl rfl)) rfl ?_)
  refine lxME_callV (fun h v x y => ∃ b0_43_0 : Nat, ∃ b0_43_1 : Nat, ∃ b0_43_2 : Nat, ∃ u0_43_0_1 : Value, ∃ u0_43_1_1 : Value, ∃ u0_43_2_1 : Value, v = .agg #[pB b0_43_0 0, pB b0_43_1 0, pB b0_43_2 0] ∧ x = [] ∧ y = [red e32 u0_43_0_1 x_42.2.1, OE.bx b0_43_0 [vB x_42.1, u0_43_0_1], red e32 u0_43_1_1 x_42.2.2.2.1, OE.bx b0_43_1 [vB x_42.2.2.1, u0_43_1_1], red e32 u0_43_2_1 x_42.2.2.2.2.2, OE.bx b0_43_2 [vB x_42.2.2.2.2.1, u0_43_2_1]]) [] [] [] _ rfl rfl (fun h v x y => rfl) rfl rfl rfl rfl ⟨_, _, _, 0, 0, 0, undef, undef, undef, rfl, rfl, rfl⟩ rfl (by kernel_rfl) rfl (fun w Sl Tl hZ hTT hA hP hS => ?_) rfl ?_
  ·replace hS := hS.pick (os' := [] ++ [OE.bx b_1 [pB ba2_0 0, pB ba2_1 0, pB ba2_2 0], OE.bx b_3 [.pointer none, .pointer none, .pointer none]]) [0, 1] (by decide) rfl
   obtain ⟨hZ, hA, hP, hS⟩ := hZ.frzK hTT hA hP hS
   refine calls_ret (c_curve_step _ a0_0_0 a0_0_1 a0_1_0 a0_1_1 a0_2_0 a0_2_1 a0_3_0 a0_3_1 a0_4_0 a0_4_1 a0_5 x_27 x_28 x_31 x_32 x_35 x_36 (x_41 == 1) a2_0_0 a2_0_1 a2_1_0 a2_1_1 a2_2_0 a2_2_1 va0_0_1 va0_1_1 va0_2_1 va0_3_1 va0_4_1 v_29 v_33 v_37 va2_0_1 va2_1_1 va2_2_1 ba0 ba0_0 ba0_1 ba0_2 ba0_3 ba0_4 b_26 b_30 b_34 ba2_0 ba2_1 ba2_2 _ (hZ.okT hTT hS) (hA.rpT hP 0 rfl) (hA.rbT hP 1 rfl) (hA.rpT hP 2 rfl) (hA.rbT hP 3 rfl) (hA.rpT hP 4 rfl) (hA.rbT hP 5 rfl) (hA.rpT hP 6 rfl) (hA.rbT hP 7 rfl) (hA.rpT hP 8 rfl) (hA.rbT hP 9 rfl) (hA.rbT hP 10 rfl) (hA.rpT hP 19 rfl) (hA.rbT hP 20 rfl) (hA.rpT hP 21 rfl) (hA.rbT hP 22 rfl) (hA.rpT hP 23 rfl) (hA.rbT hP 24 rfl) (hA.rpT hP 13 rfl) (hA.rbT hP 14 rfl) (hA.rpT hP 15 rfl) (hA.rbT hP 16 rfl) (hA.rpT hP 17 rfl) (hA.rbT hP 18 rfl) _ hx_42) ?_
   rintro _ w ⟨b0_43_0, u0_43_0_1, b0_43_1, u0_43_1_1, b0_43_2, u0_43_2_1, rfl, hS1, hR1⟩
   obtain ⟨S_46, wb_47, hZ, hA, hP, hS⟩ := hZ.callK hA hP hS hS1 hR1 rfl
   exact ⟨_, _, ⟨b0_43_0, b0_43_1, b0_43_2, u0_43_0_1, u0_43_1_1, u0_43_2_1, rfl, rfl, rfl⟩, SfT.mk' hZ (Rds.cons (hA.nth 25 rfl) (Rds.cons (hA.nth 26 rfl) (Rds.cons (hA.nth 27 rfl) (Rds.cons (hA.nth 28 rfl) (Rds.cons (hA.nth 29 rfl) (Rds.cons (hA.nth 30 rfl) Rds.nil)))))) (Off.cons (hP.nth 25 rfl) (Off.cons (hP.nth 26 rfl) (Off.cons (hP.nth 27 rfl) (Off.cons (hP.nth 28 rfl) (Off.cons (hP.nth 29 rfl) (Off.cons (hP.nth 30 rfl) Off.nil)))))) hS⟩
  rintro v_q x_q y_q ⟨b0_43_0, b0_43_1, b0_43_2, u0_43_0_1, u0_43_1_1, u0_43_2_1, rfl, rfl, rfl⟩
  refine lxME_y (fun h v x y => ∃ b0_43_0 : Nat, ∃ b0_43_1 : Nat, ∃ b0_43_2 : Nat, ∃ u0_43_0_1 : Value, ∃ u0_43_1_1 : Value, ∃ u0_43_2_1 : Value, h = [(.agg #[pB b0_43_0 0, pB b0_43_1 0, pB b0_43_2 0], [], [red e32 u0_43_0_1 x_42.2.1, OE.bx b0_43_0 [vB x_42.1, u0_43_0_1], red e32 u0_43_1_1 x_42.2.2.2.1, OE.bx b0_43_1 [vB x_42.2.2.1, u0_43_1_1], red e32 u0_43_2_1 x_42.2.2.2.2.2, OE.bx b0_43_2 [vB x_42.2.2.2.2.1, u0_43_2_1]])] ∧ v = undef ∧ x = [OE.bx b_18 [pB b0_43_0 0, pB b0_43_1 0, pB b0_43_2 0]] ∧ y = [red e32 u0_43_0_1 x_42.2.1, OE.bx b0_43_0 [vB x_42.1, u0_43_0_1], red e32 u0_43_1_1 x_42.2.2.2.1, OE.bx b0_43_1 [vB x_42.2.2.1, u0_43_1_1], red e32 u0_43_2_1 x_42.2.2.2.2.2, OE.bx b0_43_2 [vB x_42.2.2.2.2.1, u0_43_2_1]]) [(.agg #[pB b0_43_0 0, pB b0_43_1 0, pB b0_43_2 0], [], [red e32 u0_43_0_1 x_42.2.1, OE.bx b0_43_0 [vB x_42.1, u0_43_0_1], red e32 u0_43_1_1 x_42.2.2.2.1, OE.bx b0_43_1 [vB x_42.2.2.1, u0_43_1_1], red e32 u0_43_2_1 x_42.2.2.2.2.2, OE.bx b0_43_2 [vB x_42.2.2.2.2.1, u0_43_2_1]])] [OE.bx b_18 [pB b_26 0, pB b_30 0, pB b_34 0]] [red e32 u0_43_0_1 x_42.2.1, OE.bx b0_43_0 [vB x_42.1, u0_43_0_1], red e32 u0_43_1_1 x_42.2.2.2.1, OE.bx b0_43_1 [vB x_42.2.2.1, u0_43_1_1], red e32 u0_43_2_1 x_42.2.2.2.2.2, OE.bx b0_43_2 [vB x_42.2.2.2.2.1, u0_43_2_1]] _ rfl rfl (fun h v x y => rfl) rfl rfl rfl rfl ⟨_, _, _, b0_43_0, b0_43_1, b0_43_2, u0_43_0_1, u0_43_1_1, u0_43_2_1, rfl, rfl, rfl, rfl⟩ (fun w Sl Tl hZ hTT hA hP hS => ?_) ?_
  ·refine opy_imp (kM (i := 0) (us := [pB b0_43_0 0, pB b0_43_1 0, pB b0_43_2 0]) rfl sz66 rfl rfl rfl ⟨rfl, rfl, rfl, trivial⟩ rfl hS) ?_
   intro w hS
   exact ⟨_, _, ⟨b0_43_0, b0_43_1, b0_43_2, u0_43_0_1, u0_43_1_1, u0_43_2_1, rfl, rfl, rfl, rfl⟩, SfT.mk' hZ (Rds.cons (hA.nth 30 rfl) (Rds.cons (hA.nth 29 rfl) (Rds.cons (hA.nth 28 rfl) (Rds.cons (hA.nth 27 rfl) (Rds.cons (hA.nth 26 rfl) (Rds.cons (hA.nth 25 rfl) Rds.nil)))))) (Off.cons (hP.nth 30 rfl) (Off.cons (hP.nth 29 rfl) (Off.cons (hP.nth 28 rfl) (Off.cons (hP.nth 27 rfl) (Off.cons (hP.nth 26 rfl) (Off.cons (hP.nth 25 rfl) Off.nil)))))) hS⟩
  rintro v_q x_q y_q ⟨b0_43_0', b0_43_1', b0_43_2', u0_43_0_1', u0_43_1_1', u0_43_2_1', hh, rfl, rfl, rfl⟩
  replace hh : ([(.agg #[pB b0_43_0 0, pB b0_43_1 0, pB b0_43_2 0], [], [red e32 u0_43_0_1 x_42.2.1, OE.bx b0_43_0 [vB x_42.1, u0_43_0_1], red e32 u0_43_1_1 x_42.2.2.2.1, OE.bx b0_43_1 [vB x_42.2.2.1, u0_43_1_1], red e32 u0_43_2_1 x_42.2.2.2.2.2, OE.bx b0_43_2 [vB x_42.2.2.2.2.1, u0_43_2_1]])] : List Th) = [(.agg #[pB b0_43_0' 0, pB b0_43_1' 0, pB b0_43_2' 0], [], [red e32 u0_43_0_1' x_42.2.1, OE.bx b0_43_0' [vB x_42.1, u0_43_0_1'], red e32 u0_43_1_1' x_42.2.2.2.1, OE.bx b0_43_1' [vB x_42.2.2.1, u0_43_1_1'], red e32 u0_43_2_1' x_42.2.2.2.2.2, OE.bx b0_43_2' [vB x_42.2.2.2.2.1, u0_43_2_1']])] := hh
  cases hh
  refine lxME_nil fun w hQ => ?_
  obtain ⟨S_48, wb_49, hZ, hA, hP, hS⟩ := hQ
  refine kK ?_
  refine ka (kc (kb 3 rfl ?_))
  refine kf ?_
  exact QE_rnd (wpN_le _ (by exact ⟨rfl, rfl, rfl, rfl, rfl, rfl, trivial⟩) (ih_39 (wI (x_25 - 1), x_42.1, x_42.2.1, x_42.2.2.1, x_42.2.2.2.1, x_42.2.2.2.2.1, x_42.2.2.2.2.2) _ _ ⟨b0_43_0, u0_43_0_1, b0_43_1, u0_43_1_1, b0_43_2, u0_43_2_1, rfl, (SfT.mk' hZ (Rds.cons (hA.nth 25 rfl) (Rds.cons (hA.nth 26 rfl) (Rds.cons (hA.nth 27 rfl) (Rds.cons (hA.nth 28 rfl) (Rds.cons (hA.nth 29 rfl) (Rds.cons (hA.nth 30 rfl) (Rds.cons (hA.nth 18 rfl) (Rds.cons (hA.nth 17 rfl) (Rds.cons (hA.nth 16 rfl) (Rds.cons (hA.nth 15 rfl) (Rds.cons (hA.nth 14 rfl) (Rds.cons (hA.nth 13 rfl) (Rds.cons (hA.nth 12 rfl) (Rds.cons (hA.nth 11 rfl) (Rds.cons (hA.nth 10 rfl) (Rds.cons (hA.nth 9 rfl) (Rds.cons (hA.nth 8 rfl) (Rds.cons (hA.nth 7 rfl) (Rds.cons (hA.nth 6 rfl) (Rds.cons (hA.nth 5 rfl) (Rds.cons (hA.nth 4 rfl) (Rds.cons (hA.nth 3 rfl) (Rds.cons (hA.nth 2 rfl) (Rds.cons (hA.nth 1 rfl) (Rds.cons (hA.nth 0 rfl) Rds.nil))))))))))))))))))))))))) (Off.cons (hP.nth 25 rfl) (Off.cons (hP.nth 26 rfl) (Off.cons (hP.nth 27 rfl) (Off.cons (hP.nth 28 rfl) (Off.cons (hP.nth 29 rfl) (Off.cons (hP.nth 30 rfl) (Off.cons (hP.nth 18 rfl) (Off.cons (hP.nth 17 rfl) (Off.cons (hP.nth 16 rfl) (Off.cons (hP.nth 15 rfl) (Off.cons (hP.nth 14 rfl) (Off.cons (hP.nth 13 rfl) (Off.cons (hP.nth 12 rfl) (Off.cons (hP.nth 11 rfl) (Off.cons (hP.nth 10 rfl) (Off.cons (hP.nth 9 rfl) (Off.cons (hP.nth 8 rfl) (Off.cons (hP.nth 7 rfl) (Off.cons (hP.nth 6 rfl) (Off.cons (hP.nth 5 rfl) (Off.cons (hP.nth 4 rfl) (Off.cons (hP.nth 3 rfl) (Off.cons (hP.nth 2 rfl) (Off.cons (hP.nth 1 rfl) (Off.cons (hP.nth 0 rfl) Off.nil))))))))))))))))))))))))) (hS.pick [1, 2, 0] (by decide) rfl))⟩ (kL h hk_38)))
 have h := if_f h hb_50
 refine kQ ?_
 refine kx (kx ?_)
 have h := kG h hk_38
 refine kR ?_
 refine ka (ke (kc (ki (kH (us := [pB b_26 0, pB b_30 0, pB b_34 0]) Tryz.underlying66 rfl sz66 rfl (hS.bxs 2 rfl rfl)) rfl (kX (kM (i := 1) (us := [pB b_26 0, pB b_30 0, pB b_34 0]) rfl sz66 rfl rfl rfl ⟨rfl, rfl, rfl, trivial⟩ rfl hS) ?_))))
 intro w hS
 refine kf (ka (kq ?_))
 cases h
 obtain ⟨hS0, hR⟩ := hZ.outT hTT hA hP hS
 exact QE_rv1 rfl ⟨_, rfl, run_ldAgg (us := [pB b_26 0, pB b_30 0, pB b_34 0]) Tryz.underlying66 rfl sz66 (hS.bxs 1 rfl rfl)⟩ ⟨b_26, v_29, b_30, v_33, b_34, v_37, rfl, hS0, (Rds.cons (hR.nth 24 rfl) (Rds.cons (hR.nth 23 rfl) (Rds.cons (hR.nth 22 rfl) (Rds.cons (hR.nth 21 rfl) (Rds.cons (hR.nth 20 rfl) (Rds.cons (hR.nth 19 rfl) Rds.nil))))))⟩
theorem c_curve_Mul (w0 : World) (a0 : Int) (a1 : List UInt32) (a2_0 : List UInt32) (a2_1 : List UInt32) (a2_2 : Bool) (va1 : Value) (va2_0 : Value) (va2_1 : Value) (ha1 : RP [] w0 e32 va1 a1) (ha2_0 : RP [] w0 e32 va2_0 a2_0) (ha2_1 : RP [] w0 e32 va2_1 a2_1) (r : List UInt32 × List UInt32 × Bool × Int)
  (h : F.curve_Mul a0 a1 a2_0 a2_1 a2_2 = some r) : Calls Tryz.prog 60 #[vI a0, va1, .agg #[va2_0, va2_1, vB a2_2]] w0 (Ret fun v w => ∃ u0_0 u0_1 : Value, v = .tuple #[.agg #[u0_0, u0_1, vB r.2.2.1], vI r.2.2.2] ∧ St [] w0 w [own e32 u0_0 r.1, own e32 u0_1 r.2.1]) := by
 refine kz 43 Tryz.func60 rfl rfl rfl ?_
 have hS := St.start w0
 have hZ := Fz.start (S := []) (w0 := w0)
 have hTT : TOk [] [] w0 := TOk.nil
 have hA : Rds [] w0 [red e32 va2_1 a2_1, red e32 va2_0 a2_0, red e32 va1 a1] := Rds.cons (RP.kept (Nat.le_of_ble_eq_true rfl) ha2_1) (Rds.cons (RP.kept (Nat.le_of_ble_eq_true rfl) ha2_0) (Rds.cons (RP.kept (Nat.le_of_ble_eq_true rfl) ha1) (Rds.nil)))
 have hP : Off [] [red e32 va2_1 a2_1, red e32 va2_0 a2_0, red e32 va1 a1] := Off.emp
 refine kn [(0, vI a0), (1, va1), (2, .agg #[va2_0, va2_1, vB a2_2])] ⟨rfl, rfl, rfl, trivial⟩ ?_
 unfold F.curve_Mul at h
 refine ke (kc (kW (OpX_box (cs := [va2_0, va2_1, vB a2_2]) rfl rfl hS) rfl ?_))
 rintro _ w ⟨b_1, rfl, hS⟩
 refine kW (kE (cs := [.slice none 0 0, .slice none 0 0, vB false]) tz27 rfl hS) rfl ?_
 rintro _ w ⟨b_3, rfl, hS⟩
 refine kb 1 rfl ?_
 refine kf (ka (ke (kc (kb 1 rfl ?_))))
 refine ki (kH (us := [va2_0, va2_1, vB a2_2]) Tryz.underlying27 rfl sz27 rfl (hS.bxs 1 rfl rfl)) rfl ?_
 replace hS := hS.pick (os' := [] ++ [OE.bx b_3 [.slice none 0 0, .slice none 0 0, vB false], OE.bx b_1 [va2_0, va2_1, vB a2_2]]) [0, 1] (by decide) rfl
 obtain ⟨hZ, hA, hP, hS⟩ := hZ.frzK hTT hA hP hS
 obtain ⟨x_5, hx_5, h⟩ := kg h
 refine kk (by kernel_rfl) rfl (c_curve_take _ a0 a2_0 a2_1 a2_2 va2_0 va2_1  _ (hZ.okT hTT hS) (hA.rpT hP 1 rfl) (hA.rpT hP 2 rfl) _ hx_5) rfl ?_
 rintro v_q w hQ
 cases hc_7 : x_5.1 with
 | none =>
  have h := ocase_n h hc_7
  rw [hc_7] at hQ
  obtain ⟨rfl, hS1⟩ := ocaseP_n' hQ
  obtain ⟨S_9, wb_10, hZ, hA, hP, hS⟩ := hZ.callK hA hP hS hS1 Rds.nil rfl
  refine kb 4 rfl ?_
  refine kW (kE (cs := [.pointer none, .pointer none, .pointer none]) tz66 rfl hS) rfl ?_
  rintro _ w ⟨b_13, rfl, hS⟩
  refine kb 1 rfl ?_
  refine kX (kM (i := 0) (us := [.pointer none, .pointer none, .pointer none]) rfl sz66 rfl rfl rfl ⟨rfl, rfl, rfl, trivial⟩ rfl hS) ?_
  intro w hS
  refine kb 1 rfl ?_
  refine kf (ka (ke (ke (kc (kb 2 rfl ?_)))))
  refine kf (ka ?_)
  refine ko rfl (fun hb_21 => ?_) (fun hb_21 => ?_)
  ·have h := if_t h hb_21
   refine ke (kc (ki (OpV_build (vs := []) (cells := [.slice none 0 0, .slice none 0 0, vB false]) rfl lay27 trivial rfl) rfl (kX (kM (i := 1) (us := [.slice none 0 0, .slice none 0 0, vB false]) rfl sz27 rfl rfl rfl ⟨rfl, rfl, rfl, trivial⟩ rfl hS) ?_)))
   intro w hS
   refine kb 1 rfl ?_
   refine kf (ka (kq (kv ?_)))
   cases h
   replace hS := hZ.st hS
   exact QE_rv2 rfl ⟨_, rfl, run_ldAgg (us := [.slice none 0 0, .slice none 0 0, vB false]) Tryz.underlying27 rfl sz27 (hS.bxs 1 rfl rfl)⟩ rfl ⟨.slice none 0 0, .slice none 0 0, rfl, ((hS.nil e32).nil e32).pick [1, 0] (by decide) rfl⟩
  have h := if_f h hb_21
  refine kr (ka (ke (kc (kb 1 rfl ?_))))
  obtain ⟨x_15, hx_15, h⟩ := kg h
  refine kk (by kernel_rfl) rfl (c_curve_scalar _ a1 va1  ((hA.rp 0 rfl).now hS.fr).rp _ hx_15) rfl ?_
  rintro _ w ⟨v_16, b_18, rfl, hS1⟩
  have hS := hS.call hS1
  refine kb 5 rfl ?_
  refine kf (ka (ke (ke (kc (kb 2 rfl ?_)))))
  refine kf (ka ?_)
  refine ko rfl (fun hb_20 => ?_) (fun hb_20 => ?_)
  ·have h := if_t h hb_20
   refine ke (kc (ki (OpV_build (vs := []) (cells := [.slice none 0 0, .slice none 0 0, vB false]) rfl lay27 trivial rfl) rfl (kX (kM (i := 3) (us := [.slice none 0 0, .slice none 0 0, vB false]) rfl sz27 rfl rfl rfl ⟨rfl, rfl, rfl, trivial⟩ rfl hS) ?_)))
   intro w hS
   refine kb 1 rfl ?_
   refine kf (ka (kq (kv ?_)))
   cases h
   replace hS := hZ.st hS
   exact QE_rv2 rfl ⟨_, rfl, run_ldAgg (us := [.slice none 0 0, .slice none 0 0, vB false]) Tryz.underlying27 rfl sz27 (hS.bxs 3 rfl rfl)⟩ rfl ⟨.slice none 0 0, .slice none 0 0, rfl, ((hS.nil e32).nil e32).pick [1, 0] (by decide) rfl⟩
  have h := if_f h hb_20
  refine kr (ka (ke ?_))
  cases h
 | some x_8 =>
  have h := ocase_s h hc_7
  rw [hc_7] at hQ
  obtain ⟨b0_6, b0_6_0, u0_6_0_1, b0_6_1, u0_6_1_1, b0_6_2, u0_6_2_1, b0_6_3, u0_6_3_1, b0_6_4, u0_6_4_1, b1_6_0, u1_6_0_1, b1_6_1, u1_6_1_1, b1_6_2, u1_6_2_1, rfl, hS1, hR1⟩ := ocaseP_s' hQ
  obtain ⟨S_11, wb_12, hZ, hA, hP, hS⟩ := hZ.callK hA hP hS hS1 hR1 rfl
  refine kb 4 rfl ?_
  refine kW (kE (cs := [.pointer none, .pointer none, .pointer none]) tz66 rfl hS) rfl ?_
  rintro _ w ⟨b_22, rfl, hS⟩
  refine kb 1 rfl ?_
  refine kX (kM (i := 0) (us := [pB b1_6_0 0, pB b1_6_1 0, pB b1_6_2 0]) rfl sz66 rfl rfl rfl ⟨rfl, rfl, rfl, trivial⟩ rfl hS) ?_
  intro w hS
  refine kb 1 rfl ?_
  refine kf (ka (ke (ke (kc (kb 2 rfl ?_)))))
  refine kf (ka ?_)
  refine ko rfl (fun hb_46 => ?_) (fun hb_46 => ?_)
  ·have h := if_t h hb_46
   refine ke (kc (ki (OpV_build (vs := []) (cells := [.slice none 0 0, .slice none 0 0, vB false]) rfl lay27 trivial rfl) rfl (kX (kM (i := 1) (us := [.slice none 0 0, .slice none 0 0, vB false]) rfl sz27 rfl rfl rfl ⟨rfl, rfl, rfl, trivial⟩ rfl hS) ?_)))
   intro w hS
   refine kb 1 rfl ?_
   refine kf (ka (kq (kv ?_)))
   cases h
   replace hS := hZ.st hS
   exact QE_rv2 rfl ⟨_, rfl, run_ldAgg (us := [.slice none 0 0, .slice none 0 0, vB false]) Tryz.underlying27 rfl sz27 (hS.bxs 1 rfl rfl)⟩ rfl ⟨.slice none 0 0, .slice none 0 0, rfl, ((hS.nil e32).nil e32).pick [1, 0] (by decide) rfl⟩
  have h := if_f h hb_46
  refine kr (ka (ke (kc (kb 1 rfl ?_))))
  obtain ⟨x_24, hx_24, h⟩ := kg h
  refine kk (by kernel_rfl) rfl (c_curve_scalar _ a1 va1  ((hA.rp 0 rfl).now hS.fr).rp _ hx_24) rfl ?_
  rintro _ w ⟨v_25, b_27, rfl, hS1⟩
  have hS := hS.call hS1
  refine kb 5 rfl ?_
  refine kf (ka (ke (ke (kc (kb 2 rfl ?_)))))
  refine kf (ka ?_)
  refine ko rfl (fun hb_45 => ?_) (fun hb_45 => ?_)
  ·have h := if_t h hb_45
   refine ke (kc (ki (OpV_build (vs := []) (cells := [.slice none 0 0, .slice none 0 0, vB false]) rfl lay27 trivial rfl) rfl (kX (kM (i := 3) (us := [.slice none 0 0, .slice none 0 0, vB false]) rfl sz27 rfl rfl rfl ⟨rfl, rfl, rfl, trivial⟩ rfl hS) ?_)))
   intro w hS
   refine kb 1 rfl ?_
   refine kf (ka (kq (kv ?_)))
   cases h
   replace hS := hZ.st hS
   exact QE_rv2 rfl ⟨_, rfl, run_ldAgg (us := [.slice none 0 0, .slice none 0 0, vB false]) Tryz.underlying27 rfl sz27 (hS.bxs 3 rfl rfl)⟩ rfl ⟨.slice none 0 0, .slice none 0 0, rfl, ((hS.nil e32).nil e32).pick [1, 0] (by decide) rfl⟩
  have h := if_f h hb_45
  refine kr (ka (ke ?_))
  obtain ⟨x_29, hx_29, h⟩ := kg h
  obtain ⟨x_32, hx_32, h⟩ := kg h
  obtain ⟨x_38, hx_38, h⟩ := kg h
  refine wpC_regionM (es := [OE.bx b1_6_2 [vB x_8.2.2.2.2.2.2.2.2.2.2.2.2.2.2.2.1, u1_6_2_1], red e32 u1_6_2_1 x_8.2.2.2.2.2.2.2.2.2.2.2.2.2.2.2.2, OE.bx b1_6_1 [vB x_8.2.2.2.2.2.2.2.2.2.2.2.2.2.1, u1_6_1_1], red e32 u1_6_1_1 x_8.2.2.2.2.2.2.2.2.2.2.2.2.2.2.1, OE.bx b1_6_0 [vB x_8.2.2.2.2.2.2.2.2.2.2.2.1, u1_6_0_1], red e32 u1_6_0_1 x_8.2.2.2.2.2.2.2.2.2.2.2.2.1, OE.bx b0_6 [pB b0_6_0 0, pB b0_6_1 0, pB b0_6_2 0, pB b0_6_3 0, pB b0_6_4 0, vI x_8.2.2.2.2.2.2.2.2.2.2.1, .func (.func 101) #[] #[]], OE.bx b0_6_4 [vB x_8.2.2.2.2.2.2.2.2.1, u0_6_4_1], red e32 u0_6_4_1 x_8.2.2.2.2.2.2.2.2.2.1, OE.bx b0_6_3 [vB x_8.2.2.2.2.2.2.1, u0_6_3_1], red e32 u0_6_3_1 x_8.2.2.2.2.2.2.2.1, OE.bx b0_6_2 [vB x_8.2.2.2.2.1, u0_6_2_1], red e32 u0_6_2_1 x_8.2.2.2.2.2.1, OE.bx b0_6_1 [vB x_8.2.2.1, u0_6_1_1], red e32 u0_6_1_1 x_8.2.2.2.1, OE.bx b0_6_0 [vB x_8.1, u0_6_0_1], red e32 u0_6_0_1 x_8.2.1, red e32 va2_1 a2_1, red e32 va2_0 a2_0, red e32 va1 a1]) (os := [OE.bx b_22 [pB b1_6_0 0, pB b1_6_1 0, pB b1_6_2 0], OE.bx b_1 [va2_0, va2_1, vB a2_2]]) (fun i => [8, 10, 11, 12].contains i) (fun i => if i = 8 then some 10 else if i = 11 then some 12 else none) (fun i => if i = 11 then [10] else []) (fun i => if i = 8 then [OE.bx b_27 [vB x_24.1, v_25], own e32 v_25 x_24.2.1] else if i = 12 then [OE.bx b_3 [.slice none 0 0, .slice none 0 0, vB false]] else []) (fun i => []) (fun i => if i = 12 then [11] else []) (fun i => if i = 8 then (fun h v x y => ∃ v_30 : Value, v = pB b_27 0 ∧ x = [OE.bx b_27 [vB x_29.1, v_30], own e32 v_30 x_29.2] ∧ y = []) else if i = 10 then (fun h v x y => ∃ b0_33_0 : Nat, ∃ b0_33_1 : Nat, ∃ b0_33_2 : Nat, ∃ u0_33_0_1 : Value, ∃ u0_33_1_1 : Value, ∃ u0_33_2_1 : Value, v = .agg #[pB b0_33_0 0, pB b0_33_1 0, pB b0_33_2 0] ∧ x = [] ∧ y = [red e32 u0_33_0_1 x_32.2.1, OE.bx b0_33_0 [vB x_32.1, u0_33_0_1], red e32 u0_33_1_1 x_32.2.2.2.1, OE.bx b0_33_1 [vB x_32.2.2.1, u0_33_1_1], red e32 u0_33_2_1 x_32.2.2.2.2.2, OE.bx b0_33_2 [vB x_32.2.2.2.2.1, u0_33_2_1]]) else if i = 11 then (fun h v x y => ∃ v_39 : Value, ∃ v_41 : Value, v = .agg #[v_39, v_41, vB x_38.2.2] ∧ x = [own e32 v_39 x_38.1, own e32 v_41 x_38.2.1] ∧ y = []) else (fun h v x y => ∃ v_39 : Value, ∃ v_41 : Value, h = [(.agg #[v_39, v_41, vB x_38.2.2], [own e32 v_39 x_38.1, own e32 v_41 x_38.2.1], [])] ∧ v = undef ∧ x = [own e32 v_39 x_38.1, own e32 v_41 x_38.2.1, OE.bx b_3 [v_39, v_41, vB x_38.2.2]] ∧ y = [])) (SfT.mk' hZ hA hP (hS.pick (os' := [OE.bx b_27 [vB x_24.1, v_25], own e32 v_25 x_24.2.1, OE.bx b_3 [.slice none 0 0, .slice none 0 0, vB false], OE.bx b_22 [pB b1_6_0 0, pB b1_6_1 0, pB b1_6_2 0], OE.bx b_1 [va2_0, va2_1, vB a2_2]]) [0, 1, 3, 2, 4] (by decide) rfl)) (fun k hk => (if_neg (fun q => by subst q; exact absurd hk (by decide))).trans (if_neg (fun q => by subst q; exact absurd hk (by decide)))) hTT rfl (fun i => (ite_ns (by rintro h v x y ⟨_, rfl, rfl, rfl⟩; exact ns_all rfl) (ite_ns (by rintro h v x y ⟨_, _, _, _, _, _, rfl, rfl, rfl⟩; exact ns_all rfl) (ite_ns (by rintro h v x y ⟨_, _, rfl, rfl, rfl⟩; exact ns_all rfl) (by rintro h v x y ⟨_, _, _, rfl, rfl, rfl⟩; exact ns_all rfl))))) hmix (by kernel_rfl) (by kernel_rfl) ?_
  show lxME _ _ _ _ _ _ _ _ _ _ _ _ _ _ _ _ [0, 1, 2, 3, 4, 5, 6, 7, 8, 9, 10, 11, 12, 13] _ _
  refine lxME_v rfl rfl (fun w Sb wb hZ hA hP hF => km rfl) rfl (lxME_v rfl rfl (fun w Sb wb hZ hA hP hF => km rfl) rfl (lxME_v rfl rfl (fun w Sb wb hZ hA hP hF => km rfl) rfl (lxME_v rfl rfl (fun w Sb wb hZ hA hP hF => km rfl) rfl (lxME_v rfl rfl (fun w Sb wb hZ hA hP hF => km rfl) rfl (lxME_v rfl rfl (fun w Sb wb hZ hA hP hF => kJ rfl) rfl (lxME_v rfl rfl (fun w Sb wb hZ hA hP hF => kl (k := 2) Tryz.underlying59 rfl rfl nz56 rfl) rfl (lxME_v rfl rfl (fun w Sb wb hZ hA hP hF => ku Tryz.underlying56 rfl rfl ((hA.rb 13 rfl).cell hF.fr 2 rfl)) rfl ?_)))))))
  refine lxME_call (fun h v x y => ∃ v_30 : Value, v = pB b_27 0 ∧ x = [OE.bx b_27 [vB x_29.1, v_30], own e32 v_30 x_29.2] ∧ y = []) [] [OE.bx b_27 [vB x_24.1, v_25], own e32 v_25 x_24.2.1] [] _ rfl rfl (fun h v x y => rfl) rfl rfl rfl rfl ⟨_, _, _, undef, rfl, rfl, rfl⟩ (by kernel_rfl) rfl (fun w Sl Tl hZ hTT hA hP hS => ?_) rfl ?_
  ·have hG := hS.pick (os' := [OE.bx b_27 [vB x_24.1, v_25], own e32 v_25 x_24.2.1] ++ [OE.bx b_22 [pB b1_6_0 0, pB b1_6_1 0, pB b1_6_2 0], OE.bx b_1 [va2_0, va2_1, vB a2_2]]) [0, 1, 2, 3] (by decide) rfl
   refine calls_ret (c_bignum_Int_Mod_a10 _ x_24.1 x_24.2.1 x_8.2.2.2.2.1 x_8.2.2.2.2.2.1 v_25 u0_6_2_1 b_27 b0_6_2 _ hG.give ((hA.rp 7 rfl).give (Nat.le_of_ble_eq_true rfl) hG) ((hA.rb 8 rfl).give hG) _ hx_29) ?_
   rintro _ w ⟨v_30, rfl, hS1⟩
   have hS := hG.back hS1
   exact ⟨_, _, ⟨v_30, rfl, rfl, rfl⟩, SfT.mk' hZ Rds.nil Off.nil hS⟩
  rintro v_q x_q y_q ⟨v_30, rfl, rfl, rfl⟩
  refine lxME_v rfl rfl (fun w Sb wb hZ hA hP hF => kH (us := [pB b1_6_0 0, pB b1_6_1 0, pB b1_6_2 0]) Tryz.underlying66 rfl sz66 rfl (hF.bxs 0 rfl rfl)) rfl ?_
  refine lxME_call (fun h v x y => ∃ b0_33_0 : Nat, ∃ b0_33_1 : Nat, ∃ b0_33_2 : Nat, ∃ u0_33_0_1 : Value, ∃ u0_33_1_1 : Value, ∃ u0_33_2_1 : Value, v = .agg #[pB b0_33_0 0, pB b0_33_1 0, pB b0_33_2 0] ∧ x = [] ∧ y = [red e32 u0_33_0_1 x_32.2.1, OE.bx b0_33_0 [vB x_32.1, u0_33_0_1], red e32 u0_33_1_1 x_32.2.2.2.1, OE.bx b0_33_1 [vB x_32.2.2.1, u0_33_1_1], red e32 u0_33_2_1 x_32.2.2.2.2.2, OE.bx b0_33_2 [vB x_32.2.2.2.2.1, u0_33_2_1]]) [] [OE.bx b_27 [vB x_29.1, v_30], own e32 v_30 x_29.2] [] _ rfl rfl (fun h v x y => rfl) rfl rfl rfl rfl ⟨_, _, _, 0, 0, 0, undef, undef, undef, rfl, rfl, rfl⟩ (by kernel_rfl) rfl (fun w Sl Tl hZ hTT hA hP hS => ?_) rfl ?_
  ·replace hS := hS.pick (os' := [OE.bx b_27 [vB x_29.1, v_30], own e32 v_30 x_29.2] ++ [OE.bx b_22 [pB b1_6_0 0, pB b1_6_1 0, pB b1_6_2 0], OE.bx b_1 [va2_0, va2_1, vB a2_2]]) [0, 1, 2, 3] (by decide) rfl
   obtain ⟨hZ, hA, hP, hS⟩ := hZ.frzK hTT hA hP hS
   refine calls_ret (c_curve_group_ladder _ x_8.1 x_8.2.1 x_8.2.2.1 x_8.2.2.2.1 x_8.2.2.2.2.1 x_8.2.2.2.2.2.1 x_8.2.2.2.2.2.2.1 x_8.2.2.2.2.2.2.2.1 x_8.2.2.2.2.2.2.2.2.1 x_8.2.2.2.2.2.2.2.2.2.1 x_8.2.2.2.2.2.2.2.2.2.2.1 x_29.1 x_29.2 x_8.2.2.2.2.2.2.2.2.2.2.2.1 x_8.2.2.2.2.2.2.2.2.2.2.2.2.1 x_8.2.2.2.2.2.2.2.2.2.2.2.2.2.1 x_8.2.2.2.2.2.2.2.2.2.2.2.2.2.2.1 x_8.2.2.2.2.2.2.2.2.2.2.2.2.2.2.2.1 x_8.2.2.2.2.2.2.2.2.2.2.2.2.2.2.2.2 u0_6_0_1 u0_6_1_1 u0_6_2_1 u0_6_3_1 u0_6_4_1 v_30 u1_6_0_1 u1_6_1_1 u1_6_2_1 b0_6 b0_6_0 b0_6_1 b0_6_2 b0_6_3 b0_6_4 b_27 b1_6_0 b1_6_1 b1_6_2 _ (hZ.okT hTT hS) (hA.rpT hP 3 rfl) (hA.rbT hP 4 rfl) (hA.rpT hP 5 rfl) (hA.rbT hP 6 rfl) (hA.rpT hP 7 rfl) (hA.rbT hP 8 rfl) (hA.rpT hP 9 rfl) (hA.rbT hP 10 rfl) (hA.rpT hP 11 rfl) (hA.rbT hP 12 rfl) (hA.rbT hP 13 rfl) (hA.rpT hP 20 rfl) (hA.rbT hP 21 rfl) (hA.rpT hP 14 rfl) (hA.rbT hP 15 rfl) (hA.rpT hP 16 rfl) (hA.rbT hP 17 rfl) (hA.rpT hP 18 rfl) (hA.rbT hP 19 rfl) _ hx_32) ?_
   rintro _ w ⟨b0_33_0, u0_33_0_1, b0_33_1, u0_33_1_1, b0_33_2, u0_33_2_1, rfl, hS1, hR1⟩
   obtain ⟨S_36, wb_37, hZ, hA, hP, hS⟩ := hZ.callK hA hP hS hS1 hR1 rfl
   exact ⟨_, _, ⟨b0_33_0, b0_33_1, b0_33_2, u0_33_0_1, u0_33_1_1, u0_33_2_1, rfl, rfl, rfl⟩, SfT.mk' hZ (Rds.cons (hA.nth 22 rfl) (Rds.cons (hA.nth 23 rfl) (Rds.cons (hA.nth 24 rfl) (Rds.cons (hA.nth 25 rfl) (Rds.cons (hA.nth 26 rfl) (Rds.cons (hA.nth 27 rfl) Rds.nil)))))) (Off.cons (hP.nth 22 rfl) (Off.cons (hP.nth 23 rfl) (Off.cons (hP.nth 24 rfl) (Off.cons (hP.nth 25 rfl) (Off.cons (hP.nth 26 rfl) (Off.cons (hP.nth 27 rfl) Off.nil)))))) hS⟩
  rintro v_q x_q y_q ⟨b0_33_0, b0_33_1, b0_33_2, u0_33_0_1, u0_33_1_1, u0_33_2_1, rfl, rfl, rfl⟩
  refine lxME_call (fun h v x y => ∃ v_39 : Value, ∃ v_41 : Value, v = .agg #[v_39, v_41, vB x_38.2.2] ∧ x = [own e32 v_39 x_38.1, own e32 v_41 x_38.2.1] ∧ y = []) [] [] [red e32 u0_33_0_1 x_32.2.1, OE.bx b0_33_0 [vB x_32.1, u0_33_0_1], red e32 u0_33_1_1 x_32.2.2.2.1, OE.bx b0_33_1 [vB x_32.2.2.1, u0_33_1_1], red e32 u0_33_2_1 x_32.2.2.2.2.2, OE.bx b0_33_2 [vB x_32.2.2.2.2.1, u0_33_2_1]] _ rfl rfl (fun h v x y => rfl) rfl rfl rfl rfl ⟨_, _, _, undef, undef, rfl, rfl, rfl⟩ (by kernel_rfl) rfl (fun w Sl Tl hZ hTT hA hP hS => ?_) rfl ?_
  ·refine calls_ret (c_curve_group_show _ x_8.1 x_8.2.1 x_8.2.2.1 x_8.2.2.2.1 x_8.2.2.2.2.1 x_8.2.2.2.2.2.1 x_8.2.2.2.2.2.2.1 x_8.2.2.2.2.2.2.2.1 x_8.2.2.2.2.2.2.2.2.1 x_8.2.2.2.2.2.2.2.2.2.1 x_8.2.2.2.2.2.2.2.2.2.2.1 x_32.1 x_32.2.1 x_32.2.2.1 x_32.2.2.2.1 x_32.2.2.2.2.1 x_32.2.2.2.2.2 u0_6_0_1 u0_6_1_1 u0_6_2_1 u0_6_3_1 u0_6_4_1 u0_33_0_1 u0_33_1_1 u0_33_2_1 b0_6 b0_6_0 b0_6_1 b0_6_2 b0_6_3 b0_6_4 b0_33_0 b0_33_1 b0_33_2 ((hA.rp 3 rfl).now hS.fr).rp ((hA.rb 4 rfl).now hS.fr) ((hA.rp 5 rfl).now hS.fr).rp ((hA.rb 6 rfl).now hS.fr) ((hA.rp 7 rfl).now hS.fr).rp ((hA.rb 8 rfl).now hS.fr) ((hA.rp 9 rfl).now hS.fr).rp ((hA.rb 10 rfl).now hS.fr) ((hA.rp 11 rfl).now hS.fr).rp ((hA.rb 12 rfl).now hS.fr) ((hA.rb 13 rfl).now hS.fr) ((hA.rp 25 rfl).now hS.fr).rp ((hA.rb 24 rfl).now hS.fr) ((hA.rp 23 rfl).now hS.fr).rp ((hA.rb 22 rfl).now hS.fr) ((hA.rp 21 rfl).now hS.fr).rp ((hA.rb 20 rfl).now hS.fr) _ hx_38) ?_
   rintro _ w ⟨v_39, v_41, rfl, hS1⟩
   have hS := hS.call hS1
   exact ⟨_, _, ⟨v_39, v_41, rfl, rfl, rfl⟩, SfT.mk' hZ Rds.nil Off.nil hS⟩
  rintro v_q x_q y_q ⟨v_39, v_41, rfl, rfl, rfl⟩
  refine lxME_y (fun h v x y => ∃ v_39 : Value, ∃ v_41 : Value, h = [(.agg #[v_39, v_41, vB x_38.2.2], [own e32 v_39 x_38.1, own e32 v_41 x_38.2.1], [])] ∧ v = undef ∧ x = [own e32 v_39 x_38.1, own e32 v_41 x_38.2.1, OE.bx b_3 [v_39, v_41, vB x_38.2.2]] ∧ y = []) [(.agg #[v_39, v_41, vB x_38.2.2], [own e32 v_39 x_38.1, own e32 v_41 x_38.2.1], [])] [own e32 v_39 x_38.1, own e32 v_41 x_38.2.1, OE.bx b_3 [.slice none 0 0, .slice none 0 0, vB false]] [] _ rfl rfl (fun h v x y => rfl) rfl rfl rfl rfl ⟨_, _, _, v_39, v_41, rfl, rfl, rfl, rfl⟩ (fun w Sl Tl hZ hTT hA hP hS => ?_) ?_
  ·refine opy_imp (kM (i := 2) (us := [v_39, v_41, vB x_38.2.2]) rfl sz27 rfl rfl rfl ⟨(hS.ro 0 rfl).one, (hS.ro 1 rfl).one, rfl, trivial⟩ rfl hS) ?_
   intro w hS
   exact ⟨_, _, ⟨v_39, v_41, rfl, rfl, rfl, rfl⟩, SfT.mk' hZ Rds.nil Off.nil hS⟩
  rintro v_q x_q y_q ⟨v_39', v_41', hh, rfl, rfl, rfl⟩
  replace hh : ([(.agg #[v_39, v_41, vB x_38.2.2], [own e32 v_39 x_38.1, own e32 v_41 x_38.2.1], [])] : List Th) = [(.agg #[v_39', v_41', vB x_38.2.2], [own e32 v_39' x_38.1, own e32 v_41' x_38.2.1], [])] := hh
  cases hh
  refine lxME_v rfl rfl (fun w Sb wb hZ hA hP hF => kA rfl) rfl (lxME_nil fun w hQ => ?_)
  obtain ⟨S_43, wb_44, hZ, hA, hP, hS⟩ := hQ
  refine ka (kq ?_)
  cases h
  replace hS := hZ.st hS
  exact QE_rv2 rfl ⟨_, rfl, run_ldAgg (us := [v_39, v_41, vB x_38.2.2]) Tryz.underlying27 rfl sz27 (hS.bxs 2 rfl rfl)⟩ rfl ⟨v_39, v_41, rfl, hS.pick [0, 1] (by decide) rfl⟩
theorem c_curve_Field (w0 : World) (a0 : Int)   (r : List UInt32)
  (h : F.curve_Field a0 = some r) : Calls Tryz.prog 28 #[vI a0] w0 (Ret fun v w => St [] w0 w [own e32 v r]) := by
 refine kz 13 Tryz.func28 rfl rfl rfl ?_
 have hS := St.start w0
 have hZ := Fz.start (S := []) (w0 := w0)
 have hTT : TOk [] [] w0 := TOk.nil
 have hA : Rds [] w0 [] := Rds.nil
 have hP : Off [] [] := Off.emp
 refine kn [(0, vI a0)] ⟨rfl, trivial⟩ ?_
 unfold F.curve_Field at h
 refine ke (kc (kb 1 rfl ?_))
 refine kf (ka (ke (ke (kc (kb 1 rfl ?_)))))
 replace hS := hS.pick (os' := [] ++ []) [] (by decide) rfl
 obtain ⟨hZ, hA, hP, hS⟩ := hZ.frzK hTT hA hP hS
 obtain ⟨x_1, hx_1, h⟩ := kg h
 refine kk (by kernel_rfl) rfl (c_curve_of _ a0   _ (hZ.okT hTT hS)  _ hx_1) rfl ?_
 rintro v_q w hQ
 cases hc_3 : x_1 with
 | none =>
  have h := ocase_n h hc_3
  rw [hc_3] at hQ
  obtain ⟨rfl, hS1⟩ := ocaseP_n' hQ
  obtain ⟨S_5, wb_6, hZ, hA, hP, hS⟩ := hZ.callK hA hP hS hS1 Rds.nil rfl
  refine kb 1 rfl ?_
  refine kf (ka (ke (kc (kb 1 rfl ?_))))
  refine ki (kt rfl rfl (b_pnnN Tryz.underlying54)) rfl (kf (ka (wpC_condF rfl ?_)))
  refine kr (ka (ke (kc (kb 1 rfl ?_))))
  refine kf (ka (kq ?_))
  cases h
  replace hS := hZ.st hS
  exact ky rfl rfl ((hS.nil e32).pick [0] (by decide) rfl)
 | some x_4 =>
  have h := ocase_s h hc_3
  rw [hc_3] at hQ
  obtain ⟨b0_2, b0_2_0, u0_2_0_1, b0_2_1, u0_2_1_1, b0_2_2, u0_2_2_1, b0_2_3, u0_2_3_1, b0_2_4, u0_2_4_1, rfl, hS1, hR1⟩ := ocaseP_s' hQ
  obtain ⟨S_7, wb_8, hZ, hA, hP, hS⟩ := hZ.callK hA hP hS hS1 hR1 rfl
  refine kb 1 rfl ?_
  refine kf (ka (ke (kc (kb 1 rfl ?_))))
  refine ki (kt rfl rfl (b_pneN Tryz.underlying54 b0_2 0)) rfl (kf (ka (wpC_condT rfl ?_)))
  refine ke (kc (kb 1 rfl ?_))
  refine ki (kJ rfl) rfl (ki (kl (k := 0) Tryz.underlying59 rfl rfl nz56 rfl) rfl (ki (ku Tryz.underlying56 rfl rfl ((hA.rb 10 rfl).cell hS.fr 0 rfl)) rfl ?_))
  obtain ⟨x_9, hx_9, h⟩ := kg h
  refine kk (by kernel_rfl) rfl (c_curve_out _ x_4.1 x_4.2.1 u0_2_0_1 b0_2_0 ((hA.rp 0 rfl).now hS.fr).rp ((hA.rb 1 rfl).now hS.fr) _ hx_9) rfl ?_
  rintro v_10 w hS1
  have hS := hS.call hS1
  refine kb 1 rfl ?_
  refine kf (ka (kq (kv ?_)))
  cases h
  replace hS := hZ.st hS
  exact ky rfl rfl (hS.pick [0] (by decide) rfl)
end Go.Proofs
