import Derived.Test.YtpbgncmffgnohaaTW0
import Derived.Test.YtpbgncmffgnohaaGkFcurve
import Derived.Test.YtpbgncmffgnohaaTWbignumc
import Derived.Test.YtpbgncmffgnohaaTWcurved
set_option linter.unusedVariables false
set_option linter.unusedSimpArgs false
set_option linter.unusedVariables false
set_option maxRecDepth 4000
namespace Go.Proofs
open Go Go.RowKit Go.Gk
set_option maxHeartbeats 8000000 in
theorem c_curve_Joint (w0 : World) (a0 : Int) (a1 : List UInt32) (a2 : List UInt32) (a3_0 : List UInt32) (a3_1 : List UInt32) (a3_2 : Bool) (va1 : Value) (va2 : Value) (va3_0 : Value) (va3_1 : Value) (ha1 : RP [] w0 e32 va1 a1) (ha2 : RP [] w0 e32 va2 a2) (ha3_0 : RP [] w0 e32 va3_0 a3_0) (ha3_1 : RP [] w0 e32 va3_1 a3_1) (r : List UInt32 × List UInt32 × Bool × Int)
  (h : F.curve_Joint a0 a1 a2 a3_0 a3_1 a3_2 = some r) : Calls Try.prog 30 #[vI a0, va1, va2, .agg #[va3_0, va3_1, vB a3_2]] w0 (Ret fun v w => ∃ u0_0 u0_1 : Value, v = .tuple #[.agg #[u0_0, u0_1, vB r.2.2.1], vI r.2.2.2] ∧ St [] w0 w [own e32 u0_0 r.1, own e32 u0_1 r.2.1]) := by
 refine ky 109 Try.func30 rfl rfl rfl ?_
 have hS := St.start w0
 have hZ := Fz.start (S := []) (w0 := w0)
 have hTT : TOk [] [] w0 := TOk.nil
 have hA : Rds [] w0 [red e32 va3_1 a3_1, red e32 va3_0 a3_0, red e32 va2 a2, red e32 va1 a1] := Rds.cons (RP.kept (Nat.le_of_ble_eq_true rfl) ha3_1) (Rds.cons (RP.kept (Nat.le_of_ble_eq_true rfl) ha3_0) (Rds.cons (RP.kept (Nat.le_of_ble_eq_true rfl) ha2) (Rds.cons (RP.kept (Nat.le_of_ble_eq_true rfl) ha1) (Rds.nil))))
 have hP : Off [] [red e32 va3_1 a3_1, red e32 va3_0 a3_0, red e32 va2 a2, red e32 va1 a1] := Off.emp
 refine km [(0, vI a0), (1, va1), (2, va2), (3, .agg #[va3_0, va3_1, vB a3_2])] ⟨rfl, rfl, rfl, rfl, trivial⟩ ?_
 unfold F.curve_Joint at h
 refine kd (kc (kV (OpX_box (cs := [va3_0, va3_1, vB a3_2]) rfl rfl hS) rfl ?_))
 rintro _ w ⟨b_1, rfl, hS⟩
 refine kV (kD (cs := [.slice none 0 0, .slice none 0 0, vB false]) tz26 rfl hS) rfl ?_
 rintro _ w ⟨b_3, rfl, hS⟩
 refine kb 1 rfl ?_
 refine ke (ka (kd (kc (kb 1 rfl ?_))))
 refine kh (kG (us := [va3_0, va3_1, vB a3_2]) Try.underlying26 rfl sz26 rfl (hS.bxs 1 rfl rfl)) rfl ?_
 replace hS := hS.pick (os' := [] ++ [OE.bx b_3 [.slice none 0 0, .slice none 0 0, vB false], OE.bx b_1 [va3_0, va3_1, vB a3_2]]) [0, 1] (by decide) rfl
 obtain ⟨hZ, hA, hP, hS⟩ := hZ.frzK hTT hA hP hS
 obtain ⟨x_5, hx_5, h⟩ := kf h
 refine kj (by kernel_rfl) rfl (c_curve_take _ a0 a3_0 a3_1 a3_2 va3_0 va3_1  _ (hZ.okT hTT hS) (hA.rpT hP 2 rfl) (hA.rpT hP 3 rfl) _ hx_5) rfl ?_
 rintro v_q w hQ
 cases hc_7 : x_5.1 with
 | none =>
  have h := ocase_n h hc_7
  rw [hc_7] at hQ
  obtain ⟨rfl, hS1⟩ := ocaseP_n' hQ
  obtain ⟨S_9, wb_10, hZ, hA, hP, hS⟩ := hZ.callK hA hP hS hS1 Rds.nil rfl
  refine kb 4 rfl ?_
  refine kV (kD (cs := [.pointer none, .pointer none, .pointer none]) tz64 rfl hS) rfl ?_
  rintro _ w ⟨b_13, rfl, hS⟩
  refine kb 1 rfl ?_
  refine kW (kL (i := 0) (us := [.pointer none, .pointer none, .pointer none]) rfl sz64 rfl rfl rfl ⟨rfl, rfl, rfl, trivial⟩ rfl hS) ?_
  intro w hS
  refine kb 1 rfl ?_
  refine ke (ka (kd (kd (kc (kb 2 rfl ?_)))))
  refine ke (ka ?_)
  refine kn rfl (fun hb_35 => ?_) (fun hb_35 => ?_)
  ·have h := if_t h hb_35
   refine kd (kc (kh (OpV_build (vs := []) (cells := [.slice none 0 0, .slice none 0 0, vB false]) rfl lay26 trivial rfl) rfl (kW (kL (i := 1) (us := [.slice none 0 0, .slice none 0 0, vB false]) rfl sz26 rfl rfl rfl ⟨rfl, rfl, rfl, trivial⟩ rfl hS) ?_)))
   intro w hS
   refine kb 1 rfl ?_
   refine ke (ka (ko (ku ?_)))
   cases h
   replace hS := hZ.st hS
   exact QE_rv2 rfl ⟨_, rfl, run_ldAgg (us := [.slice none 0 0, .slice none 0 0, vB false]) Try.underlying26 rfl sz26 (hS.bxs 1 rfl rfl)⟩ rfl ⟨.slice none 0 0, .slice none 0 0, rfl, ((hS.nil e32).nil e32).pick [1, 0] (by decide) rfl⟩
  have h := if_f h hb_35
  refine kq (ka (kd (kc (kb 1 rfl ?_))))
  obtain ⟨x_15, hx_15, h⟩ := kf h
  refine kj (by kernel_rfl) rfl (c_curve_scalar _ a1 va1  ((hA.rp 0 rfl).now hS.fr).rp _ hx_15) rfl ?_
  rintro _ w ⟨v_16, b_18, rfl, hS1⟩
  have hS := hS.call hS1
  refine kb 5 rfl ?_
  refine ke (ka (kd (kc (kb 1 rfl ?_))))
  obtain ⟨x_20, hx_20, h⟩ := kf h
  refine kj (by kernel_rfl) rfl (c_curve_scalar _ a2 va2  ((hA.rp 1 rfl).now hS.fr).rp _ hx_20) rfl ?_
  rintro _ w ⟨v_21, b_23, rfl, hS1⟩
  have hS := hS.call hS1
  refine kb 5 rfl ?_
  refine ke (ka (kd ?_))
  refine kN (r := r) (fun (g : Bool) L w => L = [(8, pB b_3 0), (10, .pointer none), (11, pB b_13 0), (13, pB b_18 0), (15, pB b_23 0), (49, vB g)] ∧ SfT [] [] w0 w [OE.bx b_23 [vB x_20.1, v_21], red e32 v_21 x_20.2.1, OE.bx b_18 [vB x_15.1, v_16], red e32 v_16 x_15.2.1] [OE.bx b_3 [.slice none 0 0, .slice none 0 0, vB false], OE.bx b_13 [.pointer none, .pointer none, .pointer none]]) (F.curve_Joint_K1) ?_ ?_
  rotate_left
  ·intro hK_33
   refine kc (kb 3 rfl ?_)
   cases hb_25 : (!x_15.2.2)
   case true =>
    have h := if_t h hb_25
    try simp only [hb_25]
    refine kb 3 rfl ?_
    refine ke (ka ?_)
    replace hS := hS.pick (os' := [OE.bx b_23 [vB x_20.1, v_21], own e32 v_21 x_20.2.1, OE.bx b_18 [vB x_15.1, v_16], own e32 v_16 x_15.2.1] ++ [OE.bx b_13 [.pointer none, .pointer none, .pointer none], OE.bx b_3 [.slice none 0 0, .slice none 0 0, vB false], OE.bx b_1 [va3_0, va3_1, vB a3_2]]) [0, 1, 2, 3, 4, 5, 6] (by decide) rfl
    obtain ⟨S_26, wb_27, hZ, hA, hP, hS⟩ := hZ.frzT hTT hA hP hS
    exact km _ (by exact ⟨rfl, rfl, rfl, rfl, rfl, rfl, trivial⟩) (hK_33 true _ _ ⟨rfl, (SfT.mk' hZ (Rds.cons (hA.nth 7 rfl) (Rds.cons (hA.nth 6 rfl) (Rds.cons (hA.nth 5 rfl) (Rds.cons (hA.nth 4 rfl) Rds.nil)))) (Off.cons (hP.nth 7 rfl) (Off.cons (hP.nth 6 rfl) (Off.cons (hP.nth 5 rfl) (Off.cons (hP.nth 4 rfl) Off.nil)))) (hS.pick [1, 0] (by decide) rfl))⟩ h)
   case false =>
    have h := if_f h hb_25
    try simp only [hb_25]
    refine kb 3 rfl ?_
    refine ke (ka ?_)
    replace hS := hS.pick (os' := [OE.bx b_23 [vB x_20.1, v_21], own e32 v_21 x_20.2.1, OE.bx b_18 [vB x_15.1, v_16], own e32 v_16 x_15.2.1] ++ [OE.bx b_13 [.pointer none, .pointer none, .pointer none], OE.bx b_3 [.slice none 0 0, .slice none 0 0, vB false], OE.bx b_1 [va3_0, va3_1, vB a3_2]]) [0, 1, 2, 3, 4, 5, 6] (by decide) rfl
    obtain ⟨S_28, wb_29, hZ, hA, hP, hS⟩ := hZ.frzT hTT hA hP hS
    exact km _ (by exact ⟨rfl, rfl, rfl, rfl, rfl, rfl, trivial⟩) (hK_33 (!x_20.2.2) _ _ ⟨rfl, (SfT.mk' hZ (Rds.cons (hA.nth 7 rfl) (Rds.cons (hA.nth 6 rfl) (Rds.cons (hA.nth 5 rfl) (Rds.cons (hA.nth 4 rfl) Rds.nil)))) (Off.cons (hP.nth 7 rfl) (Off.cons (hP.nth 6 rfl) (Off.cons (hP.nth 5 rfl) (Off.cons (hP.nth 4 rfl) Off.nil)))) (hS.pick [1, 0] (by decide) rfl))⟩ h)
  rintro x_32 L w hJ h
  try dsimp only at hJ
  obtain ⟨rfl, ⟨S_30, wb_31, hZ, hA, hP, hS⟩⟩ := hJ
  unfold F.curve_Joint_K1 at h
  refine kn rfl (fun hb_34 => ?_) (fun hb_34 => ?_)
  ·have h := if_t h hb_34
   refine kd (kc (kh (OpV_build (vs := []) (cells := [.slice none 0 0, .slice none 0 0, vB false]) rfl lay26 trivial rfl) rfl (kW (kL (i := 0) (us := [.slice none 0 0, .slice none 0 0, vB false]) rfl sz26 rfl rfl rfl ⟨rfl, rfl, rfl, trivial⟩ rfl hS) ?_)))
   intro w hS
   refine kb 1 rfl ?_
   refine ke (ka (ko (ku ?_)))
   cases h
   replace hS := hZ.st hS
   exact QE_rv2 rfl ⟨_, rfl, run_ldAgg (us := [.slice none 0 0, .slice none 0 0, vB false]) Try.underlying26 rfl sz26 (hS.bxs 0 rfl rfl)⟩ rfl ⟨.slice none 0 0, .slice none 0 0, rfl, ((hS.nil e32).nil e32).pick [1, 0] (by decide) rfl⟩
  have h := if_f h hb_34
  refine kq (ka (kd ?_))
  cases h
 | some x_8 =>
  have h := ocase_s h hc_7
  rw [hc_7] at hQ
  obtain ⟨b0_6, b0_6_0, u0_6_0_1, b0_6_1, u0_6_1_1, b0_6_2, u0_6_2_1, b0_6_3, u0_6_3_1, b0_6_4, u0_6_4_1, b1_6_0, u1_6_0_1, b1_6_1, u1_6_1_1, b1_6_2, u1_6_2_1, rfl, hS1, hR1⟩ := ocaseP_s' hQ
  obtain ⟨S_11, wb_12, hZ, hA, hP, hS⟩ := hZ.callK hA hP hS hS1 hR1 rfl
  refine kb 4 rfl ?_
  refine kV (kD (cs := [.pointer none, .pointer none, .pointer none]) tz64 rfl hS) rfl ?_
  rintro _ w ⟨b_36, rfl, hS⟩
  refine kb 1 rfl ?_
  refine kW (kL (i := 0) (us := [pB b1_6_0 0, pB b1_6_1 0, pB b1_6_2 0]) rfl sz64 rfl rfl rfl ⟨rfl, rfl, rfl, trivial⟩ rfl hS) ?_
  intro w hS
  refine kb 1 rfl ?_
  refine ke (ka (kd (kd (kc (kb 2 rfl ?_)))))
  refine ke (ka ?_)
  refine kn rfl (fun hb_170 => ?_) (fun hb_170 => ?_)
  ·have h := if_t h hb_170
   refine kd (kc (kh (OpV_build (vs := []) (cells := [.slice none 0 0, .slice none 0 0, vB false]) rfl lay26 trivial rfl) rfl (kW (kL (i := 1) (us := [.slice none 0 0, .slice none 0 0, vB false]) rfl sz26 rfl rfl rfl ⟨rfl, rfl, rfl, trivial⟩ rfl hS) ?_)))
   intro w hS
   refine kb 1 rfl ?_
   refine ke (ka (ko (ku ?_)))
   cases h
   replace hS := hZ.st hS
   exact QE_rv2 rfl ⟨_, rfl, run_ldAgg (us := [.slice none 0 0, .slice none 0 0, vB false]) Try.underlying26 rfl sz26 (hS.bxs 1 rfl rfl)⟩ rfl ⟨.slice none 0 0, .slice none 0 0, rfl, ((hS.nil e32).nil e32).pick [1, 0] (by decide) rfl⟩
  have h := if_f h hb_170
  refine kq (ka (kd (kc (kb 1 rfl ?_))))
  obtain ⟨x_38, hx_38, h⟩ := kf h
  refine kj (by kernel_rfl) rfl (c_curve_scalar _ a1 va1  ((hA.rp 0 rfl).now hS.fr).rp _ hx_38) rfl ?_
  rintro _ w ⟨v_39, b_41, rfl, hS1⟩
  have hS := hS.call hS1
  refine kb 5 rfl ?_
  refine ke (ka (kd (kc (kb 1 rfl ?_))))
  obtain ⟨x_43, hx_43, h⟩ := kf h
  refine kj (by kernel_rfl) rfl (c_curve_scalar _ a2 va2  ((hA.rp 1 rfl).now hS.fr).rp _ hx_43) rfl ?_
  rintro _ w ⟨v_44, b_46, rfl, hS1⟩
  have hS := hS.call hS1
  refine kb 5 rfl ?_
  refine ke (ka (kd ?_))
  refine kN (r := r) (fun (g : Bool) L w => L = [(8, pB b_3 0), (10, pB b0_6 0), (11, pB b_36 0), (13, pB b_41 0), (15, pB b_46 0), (49, vB g)] ∧ SfT [] [] w0 w [OE.bx b1_6_2 [vB x_8.2.2.2.2.2.2.2.2.2.2.2.2.2.2.2.1, u1_6_2_1], red e32 u1_6_2_1 x_8.2.2.2.2.2.2.2.2.2.2.2.2.2.2.2.2, OE.bx b1_6_1 [vB x_8.2.2.2.2.2.2.2.2.2.2.2.2.2.1, u1_6_1_1], red e32 u1_6_1_1 x_8.2.2.2.2.2.2.2.2.2.2.2.2.2.2.1, OE.bx b1_6_0 [vB x_8.2.2.2.2.2.2.2.2.2.2.2.1, u1_6_0_1], red e32 u1_6_0_1 x_8.2.2.2.2.2.2.2.2.2.2.2.2.1, OE.bx b_46 [vB x_43.1, v_44], red e32 v_44 x_43.2.1, OE.bx b_41 [vB x_38.1, v_39], red e32 v_39 x_38.2.1, OE.bx b0_6 [pB b0_6_0 0, pB b0_6_1 0, pB b0_6_2 0, pB b0_6_3 0, pB b0_6_4 0, vI x_8.2.2.2.2.2.2.2.2.2.2.1, .func (.func 91) #[] #[]], OE.bx b0_6_4 [vB x_8.2.2.2.2.2.2.2.2.1, u0_6_4_1], red e32 u0_6_4_1 x_8.2.2.2.2.2.2.2.2.2.1, OE.bx b0_6_3 [vB x_8.2.2.2.2.2.2.1, u0_6_3_1], red e32 u0_6_3_1 x_8.2.2.2.2.2.2.2.1, OE.bx b0_6_2 [vB x_8.2.2.2.2.1, u0_6_2_1], red e32 u0_6_2_1 x_8.2.2.2.2.2.1, OE.bx b0_6_1 [vB x_8.2.2.1, u0_6_1_1], red e32 u0_6_1_1 x_8.2.2.2.1, OE.bx b0_6_0 [vB x_8.1, u0_6_0_1], red e32 u0_6_0_1 x_8.2.1] [OE.bx b_3 [.slice none 0 0, .slice none 0 0, vB false], OE.bx b_36 [pB b1_6_0 0, pB b1_6_1 0, pB b1_6_2 0]]) (F.curve_Joint_K2 x_8 x_38 x_43) ?_ ?_
  rotate_left
  ·intro hK_56
   refine kc (kb 3 rfl ?_)
   cases hb_48 : (!x_38.2.2)
   case true =>
    have h := if_t h hb_48
    try simp only [hb_48]
    refine kb 3 rfl ?_
    refine ke (ka ?_)
    replace hS := hS.pick (os' := [OE.bx b_46 [vB x_43.1, v_44], own e32 v_44 x_43.2.1, OE.bx b_41 [vB x_38.1, v_39], own e32 v_39 x_38.2.1] ++ [OE.bx b_36 [pB b1_6_0 0, pB b1_6_1 0, pB b1_6_2 0], OE.bx b_3 [.slice none 0 0, .slice none 0 0, vB false], OE.bx b_1 [va3_0, va3_1, vB a3_2]]) [0, 1, 2, 3, 4, 5, 6] (by decide) rfl
    obtain ⟨S_49, wb_50, hZ, hA, hP, hS⟩ := hZ.frzT hTT hA hP hS
    exact km _ (by exact ⟨rfl, rfl, rfl, rfl, rfl, rfl, trivial⟩) (hK_56 true _ _ ⟨rfl, (SfT.mk' hZ (Rds.cons (hA.nth 20 rfl) (Rds.cons (hA.nth 19 rfl) (Rds.cons (hA.nth 18 rfl) (Rds.cons (hA.nth 17 rfl) (Rds.cons (hA.nth 16 rfl) (Rds.cons (hA.nth 15 rfl) (Rds.cons (hA.nth 24 rfl) (Rds.cons (hA.nth 23 rfl) (Rds.cons (hA.nth 22 rfl) (Rds.cons (hA.nth 21 rfl) (Rds.cons (hA.nth 14 rfl) (Rds.cons (hA.nth 13 rfl) (Rds.cons (hA.nth 12 rfl) (Rds.cons (hA.nth 11 rfl) (Rds.cons (hA.nth 10 rfl) (Rds.cons (hA.nth 9 rfl) (Rds.cons (hA.nth 8 rfl) (Rds.cons (hA.nth 7 rfl) (Rds.cons (hA.nth 6 rfl) (Rds.cons (hA.nth 5 rfl) (Rds.cons (hA.nth 4 rfl) Rds.nil))))))))))))))))))))) (Off.cons (hP.nth 20 rfl) (Off.cons (hP.nth 19 rfl) (Off.cons (hP.nth 18 rfl) (Off.cons (hP.nth 17 rfl) (Off.cons (hP.nth 16 rfl) (Off.cons (hP.nth 15 rfl) (Off.cons (hP.nth 24 rfl) (Off.cons (hP.nth 23 rfl) (Off.cons (hP.nth 22 rfl) (Off.cons (hP.nth 21 rfl) (Off.cons (hP.nth 14 rfl) (Off.cons (hP.nth 13 rfl) (Off.cons (hP.nth 12 rfl) (Off.cons (hP.nth 11 rfl) (Off.cons (hP.nth 10 rfl) (Off.cons (hP.nth 9 rfl) (Off.cons (hP.nth 8 rfl) (Off.cons (hP.nth 7 rfl) (Off.cons (hP.nth 6 rfl) (Off.cons (hP.nth 5 rfl) (Off.cons (hP.nth 4 rfl) Off.nil))))))))))))))))))))) (hS.pick [1, 0] (by decide) rfl))⟩ h)
   case false =>
    have h := if_f h hb_48
    try simp only [hb_48]
    refine kb 3 rfl ?_
    refine ke (ka ?_)
    replace hS := hS.pick (os' := [OE.bx b_46 [vB x_43.1, v_44], own e32 v_44 x_43.2.1, OE.bx b_41 [vB x_38.1, v_39], own e32 v_39 x_38.2.1] ++ [OE.bx b_36 [pB b1_6_0 0, pB b1_6_1 0, pB b1_6_2 0], OE.bx b_3 [.slice none 0 0, .slice none 0 0, vB false], OE.bx b_1 [va3_0, va3_1, vB a3_2]]) [0, 1, 2, 3, 4, 5, 6] (by decide) rfl
    obtain ⟨S_51, wb_52, hZ, hA, hP, hS⟩ := hZ.frzT hTT hA hP hS
    exact km _ (by exact ⟨rfl, rfl, rfl, rfl, rfl, rfl, trivial⟩) (hK_56 (!x_43.2.2) _ _ ⟨rfl, (SfT.mk' hZ (Rds.cons (hA.nth 20 rfl) (Rds.cons (hA.nth 19 rfl) (Rds.cons (hA.nth 18 rfl) (Rds.cons (hA.nth 17 rfl) (Rds.cons (hA.nth 16 rfl) (Rds.cons (hA.nth 15 rfl) (Rds.cons (hA.nth 24 rfl) (Rds.cons (hA.nth 23 rfl) (Rds.cons (hA.nth 22 rfl) (Rds.cons (hA.nth 21 rfl) (Rds.cons (hA.nth 14 rfl) (Rds.cons (hA.nth 13 rfl) (Rds.cons (hA.nth 12 rfl) (Rds.cons (hA.nth 11 rfl) (Rds.cons (hA.nth 10 rfl) (Rds.cons (hA.nth 9 rfl) (Rds.cons (hA.nth 8 rfl) (Rds.cons (hA.nth 7 rfl) (Rds.cons (hA.nth 6 rfl) (Rds.cons (hA.nth 5 rfl) (Rds.cons (hA.nth 4 rfl) Rds.nil))))))))))))))))))))) (Off.cons (hP.nth 20 rfl) (Off.cons (hP.nth 19 rfl) (Off.cons (hP.nth 18 rfl) (Off.cons (hP.nth 17 rfl) (Off.cons (hP.nth 16 rfl) (Off.cons (hP.nth 15 rfl) (Off.cons (hP.nth 24 rfl) (Off.cons (hP.nth 23 rfl) (Off.cons (hP.nth 22 rfl) (Off.cons (hP.nth 21 rfl) (Off.cons (hP.nth 14 rfl) (Off.cons (hP.nth 13 rfl) (Off.cons (hP.nth 12 rfl) (Off.cons (hP.nth 11 rfl) (Off.cons (hP.nth 10 rfl) (Off.cons (hP.nth 9 rfl) (Off.cons (hP.nth 8 rfl) (Off.cons (hP.nth 7 rfl) (Off.cons (hP.nth 6 rfl) (Off.cons (hP.nth 5 rfl) (Off.cons (hP.nth 4 rfl) Off.nil))))))))))))))))))))) (hS.pick [1, 0] (by decide) rfl))⟩ h)
  rintro x_55 L w hJ h
  try dsimp only at hJ
  obtain ⟨rfl, ⟨S_53, wb_54, hZ, hA, hP, hS⟩⟩ := hJ
  unfold F.curve_Joint_K2 at h
  refine kn rfl (fun hb_169 => ?_) (fun hb_169 => ?_)
  ·have h := if_t h hb_169
   refine kd (kc (kh (OpV_build (vs := []) (cells := [.slice none 0 0, .slice none 0 0, vB false]) rfl lay26 trivial rfl) rfl (kW (kL (i := 0) (us := [.slice none 0 0, .slice none 0 0, vB false]) rfl sz26 rfl rfl rfl ⟨rfl, rfl, rfl, trivial⟩ rfl hS) ?_)))
   intro w hS
   refine kb 1 rfl ?_
   refine ke (ka (ko (ku ?_)))
   cases h
   replace hS := hZ.st hS
   exact QE_rv2 rfl ⟨_, rfl, run_ldAgg (us := [.slice none 0 0, .slice none 0 0, vB false]) Try.underlying26 rfl sz26 (hS.bxs 0 rfl rfl)⟩ rfl ⟨.slice none 0 0, .slice none 0 0, rfl, ((hS.nil e32).nil e32).pick [1, 0] (by decide) rfl⟩
  have h := if_f h hb_169
  refine kq (ka (kd ?_))
  obtain ⟨x_57, hx_57, h⟩ := kf h
  refine wpC_regionM (es := [OE.bx b1_6_2 [vB x_8.2.2.2.2.2.2.2.2.2.2.2.2.2.2.2.1, u1_6_2_1], red e32 u1_6_2_1 x_8.2.2.2.2.2.2.2.2.2.2.2.2.2.2.2.2, OE.bx b1_6_1 [vB x_8.2.2.2.2.2.2.2.2.2.2.2.2.2.1, u1_6_1_1], red e32 u1_6_1_1 x_8.2.2.2.2.2.2.2.2.2.2.2.2.2.2.1, OE.bx b1_6_0 [vB x_8.2.2.2.2.2.2.2.2.2.2.2.1, u1_6_0_1], red e32 u1_6_0_1 x_8.2.2.2.2.2.2.2.2.2.2.2.2.1, OE.bx b_46 [vB x_43.1, v_44], red e32 v_44 x_43.2.1, OE.bx b_41 [vB x_38.1, v_39], red e32 v_39 x_38.2.1, OE.bx b0_6 [pB b0_6_0 0, pB b0_6_1 0, pB b0_6_2 0, pB b0_6_3 0, pB b0_6_4 0, vI x_8.2.2.2.2.2.2.2.2.2.2.1, .func (.func 91) #[] #[]], OE.bx b0_6_4 [vB x_8.2.2.2.2.2.2.2.2.1, u0_6_4_1], red e32 u0_6_4_1 x_8.2.2.2.2.2.2.2.2.2.1, OE.bx b0_6_3 [vB x_8.2.2.2.2.2.2.1, u0_6_3_1], red e32 u0_6_3_1 x_8.2.2.2.2.2.2.2.1, OE.bx b0_6_2 [vB x_8.2.2.2.2.1, u0_6_2_1], red e32 u0_6_2_1 x_8.2.2.2.2.2.1, OE.bx b0_6_1 [vB x_8.2.2.1, u0_6_1_1], red e32 u0_6_1_1 x_8.2.2.2.1, OE.bx b0_6_0 [vB x_8.1, u0_6_0_1], red e32 u0_6_0_1 x_8.2.1]) (os := [OE.bx b_3 [.slice none 0 0, .slice none 0 0, vB false], OE.bx b_36 [pB b1_6_0 0, pB b1_6_1 0, pB b1_6_2 0]]) (fun i => [8, 10, 11].contains i) (fun i => if i = 8 then some 11 else if i = 10 then some 11 else none) (fun i => []) (fun i => []) (fun i => []) (fun i => if i = 11 then [8, 10] else []) (fun i => if i = 8 then (fun h v x y => ∃ b_60 : Nat, ∃ v_58 : Value, v = pB b_60 0 ∧ x = [OE.bx b_60 [vB x_57.1, v_58], own e32 v_58 x_57.2] ∧ y = []) else if i = 10 then (fun h v x y => ∃ b_62 : Nat, v = pB b_62 0 ∧ x = [OE.bx b_62 [.pointer none, .pointer none, .pointer none]] ∧ y = []) else (fun h v x y => ∃ b_60 : Nat, ∃ v_58 : Value, ∃ b_62 : Nat, h = [(pB b_60 0, [OE.bx b_60 [vB x_57.1, v_58], own e32 v_58 x_57.2], []), (pB b_62 0, [OE.bx b_62 [.pointer none, .pointer none, .pointer none]], [])] ∧ v = undef ∧ x = [OE.bx b_60 [vB x_57.1, v_58], own e32 v_58 x_57.2, OE.bx b_62 [pB b0_6_3 0, pB b0_6_4 0, pB b_60 0]] ∧ y = [])) (SfT.mk' hZ hA hP hS) (fun k hk => rfl) hTT rfl (fun i => (ite_ns (by rintro h v x y ⟨_, _, rfl, rfl, rfl⟩; exact ns_all rfl) (ite_ns (by rintro h v x y ⟨_, rfl, rfl, rfl⟩; exact ns_all rfl) (by rintro h v x y ⟨_, _, _, _, rfl, rfl, rfl⟩; exact ns_all rfl)))) hmix (by kernel_rfl) (by kernel_rfl) ?_
  show lxME _ _ _ _ _ _ _ _ _ _ _ _ _ _ _ _ [0, 1, 2, 3, 4, 5, 6, 7, 8, 9, 10, 11] _ _
  refine lxME_v rfl rfl (fun w Sb wb hZ hA hP hF => kl rfl) rfl (lxME_v rfl rfl (fun w Sb wb hZ hA hP hF => kI rfl) rfl (lxME_v rfl rfl (fun w Sb wb hZ hA hP hF => kk (k := 3) Try.underlying61 rfl rfl nz58 rfl) rfl (lxME_v rfl rfl (fun w Sb wb hZ hA hP hF => kt Try.underlying58 rfl rfl ((hA.rb 10 rfl).cell hF.fr 3 rfl)) rfl (lxME_v rfl rfl (fun w Sb wb hZ hA hP hF => kl rfl) rfl (lxME_v rfl rfl (fun w Sb wb hZ hA hP hF => kI rfl) rfl (lxME_v rfl rfl (fun w Sb wb hZ hA hP hF => kk (k := 4) Try.underlying61 rfl rfl nz58 rfl) rfl (lxME_v rfl rfl (fun w Sb wb hZ hA hP hF => kt Try.underlying58 rfl rfl ((hA.rb 10 rfl).cell hF.fr 4 rfl)) rfl ?_)))))))
  refine lxME_call (fun h v x y => ∃ b_60 : Nat, ∃ v_58 : Value, v = pB b_60 0 ∧ x = [OE.bx b_60 [vB x_57.1, v_58], own e32 v_58 x_57.2] ∧ y = []) [] [] [] _ rfl rfl (fun h v x y => rfl) rfl rfl rfl rfl ⟨_, _, _, 0, undef, rfl, rfl, rfl⟩ (by kernel_rfl) rfl (fun w Sl Tl hZ hTT hA hP hS => ?_) rfl ?_
  ·refine calls_ret (c_bignum_NewInt _ 1    _ hx_57) ?_
   rintro _ w ⟨v_58, b_60, rfl, hS1⟩
   have hS := hS.call hS1
   exact ⟨_, _, ⟨b_60, v_58, rfl, rfl, rfl⟩, SfT.mk' hZ Rds.nil Off.nil hS⟩
  rintro v_q x_q y_q ⟨b_60, v_58, rfl, rfl, rfl⟩
  refine lxME_v rfl rfl (fun w Sb wb hZ hA hP hF => OpV_build (vs := [(0, pB b0_6_3 0, [pB b0_6_3 0]), (1, pB b0_6_4 0, [pB b0_6_4 0]), (2, pB b_60 0, [pB b_60 0])]) (cells := [pB b0_6_3 0, pB b0_6_4 0, pB b_60 0]) rfl lay64 ⟨rfl, rfl, rfl, trivial⟩ rfl) rfl ?_
  refine lxME_new (fun h v x y => ∃ b_62 : Nat, v = pB b_62 0 ∧ x = [OE.bx b_62 [.pointer none, .pointer none, .pointer none]] ∧ y = []) [] [] [] _ rfl rfl (fun h v x y => rfl) rfl rfl rfl rfl ⟨_, _, _, 0, rfl, rfl, rfl⟩ (fun w Sl Tl hZ hTT hA hP hS => ?_) rfl ?_
  ·refine opx_imp (kD (cs := [.pointer none, .pointer none, .pointer none]) tz64 rfl hS) ?_
   rintro _ w ⟨b_62, rfl, hS⟩
   exact ⟨_, _, ⟨b_62, rfl, rfl, rfl⟩, SfT.mk' hZ Rds.nil Off.nil hS⟩
  rintro v_q x_q y_q ⟨b_62, rfl, rfl, rfl⟩
  refine lxME_y (fun h v x y => ∃ b_60 : Nat, ∃ v_58 : Value, ∃ b_62 : Nat, h = [(pB b_60 0, [OE.bx b_60 [vB x_57.1, v_58], own e32 v_58 x_57.2], []), (pB b_62 0, [OE.bx b_62 [.pointer none, .pointer none, .pointer none]], [])] ∧ v = undef ∧ x = [OE.bx b_60 [vB x_57.1, v_58], own e32 v_58 x_57.2, OE.bx b_62 [pB b0_6_3 0, pB b0_6_4 0, pB b_60 0]] ∧ y = []) [(pB b_60 0, [OE.bx b_60 [vB x_57.1, v_58], own e32 v_58 x_57.2], []), (pB b_62 0, [OE.bx b_62 [.pointer none, .pointer none, .pointer none]], [])] [OE.bx b_60 [vB x_57.1, v_58], own e32 v_58 x_57.2, OE.bx b_62 [.pointer none, .pointer none, .pointer none]] [] _ rfl rfl (fun h v x y => rfl) rfl rfl rfl rfl ⟨_, _, _, b_60, v_58, b_62, rfl, rfl, rfl, rfl⟩ (fun w Sl Tl hZ hTT hA hP hS => ?_) ?_
  ·refine opy_imp (kL (i := 2) (us := [pB b0_6_3 0, pB b0_6_4 0, pB b_60 0]) rfl sz64 rfl rfl rfl ⟨rfl, rfl, rfl, trivial⟩ rfl hS) ?_
   intro w hS
   exact ⟨_, _, ⟨b_60, v_58, b_62, rfl, rfl, rfl, rfl⟩, SfT.mk' hZ Rds.nil Off.nil hS⟩
  rintro v_q x_q y_q ⟨b_60', v_58', b_62', hh, rfl, rfl, rfl⟩
  replace hh : ([(pB b_60 0, [OE.bx b_60 [vB x_57.1, v_58], own e32 v_58 x_57.2], []), (pB b_62 0, [OE.bx b_62 [.pointer none, .pointer none, .pointer none]], [])] : List Th) = [(pB b_60' 0, [OE.bx b_60' [vB x_57.1, v_58'], own e32 v_58' x_57.2], []), (pB b_62' 0, [OE.bx b_62' [.pointer none, .pointer none, .pointer none]], [])] := hh
  cases hh
  refine lxME_nil fun w hQ => ?_
  obtain ⟨S_64, wb_65, hZ, hA, hP, hS⟩ := hQ
  refine ka (kd (kc (kb 1 rfl ?_)))
  refine kh (kG (us := [pB b0_6_3 0, pB b0_6_4 0, pB b_60 0]) Try.underlying64 rfl sz64 rfl (hS.bxs 2 rfl rfl)) rfl (kh (kG (us := [pB b1_6_0 0, pB b1_6_1 0, pB b1_6_2 0]) Try.underlying64 rfl sz64 rfl (hS.bxs 4 rfl rfl)) rfl ?_)
  replace hS := hS.pick (os' := [OE.bx b_60 [vB x_57.1, v_58], own e32 v_58 x_57.2] ++ [OE.bx b_62 [pB b0_6_3 0, pB b0_6_4 0, pB b_60 0], OE.bx b_3 [.slice none 0 0, .slice none 0 0, vB false], OE.bx b_36 [pB b1_6_0 0, pB b1_6_1 0, pB b1_6_2 0]]) [0, 1, 2, 3, 4] (by decide) rfl
  obtain ⟨hZ, hA, hP, hS⟩ := hZ.frzK hTT hA hP hS
  obtain ⟨x_66, hx_66, h⟩ := kf h
  refine kj (by kernel_rfl) rfl (c_curve_group_add _ x_8.1 x_8.2.1 x_8.2.2.1 x_8.2.2.2.1 x_8.2.2.2.2.1 x_8.2.2.2.2.2.1 x_8.2.2.2.2.2.2.1 x_8.2.2.2.2.2.2.2.1 x_8.2.2.2.2.2.2.2.2.1 x_8.2.2.2.2.2.2.2.2.2.1 x_8.2.2.2.2.2.2.2.2.2.2.1 x_8.2.2.2.2.2.2.1 x_8.2.2.2.2.2.2.2.1 x_8.2.2.2.2.2.2.2.2.1 x_8.2.2.2.2.2.2.2.2.2.1 x_57.1 x_57.2 x_8.2.2.2.2.2.2.2.2.2.2.2.1 x_8.2.2.2.2.2.2.2.2.2.2.2.2.1 x_8.2.2.2.2.2.2.2.2.2.2.2.2.2.1 x_8.2.2.2.2.2.2.2.2.2.2.2.2.2.2.1 x_8.2.2.2.2.2.2.2.2.2.2.2.2.2.2.2.1 x_8.2.2.2.2.2.2.2.2.2.2.2.2.2.2.2.2 u0_6_0_1 u0_6_1_1 u0_6_2_1 u0_6_3_1 u0_6_4_1 u0_6_3_1 u0_6_4_1 v_58 u1_6_0_1 u1_6_1_1 u1_6_2_1 b0_6 b0_6_0 b0_6_1 b0_6_2 b0_6_3 b0_6_4 b0_6_3 b0_6_4 b_60 b1_6_0 b1_6_1 b1_6_2 _ (hZ.okT hTT hS) (hA.rpT hP 0 rfl) (hA.rbT hP 1 rfl) (hA.rpT hP 2 rfl) (hA.rbT hP 3 rfl) (hA.rpT hP 4 rfl) (hA.rbT hP 5 rfl) (hA.rpT hP 6 rfl) (hA.rbT hP 7 rfl) (hA.rpT hP 8 rfl) (hA.rbT hP 9 rfl) (hA.rbT hP 10 rfl) (hA.rpT hP 6 rfl) (hA.rbT hP 7 rfl) (hA.rpT hP 8 rfl) (hA.rbT hP 9 rfl) (hA.rpT hP 21 rfl) (hA.rbT hP 22 rfl) (hA.rpT hP 15 rfl) (hA.rbT hP 16 rfl) (hA.rpT hP 17 rfl) (hA.rbT hP 18 rfl) (hA.rpT hP 19 rfl) (hA.rbT hP 20 rfl) _ hx_66) rfl ?_
  rintro _ w ⟨b0_67_0, u0_67_0_1, b0_67_1, u0_67_1_1, b0_67_2, u0_67_2_1, rfl, hS1, hR1⟩
  obtain ⟨S_70, wb_71, hZ, hA, hP, hS⟩ := hZ.callK hA hP hS hS1 hR1 rfl
  refine kV (kD (cs := [.pointer none, .pointer none, .pointer none]) tz64 rfl hS) rfl ?_
  rintro _ w ⟨b_72, rfl, hS⟩
  refine kW (kL (i := 0) (us := [pB b0_67_0 0, pB b0_67_1 0, pB b0_67_2 0]) rfl sz64 rfl rfl rfl ⟨rfl, rfl, rfl, trivial⟩ rfl hS) ?_
  intro w hS
  refine ke (ka (kd (kc ?_)))
  obtain ⟨x_74, hx_74, h⟩ := kf h
  refine kj (by kernel_rfl) rfl (c_curve_infinity _     _ hx_74) rfl ?_
  rintro _ w ⟨v_75, v_77, v_79, b_81, b_83, b_85, rfl, hS1⟩
  have hS := hS.call hS1
  refine kV (kD (cs := [.pointer none, .pointer none, .pointer none]) tz64 rfl hS) rfl ?_
  rintro _ w ⟨b_87, rfl, hS⟩
  refine kW (kL (i := 0) (us := [pB b_81 0, pB b_83 0, pB b_85 0]) rfl sz64 rfl rfl rfl ⟨rfl, rfl, rfl, trivial⟩ rfl hS) ?_
  intro w hS
  refine ke (ka (kd (kd (kc (kb 1 rfl ?_)))))
  obtain ⟨x_89, hx_89, h⟩ := kf h
  refine kj (by kernel_rfl) rfl (c_bignum_Int_BitLen _ x_38.1 x_38.2.1 v_39 b_41 ((hA.rp 11 rfl).now hS.fr).rp ((hA.rb 12 rfl).now hS.fr) _ hx_89) rfl ?_
  rintro _ w ⟨rfl, hS1⟩
  have hS := hS.call hS1
  refine kb 1 rfl ?_
  obtain ⟨x_90, hx_90, h⟩ := kf h
  refine kj (by kernel_rfl) rfl (c_bignum_Int_BitLen _ x_43.1 x_43.2.1 v_44 b_46 ((hA.rp 13 rfl).now hS.fr).rp ((hA.rb 14 rfl).now hS.fr) _ hx_90) rfl ?_
  rintro _ w ⟨rfl, hS1⟩
  have hS := hS.call hS1
  refine kh (OpV_max rfl rfl) rfl (kb 2 rfl ?_)
  refine ke (ka (kv ?_))
  replace hS := hS.pick (os' := [OE.bx b_81 [vB x_74.1, v_75], own e32 v_75 x_74.2.1, OE.bx b_83 [vB x_74.2.2.1, v_77], own e32 v_77 x_74.2.2.2.1, OE.bx b_85 [vB x_74.2.2.2.2.1, v_79], own e32 v_79 x_74.2.2.2.2.2] ++ [OE.bx b_87 [pB b_81 0, pB b_83 0, pB b_85 0], OE.bx b_72 [pB b0_67_0 0, pB b0_67_1 0, pB b0_67_2 0], OE.bx b_62 [pB b0_6_3 0, pB b0_6_4 0, pB b_60 0], OE.bx b_3 [.slice none 0 0, .slice none 0 0, vB false], OE.bx b_36 [pB b1_6_0 0, pB b1_6_1 0, pB b1_6_2 0]]) [1, 2, 3, 4, 5, 6, 0, 7, 8, 9, 10] (by decide) rfl
  obtain ⟨S_91, wb_92, hZ, hA, hP, hS⟩ := hZ.frzT hTT hA hP hS
  refine km [(8, pB b_3 0), (10, pB b0_6 0), (11, pB b_36 0), (13, pB b_41 0), (15, pB b_46 0), (17, pB b_62 0), (18, pB b_72 0), (19, pB b_87 0), (20, vI (wI ((max x_89 x_90) - 1)))] ⟨rfl, rfl, rfl, rfl, rfl, rfl, rfl, rfl, rfl, trivial⟩ ?_
  refine kR (F.curve_Joint_L1 x_8 x_38 x_43 x_57 x_66) (fun (s : Int × Bool × List UInt32 × Bool × List UInt32 × Bool × List UInt32) L w => ∃ (b_96 : Nat) (v_99 : Value) (b_100 : Nat) (v_103 : Value) (b_104 : Nat) (v_107 : Value), L = [(8, pB b_3 0), (10, pB b0_6 0), (11, pB b_36 0), (13, pB b_41 0), (15, pB b_46 0), (17, pB b_62 0), (18, pB b_72 0), (19, pB b_87 0), (20, vI s.1)] ∧ SfT [] [] w0 w [OE.bx b_104 [vB s.2.2.2.2.2.1, v_107], red e32 v_107 s.2.2.2.2.2.2, OE.bx b_100 [vB s.2.2.2.1, v_103], red e32 v_103 s.2.2.2.2.1, OE.bx b_96 [vB s.2.1, v_99], red e32 v_99 s.2.2.1, OE.bx b0_67_2 [vB x_66.2.2.2.2.1, u0_67_2_1], red e32 u0_67_2_1 x_66.2.2.2.2.2, OE.bx b0_67_1 [vB x_66.2.2.1, u0_67_1_1], red e32 u0_67_1_1 x_66.2.2.2.1, OE.bx b0_67_0 [vB x_66.1, u0_67_0_1], red e32 u0_67_0_1 x_66.2.1, OE.bx b_60 [vB x_57.1, v_58], red e32 v_58 x_57.2, OE.bx b1_6_2 [vB x_8.2.2.2.2.2.2.2.2.2.2.2.2.2.2.2.1, u1_6_2_1], red e32 u1_6_2_1 x_8.2.2.2.2.2.2.2.2.2.2.2.2.2.2.2.2, OE.bx b1_6_1 [vB x_8.2.2.2.2.2.2.2.2.2.2.2.2.2.1, u1_6_1_1], red e32 u1_6_1_1 x_8.2.2.2.2.2.2.2.2.2.2.2.2.2.2.1, OE.bx b1_6_0 [vB x_8.2.2.2.2.2.2.2.2.2.2.2.1, u1_6_0_1], red e32 u1_6_0_1 x_8.2.2.2.2.2.2.2.2.2.2.2.2.1, OE.bx b_46 [vB x_43.1, v_44], red e32 v_44 x_43.2.1, OE.bx b_41 [vB x_38.1, v_39], red e32 v_39 x_38.2.1, OE.bx b0_6 [pB b0_6_0 0, pB b0_6_1 0, pB b0_6_2 0, pB b0_6_3 0, pB b0_6_4 0, vI x_8.2.2.2.2.2.2.2.2.2.2.1, .func (.func 91) #[] #[]], OE.bx b0_6_4 [vB x_8.2.2.2.2.2.2.2.2.1, u0_6_4_1], red e32 u0_6_4_1 x_8.2.2.2.2.2.2.2.2.2.1, OE.bx b0_6_3 [vB x_8.2.2.2.2.2.2.1, u0_6_3_1], red e32 u0_6_3_1 x_8.2.2.2.2.2.2.2.1, OE.bx b0_6_2 [vB x_8.2.2.2.2.1, u0_6_2_1], red e32 u0_6_2_1 x_8.2.2.2.2.2.1, OE.bx b0_6_1 [vB x_8.2.2.1, u0_6_1_1], red e32 u0_6_1_1 x_8.2.2.2.1, OE.bx b0_6_0 [vB x_8.1, u0_6_0_1], red e32 u0_6_0_1 x_8.2.1] [OE.bx b_3 [.slice none 0 0, .slice none 0 0, vB false], OE.bx b_36 [pB b1_6_0 0, pB b1_6_1 0, pB b1_6_2 0], OE.bx b_62 [pB b0_6_3 0, pB b0_6_4 0, pB b_60 0], OE.bx b_72 [pB b0_67_0 0, pB b0_67_1 0, pB b0_67_2 0], OE.bx b_87 [pB b_96 0, pB b_100 0, pB b_104 0]]) ?_ (wI ((max x_89 x_90) - 1), x_74.1, x_74.2.1, x_74.2.2.1, x_74.2.2.2.1, x_74.2.2.2.2.1, x_74.2.2.2.2.2) ⟨b_81, v_75, b_83, v_77, b_85, v_79, rfl, (SfT.mk' hZ (Rds.cons (hA.nth 30 rfl) (Rds.cons (hA.nth 29 rfl) (Rds.cons (hA.nth 32 rfl) (Rds.cons (hA.nth 31 rfl) (Rds.cons (hA.nth 34 rfl) (Rds.cons (hA.nth 33 rfl) (Rds.cons (hA.nth 28 rfl) (Rds.cons (hA.nth 27 rfl) (Rds.cons (hA.nth 26 rfl) (Rds.cons (hA.nth 25 rfl) (Rds.cons (hA.nth 24 rfl) (Rds.cons (hA.nth 23 rfl) (Rds.cons (hA.nth 22 rfl) (Rds.cons (hA.nth 21 rfl) (Rds.cons (hA.nth 20 rfl) (Rds.cons (hA.nth 19 rfl) (Rds.cons (hA.nth 18 rfl) (Rds.cons (hA.nth 17 rfl) (Rds.cons (hA.nth 16 rfl) (Rds.cons (hA.nth 15 rfl) (Rds.cons (hA.nth 14 rfl) (Rds.cons (hA.nth 13 rfl) (Rds.cons (hA.nth 12 rfl) (Rds.cons (hA.nth 11 rfl) (Rds.cons (hA.nth 10 rfl) (Rds.cons (hA.nth 9 rfl) (Rds.cons (hA.nth 8 rfl) (Rds.cons (hA.nth 7 rfl) (Rds.cons (hA.nth 6 rfl) (Rds.cons (hA.nth 5 rfl) (Rds.cons (hA.nth 4 rfl) (Rds.cons (hA.nth 3 rfl) (Rds.cons (hA.nth 2 rfl) (Rds.cons (hA.nth 1 rfl) (Rds.cons (hA.nth 0 rfl) Rds.nil))))))))))))))))))))))))))))))))))) (Off.cons (hP.nth 30 rfl) (Off.cons (hP.nth 29 rfl) (Off.cons (hP.nth 32 rfl) (Off.cons (hP.nth 31 rfl) (Off.cons (hP.nth 34 rfl) (Off.cons (hP.nth 33 rfl) (Off.cons (hP.nth 28 rfl) (Off.cons (hP.nth 27 rfl) (Off.cons (hP.nth 26 rfl) (Off.cons (hP.nth 25 rfl) (Off.cons (hP.nth 24 rfl) (Off.cons (hP.nth 23 rfl) (Off.cons (hP.nth 22 rfl) (Off.cons (hP.nth 21 rfl) (Off.cons (hP.nth 20 rfl) (Off.cons (hP.nth 19 rfl) (Off.cons (hP.nth 18 rfl) (Off.cons (hP.nth 17 rfl) (Off.cons (hP.nth 16 rfl) (Off.cons (hP.nth 15 rfl) (Off.cons (hP.nth 14 rfl) (Off.cons (hP.nth 13 rfl) (Off.cons (hP.nth 12 rfl) (Off.cons (hP.nth 11 rfl) (Off.cons (hP.nth 10 rfl) (Off.cons (hP.nth 9 rfl) (Off.cons (hP.nth 8 rfl) (Off.cons (hP.nth 7 rfl) (Off.cons (hP.nth 6 rfl) (Off.cons (hP.nth 5 rfl) (Off.cons (hP.nth 4 rfl) (Off.cons (hP.nth 3 rfl) (Off.cons (hP.nth 2 rfl) (Off.cons (hP.nth 1 rfl) (Off.cons (hP.nth 0 rfl) Off.nil))))))))))))))))))))))))))))))))))) (hS.pick [3, 4, 2, 1, 0] (by decide) rfl))⟩ h
  rintro k_168 ⟨x_95, x_97, x_98, x_101, x_102, x_105, x_106⟩ L w q_110 hI ih_109 h hk_108
  try dsimp only at hI
  obtain ⟨b_96, v_99, b_100, v_103, b_104, v_107, rfl, ⟨S_93, wb_94, hZ, hA, hP, hS⟩⟩ := hI
  unfold F.curve_Joint_L1 at h
  refine kd (kd (kc (kb 2 rfl ?_)))
  refine ke (ka ?_)
  refine kn rfl (fun hb_167 => ?_) (fun hb_167 => ?_)
  ·have h := if_t h hb_167
   refine kq (ka (kd (kv ?_)))
   refine kd (kc (kh (kG (us := [pB b0_6_3 0, pB b0_6_4 0, pB b_60 0]) Try.underlying64 rfl sz64 rfl (hS.bxs 2 rfl rfl)) rfl (kV (kD (cs := [.pointer none, .pointer none, .pointer none]) tz64 rfl hS) rfl ?_)))
   rintro _ w ⟨b_111, rfl, hS⟩
   refine kW (kL (i := 0) (us := [pB b0_6_3 0, pB b0_6_4 0, pB b_60 0]) rfl sz64 rfl rfl rfl ⟨rfl, rfl, rfl, trivial⟩ rfl hS) ?_
   intro w hS
   refine ke (ka ?_)
   refine kN (r := q_110) (fun (g : Bool × List UInt32 × Bool × List UInt32 × Bool × List UInt32) L w => ∃ (b_141 : Nat) (v_144 : Value) (b_145 : Nat) (v_148 : Value) (b_149 : Nat) (v_152 : Value), L = [(8, pB b_3 0), (10, pB b0_6 0), (11, pB b_36 0), (13, pB b_41 0), (15, pB b_46 0), (17, pB b_62 0), (18, pB b_72 0), (19, pB b_87 0), (20, vI x_95), (21, pB b_111 0)] ∧ SfT [] [] w0 w [OE.bx b_149 [vB g.2.2.2.2.1, v_152], red e32 v_152 g.2.2.2.2.2, OE.bx b_145 [vB g.2.2.1, v_148], red e32 v_148 g.2.2.2.1, OE.bx b_141 [vB g.1, v_144], red e32 v_144 g.2.1, OE.bx b_104 [vB x_105, v_107], red e32 v_107 x_106, OE.bx b_100 [vB x_101, v_103], red e32 v_103 x_102, OE.bx b_96 [vB x_97, v_99], red e32 v_99 x_98, OE.bx b0_67_2 [vB x_66.2.2.2.2.1, u0_67_2_1], red e32 u0_67_2_1 x_66.2.2.2.2.2, OE.bx b0_67_1 [vB x_66.2.2.1, u0_67_1_1], red e32 u0_67_1_1 x_66.2.2.2.1, OE.bx b0_67_0 [vB x_66.1, u0_67_0_1], red e32 u0_67_0_1 x_66.2.1, OE.bx b_60 [vB x_57.1, v_58], red e32 v_58 x_57.2, OE.bx b1_6_2 [vB x_8.2.2.2.2.2.2.2.2.2.2.2.2.2.2.2.1, u1_6_2_1], red e32 u1_6_2_1 x_8.2.2.2.2.2.2.2.2.2.2.2.2.2.2.2.2, OE.bx b1_6_1 [vB x_8.2.2.2.2.2.2.2.2.2.2.2.2.2.1, u1_6_1_1], red e32 u1_6_1_1 x_8.2.2.2.2.2.2.2.2.2.2.2.2.2.2.1, OE.bx b1_6_0 [vB x_8.2.2.2.2.2.2.2.2.2.2.2.1, u1_6_0_1], red e32 u1_6_0_1 x_8.2.2.2.2.2.2.2.2.2.2.2.2.1, OE.bx b_46 [vB x_43.1, v_44], red e32 v_44 x_43.2.1, OE.bx b_41 [vB x_38.1, v_39], red e32 v_39 x_38.2.1, OE.bx b0_6 [pB b0_6_0 0, pB b0_6_1 0, pB b0_6_2 0, pB b0_6_3 0, pB b0_6_4 0, vI x_8.2.2.2.2.2.2.2.2.2.2.1, .func (.func 91) #[] #[]], OE.bx b0_6_4 [vB x_8.2.2.2.2.2.2.2.2.1, u0_6_4_1], red e32 u0_6_4_1 x_8.2.2.2.2.2.2.2.2.2.1, OE.bx b0_6_3 [vB x_8.2.2.2.2.2.2.1, u0_6_3_1], red e32 u0_6_3_1 x_8.2.2.2.2.2.2.2.1, OE.bx b0_6_2 [vB x_8.2.2.2.2.1, u0_6_2_1], red e32 u0_6_2_1 x_8.2.2.2.2.2.1, OE.bx b0_6_1 [vB x_8.2.2.1, u0_6_1_1], red e32 u0_6_1_1 x_8.2.2.2.1, OE.bx b0_6_0 [vB x_8.1, u0_6_0_1], red e32 u0_6_0_1 x_8.2.1] [OE.bx b_3 [.slice none 0 0, .slice none 0 0, vB false], OE.bx b_36 [pB b1_6_0 0, pB b1_6_1 0, pB b1_6_2 0], OE.bx b_62 [pB b0_6_3 0, pB b0_6_4 0, pB b_60 0], OE.bx b_72 [pB b0_67_0 0, pB b0_67_1 0, pB b0_67_2 0], OE.bx b_87 [pB b_96 0, pB b_100 0, pB b_104 0], OE.bx b_111 [pB b_141 0, pB b_145 0, pB b_149 0]]) (F.curve_Joint_K3 x_8 x_95 x_97 x_98 x_101 x_102 x_105 x_106) ?_ ?_
   rotate_left
   ·intro hK_153
    refine kd (kc (kb 2 rfl ?_))
    obtain ⟨x_113, hx_113, h⟩ := kf h
    refine kj (by kernel_rfl) rfl (c_bignum_Int_Bit _ x_38.1 x_38.2.1 x_95 v_39 b_41 ((hA.rp 11 rfl).now hS.fr).rp ((hA.rb 12 rfl).now hS.fr) _ hx_113) rfl ?_
    rintro _ w ⟨rfl, hS1⟩
    have hS := hS.call hS1
    refine kh (kr rfl rfl (b_eql64 _ x_113 1)) rfl (kb 2 rfl ?_)
    obtain ⟨x_114, hx_114, h⟩ := kf h
    refine kj (by kernel_rfl) rfl (c_bignum_Int_Bit _ x_43.1 x_43.2.1 x_95 v_44 b_46 ((hA.rp 13 rfl).now hS.fr).rp ((hA.rb 14 rfl).now hS.fr) _ hx_114) rfl ?_
    rintro _ w ⟨rfl, hS1⟩
    have hS := hS.call hS1
    refine kh (kr rfl rfl (b_eql64 _ x_114 1)) rfl (kb 2 rfl ?_)
    refine ke (ka (kv ?_))
    refine kN (r := q_110) (fun (g : Bool × Bool) L w => L = [(8, pB b_3 0), (10, pB b0_6 0), (11, pB b_36 0), (13, pB b_41 0), (15, pB b_46 0), (17, pB b_62 0), (18, pB b_72 0), (19, pB b_87 0), (20, vI x_95), (21, pB b_111 0), (22, vB g.1), (23, vB (x_114 == 1)), (85, vB g.2)] ∧ SfT [] [] w0 w [OE.bx b_104 [vB x_105, v_107], red e32 v_107 x_106, OE.bx b_100 [vB x_101, v_103], red e32 v_103 x_102, OE.bx b_96 [vB x_97, v_99], red e32 v_99 x_98, OE.bx b0_67_2 [vB x_66.2.2.2.2.1, u0_67_2_1], red e32 u0_67_2_1 x_66.2.2.2.2.2, OE.bx b0_67_1 [vB x_66.2.2.1, u0_67_1_1], red e32 u0_67_1_1 x_66.2.2.2.1, OE.bx b0_67_0 [vB x_66.1, u0_67_0_1], red e32 u0_67_0_1 x_66.2.1, OE.bx b_60 [vB x_57.1, v_58], red e32 v_58 x_57.2, OE.bx b1_6_2 [vB x_8.2.2.2.2.2.2.2.2.2.2.2.2.2.2.2.1, u1_6_2_1], red e32 u1_6_2_1 x_8.2.2.2.2.2.2.2.2.2.2.2.2.2.2.2.2, OE.bx b1_6_1 [vB x_8.2.2.2.2.2.2.2.2.2.2.2.2.2.1, u1_6_1_1], red e32 u1_6_1_1 x_8.2.2.2.2.2.2.2.2.2.2.2.2.2.2.1, OE.bx b1_6_0 [vB x_8.2.2.2.2.2.2.2.2.2.2.2.1, u1_6_0_1], red e32 u1_6_0_1 x_8.2.2.2.2.2.2.2.2.2.2.2.2.1, OE.bx b_46 [vB x_43.1, v_44], red e32 v_44 x_43.2.1, OE.bx b_41 [vB x_38.1, v_39], red e32 v_39 x_38.2.1, OE.bx b0_6 [pB b0_6_0 0, pB b0_6_1 0, pB b0_6_2 0, pB b0_6_3 0, pB b0_6_4 0, vI x_8.2.2.2.2.2.2.2.2.2.2.1, .func (.func 91) #[] #[]], OE.bx b0_6_4 [vB x_8.2.2.2.2.2.2.2.2.1, u0_6_4_1], red e32 u0_6_4_1 x_8.2.2.2.2.2.2.2.2.2.1, OE.bx b0_6_3 [vB x_8.2.2.2.2.2.2.1, u0_6_3_1], red e32 u0_6_3_1 x_8.2.2.2.2.2.2.2.1, OE.bx b0_6_2 [vB x_8.2.2.2.2.1, u0_6_2_1], red e32 u0_6_2_1 x_8.2.2.2.2.2.1, OE.bx b0_6_1 [vB x_8.2.2.1, u0_6_1_1], red e32 u0_6_1_1 x_8.2.2.2.1, OE.bx b0_6_0 [vB x_8.1, u0_6_0_1], red e32 u0_6_0_1 x_8.2.1] [OE.bx b_3 [.slice none 0 0, .slice none 0 0, vB false], OE.bx b_36 [pB b1_6_0 0, pB b1_6_1 0, pB b1_6_2 0], OE.bx b_62 [pB b0_6_3 0, pB b0_6_4 0, pB b_60 0], OE.bx b_72 [pB b0_67_0 0, pB b0_67_1 0, pB b0_67_2 0], OE.bx b_87 [pB b_96 0, pB b_100 0, pB b_104 0], OE.bx b_111 [pB b0_6_3 0, pB b0_6_4 0, pB b_60 0]]) (F.curve_Joint_K4 x_8 x_57 x_66 x_114 x_95 x_97 x_98 x_101 x_102 x_105 x_106) ?_ ?_
    rotate_left
    ·intro hK_120
     refine kc (kb 2 rfl ?_)
     cases hb_115 : (x_113 == 1)
     case true =>
      have h := if_t h hb_115
      try simp only [hb_115]
      refine kb 3 rfl ?_
      refine ke (ka ?_)
      exact km _ (by exact ⟨rfl, rfl, rfl, rfl, rfl, rfl, rfl, rfl, rfl, rfl, rfl, rfl, rfl, trivial⟩) (hK_120 (true, x_114 == 1) _ _ ⟨rfl, (SfT.mk' hZ (Rds.cons (hA.nth 34 rfl) (Rds.cons (hA.nth 33 rfl) (Rds.cons (hA.nth 32 rfl) (Rds.cons (hA.nth 31 rfl) (Rds.cons (hA.nth 30 rfl) (Rds.cons (hA.nth 29 rfl) (Rds.cons (hA.nth 28 rfl) (Rds.cons (hA.nth 27 rfl) (Rds.cons (hA.nth 26 rfl) (Rds.cons (hA.nth 25 rfl) (Rds.cons (hA.nth 24 rfl) (Rds.cons (hA.nth 23 rfl) (Rds.cons (hA.nth 22 rfl) (Rds.cons (hA.nth 21 rfl) (Rds.cons (hA.nth 20 rfl) (Rds.cons (hA.nth 19 rfl) (Rds.cons (hA.nth 18 rfl) (Rds.cons (hA.nth 17 rfl) (Rds.cons (hA.nth 16 rfl) (Rds.cons (hA.nth 15 rfl) (Rds.cons (hA.nth 14 rfl) (Rds.cons (hA.nth 13 rfl) (Rds.cons (hA.nth 12 rfl) (Rds.cons (hA.nth 11 rfl) (Rds.cons (hA.nth 10 rfl) (Rds.cons (hA.nth 9 rfl) (Rds.cons (hA.nth 8 rfl) (Rds.cons (hA.nth 7 rfl) (Rds.cons (hA.nth 6 rfl) (Rds.cons (hA.nth 5 rfl) (Rds.cons (hA.nth 4 rfl) (Rds.cons (hA.nth 3 rfl) (Rds.cons (hA.nth 2 rfl) (Rds.cons (hA.nth 1 rfl) (Rds.cons (hA.nth 0 rfl) Rds.nil))))))))))))))))))))))))))))))))))) (Off.cons (hP.nth 34 rfl) (Off.cons (hP.nth 33 rfl) (Off.cons (hP.nth 32 rfl) (Off.cons (hP.nth 31 rfl) (Off.cons (hP.nth 30 rfl) (Off.cons (hP.nth 29 rfl) (Off.cons (hP.nth 28 rfl) (Off.cons (hP.nth 27 rfl) (Off.cons (hP.nth 26 rfl) (Off.cons (hP.nth 25 rfl) (Off.cons (hP.nth 24 rfl) (Off.cons (hP.nth 23 rfl) (Off.cons (hP.nth 22 rfl) (Off.cons (hP.nth 21 rfl) (Off.cons (hP.nth 20 rfl) (Off.cons (hP.nth 19 rfl) (Off.cons (hP.nth 18 rfl) (Off.cons (hP.nth 17 rfl) (Off.cons (hP.nth 16 rfl) (Off.cons (hP.nth 15 rfl) (Off.cons (hP.nth 14 rfl) (Off.cons (hP.nth 13 rfl) (Off.cons (hP.nth 12 rfl) (Off.cons (hP.nth 11 rfl) (Off.cons (hP.nth 10 rfl) (Off.cons (hP.nth 9 rfl) (Off.cons (hP.nth 8 rfl) (Off.cons (hP.nth 7 rfl) (Off.cons (hP.nth 6 rfl) (Off.cons (hP.nth 5 rfl) (Off.cons (hP.nth 4 rfl) (Off.cons (hP.nth 3 rfl) (Off.cons (hP.nth 2 rfl) (Off.cons (hP.nth 1 rfl) (Off.cons (hP.nth 0 rfl) Off.nil))))))))))))))))))))))))))))))))))) (hS.pick [1, 2, 3, 4, 5, 0] (by decide) rfl))⟩ h)
     case false =>
      have h := if_f h hb_115
      try simp only [hb_115]
      refine kb 3 rfl ?_
      refine ke (ka ?_)
      exact km _ (by exact ⟨rfl, rfl, rfl, rfl, rfl, rfl, rfl, rfl, rfl, rfl, rfl, rfl, rfl, trivial⟩) (hK_120 (false, false) _ _ ⟨rfl, (SfT.mk' hZ (Rds.cons (hA.nth 34 rfl) (Rds.cons (hA.nth 33 rfl) (Rds.cons (hA.nth 32 rfl) (Rds.cons (hA.nth 31 rfl) (Rds.cons (hA.nth 30 rfl) (Rds.cons (hA.nth 29 rfl) (Rds.cons (hA.nth 28 rfl) (Rds.cons (hA.nth 27 rfl) (Rds.cons (hA.nth 26 rfl) (Rds.cons (hA.nth 25 rfl) (Rds.cons (hA.nth 24 rfl) (Rds.cons (hA.nth 23 rfl) (Rds.cons (hA.nth 22 rfl) (Rds.cons (hA.nth 21 rfl) (Rds.cons (hA.nth 20 rfl) (Rds.cons (hA.nth 19 rfl) (Rds.cons (hA.nth 18 rfl) (Rds.cons (hA.nth 17 rfl) (Rds.cons (hA.nth 16 rfl) (Rds.cons (hA.nth 15 rfl) (Rds.cons (hA.nth 14 rfl) (Rds.cons (hA.nth 13 rfl) (Rds.cons (hA.nth 12 rfl) (Rds.cons (hA.nth 11 rfl) (Rds.cons (hA.nth 10 rfl) (Rds.cons (hA.nth 9 rfl) (Rds.cons (hA.nth 8 rfl) (Rds.cons (hA.nth 7 rfl) (Rds.cons (hA.nth 6 rfl) (Rds.cons (hA.nth 5 rfl) (Rds.cons (hA.nth 4 rfl) (Rds.cons (hA.nth 3 rfl) (Rds.cons (hA.nth 2 rfl) (Rds.cons (hA.nth 1 rfl) (Rds.cons (hA.nth 0 rfl) Rds.nil))))))))))))))))))))))))))))))))))) (Off.cons (hP.nth 34 rfl) (Off.cons (hP.nth 33 rfl) (Off.cons (hP.nth 32 rfl) (Off.cons (hP.nth 31 rfl) (Off.cons (hP.nth 30 rfl) (Off.cons (hP.nth 29 rfl) (Off.cons (hP.nth 28 rfl) (Off.cons (hP.nth 27 rfl) (Off.cons (hP.nth 26 rfl) (Off.cons (hP.nth 25 rfl) (Off.cons (hP.nth 24 rfl) (Off.cons (hP.nth 23 rfl) (Off.cons (hP.nth 22 rfl) (Off.cons (hP.nth 21 rfl) (Off.cons (hP.nth 20 rfl) (Off.cons (hP.nth 19 rfl) (Off.cons (hP.nth 18 rfl) (Off.cons (hP.nth 17 rfl) (Off.cons (hP.nth 16 rfl) (Off.cons (hP.nth 15 rfl) (Off.cons (hP.nth 14 rfl) (Off.cons (hP.nth 13 rfl) (Off.cons (hP.nth 12 rfl) (Off.cons (hP.nth 11 rfl) (Off.cons (hP.nth 10 rfl) (Off.cons (hP.nth 9 rfl) (Off.cons (hP.nth 8 rfl) (Off.cons (hP.nth 7 rfl) (Off.cons (hP.nth 6 rfl) (Off.cons (hP.nth 5 rfl) (Off.cons (hP.nth 4 rfl) (Off.cons (hP.nth 3 rfl) (Off.cons (hP.nth 2 rfl) (Off.cons (hP.nth 1 rfl) (Off.cons (hP.nth 0 rfl) Off.nil))))))))))))))))))))))))))))))))))) (hS.pick [1, 2, 3, 4, 5, 0] (by decide) rfl))⟩ h)
    rintro ⟨x_118, x_119⟩ L w hJ h
    try dsimp only at hJ
    obtain ⟨rfl, ⟨S_116, wb_117, hZ, hA, hP, hS⟩⟩ := hJ
    unfold F.curve_Joint_K4 at h
    refine kn rfl (fun hb_138 => ?_) (fun hb_138 => ?_)
    ·have h := if_t h hb_138
     refine kc (kh (kG (us := [pB b0_67_0 0, pB b0_67_1 0, pB b0_67_2 0]) Try.underlying64 rfl sz64 rfl (hS.bxs 3 rfl rfl)) rfl (kW (kL (i := 5) (us := [pB b0_67_0 0, pB b0_67_1 0, pB b0_67_2 0]) rfl sz64 rfl rfl rfl ⟨rfl, rfl, rfl, trivial⟩ rfl hS) ?_))
     intro w hS
     refine ke (kJ ?_)
     refine ka ?_
     exact km _ (by exact ⟨rfl, rfl, rfl, rfl, rfl, rfl, rfl, rfl, rfl, rfl, trivial⟩) (hK_153 (x_66.1, x_66.2.1, x_66.2.2.1, x_66.2.2.2.1, x_66.2.2.2.2.1, x_66.2.2.2.2.2) _ _ ⟨b0_67_0, u0_67_0_1, b0_67_1, u0_67_1_1, b0_67_2, u0_67_2_1, rfl, (SfT.mk' hZ (Rds.cons (hA.nth 28 rfl) (Rds.cons (hA.nth 27 rfl) (Rds.cons (hA.nth 26 rfl) (Rds.cons (hA.nth 25 rfl) (Rds.cons (hA.nth 24 rfl) (Rds.cons (hA.nth 23 rfl) (Rds.cons (hA.nth 34 rfl) (Rds.cons (hA.nth 33 rfl) (Rds.cons (hA.nth 32 rfl) (Rds.cons (hA.nth 31 rfl) (Rds.cons (hA.nth 30 rfl) (Rds.cons (hA.nth 29 rfl) (Rds.cons (hA.nth 28 rfl) (Rds.cons (hA.nth 27 rfl) (Rds.cons (hA.nth 26 rfl) (Rds.cons (hA.nth 25 rfl) (Rds.cons (hA.nth 24 rfl) (Rds.cons (hA.nth 23 rfl) (Rds.cons (hA.nth 22 rfl) (Rds.cons (hA.nth 21 rfl) (Rds.cons (hA.nth 20 rfl) (Rds.cons (hA.nth 19 rfl) (Rds.cons (hA.nth 18 rfl) (Rds.cons (hA.nth 17 rfl) (Rds.cons (hA.nth 16 rfl) (Rds.cons (hA.nth 15 rfl) (Rds.cons (hA.nth 14 rfl) (Rds.cons (hA.nth 13 rfl) (Rds.cons (hA.nth 12 rfl) (Rds.cons (hA.nth 11 rfl) (Rds.cons (hA.nth 10 rfl) (Rds.cons (hA.nth 9 rfl) (Rds.cons (hA.nth 8 rfl) (Rds.cons (hA.nth 7 rfl) (Rds.cons (hA.nth 6 rfl) (Rds.cons (hA.nth 5 rfl) (Rds.cons (hA.nth 4 rfl) (Rds.cons (hA.nth 3 rfl) (Rds.cons (hA.nth 2 rfl) (Rds.cons (hA.nth 1 rfl) (Rds.cons (hA.nth 0 rfl) Rds.nil))))))))))))))))))))))))))))))))))))))))) (Off.cons (hP.nth 28 rfl) (Off.cons (hP.nth 27 rfl) (Off.cons (hP.nth 26 rfl) (Off.cons (hP.nth 25 rfl) (Off.cons (hP.nth 24 rfl) (Off.cons (hP.nth 23 rfl) (Off.cons (hP.nth 34 rfl) (Off.cons (hP.nth 33 rfl) (Off.cons (hP.nth 32 rfl) (Off.cons (hP.nth 31 rfl) (Off.cons (hP.nth 30 rfl) (Off.cons (hP.nth 29 rfl) (Off.cons (hP.nth 28 rfl) (Off.cons (hP.nth 27 rfl) (Off.cons (hP.nth 26 rfl) (Off.cons (hP.nth 25 rfl) (Off.cons (hP.nth 24 rfl) (Off.cons (hP.nth 23 rfl) (Off.cons (hP.nth 22 rfl) (Off.cons (hP.nth 21 rfl) (Off.cons (hP.nth 20 rfl) (Off.cons (hP.nth 19 rfl) (Off.cons (hP.nth 18 rfl) (Off.cons (hP.nth 17 rfl) (Off.cons (hP.nth 16 rfl) (Off.cons (hP.nth 15 rfl) (Off.cons (hP.nth 14 rfl) (Off.cons (hP.nth 13 rfl) (Off.cons (hP.nth 12 rfl) (Off.cons (hP.nth 11 rfl) (Off.cons (hP.nth 10 rfl) (Off.cons (hP.nth 9 rfl) (Off.cons (hP.nth 8 rfl) (Off.cons (hP.nth 7 rfl) (Off.cons (hP.nth 6 rfl) (Off.cons (hP.nth 5 rfl) (Off.cons (hP.nth 4 rfl) (Off.cons (hP.nth 3 rfl) (Off.cons (hP.nth 2 rfl) (Off.cons (hP.nth 1 rfl) (Off.cons (hP.nth 0 rfl) Off.nil))))))))))))))))))))))))))))))))))))))))) hS)⟩ h)
    have h := if_f h hb_138
    refine kd (kc (kb 2 rfl ?_))
    refine ke (ka ?_)
    refine kn rfl (fun hb_137 => ?_) (fun hb_137 => ?_)
    ·have h := if_t h hb_137
     refine kc (kh (kG (us := [pB b1_6_0 0, pB b1_6_1 0, pB b1_6_2 0]) Try.underlying64 rfl sz64 rfl (hS.bxs 1 rfl rfl)) rfl (kW (kL (i := 5) (us := [pB b1_6_0 0, pB b1_6_1 0, pB b1_6_2 0]) rfl sz64 rfl rfl rfl ⟨rfl, rfl, rfl, trivial⟩ rfl hS) ?_))
     intro w hS
     refine ke (kJ ?_)
     refine ka ?_
     exact km _ (by exact ⟨rfl, rfl, rfl, rfl, rfl, rfl, rfl, rfl, rfl, rfl, trivial⟩) (hK_153 (x_8.2.2.2.2.2.2.2.2.2.2.2.1, x_8.2.2.2.2.2.2.2.2.2.2.2.2.1, x_8.2.2.2.2.2.2.2.2.2.2.2.2.2.1, x_8.2.2.2.2.2.2.2.2.2.2.2.2.2.2.1, x_8.2.2.2.2.2.2.2.2.2.2.2.2.2.2.2.1, x_8.2.2.2.2.2.2.2.2.2.2.2.2.2.2.2.2) _ _ ⟨b1_6_0, u1_6_0_1, b1_6_1, u1_6_1_1, b1_6_2, u1_6_2_1, rfl, (SfT.mk' hZ (Rds.cons (hA.nth 20 rfl) (Rds.cons (hA.nth 19 rfl) (Rds.cons (hA.nth 18 rfl) (Rds.cons (hA.nth 17 rfl) (Rds.cons (hA.nth 16 rfl) (Rds.cons (hA.nth 15 rfl) (Rds.cons (hA.nth 34 rfl) (Rds.cons (hA.nth 33 rfl) (Rds.cons (hA.nth 32 rfl) (Rds.cons (hA.nth 31 rfl) (Rds.cons (hA.nth 30 rfl) (Rds.cons (hA.nth 29 rfl) (Rds.cons (hA.nth 28 rfl) (Rds.cons (hA.nth 27 rfl) (Rds.cons (hA.nth 26 rfl) (Rds.cons (hA.nth 25 rfl) (Rds.cons (hA.nth 24 rfl) (Rds.cons (hA.nth 23 rfl) (Rds.cons (hA.nth 22 rfl) (Rds.cons (hA.nth 21 rfl) (Rds.cons (hA.nth 20 rfl) (Rds.cons (hA.nth 19 rfl) (Rds.cons (hA.nth 18 rfl) (Rds.cons (hA.nth 17 rfl) (Rds.cons (hA.nth 16 rfl) (Rds.cons (hA.nth 15 rfl) (Rds.cons (hA.nth 14 rfl) (Rds.cons (hA.nth 13 rfl) (Rds.cons (hA.nth 12 rfl) (Rds.cons (hA.nth 11 rfl) (Rds.cons (hA.nth 10 rfl) (Rds.cons (hA.nth 9 rfl) (Rds.cons (hA.nth 8 rfl) (Rds.cons (hA.nth 7 rfl) (Rds.cons (hA.nth 6 rfl) (Rds.cons (hA.nth 5 rfl) (Rds.cons (hA.nth 4 rfl) (Rds.cons (hA.nth 3 rfl) (Rds.cons (hA.nth 2 rfl) (Rds.cons (hA.nth 1 rfl) (Rds.cons (hA.nth 0 rfl) Rds.nil))))))))))))))))))))))))))))))))))))))))) (Off.cons (hP.nth 20 rfl) (Off.cons (hP.nth 19 rfl) (Off.cons (hP.nth 18 rfl) (Off.cons (hP.nth 17 rfl) (Off.cons (hP.nth 16 rfl) (Off.cons (hP.nth 15 rfl) (Off.cons (hP.nth 34 rfl) (Off.cons (hP.nth 33 rfl) (Off.cons (hP.nth 32 rfl) (Off.cons (hP.nth 31 rfl) (Off.cons (hP.nth 30 rfl) (Off.cons (hP.nth 29 rfl) (Off.cons (hP.nth 28 rfl) (Off.cons (hP.nth 27 rfl) (Off.cons (hP.nth 26 rfl) (Off.cons (hP.nth 25 rfl) (Off.cons (hP.nth 24 rfl) (Off.cons (hP.nth 23 rfl) (Off.cons (hP.nth 22 rfl) (Off.cons (hP.nth 21 rfl) (Off.cons (hP.nth 20 rfl) (Off.cons (hP.nth 19 rfl) (Off.cons (hP.nth 18 rfl) (Off.cons (hP.nth 17 rfl) (Off.cons (hP.nth 16 rfl) (Off.cons (hP.nth 15 rfl) (Off.cons (hP.nth 14 rfl) (Off.cons (hP.nth 13 rfl) (Off.cons (hP.nth 12 rfl) (Off.cons (hP.nth 11 rfl) (Off.cons (hP.nth 10 rfl) (Off.cons (hP.nth 9 rfl) (Off.cons (hP.nth 8 rfl) (Off.cons (hP.nth 7 rfl) (Off.cons (hP.nth 6 rfl) (Off.cons (hP.nth 5 rfl) (Off.cons (hP.nth 4 rfl) (Off.cons (hP.nth 3 rfl) (Off.cons (hP.nth 2 rfl) (Off.cons (hP.nth 1 rfl) (Off.cons (hP.nth 0 rfl) Off.nil))))))))))))))))))))))))))))))))))))))))) hS)⟩ h)
    have h := if_f h hb_137
    refine kd (kc (kb 3 rfl ?_))
    refine ke (ka ?_)
    refine kn rfl (fun hb_136 => ?_) (fun hb_136 => ?_)
    ·have h := if_t h hb_136
     refine kc ?_
     obtain ⟨x_121, hx_121, h⟩ := kf h
     refine kj (by kernel_rfl) rfl (c_curve_infinity _     _ hx_121) rfl ?_
     rintro _ w ⟨v_122, v_124, v_126, b_128, b_130, b_132, rfl, hS1⟩
     have hS := hS.call hS1
     refine kW (kL (i := 11) (us := [pB b_128 0, pB b_130 0, pB b_132 0]) rfl sz64 rfl rfl rfl ⟨rfl, rfl, rfl, trivial⟩ rfl hS) ?_
     intro w hS
     refine ke (kJ ?_)
     refine ka ?_
     replace hS := hS.pick (os' := [OE.bx b_128 [vB x_121.1, v_122], own e32 v_122 x_121.2.1, OE.bx b_130 [vB x_121.2.2.1, v_124], own e32 v_124 x_121.2.2.2.1, OE.bx b_132 [vB x_121.2.2.2.2.1, v_126], own e32 v_126 x_121.2.2.2.2.2] ++ [OE.bx b_3 [.slice none 0 0, .slice none 0 0, vB false], OE.bx b_36 [pB b1_6_0 0, pB b1_6_1 0, pB b1_6_2 0], OE.bx b_62 [pB b0_6_3 0, pB b0_6_4 0, pB b_60 0], OE.bx b_72 [pB b0_67_0 0, pB b0_67_1 0, pB b0_67_2 0], OE.bx b_87 [pB b_96 0, pB b_100 0, pB b_104 0], OE.bx b_111 [pB b_128 0, pB b_130 0, pB b_132 0]]) [0, 1, 2, 3, 4, 5, 6, 7, 8, 9, 10, 11] (by decide) rfl
     obtain ⟨S_134, wb_135, hZ, hA, hP, hS⟩ := hZ.frzT hTT hA hP hS
     exact km _ (by exact ⟨rfl, rfl, rfl, rfl, rfl, rfl, rfl, rfl, rfl, rfl, trivial⟩) (hK_153 (x_121.1, x_121.2.1, x_121.2.2.1, x_121.2.2.2.1, x_121.2.2.2.2.1, x_121.2.2.2.2.2) _ _ ⟨b_128, v_122, b_130, v_124, b_132, v_126, rfl, (SfT.mk' hZ (Rds.cons (hA.nth 36 rfl) (Rds.cons (hA.nth 35 rfl) (Rds.cons (hA.nth 38 rfl) (Rds.cons (hA.nth 37 rfl) (Rds.cons (hA.nth 40 rfl) (Rds.cons (hA.nth 39 rfl) (Rds.cons (hA.nth 34 rfl) (Rds.cons (hA.nth 33 rfl) (Rds.cons (hA.nth 32 rfl) (Rds.cons (hA.nth 31 rfl) (Rds.cons (hA.nth 30 rfl) (Rds.cons (hA.nth 29 rfl) (Rds.cons (hA.nth 28 rfl) (Rds.cons (hA.nth 27 rfl) (Rds.cons (hA.nth 26 rfl) (Rds.cons (hA.nth 25 rfl) (Rds.cons (hA.nth 24 rfl) (Rds.cons (hA.nth 23 rfl) (Rds.cons (hA.nth 22 rfl) (Rds.cons (hA.nth 21 rfl) (Rds.cons (hA.nth 20 rfl) (Rds.cons (hA.nth 19 rfl) (Rds.cons (hA.nth 18 rfl) (Rds.cons (hA.nth 17 rfl) (Rds.cons (hA.nth 16 rfl) (Rds.cons (hA.nth 15 rfl) (Rds.cons (hA.nth 14 rfl) (Rds.cons (hA.nth 13 rfl) (Rds.cons (hA.nth 12 rfl) (Rds.cons (hA.nth 11 rfl) (Rds.cons (hA.nth 10 rfl) (Rds.cons (hA.nth 9 rfl) (Rds.cons (hA.nth 8 rfl) (Rds.cons (hA.nth 7 rfl) (Rds.cons (hA.nth 6 rfl) (Rds.cons (hA.nth 5 rfl) (Rds.cons (hA.nth 4 rfl) (Rds.cons (hA.nth 3 rfl) (Rds.cons (hA.nth 2 rfl) (Rds.cons (hA.nth 1 rfl) (Rds.cons (hA.nth 0 rfl) Rds.nil))))))))))))))))))))))))))))))))))))))))) (Off.cons (hP.nth 36 rfl) (Off.cons (hP.nth 35 rfl) (Off.cons (hP.nth 38 rfl) (Off.cons (hP.nth 37 rfl) (Off.cons (hP.nth 40 rfl) (Off.cons (hP.nth 39 rfl) (Off.cons (hP.nth 34 rfl) (Off.cons (hP.nth 33 rfl) (Off.cons (hP.nth 32 rfl) (Off.cons (hP.nth 31 rfl) (Off.cons (hP.nth 30 rfl) (Off.cons (hP.nth 29 rfl) (Off.cons (hP.nth 28 rfl) (Off.cons (hP.nth 27 rfl) (Off.cons (hP.nth 26 rfl) (Off.cons (hP.nth 25 rfl) (Off.cons (hP.nth 24 rfl) (Off.cons (hP.nth 23 rfl) (Off.cons (hP.nth 22 rfl) (Off.cons (hP.nth 21 rfl) (Off.cons (hP.nth 20 rfl) (Off.cons (hP.nth 19 rfl) (Off.cons (hP.nth 18 rfl) (Off.cons (hP.nth 17 rfl) (Off.cons (hP.nth 16 rfl) (Off.cons (hP.nth 15 rfl) (Off.cons (hP.nth 14 rfl) (Off.cons (hP.nth 13 rfl) (Off.cons (hP.nth 12 rfl) (Off.cons (hP.nth 11 rfl) (Off.cons (hP.nth 10 rfl) (Off.cons (hP.nth 9 rfl) (Off.cons (hP.nth 8 rfl) (Off.cons (hP.nth 7 rfl) (Off.cons (hP.nth 6 rfl) (Off.cons (hP.nth 5 rfl) (Off.cons (hP.nth 4 rfl) (Off.cons (hP.nth 3 rfl) (Off.cons (hP.nth 2 rfl) (Off.cons (hP.nth 1 rfl) (Off.cons (hP.nth 0 rfl) Off.nil))))))))))))))))))))))))))))))))))))))))) hS)⟩ h)
    have h := if_f h hb_136
    refine kq (kJ ?_)
    refine ka ?_
    exact km _ (by exact ⟨rfl, rfl, rfl, rfl, rfl, rfl, rfl, rfl, rfl, rfl, trivial⟩) (hK_153 (x_8.2.2.2.2.2.2.1, x_8.2.2.2.2.2.2.2.1, x_8.2.2.2.2.2.2.2.2.1, x_8.2.2.2.2.2.2.2.2.2.1, x_57.1, x_57.2) _ _ ⟨b0_6_3, u0_6_3_1, b0_6_4, u0_6_4_1, b_60, v_58, rfl, (SfT.mk' hZ (Rds.cons (hA.nth 22 rfl) (Rds.cons (hA.nth 21 rfl) (Rds.cons (hA.nth 9 rfl) (Rds.cons (hA.nth 8 rfl) (Rds.cons (hA.nth 7 rfl) (Rds.cons (hA.nth 6 rfl) (Rds.cons (hA.nth 34 rfl) (Rds.cons (hA.nth 33 rfl) (Rds.cons (hA.nth 32 rfl) (Rds.cons (hA.nth 31 rfl) (Rds.cons (hA.nth 30 rfl) (Rds.cons (hA.nth 29 rfl) (Rds.cons (hA.nth 28 rfl) (Rds.cons (hA.nth 27 rfl) (Rds.cons (hA.nth 26 rfl) (Rds.cons (hA.nth 25 rfl) (Rds.cons (hA.nth 24 rfl) (Rds.cons (hA.nth 23 rfl) (Rds.cons (hA.nth 22 rfl) (Rds.cons (hA.nth 21 rfl) (Rds.cons (hA.nth 20 rfl) (Rds.cons (hA.nth 19 rfl) (Rds.cons (hA.nth 18 rfl) (Rds.cons (hA.nth 17 rfl) (Rds.cons (hA.nth 16 rfl) (Rds.cons (hA.nth 15 rfl) (Rds.cons (hA.nth 14 rfl) (Rds.cons (hA.nth 13 rfl) (Rds.cons (hA.nth 12 rfl) (Rds.cons (hA.nth 11 rfl) (Rds.cons (hA.nth 10 rfl) (Rds.cons (hA.nth 9 rfl) (Rds.cons (hA.nth 8 rfl) (Rds.cons (hA.nth 7 rfl) (Rds.cons (hA.nth 6 rfl) (Rds.cons (hA.nth 5 rfl) (Rds.cons (hA.nth 4 rfl) (Rds.cons (hA.nth 3 rfl) (Rds.cons (hA.nth 2 rfl) (Rds.cons (hA.nth 1 rfl) (Rds.cons (hA.nth 0 rfl) Rds.nil))))))))))))))))))))))))))))))))))))))))) (Off.cons (hP.nth 22 rfl) (Off.cons (hP.nth 21 rfl) (Off.cons (hP.nth 9 rfl) (Off.cons (hP.nth 8 rfl) (Off.cons (hP.nth 7 rfl) (Off.cons (hP.nth 6 rfl) (Off.cons (hP.nth 34 rfl) (Off.cons (hP.nth 33 rfl) (Off.cons (hP.nth 32 rfl) (Off.cons (hP.nth 31 rfl) (Off.cons (hP.nth 30 rfl) (Off.cons (hP.nth 29 rfl) (Off.cons (hP.nth 28 rfl) (Off.cons (hP.nth 27 rfl) (Off.cons (hP.nth 26 rfl) (Off.cons (hP.nth 25 rfl) (Off.cons (hP.nth 24 rfl) (Off.cons (hP.nth 23 rfl) (Off.cons (hP.nth 22 rfl) (Off.cons (hP.nth 21 rfl) (Off.cons (hP.nth 20 rfl) (Off.cons (hP.nth 19 rfl) (Off.cons (hP.nth 18 rfl) (Off.cons (hP.nth 17 rfl) (Off.cons (hP.nth 16 rfl) (Off.cons (hP.nth 15 rfl) (Off.cons (hP.nth 14 rfl) (Off.cons (hP.nth 13 rfl) (Off.cons (hP.nth 12 rfl) (Off.cons (hP.nth 11 rfl) (Off.cons (hP.nth 10 rfl) (Off.cons (hP.nth 9 rfl) (Off.cons (hP.nth 8 rfl) (Off.cons (hP.nth 7 rfl) (Off.cons (hP.nth 6 rfl) (Off.cons (hP.nth 5 rfl) (Off.cons (hP.nth 4 rfl) (Off.cons (hP.nth 3 rfl) (Off.cons (hP.nth 2 rfl) (Off.cons (hP.nth 1 rfl) (Off.cons (hP.nth 0 rfl) Off.nil))))))))))))))))))))))))))))))))))))))))) hS)⟩ h)
   rintro ⟨x_142, x_143, x_146, x_147, x_150, x_151⟩ L w hJ h
   try dsimp only at hJ
   obtain ⟨b_141, v_144, b_145, v_148, b_149, v_152, rfl, ⟨S_139, wb_140, hZ, hA, hP, hS⟩⟩ := hJ
   unfold F.curve_Joint_K3 at h
   obtain ⟨x_154, hx_154, h⟩ := kf h
   refine wpC_regionM (es := [OE.bx b_149 [vB x_150, v_152], red e32 v_152 x_151, OE.bx b_145 [vB x_146, v_148], red e32 v_148 x_147, OE.bx b_141 [vB x_142, v_144], red e32 v_144 x_143, OE.bx b_104 [vB x_105, v_107], red e32 v_107 x_106, OE.bx b_100 [vB x_101, v_103], red e32 v_103 x_102, OE.bx b_96 [vB x_97, v_99], red e32 v_99 x_98, OE.bx b0_67_2 [vB x_66.2.2.2.2.1, u0_67_2_1], red e32 u0_67_2_1 x_66.2.2.2.2.2, OE.bx b0_67_1 [vB x_66.2.2.1, u0_67_1_1], red e32 u0_67_1_1 x_66.2.2.2.1, OE.bx b0_67_0 [vB x_66.1, u0_67_0_1], red e32 u0_67_0_1 x_66.2.1, OE.bx b_60 [vB x_57.1, v_58], red e32 v_58 x_57.2, OE.bx b1_6_2 [vB x_8.2.2.2.2.2.2.2.2.2.2.2.2.2.2.2.1, u1_6_2_1], red e32 u1_6_2_1 x_8.2.2.2.2.2.2.2.2.2.2.2.2.2.2.2.2, OE.bx b1_6_1 [vB x_8.2.2.2.2.2.2.2.2.2.2.2.2.2.1, u1_6_1_1], red e32 u1_6_1_1 x_8.2.2.2.2.2.2.2.2.2.2.2.2.2.2.1, OE.bx b1_6_0 [vB x_8.2.2.2.2.2.2.2.2.2.2.2.1, u1_6_0_1], red e32 u1_6_0_1 x_8.2.2.2.2.2.2.2.2.2.2.2.2.1, OE.bx b_46 [vB x_43.1, v_44], red e32 v_44 x_43.2.1, OE.bx b_41 [vB x_38.1, v_39], red e32 v_39 x_38.2.1, OE.bx b0_6 [pB b0_6_0 0, pB b0_6_1 0, pB b0_6_2 0, pB b0_6_3 0, pB b0_6_4 0, vI x_8.2.2.2.2.2.2.2.2.2.2.1, .func (.func 91) #[] #[]], OE.bx b0_6_4 [vB x_8.2.2.2.2.2.2.2.2.1, u0_6_4_1], red e32 u0_6_4_1 x_8.2.2.2.2.2.2.2.2.2.1, OE.bx b0_6_3 [vB x_8.2.2.2.2.2.2.1, u0_6_3_1], red e32 u0_6_3_1 x_8.2.2.2.2.2.2.2.1, OE.bx b0_6_2 [vB x_8.2.2.2.2.1, u0_6_2_1], red e32 u0_6_2_1 x_8.2.2.2.2.2.1, OE.bx b0_6_1 [vB x_8.2.2.1, u0_6_1_1], red e32 u0_6_1_1 x_8.2.2.2.1, OE.bx b0_6_0 [vB x_8.1, u0_6_0_1], red e32 u0_6_0_1 x_8.2.1]) (os := [OE.bx b_3 [.slice none 0 0, .slice none 0 0, vB false], OE.bx b_36 [pB b1_6_0 0, pB b1_6_1 0, pB b1_6_2 0], OE.bx b_62 [pB b0_6_3 0, pB b0_6_4 0, pB b_60 0], OE.bx b_72 [pB b0_67_0 0, pB b0_67_1 0, pB b0_67_2 0], OE.bx b_111 [pB b_141 0, pB b_145 0, pB b_149 0]]) (fun i => [5, 7, 8].contains i) (fun i => none) (fun i => if i = 8 then [7] else []) (fun i => if i = 8 then [OE.bx b_87 [pB b_96 0, pB b_100 0, pB b_104 0]] else []) (fun i => if i = 5 then [8] else []) (fun i => if i = 8 then [7] else []) (fun i => if i = 5 then (fun h v x y => v = .agg #[pB b_96 0, pB b_100 0, pB b_104 0] ∧ x = [] ∧ y = []) else if i = 7 then (fun h v x y => ∃ b0_155_0 : Nat, ∃ b0_155_1 : Nat, ∃ b0_155_2 : Nat, ∃ u0_155_0_1 : Value, ∃ u0_155_1_1 : Value, ∃ u0_155_2_1 : Value, v = .agg #[pB b0_155_0 0, pB b0_155_1 0, pB b0_155_2 0] ∧ x = [] ∧ y = [red e32 u0_155_0_1 x_154.2.1, OE.bx b0_155_0 [vB x_154.1, u0_155_0_1], red e32 u0_155_1_1 x_154.2.2.2.1, OE.bx b0_155_1 [vB x_154.2.2.1, u0_155_1_1], red e32 u0_155_2_1 x_154.2.2.2.2.2, OE.bx b0_155_2 [vB x_154.2.2.2.2.1, u0_155_2_1]]) else (fun h v x y => ∃ b0_155_0 : Nat, ∃ b0_155_1 : Nat, ∃ b0_155_2 : Nat, ∃ u0_155_0_1 : Value, ∃ u0_155_1_1 : Value, ∃ u0_155_2_1 : Value, h = [(.agg #[pB b0_155_0 0, pB b0_155_1 0, pB b0_155_2 0], [], [red e32 u0_155_0_1 x_154.2.1, OE.bx b0_155_0 [vB x_154.1, u0_155_0_1], red e32 u0_155_1_1 x_154.2.2.2.1, OE.bx b0_155_1 [vB x_154.2.2.1, u0_155_1_1], red e32 u0_155_2_1 x_154.2.2.2.2.2, OE.bx b0_155_2 [vB x_154.2.2.2.2.1, u0_155_2_1]])] ∧ v = undef ∧ x = [OE.bx b_87 [pB b0_155_0 0, pB b0_155_1 0, pB b0_155_2 0]] ∧ y = [red e32 u0_155_0_1 x_154.2.1, OE.bx b0_155_0 [vB x_154.1, u0_155_0_1], red e32 u0_155_1_1 x_154.2.2.2.1, OE.bx b0_155_1 [vB x_154.2.2.1, u0_155_1_1], red e32 u0_155_2_1 x_154.2.2.2.2.2, OE.bx b0_155_2 [vB x_154.2.2.2.2.1, u0_155_2_1]])) (SfT.mk' hZ hA hP (hS.pick (os' := [OE.bx b_87 [pB b_96 0, pB b_100 0, pB b_104 0], OE.bx b_3 [.slice none 0 0, .slice none 0 0, vB false], OE.bx b_36 [pB b1_6_0 0, pB b1_6_1 0, pB b1_6_2 0], OE.bx b_62 [pB b0_6_3 0, pB b0_6_4 0, pB b_60 0], OE.bx b_72 [pB b0_67_0 0, pB b0_67_1 0, pB b0_67_2 0], OE.bx b_111 [pB b_141 0, pB b_145 0, pB b_149 0]]) [4, 0, 1, 2, 3, 5] (by decide) rfl)) (fun k hk => (if_neg (fun q => by subst q; exact absurd hk (by decide)))) hTT rfl (fun i => (ite_ns (by rintro h v x y ⟨rfl, rfl, rfl⟩; exact ns_all rfl) (ite_ns (by rintro h v x y ⟨_, _, _, _, _, _, rfl, rfl, rfl⟩; exact ns_all rfl) (by rintro h v x y ⟨_, _, _, _, _, _, _, rfl, rfl, rfl⟩; exact ns_all rfl)))) hmix (by kernel_rfl) (by kernel_rfl) ?_
   show lxME _ _ _ _ _ _ _ _ _ _ _ _ _ _ _ _ [0, 1, 2, 3, 4, 5, 6, 7, 8] _ _
   refine lxME_v rfl rfl (fun w Sb wb hZ hA hP hF => kl rfl) rfl (lxME_v rfl rfl (fun w Sb wb hZ hA hP hF => kI rfl) rfl (lxME_v rfl rfl (fun w Sb wb hZ hA hP hF => kk (k := 6) Try.underlying61 rfl rfl nz59 rfl) rfl (lxME_v rfl rfl (fun w Sb wb hZ hA hP hF => kt Try.underlying59 rfl rfl ((hA.rb 10 rfl).cell hF.fr 6 rfl)) rfl (lxME_v rfl rfl (fun w Sb wb hZ hA hP hF => kl rfl) rfl ?_))))
   refine lxME_new (fun h v x y => v = .agg #[pB b_96 0, pB b_100 0, pB b_104 0] ∧ x = [] ∧ y = []) [] [] [] [OE.bx b_87 [pB b_96 0, pB b_100 0, pB b_104 0], OE.bx b_3 [.slice none 0 0, .slice none 0 0, vB false], OE.bx b_36 [pB b1_6_0 0, pB b1_6_1 0, pB b1_6_2 0], OE.bx b_62 [pB b0_6_3 0, pB b0_6_4 0, pB b_60 0], OE.bx b_72 [pB b0_67_0 0, pB b0_67_1 0, pB b0_67_2 0], OE.bx b_111 [pB b_141 0, pB b_145 0, pB b_149 0]] rfl rfl (fun h v x y => rfl) rfl rfl rfl rfl ⟨_, _, _, rfl, rfl, rfl⟩ (fun w Sl Tl hZ hTT hA hP hS => ?_) rfl ?_
   ·exact opx_v (kG (us := [pB b_96 0, pB b_100 0, pB b_104 0]) Try.underlying64 rfl sz64 rfl (hS.bxs 0 rfl rfl)) ⟨_, _, ⟨rfl, rfl, rfl⟩, SfT.mk' hZ Rds.nil Off.nil hS⟩
   rintro v_q x_q y_q ⟨rfl, rfl, rfl⟩
   refine lxME_v rfl rfl (fun w Sb wb hZ hA hP hF => kG (us := [pB b_141 0, pB b_145 0, pB b_149 0]) Try.underlying64 rfl sz64 rfl (hF.bxs 4 rfl rfl)) rfl ?_
   refine lxME_callV (fun h v x y => ∃ b0_155_0 : Nat, ∃ b0_155_1 : Nat, ∃ b0_155_2 : Nat, ∃ u0_155_0_1 : Value, ∃ u0_155_1_1 : Value, ∃ u0_155_2_1 : Value, v = .agg #[pB b0_155_0 0, pB b0_155_1 0, pB b0_155_2 0] ∧ x = [] ∧ y = [red e32 u0_155_0_1 x_154.2.1, OE.bx b0_155_0 [vB x_154.1, u0_155_0_1], red e32 u0_155_1_1 x_154.2.2.2.1, OE.bx b0_155_1 [vB x_154.2.2.1, u0_155_1_1], red e32 u0_155_2_1 x_154.2.2.2.2.2, OE.bx b0_155_2 [vB x_154.2.2.2.2.1, u0_155_2_1]]) [] [] [] _ rfl rfl (fun h v x y => rfl) rfl rfl rfl rfl ⟨_, _, _, 0, 0, 0, undef, undef, undef, rfl, rfl, rfl⟩ rfl (by kernel_rfl) rfl (fun w Sl Tl hZ hTT hA hP hS => ?_) rfl ?_
   ·replace hS := hS.pick (os' := [] ++ [OE.bx b_3 [.slice none 0 0, .slice none 0 0, vB false], OE.bx b_36 [pB b1_6_0 0, pB b1_6_1 0, pB b1_6_2 0], OE.bx b_62 [pB b0_6_3 0, pB b0_6_4 0, pB b_60 0], OE.bx b_72 [pB b0_67_0 0, pB b0_67_1 0, pB b0_67_2 0], OE.bx b_111 [pB b_141 0, pB b_145 0, pB b_149 0]]) [0, 1, 2, 3, 4] (by decide) rfl
    obtain ⟨hZ, hA, hP, hS⟩ := hZ.frzK hTT hA hP hS
    refine calls_ret (c_curve_step _ x_8.1 x_8.2.1 x_8.2.2.1 x_8.2.2.2.1 x_8.2.2.2.2.1 x_8.2.2.2.2.2.1 x_8.2.2.2.2.2.2.1 x_8.2.2.2.2.2.2.2.1 x_8.2.2.2.2.2.2.2.2.1 x_8.2.2.2.2.2.2.2.2.2.1 x_8.2.2.2.2.2.2.2.2.2.2.1 x_97 x_98 x_101 x_102 x_105 x_106 true x_142 x_143 x_146 x_147 x_150 x_151 u0_6_0_1 u0_6_1_1 u0_6_2_1 u0_6_3_1 u0_6_4_1 v_99 v_103 v_107 v_144 v_148 v_152 b0_6 b0_6_0 b0_6_1 b0_6_2 b0_6_3 b0_6_4 b_96 b_100 b_104 b_141 b_145 b_149 _ (hZ.okT hTT hS) (hA.rpT hP 0 rfl) (hA.rbT hP 1 rfl) (hA.rpT hP 2 rfl) (hA.rbT hP 3 rfl) (hA.rpT hP 4 rfl) (hA.rbT hP 5 rfl) (hA.rpT hP 6 rfl) (hA.rbT hP 7 rfl) (hA.rpT hP 8 rfl) (hA.rbT hP 9 rfl) (hA.rbT hP 10 rfl) (hA.rpT hP 29 rfl) (hA.rbT hP 30 rfl) (hA.rpT hP 31 rfl) (hA.rbT hP 32 rfl) (hA.rpT hP 33 rfl) (hA.rbT hP 34 rfl) (hA.rpT hP 35 rfl) (hA.rbT hP 36 rfl) (hA.rpT hP 37 rfl) (hA.rbT hP 38 rfl) (hA.rpT hP 39 rfl) (hA.rbT hP 40 rfl) _ hx_154) ?_
    rintro _ w ⟨b0_155_0, u0_155_0_1, b0_155_1, u0_155_1_1, b0_155_2, u0_155_2_1, rfl, hS1, hR1⟩
    obtain ⟨S_158, wb_159, hZ, hA, hP, hS⟩ := hZ.callK hA hP hS hS1 hR1 rfl
    exact ⟨_, _, ⟨b0_155_0, b0_155_1, b0_155_2, u0_155_0_1, u0_155_1_1, u0_155_2_1, rfl, rfl, rfl⟩, SfT.mk' hZ (Rds.cons (hA.nth 41 rfl) (Rds.cons (hA.nth 42 rfl) (Rds.cons (hA.nth 43 rfl) (Rds.cons (hA.nth 44 rfl) (Rds.cons (hA.nth 45 rfl) (Rds.cons (hA.nth 46 rfl) Rds.nil)))))) (Off.cons (hP.nth 41 rfl) (Off.cons (hP.nth 42 rfl) (Off.cons (hP.nth 43 rfl) (Off.cons (hP.nth 44 rfl) (Off.cons (hP.nth 45 rfl) (Off.cons (hP.nth 46 rfl) Off.nil)))))) hS⟩
   rintro v_q x_q y_q ⟨b0_155_0, b0_155_1, b0_155_2, u0_155_0_1, u0_155_1_1, u0_155_2_1, rfl, rfl, rfl⟩
   refine lxME_y (fun h v x y => ∃ b0_155_0 : Nat, ∃ b0_155_1 : Nat, ∃ b0_155_2 : Nat, ∃ u0_155_0_1 : Value, ∃ u0_155_1_1 : Value, ∃ u0_155_2_1 : Value, h = [(.agg #[pB b0_155_0 0, pB b0_155_1 0, pB b0_155_2 0], [], [red e32 u0_155_0_1 x_154.2.1, OE.bx b0_155_0 [vB x_154.1, u0_155_0_1], red e32 u0_155_1_1 x_154.2.2.2.1, OE.bx b0_155_1 [vB x_154.2.2.1, u0_155_1_1], red e32 u0_155_2_1 x_154.2.2.2.2.2, OE.bx b0_155_2 [vB x_154.2.2.2.2.1, u0_155_2_1]])] ∧ v = undef ∧ x = [OE.bx b_87 [pB b0_155_0 0, pB b0_155_1 0, pB b0_155_2 0]] ∧ y = [red e32 u0_155_0_1 x_154.2.1, OE.bx b0_155_0 [vB x_154.1, u0_155_0_1], red e32 u0_155_1_1 x_154.2.2.2.1, OE.bx b0_155_1 [vB x_154.2.2.1, u0_155_1_1], red e32 u0_155_2_1 x_154.2.2.2.2.2, OE.bx b0_155_2 [vB x_154.2.2.2.2.1, u0_155_2_1]]) [(.agg #[pB b0_155_0 0, pB b0_155_1 0, pB b0_155_2 0], [], [red e32 u0_155_0_1 x_154.2.1, OE.bx b0_155_0 [vB x_154.1, u0_155_0_1], red e32 u0_155_1_1 x_154.2.2.2.1, OE.bx b0_155_1 [vB x_154.2.2.1, u0_155_1_1], red e32 u0_155_2_1 x_154.2.2.2.2.2, OE.bx b0_155_2 [vB x_154.2.2.2.2.1, u0_155_2_1]])] [OE.bx b_87 [pB b_96 0, pB b_100 0, pB b_104 0]] [red e32 u0_155_0_1 x_154.2.1, OE.bx b0_155_0 [vB x_154.1, u0_155_0_1], red e32 u0_155_1_1 x_154.2.2.2.1, OE.bx b0_155_1 [vB x_154.2.2.1, u0_155_1_1], red e32 u0_155_2_1 x_154.2.2.2.2.2, OE.bx b0_155_2 [vB x_154.2.2.2.2.1, u0_155_2_1]] _ rfl rfl (fun h v x y => rfl) rfl rfl rfl rfl ⟨_, _, _, b0_155_0, b0_155_1, b0_155_2, u0_155_0_1, u0_155_1_1, u0_155_2_1, rfl, rfl, rfl, rfl⟩ (fun w Sl Tl hZ hTT hA hP hS => ?_) ?_
   ·refine opy_imp (kL (i := 0) (us := [pB b0_155_0 0, pB b0_155_1 0, pB b0_155_2 0]) rfl sz64 rfl rfl rfl ⟨rfl, rfl, rfl, trivial⟩ rfl hS) ?_
    intro w hS
    exact ⟨_, _, ⟨b0_155_0, b0_155_1, b0_155_2, u0_155_0_1, u0_155_1_1, u0_155_2_1, rfl, rfl, rfl, rfl⟩, SfT.mk' hZ (Rds.cons (hA.nth 46 rfl) (Rds.cons (hA.nth 45 rfl) (Rds.cons (hA.nth 44 rfl) (Rds.cons (hA.nth 43 rfl) (Rds.cons (hA.nth 42 rfl) (Rds.cons (hA.nth 41 rfl) Rds.nil)))))) (Off.cons (hP.nth 46 rfl) (Off.cons (hP.nth 45 rfl) (Off.cons (hP.nth 44 rfl) (Off.cons (hP.nth 43 rfl) (Off.cons (hP.nth 42 rfl) (Off.cons (hP.nth 41 rfl) Off.nil)))))) hS⟩
   rintro v_q x_q y_q ⟨b0_155_0', b0_155_1', b0_155_2', u0_155_0_1', u0_155_1_1', u0_155_2_1', hh, rfl, rfl, rfl⟩
   replace hh : ([(.agg #[pB b0_155_0 0, pB b0_155_1 0, pB b0_155_2 0], [], [red e32 u0_155_0_1 x_154.2.1, OE.bx b0_155_0 [vB x_154.1, u0_155_0_1], red e32 u0_155_1_1 x_154.2.2.2.1, OE.bx b0_155_1 [vB x_154.2.2.1, u0_155_1_1], red e32 u0_155_2_1 x_154.2.2.2.2.2, OE.bx b0_155_2 [vB x_154.2.2.2.2.1, u0_155_2_1]])] : List Th) = [(.agg #[pB b0_155_0' 0, pB b0_155_1' 0, pB b0_155_2' 0], [], [red e32 u0_155_0_1' x_154.2.1, OE.bx b0_155_0' [vB x_154.1, u0_155_0_1'], red e32 u0_155_1_1' x_154.2.2.2.1, OE.bx b0_155_1' [vB x_154.2.2.1, u0_155_1_1'], red e32 u0_155_2_1' x_154.2.2.2.2.2, OE.bx b0_155_2' [vB x_154.2.2.2.2.1, u0_155_2_1']])] := hh
   cases hh
   refine lxME_nil fun w hQ => ?_
   obtain ⟨S_160, wb_161, hZ, hA, hP, hS⟩ := hQ
   refine kJ ?_
   refine ka (kc (kb 3 rfl ?_))
   refine ke ?_
   exact QE_rnd (wpN_le _ (by exact ⟨rfl, rfl, rfl, rfl, rfl, rfl, rfl, rfl, rfl, trivial⟩) (ih_109 (wI (x_95 - 1), x_154.1, x_154.2.1, x_154.2.2.1, x_154.2.2.2.1, x_154.2.2.2.2.1, x_154.2.2.2.2.2) _ _ ⟨b0_155_0, u0_155_0_1, b0_155_1, u0_155_1_1, b0_155_2, u0_155_2_1, rfl, (SfT.mk' hZ (Rds.cons (hA.nth 41 rfl) (Rds.cons (hA.nth 42 rfl) (Rds.cons (hA.nth 43 rfl) (Rds.cons (hA.nth 44 rfl) (Rds.cons (hA.nth 45 rfl) (Rds.cons (hA.nth 46 rfl) (Rds.cons (hA.nth 28 rfl) (Rds.cons (hA.nth 27 rfl) (Rds.cons (hA.nth 26 rfl) (Rds.cons (hA.nth 25 rfl) (Rds.cons (hA.nth 24 rfl) (Rds.cons (hA.nth 23 rfl) (Rds.cons (hA.nth 22 rfl) (Rds.cons (hA.nth 21 rfl) (Rds.cons (hA.nth 20 rfl) (Rds.cons (hA.nth 19 rfl) (Rds.cons (hA.nth 18 rfl) (Rds.cons (hA.nth 17 rfl) (Rds.cons (hA.nth 16 rfl) (Rds.cons (hA.nth 15 rfl) (Rds.cons (hA.nth 14 rfl) (Rds.cons (hA.nth 13 rfl) (Rds.cons (hA.nth 12 rfl) (Rds.cons (hA.nth 11 rfl) (Rds.cons (hA.nth 10 rfl) (Rds.cons (hA.nth 9 rfl) (Rds.cons (hA.nth 8 rfl) (Rds.cons (hA.nth 7 rfl) (Rds.cons (hA.nth 6 rfl) (Rds.cons (hA.nth 5 rfl) (Rds.cons (hA.nth 4 rfl) (Rds.cons (hA.nth 3 rfl) (Rds.cons (hA.nth 2 rfl) (Rds.cons (hA.nth 1 rfl) (Rds.cons (hA.nth 0 rfl) Rds.nil))))))))))))))))))))))))))))))))))) (Off.cons (hP.nth 41 rfl) (Off.cons (hP.nth 42 rfl) (Off.cons (hP.nth 43 rfl) (Off.cons (hP.nth 44 rfl) (Off.cons (hP.nth 45 rfl) (Off.cons (hP.nth 46 rfl) (Off.cons (hP.nth 28 rfl) (Off.cons (hP.nth 27 rfl) (Off.cons (hP.nth 26 rfl) (Off.cons (hP.nth 25 rfl) (Off.cons (hP.nth 24 rfl) (Off.cons (hP.nth 23 rfl) (Off.cons (hP.nth 22 rfl) (Off.cons (hP.nth 21 rfl) (Off.cons (hP.nth 20 rfl) (Off.cons (hP.nth 19 rfl) (Off.cons (hP.nth 18 rfl) (Off.cons (hP.nth 17 rfl) (Off.cons (hP.nth 16 rfl) (Off.cons (hP.nth 15 rfl) (Off.cons (hP.nth 14 rfl) (Off.cons (hP.nth 13 rfl) (Off.cons (hP.nth 12 rfl) (Off.cons (hP.nth 11 rfl) (Off.cons (hP.nth 10 rfl) (Off.cons (hP.nth 9 rfl) (Off.cons (hP.nth 8 rfl) (Off.cons (hP.nth 7 rfl) (Off.cons (hP.nth 6 rfl) (Off.cons (hP.nth 5 rfl) (Off.cons (hP.nth 4 rfl) (Off.cons (hP.nth 3 rfl) (Off.cons (hP.nth 2 rfl) (Off.cons (hP.nth 1 rfl) (Off.cons (hP.nth 0 rfl) Off.nil))))))))))))))))))))))))))))))))))) (hS.pick [1, 2, 3, 4, 0] (by decide) rfl))⟩ (kK h hk_108)))
  have h := if_f h hb_167
  refine kP ?_
  refine kw (kw ?_)
  have h := kF h hk_108
  refine kQ ?_
  refine ka (kd (kc (kb 1 rfl ?_)))
  refine kh (kG (us := [pB b_96 0, pB b_100 0, pB b_104 0]) Try.underlying64 rfl sz64 rfl (hS.bxs 4 rfl rfl)) rfl ?_
  obtain ⟨x_162, hx_162, h⟩ := kf h
  refine kj (by kernel_rfl) rfl (c_curve_group_show _ x_8.1 x_8.2.1 x_8.2.2.1 x_8.2.2.2.1 x_8.2.2.2.2.1 x_8.2.2.2.2.2.1 x_8.2.2.2.2.2.2.1 x_8.2.2.2.2.2.2.2.1 x_8.2.2.2.2.2.2.2.2.1 x_8.2.2.2.2.2.2.2.2.2.1 x_8.2.2.2.2.2.2.2.2.2.2.1 x_97 x_98 x_101 x_102 x_105 x_106 u0_6_0_1 u0_6_1_1 u0_6_2_1 u0_6_3_1 u0_6_4_1 v_99 v_103 v_107 b0_6 b0_6_0 b0_6_1 b0_6_2 b0_6_3 b0_6_4 b_96 b_100 b_104 ((hA.rp 0 rfl).now hS.fr).rp ((hA.rb 1 rfl).now hS.fr) ((hA.rp 2 rfl).now hS.fr).rp ((hA.rb 3 rfl).now hS.fr) ((hA.rp 4 rfl).now hS.fr).rp ((hA.rb 5 rfl).now hS.fr) ((hA.rp 6 rfl).now hS.fr).rp ((hA.rb 7 rfl).now hS.fr) ((hA.rp 8 rfl).now hS.fr).rp ((hA.rb 9 rfl).now hS.fr) ((hA.rb 10 rfl).now hS.fr) ((hA.rp 29 rfl).now hS.fr).rp ((hA.rb 30 rfl).now hS.fr) ((hA.rp 31 rfl).now hS.fr).rp ((hA.rb 32 rfl).now hS.fr) ((hA.rp 33 rfl).now hS.fr).rp ((hA.rb 34 rfl).now hS.fr) _ hx_162) rfl ?_
  rintro _ w ⟨v_163, v_165, rfl, hS1⟩
  have hS := hS.call hS1
  refine kW (kL (i := 2) (us := [v_163, v_165, vB x_162.2.2]) rfl sz26 rfl rfl rfl ⟨(hS.ro 0 rfl).one, (hS.ro 1 rfl).one, rfl, trivial⟩ rfl hS) ?_
  intro w hS
  refine kb 1 rfl ?_
  refine ke (ka (ko ?_))
  cases h
  replace hS := hZ.st hS
  exact QE_rv2 rfl ⟨_, rfl, run_ldAgg (us := [v_163, v_165, vB x_162.2.2]) Try.underlying26 rfl sz26 (hS.bxs 2 rfl rfl)⟩ rfl ⟨v_163, v_165, rfl, hS.pick [0, 1] (by decide) rfl⟩
end Go.Proofs
