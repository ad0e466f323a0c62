import Derived.Test.YtpbgncmffgnohaaTW0
import Derived.Test.YtpbgncmffgnohaaGkFcurve
import Derived.Test.YtpbgncmffgnohaaTWbignumc
import Derived.Test.YtpbgncmffgnohaaTWcurveb
import Derived.Test.YtpbgncmffgnohaaTWnat
set_option linter.unusedVariables false
set_option linter.unusedSimpArgs false
set_option linter.unusedVariables false
set_option maxRecDepth 4000
namespace Go.Proofs
open Go Go.RowKit Go.Gk
theorem c_curve_Add (w0 : World) (a0 : Int) (a1_0 : List UInt32) (a1_1 : List UInt32) (a1_2 : Bool) (a2_0 : List UInt32) (a2_1 : List UInt32) (a2_2 : Bool) (va1_0 : Value) (va1_1 : Value) (va2_0 : Value) (va2_1 : Value) (ha1_0 : RP [] w0 e32 va1_0 a1_0) (ha1_1 : RP [] w0 e32 va1_1 a1_1) (ha2_0 : RP [] w0 e32 va2_0 a2_0) (ha2_1 : RP [] w0 e32 va2_1 a2_1) (r : List UInt32 × List UInt32 × Bool × Int)
  (h : F.curve_Add a0 a1_0 a1_1 a1_2 a2_0 a2_1 a2_2 = some r) : Calls Try.prog 23 #[vI a0, .agg #[va1_0, va1_1, vB a1_2], .agg #[va2_0, va2_1, vB a2_2]] w0 (Ret fun v w => ∃ u0_0 u0_1 : Value, v = .tuple #[.agg #[u0_0, u0_1, vB r.2.2.1], vI r.2.2.2] ∧ St [] w0 w [own e32 u0_0 r.1, own e32 u0_1 r.2.1]) := by
 refine ky 41 Try.func23 rfl rfl rfl ?_
 have hS := St.start w0
 have hZ := Fz.start (S := []) (w0 := w0)
 have hTT : TOk [] [] w0 := TOk.nil
 have hA : Rds [] w0 [red e32 va2_1 a2_1, red e32 va2_0 a2_0, red e32 va1_1 a1_1, red e32 va1_0 a1_0] := Rds.cons (RP.kept (Nat.le_of_ble_eq_true rfl) ha2_1) (Rds.cons (RP.kept (Nat.le_of_ble_eq_true rfl) ha2_0) (Rds.cons (RP.kept (Nat.le_of_ble_eq_true rfl) ha1_1) (Rds.cons (RP.kept (Nat.le_of_ble_eq_true rfl) ha1_0) (Rds.nil))))
 have hP : Off [] [red e32 va2_1 a2_1, red e32 va2_0 a2_0, red e32 va1_1 a1_1, red e32 va1_0 a1_0] := Off.emp
 refine km [(0, vI a0), (1, .agg #[va1_0, va1_1, vB a1_2]), (2, .agg #[va2_0, va2_1, vB a2_2])] ⟨rfl, rfl, rfl, trivial⟩ ?_
 unfold F.curve_Add at h
 refine kd (kc (kV (OpX_box (cs := [va1_0, va1_1, vB a1_2]) rfl rfl hS) rfl ?_))
 rintro _ w ⟨b_1, rfl, hS⟩
 refine kV (OpX_box (cs := [va2_0, va2_1, vB a2_2]) rfl rfl hS) rfl ?_
 rintro _ w ⟨b_3, rfl, hS⟩
 refine kV (kD (cs := [.slice none 0 0, .slice none 0 0, vB false]) tz26 rfl hS) rfl ?_
 rintro _ w ⟨b_5, rfl, hS⟩
 refine kb 1 rfl ?_
 refine ke (ka (kd (kc (kb 1 rfl ?_))))
 refine kh (kG (us := [va1_0, va1_1, vB a1_2]) Try.underlying26 rfl sz26 rfl (hS.bxs 2 rfl rfl)) rfl ?_
 replace hS := hS.pick (os' := [] ++ [OE.bx b_5 [.slice none 0 0, .slice none 0 0, vB false], OE.bx b_3 [va2_0, va2_1, vB a2_2], OE.bx b_1 [va1_0, va1_1, vB a1_2]]) [0, 1, 2] (by decide) rfl
 obtain ⟨hZ, hA, hP, hS⟩ := hZ.frzK hTT hA hP hS
 obtain ⟨x_7, hx_7, h⟩ := kf h
 refine kj (by kernel_rfl) rfl (c_curve_take _ a0 a1_0 a1_1 a1_2 va1_0 va1_1  _ (hZ.okT hTT hS) (hA.rpT hP 0 rfl) (hA.rpT hP 1 rfl) _ hx_7) rfl ?_
 rintro v_q w hQ
 cases hc_9 : x_7.1 with
 | none =>
  have h := ocase_n h hc_9
  rw [hc_9] at hQ
  obtain ⟨rfl, hS1⟩ := ocaseP_n' hQ
  obtain ⟨S_11, wb_12, hZ, hA, hP, hS⟩ := hZ.callK hA hP hS hS1 Rds.nil rfl
  refine kb 4 rfl ?_
  refine kV (kD (cs := [.pointer none, .pointer none, .pointer none]) tz64 rfl hS) rfl ?_
  rintro _ w ⟨b_15, rfl, hS⟩
  refine kb 1 rfl ?_
  refine kW (kL (i := 0) (us := [.pointer none, .pointer none, .pointer none]) rfl sz64 rfl rfl rfl ⟨rfl, rfl, rfl, trivial⟩ rfl hS) ?_
  intro w hS
  refine kb 1 rfl ?_
  refine ke (ka (kd (kc (kb 1 rfl ?_))))
  refine kh (kG (us := [va2_0, va2_1, vB a2_2]) Try.underlying26 rfl sz26 rfl (hS.bxs 2 rfl rfl)) rfl ?_
  replace hS := hS.pick (os' := [] ++ [OE.bx b_15 [.pointer none, .pointer none, .pointer none], OE.bx b_5 [.slice none 0 0, .slice none 0 0, vB false], OE.bx b_3 [va2_0, va2_1, vB a2_2], OE.bx b_1 [va1_0, va1_1, vB a1_2]]) [0, 1, 2, 3] (by decide) rfl
  obtain ⟨hZ, hA, hP, hS⟩ := hZ.frzK hTT hA hP hS
  obtain ⟨x_17, hx_17, h⟩ := kf h
  refine kj (by kernel_rfl) rfl (c_curve_take _ a0 a2_0 a2_1 a2_2 va2_0 va2_1  _ (hZ.okT hTT hS) (hA.rpT hP 2 rfl) (hA.rpT hP 3 rfl) _ hx_17) rfl ?_
  rintro v_q w hQ
  cases hc_19 : x_17.1 with
  | none =>
   have h := ocase_n h hc_19
   rw [hc_19] at hQ
   obtain ⟨rfl, hS1⟩ := ocaseP_n' hQ
   obtain ⟨S_21, wb_22, hZ, hA, hP, hS⟩ := hZ.callK hA hP hS hS1 Rds.nil rfl
   refine kb 4 rfl ?_
   refine kV (kD (cs := [.pointer none, .pointer none, .pointer none]) tz64 rfl hS) rfl ?_
   rintro _ w ⟨b_25, rfl, hS⟩
   refine kb 1 rfl ?_
   refine kW (kL (i := 0) (us := [.pointer none, .pointer none, .pointer none]) rfl sz64 rfl rfl rfl ⟨rfl, rfl, rfl, trivial⟩ rfl hS) ?_
   intro w hS
   refine kb 1 rfl ?_
   refine ke (ka (kd ?_))
   refine kN (r := r) (fun (g : Bool) L w => L = [(6, pB b_5 0), (8, .pointer none), (9, pB b_15 0), (12, pB b_25 0), (33, vB g)] ∧ SfT [] [] w0 w [] [OE.bx b_5 [.slice none 0 0, .slice none 0 0, vB false], OE.bx b_15 [.pointer none, .pointer none, .pointer none], OE.bx b_25 [.pointer none, .pointer none, .pointer none]]) (F.curve_Add_K1) ?_ ?_
   rotate_left
   ·intro hK_31
    refine kc (kb 3 rfl ?_)
    cases hb_27 : (!x_7.2)
    case true =>
     have h := if_t h hb_27
     try simp only [hb_27]
     refine kb 3 rfl ?_
     refine ke (ka ?_)
     exact km _ (by exact ⟨rfl, rfl, rfl, rfl, rfl, trivial⟩) (hK_31 true _ _ ⟨rfl, (SfT.mk' hZ Rds.nil Off.nil (hS.pick [2, 1, 0] (by decide) rfl))⟩ h)
    case false =>
     have h := if_f h hb_27
     try simp only [hb_27]
     refine kb 3 rfl ?_
     refine ke (ka ?_)
     exact km _ (by exact ⟨rfl, rfl, rfl, rfl, rfl, trivial⟩) (hK_31 (!x_17.2) _ _ ⟨rfl, (SfT.mk' hZ Rds.nil Off.nil (hS.pick [2, 1, 0] (by decide) rfl))⟩ h)
   rintro x_30 L w hJ h
   try dsimp only at hJ
   obtain ⟨rfl, ⟨S_28, wb_29, hZ, hA, hP, hS⟩⟩ := hJ
   unfold F.curve_Add_K1 at h
   refine kn rfl (fun hb_32 => ?_) (fun hb_32 => ?_)
   ·have h := if_t h hb_32
    refine kd (kc (kh (OpV_build (vs := []) (cells := [.slice none 0 0, .slice none 0 0, vB false]) rfl lay26 trivial rfl) rfl (kW (kL (i := 0) (us := [.slice none 0 0, .slice none 0 0, vB false]) rfl sz26 rfl rfl rfl ⟨rfl, rfl, rfl, trivial⟩ rfl hS) ?_)))
    intro w hS
    refine kb 1 rfl ?_
    refine ke (ka (ko (ku ?_)))
    cases h
    replace hS := hZ.st hS
    exact QE_rv2 rfl ⟨_, rfl, run_ldAgg (us := [.slice none 0 0, .slice none 0 0, vB false]) Try.underlying26 rfl sz26 (hS.bxs 0 rfl rfl)⟩ rfl ⟨.slice none 0 0, .slice none 0 0, rfl, ((hS.nil e32).nil e32).pick [1, 0] (by decide) rfl⟩
   have h := if_f h hb_32
   refine kq (ka (kd (kc (kb 2 rfl ?_))))
   refine kh (kG (us := [.pointer none, .pointer none, .pointer none]) Try.underlying64 rfl sz64 rfl (hS.bxs 1 rfl rfl)) rfl (kh (kG (us := [.pointer none, .pointer none, .pointer none]) Try.underlying64 rfl sz64 rfl (hS.bxs 2 rfl rfl)) rfl ?_)
   replace hS := hS.pick (os' := [] ++ [OE.bx b_5 [.slice none 0 0, .slice none 0 0, vB false], OE.bx b_15 [.pointer none, .pointer none, .pointer none], OE.bx b_25 [.pointer none, .pointer none, .pointer none]]) [0, 1, 2] (by decide) rfl
   obtain ⟨hZ, hA, hP, hS⟩ := hZ.frzK hTT hA hP hS
   cases h
  | some x_20 =>
   have h := ocase_s h hc_19
   rw [hc_19] at hQ
   obtain ⟨b0_18, b0_18_0, u0_18_0_1, b0_18_1, u0_18_1_1, b0_18_2, u0_18_2_1, b0_18_3, u0_18_3_1, b0_18_4, u0_18_4_1, b1_18_0, u1_18_0_1, b1_18_1, u1_18_1_1, b1_18_2, u1_18_2_1, rfl, hS1, hR1⟩ := ocaseP_s' hQ
   obtain ⟨S_23, wb_24, hZ, hA, hP, hS⟩ := hZ.callK hA hP hS hS1 hR1 rfl
   refine kb 4 rfl ?_
   refine kV (kD (cs := [.pointer none, .pointer none, .pointer none]) tz64 rfl hS) rfl ?_
   rintro _ w ⟨b_33, rfl, hS⟩
   refine kb 1 rfl ?_
   refine kW (kL (i := 0) (us := [pB b1_18_0 0, pB b1_18_1 0, pB b1_18_2 0]) rfl sz64 rfl rfl rfl ⟨rfl, rfl, rfl, trivial⟩ rfl hS) ?_
   intro w hS
   refine kb 1 rfl ?_
   refine ke (ka (kd ?_))
   refine kN (r := r) (fun (g : Bool) L w => L = [(6, pB b_5 0), (8, .pointer none), (9, pB b_15 0), (12, pB b_33 0), (33, vB g)] ∧ SfT [] [] w0 w [OE.bx b1_18_2 [vB x_20.2.2.2.2.2.2.2.2.2.2.2.2.2.2.2.1, u1_18_2_1], red e32 u1_18_2_1 x_20.2.2.2.2.2.2.2.2.2.2.2.2.2.2.2.2, OE.bx b1_18_1 [vB x_20.2.2.2.2.2.2.2.2.2.2.2.2.2.1, u1_18_1_1], red e32 u1_18_1_1 x_20.2.2.2.2.2.2.2.2.2.2.2.2.2.2.1, OE.bx b1_18_0 [vB x_20.2.2.2.2.2.2.2.2.2.2.2.1, u1_18_0_1], red e32 u1_18_0_1 x_20.2.2.2.2.2.2.2.2.2.2.2.2.1] [OE.bx b_5 [.slice none 0 0, .slice none 0 0, vB false], OE.bx b_15 [.pointer none, .pointer none, .pointer none], OE.bx b_33 [pB b1_18_0 0, pB b1_18_1 0, pB b1_18_2 0]]) (F.curve_Add_K2) ?_ ?_
   rotate_left
   ·intro hK_39
    refine kc (kb 3 rfl ?_)
    cases hb_35 : (!x_7.2)
    case true =>
     have h := if_t h hb_35
     try simp only [hb_35]
     refine kb 3 rfl ?_
     refine ke (ka ?_)
     exact km _ (by exact ⟨rfl, rfl, rfl, rfl, rfl, trivial⟩) (hK_39 true _ _ ⟨rfl, (SfT.mk' hZ (Rds.cons (hA.nth 20 rfl) (Rds.cons (hA.nth 19 rfl) (Rds.cons (hA.nth 18 rfl) (Rds.cons (hA.nth 17 rfl) (Rds.cons (hA.nth 16 rfl) (Rds.cons (hA.nth 15 rfl) Rds.nil)))))) (Off.cons (hP.nth 20 rfl) (Off.cons (hP.nth 19 rfl) (Off.cons (hP.nth 18 rfl) (Off.cons (hP.nth 17 rfl) (Off.cons (hP.nth 16 rfl) (Off.cons (hP.nth 15 rfl) Off.nil)))))) (hS.pick [2, 1, 0] (by decide) rfl))⟩ h)
    case false =>
     have h := if_f h hb_35
     try simp only [hb_35]
     refine kb 3 rfl ?_
     refine ke (ka ?_)
     exact km _ (by exact ⟨rfl, rfl, rfl, rfl, rfl, trivial⟩) (hK_39 (!x_17.2) _ _ ⟨rfl, (SfT.mk' hZ (Rds.cons (hA.nth 20 rfl) (Rds.cons (hA.nth 19 rfl) (Rds.cons (hA.nth 18 rfl) (Rds.cons (hA.nth 17 rfl) (Rds.cons (hA.nth 16 rfl) (Rds.cons (hA.nth 15 rfl) Rds.nil)))))) (Off.cons (hP.nth 20 rfl) (Off.cons (hP.nth 19 rfl) (Off.cons (hP.nth 18 rfl) (Off.cons (hP.nth 17 rfl) (Off.cons (hP.nth 16 rfl) (Off.cons (hP.nth 15 rfl) Off.nil)))))) (hS.pick [2, 1, 0] (by decide) rfl))⟩ h)
   rintro x_38 L w hJ h
   try dsimp only at hJ
   obtain ⟨rfl, ⟨S_36, wb_37, hZ, hA, hP, hS⟩⟩ := hJ
   unfold F.curve_Add_K2 at h
   refine kn rfl (fun hb_40 => ?_) (fun hb_40 => ?_)
   ·have h := if_t h hb_40
    refine kd (kc (kh (OpV_build (vs := []) (cells := [.slice none 0 0, .slice none 0 0, vB false]) rfl lay26 trivial rfl) rfl (kW (kL (i := 0) (us := [.slice none 0 0, .slice none 0 0, vB false]) rfl sz26 rfl rfl rfl ⟨rfl, rfl, rfl, trivial⟩ rfl hS) ?_)))
    intro w hS
    refine kb 1 rfl ?_
    refine ke (ka (ko (ku ?_)))
    cases h
    replace hS := hZ.st hS
    exact QE_rv2 rfl ⟨_, rfl, run_ldAgg (us := [.slice none 0 0, .slice none 0 0, vB false]) Try.underlying26 rfl sz26 (hS.bxs 0 rfl rfl)⟩ rfl ⟨.slice none 0 0, .slice none 0 0, rfl, ((hS.nil e32).nil e32).pick [1, 0] (by decide) rfl⟩
   have h := if_f h hb_40
   refine kq (ka (kd (kc (kb 2 rfl ?_))))
   refine kh (kG (us := [.pointer none, .pointer none, .pointer none]) Try.underlying64 rfl sz64 rfl (hS.bxs 1 rfl rfl)) rfl (kh (kG (us := [pB b1_18_0 0, pB b1_18_1 0, pB b1_18_2 0]) Try.underlying64 rfl sz64 rfl (hS.bxs 2 rfl rfl)) rfl ?_)
   replace hS := hS.pick (os' := [] ++ [OE.bx b_5 [.slice none 0 0, .slice none 0 0, vB false], OE.bx b_15 [.pointer none, .pointer none, .pointer none], OE.bx b_33 [pB b1_18_0 0, pB b1_18_1 0, pB b1_18_2 0]]) [0, 1, 2] (by decide) rfl
   obtain ⟨hZ, hA, hP, hS⟩ := hZ.frzK hTT hA hP hS
   cases h
 | some x_10 =>
  have h := ocase_s h hc_9
  rw [hc_9] at hQ
  obtain ⟨b0_8, b0_8_0, u0_8_0_1, b0_8_1, u0_8_1_1, b0_8_2, u0_8_2_1, b0_8_3, u0_8_3_1, b0_8_4, u0_8_4_1, b1_8_0, u1_8_0_1, b1_8_1, u1_8_1_1, b1_8_2, u1_8_2_1, rfl, hS1, hR1⟩ := ocaseP_s' hQ
  obtain ⟨S_13, wb_14, hZ, hA, hP, hS⟩ := hZ.callK hA hP hS hS1 hR1 rfl
  refine kb 4 rfl ?_
  refine kV (kD (cs := [.pointer none, .pointer none, .pointer none]) tz64 rfl hS) rfl ?_
  rintro _ w ⟨b_41, rfl, hS⟩
  refine kb 1 rfl ?_
  refine kW (kL (i := 0) (us := [pB b1_8_0 0, pB b1_8_1 0, pB b1_8_2 0]) rfl sz64 rfl rfl rfl ⟨rfl, rfl, rfl, trivial⟩ rfl hS) ?_
  intro w hS
  refine kb 1 rfl ?_
  refine ke (ka (kd (kc (kb 1 rfl ?_))))
  refine kh (kG (us := [va2_0, va2_1, vB a2_2]) Try.underlying26 rfl sz26 rfl (hS.bxs 2 rfl rfl)) rfl ?_
  replace hS := hS.pick (os' := [] ++ [OE.bx b_41 [pB b1_8_0 0, pB b1_8_1 0, pB b1_8_2 0], OE.bx b_5 [.slice none 0 0, .slice none 0 0, vB false], OE.bx b_3 [va2_0, va2_1, vB a2_2], OE.bx b_1 [va1_0, va1_1, vB a1_2]]) [0, 1, 2, 3] (by decide) rfl
  obtain ⟨hZ, hA, hP, hS⟩ := hZ.frzK hTT hA hP hS
  obtain ⟨x_43, hx_43, h⟩ := kf h
  refine kj (by kernel_rfl) rfl (c_curve_take _ a0 a2_0 a2_1 a2_2 va2_0 va2_1  _ (hZ.okT hTT hS) (hA.rpT hP 2 rfl) (hA.rpT hP 3 rfl) _ hx_43) rfl ?_
  rintro v_q w hQ
  cases hc_45 : x_43.1 with
  | none =>
   have h := ocase_n h hc_45
   rw [hc_45] at hQ
   obtain ⟨rfl, hS1⟩ := ocaseP_n' hQ
   obtain ⟨S_47, wb_48, hZ, hA, hP, hS⟩ := hZ.callK hA hP hS hS1 Rds.nil rfl
   refine kb 4 rfl ?_
   refine kV (kD (cs := [.pointer none, .pointer none, .pointer none]) tz64 rfl hS) rfl ?_
   rintro _ w ⟨b_51, rfl, hS⟩
   refine kb 1 rfl ?_
   refine kW (kL (i := 0) (us := [.pointer none, .pointer none, .pointer none]) rfl sz64 rfl rfl rfl ⟨rfl, rfl, rfl, trivial⟩ rfl hS) ?_
   intro w hS
   refine kb 1 rfl ?_
   refine ke (ka (kd ?_))
   refine kN (r := r) (fun (g : Bool) L w => L = [(6, pB b_5 0), (8, pB b0_8 0), (9, pB b_41 0), (12, pB b_51 0), (33, vB g)] ∧ SfT [] [] w0 w [OE.bx b1_8_2 [vB x_10.2.2.2.2.2.2.2.2.2.2.2.2.2.2.2.1, u1_8_2_1], red e32 u1_8_2_1 x_10.2.2.2.2.2.2.2.2.2.2.2.2.2.2.2.2, OE.bx b1_8_1 [vB x_10.2.2.2.2.2.2.2.2.2.2.2.2.2.1, u1_8_1_1], red e32 u1_8_1_1 x_10.2.2.2.2.2.2.2.2.2.2.2.2.2.2.1, OE.bx b1_8_0 [vB x_10.2.2.2.2.2.2.2.2.2.2.2.1, u1_8_0_1], red e32 u1_8_0_1 x_10.2.2.2.2.2.2.2.2.2.2.2.2.1, OE.bx b0_8 [pB b0_8_0 0, pB b0_8_1 0, pB b0_8_2 0, pB b0_8_3 0, pB b0_8_4 0, vI x_10.2.2.2.2.2.2.2.2.2.2.1, .func (.func 91) #[] #[]], OE.bx b0_8_4 [vB x_10.2.2.2.2.2.2.2.2.1, u0_8_4_1], red e32 u0_8_4_1 x_10.2.2.2.2.2.2.2.2.2.1, OE.bx b0_8_3 [vB x_10.2.2.2.2.2.2.1, u0_8_3_1], red e32 u0_8_3_1 x_10.2.2.2.2.2.2.2.1, OE.bx b0_8_2 [vB x_10.2.2.2.2.1, u0_8_2_1], red e32 u0_8_2_1 x_10.2.2.2.2.2.1, OE.bx b0_8_1 [vB x_10.2.2.1, u0_8_1_1], red e32 u0_8_1_1 x_10.2.2.2.1, OE.bx b0_8_0 [vB x_10.1, u0_8_0_1], red e32 u0_8_0_1 x_10.2.1] [OE.bx b_5 [.slice none 0 0, .slice none 0 0, vB false], OE.bx b_41 [pB b1_8_0 0, pB b1_8_1 0, pB b1_8_2 0], OE.bx b_51 [.pointer none, .pointer none, .pointer none]]) (F.curve_Add_K3) ?_ ?_
   rotate_left
   ·intro hK_57
    refine kc (kb 3 rfl ?_)
    cases hb_53 : (!x_7.2)
    case true =>
     have h := if_t h hb_53
     try simp only [hb_53]
     refine kb 3 rfl ?_
     refine ke (ka ?_)
     exact km _ (by exact ⟨rfl, rfl, rfl, rfl, rfl, trivial⟩) (hK_57 true _ _ ⟨rfl, (SfT.mk' hZ (Rds.cons (hA.nth 20 rfl) (Rds.cons (hA.nth 19 rfl) (Rds.cons (hA.nth 18 rfl) (Rds.cons (hA.nth 17 rfl) (Rds.cons (hA.nth 16 rfl) (Rds.cons (hA.nth 15 rfl) (Rds.cons (hA.nth 14 rfl) (Rds.cons (hA.nth 13 rfl) (Rds.cons (hA.nth 12 rfl) (Rds.cons (hA.nth 11 rfl) (Rds.cons (hA.nth 10 rfl) (Rds.cons (hA.nth 9 rfl) (Rds.cons (hA.nth 8 rfl) (Rds.cons (hA.nth 7 rfl) (Rds.cons (hA.nth 6 rfl) (Rds.cons (hA.nth 5 rfl) (Rds.cons (hA.nth 4 rfl) Rds.nil))))))))))))))))) (Off.cons (hP.nth 20 rfl) (Off.cons (hP.nth 19 rfl) (Off.cons (hP.nth 18 rfl) (Off.cons (hP.nth 17 rfl) (Off.cons (hP.nth 16 rfl) (Off.cons (hP.nth 15 rfl) (Off.cons (hP.nth 14 rfl) (Off.cons (hP.nth 13 rfl) (Off.cons (hP.nth 12 rfl) (Off.cons (hP.nth 11 rfl) (Off.cons (hP.nth 10 rfl) (Off.cons (hP.nth 9 rfl) (Off.cons (hP.nth 8 rfl) (Off.cons (hP.nth 7 rfl) (Off.cons (hP.nth 6 rfl) (Off.cons (hP.nth 5 rfl) (Off.cons (hP.nth 4 rfl) Off.nil))))))))))))))))) (hS.pick [2, 1, 0] (by decide) rfl))⟩ h)
    case false =>
     have h := if_f h hb_53
     try simp only [hb_53]
     refine kb 3 rfl ?_
     refine ke (ka ?_)
     exact km _ (by exact ⟨rfl, rfl, rfl, rfl, rfl, trivial⟩) (hK_57 (!x_43.2) _ _ ⟨rfl, (SfT.mk' hZ (Rds.cons (hA.nth 20 rfl) (Rds.cons (hA.nth 19 rfl) (Rds.cons (hA.nth 18 rfl) (Rds.cons (hA.nth 17 rfl) (Rds.cons (hA.nth 16 rfl) (Rds.cons (hA.nth 15 rfl) (Rds.cons (hA.nth 14 rfl) (Rds.cons (hA.nth 13 rfl) (Rds.cons (hA.nth 12 rfl) (Rds.cons (hA.nth 11 rfl) (Rds.cons (hA.nth 10 rfl) (Rds.cons (hA.nth 9 rfl) (Rds.cons (hA.nth 8 rfl) (Rds.cons (hA.nth 7 rfl) (Rds.cons (hA.nth 6 rfl) (Rds.cons (hA.nth 5 rfl) (Rds.cons (hA.nth 4 rfl) Rds.nil))))))))))))))))) (Off.cons (hP.nth 20 rfl) (Off.cons (hP.nth 19 rfl) (Off.cons (hP.nth 18 rfl) (Off.cons (hP.nth 17 rfl) (Off.cons (hP.nth 16 rfl) (Off.cons (hP.nth 15 rfl) (Off.cons (hP.nth 14 rfl) (Off.cons (hP.nth 13 rfl) (Off.cons (hP.nth 12 rfl) (Off.cons (hP.nth 11 rfl) (Off.cons (hP.nth 10 rfl) (Off.cons (hP.nth 9 rfl) (Off.cons (hP.nth 8 rfl) (Off.cons (hP.nth 7 rfl) (Off.cons (hP.nth 6 rfl) (Off.cons (hP.nth 5 rfl) (Off.cons (hP.nth 4 rfl) Off.nil))))))))))))))))) (hS.pick [2, 1, 0] (by decide) rfl))⟩ h)
   rintro x_56 L w hJ h
   try dsimp only at hJ
   obtain ⟨rfl, ⟨S_54, wb_55, hZ, hA, hP, hS⟩⟩ := hJ
   unfold F.curve_Add_K3 at h
   refine kn rfl (fun hb_58 => ?_) (fun hb_58 => ?_)
   ·have h := if_t h hb_58
    refine kd (kc (kh (OpV_build (vs := []) (cells := [.slice none 0 0, .slice none 0 0, vB false]) rfl lay26 trivial rfl) rfl (kW (kL (i := 0) (us := [.slice none 0 0, .slice none 0 0, vB false]) rfl sz26 rfl rfl rfl ⟨rfl, rfl, rfl, trivial⟩ rfl hS) ?_)))
    intro w hS
    refine kb 1 rfl ?_
    refine ke (ka (ko (ku ?_)))
    cases h
    replace hS := hZ.st hS
    exact QE_rv2 rfl ⟨_, rfl, run_ldAgg (us := [.slice none 0 0, .slice none 0 0, vB false]) Try.underlying26 rfl sz26 (hS.bxs 0 rfl rfl)⟩ rfl ⟨.slice none 0 0, .slice none 0 0, rfl, ((hS.nil e32).nil e32).pick [1, 0] (by decide) rfl⟩
   have h := if_f h hb_58
   refine kq (ka (kd (kc (kb 2 rfl ?_))))
   refine kh (kG (us := [pB b1_8_0 0, pB b1_8_1 0, pB b1_8_2 0]) Try.underlying64 rfl sz64 rfl (hS.bxs 1 rfl rfl)) rfl (kh (kG (us := [.pointer none, .pointer none, .pointer none]) Try.underlying64 rfl sz64 rfl (hS.bxs 2 rfl rfl)) rfl ?_)
   replace hS := hS.pick (os' := [] ++ [OE.bx b_5 [.slice none 0 0, .slice none 0 0, vB false], OE.bx b_41 [pB b1_8_0 0, pB b1_8_1 0, pB b1_8_2 0], OE.bx b_51 [.pointer none, .pointer none, .pointer none]]) [0, 1, 2] (by decide) rfl
   obtain ⟨hZ, hA, hP, hS⟩ := hZ.frzK hTT hA hP hS
   cases h
  | some x_46 =>
   have h := ocase_s h hc_45
   rw [hc_45] at hQ
   obtain ⟨b0_44, b0_44_0, u0_44_0_1, b0_44_1, u0_44_1_1, b0_44_2, u0_44_2_1, b0_44_3, u0_44_3_1, b0_44_4, u0_44_4_1, b1_44_0, u1_44_0_1, b1_44_1, u1_44_1_1, b1_44_2, u1_44_2_1, rfl, hS1, hR1⟩ := ocaseP_s' hQ
   obtain ⟨S_49, wb_50, hZ, hA, hP, hS⟩ := hZ.callK hA hP hS hS1 hR1 rfl
   refine kb 4 rfl ?_
   refine kV (kD (cs := [.pointer none, .pointer none, .pointer none]) tz64 rfl hS) rfl ?_
   rintro _ w ⟨b_59, rfl, hS⟩
   refine kb 1 rfl ?_
   refine kW (kL (i := 0) (us := [pB b1_44_0 0, pB b1_44_1 0, pB b1_44_2 0]) rfl sz64 rfl rfl rfl ⟨rfl, rfl, rfl, trivial⟩ rfl hS) ?_
   intro w hS
   refine kb 1 rfl ?_
   refine ke (ka (kd ?_))
   refine kN (r := r) (fun (g : Bool) L w => L = [(6, pB b_5 0), (8, pB b0_8 0), (9, pB b_41 0), (12, pB b_59 0), (33, vB g)] ∧ SfT [] [] w0 w [OE.bx b1_44_2 [vB x_46.2.2.2.2.2.2.2.2.2.2.2.2.2.2.2.1, u1_44_2_1], red e32 u1_44_2_1 x_46.2.2.2.2.2.2.2.2.2.2.2.2.2.2.2.2, OE.bx b1_44_1 [vB x_46.2.2.2.2.2.2.2.2.2.2.2.2.2.1, u1_44_1_1], red e32 u1_44_1_1 x_46.2.2.2.2.2.2.2.2.2.2.2.2.2.2.1, OE.bx b1_44_0 [vB x_46.2.2.2.2.2.2.2.2.2.2.2.1, u1_44_0_1], red e32 u1_44_0_1 x_46.2.2.2.2.2.2.2.2.2.2.2.2.1, OE.bx b1_8_2 [vB x_10.2.2.2.2.2.2.2.2.2.2.2.2.2.2.2.1, u1_8_2_1], red e32 u1_8_2_1 x_10.2.2.2.2.2.2.2.2.2.2.2.2.2.2.2.2, OE.bx b1_8_1 [vB x_10.2.2.2.2.2.2.2.2.2.2.2.2.2.1, u1_8_1_1], red e32 u1_8_1_1 x_10.2.2.2.2.2.2.2.2.2.2.2.2.2.2.1, OE.bx b1_8_0 [vB x_10.2.2.2.2.2.2.2.2.2.2.2.1, u1_8_0_1], red e32 u1_8_0_1 x_10.2.2.2.2.2.2.2.2.2.2.2.2.1, OE.bx b0_8 [pB b0_8_0 0, pB b0_8_1 0, pB b0_8_2 0, pB b0_8_3 0, pB b0_8_4 0, vI x_10.2.2.2.2.2.2.2.2.2.2.1, .func (.func 91) #[] #[]], OE.bx b0_8_4 [vB x_10.2.2.2.2.2.2.2.2.1, u0_8_4_1], red e32 u0_8_4_1 x_10.2.2.2.2.2.2.2.2.2.1, OE.bx b0_8_3 [vB x_10.2.2.2.2.2.2.1, u0_8_3_1], red e32 u0_8_3_1 x_10.2.2.2.2.2.2.2.1, OE.bx b0_8_2 [vB x_10.2.2.2.2.1, u0_8_2_1], red e32 u0_8_2_1 x_10.2.2.2.2.2.1, OE.bx b0_8_1 [vB x_10.2.2.1, u0_8_1_1], red e32 u0_8_1_1 x_10.2.2.2.1, OE.bx b0_8_0 [vB x_10.1, u0_8_0_1], red e32 u0_8_0_1 x_10.2.1] [OE.bx b_5 [.slice none 0 0, .slice none 0 0, vB false], OE.bx b_41 [pB b1_8_0 0, pB b1_8_1 0, pB b1_8_2 0], OE.bx b_59 [pB b1_44_0 0, pB b1_44_1 0, pB b1_44_2 0]]) (F.curve_Add_K4 x_10 x_46) ?_ ?_
   rotate_left
   ·intro hK_65
    refine kc (kb 3 rfl ?_)
    cases hb_61 : (!x_7.2)
    case true =>
     have h := if_t h hb_61
     try simp only [hb_61]
     refine kb 3 rfl ?_
     refine ke (ka ?_)
     exact km _ (by exact ⟨rfl, rfl, rfl, rfl, rfl, trivial⟩) (hK_65 true _ _ ⟨rfl, (SfT.mk' hZ (Rds.cons (hA.nth 37 rfl) (Rds.cons (hA.nth 36 rfl) (Rds.cons (hA.nth 35 rfl) (Rds.cons (hA.nth 34 rfl) (Rds.cons (hA.nth 33 rfl) (Rds.cons (hA.nth 32 rfl) (Rds.cons (hA.nth 20 rfl) (Rds.cons (hA.nth 19 rfl) (Rds.cons (hA.nth 18 rfl) (Rds.cons (hA.nth 17 rfl) (Rds.cons (hA.nth 16 rfl) (Rds.cons (hA.nth 15 rfl) (Rds.cons (hA.nth 14 rfl) (Rds.cons (hA.nth 13 rfl) (Rds.cons (hA.nth 12 rfl) (Rds.cons (hA.nth 11 rfl) (Rds.cons (hA.nth 10 rfl) (Rds.cons (hA.nth 9 rfl) (Rds.cons (hA.nth 8 rfl) (Rds.cons (hA.nth 7 rfl) (Rds.cons (hA.nth 6 rfl) (Rds.cons (hA.nth 5 rfl) (Rds.cons (hA.nth 4 rfl) Rds.nil))))))))))))))))))))))) (Off.cons (hP.nth 37 rfl) (Off.cons (hP.nth 36 rfl) (Off.cons (hP.nth 35 rfl) (Off.cons (hP.nth 34 rfl) (Off.cons (hP.nth 33 rfl) (Off.cons (hP.nth 32 rfl) (Off.cons (hP.nth 20 rfl) (Off.cons (hP.nth 19 rfl) (Off.cons (hP.nth 18 rfl) (Off.cons (hP.nth 17 rfl) (Off.cons (hP.nth 16 rfl) (Off.cons (hP.nth 15 rfl) (Off.cons (hP.nth 14 rfl) (Off.cons (hP.nth 13 rfl) (Off.cons (hP.nth 12 rfl) (Off.cons (hP.nth 11 rfl) (Off.cons (hP.nth 10 rfl) (Off.cons (hP.nth 9 rfl) (Off.cons (hP.nth 8 rfl) (Off.cons (hP.nth 7 rfl) (Off.cons (hP.nth 6 rfl) (Off.cons (hP.nth 5 rfl) (Off.cons (hP.nth 4 rfl) Off.nil))))))))))))))))))))))) (hS.pick [2, 1, 0] (by decide) rfl))⟩ h)
    case false =>
     have h := if_f h hb_61
     try simp only [hb_61]
     refine kb 3 rfl ?_
     refine ke (ka ?_)
     exact km _ (by exact ⟨rfl, rfl, rfl, rfl, rfl, trivial⟩) (hK_65 (!x_43.2) _ _ ⟨rfl, (SfT.mk' hZ (Rds.cons (hA.nth 37 rfl) (Rds.cons (hA.nth 36 rfl) (Rds.cons (hA.nth 35 rfl) (Rds.cons (hA.nth 34 rfl) (Rds.cons (hA.nth 33 rfl) (Rds.cons (hA.nth 32 rfl) (Rds.cons (hA.nth 20 rfl) (Rds.cons (hA.nth 19 rfl) (Rds.cons (hA.nth 18 rfl) (Rds.cons (hA.nth 17 rfl) (Rds.cons (hA.nth 16 rfl) (Rds.cons (hA.nth 15 rfl) (Rds.cons (hA.nth 14 rfl) (Rds.cons (hA.nth 13 rfl) (Rds.cons (hA.nth 12 rfl) (Rds.cons (hA.nth 11 rfl) (Rds.cons (hA.nth 10 rfl) (Rds.cons (hA.nth 9 rfl) (Rds.cons (hA.nth 8 rfl) (Rds.cons (hA.nth 7 rfl) (Rds.cons (hA.nth 6 rfl) (Rds.cons (hA.nth 5 rfl) (Rds.cons (hA.nth 4 rfl) Rds.nil))))))))))))))))))))))) (Off.cons (hP.nth 37 rfl) (Off.cons (hP.nth 36 rfl) (Off.cons (hP.nth 35 rfl) (Off.cons (hP.nth 34 rfl) (Off.cons (hP.nth 33 rfl) (Off.cons (hP.nth 32 rfl) (Off.cons (hP.nth 20 rfl) (Off.cons (hP.nth 19 rfl) (Off.cons (hP.nth 18 rfl) (Off.cons (hP.nth 17 rfl) (Off.cons (hP.nth 16 rfl) (Off.cons (hP.nth 15 rfl) (Off.cons (hP.nth 14 rfl) (Off.cons (hP.nth 13 rfl) (Off.cons (hP.nth 12 rfl) (Off.cons (hP.nth 11 rfl) (Off.cons (hP.nth 10 rfl) (Off.cons (hP.nth 9 rfl) (Off.cons (hP.nth 8 rfl) (Off.cons (hP.nth 7 rfl) (Off.cons (hP.nth 6 rfl) (Off.cons (hP.nth 5 rfl) (Off.cons (hP.nth 4 rfl) Off.nil))))))))))))))))))))))) (hS.pick [2, 1, 0] (by decide) rfl))⟩ h)
   rintro x_64 L w hJ h
   try dsimp only at hJ
   obtain ⟨rfl, ⟨S_62, wb_63, hZ, hA, hP, hS⟩⟩ := hJ
   unfold F.curve_Add_K4 at h
   refine kn rfl (fun hb_77 => ?_) (fun hb_77 => ?_)
   ·have h := if_t h hb_77
    refine kd (kc (kh (OpV_build (vs := []) (cells := [.slice none 0 0, .slice none 0 0, vB false]) rfl lay26 trivial rfl) rfl (kW (kL (i := 0) (us := [.slice none 0 0, .slice none 0 0, vB false]) rfl sz26 rfl rfl rfl ⟨rfl, rfl, rfl, trivial⟩ rfl hS) ?_)))
    intro w hS
    refine kb 1 rfl ?_
    refine ke (ka (ko (ku ?_)))
    cases h
    replace hS := hZ.st hS
    exact QE_rv2 rfl ⟨_, rfl, run_ldAgg (us := [.slice none 0 0, .slice none 0 0, vB false]) Try.underlying26 rfl sz26 (hS.bxs 0 rfl rfl)⟩ rfl ⟨.slice none 0 0, .slice none 0 0, rfl, ((hS.nil e32).nil e32).pick [1, 0] (by decide) rfl⟩
   have h := if_f h hb_77
   refine kq (ka (kd (kc (kb 2 rfl ?_))))
   refine kh (kG (us := [pB b1_8_0 0, pB b1_8_1 0, pB b1_8_2 0]) Try.underlying64 rfl sz64 rfl (hS.bxs 1 rfl rfl)) rfl (kh (kG (us := [pB b1_44_0 0, pB b1_44_1 0, pB b1_44_2 0]) Try.underlying64 rfl sz64 rfl (hS.bxs 2 rfl rfl)) rfl ?_)
   replace hS := hS.pick (os' := [] ++ [OE.bx b_5 [.slice none 0 0, .slice none 0 0, vB false], OE.bx b_41 [pB b1_8_0 0, pB b1_8_1 0, pB b1_8_2 0], OE.bx b_59 [pB b1_44_0 0, pB b1_44_1 0, pB b1_44_2 0]]) [0, 1, 2] (by decide) rfl
   obtain ⟨hZ, hA, hP, hS⟩ := hZ.frzK hTT hA hP hS
   obtain ⟨x_66, hx_66, h⟩ := kf h
   refine kj (by kernel_rfl) rfl (c_curve_group_add _ x_10.1 x_10.2.1 x_10.2.2.1 x_10.2.2.2.1 x_10.2.2.2.2.1 x_10.2.2.2.2.2.1 x_10.2.2.2.2.2.2.1 x_10.2.2.2.2.2.2.2.1 x_10.2.2.2.2.2.2.2.2.1 x_10.2.2.2.2.2.2.2.2.2.1 x_10.2.2.2.2.2.2.2.2.2.2.1 x_10.2.2.2.2.2.2.2.2.2.2.2.1 x_10.2.2.2.2.2.2.2.2.2.2.2.2.1 x_10.2.2.2.2.2.2.2.2.2.2.2.2.2.1 x_10.2.2.2.2.2.2.2.2.2.2.2.2.2.2.1 x_10.2.2.2.2.2.2.2.2.2.2.2.2.2.2.2.1 x_10.2.2.2.2.2.2.2.2.2.2.2.2.2.2.2.2 x_46.2.2.2.2.2.2.2.2.2.2.2.1 x_46.2.2.2.2.2.2.2.2.2.2.2.2.1 x_46.2.2.2.2.2.2.2.2.2.2.2.2.2.1 x_46.2.2.2.2.2.2.2.2.2.2.2.2.2.2.1 x_46.2.2.2.2.2.2.2.2.2.2.2.2.2.2.2.1 x_46.2.2.2.2.2.2.2.2.2.2.2.2.2.2.2.2 u0_8_0_1 u0_8_1_1 u0_8_2_1 u0_8_3_1 u0_8_4_1 u1_8_0_1 u1_8_1_1 u1_8_2_1 u1_44_0_1 u1_44_1_1 u1_44_2_1 b0_8 b0_8_0 b0_8_1 b0_8_2 b0_8_3 b0_8_4 b1_8_0 b1_8_1 b1_8_2 b1_44_0 b1_44_1 b1_44_2 _ (hZ.okT hTT hS) (hA.rpT hP 0 rfl) (hA.rbT hP 1 rfl) (hA.rpT hP 2 rfl) (hA.rbT hP 3 rfl) (hA.rpT hP 4 rfl) (hA.rbT hP 5 rfl) (hA.rpT hP 6 rfl) (hA.rbT hP 7 rfl) (hA.rpT hP 8 rfl) (hA.rbT hP 9 rfl) (hA.rbT hP 10 rfl) (hA.rpT hP 11 rfl) (hA.rbT hP 12 rfl) (hA.rpT hP 13 rfl) (hA.rbT hP 14 rfl) (hA.rpT hP 15 rfl) (hA.rbT hP 16 rfl) (hA.rpT hP 17 rfl) (hA.rbT hP 18 rfl) (hA.rpT hP 19 rfl) (hA.rbT hP 20 rfl) (hA.rpT hP 21 rfl) (hA.rbT hP 22 rfl) _ hx_66) rfl ?_
   rintro _ w ⟨b0_67_0, u0_67_0_1, b0_67_1, u0_67_1_1, b0_67_2, u0_67_2_1, rfl, hS1, hR1⟩
   obtain ⟨S_70, wb_71, hZ, hA, hP, hS⟩ := hZ.callK hA hP hS hS1 hR1 rfl
   obtain ⟨x_72, hx_72, h⟩ := kf h
   refine kj (by kernel_rfl) rfl (c_curve_group_show _ x_10.1 x_10.2.1 x_10.2.2.1 x_10.2.2.2.1 x_10.2.2.2.2.1 x_10.2.2.2.2.2.1 x_10.2.2.2.2.2.2.1 x_10.2.2.2.2.2.2.2.1 x_10.2.2.2.2.2.2.2.2.1 x_10.2.2.2.2.2.2.2.2.2.1 x_10.2.2.2.2.2.2.2.2.2.2.1 x_66.1 x_66.2.1 x_66.2.2.1 x_66.2.2.2.1 x_66.2.2.2.2.1 x_66.2.2.2.2.2 u0_8_0_1 u0_8_1_1 u0_8_2_1 u0_8_3_1 u0_8_4_1 u0_67_0_1 u0_67_1_1 u0_67_2_1 b0_8 b0_8_0 b0_8_1 b0_8_2 b0_8_3 b0_8_4 b0_67_0 b0_67_1 b0_67_2 ((hA.rp 0 rfl).now hS.fr).rp ((hA.rb 1 rfl).now hS.fr) ((hA.rp 2 rfl).now hS.fr).rp ((hA.rb 3 rfl).now hS.fr) ((hA.rp 4 rfl).now hS.fr).rp ((hA.rb 5 rfl).now hS.fr) ((hA.rp 6 rfl).now hS.fr).rp ((hA.rb 7 rfl).now hS.fr) ((hA.rp 8 rfl).now hS.fr).rp ((hA.rb 9 rfl).now hS.fr) ((hA.rb 10 rfl).now hS.fr) ((hA.rp 23 rfl).now hS.fr).rp ((hA.rb 24 rfl).now hS.fr) ((hA.rp 25 rfl).now hS.fr).rp ((hA.rb 26 rfl).now hS.fr) ((hA.rp 27 rfl).now hS.fr).rp ((hA.rb 28 rfl).now hS.fr) _ hx_72) rfl ?_
   rintro _ w ⟨v_73, v_75, rfl, hS1⟩
   have hS := hS.call hS1
   refine kW (kL (i := 2) (us := [v_73, v_75, vB x_72.2.2]) rfl sz26 rfl rfl rfl ⟨(hS.ro 0 rfl).one, (hS.ro 1 rfl).one, rfl, trivial⟩ rfl hS) ?_
   intro w hS
   refine kb 1 rfl ?_
   refine ke (ka (ko ?_))
   cases h
   replace hS := hZ.st hS
   exact QE_rv2 rfl ⟨_, rfl, run_ldAgg (us := [v_73, v_75, vB x_72.2.2]) Try.underlying26 rfl sz26 (hS.bxs 2 rfl rfl)⟩ rfl ⟨v_73, v_75, rfl, hS.pick [0, 1] (by decide) rfl⟩
theorem c_curve_scalar (w0 : World) (a0 : List UInt32) (va0 : Value) (ha0 : RP [] w0 e32 va0 a0) (r : Bool × List UInt32 × Bool)
  (h : F.curve_scalar a0 = some r) : Calls Try.prog 54 #[va0] w0 (Ret fun v w => ∃ u0_1 : Value, ∃ un0 : Nat, v = .tuple #[pB un0 0, vB r.2.2] ∧ St [] w0 w [OE.bx un0 [vB r.1, u0_1], own e32 u0_1 r.2.1]) := by
 refine ky 9 Try.func54 rfl rfl rfl ?_
 have hS := St.start w0
 have hZ := Fz.start (S := []) (w0 := w0)
 have hTT : TOk [] [] w0 := TOk.nil
 have hA : Rds [] w0 [red e32 va0 a0] := Rds.cons (RP.kept (Nat.le_of_ble_eq_true rfl) ha0) (Rds.nil)
 have hP : Off [] [red e32 va0 a0] := Off.emp
 refine km [(0, va0)] ⟨rfl, trivial⟩ ?_
 unfold F.curve_scalar at h
 refine kd (kc (kb 2 rfl ?_))
 refine ke (ka (kd (kc (kb 1 rfl ?_))))
 obtain ⟨x_1, hx_1, h⟩ := kf h
 refine kj (by kernel_rfl) rfl (c_curve_in _ a0 va0  ((hA.rp 0 rfl).now hS.fr).rp _ hx_1) rfl ?_
 rintro _ w ⟨v_2, b_4, rfl, hS1⟩
 have hS := hS.call hS1
 refine kb 1 rfl ?_
 obtain ⟨x_6, hx_6, h⟩ := kf h
 refine kj (by kernel_rfl) rfl (c_nat_Bits _ a0 va0  ((hA.rp 0 rfl).now hS.fr).rp _ hx_6) rfl ?_
 rintro _ w ⟨rfl, hS1⟩
 have hS := hS.call hS1
 refine kb 3 rfl ?_
 refine ke (ka (ko ?_))
 cases h
 replace hS := hZ.st hS
 exact QE_ret2 rfl rfl rfl ⟨v_2, b_4, rfl, hS.pick [0, 1] (by decide) rfl⟩
theorem c_curve_step (w0 : World) (a0_0_0 : Bool) (a0_0_1 : List UInt32) (a0_1_0 : Bool) (a0_1_1 : List UInt32) (a0_2_0 : Bool) (a0_2_1 : List UInt32) (a0_3_0 : Bool) (a0_3_1 : List UInt32) (a0_4_0 : Bool) (a0_4_1 : List UInt32) (a0_5 : Int) (a1_0_0 : Bool) (a1_0_1 : List UInt32) (a1_1_0 : Bool) (a1_1_1 : List UInt32) (a1_2_0 : Bool) (a1_2_1 : List UInt32) (a2 : Bool) (a3_0_0 : Bool) (a3_0_1 : List UInt32) (a3_1_0 : Bool) (a3_1_1 : List UInt32) (a3_2_0 : Bool) (a3_2_1 : List UInt32) (va0_0_1 : Value) (va0_1_1 : Value) (va0_2_1 : Value) (va0_3_1 : Value) (va0_4_1 : Value) (va1_0_1 : Value) (va1_1_1 : Value) (va1_2_1 : Value) (va3_0_1 : Value) (va3_1_1 : Value) (va3_2_1 : Value) (ba0 : Nat) (ba0_0 : Nat) (ba0_1 : Nat) (ba0_2 : Nat) (ba0_3 : Nat) (ba0_4 : Nat) (ba1_0 : Nat) (ba1_1 : Nat) (ba1_2 : Nat) (ba3_0 : Nat) (ba3_1 : Nat) (ba3_2 : Nat) (T : List Nat) (hTT : TOk [] T w0) (ha0_0_1 : RP T w0 e32 va0_0_1 a0_0_1) (hBa0_0 : RB T w0 ba0_0 [vB a0_0_0, va0_0_1]) (ha0_1_1 : RP T w0 e32 va0_1_1 a0_1_1) (hBa0_1 : RB T w0 ba0_1 [vB a0_1_0, va0_1_1]) (ha0_2_1 : RP T w0 e32 va0_2_1 a0_2_1) (hBa0_2 : RB T w0 ba0_2 [vB a0_2_0, va0_2_1]) (ha0_3_1 : RP T w0 e32 va0_3_1 a0_3_1) (hBa0_3 : RB T w0 ba0_3 [vB a0_3_0, va0_3_1]) (ha0_4_1 : RP T w0 e32 va0_4_1 a0_4_1) (hBa0_4 : RB T w0 ba0_4 [vB a0_4_0, va0_4_1]) (hBa0 : RB T w0 ba0 [pB ba0_0 0, pB ba0_1 0, pB ba0_2 0, pB ba0_3 0, pB ba0_4 0, vI a0_5, .func (.func 91) #[] #[]]) (ha1_0_1 : RP T w0 e32 va1_0_1 a1_0_1) (hBa1_0 : RB T w0 ba1_0 [vB a1_0_0, va1_0_1]) (ha1_1_1 : RP T w0 e32 va1_1_1 a1_1_1) (hBa1_1 : RB T w0 ba1_1 [vB a1_1_0, va1_1_1]) (ha1_2_1 : RP T w0 e32 va1_2_1 a1_2_1) (hBa1_2 : RB T w0 ba1_2 [vB a1_2_0, va1_2_1]) (ha3_0_1 : RP T w0 e32 va3_0_1 a3_0_1) (hBa3_0 : RB T w0 ba3_0 [vB a3_0_0, va3_0_1]) (ha3_1_1 : RP T w0 e32 va3_1_1 a3_1_1) (hBa3_1 : RB T w0 ba3_1 [vB a3_1_0, va3_1_1]) (ha3_2_1 : RP T w0 e32 va3_2_1 a3_2_1) (hBa3_2 : RB T w0 ba3_2 [vB a3_2_0, va3_2_1]) (r : Bool × List UInt32 × Bool × List UInt32 × Bool × List UInt32)
  (h : F.curve_step a0_0_0 a0_0_1 a0_1_0 a0_1_1 a0_2_0 a0_2_1 a0_3_0 a0_3_1 a0_4_0 a0_4_1 a0_5 a1_0_0 a1_0_1 a1_1_0 a1_1_1 a1_2_0 a1_2_1 a2 a3_0_0 a3_0_1 a3_1_0 a3_1_1 a3_2_0 a3_2_1 = some r) : Calls Try.prog 91 #[pB ba0 0, .agg #[pB ba1_0 0, pB ba1_1 0, pB ba1_2 0], vB a2, .agg #[pB ba3_0 0, pB ba3_1 0, pB ba3_2 0]] w0 (Ret fun v w => ∃ b0_0 : Nat, ∃ u0_0_1 : Value, ∃ b0_1 : Nat, ∃ u0_1_1 : Value, ∃ b0_2 : Nat, ∃ u0_2_1 : Value, v = .agg #[pB b0_0 0, pB b0_1 0, pB b0_2 0] ∧ St [] w0 w [] ∧ Rds T w [OE.bx b0_2 [vB r.2.2.2.2.1, u0_2_1], red e32 u0_2_1 r.2.2.2.2.2, OE.bx b0_1 [vB r.2.2.1, u0_1_1], red e32 u0_1_1 r.2.2.2.1, OE.bx b0_0 [vB r.1, u0_0_1], red e32 u0_0_1 r.2.1]) := by
 refine ky 18 Try.func91 rfl rfl rfl ?_
 have hS := St.start w0
 have hZ := Fz.start (S := []) (w0 := w0)
 have hA0 : Rds T w0 [OE.bx ba3_2 [vB a3_2_0, va3_2_1], red e32 va3_2_1 a3_2_1, OE.bx ba3_1 [vB a3_1_0, va3_1_1], red e32 va3_1_1 a3_1_1, OE.bx ba3_0 [vB a3_0_0, va3_0_1], red e32 va3_0_1 a3_0_1, OE.bx ba1_2 [vB a1_2_0, va1_2_1], red e32 va1_2_1 a1_2_1, OE.bx ba1_1 [vB a1_1_0, va1_1_1], red e32 va1_1_1 a1_1_1, OE.bx ba1_0 [vB a1_0_0, va1_0_1], red e32 va1_0_1 a1_0_1, OE.bx ba0 [pB ba0_0 0, pB ba0_1 0, pB ba0_2 0, pB ba0_3 0, pB ba0_4 0, vI a0_5, .func (.func 91) #[] #[]], OE.bx ba0_4 [vB a0_4_0, va0_4_1], red e32 va0_4_1 a0_4_1, OE.bx ba0_3 [vB a0_3_0, va0_3_1], red e32 va0_3_1 a0_3_1, OE.bx ba0_2 [vB a0_2_0, va0_2_1], red e32 va0_2_1 a0_2_1, OE.bx ba0_1 [vB a0_1_0, va0_1_1], red e32 va0_1_1 a0_1_1, OE.bx ba0_0 [vB a0_0_0, va0_0_1], red e32 va0_0_1 a0_0_1] := Rds.cons hBa3_2.kept (Rds.cons (RP.kept (Nat.le_of_ble_eq_true rfl) ha3_2_1) (Rds.cons hBa3_1.kept (Rds.cons (RP.kept (Nat.le_of_ble_eq_true rfl) ha3_1_1) (Rds.cons hBa3_0.kept (Rds.cons (RP.kept (Nat.le_of_ble_eq_true rfl) ha3_0_1) (Rds.cons hBa1_2.kept (Rds.cons (RP.kept (Nat.le_of_ble_eq_true rfl) ha1_2_1) (Rds.cons hBa1_1.kept (Rds.cons (RP.kept (Nat.le_of_ble_eq_true rfl) ha1_1_1) (Rds.cons hBa1_0.kept (Rds.cons (RP.kept (Nat.le_of_ble_eq_true rfl) ha1_0_1) (Rds.cons hBa0.kept (Rds.cons hBa0_4.kept (Rds.cons (RP.kept (Nat.le_of_ble_eq_true rfl) ha0_4_1) (Rds.cons hBa0_3.kept (Rds.cons (RP.kept (Nat.le_of_ble_eq_true rfl) ha0_3_1) (Rds.cons hBa0_2.kept (Rds.cons (RP.kept (Nat.le_of_ble_eq_true rfl) ha0_2_1) (Rds.cons hBa0_1.kept (Rds.cons (RP.kept (Nat.le_of_ble_eq_true rfl) ha0_1_1) (Rds.cons hBa0_0.kept (Rds.cons (RP.kept (Nat.le_of_ble_eq_true rfl) ha0_0_1) (Rds.nil)))))))))))))))))))))))
 have hA := hA0.all
 have hP := hA0.off rfl
 refine km [(0, pB ba0 0), (1, .agg #[pB ba1_0 0, pB ba1_1 0, pB ba1_2 0]), (2, vB a2), (3, .agg #[pB ba3_0 0, pB ba3_1 0, pB ba3_2 0])] ⟨rfl, rfl, rfl, rfl, trivial⟩ ?_
 unfold F.curve_step at h
 refine kd (kc (kV (OpX_box (cs := [pB ba1_0 0, pB ba1_1 0, pB ba1_2 0]) rfl rfl hS) rfl ?_))
 rintro _ w ⟨b_1, rfl, hS⟩
 refine kV (OpX_box (cs := [pB ba3_0 0, pB ba3_1 0, pB ba3_2 0]) rfl rfl hS) rfl ?_
 rintro _ w ⟨b_3, rfl, hS⟩
 refine kV (kD (cs := [.pointer none, .pointer none, .pointer none]) tz64 rfl hS) rfl ?_
 rintro _ w ⟨b_5, rfl, hS⟩
 refine ke (ka (kd (kc (kb 1 rfl ?_))))
 refine kh (kG (us := [pB ba1_0 0, pB ba1_1 0, pB ba1_2 0]) Try.underlying64 rfl sz64 rfl (hS.bxs 2 rfl rfl)) rfl ?_
 replace hS := hS.pick (os' := [] ++ [OE.bx b_5 [.pointer none, .pointer none, .pointer none], OE.bx b_3 [pB ba3_0 0, pB ba3_1 0, pB ba3_2 0], OE.bx b_1 [pB ba1_0 0, pB ba1_1 0, pB ba1_2 0]]) [0, 1, 2] (by decide) rfl
 obtain ⟨hZ, hA, hP, hS⟩ := hZ.frzK hTT hA hP hS
 obtain ⟨x_7, hx_7, h⟩ := kf h
 refine kj (by kernel_rfl) rfl (c_curve_group_double _ a0_0_0 a0_0_1 a0_1_0 a0_1_1 a0_2_0 a0_2_1 a0_3_0 a0_3_1 a0_4_0 a0_4_1 a0_5 a1_0_0 a1_0_1 a1_1_0 a1_1_1 a1_2_0 a1_2_1 va0_0_1 va0_1_1 va0_2_1 va0_3_1 va0_4_1 va1_0_1 va1_1_1 va1_2_1 ba0 ba0_0 ba0_1 ba0_2 ba0_3 ba0_4 ba1_0 ba1_1 ba1_2 _ (hZ.okT hTT hS) (hA.rpT hP 0 rfl) (hA.rbT hP 1 rfl) (hA.rpT hP 2 rfl) (hA.rbT hP 3 rfl) (hA.rpT hP 4 rfl) (hA.rbT hP 5 rfl) (hA.rpT hP 6 rfl) (hA.rbT hP 7 rfl) (hA.rpT hP 8 rfl) (hA.rbT hP 9 rfl) (hA.rbT hP 10 rfl) (hA.rpT hP 11 rfl) (hA.rbT hP 12 rfl) (hA.rpT hP 13 rfl) (hA.rbT hP 14 rfl) (hA.rpT hP 15 rfl) (hA.rbT hP 16 rfl) _ hx_7) rfl ?_
 rintro _ w ⟨b0_8_0, u0_8_0_1, b0_8_1, u0_8_1_1, b0_8_2, u0_8_2_1, rfl, hS1, hR1⟩
 obtain ⟨S_11, wb_12, hZ, hA, hP, hS⟩ := hZ.callK hA hP hS hS1 hR1 rfl
 refine kW (kL (i := 2) (us := [pB b0_8_0 0, pB b0_8_1 0, pB b0_8_2 0]) rfl sz64 rfl rfl rfl ⟨rfl, rfl, rfl, trivial⟩ rfl hS) ?_
 intro w hS
 refine ke (ka ?_)
 refine kN (r := r) (fun (g : Bool × List UInt32 × Bool × List UInt32 × Bool × List UInt32) L w => ∃ (b_22 : Nat) (v_25 : Value) (b_26 : Nat) (v_29 : Value) (b_30 : Nat) (v_33 : Value), L = [(5, pB b_1 0), (8, pB b_5 0)] ∧ SfT [] T w0 w [OE.bx b_30 [vB g.2.2.2.2.1, v_33], red e32 v_33 g.2.2.2.2.2, OE.bx b_26 [vB g.2.2.1, v_29], red e32 v_29 g.2.2.2.1, OE.bx b_22 [vB g.1, v_25], red e32 v_25 g.2.1] [OE.bx b_1 [pB b_22 0, pB b_26 0, pB b_30 0], OE.bx b_5 [.pointer none, .pointer none, .pointer none]]) (F.curve_step_K1) ?_ ?_
 rotate_left
 ·intro hK_34
  refine kd (kc (kb 1 rfl ?_))
  refine ke (ka ?_)
  refine kn rfl (fun hb_19 => ?_) (fun hb_19 => ?_)
  ·have h := if_t h hb_19
   refine kc (kb 1 rfl ?_)
   refine kh (kG (us := [pB b0_8_0 0, pB b0_8_1 0, pB b0_8_2 0]) Try.underlying64 rfl sz64 rfl (hS.bxs 2 rfl rfl)) rfl (kh (kG (us := [pB ba3_0 0, pB ba3_1 0, pB ba3_2 0]) Try.underlying64 rfl sz64 rfl (hS.bxs 1 rfl rfl)) rfl ?_)
   replace hS := hS.pick (os' := [] ++ [OE.bx b_5 [.pointer none, .pointer none, .pointer none], OE.bx b_3 [pB ba3_0 0, pB ba3_1 0, pB ba3_2 0], OE.bx b_1 [pB b0_8_0 0, pB b0_8_1 0, pB b0_8_2 0]]) [0, 1, 2] (by decide) rfl
   obtain ⟨hZ, hA, hP, hS⟩ := hZ.frzK hTT hA hP hS
   obtain ⟨x_13, hx_13, h⟩ := kf h
   refine kj (by kernel_rfl) rfl (c_curve_group_add _ a0_0_0 a0_0_1 a0_1_0 a0_1_1 a0_2_0 a0_2_1 a0_3_0 a0_3_1 a0_4_0 a0_4_1 a0_5 x_7.1 x_7.2.1 x_7.2.2.1 x_7.2.2.2.1 x_7.2.2.2.2.1 x_7.2.2.2.2.2 a3_0_0 a3_0_1 a3_1_0 a3_1_1 a3_2_0 a3_2_1 va0_0_1 va0_1_1 va0_2_1 va0_3_1 va0_4_1 u0_8_0_1 u0_8_1_1 u0_8_2_1 va3_0_1 va3_1_1 va3_2_1 ba0 ba0_0 ba0_1 ba0_2 ba0_3 ba0_4 b0_8_0 b0_8_1 b0_8_2 ba3_0 ba3_1 ba3_2 _ (hZ.okT hTT hS) (hA.rpT hP 0 rfl) (hA.rbT hP 1 rfl) (hA.rpT hP 2 rfl) (hA.rbT hP 3 rfl) (hA.rpT hP 4 rfl) (hA.rbT hP 5 rfl) (hA.rpT hP 6 rfl) (hA.rbT hP 7 rfl) (hA.rpT hP 8 rfl) (hA.rbT hP 9 rfl) (hA.rbT hP 10 rfl) (hA.rpT hP 23 rfl) (hA.rbT hP 24 rfl) (hA.rpT hP 25 rfl) (hA.rbT hP 26 rfl) (hA.rpT hP 27 rfl) (hA.rbT hP 28 rfl) (hA.rpT hP 17 rfl) (hA.rbT hP 18 rfl) (hA.rpT hP 19 rfl) (hA.rbT hP 20 rfl) (hA.rpT hP 21 rfl) (hA.rbT hP 22 rfl) _ hx_13) rfl ?_
   rintro _ w ⟨b0_14_0, u0_14_0_1, b0_14_1, u0_14_1_1, b0_14_2, u0_14_2_1, rfl, hS1, hR1⟩
   obtain ⟨S_17, wb_18, hZ, hA, hP, hS⟩ := hZ.callK hA hP hS hS1 hR1 rfl
   refine kW (kL (i := 2) (us := [pB b0_14_0 0, pB b0_14_1 0, pB b0_14_2 0]) rfl sz64 rfl rfl rfl ⟨rfl, rfl, rfl, trivial⟩ rfl hS) ?_
   intro w hS
   refine ke (ka ?_)
   exact km _ (by exact ⟨rfl, rfl, trivial⟩) (hK_34 (x_13.1, x_13.2.1, x_13.2.2.1, x_13.2.2.2.1, x_13.2.2.2.2.1, x_13.2.2.2.2.2) _ _ ⟨b0_14_0, u0_14_0_1, b0_14_1, u0_14_1_1, b0_14_2, u0_14_2_1, rfl, (SfT.mk' hZ (Rds.cons (hA.nth 34 rfl) (Rds.cons (hA.nth 33 rfl) (Rds.cons (hA.nth 32 rfl) (Rds.cons (hA.nth 31 rfl) (Rds.cons (hA.nth 30 rfl) (Rds.cons (hA.nth 29 rfl) Rds.nil)))))) (Off.cons (hP.nth 34 rfl) (Off.cons (hP.nth 33 rfl) (Off.cons (hP.nth 32 rfl) (Off.cons (hP.nth 31 rfl) (Off.cons (hP.nth 30 rfl) (Off.cons (hP.nth 29 rfl) Off.nil)))))) (hS.pick [2, 0] (by decide) rfl))⟩ h)
  have h := if_f h hb_19
  refine kq (ka ?_)
  exact km _ (by exact ⟨rfl, rfl, trivial⟩) (hK_34 (x_7.1, x_7.2.1, x_7.2.2.1, x_7.2.2.2.1, x_7.2.2.2.2.1, x_7.2.2.2.2.2) _ _ ⟨b0_8_0, u0_8_0_1, b0_8_1, u0_8_1_1, b0_8_2, u0_8_2_1, rfl, (SfT.mk' hZ (Rds.cons (hA.nth 28 rfl) (Rds.cons (hA.nth 27 rfl) (Rds.cons (hA.nth 26 rfl) (Rds.cons (hA.nth 25 rfl) (Rds.cons (hA.nth 24 rfl) (Rds.cons (hA.nth 23 rfl) Rds.nil)))))) (Off.cons (hP.nth 28 rfl) (Off.cons (hP.nth 27 rfl) (Off.cons (hP.nth 26 rfl) (Off.cons (hP.nth 25 rfl) (Off.cons (hP.nth 24 rfl) (Off.cons (hP.nth 23 rfl) Off.nil)))))) (hS.pick [2, 0] (by decide) rfl))⟩ h)
 rintro ⟨x_23, x_24, x_27, x_28, x_31, x_32⟩ L w hJ h
 try dsimp only at hJ
 obtain ⟨b_22, v_25, b_26, v_29, b_30, v_33, rfl, ⟨S_20, wb_21, hZ, hA, hP, hS⟩⟩ := hJ
 unfold F.curve_step_K1 at h
 refine kd (kc (kh (kG (us := [pB b_22 0, pB b_26 0, pB b_30 0]) Try.underlying64 rfl sz64 rfl (hS.bxs 0 rfl rfl)) rfl (kW (kL (i := 1) (us := [pB b_22 0, pB b_26 0, pB b_30 0]) rfl sz64 rfl rfl rfl ⟨rfl, rfl, rfl, trivial⟩ rfl hS) ?_)))
 intro w hS
 refine ke (ka (ko ?_))
 cases h
 obtain ⟨hS0, hR⟩ := hZ.outT hTT hA hP hS
 exact QE_rv1 rfl ⟨_, rfl, run_ldAgg (us := [pB b_22 0, pB b_26 0, pB b_30 0]) Try.underlying64 rfl sz64 (hS.bxs 1 rfl rfl)⟩ ⟨b_22, v_25, b_26, v_29, b_30, v_33, rfl, hS0, (Rds.cons (hR.nth 5 rfl) (Rds.cons (hR.nth 4 rfl) (Rds.cons (hR.nth 3 rfl) (Rds.cons (hR.nth 2 rfl) (Rds.cons (hR.nth 1 rfl) (Rds.cons (hR.nth 0 rfl) Rds.nil))))))⟩
theorem c_curve_group_ladder (w0 : World) (a0_0_0 : Bool) (a0_0_1 : List UInt32) (a0_1_0 : Bool) (a0_1_1 : List UInt32) (a0_2_0 : Bool) (a0_2_1 : List UInt32) (a0_3_0 : Bool) (a0_3_1 : List UInt32) (a0_4_0 : Bool) (a0_4_1 : List UInt32) (a0_5 : Int) (a1_0 : Bool) (a1_1 : List UInt32) (a2_0_0 : Bool) (a2_0_1 : List UInt32) (a2_1_0 : Bool) (a2_1_1 : List UInt32) (a2_2_0 : Bool) (a2_2_1 : List UInt32) (va0_0_1 : Value) (va0_1_1 : Value) (va0_2_1 : Value) (va0_3_1 : Value) (va0_4_1 : Value) (va1_1 : Value) (va2_0_1 : Value) (va2_1_1 : Value) (va2_2_1 : Value) (ba0 : Nat) (ba0_0 : Nat) (ba0_1 : Nat) (ba0_2 : Nat) (ba0_3 : Nat) (ba0_4 : Nat) (ba1 : Nat) (ba2_0 : Nat) (ba2_1 : Nat) (ba2_2 : Nat) (T : List Nat) (hTT : TOk [] T w0) (ha0_0_1 : RP T w0 e32 va0_0_1 a0_0_1) (hBa0_0 : RB T w0 ba0_0 [vB a0_0_0, va0_0_1]) (ha0_1_1 : RP T w0 e32 va0_1_1 a0_1_1) (hBa0_1 : RB T w0 ba0_1 [vB a0_1_0, va0_1_1]) (ha0_2_1 : RP T w0 e32 va0_2_1 a0_2_1) (hBa0_2 : RB T w0 ba0_2 [vB a0_2_0, va0_2_1]) (ha0_3_1 : RP T w0 e32 va0_3_1 a0_3_1) (hBa0_3 : RB T w0 ba0_3 [vB a0_3_0, va0_3_1]) (ha0_4_1 : RP T w0 e32 va0_4_1 a0_4_1) (hBa0_4 : RB T w0 ba0_4 [vB a0_4_0, va0_4_1]) (hBa0 : RB T w0 ba0 [pB ba0_0 0, pB ba0_1 0, pB ba0_2 0, pB ba0_3 0, pB ba0_4 0, vI a0_5, .func (.func 91) #[] #[]]) (ha1_1 : RP T w0 e32 va1_1 a1_1) (hBa1 : RB T w0 ba1 [vB a1_0, va1_1]) (ha2_0_1 : RP T w0 e32 va2_0_1 a2_0_1) (hBa2_0 : RB T w0 ba2_0 [vB a2_0_0, va2_0_1]) (ha2_1_1 : RP T w0 e32 va2_1_1 a2_1_1) (hBa2_1 : RB T w0 ba2_1 [vB a2_1_0, va2_1_1]) (ha2_2_1 : RP T w0 e32 va2_2_1 a2_2_1) (hBa2_2 : RB T w0 ba2_2 [vB a2_2_0, va2_2_1]) (r : Bool × List UInt32 × Bool × List UInt32 × Bool × List UInt32)
  (h : F.curve_group_ladder a0_0_0 a0_0_1 a0_1_0 a0_1_1 a0_2_0 a0_2_1 a0_3_0 a0_3_1 a0_4_0 a0_4_1 a0_5 a1_0 a1_1 a2_0_0 a2_0_1 a2_1_0 a2_1_1 a2_2_0 a2_2_1 = some r) : Calls Try.prog 55 #[pB ba0 0, pB ba1 0, .agg #[pB ba2_0 0, pB ba2_1 0, pB ba2_2 0]] w0 (Ret fun v w => ∃ b0_0 : Nat, ∃ u0_0_1 : Value, ∃ b0_1 : Nat, ∃ u0_1_1 : Value, ∃ b0_2 : Nat, ∃ u0_2_1 : Value, v = .agg #[pB b0_0 0, pB b0_1 0, pB b0_2 0] ∧ St [] w0 w [] ∧ Rds T w [OE.bx b0_2 [vB r.2.2.2.2.1, u0_2_1], red e32 u0_2_1 r.2.2.2.2.2, OE.bx b0_1 [vB r.2.2.1, u0_1_1], red e32 u0_1_1 r.2.2.2.1, OE.bx b0_0 [vB r.1, u0_0_1], red e32 u0_0_1 r.2.1]) := by
 refine ky 30 Try.func55 rfl rfl rfl ?_
 have hS := St.start w0
 have hZ := Fz.start (S := []) (w0 := w0)
 have hA0 : Rds T w0 [OE.bx ba2_2 [vB a2_2_0, va2_2_1], red e32 va2_2_1 a2_2_1, OE.bx ba2_1 [vB a2_1_0, va2_1_1], red e32 va2_1_1 a2_1_1, OE.bx ba2_0 [vB a2_0_0, va2_0_1], red e32 va2_0_1 a2_0_1, OE.bx ba1 [vB a1_0, va1_1], red e32 va1_1 a1_1, OE.bx ba0 [pB ba0_0 0, pB ba0_1 0, pB ba0_2 0, pB ba0_3 0, pB ba0_4 0, vI a0_5, .func (.func 91) #[] #[]], OE.bx ba0_4 [vB a0_4_0, va0_4_1], red e32 va0_4_1 a0_4_1, OE.bx ba0_3 [vB a0_3_0, va0_3_1], red e32 va0_3_1 a0_3_1, OE.bx ba0_2 [vB a0_2_0, va0_2_1], red e32 va0_2_1 a0_2_1, OE.bx ba0_1 [vB a0_1_0, va0_1_1], red e32 va0_1_1 a0_1_1, OE.bx ba0_0 [vB a0_0_0, va0_0_1], red e32 va0_0_1 a0_0_1] := Rds.cons hBa2_2.kept (Rds.cons (RP.kept (Nat.le_of_ble_eq_true rfl) ha2_2_1) (Rds.cons hBa2_1.kept (Rds.cons (RP.kept (Nat.le_of_ble_eq_true rfl) ha2_1_1) (Rds.cons hBa2_0.kept (Rds.cons (RP.kept (Nat.le_of_ble_eq_true rfl) ha2_0_1) (Rds.cons hBa1.kept (Rds.cons (RP.kept (Nat.le_of_ble_eq_true rfl) ha1_1) (Rds.cons hBa0.kept (Rds.cons hBa0_4.kept (Rds.cons (RP.kept (Nat.le_of_ble_eq_true rfl) ha0_4_1) (Rds.cons hBa0_3.kept (Rds.cons (RP.kept (Nat.le_of_ble_eq_true rfl) ha0_3_1) (Rds.cons hBa0_2.kept (Rds.cons (RP.kept (Nat.le_of_ble_eq_true rfl) ha0_2_1) (Rds.cons hBa0_1.kept (Rds.cons (RP.kept (Nat.le_of_ble_eq_true rfl) ha0_1_1) (Rds.cons hBa0_0.kept (Rds.cons (RP.kept (Nat.le_of_ble_eq_true rfl) ha0_0_1) (Rds.nil)))))))))))))))))))
 have hA := hA0.all
 have hP := hA0.off rfl
 refine km [(0, pB ba0 0), (1, pB ba1 0), (2, .agg #[pB ba2_0 0, pB ba2_1 0, pB ba2_2 0])] ⟨rfl, rfl, rfl, trivial⟩ ?_
 unfold F.curve_group_ladder at h
 refine kd (kc (kV (OpX_box (cs := [pB ba2_0 0, pB ba2_1 0, pB ba2_2 0]) rfl rfl hS) rfl ?_))
 rintro _ w ⟨b_1, rfl, hS⟩
 refine kV (kD (cs := [.pointer none, .pointer none, .pointer none]) tz64 rfl hS) rfl ?_
 rintro _ w ⟨b_3, rfl, hS⟩
 refine ke (ka (kd (kc ?_)))
 obtain ⟨x_5, hx_5, h⟩ := kf h
 refine kj (by kernel_rfl) rfl (c_curve_infinity _     _ hx_5) rfl ?_
 rintro _ w ⟨v_6, v_8, v_10, b_12, b_14, b_16, rfl, hS1⟩
 have hS := hS.call hS1
 refine kV (kD (cs := [.pointer none, .pointer none, .pointer none]) tz64 rfl hS) rfl ?_
 rintro _ w ⟨b_18, rfl, hS⟩
 refine kW (kL (i := 0) (us := [pB b_12 0, pB b_14 0, pB b_16 0]) rfl sz64 rfl rfl rfl ⟨rfl, rfl, rfl, trivial⟩ rfl hS) ?_
 intro w hS
 refine ke (ka (kd (kd (kc (kb 1 rfl ?_)))))
 obtain ⟨x_20, hx_20, h⟩ := kf h
 refine kj (by kernel_rfl) rfl (c_bignum_Int_BitLen _ a1_0 a1_1 va1_1 ba1 ((hA.rp 11 rfl).now hS.fr).rp ((hA.rb 12 rfl).now hS.fr) _ hx_20) rfl ?_
 rintro _ w ⟨rfl, hS1⟩
 have hS := hS.call hS1
 refine kb 2 rfl ?_
 refine ke (ka (kv ?_))
 replace hS := hS.pick (os' := [OE.bx b_12 [vB x_5.1, v_6], own e32 v_6 x_5.2.1, OE.bx b_14 [vB x_5.2.2.1, v_8], own e32 v_8 x_5.2.2.2.1, OE.bx b_16 [vB x_5.2.2.2.2.1, v_10], own e32 v_10 x_5.2.2.2.2.2] ++ [OE.bx b_18 [pB b_12 0, pB b_14 0, pB b_16 0], OE.bx b_3 [.pointer none, .pointer none, .pointer none], OE.bx b_1 [pB ba2_0 0, pB ba2_1 0, pB ba2_2 0]]) [1, 2, 3, 4, 5, 6, 0, 7, 8] (by decide) rfl
 obtain ⟨S_21, wb_22, hZ, hA, hP, hS⟩ := hZ.frzT hTT hA hP hS
 refine km [(0, pB ba0 0), (1, pB ba1 0), (5, pB b_1 0), (6, pB b_3 0), (7, pB b_18 0), (8, vI (wI (x_20 - 1)))] ⟨rfl, rfl, rfl, rfl, rfl, rfl, trivial⟩ ?_
 refine kR (F.curve_group_ladder_L1 a0_0_0 a0_0_1 a0_1_0 a0_1_1 a0_2_0 a0_2_1 a0_3_0 a0_3_1 a0_4_0 a0_4_1 a0_5 a1_0 a1_1 a2_0_0 a2_0_1 a2_1_0 a2_1_1 a2_2_0 a2_2_1) (fun (s : Int × Bool × List UInt32 × Bool × List UInt32 × Bool × List UInt32) L w => ∃ (b_26 : Nat) (v_29 : Value) (b_30 : Nat) (v_33 : Value) (b_34 : Nat) (v_37 : Value), L = [(0, pB ba0 0), (1, pB ba1 0), (5, pB b_1 0), (6, pB b_3 0), (7, pB b_18 0), (8, vI s.1)] ∧ SfT [] T w0 w [OE.bx b_34 [vB s.2.2.2.2.2.1, v_37], red e32 v_37 s.2.2.2.2.2.2, OE.bx b_30 [vB s.2.2.2.1, v_33], red e32 v_33 s.2.2.2.2.1, OE.bx b_26 [vB s.2.1, v_29], red e32 v_29 s.2.2.1, OE.bx ba2_2 [vB a2_2_0, va2_2_1], red e32 va2_2_1 a2_2_1, OE.bx ba2_1 [vB a2_1_0, va2_1_1], red e32 va2_1_1 a2_1_1, OE.bx ba2_0 [vB a2_0_0, va2_0_1], red e32 va2_0_1 a2_0_1, OE.bx ba1 [vB a1_0, va1_1], red e32 va1_1 a1_1, OE.bx ba0 [pB ba0_0 0, pB ba0_1 0, pB ba0_2 0, pB ba0_3 0, pB ba0_4 0, vI a0_5, .func (.func 91) #[] #[]], OE.bx ba0_4 [vB a0_4_0, va0_4_1], red e32 va0_4_1 a0_4_1, OE.bx ba0_3 [vB a0_3_0, va0_3_1], red e32 va0_3_1 a0_3_1, OE.bx ba0_2 [vB a0_2_0, va0_2_1], red e32 va0_2_1 a0_2_1, OE.bx ba0_1 [vB a0_1_0, va0_1_1], red e32 va0_1_1 a0_1_1, OE.bx ba0_0 [vB a0_0_0, va0_0_1], red e32 va0_0_1 a0_0_1] [OE.bx b_1 [pB ba2_0 0, pB ba2_1 0, pB ba2_2 0], OE.bx b_3 [.pointer none, .pointer none, .pointer none], OE.bx b_18 [pB b_26 0, pB b_30 0, pB b_34 0]]) ?_ (wI (x_20 - 1), x_5.1, x_5.2.1, x_5.2.2.1, x_5.2.2.2.1, x_5.2.2.2.2.1, x_5.2.2.2.2.2) ⟨b_12, v_6, b_14, v_8, b_16, v_10, rfl, (SfT.mk' hZ (Rds.cons (hA.nth 20 rfl) (Rds.cons (hA.nth 19 rfl) (Rds.cons (hA.nth 22 rfl) (Rds.cons (hA.nth 21 rfl) (Rds.cons (hA.nth 24 rfl) (Rds.cons (hA.nth 23 rfl) (Rds.cons (hA.nth 18 rfl) (Rds.cons (hA.nth 17 rfl) (Rds.cons (hA.nth 16 rfl) (Rds.cons (hA.nth 15 rfl) (Rds.cons (hA.nth 14 rfl) (Rds.cons (hA.nth 13 rfl) (Rds.cons (hA.nth 12 rfl) (Rds.cons (hA.nth 11 rfl) (Rds.cons (hA.nth 10 rfl) (Rds.cons (hA.nth 9 rfl) (Rds.cons (hA.nth 8 rfl) (Rds.cons (hA.nth 7 rfl) (Rds.cons (hA.nth 6 rfl) (Rds.cons (hA.nth 5 rfl) (Rds.cons (hA.nth 4 rfl) (Rds.cons (hA.nth 3 rfl) (Rds.cons (hA.nth 2 rfl) (Rds.cons (hA.nth 1 rfl) (Rds.cons (hA.nth 0 rfl) Rds.nil))))))))))))))))))))))))) (Off.cons (hP.nth 20 rfl) (Off.cons (hP.nth 19 rfl) (Off.cons (hP.nth 22 rfl) (Off.cons (hP.nth 21 rfl) (Off.cons (hP.nth 24 rfl) (Off.cons (hP.nth 23 rfl) (Off.cons (hP.nth 18 rfl) (Off.cons (hP.nth 17 rfl) (Off.cons (hP.nth 16 rfl) (Off.cons (hP.nth 15 rfl) (Off.cons (hP.nth 14 rfl) (Off.cons (hP.nth 13 rfl) (Off.cons (hP.nth 12 rfl) (Off.cons (hP.nth 11 rfl) (Off.cons (hP.nth 10 rfl) (Off.cons (hP.nth 9 rfl) (Off.cons (hP.nth 8 rfl) (Off.cons (hP.nth 7 rfl) (Off.cons (hP.nth 6 rfl) (Off.cons (hP.nth 5 rfl) (Off.cons (hP.nth 4 rfl) (Off.cons (hP.nth 3 rfl) (Off.cons (hP.nth 2 rfl) (Off.cons (hP.nth 1 rfl) (Off.cons (hP.nth 0 rfl) Off.nil))))))))))))))))))))))))) (hS.pick [2, 1, 0] (by decide) rfl))⟩ h
 rintro k_51 ⟨x_25, x_27, x_28, x_31, x_32, x_35, x_36⟩ L w q_40 hI ih_39 h hk_38
 try dsimp only at hI
 obtain ⟨b_26, v_29, b_30, v_33, b_34, v_37, rfl, ⟨S_23, wb_24, hZ, hA, hP, hS⟩⟩ := hI
 unfold F.curve_group_ladder_L1 at h
 refine kd (kd (kc (kb 2 rfl ?_)))
 refine ke (ka ?_)
 refine kn rfl (fun hb_50 => ?_) (fun hb_50 => ?_)
 ·have h := if_t h hb_50
  refine kq (ka (kd (kv ?_)))
  obtain ⟨x_41, hx_41, h⟩ := kf h
  obtain ⟨x_42, hx_42, h⟩ := kf h
  refine wpC_regionM (es := [OE.bx b_34 [vB x_35, v_37], red e32 v_37 x_36, OE.bx b_30 [vB x_31, v_33], red e32 v_33 x_32, OE.bx b_26 [vB x_27, v_29], red e32 v_29 x_28, OE.bx ba2_2 [vB a2_2_0, va2_2_1], red e32 va2_2_1 a2_2_1, OE.bx ba2_1 [vB a2_1_0, va2_1_1], red e32 va2_1_1 a2_1_1, OE.bx ba2_0 [vB a2_0_0, va2_0_1], red e32 va2_0_1 a2_0_1, OE.bx ba1 [vB a1_0, va1_1], red e32 va1_1 a1_1, OE.bx ba0 [pB ba0_0 0, pB ba0_1 0, pB ba0_2 0, pB ba0_3 0, pB ba0_4 0, vI a0_5, .func (.func 91) #[] #[]], OE.bx ba0_4 [vB a0_4_0, va0_4_1], red e32 va0_4_1 a0_4_1, OE.bx ba0_3 [vB a0_3_0, va0_3_1], red e32 va0_3_1 a0_3_1, OE.bx ba0_2 [vB a0_2_0, va0_2_1], red e32 va0_2_1 a0_2_1, OE.bx ba0_1 [vB a0_1_0, va0_1_1], red e32 va0_1_1 a0_1_1, OE.bx ba0_0 [vB a0_0_0, va0_0_1], red e32 va0_0_1 a0_0_1]) (os := [OE.bx b_1 [pB ba2_0 0, pB ba2_1 0, pB ba2_2 0], OE.bx b_3 [.pointer none, .pointer none, .pointer none]]) (fun i => [5, 8, 11, 12].contains i) (fun i => none) (fun i => if i = 12 then [11] else []) (fun i => if i = 12 then [OE.bx b_18 [pB b_26 0, pB b_30 0, pB b_34 0]] else []) (fun i => if i = 5 then [12] else []) (fun i => if i = 12 then [11] else []) (fun i => if i = 5 then (fun h v x y => v = .agg #[pB b_26 0, pB b_30 0, pB b_34 0] ∧ x = [] ∧ y = []) else if i = 8 then (fun h v x y => v = v64 x_41 ∧ x = [] ∧ y = []) else if i = 11 then (fun h v x y => ∃ b0_43_0 : Nat, ∃ b0_43_1 : Nat, ∃ b0_43_2 : Nat, ∃ u0_43_0_1 : Value, ∃ u0_43_1_1 : Value, ∃ u0_43_2_1 : Value, v = .agg #[pB b0_43_0 0, pB b0_43_1 0, pB b0_43_2 0] ∧ x = [] ∧ y = [red e32 u0_43_0_1 x_42.2.1, OE.bx b0_43_0 [vB x_42.1, u0_43_0_1], red e32 u0_43_1_1 x_42.2.2.2.1, OE.bx b0_43_1 [vB x_42.2.2.1, u0_43_1_1], red e32 u0_43_2_1 x_42.2.2.2.2.2, OE.bx b0_43_2 [vB x_42.2.2.2.2.1, u0_43_2_1]]) else (fun h v x y => ∃ b0_43_0 : Nat, ∃ b0_43_1 : Nat, ∃ b0_43_2 : Nat, ∃ u0_43_0_1 : Value, ∃ u0_43_1_1 : Value, ∃ u0_43_2_1 : Value, h = [(.agg #[pB b0_43_0 0, pB b0_43_1 0, pB b0_43_2 0], [], [red e32 u0_43_0_1 x_42.2.1, OE.bx b0_43_0 [vB x_42.1, u0_43_0_1], red e32 u0_43_1_1 x_42.2.2.2.1, OE.bx b0_43_1 [vB x_42.2.2.1, u0_43_1_1], red e32 u0_43_2_1 x_42.2.2.2.2.2, OE.bx b0_43_2 [vB x_42.2.2.2.2.1, u0_43_2_1]])] ∧ v = undef ∧ x = [OE.bx b_18 [pB b0_43_0 0, pB b0_43_1 0, pB b0_43_2 0]] ∧ y = [red e32 u0_43_0_1 x_42.2.1, OE.bx b0_43_0 [vB x_42.1, u0_43_0_1], red e32 u0_43_1_1 x_42.2.2.2.1, OE.bx b0_43_1 [vB x_42.2.2.1, u0_43_1_1], red e32 u0_43_2_1 x_42.2.2.2.2.2, OE.bx b0_43_2 [vB x_42.2.2.2.2.1, u0_43_2_1]])) (SfT.mk' hZ hA hP (hS.pick (os' := [OE.bx b_18 [pB b_26 0, pB b_30 0, pB b_34 0], OE.bx b_1 [pB ba2_0 0, pB ba2_1 0, pB ba2_2 0], OE.bx b_3 [.pointer none, .pointer none, .pointer none]]) [2, 0, 1] (by decide) rfl)) (fun k hk => (if_neg (fun q => by subst q; exact absurd hk (by decide)))) hTT rfl (fun i => (ite_ns (by rintro h v x y ⟨rfl, rfl, rfl⟩; exact ns_all rfl) (ite_ns (by rintro h v x y ⟨rfl, rfl, rfl⟩; exact ns_all rfl) (ite_ns (by rintro h v x y ⟨_, _, _, _, _, _, rfl, rfl, rfl⟩; exact ns_all rfl) (by rintro h v x y ⟨_, _, _, _, _, _, _, rfl, rfl, rfl⟩; exact ns_all rfl))))) hmix (by kernel_rfl) (by kernel_rfl) ?_
  show lxME _ _ _ _ _ _ _ _ _ _ _ _ _ _ _ _ [0, 1, 2, 3, 4, 5, 6, 7, 8, 9, 10, 11, 12] _ _
  refine lxME_v rfl rfl (fun w Sb wb hZ hA hP hF => kl rfl) rfl (lxME_v rfl rfl (fun w Sb wb hZ hA hP hF => kI rfl) rfl (lxME_v rfl rfl (fun w Sb wb hZ hA hP hF => kk (k := 6) Try.underlying61 rfl rfl nz59 rfl) rfl (lxME_v rfl rfl (fun w Sb wb hZ hA hP hF => kt Try.underlying59 rfl rfl ((hA.rb 10 rfl).cell hF.fr 6 rfl)) rfl (lxME_v rfl rfl (fun w Sb wb hZ hA hP hF => kl rfl) rfl ?_))))
  refine lxME_new (fun h v x y => v = .agg #[pB b_26 0, pB b_30 0, pB b_34 0] ∧ x = [] ∧ y = []) [] [] [] [OE.bx b_18 [pB b_26 0, pB b_30 0, pB b_34 0], OE.bx b_1 [pB ba2_0 0, pB ba2_1 0, pB ba2_2 0], OE.bx b_3 [.pointer none, .pointer none, .pointer none]] rfl rfl (fun h v x y => rfl) rfl rfl rfl rfl ⟨_, _, _, rfl, rfl, rfl⟩ (fun w Sl Tl hZ hTT hA hP hS => ?_) rfl ?_
  ·exact opx_v (kG (us := [pB b_26 0, pB b_30 0, pB b_34 0]) Try.underlying64 rfl sz64 rfl (hS.bxs 0 rfl rfl)) ⟨_, _, ⟨rfl, rfl, rfl⟩, SfT.mk' hZ Rds.nil Off.nil hS⟩
  rintro v_q x_q y_q ⟨rfl, rfl, rfl⟩
  refine lxME_v rfl rfl (fun w Sb wb hZ hA hP hF => kl rfl) rfl (lxME_v rfl rfl (fun w Sb wb hZ hA hP hF => kl rfl) rfl ?_)
  refine lxME_call (fun h v x y => v = v64 x_41 ∧ x = [] ∧ y = []) [] [] [] _ rfl rfl (fun h v x y => rfl) rfl rfl rfl rfl ⟨_, _, _, rfl, rfl, rfl⟩ (by kernel_rfl) rfl (fun w Sl Tl hZ hTT hA hP hS => ?_) rfl ?_
  ·refine calls_ret (c_bignum_Int_Bit _ a1_0 a1_1 x_25 va1_1 ba1 ((hA.rp 11 rfl).now hS.fr).rp ((hA.rb 12 rfl).now hS.fr) _ hx_41) ?_
   rintro _ w ⟨rfl, hS1⟩
   have hS := hS.call hS1
   exact ⟨_, _, ⟨rfl, rfl, rfl⟩, SfT.mk' hZ Rds.nil Off.nil hS⟩
  rintro v_q x_q y_q ⟨rfl, rfl, rfl⟩
  refine lxME_v rfl rfl (fun w Sb wb hZ hA hP hF => kr rfl rfl (b_eql64 _ x_41 1)) rfl (lxME_v rfl rfl (fun w Sb wb hZ hA hP hF => kG (us := [pB ba2_0 0, pB ba2_1 0, pB ba2_2 0]) Try.underlying64 rfl sz64 rfl (hF.bxs 0 rfl rfl)) rfl ?_)
  refine lxME_callV (fun h v x y => ∃ b0_43_0 : Nat, ∃ b0_43_1 : Nat, ∃ b0_43_2 : Nat, ∃ u0_43_0_1 : Value, ∃ u0_43_1_1 : Value, ∃ u0_43_2_1 : Value, v = .agg #[pB b0_43_0 0, pB b0_43_1 0, pB b0_43_2 0] ∧ x = [] ∧ y = [red e32 u0_43_0_1 x_42.2.1, OE.bx b0_43_0 [vB x_42.1, u0_43_0_1], red e32 u0_43_1_1 x_42.2.2.2.1, OE.bx b0_43_1 [vB x_42.2.2.1, u0_43_1_1], red e32 u0_43_2_1 x_42.2.2.2.2.2, OE.bx b0_43_2 [vB x_42.2.2.2.2.1, u0_43_2_1]]) [] [] [] _ rfl rfl (fun h v x y => rfl) rfl rfl rfl rfl ⟨_, _, _, 0, 0, 0, undef, undef, undef, rfl, rfl, rfl⟩ rfl (by kernel_rfl) rfl (fun w Sl Tl hZ hTT hA hP hS => ?_) rfl ?_
  ·replace hS := hS.pick (os' := [] ++ [OE.bx b_1 [pB ba2_0 0, pB ba2_1 0, pB ba2_2 0], OE.bx b_3 [.pointer none, .pointer none, .pointer none]]) [0, 1] (by decide) rfl
   obtain ⟨hZ, hA, hP, hS⟩ := hZ.frzK hTT hA hP hS
   refine calls_ret (c_curve_step _ a0_0_0 a0_0_1 a0_1_0 a0_1_1 a0_2_0 a0_2_1 a0_3_0 a0_3_1 a0_4_0 a0_4_1 a0_5 x_27 x_28 x_31 x_32 x_35 x_36 (x_41 == 1) a2_0_0 a2_0_1 a2_1_0 a2_1_1 a2_2_0 a2_2_1 va0_0_1 va0_1_1 va0_2_1 va0_3_1 va0_4_1 v_29 v_33 v_37 va2_0_1 va2_1_1 va2_2_1 ba0 ba0_0 ba0_1 ba0_2 ba0_3 ba0_4 b_26 b_30 b_34 ba2_0 ba2_1 ba2_2 _ (hZ.okT hTT hS) (hA.rpT hP 0 rfl) (hA.rbT hP 1 rfl) (hA.rpT hP 2 rfl) (hA.rbT hP 3 rfl) (hA.rpT hP 4 rfl) (hA.rbT hP 5 rfl) (hA.rpT hP 6 rfl) (hA.rbT hP 7 rfl) (hA.rpT hP 8 rfl) (hA.rbT hP 9 rfl) (hA.rbT hP 10 rfl) (hA.rpT hP 19 rfl) (hA.rbT hP 20 rfl) (hA.rpT hP 21 rfl) (hA.rbT hP 22 rfl) (hA.rpT hP 23 rfl) (hA.rbT hP 24 rfl) (hA.rpT hP 13 rfl) (hA.rbT hP 14 rfl) (hA.rpT hP 15 rfl) (hA.rbT hP 16 rfl) (hA.rpT hP 17 rfl) (hA.rbT hP 18 rfl) _ hx_42) ?_
   rintro _ w ⟨b0_43_0, u0_43_0_1, b0_43_1, u0_43_1_1, b0_43_2, u0_43_2_1, rfl, hS1, hR1⟩
   obtain ⟨S_46, wb_47, hZ, hA, hP, hS⟩ := hZ.callK hA hP hS hS1 hR1 rfl
   exact ⟨_, _, ⟨b0_43_0, b0_43_1, b0_43_2, u0_43_0_1, u0_43_1_1, u0_43_2_1, rfl, rfl, rfl⟩, SfT.mk' hZ (Rds.cons (hA.nth 25 rfl) (Rds.cons (hA.nth 26 rfl) (Rds.cons (hA.nth 27 rfl) (Rds.cons (hA.nth 28 rfl) (Rds.cons (hA.nth 29 rfl) (Rds.cons (hA.nth 30 rfl) Rds.nil)))))) (Off.cons (hP.nth 25 rfl) (Off.cons (hP.nth 26 rfl) (Off.cons (hP.nth 27 rfl) (Off.cons (hP.nth 28 rfl) (Off.cons (hP.nth 29 rfl) (Off.cons (hP.nth 30 rfl) Off.nil)))))) hS⟩
  rintro v_q x_q y_q ⟨b0_43_0, b0_43_1, b0_43_2, u0_43_0_1, u0_43_1_1, u0_43_2_1, rfl, rfl, rfl⟩
  refine lxME_y (fun h v x y => ∃ b0_43_0 : Nat, ∃ b0_43_1 : Nat, ∃ b0_43_2 : Nat, ∃ u0_43_0_1 : Value, ∃ u0_43_1_1 : Value, ∃ u0_43_2_1 : Value, h = [(.agg #[pB b0_43_0 0, pB b0_43_1 0, pB b0_43_2 0], [], [red e32 u0_43_0_1 x_42.2.1, OE.bx b0_43_0 [vB x_42.1, u0_43_0_1], red e32 u0_43_1_1 x_42.2.2.2.1, OE.bx b0_43_1 [vB x_42.2.2.1, u0_43_1_1], red e32 u0_43_2_1 x_42.2.2.2.2.2, OE.bx b0_43_2 [vB x_42.2.2.2.2.1, u0_43_2_1]])] ∧ v = undef ∧ x = [OE.bx b_18 [pB b0_43_0 0, pB b0_43_1 0, pB b0_43_2 0]] ∧ y = [red e32 u0_43_0_1 x_42.2.1, OE.bx b0_43_0 [vB x_42.1, u0_43_0_1], red e32 u0_43_1_1 x_42.2.2.2.1, OE.bx b0_43_1 [vB x_42.2.2.1, u0_43_1_1], red e32 u0_43_2_1 x_42.2.2.2.2.2, OE.bx b0_43_2 [vB x_42.2.2.2.2.1, u0_43_2_1]]) [(.agg #[pB b0_43_0 0, pB b0_43_1 0, pB b0_43_2 0], [], [red e32 u0_43_0_1 x_42.2.1, OE.bx b0_43_0 [vB x_42.1, u0_43_0_1], red e32 u0_43_1_1 x_42.2.2.2.1, OE.bx b0_43_1 [vB x_42.2.2.1, u0_43_1_1], red e32 u0_43_2_1 x_42.2.2.2.2.2, OE.bx b0_43_2 [vB x_42.2.2.2.2.1, u0_43_2_1]])] [OE.bx b_18 [pB b_26 0, pB b_30 0, pB b_34 0]] [red e32 u0_43_0_1 x_42.2.1, OE.bx b0_43_0 [vB x_42.1, u0_43_0_1], red e32 u0_43_1_1 x_42.2.2.2.1, OE.bx b0_43_1 [vB x_42.2.2.1, u0_43_1_1], red e32 u0_43_2_1 x_42.2.2.2.2.2, OE.bx b0_43_2 [vB x_42.2.2.2.2.1, u0_43_2_1]] _ rfl rfl (fun h v x y => rfl) rfl rfl rfl rfl ⟨_, _, _, b0_43_0, b0_43_1, b0_43_2, u0_43_0_1, u0_43_1_1, u0_43_2_1, rfl, rfl, rfl, rfl⟩ (fun w Sl Tl hZ hTT hA hP hS => ?_) ?_
  ·refine opy_imp (kL (i := 0) (us := [pB b0_43_0 0, pB b0_43_1 0, pB b0_43_2 0]) rfl sz64 rfl rfl rfl ⟨rfl, rfl, rfl, trivial⟩ rfl hS) ?_
   intro w hS
   exact ⟨_, _, ⟨b0_43_0, b0_43_1, b0_43_2, u0_43_0_1, u0_43_1_1, u0_43_2_1, rfl, rfl, rfl, rfl⟩, SfT.mk' hZ (Rds.cons (hA.nth 30 rfl) (Rds.cons (hA.nth 29 rfl) (Rds.cons (hA.nth 28 rfl) (Rds.cons (hA.nth 27 rfl) (Rds.cons (hA.nth 26 rfl) (Rds.cons (hA.nth 25 rfl) Rds.nil)))))) (Off.cons (hP.nth 30 rfl) (Off.cons (hP.nth 29 rfl) (Off.cons (hP.nth 28 rfl) (Off.cons (hP.nth 27 rfl) (Off.cons (hP.nth 26 rfl) (Off.cons (hP.nth 25 rfl) Off.nil)))))) hS⟩
  rintro v_q x_q y_q ⟨b0_43_0', b0_43_1', b0_43_2', u0_43_0_1', u0_43_1_1', u0_43_2_1', hh, rfl, rfl, rfl⟩
  replace hh : ([(.agg #[pB b0_43_0 0, pB b0_43_1 0, pB b0_43_2 0], [], [red e32 u0_43_0_1 x_42.2.1, OE.bx b0_43_0 [vB x_42.1, u0_43_0_1], red e32 u0_43_1_1 x_42.2.2.2.1, OE.bx b0_43_1 [vB x_42.2.2.1, u0_43_1_1], red e32 u0_43_2_1 x_42.2.2.2.2.2, OE.bx b0_43_2 [vB x_42.2.2.2.2.1, u0_43_2_1]])] : List Th) = [(.agg #[pB b0_43_0' 0, pB b0_43_1' 0, pB b0_43_2' 0], [], [red e32 u0_43_0_1' x_42.2.1, OE.bx b0_43_0' [vB x_42.1, u0_43_0_1'], red e32 u0_43_1_1' x_42.2.2.2.1, OE.bx b0_43_1' [vB x_42.2.2.1, u0_43_1_1'], red e32 u0_43_2_1' x_42.2.2.2.2.2, OE.bx b0_43_2' [vB x_42.2.2.2.2.1, u0_43_2_1']])] := hh
  cases hh
  refine lxME_nil fun w hQ => ?_
  obtain ⟨S_48, wb_49, hZ, hA, hP, hS⟩ := hQ
  refine kJ ?_
  refine ka (kc (kb 3 rfl ?_))
  refine ke ?_
  exact QE_rnd (wpN_le _ (by exact ⟨rfl, rfl, rfl, rfl, rfl, rfl, trivial⟩) (ih_39 (wI (x_25 - 1), x_42.1, x_42.2.1, x_42.2.2.1, x_42.2.2.2.1, x_42.2.2.2.2.1, x_42.2.2.2.2.2) _ _ ⟨b0_43_0, u0_43_0_1, b0_43_1, u0_43_1_1, b0_43_2, u0_43_2_1, rfl, (SfT.mk' hZ (Rds.cons (hA.nth 25 rfl) (Rds.cons (hA.nth 26 rfl) (Rds.cons (hA.nth 27 rfl) (Rds.cons (hA.nth 28 rfl) (Rds.cons (hA.nth 29 rfl) (Rds.cons (hA.nth 30 rfl) (Rds.cons (hA.nth 18 rfl) (Rds.cons (hA.nth 17 rfl) (Rds.cons (hA.nth 16 rfl) (Rds.cons (hA.nth 15 rfl) (Rds.cons (hA.nth 14 rfl) (Rds.cons (hA.nth 13 rfl) (Rds.cons (hA.nth 12 rfl) (Rds.cons (hA.nth 11 rfl) (Rds.cons (hA.nth 10 rfl) (Rds.cons (hA.nth 9 rfl) (Rds.cons (hA.nth 8 rfl) (Rds.cons (hA.nth 7 rfl) (Rds.cons (hA.nth 6 rfl) (Rds.cons (hA.nth 5 rfl) (Rds.cons (hA.nth 4 rfl) (Rds.cons (hA.nth 3 rfl) (Rds.cons (hA.nth 2 rfl) (Rds.cons (hA.nth 1 rfl) (Rds.cons (hA.nth 0 rfl) Rds.nil))))))))))))))))))))))))) (Off.cons (hP.nth 25 rfl) (Off.cons (hP.nth 26 rfl) (Off.cons (hP.nth 27 rfl) (Off.cons (hP.nth 28 rfl) (Off.cons (hP.nth 29 rfl) (Off.cons (hP.nth 30 rfl) (Off.cons (hP.nth 18 rfl) (Off.cons (hP.nth 17 rfl) (Off.cons (hP.nth 16 rfl) (Off.cons (hP.nth 15 rfl) (Off.cons (hP.nth 14 rfl) (Off.cons (hP.nth 13 rfl) (Off.cons (hP.nth 12 rfl) (Off.cons (hP.nth 11 rfl) (Off.cons (hP.nth 10 rfl) (Off.cons (hP.nth 9 rfl) (Off.cons (hP.nth 8 rfl) (Off.cons (hP.nth 7 rfl) (Off.cons (hP.nth 6 rfl) (Off.cons (hP.nth 5 rfl) (Off.cons (hP.nth 4 rfl) (Off.cons (hP.nth 3 rfl) (Off.cons (hP.nth 2 rfl) (Off.cons (hP.nth 1 rfl) (Off.cons (hP.nth 0 rfl) Off.nil))))))))))))))))))))))))) (hS.pick [1, 2, 0] (by decide) rfl))⟩ (kK h hk_38)))
 have h := if_f h hb_50
 refine kP ?_
 refine kw (kw ?_)
 have h := kF h hk_38
 refine kQ ?_
 refine ka (kd (kc (kh (kG (us := [pB b_26 0, pB b_30 0, pB b_34 0]) Try.underlying64 rfl sz64 rfl (hS.bxs 2 rfl rfl)) rfl (kW (kL (i := 1) (us := [pB b_26 0, pB b_30 0, pB b_34 0]) rfl sz64 rfl rfl rfl ⟨rfl, rfl, rfl, trivial⟩ rfl hS) ?_))))
 intro w hS
 refine ke (ka (ko ?_))
 cases h
 obtain ⟨hS0, hR⟩ := hZ.outT hTT hA hP hS
 exact QE_rv1 rfl ⟨_, rfl, run_ldAgg (us := [pB b_26 0, pB b_30 0, pB b_34 0]) Try.underlying64 rfl sz64 (hS.bxs 1 rfl rfl)⟩ ⟨b_26, v_29, b_30, v_33, b_34, v_37, rfl, hS0, (Rds.cons (hR.nth 24 rfl) (Rds.cons (hR.nth 23 rfl) (Rds.cons (hR.nth 22 rfl) (Rds.cons (hR.nth 21 rfl) (Rds.cons (hR.nth 20 rfl) (Rds.cons (hR.nth 19 rfl) Rds.nil))))))⟩
end Go.Proofs
