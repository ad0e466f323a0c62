import Derived.Test.YtpbgncmffgnohaaTW0
import Derived.Test.YtpbgncmffgnohaaGkFcurve
import Derived.Test.YtpbgncmffgnohaaTWbignumc
import Derived.Test.YtpbgncmffgnohaaTWcurvec
import Derived.Test.YtpbgncmffgnohaaTWnat
set_option linter.unusedVariables false
set_option linter.unusedSimpArgs false
set_option linter.unusedVariables false
set_option maxRecDepth 4000
namespace Go.Proofs
open Go Go.RowKit Go.Gk
theorem c_curve_Mul (w0 : World) (a0 : Int) (a1 : List UInt32) (a2_0 : List UInt32) (a2_1 : List UInt32) (a2_2 : Bool) (va1 : Value) (va2_0 : Value) (va2_1 : Value) (ha1 : RP [] w0 e32 va1 a1) (ha2_0 : RP [] w0 e32 va2_0 a2_0) (ha2_1 : RP [] w0 e32 va2_1 a2_1) (r : List UInt32 × List UInt32 × Bool × Int)
  (h : F.curve_Mul a0 a1 a2_0 a2_1 a2_2 = some r) : Calls Try.prog 29 #[vI a0, va1, .agg #[va2_0, va2_1, vB a2_2]] w0 (Ret fun v w => ∃ u0_0 u0_1 : Value, v = .tuple #[.agg #[u0_0, u0_1, vB r.2.2.1], vI r.2.2.2] ∧ St [] w0 w [own e32 u0_0 r.1, own e32 u0_1 r.2.1]) := by
 refine ky 43 Try.func29 rfl rfl rfl ?_
 have hS := St.start w0
 have hZ := Fz.start (S := []) (w0 := w0)
 have hTT : TOk [] [] w0 := TOk.nil
 have hA : Rds [] w0 [red e32 va2_1 a2_1, red e32 va2_0 a2_0, red e32 va1 a1] := Rds.cons (RP.kept (Nat.le_of_ble_eq_true rfl) ha2_1) (Rds.cons (RP.kept (Nat.le_of_ble_eq_true rfl) ha2_0) (Rds.cons (RP.kept (Nat.le_of_ble_eq_true rfl) ha1) (Rds.nil)))
 have hP : Off [] [red e32 va2_1 a2_1, red e32 va2_0 a2_0, red e32 va1 a1] := Off.emp
 refine km [(0, vI a0), (1, va1), (2, .agg #[va2_0, va2_1, vB a2_2])] ⟨rfl, rfl, rfl, trivial⟩ ?_
 unfold F.curve_Mul at h
 refine kd (kc (kV (OpX_box (cs := [va2_0, va2_1, vB a2_2]) rfl rfl hS) rfl ?_))
 rintro _ w ⟨b_1, rfl, hS⟩
 refine kV (kD (cs := [.slice none 0 0, .slice none 0 0, vB false]) tz26 rfl hS) rfl ?_
 rintro _ w ⟨b_3, rfl, hS⟩
 refine kb 1 rfl ?_
 refine ke (ka (kd (kc (kb 1 rfl ?_))))
 refine kh (kG (us := [va2_0, va2_1, vB a2_2]) Try.underlying26 rfl sz26 rfl (hS.bxs 1 rfl rfl)) rfl ?_
 replace hS := hS.pick (os' := [] ++ [OE.bx b_3 [.slice none 0 0, .slice none 0 0, vB false], OE.bx b_1 [va2_0, va2_1, vB a2_2]]) [0, 1] (by decide) rfl
 obtain ⟨hZ, hA, hP, hS⟩ := hZ.frzK hTT hA hP hS
 obtain ⟨x_5, hx_5, h⟩ := kf h
 refine kj (by kernel_rfl) rfl (c_curve_take _ a0 a2_0 a2_1 a2_2 va2_0 va2_1  _ (hZ.okT hTT hS) (hA.rpT hP 1 rfl) (hA.rpT hP 2 rfl) _ hx_5) rfl ?_
 rintro v_q w hQ
 cases hc_7 : x_5.1 with
 | none =>
  have h := ocase_n h hc_7
  rw [hc_7] at hQ
  obtain ⟨rfl, hS1⟩ := ocaseP_n' hQ
  obtain ⟨S_9, wb_10, hZ, hA, hP, hS⟩ := hZ.callK hA hP hS hS1 Rds.nil rfl
  refine kb 4 rfl ?_
  refine kV (kD (cs := [.pointer none, .pointer none, .pointer none]) tz64 rfl hS) rfl ?_
  rintro _ w ⟨b_13, rfl, hS⟩
  refine kb 1 rfl ?_
  refine kW (kL (i := 0) (us := [.pointer none, .pointer none, .pointer none]) rfl sz64 rfl rfl rfl ⟨rfl, rfl, rfl, trivial⟩ rfl hS) ?_
  intro w hS
  refine kb 1 rfl ?_
  refine ke (ka (kd (kd (kc (kb 2 rfl ?_)))))
  refine ke (ka ?_)
  refine kn rfl (fun hb_21 => ?_) (fun hb_21 => ?_)
  ·have h := if_t h hb_21
   refine kd (kc (kh (OpV_build (vs := []) (cells := [.slice none 0 0, .slice none 0 0, vB false]) rfl lay26 trivial rfl) rfl (kW (kL (i := 1) (us := [.slice none 0 0, .slice none 0 0, vB false]) rfl sz26 rfl rfl rfl ⟨rfl, rfl, rfl, trivial⟩ rfl hS) ?_)))
   intro w hS
   refine kb 1 rfl ?_
   refine ke (ka (ko (ku ?_)))
   cases h
   replace hS := hZ.st hS
   exact QE_rv2 rfl ⟨_, rfl, run_ldAgg (us := [.slice none 0 0, .slice none 0 0, vB false]) Try.underlying26 rfl sz26 (hS.bxs 1 rfl rfl)⟩ rfl ⟨.slice none 0 0, .slice none 0 0, rfl, ((hS.nil e32).nil e32).pick [1, 0] (by decide) rfl⟩
  have h := if_f h hb_21
  refine kq (ka (kd (kc (kb 1 rfl ?_))))
  obtain ⟨x_15, hx_15, h⟩ := kf h
  refine kj (by kernel_rfl) rfl (c_curve_scalar _ a1 va1  ((hA.rp 0 rfl).now hS.fr).rp _ hx_15) rfl ?_
  rintro _ w ⟨v_16, b_18, rfl, hS1⟩
  have hS := hS.call hS1
  refine kb 5 rfl ?_
  refine ke (ka (kd (kd (kc (kb 2 rfl ?_)))))
  refine ke (ka ?_)
  refine kn rfl (fun hb_20 => ?_) (fun hb_20 => ?_)
  ·have h := if_t h hb_20
   refine kd (kc (kh (OpV_build (vs := []) (cells := [.slice none 0 0, .slice none 0 0, vB false]) rfl lay26 trivial rfl) rfl (kW (kL (i := 3) (us := [.slice none 0 0, .slice none 0 0, vB false]) rfl sz26 rfl rfl rfl ⟨rfl, rfl, rfl, trivial⟩ rfl hS) ?_)))
   intro w hS
   refine kb 1 rfl ?_
   refine ke (ka (ko (ku ?_)))
   cases h
   replace hS := hZ.st hS
   exact QE_rv2 rfl ⟨_, rfl, run_ldAgg (us := [.slice none 0 0, .slice none 0 0, vB false]) Try.underlying26 rfl sz26 (hS.bxs 3 rfl rfl)⟩ rfl ⟨.slice none 0 0, .slice none 0 0, rfl, ((hS.nil e32).nil e32).pick [1, 0] (by decide) rfl⟩
  have h := if_f h hb_20
  refine kq (ka (kd ?_))
  cases h
 | some x_8 =>
  have h := ocase_s h hc_7
  rw [hc_7] at hQ
  obtain ⟨b0_6, b0_6_0, u0_6_0_1, b0_6_1, u0_6_1_1, b0_6_2, u0_6_2_1, b0_6_3, u0_6_3_1, b0_6_4, u0_6_4_1, b1_6_0, u1_6_0_1, b1_6_1, u1_6_1_1, b1_6_2, u1_6_2_1, rfl, hS1, hR1⟩ := ocaseP_s' hQ
  obtain ⟨S_11, wb_12, hZ, hA, hP, hS⟩ := hZ.callK hA hP hS hS1 hR1 rfl
  refine kb 4 rfl ?_
  refine kV (kD (cs := [.pointer none, .pointer none, .pointer none]) tz64 rfl hS) rfl ?_
  rintro _ w ⟨b_22, rfl, hS⟩
  refine kb 1 rfl ?_
  refine kW (kL (i := 0) (us := [pB b1_6_0 0, pB b1_6_1 0, pB b1_6_2 0]) rfl sz64 rfl rfl rfl ⟨rfl, rfl, rfl, trivial⟩ rfl hS) ?_
  intro w hS
  refine kb 1 rfl ?_
  refine ke (ka (kd (kd (kc (kb 2 rfl ?_)))))
  refine ke (ka ?_)
  refine kn rfl (fun hb_46 => ?_) (fun hb_46 => ?_)
  ·have h := if_t h hb_46
   refine kd (kc (kh (OpV_build (vs := []) (cells := [.slice none 0 0, .slice none 0 0, vB false]) rfl lay26 trivial rfl) rfl (kW (kL (i := 1) (us := [.slice none 0 0, .slice none 0 0, vB false]) rfl sz26 rfl rfl rfl ⟨rfl, rfl, rfl, trivial⟩ rfl hS) ?_)))
   intro w hS
   refine kb 1 rfl ?_
   refine ke (ka (ko (ku ?_)))
   cases h
   replace hS := hZ.st hS
   exact QE_rv2 rfl ⟨_, rfl, run_ldAgg (us := [.slice none 0 0, .slice none 0 0, vB false]) Try.underlying26 rfl sz26 (hS.bxs 1 rfl rfl)⟩ rfl ⟨.slice none 0 0, .slice none 0 0, rfl, ((hS.nil e32).nil e32).pick [1, 0] (by decide) rfl⟩
  have h := if_f h hb_46
  refine kq (ka (kd (kc (kb 1 rfl ?_))))
  obtain ⟨x_24, hx_24, h⟩ := kf h
  refine kj (by kernel_rfl) rfl (c_curve_scalar _ a1 va1  ((hA.rp 0 rfl).now hS.fr).rp _ hx_24) rfl ?_
  rintro _ w ⟨v_25, b_27, rfl, hS1⟩
  have hS := hS.call hS1
  refine kb 5 rfl ?_
  refine ke (ka (kd (kd (kc (kb 2 rfl ?_)))))
  refine ke (ka ?_)
  refine kn rfl (fun hb_45 => ?_) (fun hb_45 => ?_)
  ·have h := if_t h hb_45
   refine kd (kc (kh (OpV_build (vs := []) (cells := [.slice none 0 0, .slice none 0 0, vB false]) rfl lay26 trivial rfl) rfl (kW (kL (i := 3) (us := [.slice none 0 0, .slice none 0 0, vB false]) rfl sz26 rfl rfl rfl ⟨rfl, rfl, rfl, trivial⟩ rfl hS) ?_)))
   intro w hS
   refine kb 1 rfl ?_
   refine ke (ka (ko (ku ?_)))
   cases h
   replace hS := hZ.st hS
   exact QE_rv2 rfl ⟨_, rfl, run_ldAgg (us := [.slice none 0 0, .slice none 0 0, vB false]) Try.underlying26 rfl sz26 (hS.bxs 3 rfl rfl)⟩ rfl ⟨.slice none 0 0, .slice none 0 0, rfl, ((hS.nil e32).nil e32).pick [1, 0] (by decide) rfl⟩
  have h := if_f h hb_45
  refine kq (ka (kd ?_))
  obtain ⟨x_29, hx_29, h⟩ := kf h
  obtain ⟨x_32, hx_32, h⟩ := kf h
  obtain ⟨x_38, hx_38, h⟩ := kf h
  refine wpC_regionM (es := [OE.bx b1_6_2 [vB x_8.2.2.2.2.2.2.2.2.2.2.2.2.2.2.2.1, u1_6_2_1], red e32 u1_6_2_1 x_8.2.2.2.2.2.2.2.2.2.2.2.2.2.2.2.2, OE.bx b1_6_1 [vB x_8.2.2.2.2.2.2.2.2.2.2.2.2.2.1, u1_6_1_1], red e32 u1_6_1_1 x_8.2.2.2.2.2.2.2.2.2.2.2.2.2.2.1, OE.bx b1_6_0 [vB x_8.2.2.2.2.2.2.2.2.2.2.2.1, u1_6_0_1], red e32 u1_6_0_1 x_8.2.2.2.2.2.2.2.2.2.2.2.2.1, OE.bx b0_6 [pB b0_6_0 0, pB b0_6_1 0, pB b0_6_2 0, pB b0_6_3 0, pB b0_6_4 0, vI x_8.2.2.2.2.2.2.2.2.2.2.1, .func (.func 91) #[] #[]], OE.bx b0_6_4 [vB x_8.2.2.2.2.2.2.2.2.1, u0_6_4_1], red e32 u0_6_4_1 x_8.2.2.2.2.2.2.2.2.2.1, OE.bx b0_6_3 [vB x_8.2.2.2.2.2.2.1, u0_6_3_1], red e32 u0_6_3_1 x_8.2.2.2.2.2.2.2.1, OE.bx b0_6_2 [vB x_8.2.2.2.2.1, u0_6_2_1], red e32 u0_6_2_1 x_8.2.2.2.2.2.1, OE.bx b0_6_1 [vB x_8.2.2.1, u0_6_1_1], red e32 u0_6_1_1 x_8.2.2.2.1, OE.bx b0_6_0 [vB x_8.1, u0_6_0_1], red e32 u0_6_0_1 x_8.2.1, red e32 va2_1 a2_1, red e32 va2_0 a2_0, red e32 va1 a1]) (os := [OE.bx b_22 [pB b1_6_0 0, pB b1_6_1 0, pB b1_6_2 0], OE.bx b_1 [va2_0, va2_1, vB a2_2]]) (fun i => [8, 10, 11, 12].contains i) (fun i => if i = 8 then some 10 else if i = 11 then some 12 else none) (fun i => if i = 11 then [10] else []) (fun i => if i = 8 then [OE.bx b_27 [vB x_24.1, v_25], own e32 v_25 x_24.2.1] else if i = 12 then [OE.bx b_3 [.slice none 0 0, .slice none 0 0, vB false]] else []) (fun i => []) (fun i => if i = 12 then [11] else []) (fun i => if i = 8 then (fun h v x y => ∃ v_30 : Value, v = pB b_27 0 ∧ x = [OE.bx b_27 [vB x_29.1, v_30], own e32 v_30 x_29.2] ∧ y = []) else if i = 10 then (fun h v x y => ∃ b0_33_0 : Nat, ∃ b0_33_1 : Nat, ∃ b0_33_2 : Nat, ∃ u0_33_0_1 : Value, ∃ u0_33_1_1 : Value, ∃ u0_33_2_1 : Value, v = .agg #[pB b0_33_0 0, pB b0_33_1 0, pB b0_33_2 0] ∧ x = [] ∧ y = [red e32 u0_33_0_1 x_32.2.1, OE.bx b0_33_0 [vB x_32.1, u0_33_0_1], red e32 u0_33_1_1 x_32.2.2.2.1, OE.bx b0_33_1 [vB x_32.2.2.1, u0_33_1_1], red e32 u0_33_2_1 x_32.2.2.2.2.2, OE.bx b0_33_2 [vB x_32.2.2.2.2.1, u0_33_2_1]]) else if i = 11 then (fun h v x y => ∃ v_39 : Value, ∃ v_41 : Value, v = .agg #[v_39, v_41, vB x_38.2.2] ∧ x = [own e32 v_39 x_38.1, own e32 v_41 x_38.2.1] ∧ y = []) else (fun h v x y => ∃ v_39 : Value, ∃ v_41 : Value, h = [(.agg #[v_39, v_41, vB x_38.2.2], [own e32 v_39 x_38.1, own e32 v_41 x_38.2.1], [])] ∧ v = undef ∧ x = [own e32 v_39 x_38.1, own e32 v_41 x_38.2.1, OE.bx b_3 [v_39, v_41, vB x_38.2.2]] ∧ y = [])) (SfT.mk' hZ hA hP (hS.pick (os' := [OE.bx b_27 [vB x_24.1, v_25], own e32 v_25 x_24.2.1, OE.bx b_3 [.slice none 0 0, .slice none 0 0, vB false], OE.bx b_22 [pB b1_6_0 0, pB b1_6_1 0, pB b1_6_2 0], OE.bx b_1 [va2_0, va2_1, vB a2_2]]) [0, 1, 3, 2, 4] (by decide) rfl)) (fun k hk => (if_neg (fun q => by subst q; exact absurd hk (by decide))).trans (if_neg (fun q => by subst q; exact absurd hk (by decide)))) hTT rfl (fun i => (ite_ns (by rintro h v x y ⟨_, rfl, rfl, rfl⟩; exact ns_all rfl) (ite_ns (by rintro h v x y ⟨_, _, _, _, _, _, rfl, rfl, rfl⟩; exact ns_all rfl) (ite_ns (by rintro h v x y ⟨_, _, rfl, rfl, rfl⟩; exact ns_all rfl) (by rintro h v x y ⟨_, _, _, rfl, rfl, rfl⟩; exact ns_all rfl))))) hmix (by kernel_rfl) (by kernel_rfl) ?_
  show lxME _ _ _ _ _ _ _ _ _ _ _ _ _ _ _ _ [0, 1, 2, 3, 4, 5, 6, 7, 8, 9, 10, 11, 12, 13] _ _
  refine lxME_v rfl rfl (fun w Sb wb hZ hA hP hF => kl rfl) rfl (lxME_v rfl rfl (fun w Sb wb hZ hA hP hF => kl rfl) rfl (lxME_v rfl rfl (fun w Sb wb hZ hA hP hF => kl rfl) rfl (lxME_v rfl rfl (fun w Sb wb hZ hA hP hF => kl rfl) rfl (lxME_v rfl rfl (fun w Sb wb hZ hA hP hF => kl rfl) rfl (lxME_v rfl rfl (fun w Sb wb hZ hA hP hF => kI rfl) rfl (lxME_v rfl rfl (fun w Sb wb hZ hA hP hF => kk (k := 2) Try.underlying61 rfl rfl nz58 rfl) rfl (lxME_v rfl rfl (fun w Sb wb hZ hA hP hF => kt Try.underlying58 rfl rfl ((hA.rb 13 rfl).cell hF.fr 2 rfl)) rfl ?_)))))))
  refine lxME_call (fun h v x y => ∃ v_30 : Value, v = pB b_27 0 ∧ x = [OE.bx b_27 [vB x_29.1, v_30], own e32 v_30 x_29.2] ∧ y = []) [] [OE.bx b_27 [vB x_24.1, v_25], own e32 v_25 x_24.2.1] [] _ rfl rfl (fun h v x y => rfl) rfl rfl rfl rfl ⟨_, _, _, undef, rfl, rfl, rfl⟩ (by kernel_rfl) rfl (fun w Sl Tl hZ hTT hA hP hS => ?_) rfl ?_
  ·have hG := hS.pick (os' := [OE.bx b_27 [vB x_24.1, v_25], own e32 v_25 x_24.2.1] ++ [OE.bx b_22 [pB b1_6_0 0, pB b1_6_1 0, pB b1_6_2 0], OE.bx b_1 [va2_0, va2_1, vB a2_2]]) [0, 1, 2, 3] (by decide) rfl
   refine calls_ret (c_bignum_Int_Mod_a10 _ x_24.1 x_24.2.1 x_8.2.2.2.2.1 x_8.2.2.2.2.2.1 v_25 u0_6_2_1 b_27 b0_6_2 _ hG.give ((hA.rp 7 rfl).give (Nat.le_of_ble_eq_true rfl) hG) ((hA.rb 8 rfl).give hG) _ hx_29) ?_
   rintro _ w ⟨v_30, rfl, hS1⟩
   have hS := hG.back hS1
   exact ⟨_, _, ⟨v_30, rfl, rfl, rfl⟩, SfT.mk' hZ Rds.nil Off.nil hS⟩
  rintro v_q x_q y_q ⟨v_30, rfl, rfl, rfl⟩
  refine lxME_v rfl rfl (fun w Sb wb hZ hA hP hF => kG (us := [pB b1_6_0 0, pB b1_6_1 0, pB b1_6_2 0]) Try.underlying64 rfl sz64 rfl (hF.bxs 0 rfl rfl)) rfl ?_
  refine lxME_call (fun h v x y => ∃ b0_33_0 : Nat, ∃ b0_33_1 : Nat, ∃ b0_33_2 : Nat, ∃ u0_33_0_1 : Value, ∃ u0_33_1_1 : Value, ∃ u0_33_2_1 : Value, v = .agg #[pB b0_33_0 0, pB b0_33_1 0, pB b0_33_2 0] ∧ x = [] ∧ y = [red e32 u0_33_0_1 x_32.2.1, OE.bx b0_33_0 [vB x_32.1, u0_33_0_1], red e32 u0_33_1_1 x_32.2.2.2.1, OE.bx b0_33_1 [vB x_32.2.2.1, u0_33_1_1], red e32 u0_33_2_1 x_32.2.2.2.2.2, OE.bx b0_33_2 [vB x_32.2.2.2.2.1, u0_33_2_1]]) [] [OE.bx b_27 [vB x_29.1, v_30], own e32 v_30 x_29.2] [] _ rfl rfl (fun h v x y => rfl) rfl rfl rfl rfl ⟨_, _, _, 0, 0, 0, undef, undef, undef, rfl, rfl, rfl⟩ (by kernel_rfl) rfl (fun w Sl Tl hZ hTT hA hP hS => ?_) rfl ?_
  ·replace hS := hS.pick (os' := [OE.bx b_27 [vB x_29.1, v_30], own e32 v_30 x_29.2] ++ [OE.bx b_22 [pB b1_6_0 0, pB b1_6_1 0, pB b1_6_2 0], OE.bx b_1 [va2_0, va2_1, vB a2_2]]) [0, 1, 2, 3] (by decide) rfl
   obtain ⟨hZ, hA, hP, hS⟩ := hZ.frzK hTT hA hP hS
   refine calls_ret (c_curve_group_ladder _ x_8.1 x_8.2.1 x_8.2.2.1 x_8.2.2.2.1 x_8.2.2.2.2.1 x_8.2.2.2.2.2.1 x_8.2.2.2.2.2.2.1 x_8.2.2.2.2.2.2.2.1 x_8.2.2.2.2.2.2.2.2.1 x_8.2.2.2.2.2.2.2.2.2.1 x_8.2.2.2.2.2.2.2.2.2.2.1 x_29.1 x_29.2 x_8.2.2.2.2.2.2.2.2.2.2.2.1 x_8.2.2.2.2.2.2.2.2.2.2.2.2.1 x_8.2.2.2.2.2.2.2.2.2.2.2.2.2.1 x_8.2.2.2.2.2.2.2.2.2.2.2.2.2.2.1 x_8.2.2.2.2.2.2.2.2.2.2.2.2.2.2.2.1 x_8.2.2.2.2.2.2.2.2.2.2.2.2.2.2.2.2 u0_6_0_1 u0_6_1_1 u0_6_2_1 u0_6_3_1 u0_6_4_1 v_30 u1_6_0_1 u1_6_1_1 u1_6_2_1 b0_6 b0_6_0 b0_6_1 b0_6_2 b0_6_3 b0_6_4 b_27 b1_6_0 b1_6_1 b1_6_2 _ (hZ.okT hTT hS) (hA.rpT hP 3 rfl) (hA.rbT hP 4 rfl) (hA.rpT hP 5 rfl) (hA.rbT hP 6 rfl) (hA.rpT hP 7 rfl) (hA.rbT hP 8 rfl) (hA.rpT hP 9 rfl) (hA.rbT hP 10 rfl) (hA.rpT hP 11 rfl) (hA.rbT hP 12 rfl) (hA.rbT hP 13 rfl) (hA.rpT hP 20 rfl) (hA.rbT hP 21 rfl) (hA.rpT hP 14 rfl) (hA.rbT hP 15 rfl) (hA.rpT hP 16 rfl) (hA.rbT hP 17 rfl) (hA.rpT hP 18 rfl) (hA.rbT hP 19 rfl) _ hx_32) ?_
   rintro _ w ⟨b0_33_0, u0_33_0_1, b0_33_1, u0_33_1_1, b0_33_2, u0_33_2_1, rfl, hS1, hR1⟩
   obtain ⟨S_36, wb_37, hZ, hA, hP, hS⟩ := hZ.callK hA hP hS hS1 hR1 rfl
   exact ⟨_, _, ⟨b0_33_0, b0_33_1, b0_33_2, u0_33_0_1, u0_33_1_1, u0_33_2_1, rfl, rfl, rfl⟩, SfT.mk' hZ (Rds.cons (hA.nth 22 rfl) (Rds.cons (hA.nth 23 rfl) (Rds.cons (hA.nth 24 rfl) (Rds.cons (hA.nth 25 rfl) (Rds.cons (hA.nth 26 rfl) (Rds.cons (hA.nth 27 rfl) Rds.nil)))))) (Off.cons (hP.nth 22 rfl) (Off.cons (hP.nth 23 rfl) (Off.cons (hP.nth 24 rfl) (Off.cons (hP.nth 25 rfl) (Off.cons (hP.nth 26 rfl) (Off.cons (hP.nth 27 rfl) Off.nil)))))) hS⟩
  rintro v_q x_q y_q ⟨b0_33_0, b0_33_1, b0_33_2, u0_33_0_1, u0_33_1_1, u0_33_2_1, rfl, rfl, rfl⟩
  refine lxME_call (fun h v x y => ∃ v_39 : Value, ∃ v_41 : Value, v = .agg #[v_39, v_41, vB x_38.2.2] ∧ x = [own e32 v_39 x_38.1, own e32 v_41 x_38.2.1] ∧ y = []) [] [] [red e32 u0_33_0_1 x_32.2.1, OE.bx b0_33_0 [vB x_32.1, u0_33_0_1], red e32 u0_33_1_1 x_32.2.2.2.1, OE.bx b0_33_1 [vB x_32.2.2.1, u0_33_1_1], red e32 u0_33_2_1 x_32.2.2.2.2.2, OE.bx b0_33_2 [vB x_32.2.2.2.2.1, u0_33_2_1]] _ rfl rfl (fun h v x y => rfl) rfl rfl rfl rfl ⟨_, _, _, undef, undef, rfl, rfl, rfl⟩ (by kernel_rfl) rfl (fun w Sl Tl hZ hTT hA hP hS => ?_) rfl ?_
  ·refine calls_ret (c_curve_group_show _ x_8.1 x_8.2.1 x_8.2.2.1 x_8.2.2.2.1 x_8.2.2.2.2.1 x_8.2.2.2.2.2.1 x_8.2.2.2.2.2.2.1 x_8.2.2.2.2.2.2.2.1 x_8.2.2.2.2.2.2.2.2.1 x_8.2.2.2.2.2.2.2.2.2.1 x_8.2.2.2.2.2.2.2.2.2.2.1 x_32.1 x_32.2.1 x_32.2.2.1 x_32.2.2.2.1 x_32.2.2.2.2.1 x_32.2.2.2.2.2 u0_6_0_1 u0_6_1_1 u0_6_2_1 u0_6_3_1 u0_6_4_1 u0_33_0_1 u0_33_1_1 u0_33_2_1 b0_6 b0_6_0 b0_6_1 b0_6_2 b0_6_3 b0_6_4 b0_33_0 b0_33_1 b0_33_2 ((hA.rp 3 rfl).now hS.fr).rp ((hA.rb 4 rfl).now hS.fr) ((hA.rp 5 rfl).now hS.fr).rp ((hA.rb 6 rfl).now hS.fr) ((hA.rp 7 rfl).now hS.fr).rp ((hA.rb 8 rfl).now hS.fr) ((hA.rp 9 rfl).now hS.fr).rp ((hA.rb 10 rfl).now hS.fr) ((hA.rp 11 rfl).now hS.fr).rp ((hA.rb 12 rfl).now hS.fr) ((hA.rb 13 rfl).now hS.fr) ((hA.rp 25 rfl).now hS.fr).rp ((hA.rb 24 rfl).now hS.fr) ((hA.rp 23 rfl).now hS.fr).rp ((hA.rb 22 rfl).now hS.fr) ((hA.rp 21 rfl).now hS.fr).rp ((hA.rb 20 rfl).now hS.fr) _ hx_38) ?_
   rintro _ w ⟨v_39, v_41, rfl, hS1⟩
   have hS := hS.call hS1
   exact ⟨_, _, ⟨v_39, v_41, rfl, rfl, rfl⟩, SfT.mk' hZ Rds.nil Off.nil hS⟩
  rintro v_q x_q y_q ⟨v_39, v_41, rfl, rfl, rfl⟩
  refine lxME_y (fun h v x y => ∃ v_39 : Value, ∃ v_41 : Value, h = [(.agg #[v_39, v_41, vB x_38.2.2], [own e32 v_39 x_38.1, own e32 v_41 x_38.2.1], [])] ∧ v = undef ∧ x = [own e32 v_39 x_38.1, own e32 v_41 x_38.2.1, OE.bx b_3 [v_39, v_41, vB x_38.2.2]] ∧ y = []) [(.agg #[v_39, v_41, vB x_38.2.2], [own e32 v_39 x_38.1, own e32 v_41 x_38.2.1], [])] [own e32 v_39 x_38.1, own e32 v_41 x_38.2.1, OE.bx b_3 [.slice none 0 0, .slice none 0 0, vB false]] [] _ rfl rfl (fun h v x y => rfl) rfl rfl rfl rfl ⟨_, _, _, v_39, v_41, rfl, rfl, rfl, rfl⟩ (fun w Sl Tl hZ hTT hA hP hS => ?_) ?_
  ·refine opy_imp (kL (i := 2) (us := [v_39, v_41, vB x_38.2.2]) rfl sz26 rfl rfl rfl ⟨(hS.ro 0 rfl).one, (hS.ro 1 rfl).one, rfl, trivial⟩ rfl hS) ?_
   intro w hS
   exact ⟨_, _, ⟨v_39, v_41, rfl, rfl, rfl, rfl⟩, SfT.mk' hZ Rds.nil Off.nil hS⟩
  rintro v_q x_q y_q ⟨v_39', v_41', hh, rfl, rfl, rfl⟩
  replace hh : ([(.agg #[v_39, v_41, vB x_38.2.2], [own e32 v_39 x_38.1, own e32 v_41 x_38.2.1], [])] : List Th) = [(.agg #[v_39', v_41', vB x_38.2.2], [own e32 v_39' x_38.1, own e32 v_41' x_38.2.1], [])] := hh
  cases hh
  refine lxME_v rfl rfl (fun w Sb wb hZ hA hP hF => kz rfl) rfl (lxME_nil fun w hQ => ?_)
  obtain ⟨S_43, wb_44, hZ, hA, hP, hS⟩ := hQ
  refine ka (ko ?_)
  cases h
  replace hS := hZ.st hS
  exact QE_rv2 rfl ⟨_, rfl, run_ldAgg (us := [v_39, v_41, vB x_38.2.2]) Try.underlying26 rfl sz26 (hS.bxs 2 rfl rfl)⟩ rfl ⟨v_39, v_41, rfl, hS.pick [0, 1] (by decide) rfl⟩
end Go.Proofs
