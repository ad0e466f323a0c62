import Derived.Test.YtpbgncmffgnohaaTW0
import Derived.Test.YtpbgncmffgnohaaGkFcurve
import Derived.Test.YtpbgncmffgnohaaTWbignumc
import Derived.Test.YtpbgncmffgnohaaTWcurvec
import Derived.Test.YtpbgncmffgnohaaTWnat
set_option linter.unusedVariables false
set_option linter.unusedSimpArgs false
set_option linter.unusedVariables false
set_option maxRecDepth 4000
namespace Go.Proofs
open Go Go.RowKit Go.Gk
theorem c_curve_Mul (w0 : World) (a0 : Int) (a1 : List UInt32) (a2_0 : List UInt32) (a2_1 : List UInt32) (a2_2 : Bool) (va1 : Value) (va2_0 : Value) (va2_1 : Value) (ha1 : RP [] w0 e32 va1 a1) (ha2_0 : RP [] w0 e32 va2_0 a2_0) (ha2_1 : RP [] w0 e32 va2_1 a2_1) (r : List UInt32 × List UInt32 × Bool × Int)
  (h : F.curve_Mul a0 a1 a2_0 a2_1 a2_2 = some r) : Calls Try.prog 29 #[vI a0, va1, .agg #[va2_0, va2_1, vB a2_2]] w0 (Ret fun v w => ∃ u0_0 u0_1 : Value, v = .tuple #[.agg #[u0_0, u0_1, vB r.2.2.1], vI r.2.2.2] ∧ St [] w0 w [own e32 u0_0 r.1, own e32 u0_1 r.2.1]) := by
 refine kz 43 Try.func29 rfl rfl rfl ?_
 have hS := St.start w0
 have hZ := Fz.start (S := []) (w0 := w0)
 have hTT : TOk [] [] w0 := TOk.nil
 have hA : Rds [] w0 [red e32 va2_1 a2_1, red e32 va2_0 a2_0, red e32 va1 a1] := Rds.cons (RP.kept (Nat.le_of_ble_eq_true rfl) ha2_1) (Rds.cons (RP.kept (Nat.le_of_ble_eq_true rfl) ha2_0) (Rds.cons (RP.kept (Nat.le_of_ble_eq_true rfl) ha1) (Rds.nil)))
 have hP : Off [] [red e32 va2_1 a2_1, red e32 va2_0 a2_0, red e32 va1 a1] := Off.emp
 refine km [(0, vI a0), (1, va1), (2, .agg #[va2_0, va2_1, vB a2_2])] ⟨rfl, rfl, rfl, trivial⟩ ?_
 unfold F.curve_Mul at h
 refine kd (kc (kW (OpX_box (cs := [va2_0, va2_1, vB a2_2]) rfl rfl hS) rfl ?_))
 rintro _ w ⟨b_1, rfl, hS⟩
 refine kW (kE (cs := [.slice none 0 0, .slice none 0 0, vB false]) tz26 rfl hS) rfl ?_
 rintro _ w ⟨b_3, rfl, hS⟩
 refine kb 1 rfl ?_
 refine ke (ka (kd (kc (kb 1 rfl ?_))))
 refine kh (kH (us := [va2_0, va2_1, vB a2_2]) Try.underlying26 rfl sz26 rfl (hS.bxs 1 rfl rfl)) rfl ?_
 replace hS := hS.pick (os' := [] ++ [OE.bx b_3 [.slice none 0 0, .slice none 0 0, vB false], OE.bx b_1 [va2_0, va2_1, vB a2_2]]) [0, 1] (by decide) rfl
 obtain ⟨hZ, hA, hP, hS⟩ := hZ.frzK hTT hA hP hS
 obtain ⟨x_5, hx_5, h⟩ := kf h
 refine kj (by kernel_rfl) rfl (c_curve_take _ a0 a2_0 a2_1 a2_2 va2_0 va2_1  _ (hZ.okT hTT hS) (hA.rpT hP 1 rfl) (hA.rpT hP 2 rfl) _ hx_5) rfl ?_
 rintro v_q w hQ
 cases hc_7 : x_5.1 with
 | none =>
  have h := ocase_n h hc_7
  rw [hc_7] at hQ
  obtain ⟨rfl, hS1⟩ := ocaseP_n' hQ
  obtain ⟨S_9, wb_10, hZ, hA, hP, hS⟩ := hZ.callK hA hP hS hS1 Rds.nil rfl
  refine kb 4 rfl ?_
  refine kW (kE (cs := [.pointer none, .pointer none, .pointer none]) tz64 rfl hS) rfl ?_
  rintro _ w ⟨b_13, rfl, hS⟩
  refine kb 1 rfl ?_
  refine kX (kM (i := 0) (us := [.pointer none, .pointer none, .pointer none]) rfl sz64 rfl rfl rfl ⟨rfl, rfl, rfl, trivial⟩ rfl hS) ?_
  intro w hS
  refine kb 1 rfl ?_
  refine ke (ka (kd (kd (kc (kb 2 rfl ?_)))))
  refine ke (ka ?_)
  refine kn rfl (fun hb_21 => ?_) (fun hb_21 => ?_)
  ·have h := if_t h hb_21
   refine kd (kc (kh (OpV_build (vs := []) (cells := [.slice none 0 0, .slice none 0 0, vB false]) rfl lay26 trivial rfl) rfl (kX (kM (i := 1) (us := [.slice none 0 0, .slice none 0 0, vB false]) rfl sz26 rfl rfl rfl ⟨rfl, rfl, rfl, trivial⟩ rfl hS) ?_)))
   intro w hS
   refine kb 1 rfl ?_
   refine ke (ka (ko (kv ?_)))
   cases h
   replace hS := hZ.st hS
   exact QE_rv2 rfl ⟨_, rfl, run_ldAgg (us := [.slice none 0 0, .slice none 0 0, vB false]) Try.underlying26 rfl sz26 (hS.bxs 1 rfl rfl)⟩ rfl ⟨.slice none 0 0, .slice none 0 0, rfl, ((hS.nil e32).nil e32).pick [1, 0] (by decide) rfl⟩
  have h := if_f h hb_21
  refine kq (ka (kd (kc (kb 1 rfl ?_))))
  obtain ⟨x_15, hx_15, h⟩ := kf h
  refine kj (by kernel_rfl) rfl (c_curve_scalar _ a1 va1  ((hA.rp 0 rfl).now hS.fr).rp _ hx_15) rfl ?_
  rintro _ w ⟨v_16, b_18, rfl, hS1⟩
  have hS := hS.call hS1
  refine kb 5 rfl ?_
  refine ke (ka (kd (kd (kc (kb 2 rfl ?_)))))
  refine ke (ka ?_)
  refine kn rfl (fun hb_20 => ?_) (fun hb_20 => ?_)
  ·have h := if_t h hb_20
   refine kd (kc (kh (OpV_build (vs := []) (cells := [.slice none 0 0, .slice none 0 0, vB false]) rfl lay26 trivial rfl) rfl (kX (kM (i := 3) (us := [.slice none 0 0, .slice none 0 0, vB false]) rfl sz26 rfl rfl rfl ⟨rfl, rfl, rfl, trivial⟩ rfl hS) ?_)))
   intro w hS
   refine kb 1 rfl ?_
   refine ke (ka (ko (kv ?_)))
   cases h
   replace hS := hZ.st hS
   exact QE_rv2 rfl ⟨_, rfl, run_ldAgg (us := [.slice none 0 0, .slice none 0 0, vB false]) Try.underlying26 rfl sz26 (hS.bxs 3 rfl rfl)⟩ rfl ⟨.slice none 0 0, .slice none 0 0, rfl, ((hS.nil e32).nil e32).pick [1, 0] (by decide) rfl⟩
  have h := if_f h hb_20
  refine kq (ka (kd ?_))
  cases h
 | some x_8 =>
  have h := ocase_s h hc_7
  rw [hc_7] at hQ
  obtain ⟨b0_6, b0_6_0, u0_6_0_1, b0_6_1, u0_6_1_1, b0_6_2, u0_6_2_1, b0_6_3, u0_6_3_1, b0_6_4, u0_6_4_1, b1_6_0, u1_6_0_1, b1_6_1, u1_6_1_1, b1_6_2, u1_6_2_1, rfl, hS1, hR1⟩ := ocaseP_s' hQ
  obtain ⟨S_11, wb_12, hZ, hA, hP, hS⟩ := hZ.callK hA hP hS hS1 hR1 rfl
  refine kb 4 rfl ?_
  refine kW (kE (cs := [.pointer none, .pointer none, .pointer none]) tz64 rfl hS) rfl ?_
  rintro _ w ⟨b_22, rfl, hS⟩
  refine kb 1 rfl ?_
  refine kX (kM (i := 0) (us := [pB b1_6_0 0, pB b1_6_1 0, pB b1_6_2 0]) rfl sz64 rfl rfl rfl ⟨rfl, rfl, rfl, trivial⟩ rfl hS) ?_
  intro w hS
  refine kb 1 rfl ?_
  refine ke (ka (kd (kd (kc (kb 2 rfl ?_)))))
  refine ke (ka ?_)
  refine kn rfl (fun hb_46 => ?_) (fun hb_46 => ?_)
  ·have h := if_t h hb_46
   refine kd (kc (kh (OpV_build (vs := []) (cells := [.slice none 0 0, .slice none 0 0, vB false]) rfl lay26 trivial rfl) rfl (kX (kM (i := 1) (us := [.slice none 0 0, .slice none 0 0, vB false]) rfl sz26 rfl rfl rfl ⟨rfl, rfl, rfl, trivial⟩ rfl hS) ?_)))
   intro w hS
   refine kb 1 rfl ?_
   refine ke (ka (ko (kv ?_)))
   cases h
   replace hS := hZ.st hS
   exact QE_rv2 rfl ⟨_, rfl, run_ldAgg (us := [.slice none 0 0, .slice none 0 0, vB false]) Try.underlying26 rfl sz26 (hS.bxs 1 rfl rfl)⟩ rfl ⟨.slice none 0 0, .slice none 0 0, rfl, ((hS.nil e32).nil e32).pick [1, 0] (by decide) rfl⟩
  have h := if_f h hb_46
  refine kq (ka (kd (kc (kb 1 rfl ?_))))
  obtain ⟨x_24, hx_24, h⟩ := kf h
  refine kj (by kernel_rfl) rfl (c_curve_scalar _ a1 va1  ((hA.rp 0 rfl).now hS.fr).rp _ hx_24) rfl ?_
  rintro _ w ⟨v_25, b_27, rfl, hS1⟩
  have hS := hS.call hS1
  refine kb 5 rfl ?_
  refine ke (ka (kd (kd (kc (kb 2 rfl ?_)))))
  refine ke (ka ?_)
  refine kn rfl (fun hb_45 => ?_) (fun hb_45 => ?_)
  ·have h := if_t h hb_45
   refine kd (kc (kh (OpV_build (vs := []) (cells := [.slice none 0 0, .slice none 0 0, vB false]) rfl lay26 trivial rfl) rfl (kX (kM (i := 3) (us := [.slice none 0 0, .slice none 0 0, vB false]) rfl sz26 rfl rfl rfl ⟨rfl, rfl, rfl, trivial⟩ rfl hS) ?_)))
   intro w hS
   refine kb 1 rfl ?_
   refine ke (ka (ko (kv ?_)))
   cases h
   replace hS := hZ.st hS
   exact QE_rv2 rfl ⟨_, rfl, run_ldAgg (us := [.slice none 0 0, .slice none 0 0, vB false]) Try.underlying26 rfl sz26 (hS.bxs 3 rfl rfl)⟩ rfl ⟨.slice none 0 0, .slice none 0 0, rfl, ((hS.nil e32).nil e32).pick [1, 0] (by decide) rfl⟩
  have h := if_f h hb_45
  refine kq (ka (kd ?_))
  obtain ⟨x_29, hx_29, h⟩ := kf h
  obtain ⟨x_32, hx_32, h⟩ := kf h
  obtain ⟨x_38, hx_38, h⟩ := kf h
  refine wpC_regionM (es := [OE.bx b1_6_2 [vB x_8.2.2.2.2.2.2.2.2.2.2.2.2.2.2.2.1, u1_6_2_1], red e32 u1_6_2_1 x_8.2.2.2.2.2.2.2.2.2.2.2.2.2.2.2.2, OE.bx b1_6_1 [vB x_8.2.2.2.2.2.2.2.2.2.2.2.2.2.1, u1_6_1_1], red e32 u1_6_1_1 x_8.2.2.2.2.2.2.2.2.2.2.2.2.2.2.1, OE.bx b1_6_0 [vB x_8.2.2.2.2.2.2.2.2.2.2.2.1, u1_6_0_1], red e32 u1_6_0_1 x_8.2.2.2.2.2.2.2.2.2.2.2.2.1, OE.bx b0_6 [pB b0_6_0 0, pB b0_6_1 0, pB b0_6_2 0, pB b0_6_3 0, pB b0_6_4 0, vI x_8.2.2.2.2.2.2.2.2.2.2.1, .func (.func 91) #[] #[]], OE.bx b0_6_4 [vB x_8.2.2.2.2.2.2.2.2.1, u0_6_4_1], red e32 u0_6_4_1 x_8.2.2.2.2.2.2.2.2.2.1, OE.bx b0_6_3 [vB x_8.2.2.2.2.2.2.1, u0_6_3_1], red e32 u0_6_3_1 x_8.2.2.2.2.2.2.2.1, OE.bx b0_6_2 [vB x_8.2.2.2.2.1, u0_6_2_1], red e32 u0_6_2_1 x_8.2.2.2.2.2.1, OE.bx b0_6_1 [vB x_8.2.2.1, u0_6_1_1], red e32 u0_6_1_1 x_8.2.2.2.1, OE.bx b0_6_0 [vB x_8.1, u0_6_0_1], red e32 u0_6_0_1 x_8.2.1, red e32 va2_1 a2_1, red e32 va2_0 a2_0, red e32 va1 a1]) (os := [OE.bx b_22 [pB b1_6_0 0, pB b1_6_1 0, pB b1_6_2 0], OE.bx b_1 [va2_0, va2_1, vB a2_2]]) (fun i => [8, 10, 11, 12].contains i) (fun i => if i = 8 then some 10 else if i = 11 then some 12 else none) (fun i => if i = 11 then [10] else []) (fun i => if i = 8 then [OE.bx b_27 [vB x_24.1, v_25], own e32 v_25 x_24.2.1] else if i = 12 then [OE.bx b_3 [.slice none 0 0, .slice none 0 0, vB false]] else []) (fun i => []) (fun i => if i = 12 then [11] else []) (fun i => if i = 8 then (fun h v x y => ∃ v_30 : Value, v = pB b_27 0 ∧ x = [OE.bx b_27 [vB x_29.1, v_30], own e32 v_30 x_29.2] ∧ y = []) else if i = 10 then (fun h v x y => ∃ b0_33_0 : Nat, ∃ b0_33_1 : Nat, ∃ b0_33_2 : Nat, ∃ u0_33_0_1 : Value, ∃ u0_33_1_1 : Value, ∃ u0_33_2_1 : Value, v = .agg #[pB b0_33_0 0, pB b0_33_1 0, pB b0_33_2 0] ∧ x = [] ∧ y = [red e32 u0_33_0_1 x_32.2.1, OE.bx b0_33_0 [vB x_32.1, u0_33_0_1], red e32 u0_33_1_1 x_32.2.2.2.1, OE.bx b0_33_1 [vB x_32.2.2.1, u0_33_1_1], red e32 u0_33_2_1 x_32.2.2.2.2.2, OE.bx b0_33_2 [vB x_32.2.2.2.2.1, u0_33_2_1]]) else if i = 11 then (fun h v x y => ∃ v_39 : Value, ∃ v_41 : Value, v = .agg #[v_39, v_41, vB x_38.2.2] ∧ x = [own e32 v_39 x_38.1, own e32 v_41 x_38.2.1] ∧ y = []) else (fun h v x y => ∃ v_39 : Value, ∃ v_41 : Value, h = [(.agg #[v_39, v_41, vB x_38.2.2], [own e32 v_39 x_38.1, own e32 v_41 x_38.2.1], [])] ∧ v = undef ∧ x = [own e32 v_39 x_38.1, own e32 v_41 x_38.2.1, OE.bx b_3 [v_39, v_41, vB x_38.2.2]] ∧ y = [])) (SfT.mk' hZ hA hP (hS.pick (os' := [OE.bx b_27 [vB x_24.1, v_25], own e32 v_25 x_24.2.1, OE.bx b_3 [.slice none 0 0, .slice none 0 0, vB false], OE.bx b_22 [pB b1_6_0 0, pB b1_6_1 0, pB b1_6_2 0], OE.bx b_1 [va2_0, va2_1, vB a2_2]]) [0, 1, 3, 2, 4] (by decide) rfl)) (fun k hk => (if_neg (fun q => by subst q; exact absurd hk (by decide))).trans (if_neg (fun q => by subst q; exact absurd hk (by decide)))) hTT rfl (fun i => (ite_ns (by rintro h v x y ⟨_, rfl, rfl, rfl⟩; exact ns_all rfl) (ite_ns (by rintro h v x y ⟨_, _, _, _, _, _, rfl, rfl, rfl⟩; exact ns_all rfl) (ite_ns (by rintro h v x y ⟨_, _, rfl, rfl, rfl⟩; exact ns_all rfl) (by rintro h v x y ⟨_, _, _, rfl, rfl, rfl⟩; exact ns_all rfl))))) hmix (by kernel_rfl) (by kernel_rfl) ?_
  show lxME _ _ _ _ _ _ _ _ _ _ _ _ _ _ _ _ [0, 1, 2, 3, 4, 5, 6, 7, 8, 9, 10, 11, 12, 13] _ _
  refine lxME_v rfl rfl (fun w Sb wb hZ hA hP hF => kl rfl) rfl (lxME_v rfl rfl (fun w Sb wb hZ hA hP hF => kl rfl) rfl (lxME_v rfl rfl (fun w Sb wb hZ hA hP hF => kl rfl) rfl (lxME_v rfl rfl (fun w Sb wb hZ hA hP hF => kl rfl) rfl (lxME_v rfl rfl (fun w Sb wb hZ hA hP hF => kl rfl) rfl (lxME_v rfl rfl (fun w Sb wb hZ hA hP hF => kJ rfl) rfl (lxME_v rfl rfl (fun w Sb wb hZ hA hP hF => kk (k := 2) Try.underlying61 rfl rfl nz58 rfl) rfl (lxME_v rfl rfl (fun w Sb wb hZ hA hP hF => ku Try.underlying58 rfl rfl ((hA.rb 13 rfl).cell hF.fr 2 rfl)) rfl ?_)))))))
  refine lxME_call (fun h v x y => ∃ v_30 : Value, v = pB b_27 0 ∧ x = [OE.bx b_27 [vB x_29.1, v_30], own e32 v_30 x_29.2] ∧ y = []) [] [OE.bx b_27 [vB x_24.1, v_25], own e32 v_25 x_24.2.1] [] _ rfl rfl (fun h v x y => rfl) rfl rfl rfl rfl ⟨_, _, _, undef, rfl, rfl, rfl⟩ (by kernel_rfl) rfl (fun w Sl Tl hZ hTT hA hP hS => ?_) rfl ?_
  ·have hG := hS.pick (os' := [OE.bx b_27 [vB x_24.1, v_25], own e32 v_25 x_24.2.1] ++ [OE.bx b_22 [pB b1_6_0 0, pB b1_6_1 0, pB b1_6_2 0], OE.bx b_1 [va2_0, va2_1, vB a2_2]]) [0, 1, 2, 3] (by decide) rfl
   refine calls_ret (c_bignum_Int_Mod_a10 _ x_24.1 x_24.2.1 x_8.2.2.2.2.1 x_8.2.2.2.2.2.1 v_25 u0_6_2_1 b_27 b0_6_2 _ hG.give ((hA.rp 7 rfl).give (Nat.le_of_ble_eq_true rfl) hG) ((hA.rb 8 rfl).give hG) _ hx_29) ?_
   rintro _ w ⟨v_30, rfl, hS1⟩
   have hS := hG.back hS1
   exact ⟨_, _, ⟨v_30, rfl, rfl, rfl⟩, SfT.mk' hZ Rds.nil Off.nil hS⟩
  rintro v_q x_q y_q ⟨v_30, rfl, rfl, rfl⟩
  refine lxME_v rfl rfl (fun w Sb wb hZ hA hP hF => kH (us := [pB b1_6_0 0, pB b1_6_1 0, pB b1_6_2 0]) Try.underlying64 rfl sz64 rfl (hF.bxs 0 rfl rfl)) rfl ?_
  refine lxME_call (fun h v x y => ∃ b0_33_0 : Nat, ∃ b0_33_1 : Nat, ∃ b0_33_2 : Nat, ∃ u0_33_0_1 : Value, ∃ u0_33_1_1 : Value, ∃ u0_33_2_1 : Value, v = .agg #[pB b0_33_0 0, pB b0_33_1 0, pB b0_33_2 0] ∧ x = [] ∧ y = [red e32 u0_33_0_1 x_32.2.1, OE.bx b0_33_0 [vB x_32.1, u0_33_0_1], red e32 u0_33_1_1 x_32.2.2.2.1, OE.bx b0_33_1 [vB x_32.2.2.1, u0_33_1_1], red e32 u0_33_2_1 x_32.2.2.2.2.2, OE.bx b0_33_2 [vB x_32.2.2.2.2.1, u0_33_2_1]]) [] [OE.bx b_27 [vB x_29.1, v_30], own e32 v_30 x_29.2] [] _ rfl rfl (fun h v x y => rfl) rfl rfl rfl rfl ⟨_, _, _, 0, 0, 0, undef, undef, undef, rfl, rfl, rfl⟩ (by kernel_rfl) rfl (fun w Sl Tl hZ hTT hA hP hS => ?_) rfl ?_
  ·replace hS := hS.pick (os' := [OE.bx b_27 [vB x_29.1, v_30], own e32 v_30 x_29.2] ++ [OE.bx b_22 [pB b1_6_0 0, pB b1_6_1 0, pB b1_6_2 0], OE.bx b_1 [va2_0, va2_1, vB a2_2]]) [0, 1, 2, 3] (by decide) rfl
   obtain ⟨hZ, hA, hP, hS⟩ := hZ.frzK hTT hA hP hS
   refine calls_ret (c_curve_group_ladder _ x_8.1 x_8.2.1 x_8.2.2.1 x_8.2.2.2.1 x_8.2.2.2.2.1 x_8.2.2.2.2.2.1 x_8.2.2.2.2.2.2.1 x_8.2.2.2.2.2.2.2.1 x_8.2.2.2.2.2.2.2.2.1 x_8.2.2.2.2.2.2.2.2.2.1 x_8.2.2.2.2.2.2.2.2.2.2.1 x_29.1 x_29.2 x_8.2.2.2.2.2.2.2.2.2.2.2.1 x_8.2.2.2.2.2.2.2.2.2.2.2.2.1 x_8.2.2.2.2.2.2.2.2.2.2.2.2.2.1 x_8.2.2.2.2.2.2.2.2.2.2.2.2.2.2.1 x_8.2.2.2.2.2.2.2.2.2.2.2.2.2.2.2.1 x_8.2.2.2.2.2.2.2.2.2.2.2.2.2.2.2.2 u0_6_0_1 u0_6_1_1 u0_6_2_1 u0_6_3_1 u0_6_4_1 v_30 u1_6_0_1 u1_6_1_1 u1_6_2_1 b0_6 b0_6_0 b0_6_1 b0_6_2 b0_6_3 b0_6_4 b_27 b1_6_0 b1_6_1 b1_6_2 _ (hZ.okT hTT hS) (hA.rpT hP 3 rfl) (hA.rbT hP 4 rfl) (hA.rpT hP 5 rfl) (hA.rbT hP 6 rfl) (hA.rpT hP 7 rfl) (hA.rbT hP 8 rfl) (hA.rpT hP 9 rfl) (hA.rbT hP 10 rfl) (hA.rpT hP 11 rfl) (hA.rbT hP 12 rfl) (hA.rbT hP 13 rfl) (hA.rpT hP 20 rfl) (hA.rbT hP 21 rfl) (hA.rpT hP 14 rfl) (hA.rbT hP 15 rfl) (hA.rpT hP 16 rfl) (hA.rbT hP 17 rfl) (hA.rpT hP 18 rfl) (hA.rbT hP 19 rfl) _ hx_32) ?_
   rintro _ w ⟨b0_33_0, u0_33_0_1, b0_33_1, u0_33_1_1, b0_33_2, u0_33_2_1, rfl, hS1, hR1⟩
   obtain ⟨S_36, wb_37, hZ, hA, hP, hS⟩ := hZ.callK hA hP hS hS1 hR1 rfl
   exact ⟨_, _, ⟨b0_33_0, b0_33_1, b0_33_2, u0_33_0_1, u0_33_1_1, u0_33_2_1, rfl, rfl, rfl⟩, SfT.mk' hZ (Rds.cons (hA.nth 22 rfl) (Rds.cons (hA.nth 23 rfl) (Rds.cons (hA.nth 24 rfl) (Rds.cons (hA.nth 25 rfl) (Rds.cons (hA.nth 26 rfl) (Rds.cons (hA.nth 27 rfl) Rds.nil)))))) (Off.cons (hP.nth 22 rfl) (Off.cons (hP.nth 23 rfl) (Off.cons (hP.nth 24 rfl) (Off.cons (hP.nth 25 rfl) (Off.cons (hP.nth 26 rfl) (Off.cons (hP.nth 27 rfl) Off.nil)))))) hS⟩
  rintro v_q x_q y_q ⟨b0_33_0, b0_33_1, b0_33_2, u0_33_0_1, u0_33_1_1, u0_33_2_1, rfl, rfl, rfl⟩
  refine lxME_call (fun h v x y => ∃ v_39 : Value, ∃ v_41 : Value, v = .agg #[v_39, v_41, vB x_38.2.2] ∧ x = [own e32 v_39 x_38.1, own e32 v_41 x_38.2.1] ∧ y = []) [] [] [red e32 u0_33_0_1 x_32.2.1, OE.bx b0_33_0 [vB x_32.1, u0_33_0_1], red e32 u0_33_1_1 x_32.2.2.2.1, OE.bx b0_33_1 [vB x_32.2.2.1, u0_33_1_1], red e32 u0_33_2_1 x_32.2.2.2.2.2, OE.bx b0_33_2 [vB x_32.2.2.2.2.1, u0_33_2_1]] _ rfl rfl (fun h v x y => rfl) rfl rfl rfl rfl ⟨_, _, _, undef, undef, rfl, rfl, rfl⟩ (by kernel_rfl) rfl (fun w Sl Tl hZ hTT hA hP hS => ?_) rfl ?_
  ·refine calls_ret (c_curve_group_show _ x_8.1 x_8.2.1 x_8.2.2.1 x_8.2.2.2.1 x_8.2.2.2.2.1 x_8.2.2.2.2.2.1 x_8.2.2.2.2.2.2.1 x_8.2.2.2.2.2.2.2.1 x_8.2.2.2.2.2.2.2.2.1 x_8.2.2.2.2.2.2.2.2.2.1 x_8.2.2.2.2.2.2.2.2.2.2.1 x_32.1 x_32.2.1 x_32.2.2.1 x_32.2.2.2.1 x_32.2.2.2.2.1 x_32.2.2.2.2.2 u0_6_0_1 u0_6_1_1 u0_6_2_1 u0_6_3_1 u0_6_4_1 u0_33_0_1 u0_33_1_1 u0_33_2_1 b0_6 b0_6_0 b0_6_1 b0_6_2 b0_6_3 b0_6_4 b0_33_0 b0_33_1 b0_33_2 ((hA.rp 3 rfl).now hS.fr).rp ((hA.rb 4 rfl).now hS.fr) ((hA.rp 5 rfl).now hS.fr).rp ((hA.rb 6 rfl).now hS.fr) ((hA.rp 7 rfl).now hS.fr).rp ((hA.rb 8 rfl).now hS.fr) ((hA.rp 9 rfl).now hS.fr).rp ((hA.rb 10 rfl).now hS.fr) ((hA.rp 11 rfl).now hS.fr).rp ((hA.rb 12 rfl).now hS.fr) ((hA.rb 13 rfl).now hS.fr) ((hA.rp 25 rfl).now hS.fr).rp ((hA.rb 24 rfl).now hS.fr) ((hA.rp 23 rfl).now hS.fr).rp ((hA.rb 22 rfl).now hS.fr) ((hA.rp 21 rfl).now hS.fr).rp ((hA.rb 20 rfl).now hS.fr) _ hx_38) ?_
   rintro _ w ⟨v_39, v_41, rfl, hS1⟩
   have hS := hS.call hS1
   exact ⟨_, _, ⟨v_39, v_41, rfl, rfl, rfl⟩, SfT.mk' hZ Rds.nil Off.nil hS⟩
  rintro v_q x_q y_q ⟨v_39, v_41, rfl, rfl, rfl⟩
  refine lxME_y (fun h v x y => ∃ v_39 : Value, ∃ v_41 : Value, h = [(.agg #[v_39, v_41, vB x_38.2.2], [own e32 v_39 x_38.1, own e32 v_41 x_38.2.1], [])] ∧ v = undef ∧ x = [own e32 v_39 x_38.1, own e32 v_41 x_38.2.1, OE.bx b_3 [v_39, v_41, vB x_38.2.2]] ∧ y = []) [(.agg #[v_39, v_41, vB x_38.2.2], [own e32 v_39 x_38.1, own e32 v_41 x_38.2.1], [])] [own e32 v_39 x_38.1, own e32 v_41 x_38.2.1, OE.bx b_3 [.slice none 0 0, .slice none 0 0, vB false]] [] _ rfl rfl (fun h v x y => rfl) rfl rfl rfl rfl ⟨_, _, _, v_39, v_41, rfl, rfl, rfl, rfl⟩ (fun w Sl Tl hZ hTT hA hP hS => ?_) ?_
  ·refine opy_imp (kM (i := 2) (us := [v_39, v_41, vB x_38.2.2]) rfl sz26 rfl rfl rfl ⟨(hS.ro 0 rfl).one, (hS.ro 1 rfl).one, rfl, trivial⟩ rfl hS) ?_
   intro w hS
   exact ⟨_, _, ⟨v_39, v_41, rfl, rfl, rfl, rfl⟩, SfT.mk' hZ Rds.nil Off.nil hS⟩
  rintro v_q x_q y_q ⟨v_39', v_41', hh, rfl, rfl, rfl⟩
  replace hh : ([(.agg #[v_39, v_41, vB x_38.2.2], [own e32 v_39 x_38.1, own e32 v_41 x_38.2.1], [])] : List Th) = [(.agg #[v_39', v_41', vB x_38.2.2], [own e32 v_39' x_38.1, own e32 v_41' x_38.2.1], [])] := hh
  cases hh
  refine lxME_v rfl rfl (fun w Sb wb hZ hA hP hF => kA rfl) rfl (lxME_nil fun w hQ => ?_)
  obtain ⟨S_43, wb_44, hZ, hA, hP, hS⟩ := hQ
  refine ka (ko ?_)
  cases h
  replace hS := hZ.st hS
  exact QE_rv2 rfl ⟨_, rfl, run_ldAgg (us := [v_39, v_41, vB x_38.2.2]) Try.underlying26 rfl sz26 (hS.bxs 2 rfl rfl)⟩ rfl ⟨v_39, v_41, rfl, hS.pick [0, 1] (by decide) rfl⟩
theorem c_curve_fill (w0 : World) (a0_0 : Bool) (a0_1 : List UInt32) (a1 : List UInt8) (va0_1 : Value) (va1 : Value) (ba0 : Nat) (S : List Nat) (hS : St S w0 w0 [own e8 va1 a1]) (ha0_1 : RP S w0 e32 va0_1 a0_1) (hBa0 : RB S w0 ba0 [vB a0_0, va0_1]) (r : List UInt8)
  (h : F.curve_fill a0_0 a0_1 a1 = some r) : Calls Try.prog 49 #[pB ba0 0, va1] w0 (Ret fun v w => ∃ u0 : Value, v = u0 ∧ St S w0 w [own e8 u0 r]) := by
 refine kz 19 Try.func49 rfl rfl rfl ?_
 refine km [(0, pB ba0 0), (1, va1)] ⟨rfl, rfl, trivial⟩ ?_
 unfold F.curve_fill at h
 refine kd (kc (kb 1 rfl ?_))
 refine ke (ka (kd (kc (kb 1 rfl ?_))))
 obtain ⟨x_2, hx_2, h⟩ := kf h
 refine kj (by kernel_rfl) rfl (c_bignum_Int_Bytes _ a0_0 a0_1 va0_1 ba0 (ha0_1.now hS.fr).rp (hBa0.now hS.fr) _ hx_2) rfl ?_
 rintro v_3 w hS1
 have hS := hS.call hS1
 refine kb 1 rfl ?_
 refine ke (ka (kd (kc (kb 1 rfl ?_))))
 refine wpR_x0 (G_clear (e := e8) 0 Try.underlying41 ti5 rfl rfl rfl rfl hS (i := 1) rfl) ?_
 rintro _ w ⟨_, hS⟩
 obtain ⟨x_5, hx_5, h⟩ := kI h
 rw [hx_5] at hS
 refine ke (ka (kd (kc (kb 2 rfl ?_))))
 refine kh (kB Try.underlying41 rfl (hS.ro 1 rfl)) rfl (kb 1 rfl ?_)
 refine kh (kB Try.underlying41 rfl (hS.ro 0 rfl)) rfl (kb 1 rfl ?_)
 obtain ⟨x_6, hx_6, h⟩ := kf h
 refine kh (G_sll Try.underlying41 ti5 rfl rfl (hS.ro 1 rfl) hx_6) rfl (kb 1 rfl ?_)
 refine kW (OpX_copy (e := e8) Try.underlying41 ti5 rfl rfl rfl hS (i := 1) rfl (hS.ro 0 rfl) (drO_some hx_6).1.2 (Nat.le_refl _)) rfl ?_
 rintro v_q w ⟨hv_q, hS⟩
 subst v_q
 obtain ⟨x_7, hx_7, h⟩ := kI h
 rw [hx_7] at hS
 refine ke (ka (kd (kc (kb 2 rfl ?_))))
 refine ke (ka (ko ?_))
 cases h
 exact ky rfl rfl ⟨va1, rfl, hS.pick [1] (by decide) rfl⟩
theorem c_curve_Encode (w0 : World) (a0 : Int) (a1_0 : List UInt32) (a1_1 : List UInt32) (a1_2 : Bool) (va1_0 : Value) (va1_1 : Value) (ha1_0 : RP [] w0 e32 va1_0 a1_0) (ha1_1 : RP [] w0 e32 va1_1 a1_1) (r : List UInt8 × List UInt8 × Int)
  (h : F.curve_Encode a0 a1_0 a1_1 a1_2 = some r) : Calls Try.prog 25 #[vI a0, .agg #[va1_0, va1_1, vB a1_2]] w0 (Ret fun v w => ∃ u0 u1 : Value, v = .tuple #[u0, u1, vI r.2.2] ∧ St [] w0 w [own e8 u0 r.1, own e8 u1 r.2.1]) := by
 refine kz 41 Try.func25 rfl rfl rfl ?_
 have hS := St.start w0
 have hZ := Fz.start (S := []) (w0 := w0)
 have hTT : TOk [] [] w0 := TOk.nil
 have hA : Rds [] w0 [red e32 va1_1 a1_1, red e32 va1_0 a1_0] := Rds.cons (RP.kept (Nat.le_of_ble_eq_true rfl) ha1_1) (Rds.cons (RP.kept (Nat.le_of_ble_eq_true rfl) ha1_0) (Rds.nil))
 have hP : Off [] [red e32 va1_1 a1_1, red e32 va1_0 a1_0] := Off.emp
 refine km [(0, vI a0), (1, .agg #[va1_0, va1_1, vB a1_2])] ⟨rfl, rfl, trivial⟩ ?_
 unfold F.curve_Encode at h
 refine kd (kc (kW (OpX_box (cs := [va1_0, va1_1, vB a1_2]) rfl rfl hS) rfl ?_))
 rintro _ w ⟨b_1, rfl, hS⟩
 refine kb 3 rfl ?_
 refine ke (ka (kd (kc (kb 1 rfl ?_))))
 refine kh (kH (us := [va1_0, va1_1, vB a1_2]) Try.underlying26 rfl sz26 rfl (hS.bxs 0 rfl rfl)) rfl ?_
 replace hS := hS.pick (os' := [] ++ [OE.bx b_1 [va1_0, va1_1, vB a1_2]]) [0] (by decide) rfl
 obtain ⟨hZ, hA, hP, hS⟩ := hZ.frzK hTT hA hP hS
 obtain ⟨x_3, hx_3, h⟩ := kf h
 refine kj (by kernel_rfl) rfl (c_curve_take _ a0 a1_0 a1_1 a1_2 va1_0 va1_1  _ (hZ.okT hTT hS) (hA.rpT hP 0 rfl) (hA.rpT hP 1 rfl) _ hx_3) rfl ?_
 rintro v_q w hQ
 cases hc_5 : x_3.1 with
 | none =>
  have h := ocase_n h hc_5
  rw [hc_5] at hQ
  obtain ⟨rfl, hS1⟩ := ocaseP_n' hQ
  obtain ⟨S_7, wb_8, hZ, hA, hP, hS⟩ := hZ.callK hA hP hS hS1 Rds.nil rfl
  refine kb 4 rfl ?_
  refine kW (kE (cs := [.pointer none, .pointer none, .pointer none]) tz64 rfl hS) rfl ?_
  rintro _ w ⟨b_11, rfl, hS⟩
  refine kb 1 rfl ?_
  refine kX (kM (i := 0) (us := [.pointer none, .pointer none, .pointer none]) rfl sz64 rfl rfl rfl ⟨rfl, rfl, rfl, trivial⟩ rfl hS) ?_
  intro w hS
  refine kb 1 rfl ?_
  refine ke (ka (kd (kd (kc (kb 3 rfl ?_)))))
  cases hb_13 : (!x_3.2)
  case true =>
   have h := if_t h hb_13
   try simp only [hb_13]
   refine kb 5 rfl ?_
   refine ke (ka (wpC_condT rfl ?_))
   refine kd (kc (kb 3 rfl ?_))
   refine ke (ka (ko (kv ?_)))
   cases h
   replace hS := hZ.st hS
   exact QE_ret3 rfl rfl rfl rfl ⟨.slice none 0 0, .slice none 0 0, rfl, ((hS.nil e8).nil e8).pick [1, 0] (by decide) rfl⟩
  case false =>
   have h := if_f h hb_13
   try simp only [hb_13]
   refine kT (t := 19) rfl rfl (kk (k := 2) Try.underlying64 rfl rfl nz58 rfl) rfl (kT (t := 19) rfl rfl (ku Try.underlying58 rfl rfl (hS.bxc 0 rfl 2)) rfl ?_)
   cases h
 | some x_6 =>
  have h := ocase_s h hc_5
  rw [hc_5] at hQ
  obtain ⟨b0_4, b0_4_0, u0_4_0_1, b0_4_1, u0_4_1_1, b0_4_2, u0_4_2_1, b0_4_3, u0_4_3_1, b0_4_4, u0_4_4_1, b1_4_0, u1_4_0_1, b1_4_1, u1_4_1_1, b1_4_2, u1_4_2_1, rfl, hS1, hR1⟩ := ocaseP_s' hQ
  obtain ⟨S_9, wb_10, hZ, hA, hP, hS⟩ := hZ.callK hA hP hS hS1 hR1 rfl
  refine kb 4 rfl ?_
  refine kW (kE (cs := [.pointer none, .pointer none, .pointer none]) tz64 rfl hS) rfl ?_
  rintro _ w ⟨b_14, rfl, hS⟩
  refine kb 1 rfl ?_
  refine kX (kM (i := 0) (us := [pB b1_4_0 0, pB b1_4_1 0, pB b1_4_2 0]) rfl sz64 rfl rfl rfl ⟨rfl, rfl, rfl, trivial⟩ rfl hS) ?_
  intro w hS
  refine kb 1 rfl ?_
  refine ke (ka (kd ?_))
  refine kO (r := r) (fun (g : Bool) L w => L = [(7, pB b0_4 0), (8, pB b_14 0), (24, vB g)] ∧ SfT [] [] w0 w [OE.bx b1_4_2 [vB x_6.2.2.2.2.2.2.2.2.2.2.2.2.2.2.2.1, u1_4_2_1], red e32 u1_4_2_1 x_6.2.2.2.2.2.2.2.2.2.2.2.2.2.2.2.2, OE.bx b1_4_1 [vB x_6.2.2.2.2.2.2.2.2.2.2.2.2.2.1, u1_4_1_1], red e32 u1_4_1_1 x_6.2.2.2.2.2.2.2.2.2.2.2.2.2.2.1, OE.bx b1_4_0 [vB x_6.2.2.2.2.2.2.2.2.2.2.2.1, u1_4_0_1], red e32 u1_4_0_1 x_6.2.2.2.2.2.2.2.2.2.2.2.2.1, OE.bx b0_4 [pB b0_4_0 0, pB b0_4_1 0, pB b0_4_2 0, pB b0_4_3 0, pB b0_4_4 0, vI x_6.2.2.2.2.2.2.2.2.2.2.1, .func (.func 91) #[] #[]], OE.bx b0_4_4 [vB x_6.2.2.2.2.2.2.2.2.1, u0_4_4_1], red e32 u0_4_4_1 x_6.2.2.2.2.2.2.2.2.2.1, OE.bx b0_4_3 [vB x_6.2.2.2.2.2.2.1, u0_4_3_1], red e32 u0_4_3_1 x_6.2.2.2.2.2.2.2.1, OE.bx b0_4_2 [vB x_6.2.2.2.2.1, u0_4_2_1], red e32 u0_4_2_1 x_6.2.2.2.2.2.1, OE.bx b0_4_1 [vB x_6.2.2.1, u0_4_1_1], red e32 u0_4_1_1 x_6.2.2.2.1, OE.bx b0_4_0 [vB x_6.1, u0_4_0_1], red e32 u0_4_0_1 x_6.2.1] [OE.bx b_14 [pB b1_4_0 0, pB b1_4_1 0, pB b1_4_2 0]]) (F.curve_Encode_K1 x_6) ?_ ?_
  rotate_left
  ·intro hK_21
   refine kc (kb 3 rfl ?_)
   cases hb_16 : (!x_3.2)
   case true =>
    have h := if_t h hb_16
    try simp only [hb_16]
    refine kb 5 rfl ?_
    refine ke (ka ?_)
    exact km _ (by exact ⟨rfl, rfl, rfl, trivial⟩) (hK_21 true _ _ ⟨rfl, (SfT.mk' hZ (Rds.cons (hA.nth 18 rfl) (Rds.cons (hA.nth 17 rfl) (Rds.cons (hA.nth 16 rfl) (Rds.cons (hA.nth 15 rfl) (Rds.cons (hA.nth 14 rfl) (Rds.cons (hA.nth 13 rfl) (Rds.cons (hA.nth 12 rfl) (Rds.cons (hA.nth 11 rfl) (Rds.cons (hA.nth 10 rfl) (Rds.cons (hA.nth 9 rfl) (Rds.cons (hA.nth 8 rfl) (Rds.cons (hA.nth 7 rfl) (Rds.cons (hA.nth 6 rfl) (Rds.cons (hA.nth 5 rfl) (Rds.cons (hA.nth 4 rfl) (Rds.cons (hA.nth 3 rfl) (Rds.cons (hA.nth 2 rfl) Rds.nil))))))))))))))))) (Off.cons (hP.nth 18 rfl) (Off.cons (hP.nth 17 rfl) (Off.cons (hP.nth 16 rfl) (Off.cons (hP.nth 15 rfl) (Off.cons (hP.nth 14 rfl) (Off.cons (hP.nth 13 rfl) (Off.cons (hP.nth 12 rfl) (Off.cons (hP.nth 11 rfl) (Off.cons (hP.nth 10 rfl) (Off.cons (hP.nth 9 rfl) (Off.cons (hP.nth 8 rfl) (Off.cons (hP.nth 7 rfl) (Off.cons (hP.nth 6 rfl) (Off.cons (hP.nth 5 rfl) (Off.cons (hP.nth 4 rfl) (Off.cons (hP.nth 3 rfl) (Off.cons (hP.nth 2 rfl) Off.nil))))))))))))))))) (hS.pick [0] (by decide) rfl))⟩ h)
   case false =>
    have h := if_f h hb_16
    try simp only [hb_16]
    refine kT (t := 19) rfl rfl (kk (k := 2) Try.underlying64 rfl rfl nz58 rfl) rfl (kT (t := 19) rfl rfl (ku Try.underlying58 rfl rfl (hS.bxc 0 rfl 2)) rfl ?_)
    obtain ⟨x_17, hx_17, h⟩ := kf h
    refine wpR_gcall (t := 19) rfl rfl (by kernel_rfl) rfl (c_bignum_Int_Sign _ x_6.2.2.2.2.2.2.2.2.2.2.2.2.2.2.2.1 x_6.2.2.2.2.2.2.2.2.2.2.2.2.2.2.2.2 u1_4_2_1 b1_4_2 ((hA.rp 17 rfl).now hS.fr).rp ((hA.rb 18 rfl).now hS.fr) _ hx_17) rfl ?_
    rintro _ w ⟨rfl, hS1⟩
    have hS := hS.call hS1
    refine kb 2 rfl ?_
    refine ke (ka ?_)
    exact km _ (by exact ⟨rfl, rfl, rfl, trivial⟩) (hK_21 (x_17 == 0) _ _ ⟨rfl, (SfT.mk' hZ (Rds.cons (hA.nth 18 rfl) (Rds.cons (hA.nth 17 rfl) (Rds.cons (hA.nth 16 rfl) (Rds.cons (hA.nth 15 rfl) (Rds.cons (hA.nth 14 rfl) (Rds.cons (hA.nth 13 rfl) (Rds.cons (hA.nth 12 rfl) (Rds.cons (hA.nth 11 rfl) (Rds.cons (hA.nth 10 rfl) (Rds.cons (hA.nth 9 rfl) (Rds.cons (hA.nth 8 rfl) (Rds.cons (hA.nth 7 rfl) (Rds.cons (hA.nth 6 rfl) (Rds.cons (hA.nth 5 rfl) (Rds.cons (hA.nth 4 rfl) (Rds.cons (hA.nth 3 rfl) (Rds.cons (hA.nth 2 rfl) Rds.nil))))))))))))))))) (Off.cons (hP.nth 18 rfl) (Off.cons (hP.nth 17 rfl) (Off.cons (hP.nth 16 rfl) (Off.cons (hP.nth 15 rfl) (Off.cons (hP.nth 14 rfl) (Off.cons (hP.nth 13 rfl) (Off.cons (hP.nth 12 rfl) (Off.cons (hP.nth 11 rfl) (Off.cons (hP.nth 10 rfl) (Off.cons (hP.nth 9 rfl) (Off.cons (hP.nth 8 rfl) (Off.cons (hP.nth 7 rfl) (Off.cons (hP.nth 6 rfl) (Off.cons (hP.nth 5 rfl) (Off.cons (hP.nth 4 rfl) (Off.cons (hP.nth 3 rfl) (Off.cons (hP.nth 2 rfl) Off.nil))))))))))))))))) (hS.pick [0] (by decide) rfl))⟩ h)
  rintro x_20 L w hJ h
  try dsimp only at hJ
  obtain ⟨rfl, ⟨S_18, wb_19, hZ, hA, hP, hS⟩⟩ := hJ
  unfold F.curve_Encode_K1 at h
  refine kn rfl (fun hb_36 => ?_) (fun hb_36 => ?_)
  ·have h := if_t h hb_36
   refine kd (kc (kb 3 rfl ?_))
   refine ke (ka (ko (kv ?_)))
   cases h
   replace hS := hZ.st hS
   exact QE_ret3 rfl rfl rfl rfl ⟨.slice none 0 0, .slice none 0 0, rfl, ((hS.nil e8).nil e8).pick [1, 0] (by decide) rfl⟩
  have h := if_f h hb_36
  refine kq (ka (kd ?_))
  obtain ⟨x_22, hx_22, h⟩ := kf h
  obtain ⟨x_25, hx_25, h⟩ := kf h
  obtain ⟨x_28, hx_28, h⟩ := kf h
  obtain ⟨x_31, hx_31, h⟩ := kf h
  refine wpC_regionM (es := [OE.bx b1_4_2 [vB x_6.2.2.2.2.2.2.2.2.2.2.2.2.2.2.2.1, u1_4_2_1], red e32 u1_4_2_1 x_6.2.2.2.2.2.2.2.2.2.2.2.2.2.2.2.2, OE.bx b1_4_1 [vB x_6.2.2.2.2.2.2.2.2.2.2.2.2.2.1, u1_4_1_1], red e32 u1_4_1_1 x_6.2.2.2.2.2.2.2.2.2.2.2.2.2.2.1, OE.bx b1_4_0 [vB x_6.2.2.2.2.2.2.2.2.2.2.2.1, u1_4_0_1], red e32 u1_4_0_1 x_6.2.2.2.2.2.2.2.2.2.2.2.2.1, OE.bx b0_4 [pB b0_4_0 0, pB b0_4_1 0, pB b0_4_2 0, pB b0_4_3 0, pB b0_4_4 0, vI x_6.2.2.2.2.2.2.2.2.2.2.1, .func (.func 91) #[] #[]], OE.bx b0_4_4 [vB x_6.2.2.2.2.2.2.2.2.1, u0_4_4_1], red e32 u0_4_4_1 x_6.2.2.2.2.2.2.2.2.2.1, OE.bx b0_4_3 [vB x_6.2.2.2.2.2.2.1, u0_4_3_1], red e32 u0_4_3_1 x_6.2.2.2.2.2.2.2.1, OE.bx b0_4_2 [vB x_6.2.2.2.2.1, u0_4_2_1], red e32 u0_4_2_1 x_6.2.2.2.2.2.1, OE.bx b0_4_1 [vB x_6.2.2.1, u0_4_1_1], red e32 u0_4_1_1 x_6.2.2.2.1, OE.bx b0_4_0 [vB x_6.1, u0_4_0_1], red e32 u0_4_0_1 x_6.2.1]) (os := [OE.bx b_14 [pB b1_4_0 0, pB b1_4_1 0, pB b1_4_2 0]]) (fun i => [6, 7, 14, 15].contains i) (fun i => if i = 6 then some 7 else if i = 14 then some 15 else none) (fun i => []) (fun i => []) (fun i => []) (fun i => []) (fun i => if i = 6 then (fun h v x y => ∃ v_23 : Value, v = v_23 ∧ x = [own e8 v_23 x_22] ∧ y = []) else if i = 7 then (fun h v x y => ∃ v_26 : Value, v = v_26 ∧ x = [own e8 v_26 x_25] ∧ y = []) else if i = 14 then (fun h v x y => ∃ v_29 : Value, v = v_29 ∧ x = [own e8 v_29 x_28] ∧ y = []) else (fun h v x y => ∃ v_32 : Value, v = v_32 ∧ x = [own e8 v_32 x_31] ∧ y = [])) (SfT.mk' hZ hA hP hS) (fun k hk => rfl) hTT rfl (fun i => (ite_ns (by rintro h v x y ⟨_, rfl, rfl, rfl⟩; exact ns_all rfl) (ite_ns (by rintro h v x y ⟨_, rfl, rfl, rfl⟩; exact ns_all rfl) (ite_ns (by rintro h v x y ⟨_, rfl, rfl, rfl⟩; exact ns_all rfl) (by rintro h v x y ⟨_, rfl, rfl, rfl⟩; exact ns_all rfl))))) hmix (by kernel_rfl) (by kernel_rfl) ?_
  show lxME _ _ _ _ _ _ _ _ _ _ _ _ _ _ _ _ [0, 1, 2, 3, 4, 5, 6, 7, 8, 9, 10, 11, 12, 13, 14, 15, 16, 17, 18] _ _
  refine lxME_v rfl rfl (fun w Sb wb hZ hA hP hF => kk (k := 0) Try.underlying64 rfl rfl nz58 rfl) rfl (lxME_v rfl rfl (fun w Sb wb hZ hA hP hF => ku Try.underlying58 rfl rfl (hF.bxc 0 rfl 0)) rfl (lxME_v rfl rfl (fun w Sb wb hZ hA hP hF => kl rfl) rfl (lxME_v rfl rfl (fun w Sb wb hZ hA hP hF => kJ rfl) rfl (lxME_v rfl rfl (fun w Sb wb hZ hA hP hF => kk (k := 5) Try.underlying61 rfl rfl nz3 rfl) rfl (lxME_v rfl rfl (fun w Sb wb hZ hA hP hF => ku Try.underlying3 rfl rfl ((hA.rb 10 rfl).cell hF.fr 5 rfl)) rfl ?_)))))
  refine lxME_new (fun h v x y => ∃ v_23 : Value, v = v_23 ∧ x = [own e8 v_23 x_22] ∧ y = []) [] [] [] _ rfl rfl (fun h v x y => rfl) rfl rfl rfl rfl ⟨_, _, _, undef, rfl, rfl, rfl⟩ (fun w Sl Tl hZ hTT hA hP hS => ?_) rfl ?_
  ·refine opx_imp (G_make (e := e8) Try.underlying41 ti5 rfl rfl rfl hS hx_22) ?_
   rintro v_23 w hS
   exact ⟨_, _, ⟨v_23, rfl, rfl, rfl⟩, SfT.mk' hZ Rds.nil Off.nil hS⟩
  rintro v_23 x_q y_q ⟨_, rfl, rfl, rfl⟩
  refine lxME_call (fun h v x y => ∃ v_26 : Value, v = v_26 ∧ x = [own e8 v_26 x_25] ∧ y = []) [] [own e8 v_23 x_22] [] _ rfl rfl (fun h v x y => rfl) rfl rfl rfl rfl ⟨_, _, _, undef, rfl, rfl, rfl⟩ (by kernel_rfl) rfl (fun w Sl Tl hZ hTT hA hP hS => ?_) rfl ?_
  ·have hG := hS.pick (os' := [own e8 v_23 x_22] ++ [OE.bx b_14 [pB b1_4_0 0, pB b1_4_1 0, pB b1_4_2 0]]) [0, 1] (by decide) rfl
   refine calls_ret (c_curve_fill _ x_6.2.2.2.2.2.2.2.2.2.2.2.1 x_6.2.2.2.2.2.2.2.2.2.2.2.2.1 x_22 u1_4_0_1 v_23 b1_4_0 _ hG.give ((hA.rp 11 rfl).give (Nat.le_of_ble_eq_true rfl) hG) ((hA.rb 12 rfl).give hG) _ hx_25) ?_
   rintro v_26 w ⟨v_26q, hqv_26, hS1⟩
   rw [← hqv_26] at hS1
   have hS := hG.back hS1
   exact ⟨_, _, ⟨v_26, rfl, rfl, rfl⟩, SfT.mk' hZ Rds.nil Off.nil hS⟩
  rintro v_26 x_q y_q ⟨_, rfl, rfl, rfl⟩
  refine lxME_v rfl rfl (fun w Sb wb hZ hA hP hF => kk (k := 1) Try.underlying64 rfl rfl nz58 rfl) rfl (lxME_v rfl rfl (fun w Sb wb hZ hA hP hF => ku Try.underlying58 rfl rfl (hF.bxc 0 rfl 1)) rfl (lxME_v rfl rfl (fun w Sb wb hZ hA hP hF => kl rfl) rfl (lxME_v rfl rfl (fun w Sb wb hZ hA hP hF => kJ rfl) rfl (lxME_v rfl rfl (fun w Sb wb hZ hA hP hF => kk (k := 5) Try.underlying61 rfl rfl nz3 rfl) rfl (lxME_v rfl rfl (fun w Sb wb hZ hA hP hF => ku Try.underlying3 rfl rfl ((hA.rb 10 rfl).cell hF.fr 5 rfl)) rfl ?_)))))
  refine lxME_new (fun h v x y => ∃ v_29 : Value, v = v_29 ∧ x = [own e8 v_29 x_28] ∧ y = []) [] [] [] _ rfl rfl (fun h v x y => rfl) rfl rfl rfl rfl ⟨_, _, _, undef, rfl, rfl, rfl⟩ (fun w Sl Tl hZ hTT hA hP hS => ?_) rfl ?_
  ·refine opx_imp (G_make (e := e8) Try.underlying41 ti5 rfl rfl rfl hS hx_28) ?_
   rintro v_29 w hS
   exact ⟨_, _, ⟨v_29, rfl, rfl, rfl⟩, SfT.mk' hZ Rds.nil Off.nil hS⟩
  rintro v_29 x_q y_q ⟨_, rfl, rfl, rfl⟩
  refine lxME_call (fun h v x y => ∃ v_32 : Value, v = v_32 ∧ x = [own e8 v_32 x_31] ∧ y = []) [] [own e8 v_29 x_28] [] _ rfl rfl (fun h v x y => rfl) rfl rfl rfl rfl ⟨_, _, _, undef, rfl, rfl, rfl⟩ (by kernel_rfl) rfl (fun w Sl Tl hZ hTT hA hP hS => ?_) rfl ?_
  ·have hG := hS.pick (os' := [own e8 v_29 x_28] ++ [OE.bx b_14 [pB b1_4_0 0, pB b1_4_1 0, pB b1_4_2 0]]) [0, 1] (by decide) rfl
   refine calls_ret (c_curve_fill _ x_6.2.2.2.2.2.2.2.2.2.2.2.2.2.1 x_6.2.2.2.2.2.2.2.2.2.2.2.2.2.2.1 x_28 u1_4_1_1 v_29 b1_4_1 _ hG.give ((hA.rp 13 rfl).give (Nat.le_of_ble_eq_true rfl) hG) ((hA.rb 14 rfl).give hG) _ hx_31) ?_
   rintro v_32 w ⟨v_32q, hqv_32, hS1⟩
   rw [← hqv_32] at hS1
   have hS := hG.back hS1
   exact ⟨_, _, ⟨v_32, rfl, rfl, rfl⟩, SfT.mk' hZ Rds.nil Off.nil hS⟩
  rintro v_32 x_q y_q ⟨_, rfl, rfl, rfl⟩
  refine lxME_v rfl rfl (fun w Sb wb hZ hA hP hF => kA rfl) rfl (lxME_v rfl rfl (fun w Sb wb hZ hA hP hF => kA rfl) rfl (lxME_v rfl rfl (fun w Sb wb hZ hA hP hF => kA rfl) rfl (lxME_nil fun w hQ => ?_)))
  obtain ⟨S_34, wb_35, hZ, hA, hP, hS⟩ := hQ
  refine ka (ko ?_)
  cases h
  replace hS := hZ.st hS
  exact QE_ret3 rfl rfl rfl rfl ⟨v_26, v_32, rfl, hS.pick [0, 1] (by decide) rfl⟩
theorem c_curve_Decode (w0 : World) (a0 : Int) (a1 : List UInt8) (a2 : List UInt8) (va1 : Value) (va2 : Value) (ha1 : RP [] w0 e8 va1 a1) (ha2 : RP [] w0 e8 va2 a2) (r : List UInt32 × List UInt32 × Bool × Int)
  (h : F.curve_Decode a0 a1 a2 = some r) : Calls Try.prog 26 #[vI a0, va1, va2] w0 (Ret fun v w => ∃ u0_0 u0_1 : Value, v = .tuple #[.agg #[u0_0, u0_1, vB r.2.2.1], vI r.2.2.2] ∧ St [] w0 w [own e32 u0_0 r.1, own e32 u0_1 r.2.1]) := by
 refine kz 48 Try.func26 rfl rfl rfl ?_
 have hS := St.start w0
 have hZ := Fz.start (S := []) (w0 := w0)
 have hTT : TOk [] [] w0 := TOk.nil
 have hA : Rds [] w0 [red e8 va2 a2, red e8 va1 a1] := Rds.cons (RP.kept (Nat.le_of_ble_eq_true rfl) ha2) (Rds.cons (RP.kept (Nat.le_of_ble_eq_true rfl) ha1) (Rds.nil))
 have hP : Off [] [red e8 va2 a2, red e8 va1 a1] := Off.emp
 refine km [(0, vI a0), (1, va1), (2, va2)] ⟨rfl, rfl, rfl, trivial⟩ ?_
 unfold F.curve_Decode at h
 refine kd (kc (kW (kE (cs := [.slice none 0 0, .slice none 0 0, vB false]) tz26 rfl hS) rfl ?_))
 rintro _ w ⟨b_1, rfl, hS⟩
 refine kb 1 rfl ?_
 refine ke (ka (kd (kc (kb 1 rfl ?_))))
 replace hS := hS.pick (os' := [] ++ [OE.bx b_1 [.slice none 0 0, .slice none 0 0, vB false]]) [0] (by decide) rfl
 obtain ⟨hZ, hA, hP, hS⟩ := hZ.frzK hTT hA hP hS
 obtain ⟨x_3, hx_3, h⟩ := kf h
 refine kj (by kernel_rfl) rfl (c_curve_of _ a0   _ (hZ.okT hTT hS)  _ hx_3) rfl ?_
 rintro v_q w hQ
 cases hc_5 : x_3 with
 | none =>
  have h := ocase_n h hc_5
  rw [hc_5] at hQ
  obtain ⟨rfl, hS1⟩ := ocaseP_n' hQ
  obtain ⟨S_7, wb_8, hZ, hA, hP, hS⟩ := hZ.callK hA hP hS hS1 Rds.nil rfl
  refine kb 1 rfl ?_
  refine ke (ka (kd (kd (kc (kb 1 rfl ?_)))))
  refine kh (kr rfl rfl (b_penN Try.underlying55)) rfl (kb 29 rfl ?_)
  refine ke (ka (wpC_condT rfl ?_))
  refine kd (kc (kh (OpV_build (vs := []) (cells := [.slice none 0 0, .slice none 0 0, vB false]) rfl lay26 trivial rfl) rfl (kX (kM (i := 0) (us := [.slice none 0 0, .slice none 0 0, vB false]) rfl sz26 rfl rfl rfl ⟨rfl, rfl, rfl, trivial⟩ rfl hS) ?_)))
  intro w hS
  refine kb 1 rfl ?_
  refine ke (ka (ko (kv ?_)))
  cases h
  replace hS := hZ.st hS
  exact QE_rv2 rfl ⟨_, rfl, run_ldAgg (us := [.slice none 0 0, .slice none 0 0, vB false]) Try.underlying26 rfl sz26 (hS.bxs 0 rfl rfl)⟩ rfl ⟨.slice none 0 0, .slice none 0 0, rfl, ((hS.nil e32).nil e32).pick [1, 0] (by decide) rfl⟩
 | some x_6 =>
  have h := ocase_s h hc_5
  rw [hc_5] at hQ
  obtain ⟨b0_4, b0_4_0, u0_4_0_1, b0_4_1, u0_4_1_1, b0_4_2, u0_4_2_1, b0_4_3, u0_4_3_1, b0_4_4, u0_4_4_1, rfl, hS1, hR1⟩ := ocaseP_s' hQ
  obtain ⟨S_9, wb_10, hZ, hA, hP, hS⟩ := hZ.callK hA hP hS hS1 hR1 rfl
  refine kb 1 rfl ?_
  refine ke (ka (kd ?_))
  refine kO (r := r) (fun (g : Bool) L w => L = [(1, va1), (2, va2), (6, pB b_1 0), (41, vB g)] ∧ SfT [] [] w0 w [red e8 va2 a2, red e8 va1 a1] [OE.bx b_1 [.slice none 0 0, .slice none 0 0, vB false]]) (F.curve_Decode_K1 a1 a2) ?_ ?_
  rotate_left
  ·intro hK_31
   refine kc (kb 1 rfl ?_)
   refine kh (kr rfl rfl (b_peqN Try.underlying55 b0_4 0)) rfl (kb 2 rfl ?_)
   refine kT (t := 13) rfl rfl (kB Try.underlying41 rfl ((hA.rp 0 rfl).now hS.fr)) rfl (kb 1 rfl ?_)
   refine kT (t := 13) rfl rfl (kJ rfl) rfl (kT (t := 13) rfl rfl (kk (k := 5) Try.underlying61 rfl rfl nz3 rfl) rfl (kT (t := 13) rfl rfl (ku Try.underlying3 rfl rfl ((hA.rb 12 rfl).cell hS.fr 5 rfl)) rfl (kb 3 rfl ?_)))
   cases hb_11 : ((a1.length : Int) != x_6.2.2.2.2.2.2.2.2.2.2)
   case true =>
    have h := if_t h hb_11
    try simp only [hb_11]
    refine kb 19 rfl ?_
    refine ke (ka ?_)
    exact km _ (by exact ⟨rfl, rfl, rfl, rfl, trivial⟩) (hK_31 true _ _ ⟨rfl, (SfT.mk' hZ (Rds.cons (hA.nth 1 rfl) (Rds.cons (hA.nth 0 rfl) Rds.nil)) (Off.cons (hP.nth 1 rfl) (Off.cons (hP.nth 0 rfl) Off.nil)) hS)⟩ h)
   case false =>
    have h := if_f h hb_11
    try simp only [hb_11]
    refine kb 1 rfl ?_
    refine kT (t := 22) rfl rfl (kB Try.underlying41 rfl ((hA.rp 1 rfl).now hS.fr)) rfl (kb 1 rfl ?_)
    refine kT (t := 22) rfl rfl (kJ rfl) rfl (kT (t := 22) rfl rfl (kk (k := 5) Try.underlying61 rfl rfl nz3 rfl) rfl (kT (t := 22) rfl rfl (ku Try.underlying3 rfl rfl ((hA.rb 12 rfl).cell hS.fr 5 rfl)) rfl (kb 3 rfl ?_)))
    cases hb_12 : ((a2.length : Int) != x_6.2.2.2.2.2.2.2.2.2.2)
    case true =>
     have h := if_t h hb_12
     try simp only [hb_12]
     refine kb 10 rfl ?_
     refine ke (ka ?_)
     exact km _ (by exact ⟨rfl, rfl, rfl, rfl, trivial⟩) (hK_31 true _ _ ⟨rfl, (SfT.mk' hZ (Rds.cons (hA.nth 1 rfl) (Rds.cons (hA.nth 0 rfl) Rds.nil)) (Off.cons (hP.nth 1 rfl) (Off.cons (hP.nth 0 rfl) Off.nil)) hS)⟩ h)
    case false =>
     have h := if_f h hb_12
     try simp only [hb_12]
     refine kb 1 rfl ?_
     refine wpR_gx (t := 31) rfl rfl (kE (cs := [vB false, .slice none 0 0]) tz72 rfl hS) rfl ?_
     rintro _ w ⟨b_13, rfl, hS⟩
     refine kb 1 rfl ?_
     replace hS := hS.nil e32
     have hG := hS.pick (os' := [OE.bx b_13 [vB false, .slice none 0 0], own e32 (.slice none 0 0) []] ++ [OE.bx b_1 [.slice none 0 0, .slice none 0 0, vB false]]) [1, 0, 2] (by decide) rfl
     obtain ⟨x_16, hx_16, h⟩ := kf h
     refine wpR_gcall (t := 31) rfl rfl (by kernel_rfl) rfl (c_bignum_Int_SetBytes _ false [] a1 (.slice none 0 0) va1 b_13 _ hG.give ((hA.rp 0 rfl).give (Nat.le_of_ble_eq_true rfl) hG) _ hx_16) rfl ?_
     rintro _ w ⟨v_17, rfl, hS1⟩
     have hS := hG.back hS1
     refine wpR_gx (t := 31) rfl rfl (kE (cs := [vB false, .slice none 0 0]) tz72 rfl hS) rfl ?_
     rintro _ w ⟨b_19, rfl, hS⟩
     refine kb 1 rfl ?_
     replace hS := hS.nil e32
     have hG := hS.pick (os' := [OE.bx b_19 [vB false, .slice none 0 0], own e32 (.slice none 0 0) []] ++ [OE.bx b_13 [vB x_16.1, v_17], own e32 v_17 x_16.2, OE.bx b_1 [.slice none 0 0, .slice none 0 0, vB false]]) [1, 0, 2, 3, 4] (by decide) rfl
     obtain ⟨x_22, hx_22, h⟩ := kf h
     refine wpR_gcall (t := 31) rfl rfl (by kernel_rfl) rfl (c_bignum_Int_SetBytes _ false [] a2 (.slice none 0 0) va2 b_19 _ hG.give ((hA.rp 1 rfl).give (Nat.le_of_ble_eq_true rfl) hG) _ hx_22) rfl ?_
     rintro _ w ⟨v_23, rfl, hS1⟩
     have hS := hG.back hS1
     obtain ⟨x_25, hx_25, h⟩ := kf h
     refine wpR_gcall (t := 31) rfl rfl (by kernel_rfl) rfl (c_curve_group_on _ x_6.1 x_6.2.1 x_6.2.2.1 x_6.2.2.2.1 x_6.2.2.2.2.1 x_6.2.2.2.2.2.1 x_6.2.2.2.2.2.2.1 x_6.2.2.2.2.2.2.2.1 x_6.2.2.2.2.2.2.2.2.1 x_6.2.2.2.2.2.2.2.2.2.1 x_6.2.2.2.2.2.2.2.2.2.2 x_16.1 x_16.2 x_22.1 x_22.2 u0_4_0_1 u0_4_1_1 u0_4_2_1 u0_4_3_1 u0_4_4_1 v_17 v_23 b0_4 b0_4_0 b0_4_1 b0_4_2 b0_4_3 b0_4_4 b_13 b_19 ((hA.rp 2 rfl).now hS.fr).rp ((hA.rb 3 rfl).now hS.fr) ((hA.rp 4 rfl).now hS.fr).rp ((hA.rb 5 rfl).now hS.fr) ((hA.rp 6 rfl).now hS.fr).rp ((hA.rb 7 rfl).now hS.fr) ((hA.rp 8 rfl).now hS.fr).rp ((hA.rb 9 rfl).now hS.fr) ((hA.rp 10 rfl).now hS.fr).rp ((hA.rb 11 rfl).now hS.fr) ((hA.rb 12 rfl).now hS.fr) (hS.ro 3 rfl).rp (hS.rb 2 rfl) (hS.ro 1 rfl).rp (hS.rb 0 rfl) _ hx_25) rfl ?_
     rintro _ w ⟨rfl, hS1⟩
     have hS := hS.call hS1
     refine kb 2 rfl ?_
     refine ke (ka ?_)
     replace hS := hS.pick (os' := [OE.bx b_19 [vB x_22.1, v_23], own e32 v_23 x_22.2, OE.bx b_13 [vB x_16.1, v_17], own e32 v_17 x_16.2] ++ [OE.bx b_1 [.slice none 0 0, .slice none 0 0, vB false]]) [0, 1, 2, 3, 4] (by decide) rfl
     obtain ⟨S_26, wb_27, hZ, hA, hP, hS⟩ := hZ.frzT hTT hA hP hS
     exact km _ (by exact ⟨rfl, rfl, rfl, rfl, trivial⟩) (hK_31 (!x_25) _ _ ⟨rfl, (SfT.mk' hZ (Rds.cons (hA.nth 1 rfl) (Rds.cons (hA.nth 0 rfl) Rds.nil)) (Off.cons (hP.nth 1 rfl) (Off.cons (hP.nth 0 rfl) Off.nil)) hS)⟩ h)
  rintro x_30 L w hJ h
  try dsimp only at hJ
  obtain ⟨rfl, ⟨S_28, wb_29, hZ, hA, hP, hS⟩⟩ := hJ
  unfold F.curve_Decode_K1 at h
  refine kn rfl (fun hb_38 => ?_) (fun hb_38 => ?_)
  ·have h := if_t h hb_38
   refine kd (kc (kh (OpV_build (vs := []) (cells := [.slice none 0 0, .slice none 0 0, vB false]) rfl lay26 trivial rfl) rfl (kX (kM (i := 0) (us := [.slice none 0 0, .slice none 0 0, vB false]) rfl sz26 rfl rfl rfl ⟨rfl, rfl, rfl, trivial⟩ rfl hS) ?_)))
   intro w hS
   refine kb 1 rfl ?_
   refine ke (ka (ko (kv ?_)))
   cases h
   replace hS := hZ.st hS
   exact QE_rv2 rfl ⟨_, rfl, run_ldAgg (us := [.slice none 0 0, .slice none 0 0, vB false]) Try.underlying26 rfl sz26 (hS.bxs 0 rfl rfl)⟩ rfl ⟨.slice none 0 0, .slice none 0 0, rfl, ((hS.nil e32).nil e32).pick [1, 0] (by decide) rfl⟩
  have h := if_f h hb_38
  refine kq (ka (kd (kc (kb 1 rfl ?_))))
  obtain ⟨x_32, hx_32, h⟩ := kf h
  refine kj (by kernel_rfl) rfl (c_nat_FromBytes _ a1 va1  ((hA.rp 0 rfl).now hS.fr).rp _ hx_32) rfl ?_
  rintro v_33 w hS1
  have hS := hS.call hS1
  refine kb 1 rfl ?_
  obtain ⟨x_35, hx_35, h⟩ := kf h
  refine kj (by kernel_rfl) rfl (c_nat_FromBytes _ a2 va2  ((hA.rp 1 rfl).now hS.fr).rp _ hx_35) rfl ?_
  rintro v_36 w hS1
  have hS := hS.call hS1
  refine kh (OpV_build (vs := [(0, v_33, [v_33]), (1, v_36, [v_36])]) (cells := [v_33, v_36, vB false]) rfl lay26 ⟨(cells_one (hS.ro 1 rfl).one), (cells_one (hS.ro 0 rfl).one), trivial⟩ rfl) rfl ?_
  refine kX (kM (i := 2) (us := [v_33, v_36, vB false]) rfl sz26 rfl rfl rfl ⟨(hS.ro 1 rfl).one, (hS.ro 0 rfl).one, rfl, trivial⟩ rfl hS) ?_
  intro w hS
  refine kb 1 rfl ?_
  refine ke (ka (ko ?_))
  cases h
  replace hS := hZ.st hS
  exact QE_rv2 rfl ⟨_, rfl, run_ldAgg (us := [v_33, v_36, vB false]) Try.underlying26 rfl sz26 (hS.bxs 2 rfl rfl)⟩ rfl ⟨v_33, v_36, rfl, hS.pick [1, 0] (by decide) rfl⟩
end Go.Proofs
