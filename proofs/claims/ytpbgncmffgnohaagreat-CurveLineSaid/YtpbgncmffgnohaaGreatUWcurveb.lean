import Derived.Test.YtpbgncmffgnohaaGreatUW0
import Derived.Test.YtpbgncmffgnohaaGreatGkFcurve
import Derived.Test.YtpbgncmffgnohaaGreatUWbignumc
import Derived.Test.YtpbgncmffgnohaaGreatUWcurvea
import Derived.Test.YtpbgncmffgnohaaGreatUWnatb
set_option linter.unusedVariables false
set_option linter.unusedSimpArgs false
set_option linter.unusedVariables false
set_option maxRecDepth 4000
namespace Go.Proofs
open Go Go.RowKit Go.Gk
theorem c_curve_out (w0 : World) (a0_0 : Bool) (a0_1 : List UInt32) (va0_1 : Value) (ba0 : Nat) (ha0_1 : RP [] w0 e32 va0_1 a0_1) (hBa0 : RB [] w0 ba0 [vB a0_0, va0_1]) (r : List UInt32)
  (h : F.curve_out a0_0 a0_1 = some r) : Calls Tryz.prog 62 #[pB ba0 0] w0 (Ret fun v w => St [] w0 w [own e32 v r]) := by
 refine kz 6 Tryz.func62 rfl rfl rfl ?_
 have hS := St.start w0
 refine kn [(0, pB ba0 0)] ⟨rfl, trivial⟩ ?_
 unfold F.curve_out at h
 refine ke (kc (kb 1 rfl ?_))
 refine kf (ka (ke (kc (kb 1 rfl ?_))))
 obtain ⟨x_1, hx_1, h⟩ := kg h
 refine kk (by kernel_rfl) rfl (c_bignum_Int_Bytes _ a0_0 a0_1 va0_1 ba0 (ha0_1.now hS.fr).rp (hBa0.now hS.fr) _ hx_1) rfl ?_
 rintro v_2 w hS1
 have hS := hS.call hS1
 obtain ⟨x_4, hx_4, h⟩ := kg h
 refine kk (by kernel_rfl) rfl (c_nat_FromBytes _ x_1 v_2  (hS.ro 0 rfl).rp _ hx_4) rfl ?_
 rintro v_5 w hS1
 have hS := hS.call hS1
 refine kb 1 rfl ?_
 refine kf (ka (kq ?_))
 cases h
 exact ky rfl rfl (hS.pick [0] (by decide) rfl)
theorem c_curve_group_show (w0 : World) (a0_0_0 : Bool) (a0_0_1 : List UInt32) (a0_1_0 : Bool) (a0_1_1 : List UInt32) (a0_2_0 : Bool) (a0_2_1 : List UInt32) (a0_3_0 : Bool) (a0_3_1 : List UInt32) (a0_4_0 : Bool) (a0_4_1 : List UInt32) (a0_5 : Int) (a1_0_0 : Bool) (a1_0_1 : List UInt32) (a1_1_0 : Bool) (a1_1_1 : List UInt32) (a1_2_0 : Bool) (a1_2_1 : List UInt32) (va0_0_1 : Value) (va0_1_1 : Value) (va0_2_1 : Value) (va0_3_1 : Value) (va0_4_1 : Value) (va1_0_1 : Value) (va1_1_1 : Value) (va1_2_1 : Value) (ba0 : Nat) (ba0_0 : Nat) (ba0_1 : Nat) (ba0_2 : Nat) (ba0_3 : Nat) (ba0_4 : Nat) (ba1_0 : Nat) (ba1_1 : Nat) (ba1_2 : Nat) (ha0_0_1 : RP [] w0 e32 va0_0_1 a0_0_1) (hBa0_0 : RB [] w0 ba0_0 [vB a0_0_0, va0_0_1]) (ha0_1_1 : RP [] w0 e32 va0_1_1 a0_1_1) (hBa0_1 : RB [] w0 ba0_1 [vB a0_1_0, va0_1_1]) (ha0_2_1 : RP [] w0 e32 va0_2_1 a0_2_1) (hBa0_2 : RB [] w0 ba0_2 [vB a0_2_0, va0_2_1]) (ha0_3_1 : RP [] w0 e32 va0_3_1 a0_3_1) (hBa0_3 : RB [] w0 ba0_3 [vB a0_3_0, va0_3_1]) (ha0_4_1 : RP [] w0 e32 va0_4_1 a0_4_1) (hBa0_4 : RB [] w0 ba0_4 [vB a0_4_0, va0_4_1]) (hBa0 : RB [] w0 ba0 [pB ba0_0 0, pB ba0_1 0, pB ba0_2 0, pB ba0_3 0, pB ba0_4 0, vI a0_5, .func (.func 101) #[] #[]]) (ha1_0_1 : RP [] w0 e32 va1_0_1 a1_0_1) (hBa1_0 : RB [] w0 ba1_0 [vB a1_0_0, va1_0_1]) (ha1_1_1 : RP [] w0 e32 va1_1_1 a1_1_1) (hBa1_1 : RB [] w0 ba1_1 [vB a1_1_0, va1_1_1]) (ha1_2_1 : RP [] w0 e32 va1_2_1 a1_2_1) (hBa1_2 : RB [] w0 ba1_2 [vB a1_2_0, va1_2_1]) (r : List UInt32 × List UInt32 × Bool)
  (h : F.curve_group_show a0_0_0 a0_0_1 a0_1_0 a0_1_1 a0_2_0 a0_2_1 a0_3_0 a0_3_1 a0_4_0 a0_4_1 a0_5 a1_0_0 a1_0_1 a1_1_0 a1_1_1 a1_2_0 a1_2_1 = some r) : Calls Tryz.prog 48 #[pB ba0 0, .agg #[pB ba1_0 0, pB ba1_1 0, pB ba1_2 0]] w0 (Ret fun v w => ∃ u0_0 u0_1 : Value, v = .agg #[u0_0, u0_1, vB r.2.2] ∧ St [] w0 w [own e32 u0_0 r.1, own e32 u0_1 r.2.1]) := by
 refine kz 40 Tryz.func48 rfl rfl rfl ?_
 have hS := St.start w0
 refine kn [(0, pB ba0 0), (1, .agg #[pB ba1_0 0, pB ba1_1 0, pB ba1_2 0])] ⟨rfl, rfl, trivial⟩ ?_
 unfold F.curve_group_show at h
 refine ke (kc (kW (OpX_box (cs := [pB ba1_0 0, pB ba1_1 0, pB ba1_2 0]) rfl rfl hS) rfl ?_))
 rintro _ w ⟨b_1, rfl, hS⟩
 refine kW (kE (cs := [.slice none 0 0, .slice none 0 0, vB false]) tz27 rfl hS) rfl ?_
 rintro _ w ⟨b_3, rfl, hS⟩
 refine kf (ka (ke (ke (kc (ki (kl (k := 2) Tryz.underlying66 rfl rfl nz56 rfl) rfl (ki (ku Tryz.underlying56 rfl rfl (hS.bxc 1 rfl 2)) rfl ?_))))))
 obtain ⟨x_5, hx_5, h⟩ := kg h
 refine kk (by kernel_rfl) rfl (c_bignum_Int_Sign _ a1_2_0 a1_2_1 va1_2_1 ba1_2 (ha1_2_1.now hS.fr).rp (hBa1_2.now hS.fr) _ hx_5) rfl ?_
 rintro _ w ⟨rfl, hS1⟩
 have hS := hS.call hS1
 refine kb 1 rfl ?_
 refine kf (ka ?_)
 refine ko rfl (fun hb_40 => ?_) (fun hb_40 => ?_)
 ·have h := if_t h hb_40
  refine ke (kc (ki (OpV_build (vs := [(2, vB true, [vB true])]) (cells := [.slice none 0 0, .slice none 0 0, vB true]) rfl lay27 ⟨rfl, trivial⟩ rfl) rfl (kX (kM (i := 0) (us := [.slice none 0 0, .slice none 0 0, vB true]) rfl sz27 rfl rfl rfl ⟨rfl, rfl, rfl, trivial⟩ rfl hS) ?_)))
  intro w hS
  refine kf (ka (kq (kv ?_)))
  cases h
  exact QE_rv1 rfl ⟨_, rfl, run_ldAgg (us := [.slice none 0 0, .slice none 0 0, vB true]) Tryz.underlying27 rfl sz27 (hS.bxs 0 rfl rfl)⟩ ⟨.slice none 0 0, .slice none 0 0, rfl, ((hS.nil e32).nil e32).pick [1, 0] (by decide) rfl⟩
 have h := if_f h hb_40
 refine kr (ka (ke ?_))
 refine kN (fun w' => St [] w0 w' [OE.bx b_3 [.slice none 0 0, .slice none 0 0, vB false], OE.bx b_1 [pB ba1_0 0, pB ba1_1 0, pB ba1_2 0]]) (fun i => !([0, 7].contains i)) hmix (fun _ _ _ hf => hf.2) (fun _ _ hf => hf) (by kernel_rfl) ?_
 have hS := hS.drew
 show lxE _ _ _ _ _ _ _ [0, 1, 2, 3, 4, 5, 6, 7, 8] _ _
 refine kZ hS rfl rfl (kE (cs := [vB false, .slice none 0 0]) tz62 rfl hS) rfl ?_
 rintro _ w ⟨b_6, rfl, hS⟩
 refine kj (hS.pick [1, 2] (by decide) rfl) rfl rfl (fun w hF => kl (k := 2) Tryz.underlying66 rfl rfl nz56 rfl) rfl ?_
 refine kj (hS.pick [1, 2] (by decide) rfl) rfl rfl (fun w hF => ku Tryz.underlying56 rfl rfl (hF.bxc 1 rfl 2)) rfl ?_
 refine kj (hS.pick [1, 2] (by decide) rfl) rfl rfl (fun w hF => km rfl) rfl ?_
 refine kj (hS.pick [1, 2] (by decide) rfl) rfl rfl (fun w hF => kJ rfl) rfl ?_
 refine kj (hS.pick [1, 2] (by decide) rfl) rfl rfl (fun w hF => kl (k := 0) Tryz.underlying59 rfl rfl nz56 rfl) rfl ?_
 refine kj (hS.pick [1, 2] (by decide) rfl) rfl rfl (fun w hF => ku Tryz.underlying56 rfl rfl (hBa0.cell hF.fr 0 rfl)) rfl ?_
 replace hS := hS.nil e32
 have hG := hS.pick (os' := [OE.bx b_6 [vB false, .slice none 0 0], own e32 (.slice none 0 0) []] ++ [OE.bx b_3 [.slice none 0 0, .slice none 0 0, vB false], OE.bx b_1 [pB ba1_0 0, pB ba1_1 0, pB ba1_2 0]]) [1, 0, 2, 3] (by decide) rfl
 obtain ⟨x_9, hx_9, h⟩ := kg h
 refine kP (hS.pick [2, 3] (by decide) rfl) rfl rfl (by kernel_rfl) rfl (c_bignum_Int_ModInverse _ false [] a1_2_0 a1_2_1 a0_0_0 a0_0_1 (.slice none 0 0) va1_2_1 va0_0_1 b_6 ba1_2 ba0_0 _ hG.give (ha1_2_1.give (Nat.le_of_ble_eq_true rfl) hG) (hBa1_2.give hG) (ha0_0_1.give (Nat.le_of_ble_eq_true rfl) hG) (hBa0_0.give hG) _ hx_9) rfl ?_
 rintro _ w ⟨v_10, rfl, hS1⟩
 have hS := hG.back hS1
 refine kj (hS.pick [2, 3] (by decide) rfl) rfl rfl (fun w hF => kA rfl) rfl ?_
 refine kY (hS.pick [2, 3] (by decide) rfl) ?_
 refine ka (ke (kc (kb 3 rfl ?_)))
 obtain ⟨x_12, hx_12, h⟩ := kg h
 refine kk (by kernel_rfl) rfl (c_curve_group_mul _ a0_0_0 a0_0_1 a0_1_0 a0_1_1 a0_2_0 a0_2_1 a0_3_0 a0_3_1 a0_4_0 a0_4_1 a0_5 x_9.1 x_9.2 x_9.1 x_9.2 va0_0_1 va0_1_1 va0_2_1 va0_3_1 va0_4_1 v_10 v_10 ba0 ba0_0 ba0_1 ba0_2 ba0_3 ba0_4 b_6 b_6 (ha0_0_1.now hS.fr).rp (hBa0_0.now hS.fr) (ha0_1_1.now hS.fr).rp (hBa0_1.now hS.fr) (ha0_2_1.now hS.fr).rp (hBa0_2.now hS.fr) (ha0_3_1.now hS.fr).rp (hBa0_3.now hS.fr) (ha0_4_1.now hS.fr).rp (hBa0_4.now hS.fr) (hBa0.now hS.fr) (hS.ro 1 rfl).rp (hS.rb 0 rfl) (hS.ro 1 rfl).rp (hS.rb 0 rfl) _ hx_12) rfl ?_
 rintro _ w ⟨v_13, b_15, rfl, hS1⟩
 have hS := hS.call hS1
 refine kb 1 rfl ?_
 refine kf (ka (ke ?_))
 refine wpC_regionS (fun w' => St [] w0 w' [OE.bx b_15 [vB x_12.1, v_13], own e32 v_13 x_12.2, OE.bx b_6 [vB x_9.1, v_10], own e32 v_10 x_9.2, OE.bx b_3 [.slice none 0 0, .slice none 0 0, vB false], OE.bx b_1 [pB ba1_0 0, pB ba1_1 0, pB ba1_2 0]]) (fun i => !([4, 5, 12, 13, 14, 16].contains i)) hmix (fun _ _ _ hf => hf.2) (fun _ _ hf => hf) (by kernel_rfl) ?_
 have hS := hS.drew
 show lxE _ _ _ _ _ _ _ [0, 1, 2, 3, 4, 5, 6, 7, 8, 9, 10, 11, 12, 13, 14, 15, 16] _ _
 refine kj hS rfl rfl (fun w hF => km rfl) rfl (kj hS rfl rfl (fun w hF => kl (k := 0) Tryz.underlying66 rfl rfl nz56 rfl) rfl (kj hS rfl rfl (fun w hF => ku Tryz.underlying56 rfl rfl (hF.bxc 5 rfl 0)) rfl (kj hS rfl rfl (fun w hF => km rfl) rfl ?_)))
 obtain ⟨x_17, hx_17, h⟩ := kg h
 refine kP hS rfl rfl (by kernel_rfl) rfl (c_curve_group_mul _ a0_0_0 a0_0_1 a0_1_0 a0_1_1 a0_2_0 a0_2_1 a0_3_0 a0_3_1 a0_4_0 a0_4_1 a0_5 a1_0_0 a1_0_1 x_12.1 x_12.2 va0_0_1 va0_1_1 va0_2_1 va0_3_1 va0_4_1 va1_0_1 v_13 ba0 ba0_0 ba0_1 ba0_2 ba0_3 ba0_4 ba1_0 b_15 (ha0_0_1.now hS.fr).rp (hBa0_0.now hS.fr) (ha0_1_1.now hS.fr).rp (hBa0_1.now hS.fr) (ha0_2_1.now hS.fr).rp (hBa0_2.now hS.fr) (ha0_3_1.now hS.fr).rp (hBa0_3.now hS.fr) (ha0_4_1.now hS.fr).rp (hBa0_4.now hS.fr) (hBa0.now hS.fr) (ha1_0_1.now hS.fr).rp (hBa1_0.now hS.fr) (hS.ro 1 rfl).rp (hS.rb 0 rfl) _ hx_17) rfl ?_
 rintro _ w ⟨v_18, b_20, rfl, hS1⟩
 have hS := hS.call hS1
 obtain ⟨x_22, hx_22, h⟩ := kg h
 refine kP (hS.pick [2, 3, 4, 5, 6, 7] (by decide) rfl) rfl rfl (by kernel_rfl) rfl (c_curve_out _ x_17.1 x_17.2 v_18 b_20 (hS.ro 1 rfl).rp (hS.rb 0 rfl) _ hx_22) rfl ?_
 rintro v_23 w hS1
 have hS := hS.call hS1
 have h1_25 := (hS.ro 0 rfl).one
 refine kj (hS.pick [3, 4, 5, 6, 7, 8] (by decide) rfl) rfl rfl (fun w hF => km rfl) rfl ?_
 refine kj (hS.pick [3, 4, 5, 6, 7, 8] (by decide) rfl) rfl rfl (fun w hF => kl (k := 1) Tryz.underlying66 rfl rfl nz56 rfl) rfl ?_
 refine kj (hS.pick [3, 4, 5, 6, 7, 8] (by decide) rfl) rfl rfl (fun w hF => ku Tryz.underlying56 rfl rfl (hF.bxc 5 rfl 1)) rfl ?_
 refine kj (hS.pick [3, 4, 5, 6, 7, 8] (by decide) rfl) rfl rfl (fun w hF => km rfl) rfl ?_
 refine kj (hS.pick [3, 4, 5, 6, 7, 8] (by decide) rfl) rfl rfl (fun w hF => km rfl) rfl ?_
 refine kj (hS.pick [3, 4, 5, 6, 7, 8] (by decide) rfl) rfl rfl (fun w hF => km rfl) rfl ?_
 obtain ⟨x_26, hx_26, h⟩ := kg h
 refine kP (hS.pick [3, 4, 5, 6, 7, 8] (by decide) rfl) rfl rfl (by kernel_rfl) rfl (c_curve_group_mul _ a0_0_0 a0_0_1 a0_1_0 a0_1_1 a0_2_0 a0_2_1 a0_3_0 a0_3_1 a0_4_0 a0_4_1 a0_5 x_9.1 x_9.2 x_12.1 x_12.2 va0_0_1 va0_1_1 va0_2_1 va0_3_1 va0_4_1 v_10 v_13 ba0 ba0_0 ba0_1 ba0_2 ba0_3 ba0_4 b_6 b_15 (ha0_0_1.now hS.fr).rp (hBa0_0.now hS.fr) (ha0_1_1.now hS.fr).rp (hBa0_1.now hS.fr) (ha0_2_1.now hS.fr).rp (hBa0_2.now hS.fr) (ha0_3_1.now hS.fr).rp (hBa0_3.now hS.fr) (ha0_4_1.now hS.fr).rp (hBa0_4.now hS.fr) (hBa0.now hS.fr) (hS.ro 6 rfl).rp (hS.rb 5 rfl) (hS.ro 4 rfl).rp (hS.rb 3 rfl) _ hx_26) rfl ?_
 rintro _ w ⟨v_27, b_29, rfl, hS1⟩
 have hS := hS.call hS1
 obtain ⟨x_31, hx_31, h⟩ := kg h
 refine kP (hS.pick [5, 6, 7, 8, 9, 10] (by decide) rfl) rfl rfl (by kernel_rfl) rfl (c_curve_group_mul _ a0_0_0 a0_0_1 a0_1_0 a0_1_1 a0_2_0 a0_2_1 a0_3_0 a0_3_1 a0_4_0 a0_4_1 a0_5 a1_1_0 a1_1_1 x_26.1 x_26.2 va0_0_1 va0_1_1 va0_2_1 va0_3_1 va0_4_1 va1_1_1 v_27 ba0 ba0_0 ba0_1 ba0_2 ba0_3 ba0_4 ba1_1 b_29 (ha0_0_1.now hS.fr).rp (hBa0_0.now hS.fr) (ha0_1_1.now hS.fr).rp (hBa0_1.now hS.fr) (ha0_2_1.now hS.fr).rp (hBa0_2.now hS.fr) (ha0_3_1.now hS.fr).rp (hBa0_3.now hS.fr) (ha0_4_1.now hS.fr).rp (hBa0_4.now hS.fr) (hBa0.now hS.fr) (ha1_1_1.now hS.fr).rp (hBa1_1.now hS.fr) (hS.ro 1 rfl).rp (hS.rb 0 rfl) _ hx_31) rfl ?_
 rintro _ w ⟨v_32, b_34, rfl, hS1⟩
 have hS := hS.call hS1
 obtain ⟨x_36, hx_36, h⟩ := kg h
 refine kP (hS.pick [7, 8, 9, 10, 11, 12] (by decide) rfl) rfl rfl (by kernel_rfl) rfl (c_curve_out _ x_31.1 x_31.2 v_32 b_34 (hS.ro 1 rfl).rp (hS.rb 0 rfl) _ hx_36) rfl ?_
 rintro v_37 w hS1
 have hS := hS.call hS1
 have h1_39 := (hS.ro 0 rfl).one
 refine kj (hS.pick [8, 9, 10, 11, 12, 13] (by decide) rfl) rfl rfl (fun w hF => OpV_build (vs := [(0, v_23, [v_23]), (1, v_37, [v_37])]) (cells := [v_23, v_37, vB false]) rfl lay27 ⟨(cells_one h1_25), (cells_one h1_39), trivial⟩ rfl) rfl ?_
 refine ka1 (hS.pick [8, 9, 10, 11, 12, 13] (by decide) rfl) rfl rfl (kM (i := 12) (us := [v_23, v_37, vB false]) rfl sz27 rfl rfl rfl ⟨(hS.ro 5 rfl).one, (hS.ro 0 rfl).one, rfl, trivial⟩ rfl hS) ?_
 intro w hS
 refine kY trivial ?_
 refine ka (kq ?_)
 cases h
 exact QE_rv1 rfl ⟨_, rfl, run_ldAgg (us := [v_23, v_37, vB false]) Tryz.underlying27 rfl sz27 (hS.bxs 12 rfl rfl)⟩ ⟨v_23, v_37, rfl, hS.pick [5, 0] (by decide) rfl⟩
theorem c_curve_group_double (w0 : World) (a0_0_0 : Bool) (a0_0_1 : List UInt32) (a0_1_0 : Bool) (a0_1_1 : List UInt32) (a0_2_0 : Bool) (a0_2_1 : List UInt32) (a0_3_0 : Bool) (a0_3_1 : List UInt32) (a0_4_0 : Bool) (a0_4_1 : List UInt32) (a0_5 : Int) (a1_0_0 : Bool) (a1_0_1 : List UInt32) (a1_1_0 : Bool) (a1_1_1 : List UInt32) (a1_2_0 : Bool) (a1_2_1 : List UInt32) (va0_0_1 : Value) (va0_1_1 : Value) (va0_2_1 : Value) (va0_3_1 : Value) (va0_4_1 : Value) (va1_0_1 : Value) (va1_1_1 : Value) (va1_2_1 : Value) (ba0 : Nat) (ba0_0 : Nat) (ba0_1 : Nat) (ba0_2 : Nat) (ba0_3 : Nat) (ba0_4 : Nat) (ba1_0 : Nat) (ba1_1 : Nat) (ba1_2 : Nat) (T : List Nat) (hTT : TOk [] T w0) (ha0_0_1 : RP T w0 e32 va0_0_1 a0_0_1) (hBa0_0 : RB T w0 ba0_0 [vB a0_0_0, va0_0_1]) (ha0_1_1 : RP T w0 e32 va0_1_1 a0_1_1) (hBa0_1 : RB T w0 ba0_1 [vB a0_1_0, va0_1_1]) (ha0_2_1 : RP T w0 e32 va0_2_1 a0_2_1) (hBa0_2 : RB T w0 ba0_2 [vB a0_2_0, va0_2_1]) (ha0_3_1 : RP T w0 e32 va0_3_1 a0_3_1) (hBa0_3 : RB T w0 ba0_3 [vB a0_3_0, va0_3_1]) (ha0_4_1 : RP T w0 e32 va0_4_1 a0_4_1) (hBa0_4 : RB T w0 ba0_4 [vB a0_4_0, va0_4_1]) (hBa0 : RB T w0 ba0 [pB ba0_0 0, pB ba0_1 0, pB ba0_2 0, pB ba0_3 0, pB ba0_4 0, vI a0_5, .func (.func 101) #[] #[]]) (ha1_0_1 : RP T w0 e32 va1_0_1 a1_0_1) (hBa1_0 : RB T w0 ba1_0 [vB a1_0_0, va1_0_1]) (ha1_1_1 : RP T w0 e32 va1_1_1 a1_1_1) (hBa1_1 : RB T w0 ba1_1 [vB a1_1_0, va1_1_1]) (ha1_2_1 : RP T w0 e32 va1_2_1 a1_2_1) (hBa1_2 : RB T w0 ba1_2 [vB a1_2_0, va1_2_1]) (r : Bool × List UInt32 × Bool × List UInt32 × Bool × List UInt32)
  (h : F.curve_group_double a0_0_0 a0_0_1 a0_1_0 a0_1_1 a0_2_0 a0_2_1 a0_3_0 a0_3_1 a0_4_0 a0_4_1 a0_5 a1_0_0 a1_0_1 a1_1_0 a1_1_1 a1_2_0 a1_2_1 = some r) : Calls Tryz.prog 85 #[pB ba0 0, .agg #[pB ba1_0 0, pB ba1_1 0, pB ba1_2 0]] w0 (Ret fun v w => ∃ b0_0 : Nat, ∃ u0_0_1 : Value, ∃ b0_1 : Nat, ∃ u0_1_1 : Value, ∃ b0_2 : Nat, ∃ u0_2_1 : Value, v = .agg #[pB b0_0 0, pB b0_1 0, pB b0_2 0] ∧ St [] w0 w [] ∧ Rds T w [OE.bx b0_2 [vB r.2.2.2.2.1, u0_2_1], red e32 u0_2_1 r.2.2.2.2.2, OE.bx b0_1 [vB r.2.2.1, u0_1_1], red e32 u0_1_1 r.2.2.2.1, OE.bx b0_0 [vB r.1, u0_0_1], red e32 u0_0_1 r.2.1]) := by
 refine kz 86 Tryz.func85 rfl rfl rfl ?_
 have hS := St.start w0
 have hZ := Fz.start (S := []) (w0 := w0)
 have hA0 : Rds T w0 [OE.bx ba1_2 [vB a1_2_0, va1_2_1], red e32 va1_2_1 a1_2_1, OE.bx ba1_1 [vB a1_1_0, va1_1_1], red e32 va1_1_1 a1_1_1, OE.bx ba1_0 [vB a1_0_0, va1_0_1], red e32 va1_0_1 a1_0_1, OE.bx ba0 [pB ba0_0 0, pB ba0_1 0, pB ba0_2 0, pB ba0_3 0, pB ba0_4 0, vI a0_5, .func (.func 101) #[] #[]], OE.bx ba0_4 [vB a0_4_0, va0_4_1], red e32 va0_4_1 a0_4_1, OE.bx ba0_3 [vB a0_3_0, va0_3_1], red e32 va0_3_1 a0_3_1, OE.bx ba0_2 [vB a0_2_0, va0_2_1], red e32 va0_2_1 a0_2_1, OE.bx ba0_1 [vB a0_1_0, va0_1_1], red e32 va0_1_1 a0_1_1, OE.bx ba0_0 [vB a0_0_0, va0_0_1], red e32 va0_0_1 a0_0_1] := Rds.cons hBa1_2.kept (Rds.cons (RP.kept (Nat.le_of_ble_eq_true rfl) ha1_2_1) (Rds.cons hBa1_1.kept (Rds.cons (RP.kept (Nat.le_of_ble_eq_true rfl) ha1_1_1) (Rds.cons hBa1_0.kept (Rds.cons (RP.kept (Nat.le_of_ble_eq_true rfl) ha1_0_1) (Rds.cons hBa0.kept (Rds.cons hBa0_4.kept (Rds.cons (RP.kept (Nat.le_of_ble_eq_true rfl) ha0_4_1) (Rds.cons hBa0_3.kept (Rds.cons (RP.kept (Nat.le_of_ble_eq_true rfl) ha0_3_1) (Rds.cons hBa0_2.kept (Rds.cons (RP.kept (Nat.le_of_ble_eq_true rfl) ha0_2_1) (Rds.cons hBa0_1.kept (Rds.cons (RP.kept (Nat.le_of_ble_eq_true rfl) ha0_1_1) (Rds.cons hBa0_0.kept (Rds.cons (RP.kept (Nat.le_of_ble_eq_true rfl) ha0_0_1) (Rds.nil)))))))))))))))))
 have hA := hA0.all
 have hP := hA0.off rfl
 refine kn [(0, pB ba0 0), (1, .agg #[pB ba1_0 0, pB ba1_1 0, pB ba1_2 0])] ⟨rfl, rfl, trivial⟩ ?_
 unfold F.curve_group_double at h
 refine ke (kc (kW (OpX_box (cs := [pB ba1_0 0, pB ba1_1 0, pB ba1_2 0]) rfl rfl hS) rfl ?_))
 rintro _ w ⟨b_1, rfl, hS⟩
 refine kW (kE (cs := [.pointer none, .pointer none, .pointer none]) tz66 rfl hS) rfl ?_
 rintro _ w ⟨b_3, rfl, hS⟩
 refine kf (ka (ke (ke (kc (ki (kl (k := 2) Tryz.underlying66 rfl rfl nz56 rfl) rfl (ki (ku Tryz.underlying56 rfl rfl (hS.bxc 1 rfl 2)) rfl ?_))))))
 obtain ⟨x_5, hx_5, h⟩ := kg h
 refine kk (by kernel_rfl) rfl (c_bignum_Int_Sign _ a1_2_0 a1_2_1 va1_2_1 ba1_2 ((hA.rp 15 rfl).now hS.fr).rp ((hA.rb 16 rfl).now hS.fr) _ hx_5) rfl ?_
 rintro _ w ⟨rfl, hS1⟩
 have hS := hS.call hS1
 refine kb 1 rfl ?_
 refine kf (ka ?_)
 refine ko rfl (fun hb_102 => ?_) (fun hb_102 => ?_)
 ·have h := if_t h hb_102
  refine ke (kc (ki (kH (us := [pB ba1_0 0, pB ba1_1 0, pB ba1_2 0]) Tryz.underlying66 rfl sz66 rfl (hS.bxs 1 rfl rfl)) rfl (kX (kM (i := 0) (us := [pB ba1_0 0, pB ba1_1 0, pB ba1_2 0]) rfl sz66 rfl rfl rfl ⟨rfl, rfl, rfl, trivial⟩ rfl hS) ?_)))
  intro w hS
  refine kf (ka (kq (kv ?_)))
  cases h
  obtain ⟨hS0, hR⟩ := hZ.outT hTT hA hP hS
  exact QE_rv1 rfl ⟨_, rfl, run_ldAgg (us := [pB ba1_0 0, pB ba1_1 0, pB ba1_2 0]) Tryz.underlying66 rfl sz66 (hS.bxs 0 rfl rfl)⟩ ⟨ba1_0, va1_0_1, ba1_1, va1_1_1, ba1_2, va1_2_1, rfl, hS0, (Rds.cons (hR.nth 16 rfl) (Rds.cons (hR.nth 15 rfl) (Rds.cons (hR.nth 14 rfl) (Rds.cons (hR.nth 13 rfl) (Rds.cons (hR.nth 12 rfl) (Rds.cons (hR.nth 11 rfl) Rds.nil))))))⟩
 have h := if_f h hb_102
 refine kr (ka (ke (kc (kb 1 rfl ?_))))
 refine ki (kl (k := 2) Tryz.underlying66 rfl rfl nz56 rfl) rfl (ki (ku Tryz.underlying56 rfl rfl (hS.bxc 1 rfl 2)) rfl (ki (kl (k := 2) Tryz.underlying66 rfl rfl nz56 rfl) rfl (ki (ku Tryz.underlying56 rfl rfl (hS.bxc 1 rfl 2)) rfl ?_)))
 obtain ⟨x_6, hx_6, h⟩ := kg h
 refine kk (by kernel_rfl) rfl (c_curve_group_mul _ a0_0_0 a0_0_1 a0_1_0 a0_1_1 a0_2_0 a0_2_1 a0_3_0 a0_3_1 a0_4_0 a0_4_1 a0_5 a1_2_0 a1_2_1 a1_2_0 a1_2_1 va0_0_1 va0_1_1 va0_2_1 va0_3_1 va0_4_1 va1_2_1 va1_2_1 ba0 ba0_0 ba0_1 ba0_2 ba0_3 ba0_4 ba1_2 ba1_2 ((hA.rp 0 rfl).now hS.fr).rp ((hA.rb 1 rfl).now hS.fr) ((hA.rp 2 rfl).now hS.fr).rp ((hA.rb 3 rfl).now hS.fr) ((hA.rp 4 rfl).now hS.fr).rp ((hA.rb 5 rfl).now hS.fr) ((hA.rp 6 rfl).now hS.fr).rp ((hA.rb 7 rfl).now hS.fr) ((hA.rp 8 rfl).now hS.fr).rp ((hA.rb 9 rfl).now hS.fr) ((hA.rb 10 rfl).now hS.fr) ((hA.rp 15 rfl).now hS.fr).rp ((hA.rb 16 rfl).now hS.fr) ((hA.rp 15 rfl).now hS.fr).rp ((hA.rb 16 rfl).now hS.fr) _ hx_6) rfl ?_
 rintro _ w ⟨v_7, b_9, rfl, hS1⟩
 have hS := hS.call hS1
 refine kb 1 rfl ?_
 refine kf (ka (ke (kc (kb 1 rfl ?_))))
 refine ki (kl (k := 1) Tryz.underlying66 rfl rfl nz56 rfl) rfl (ki (ku Tryz.underlying56 rfl rfl (hS.bxc 3 rfl 1)) rfl (ki (kl (k := 1) Tryz.underlying66 rfl rfl nz56 rfl) rfl (ki (ku Tryz.underlying56 rfl rfl (hS.bxc 3 rfl 1)) rfl ?_)))
 obtain ⟨x_11, hx_11, h⟩ := kg h
 refine kk (by kernel_rfl) rfl (c_curve_group_mul _ a0_0_0 a0_0_1 a0_1_0 a0_1_1 a0_2_0 a0_2_1 a0_3_0 a0_3_1 a0_4_0 a0_4_1 a0_5 a1_1_0 a1_1_1 a1_1_0 a1_1_1 va0_0_1 va0_1_1 va0_2_1 va0_3_1 va0_4_1 va1_1_1 va1_1_1 ba0 ba0_0 ba0_1 ba0_2 ba0_3 ba0_4 ba1_1 ba1_1 ((hA.rp 0 rfl).now hS.fr).rp ((hA.rb 1 rfl).now hS.fr) ((hA.rp 2 rfl).now hS.fr).rp ((hA.rb 3 rfl).now hS.fr) ((hA.rp 4 rfl).now hS.fr).rp ((hA.rb 5 rfl).now hS.fr) ((hA.rp 6 rfl).now hS.fr).rp ((hA.rb 7 rfl).now hS.fr) ((hA.rp 8 rfl).now hS.fr).rp ((hA.rb 9 rfl).now hS.fr) ((hA.rb 10 rfl).now hS.fr) ((hA.rp 13 rfl).now hS.fr).rp ((hA.rb 14 rfl).now hS.fr) ((hA.rp 13 rfl).now hS.fr).rp ((hA.rb 14 rfl).now hS.fr) _ hx_11) rfl ?_
 rintro _ w ⟨v_12, b_14, rfl, hS1⟩
 have hS := hS.call hS1
 refine kb 1 rfl ?_
 refine kf (ka (ke (kc (kb 2 rfl ?_))))
 refine ki (kl (k := 0) Tryz.underlying66 rfl rfl nz56 rfl) rfl (ki (ku Tryz.underlying56 rfl rfl (hS.bxc 5 rfl 0)) rfl (kb 1 rfl ?_))
 obtain ⟨x_16, hx_16, h⟩ := kg h
 refine kk (by kernel_rfl) rfl (c_curve_group_mul _ a0_0_0 a0_0_1 a0_1_0 a0_1_1 a0_2_0 a0_2_1 a0_3_0 a0_3_1 a0_4_0 a0_4_1 a0_5 a1_0_0 a1_0_1 x_11.1 x_11.2 va0_0_1 va0_1_1 va0_2_1 va0_3_1 va0_4_1 va1_0_1 v_12 ba0 ba0_0 ba0_1 ba0_2 ba0_3 ba0_4 ba1_0 b_14 ((hA.rp 0 rfl).now hS.fr).rp ((hA.rb 1 rfl).now hS.fr) ((hA.rp 2 rfl).now hS.fr).rp ((hA.rb 3 rfl).now hS.fr) ((hA.rp 4 rfl).now hS.fr).rp ((hA.rb 5 rfl).now hS.fr) ((hA.rp 6 rfl).now hS.fr).rp ((hA.rb 7 rfl).now hS.fr) ((hA.rp 8 rfl).now hS.fr).rp ((hA.rb 9 rfl).now hS.fr) ((hA.rb 10 rfl).now hS.fr) ((hA.rp 11 rfl).now hS.fr).rp ((hA.rb 12 rfl).now hS.fr) (hS.ro 1 rfl).rp (hS.rb 0 rfl) _ hx_16) rfl ?_
 rintro _ w ⟨v_17, b_19, rfl, hS1⟩
 have hS := hS.call hS1
 obtain ⟨x_21, hx_21, h⟩ := kg h
 refine kk (by kernel_rfl) rfl (c_curve_group_times _ a0_0_0 a0_0_1 a0_1_0 a0_1_1 a0_2_0 a0_2_1 a0_3_0 a0_3_1 a0_4_0 a0_4_1 a0_5 4 x_16.1 x_16.2 va0_0_1 va0_1_1 va0_2_1 va0_3_1 va0_4_1 v_17 ba0 ba0_0 ba0_1 ba0_2 ba0_3 ba0_4 b_19 ((hA.rp 0 rfl).now hS.fr).rp ((hA.rb 1 rfl).now hS.fr) ((hA.rp 2 rfl).now hS.fr).rp ((hA.rb 3 rfl).now hS.fr) ((hA.rp 4 rfl).now hS.fr).rp ((hA.rb 5 rfl).now hS.fr) ((hA.rp 6 rfl).now hS.fr).rp ((hA.rb 7 rfl).now hS.fr) ((hA.rp 8 rfl).now hS.fr).rp ((hA.rb 9 rfl).now hS.fr) ((hA.rb 10 rfl).now hS.fr) (hS.ro 1 rfl).rp (hS.rb 0 rfl) _ hx_21) rfl ?_
 rintro _ w ⟨v_22, b_24, rfl, hS1⟩
 have hS := hS.call hS1
 refine kb 1 rfl ?_
 refine kf (ka (ke ?_))
 obtain ⟨x_26, hx_26, h⟩ := kg h
 obtain ⟨x_34, hx_34, h⟩ := kg h
 obtain ⟨x_37, hx_37, h⟩ := kg h
 obtain ⟨x_40, hx_40, h⟩ := kg h
 obtain ⟨x_45, hx_45, h⟩ := kg h
 refine wpC_regionM (es := [OE.bx ba1_2 [vB a1_2_0, va1_2_1], red e32 va1_2_1 a1_2_1, OE.bx ba1_1 [vB a1_1_0, va1_1_1], red e32 va1_1_1 a1_1_1, OE.bx ba1_0 [vB a1_0_0, va1_0_1], red e32 va1_0_1 a1_0_1, OE.bx ba0 [pB ba0_0 0, pB ba0_1 0, pB ba0_2 0, pB ba0_3 0, pB ba0_4 0, vI a0_5, .func (.func 101) #[] #[]], OE.bx ba0_4 [vB a0_4_0, va0_4_1], red e32 va0_4_1 a0_4_1, OE.bx ba0_3 [vB a0_3_0, va0_3_1], red e32 va0_3_1 a0_3_1, OE.bx ba0_2 [vB a0_2_0, va0_2_1], red e32 va0_2_1 a0_2_1, OE.bx ba0_1 [vB a0_1_0, va0_1_1], red e32 va0_1_1 a0_1_1, OE.bx ba0_0 [vB a0_0_0, va0_0_1], red e32 va0_0_1 a0_0_1]) (os := [OE.bx b_24 [vB x_21.1, v_22], own e32 v_22 x_21.2, OE.bx b_19 [vB x_16.1, v_17], own e32 v_17 x_16.2, OE.bx b_14 [vB x_11.1, v_12], own e32 v_12 x_11.2, OE.bx b_9 [vB x_6.1, v_7], own e32 v_7 x_6.2, OE.bx b_3 [.pointer none, .pointer none, .pointer none], OE.bx b_1 [pB ba1_0 0, pB ba1_1 0, pB ba1_2 0]]) (fun i => [6, 8, 12, 13, 14, 15].contains i) (fun i => if i = 6 then some 14 else if i = 8 then some 12 else if i = 12 then some 13 else if i = 13 then some 14 else if i = 14 then some 15 else none) (fun i => []) (fun i => []) (fun i => []) (fun i => if i = 12 then [8] else if i = 13 then [8] else []) (fun i => if i = 6 then (fun h v x y => ∃ b_29 : Nat, ∃ v_27 : Value, v = pB b_29 0 ∧ x = [OE.bx b_29 [vB x_26.1, v_27], own e32 v_27 x_26.2] ∧ y = []) else if i = 8 then (fun h v x y => ∃ b_31 : Nat, v = pB b_31 0 ∧ x = [OE.bx b_31 [vB false, .slice none 0 0]] ∧ y = []) else if i = 12 then (fun h v x y => ∃ v_35 : Value, ∃ b_31 : Nat, h = [(pB b_31 0, [OE.bx b_31 [vB false, .slice none 0 0]], [])] ∧ v = pB b_31 0 ∧ x = [OE.bx b_31 [vB x_34.1, v_35], own e32 v_35 x_34.2] ∧ y = []) else if i = 13 then (fun h v x y => ∃ v_38 : Value, ∃ b_31 : Nat, h = [(pB b_31 0, [OE.bx b_31 [vB false, .slice none 0 0]], [])] ∧ v = pB b_31 0 ∧ x = [OE.bx b_31 [vB x_37.1, v_38], own e32 v_38 x_37.2] ∧ y = []) else if i = 14 then (fun h v x y => ∃ b_43 : Nat, ∃ v_41 : Value, v = pB b_43 0 ∧ x = [OE.bx b_43 [vB x_40.1, v_41], own e32 v_41 x_40.2] ∧ y = []) else (fun h v x y => ∃ b_48 : Nat, ∃ v_46 : Value, v = pB b_48 0 ∧ x = [OE.bx b_48 [vB x_45.1, v_46], own e32 v_46 x_45.2] ∧ y = [])) (SfT.mk' hZ hA hP hS) (fun k hk => rfl) hTT rfl (fun i => (ite_ns (by rintro h v x y ⟨_, _, rfl, rfl, rfl⟩; exact ns_all rfl) (ite_ns (by rintro h v x y ⟨_, rfl, rfl, rfl⟩; exact ns_all rfl) (ite_ns (by rintro h v x y ⟨_, _, _, rfl, rfl, rfl⟩; exact ns_all rfl) (ite_ns (by rintro h v x y ⟨_, _, _, rfl, rfl, rfl⟩; exact ns_all rfl) (ite_ns (by rintro h v x y ⟨_, _, rfl, rfl, rfl⟩; exact ns_all rfl) (by rintro h v x y ⟨_, _, rfl, rfl, rfl⟩; exact ns_all rfl))))))) hmix (by kernel_rfl) (by kernel_rfl) ?_
 show lxME _ _ _ _ _ _ _ _ _ _ _ _ _ _ _ _ [0, 1, 2, 3, 4, 5, 6, 7, 8, 9, 10, 11, 12, 13, 14, 15, 16] _ _
 refine lxME_v rfl rfl (fun w Sb wb hZ hA hP hF => km rfl) rfl (lxME_v rfl rfl (fun w Sb wb hZ hA hP hF => km rfl) rfl (lxME_v rfl rfl (fun w Sb wb hZ hA hP hF => km rfl) rfl (lxME_v rfl rfl (fun w Sb wb hZ hA hP hF => kl (k := 0) Tryz.underlying66 rfl rfl nz56 rfl) rfl (lxME_v rfl rfl (fun w Sb wb hZ hA hP hF => ku Tryz.underlying56 rfl rfl (hF.bxc 9 rfl 0)) rfl (lxME_v rfl rfl (fun w Sb wb hZ hA hP hF => km rfl) rfl ?_)))))
 refine lxME_call (fun h v x y => ∃ b_29 : Nat, ∃ v_27 : Value, v = pB b_29 0 ∧ x = [OE.bx b_29 [vB x_26.1, v_27], own e32 v_27 x_26.2] ∧ y = []) [] [] [] _ rfl rfl (fun h v x y => rfl) rfl rfl rfl rfl ⟨_, _, _, 0, undef, rfl, rfl, rfl⟩ (by kernel_rfl) rfl (fun w Sl Tl hZ hTT hA hP hS => ?_) rfl ?_
 ·refine calls_ret (c_curve_group_sub _ a0_0_0 a0_0_1 a0_1_0 a0_1_1 a0_2_0 a0_2_1 a0_3_0 a0_3_1 a0_4_0 a0_4_1 a0_5 a1_0_0 a1_0_1 x_6.1 x_6.2 va0_0_1 va0_1_1 va0_2_1 va0_3_1 va0_4_1 va1_0_1 v_7 ba0 ba0_0 ba0_1 ba0_2 ba0_3 ba0_4 ba1_0 b_9 ((hA.rp 0 rfl).now hS.fr).rp ((hA.rb 1 rfl).now hS.fr) ((hA.rp 2 rfl).now hS.fr).rp ((hA.rb 3 rfl).now hS.fr) ((hA.rp 4 rfl).now hS.fr).rp ((hA.rb 5 rfl).now hS.fr) ((hA.rp 6 rfl).now hS.fr).rp ((hA.rb 7 rfl).now hS.fr) ((hA.rp 8 rfl).now hS.fr).rp ((hA.rb 9 rfl).now hS.fr) ((hA.rb 10 rfl).now hS.fr) ((hA.rp 11 rfl).now hS.fr).rp ((hA.rb 12 rfl).now hS.fr) (hS.ro 7 rfl).rp (hS.rb 6 rfl) _ hx_26) ?_
  rintro _ w ⟨v_27, b_29, rfl, hS1⟩
  have hS := hS.call hS1
  exact ⟨_, _, ⟨b_29, v_27, rfl, rfl, rfl⟩, SfT.mk' hZ Rds.nil Off.nil hS⟩
 rintro v_q x_q y_q ⟨b_29, v_27, rfl, rfl, rfl⟩
 refine lxME_v rfl rfl (fun w Sb wb hZ hA hP hF => km rfl) rfl ?_
 refine lxME_new (fun h v x y => ∃ b_31 : Nat, v = pB b_31 0 ∧ x = [OE.bx b_31 [vB false, .slice none 0 0]] ∧ y = []) [] [] [] _ rfl rfl (fun h v x y => rfl) rfl rfl rfl rfl ⟨_, _, _, 0, rfl, rfl, rfl⟩ (fun w Sl Tl hZ hTT hA hP hS => ?_) rfl ?_
 ·refine opx_imp (kE (cs := [vB false, .slice none 0 0]) tz62 rfl hS) ?_
  rintro _ w ⟨b_31, rfl, hS⟩
  exact ⟨_, _, ⟨b_31, rfl, rfl, rfl⟩, SfT.mk' hZ Rds.nil Off.nil hS⟩
 rintro v_q x_q y_q ⟨b_31, rfl, rfl, rfl⟩
 refine lxME_v rfl rfl (fun w Sb wb hZ hA hP hF => kl (k := 0) Tryz.underlying66 rfl rfl nz56 rfl) rfl (lxME_v rfl rfl (fun w Sb wb hZ hA hP hF => ku Tryz.underlying56 rfl rfl (hF.bxc 9 rfl 0)) rfl (lxME_v rfl rfl (fun w Sb wb hZ hA hP hF => km rfl) rfl ?_))
 refine lxME_call (fun h v x y => ∃ v_35 : Value, ∃ b_31 : Nat, h = [(pB b_31 0, [OE.bx b_31 [vB false, .slice none 0 0]], [])] ∧ v = pB b_31 0 ∧ x = [OE.bx b_31 [vB x_34.1, v_35], own e32 v_35 x_34.2] ∧ y = []) [(pB b_31 0, [OE.bx b_31 [vB false, .slice none 0 0]], [])] [OE.bx b_31 [vB false, .slice none 0 0]] [] _ rfl rfl (fun h v x y => rfl) rfl rfl rfl rfl ⟨_, _, _, undef, b_31, rfl, rfl, rfl, rfl⟩ (by kernel_rfl) rfl (fun w Sl Tl hZ hTT hA hP hS => ?_) rfl ?_
 ·replace hS := hS.nil e32
  have hG := hS.pick (os' := [OE.bx b_31 [vB false, .slice none 0 0], own e32 (.slice none 0 0) []] ++ [OE.bx b_24 [vB x_21.1, v_22], own e32 v_22 x_21.2, OE.bx b_19 [vB x_16.1, v_17], own e32 v_17 x_16.2, OE.bx b_14 [vB x_11.1, v_12], own e32 v_12 x_11.2, OE.bx b_9 [vB x_6.1, v_7], own e32 v_7 x_6.2, OE.bx b_3 [.pointer none, .pointer none, .pointer none], OE.bx b_1 [pB ba1_0 0, pB ba1_1 0, pB ba1_2 0]]) [1, 0, 2, 3, 4, 5, 6, 7, 8, 9, 10, 11] (by decide) rfl
  refine calls_ret (c_bignum_Int_Add _ false [] a1_0_0 a1_0_1 x_6.1 x_6.2 (.slice none 0 0) va1_0_1 v_7 b_31 ba1_0 b_9 _ hG.give ((hA.rp 11 rfl).give (Nat.le_of_ble_eq_true rfl) hG) ((hA.rb 12 rfl).give hG) (hG.giveO 7 rfl) (hG.giveB 6 rfl) _ hx_34) ?_
  rintro _ w ⟨v_35, rfl, hS1⟩
  have hS := hG.back hS1
  exact ⟨_, _, ⟨v_35, b_31, rfl, rfl, rfl, rfl⟩, SfT.mk' hZ Rds.nil Off.nil hS⟩
 rintro v_q x_q y_q ⟨v_35, b_31', hh, rfl, rfl, rfl⟩
 replace hh : ([(pB b_31 0, [OE.bx b_31 [vB false, .slice none 0 0]], [])] : List Th) = [(pB b_31' 0, [OE.bx b_31' [vB false, .slice none 0 0]], [])] := hh
 cases hh
 refine lxME_call (fun h v x y => ∃ v_38 : Value, ∃ b_31 : Nat, h = [(pB b_31 0, [OE.bx b_31 [vB false, .slice none 0 0]], [])] ∧ v = pB b_31 0 ∧ x = [OE.bx b_31 [vB x_37.1, v_38], own e32 v_38 x_37.2] ∧ y = []) [(pB b_31 0, [OE.bx b_31 [vB false, .slice none 0 0]], [])] [OE.bx b_31 [vB x_34.1, v_35], own e32 v_35 x_34.2] [] _ rfl rfl (fun h v x y => rfl) rfl rfl rfl rfl ⟨_, _, _, undef, b_31, rfl, rfl, rfl, rfl⟩ (by kernel_rfl) rfl (fun w Sl Tl hZ hTT hA hP hS => ?_) rfl ?_
 ·have hG := hS.pick (os' := [OE.bx b_31 [vB x_34.1, v_35], own e32 v_35 x_34.2] ++ [OE.bx b_24 [vB x_21.1, v_22], own e32 v_22 x_21.2, OE.bx b_19 [vB x_16.1, v_17], own e32 v_17 x_16.2, OE.bx b_14 [vB x_11.1, v_12], own e32 v_12 x_11.2, OE.bx b_9 [vB x_6.1, v_7], own e32 v_7 x_6.2, OE.bx b_3 [.pointer none, .pointer none, .pointer none], OE.bx b_1 [pB ba1_0 0, pB ba1_1 0, pB ba1_2 0]]) [0, 1, 2, 3, 4, 5, 6, 7, 8, 9, 10, 11] (by decide) rfl
  refine calls_ret (c_curve_group_mod _ a0_0_0 a0_0_1 a0_1_0 a0_1_1 a0_2_0 a0_2_1 a0_3_0 a0_3_1 a0_4_0 a0_4_1 a0_5 x_34.1 x_34.2 va0_0_1 va0_1_1 va0_2_1 va0_3_1 va0_4_1 v_35 ba0 ba0_0 ba0_1 ba0_2 ba0_3 ba0_4 b_31 _ hG.give ((hA.rp 0 rfl).give (Nat.le_of_ble_eq_true rfl) hG) ((hA.rb 1 rfl).give hG) ((hA.rp 2 rfl).give (Nat.le_of_ble_eq_true rfl) hG) ((hA.rb 3 rfl).give hG) ((hA.rp 4 rfl).give (Nat.le_of_ble_eq_true rfl) hG) ((hA.rb 5 rfl).give hG) ((hA.rp 6 rfl).give (Nat.le_of_ble_eq_true rfl) hG) ((hA.rb 7 rfl).give hG) ((hA.rp 8 rfl).give (Nat.le_of_ble_eq_true rfl) hG) ((hA.rb 9 rfl).give hG) ((hA.rb 10 rfl).give hG) _ hx_37) ?_
  rintro _ w ⟨v_38, rfl, hS1⟩
  have hS := hG.back hS1
  exact ⟨_, _, ⟨v_38, b_31, rfl, rfl, rfl, rfl⟩, SfT.mk' hZ Rds.nil Off.nil hS⟩
 rintro v_q x_q y_q ⟨v_38, b_31', hh, rfl, rfl, rfl⟩
 replace hh : ([(pB b_31 0, [OE.bx b_31 [vB false, .slice none 0 0]], [])] : List Th) = [(pB b_31' 0, [OE.bx b_31' [vB false, .slice none 0 0]], [])] := hh
 cases hh
 refine lxME_call (fun h v x y => ∃ b_43 : Nat, ∃ v_41 : Value, v = pB b_43 0 ∧ x = [OE.bx b_43 [vB x_40.1, v_41], own e32 v_41 x_40.2] ∧ y = []) [] [OE.bx b_29 [vB x_26.1, v_27], own e32 v_27 x_26.2, OE.bx b_31 [vB x_37.1, v_38], own e32 v_38 x_37.2] [] _ rfl rfl (fun h v x y => rfl) rfl rfl rfl rfl ⟨_, _, _, 0, undef, rfl, rfl, rfl⟩ (by kernel_rfl) rfl (fun w Sl Tl hZ hTT hA hP hS => ?_) rfl ?_
 ·refine calls_ret (c_curve_group_mul _ a0_0_0 a0_0_1 a0_1_0 a0_1_1 a0_2_0 a0_2_1 a0_3_0 a0_3_1 a0_4_0 a0_4_1 a0_5 x_26.1 x_26.2 x_37.1 x_37.2 va0_0_1 va0_1_1 va0_2_1 va0_3_1 va0_4_1 v_27 v_38 ba0 ba0_0 ba0_1 ba0_2 ba0_3 ba0_4 b_29 b_31 ((hA.rp 0 rfl).now hS.fr).rp ((hA.rb 1 rfl).now hS.fr) ((hA.rp 2 rfl).now hS.fr).rp ((hA.rb 3 rfl).now hS.fr) ((hA.rp 4 rfl).now hS.fr).rp ((hA.rb 5 rfl).now hS.fr) ((hA.rp 6 rfl).now hS.fr).rp ((hA.rb 7 rfl).now hS.fr) ((hA.rp 8 rfl).now hS.fr).rp ((hA.rb 9 rfl).now hS.fr) ((hA.rb 10 rfl).now hS.fr) (hS.ro 1 rfl).rp (hS.rb 0 rfl) (hS.ro 3 rfl).rp (hS.rb 2 rfl) _ hx_40) ?_
  rintro _ w ⟨v_41, b_43, rfl, hS1⟩
  have hS := hS.call hS1
  exact ⟨_, _, ⟨b_43, v_41, rfl, rfl, rfl⟩, SfT.mk' hZ Rds.nil Off.nil (hS.pick [0, 1, 6, 7, 8, 9, 10, 11, 12, 13, 14, 15] (by decide) rfl)⟩
 rintro v_q x_q y_q ⟨b_43, v_41, rfl, rfl, rfl⟩
 refine lxME_call (fun h v x y => ∃ b_48 : Nat, ∃ v_46 : Value, v = pB b_48 0 ∧ x = [OE.bx b_48 [vB x_45.1, v_46], own e32 v_46 x_45.2] ∧ y = []) [] [OE.bx b_43 [vB x_40.1, v_41], own e32 v_41 x_40.2] [] _ rfl rfl (fun h v x y => rfl) rfl rfl rfl rfl ⟨_, _, _, 0, undef, rfl, rfl, rfl⟩ (by kernel_rfl) rfl (fun w Sl Tl hZ hTT hA hP hS => ?_) rfl ?_
 ·refine calls_ret (c_curve_group_times _ a0_0_0 a0_0_1 a0_1_0 a0_1_1 a0_2_0 a0_2_1 a0_3_0 a0_3_1 a0_4_0 a0_4_1 a0_5 3 x_40.1 x_40.2 va0_0_1 va0_1_1 va0_2_1 va0_3_1 va0_4_1 v_41 ba0 ba0_0 ba0_1 ba0_2 ba0_3 ba0_4 b_43 ((hA.rp 0 rfl).now hS.fr).rp ((hA.rb 1 rfl).now hS.fr) ((hA.rp 2 rfl).now hS.fr).rp ((hA.rb 3 rfl).now hS.fr) ((hA.rp 4 rfl).now hS.fr).rp ((hA.rb 5 rfl).now hS.fr) ((hA.rp 6 rfl).now hS.fr).rp ((hA.rb 7 rfl).now hS.fr) ((hA.rp 8 rfl).now hS.fr).rp ((hA.rb 9 rfl).now hS.fr) ((hA.rb 10 rfl).now hS.fr) (hS.ro 1 rfl).rp (hS.rb 0 rfl) _ hx_45) ?_
  rintro _ w ⟨v_46, b_48, rfl, hS1⟩
  have hS := hS.call hS1
  exact ⟨_, _, ⟨b_48, v_46, rfl, rfl, rfl⟩, SfT.mk' hZ Rds.nil Off.nil (hS.pick [0, 1, 4, 5, 6, 7, 8, 9, 10, 11, 12, 13] (by decide) rfl)⟩
 rintro v_q x_q y_q ⟨b_48, v_46, rfl, rfl, rfl⟩
 refine lxME_v rfl rfl (fun w Sb wb hZ hA hP hF => kA rfl) rfl (lxME_nil fun w hQ => ?_)
 obtain ⟨S_50, wb_51, hZ, hA, hP, hS⟩ := hQ
 refine ka (ke (kc (kb 4 rfl ?_)))
 obtain ⟨x_52, hx_52, h⟩ := kg h
 refine kk (by kernel_rfl) rfl (c_curve_group_mul _ a0_0_0 a0_0_1 a0_1_0 a0_1_1 a0_2_0 a0_2_1 a0_3_0 a0_3_1 a0_4_0 a0_4_1 a0_5 x_45.1 x_45.2 x_45.1 x_45.2 va0_0_1 va0_1_1 va0_2_1 va0_3_1 va0_4_1 v_46 v_46 ba0 ba0_0 ba0_1 ba0_2 ba0_3 ba0_4 b_48 b_48 ((hA.rp 0 rfl).now hS.fr).rp ((hA.rb 1 rfl).now hS.fr) ((hA.rp 2 rfl).now hS.fr).rp ((hA.rb 3 rfl).now hS.fr) ((hA.rp 4 rfl).now hS.fr).rp ((hA.rb 5 rfl).now hS.fr) ((hA.rp 6 rfl).now hS.fr).rp ((hA.rb 7 rfl).now hS.fr) ((hA.rp 8 rfl).now hS.fr).rp ((hA.rb 9 rfl).now hS.fr) ((hA.rb 10 rfl).now hS.fr) (hS.ro 1 rfl).rp (hS.rb 0 rfl) (hS.ro 1 rfl).rp (hS.rb 0 rfl) _ hx_52) rfl ?_
 rintro _ w ⟨v_53, b_55, rfl, hS1⟩
 have hS := hS.call hS1
 refine kb 2 rfl ?_
 obtain ⟨x_57, hx_57, h⟩ := kg h
 refine kk (by kernel_rfl) rfl (c_curve_group_times _ a0_0_0 a0_0_1 a0_1_0 a0_1_1 a0_2_0 a0_2_1 a0_3_0 a0_3_1 a0_4_0 a0_4_1 a0_5 2 x_21.1 x_21.2 va0_0_1 va0_1_1 va0_2_1 va0_3_1 va0_4_1 v_22 ba0 ba0_0 ba0_1 ba0_2 ba0_3 ba0_4 b_24 ((hA.rp 0 rfl).now hS.fr).rp ((hA.rb 1 rfl).now hS.fr) ((hA.rp 2 rfl).now hS.fr).rp ((hA.rb 3 rfl).now hS.fr) ((hA.rp 4 rfl).now hS.fr).rp ((hA.rb 5 rfl).now hS.fr) ((hA.rp 6 rfl).now hS.fr).rp ((hA.rb 7 rfl).now hS.fr) ((hA.rp 8 rfl).now hS.fr).rp ((hA.rb 9 rfl).now hS.fr) ((hA.rb 10 rfl).now hS.fr) (hS.ro 5 rfl).rp (hS.rb 4 rfl) _ hx_57) rfl ?_
 rintro _ w ⟨v_58, b_60, rfl, hS1⟩
 have hS := hS.call hS1
 obtain ⟨x_62, hx_62, h⟩ := kg h
 refine kk (by kernel_rfl) rfl (c_curve_group_sub _ a0_0_0 a0_0_1 a0_1_0 a0_1_1 a0_2_0 a0_2_1 a0_3_0 a0_3_1 a0_4_0 a0_4_1 a0_5 x_52.1 x_52.2 x_57.1 x_57.2 va0_0_1 va0_1_1 va0_2_1 va0_3_1 va0_4_1 v_53 v_58 ba0 ba0_0 ba0_1 ba0_2 ba0_3 ba0_4 b_55 b_60 ((hA.rp 0 rfl).now hS.fr).rp ((hA.rb 1 rfl).now hS.fr) ((hA.rp 2 rfl).now hS.fr).rp ((hA.rb 3 rfl).now hS.fr) ((hA.rp 4 rfl).now hS.fr).rp ((hA.rb 5 rfl).now hS.fr) ((hA.rp 6 rfl).now hS.fr).rp ((hA.rb 7 rfl).now hS.fr) ((hA.rp 8 rfl).now hS.fr).rp ((hA.rb 9 rfl).now hS.fr) ((hA.rb 10 rfl).now hS.fr) (hS.ro 3 rfl).rp (hS.rb 2 rfl) (hS.ro 1 rfl).rp (hS.rb 0 rfl) _ hx_62) rfl ?_
 rintro _ w ⟨v_63, b_65, rfl, hS1⟩
 have hS := hS.call hS1
 refine kb 1 rfl ?_
 refine kf (ka (ke (kc (kb 6 rfl ?_))))
 obtain ⟨x_67, hx_67, h⟩ := kg h
 refine kk (by kernel_rfl) rfl (c_curve_group_sub _ a0_0_0 a0_0_1 a0_1_0 a0_1_1 a0_2_0 a0_2_1 a0_3_0 a0_3_1 a0_4_0 a0_4_1 a0_5 x_21.1 x_21.2 x_62.1 x_62.2 va0_0_1 va0_1_1 va0_2_1 va0_3_1 va0_4_1 v_22 v_63 ba0 ba0_0 ba0_1 ba0_2 ba0_3 ba0_4 b_24 b_65 ((hA.rp 0 rfl).now hS.fr).rp ((hA.rb 1 rfl).now hS.fr) ((hA.rp 2 rfl).now hS.fr).rp ((hA.rb 3 rfl).now hS.fr) ((hA.rp 4 rfl).now hS.fr).rp ((hA.rb 5 rfl).now hS.fr) ((hA.rp 6 rfl).now hS.fr).rp ((hA.rb 7 rfl).now hS.fr) ((hA.rp 8 rfl).now hS.fr).rp ((hA.rb 9 rfl).now hS.fr) ((hA.rb 10 rfl).now hS.fr) (hS.ro 9 rfl).rp (hS.rb 8 rfl) (hS.ro 1 rfl).rp (hS.rb 0 rfl) _ hx_67) rfl ?_
 rintro _ w ⟨v_68, b_70, rfl, hS1⟩
 have hS := hS.call hS1
 obtain ⟨x_72, hx_72, h⟩ := kg h
 refine kk (by kernel_rfl) rfl (c_curve_group_mul _ a0_0_0 a0_0_1 a0_1_0 a0_1_1 a0_2_0 a0_2_1 a0_3_0 a0_3_1 a0_4_0 a0_4_1 a0_5 x_45.1 x_45.2 x_67.1 x_67.2 va0_0_1 va0_1_1 va0_2_1 va0_3_1 va0_4_1 v_46 v_68 ba0 ba0_0 ba0_1 ba0_2 ba0_3 ba0_4 b_48 b_70 ((hA.rp 0 rfl).now hS.fr).rp ((hA.rb 1 rfl).now hS.fr) ((hA.rp 2 rfl).now hS.fr).rp ((hA.rb 3 rfl).now hS.fr) ((hA.rp 4 rfl).now hS.fr).rp ((hA.rb 5 rfl).now hS.fr) ((hA.rp 6 rfl).now hS.fr).rp ((hA.rb 7 rfl).now hS.fr) ((hA.rp 8 rfl).now hS.fr).rp ((hA.rb 9 rfl).now hS.fr) ((hA.rb 10 rfl).now hS.fr) (hS.ro 9 rfl).rp (hS.rb 8 rfl) (hS.ro 1 rfl).rp (hS.rb 0 rfl) _ hx_72) rfl ?_
 rintro _ w ⟨v_73, b_75, rfl, hS1⟩
 have hS := hS.call hS1
 refine kb 4 rfl ?_
 obtain ⟨x_77, hx_77, h⟩ := kg h
 refine kk (by kernel_rfl) rfl (c_curve_group_mul _ a0_0_0 a0_0_1 a0_1_0 a0_1_1 a0_2_0 a0_2_1 a0_3_0 a0_3_1 a0_4_0 a0_4_1 a0_5 x_11.1 x_11.2 x_11.1 x_11.2 va0_0_1 va0_1_1 va0_2_1 va0_3_1 va0_4_1 v_12 v_12 ba0 ba0_0 ba0_1 ba0_2 ba0_3 ba0_4 b_14 b_14 ((hA.rp 0 rfl).now hS.fr).rp ((hA.rb 1 rfl).now hS.fr) ((hA.rp 2 rfl).now hS.fr).rp ((hA.rb 3 rfl).now hS.fr) ((hA.rp 4 rfl).now hS.fr).rp ((hA.rb 5 rfl).now hS.fr) ((hA.rp 6 rfl).now hS.fr).rp ((hA.rb 7 rfl).now hS.fr) ((hA.rp 8 rfl).now hS.fr).rp ((hA.rb 9 rfl).now hS.fr) ((hA.rb 10 rfl).now hS.fr) (hS.ro 17 rfl).rp (hS.rb 16 rfl) (hS.ro 17 rfl).rp (hS.rb 16 rfl) _ hx_77) rfl ?_
 rintro _ w ⟨v_78, b_80, rfl, hS1⟩
 have hS := hS.call hS1
 obtain ⟨x_82, hx_82, h⟩ := kg h
 refine kk (by kernel_rfl) rfl (c_curve_group_times _ a0_0_0 a0_0_1 a0_1_0 a0_1_1 a0_2_0 a0_2_1 a0_3_0 a0_3_1 a0_4_0 a0_4_1 a0_5 8 x_77.1 x_77.2 va0_0_1 va0_1_1 va0_2_1 va0_3_1 va0_4_1 v_78 ba0 ba0_0 ba0_1 ba0_2 ba0_3 ba0_4 b_80 ((hA.rp 0 rfl).now hS.fr).rp ((hA.rb 1 rfl).now hS.fr) ((hA.rp 2 rfl).now hS.fr).rp ((hA.rb 3 rfl).now hS.fr) ((hA.rp 4 rfl).now hS.fr).rp ((hA.rb 5 rfl).now hS.fr) ((hA.rp 6 rfl).now hS.fr).rp ((hA.rb 7 rfl).now hS.fr) ((hA.rp 8 rfl).now hS.fr).rp ((hA.rb 9 rfl).now hS.fr) ((hA.rb 10 rfl).now hS.fr) (hS.ro 1 rfl).rp (hS.rb 0 rfl) _ hx_82) rfl ?_
 rintro _ w ⟨v_83, b_85, rfl, hS1⟩
 have hS := hS.call hS1
 obtain ⟨x_87, hx_87, h⟩ := kg h
 refine kk (by kernel_rfl) rfl (c_curve_group_sub _ a0_0_0 a0_0_1 a0_1_0 a0_1_1 a0_2_0 a0_2_1 a0_3_0 a0_3_1 a0_4_0 a0_4_1 a0_5 x_72.1 x_72.2 x_82.1 x_82.2 va0_0_1 va0_1_1 va0_2_1 va0_3_1 va0_4_1 v_73 v_83 ba0 ba0_0 ba0_1 ba0_2 ba0_3 ba0_4 b_75 b_85 ((hA.rp 0 rfl).now hS.fr).rp ((hA.rb 1 rfl).now hS.fr) ((hA.rp 2 rfl).now hS.fr).rp ((hA.rb 3 rfl).now hS.fr) ((hA.rp 4 rfl).now hS.fr).rp ((hA.rb 5 rfl).now hS.fr) ((hA.rp 6 rfl).now hS.fr).rp ((hA.rb 7 rfl).now hS.fr) ((hA.rp 8 rfl).now hS.fr).rp ((hA.rb 9 rfl).now hS.fr) ((hA.rb 10 rfl).now hS.fr) (hS.ro 5 rfl).rp (hS.rb 4 rfl) (hS.ro 1 rfl).rp (hS.rb 0 rfl) _ hx_87) rfl ?_
 rintro _ w ⟨v_88, b_90, rfl, hS1⟩
 have hS := hS.call hS1
 refine kb 1 rfl ?_
 refine kf (ka (ke (kc (kb 4 rfl ?_))))
 refine ki (kl (k := 1) Tryz.underlying66 rfl rfl nz56 rfl) rfl (ki (ku Tryz.underlying56 rfl rfl (hS.bxc 27 rfl 1)) rfl (ki (kl (k := 2) Tryz.underlying66 rfl rfl nz56 rfl) rfl (ki (ku Tryz.underlying56 rfl rfl (hS.bxc 27 rfl 2)) rfl ?_)))
 obtain ⟨x_92, hx_92, h⟩ := kg h
 refine kk (by kernel_rfl) rfl (c_curve_group_mul _ a0_0_0 a0_0_1 a0_1_0 a0_1_1 a0_2_0 a0_2_1 a0_3_0 a0_3_1 a0_4_0 a0_4_1 a0_5 a1_1_0 a1_1_1 a1_2_0 a1_2_1 va0_0_1 va0_1_1 va0_2_1 va0_3_1 va0_4_1 va1_1_1 va1_2_1 ba0 ba0_0 ba0_1 ba0_2 ba0_3 ba0_4 ba1_1 ba1_2 ((hA.rp 0 rfl).now hS.fr).rp ((hA.rb 1 rfl).now hS.fr) ((hA.rp 2 rfl).now hS.fr).rp ((hA.rb 3 rfl).now hS.fr) ((hA.rp 4 rfl).now hS.fr).rp ((hA.rb 5 rfl).now hS.fr) ((hA.rp 6 rfl).now hS.fr).rp ((hA.rb 7 rfl).now hS.fr) ((hA.rp 8 rfl).now hS.fr).rp ((hA.rb 9 rfl).now hS.fr) ((hA.rb 10 rfl).now hS.fr) ((hA.rp 13 rfl).now hS.fr).rp ((hA.rb 14 rfl).now hS.fr) ((hA.rp 15 rfl).now hS.fr).rp ((hA.rb 16 rfl).now hS.fr) _ hx_92) rfl ?_
 rintro _ w ⟨v_93, b_95, rfl, hS1⟩
 have hS := hS.call hS1
 obtain ⟨x_97, hx_97, h⟩ := kg h
 refine kk (by kernel_rfl) rfl (c_curve_group_times _ a0_0_0 a0_0_1 a0_1_0 a0_1_1 a0_2_0 a0_2_1 a0_3_0 a0_3_1 a0_4_0 a0_4_1 a0_5 2 x_92.1 x_92.2 va0_0_1 va0_1_1 va0_2_1 va0_3_1 va0_4_1 v_93 ba0 ba0_0 ba0_1 ba0_2 ba0_3 ba0_4 b_95 ((hA.rp 0 rfl).now hS.fr).rp ((hA.rb 1 rfl).now hS.fr) ((hA.rp 2 rfl).now hS.fr).rp ((hA.rb 3 rfl).now hS.fr) ((hA.rp 4 rfl).now hS.fr).rp ((hA.rb 5 rfl).now hS.fr) ((hA.rp 6 rfl).now hS.fr).rp ((hA.rb 7 rfl).now hS.fr) ((hA.rp 8 rfl).now hS.fr).rp ((hA.rb 9 rfl).now hS.fr) ((hA.rb 10 rfl).now hS.fr) (hS.ro 1 rfl).rp (hS.rb 0 rfl) _ hx_97) rfl ?_
 rintro _ w ⟨v_98, b_100, rfl, hS1⟩
 have hS := hS.call hS1
 refine ki (OpV_build (vs := [(0, pB b_65 0, [pB b_65 0]), (1, pB b_90 0, [pB b_90 0]), (2, pB b_100 0, [pB b_100 0])]) (cells := [pB b_65 0, pB b_90 0, pB b_100 0]) rfl lay66 ⟨rfl, rfl, rfl, trivial⟩ rfl) rfl ?_
 refine kX (kM (i := 30) (us := [pB b_65 0, pB b_90 0, pB b_100 0]) rfl sz66 rfl rfl rfl ⟨rfl, rfl, rfl, trivial⟩ rfl hS) ?_
 intro w hS
 refine kf (ka (kq ?_))
 cases h
 obtain ⟨hS0, hR⟩ := hZ.outT hTT hA hP hS
 exact QE_rv1 rfl ⟨_, rfl, run_ldAgg (us := [pB b_65 0, pB b_90 0, pB b_100 0]) Tryz.underlying66 rfl sz66 (hS.bxs 30 rfl rfl)⟩ ⟨b_65, v_63, b_90, v_88, b_100, v_98, rfl, hS0, (Rds.cons (hR.nth 48 rfl) (Rds.cons (hR.nth 47 rfl) (Rds.cons (hR.nth 44 rfl) (Rds.cons (hR.nth 43 rfl) (Rds.cons (hR.nth 34 rfl) (Rds.cons (hR.nth 33 rfl) Rds.nil))))))⟩
end Go.Proofs
