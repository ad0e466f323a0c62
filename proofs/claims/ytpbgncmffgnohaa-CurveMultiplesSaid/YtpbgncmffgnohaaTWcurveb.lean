import Derived.Test.YtpbgncmffgnohaaTW0
import Derived.Test.YtpbgncmffgnohaaGkFcurve
import Derived.Test.YtpbgncmffgnohaaTWbignumc
import Derived.Test.YtpbgncmffgnohaaTWcurvea
set_option linter.unusedVariables false
set_option linter.unusedSimpArgs false
set_option linter.unusedVariables false
set_option maxRecDepth 4000
namespace Go.Proofs
open Go Go.RowKit Go.Gk
theorem c_curve_group_double (w0 : World) (a0_0_0 : Bool) (a0_0_1 : List UInt32) (a0_1_0 : Bool) (a0_1_1 : List UInt32) (a0_2_0 : Bool) (a0_2_1 : List UInt32) (a0_3_0 : Bool) (a0_3_1 : List UInt32) (a0_4_0 : Bool) (a0_4_1 : List UInt32) (a0_5 : Int) (a1_0_0 : Bool) (a1_0_1 : List UInt32) (a1_1_0 : Bool) (a1_1_1 : List UInt32) (a1_2_0 : Bool) (a1_2_1 : List UInt32) (va0_0_1 : Value) (va0_1_1 : Value) (va0_2_1 : Value) (va0_3_1 : Value) (va0_4_1 : Value) (va1_0_1 : Value) (va1_1_1 : Value) (va1_2_1 : Value) (ba0 : Nat) (ba0_0 : Nat) (ba0_1 : Nat) (ba0_2 : Nat) (ba0_3 : Nat) (ba0_4 : Nat) (ba1_0 : Nat) (ba1_1 : Nat) (ba1_2 : Nat) (T : List Nat) (hTT : TOk [] T w0) (ha0_0_1 : RP T w0 e32 va0_0_1 a0_0_1) (hBa0_0 : RB T w0 ba0_0 [vB a0_0_0, va0_0_1]) (ha0_1_1 : RP T w0 e32 va0_1_1 a0_1_1) (hBa0_1 : RB T w0 ba0_1 [vB a0_1_0, va0_1_1]) (ha0_2_1 : RP T w0 e32 va0_2_1 a0_2_1) (hBa0_2 : RB T w0 ba0_2 [vB a0_2_0, va0_2_1]) (ha0_3_1 : RP T w0 e32 va0_3_1 a0_3_1) (hBa0_3 : RB T w0 ba0_3 [vB a0_3_0, va0_3_1]) (ha0_4_1 : RP T w0 e32 va0_4_1 a0_4_1) (hBa0_4 : RB T w0 ba0_4 [vB a0_4_0, va0_4_1]) (hBa0 : RB T w0 ba0 [pB ba0_0 0, pB ba0_1 0, pB ba0_2 0, pB ba0_3 0, pB ba0_4 0, vI a0_5, .func (.func 91) #[] #[]]) (ha1_0_1 : RP T w0 e32 va1_0_1 a1_0_1) (hBa1_0 : RB T w0 ba1_0 [vB a1_0_0, va1_0_1]) (ha1_1_1 : RP T w0 e32 va1_1_1 a1_1_1) (hBa1_1 : RB T w0 ba1_1 [vB a1_1_0, va1_1_1]) (ha1_2_1 : RP T w0 e32 va1_2_1 a1_2_1) (hBa1_2 : RB T w0 ba1_2 [vB a1_2_0, va1_2_1]) (r : Bool × List UInt32 × Bool × List UInt32 × Bool × List UInt32)
  (h : F.curve_group_double a0_0_0 a0_0_1 a0_1_0 a0_1_1 a0_2_0 a0_2_1 a0_3_0 a0_3_1 a0_4_0 a0_4_1 a0_5 a1_0_0 a1_0_1 a1_1_0 a1_1_1 a1_2_0 a1_2_1 = some r) : Calls Try.prog 74 #[pB ba0 0, .agg #[pB ba1_0 0, pB ba1_1 0, pB ba1_2 0]] w0 (Ret fun v w => ∃ b0_0 : Nat, ∃ u0_0_1 : Value, ∃ b0_1 : Nat, ∃ u0_1_1 : Value, ∃ b0_2 : Nat, ∃ u0_2_1 : Value, v = .agg #[pB b0_0 0, pB b0_1 0, pB b0_2 0] ∧ St [] w0 w [] ∧ Rds T w [OE.bx b0_2 [vB r.2.2.2.2.1, u0_2_1], red e32 u0_2_1 r.2.2.2.2.2, OE.bx b0_1 [vB r.2.2.1, u0_1_1], red e32 u0_1_1 r.2.2.2.1, OE.bx b0_0 [vB r.1, u0_0_1], red e32 u0_0_1 r.2.1]) := by
 refine ky 86 Try.func74 rfl rfl rfl ?_
 have hS := St.start w0
 have hZ := Fz.start (S := []) (w0 := w0)
 have hA0 : Rds T w0 [OE.bx ba1_2 [vB a1_2_0, va1_2_1], red e32 va1_2_1 a1_2_1, OE.bx ba1_1 [vB a1_1_0, va1_1_1], red e32 va1_1_1 a1_1_1, OE.bx ba1_0 [vB a1_0_0, va1_0_1], red e32 va1_0_1 a1_0_1, OE.bx ba0 [pB ba0_0 0, pB ba0_1 0, pB ba0_2 0, pB ba0_3 0, pB ba0_4 0, vI a0_5, .func (.func 91) #[] #[]], OE.bx ba0_4 [vB a0_4_0, va0_4_1], red e32 va0_4_1 a0_4_1, OE.bx ba0_3 [vB a0_3_0, va0_3_1], red e32 va0_3_1 a0_3_1, OE.bx ba0_2 [vB a0_2_0, va0_2_1], red e32 va0_2_1 a0_2_1, OE.bx ba0_1 [vB a0_1_0, va0_1_1], red e32 va0_1_1 a0_1_1, OE.bx ba0_0 [vB a0_0_0, va0_0_1], red e32 va0_0_1 a0_0_1] := Rds.cons hBa1_2.kept (Rds.cons (RP.kept (Nat.le_of_ble_eq_true rfl) ha1_2_1) (Rds.cons hBa1_1.kept (Rds.cons (RP.kept (Nat.le_of_ble_eq_true rfl) ha1_1_1) (Rds.cons hBa1_0.kept (Rds.cons (RP.kept (Nat.le_of_ble_eq_true rfl) ha1_0_1) (Rds.cons hBa0.kept (Rds.cons hBa0_4.kept (Rds.cons (RP.kept (Nat.le_of_ble_eq_true rfl) ha0_4_1) (Rds.cons hBa0_3.kept (Rds.cons (RP.kept (Nat.le_of_ble_eq_true rfl) ha0_3_1) (Rds.cons hBa0_2.kept (Rds.cons (RP.kept (Nat.le_of_ble_eq_true rfl) ha0_2_1) (Rds.cons hBa0_1.kept (Rds.cons (RP.kept (Nat.le_of_ble_eq_true rfl) ha0_1_1) (Rds.cons hBa0_0.kept (Rds.cons (RP.kept (Nat.le_of_ble_eq_true rfl) ha0_0_1) (Rds.nil)))))))))))))))))
 have hA := hA0.all
 have hP := hA0.off rfl
 refine km [(0, pB ba0 0), (1, .agg #[pB ba1_0 0, pB ba1_1 0, pB ba1_2 0])] ⟨rfl, rfl, trivial⟩ ?_
 unfold F.curve_group_double at h
 refine kd (kc (kV (OpX_box (cs := [pB ba1_0 0, pB ba1_1 0, pB ba1_2 0]) rfl rfl hS) rfl ?_))
 rintro _ w ⟨b_1, rfl, hS⟩
 refine kV (kD (cs := [.pointer none, .pointer none, .pointer none]) tz64 rfl hS) rfl ?_
 rintro _ w ⟨b_3, rfl, hS⟩
 refine ke (ka (kd (kd (kc (kh (kk (k := 2) Try.underlying64 rfl rfl nz58 rfl) rfl (kh (kt Try.underlying58 rfl rfl (hS.bxc 1 rfl 2)) rfl ?_))))))
 obtain ⟨x_5, hx_5, h⟩ := kf h
 refine kj (by kernel_rfl) rfl (c_bignum_Int_Sign _ a1_2_0 a1_2_1 va1_2_1 ba1_2 ((hA.rp 15 rfl).now hS.fr).rp ((hA.rb 16 rfl).now hS.fr) _ hx_5) rfl ?_
 rintro _ w ⟨rfl, hS1⟩
 have hS := hS.call hS1
 refine kb 1 rfl ?_
 refine ke (ka ?_)
 refine kn rfl (fun hb_102 => ?_) (fun hb_102 => ?_)
 ·have h := if_t h hb_102
  refine kd (kc (kh (kG (us := [pB ba1_0 0, pB ba1_1 0, pB ba1_2 0]) Try.underlying64 rfl sz64 rfl (hS.bxs 1 rfl rfl)) rfl (kW (kL (i := 0) (us := [pB ba1_0 0, pB ba1_1 0, pB ba1_2 0]) rfl sz64 rfl rfl rfl ⟨rfl, rfl, rfl, trivial⟩ rfl hS) ?_)))
  intro w hS
  refine ke (ka (ko (ku ?_)))
  cases h
  obtain ⟨hS0, hR⟩ := hZ.outT hTT hA hP hS
  exact QE_rv1 rfl ⟨_, rfl, run_ldAgg (us := [pB ba1_0 0, pB ba1_1 0, pB ba1_2 0]) Try.underlying64 rfl sz64 (hS.bxs 0 rfl rfl)⟩ ⟨ba1_0, va1_0_1, ba1_1, va1_1_1, ba1_2, va1_2_1, rfl, hS0, (Rds.cons (hR.nth 16 rfl) (Rds.cons (hR.nth 15 rfl) (Rds.cons (hR.nth 14 rfl) (Rds.cons (hR.nth 13 rfl) (Rds.cons (hR.nth 12 rfl) (Rds.cons (hR.nth 11 rfl) Rds.nil))))))⟩
 have h := if_f h hb_102
 refine kq (ka (kd (kc (kb 1 rfl ?_))))
 refine kh (kk (k := 2) Try.underlying64 rfl rfl nz58 rfl) rfl (kh (kt Try.underlying58 rfl rfl (hS.bxc 1 rfl 2)) rfl (kh (kk (k := 2) Try.underlying64 rfl rfl nz58 rfl) rfl (kh (kt Try.underlying58 rfl rfl (hS.bxc 1 rfl 2)) rfl ?_)))
 obtain ⟨x_6, hx_6, h⟩ := kf h
 refine kj (by kernel_rfl) rfl (c_curve_group_mul _ a0_0_0 a0_0_1 a0_1_0 a0_1_1 a0_2_0 a0_2_1 a0_3_0 a0_3_1 a0_4_0 a0_4_1 a0_5 a1_2_0 a1_2_1 a1_2_0 a1_2_1 va0_0_1 va0_1_1 va0_2_1 va0_3_1 va0_4_1 va1_2_1 va1_2_1 ba0 ba0_0 ba0_1 ba0_2 ba0_3 ba0_4 ba1_2 ba1_2 ((hA.rp 0 rfl).now hS.fr).rp ((hA.rb 1 rfl).now hS.fr) ((hA.rp 2 rfl).now hS.fr).rp ((hA.rb 3 rfl).now hS.fr) ((hA.rp 4 rfl).now hS.fr).rp ((hA.rb 5 rfl).now hS.fr) ((hA.rp 6 rfl).now hS.fr).rp ((hA.rb 7 rfl).now hS.fr) ((hA.rp 8 rfl).now hS.fr).rp ((hA.rb 9 rfl).now hS.fr) ((hA.rb 10 rfl).now hS.fr) ((hA.rp 15 rfl).now hS.fr).rp ((hA.rb 16 rfl).now hS.fr) ((hA.rp 15 rfl).now hS.fr).rp ((hA.rb 16 rfl).now hS.fr) _ hx_6) rfl ?_
 rintro _ w ⟨v_7, b_9, rfl, hS1⟩
 have hS := hS.call hS1
 refine kb 1 rfl ?_
 refine ke (ka (kd (kc (kb 1 rfl ?_))))
 refine kh (kk (k := 1) Try.underlying64 rfl rfl nz58 rfl) rfl (kh (kt Try.underlying58 rfl rfl (hS.bxc 3 rfl 1)) rfl (kh (kk (k := 1) Try.underlying64 rfl rfl nz58 rfl) rfl (kh (kt Try.underlying58 rfl rfl (hS.bxc 3 rfl 1)) rfl ?_)))
 obtain ⟨x_11, hx_11, h⟩ := kf h
 refine kj (by kernel_rfl) rfl (c_curve_group_mul _ a0_0_0 a0_0_1 a0_1_0 a0_1_1 a0_2_0 a0_2_1 a0_3_0 a0_3_1 a0_4_0 a0_4_1 a0_5 a1_1_0 a1_1_1 a1_1_0 a1_1_1 va0_0_1 va0_1_1 va0_2_1 va0_3_1 va0_4_1 va1_1_1 va1_1_1 ba0 ba0_0 ba0_1 ba0_2 ba0_3 ba0_4 ba1_1 ba1_1 ((hA.rp 0 rfl).now hS.fr).rp ((hA.rb 1 rfl).now hS.fr) ((hA.rp 2 rfl).now hS.fr).rp ((hA.rb 3 rfl).now hS.fr) ((hA.rp 4 rfl).now hS.fr).rp ((hA.rb 5 rfl).now hS.fr) ((hA.rp 6 rfl).now hS.fr).rp ((hA.rb 7 rfl).now hS.fr) ((hA.rp 8 rfl).now hS.fr).rp ((hA.rb 9 rfl).now hS.fr) ((hA.rb 10 rfl).now hS.fr) ((hA.rp 13 rfl).now hS.fr).rp ((hA.rb 14 rfl).now hS.fr) ((hA.rp 13 rfl).now hS.fr).rp ((hA.rb 14 rfl).now hS.fr) _ hx_11) rfl ?_
 rintro _ w ⟨v_12, b_14, rfl, hS1⟩
 have hS := hS.call hS1
 refine kb 1 rfl ?_
 refine ke (ka (kd (kc (kb 2 rfl ?_))))
 refine kh (kk (k := 0) Try.underlying64 rfl rfl nz58 rfl) rfl (kh (kt Try.underlying58 rfl rfl (hS.bxc 5 rfl 0)) rfl (kb 1 rfl ?_))
 obtain ⟨x_16, hx_16, h⟩ := kf h
 refine kj (by kernel_rfl) rfl (c_curve_group_mul _ a0_0_0 a0_0_1 a0_1_0 a0_1_1 a0_2_0 a0_2_1 a0_3_0 a0_3_1 a0_4_0 a0_4_1 a0_5 a1_0_0 a1_0_1 x_11.1 x_11.2 va0_0_1 va0_1_1 va0_2_1 va0_3_1 va0_4_1 va1_0_1 v_12 ba0 ba0_0 ba0_1 ba0_2 ba0_3 ba0_4 ba1_0 b_14 ((hA.rp 0 rfl).now hS.fr).rp ((hA.rb 1 rfl).now hS.fr) ((hA.rp 2 rfl).now hS.fr).rp ((hA.rb 3 rfl).now hS.fr) ((hA.rp 4 rfl).now hS.fr).rp ((hA.rb 5 rfl).now hS.fr) ((hA.rp 6 rfl).now hS.fr).rp ((hA.rb 7 rfl).now hS.fr) ((hA.rp 8 rfl).now hS.fr).rp ((hA.rb 9 rfl).now hS.fr) ((hA.rb 10 rfl).now hS.fr) ((hA.rp 11 rfl).now hS.fr).rp ((hA.rb 12 rfl).now hS.fr) (hS.ro 1 rfl).rp (hS.rb 0 rfl) _ hx_16) rfl ?_
 rintro _ w ⟨v_17, b_19, rfl, hS1⟩
 have hS := hS.call hS1
 obtain ⟨x_21, hx_21, h⟩ := kf h
 refine kj (by kernel_rfl) rfl (c_curve_group_times _ a0_0_0 a0_0_1 a0_1_0 a0_1_1 a0_2_0 a0_2_1 a0_3_0 a0_3_1 a0_4_0 a0_4_1 a0_5 4 x_16.1 x_16.2 va0_0_1 va0_1_1 va0_2_1 va0_3_1 va0_4_1 v_17 ba0 ba0_0 ba0_1 ba0_2 ba0_3 ba0_4 b_19 ((hA.rp 0 rfl).now hS.fr).rp ((hA.rb 1 rfl).now hS.fr) ((hA.rp 2 rfl).now hS.fr).rp ((hA.rb 3 rfl).now hS.fr) ((hA.rp 4 rfl).now hS.fr).rp ((hA.rb 5 rfl).now hS.fr) ((hA.rp 6 rfl).now hS.fr).rp ((hA.rb 7 rfl).now hS.fr) ((hA.rp 8 rfl).now hS.fr).rp ((hA.rb 9 rfl).now hS.fr) ((hA.rb 10 rfl).now hS.fr) (hS.ro 1 rfl).rp (hS.rb 0 rfl) _ hx_21) rfl ?_
 rintro _ w ⟨v_22, b_24, rfl, hS1⟩
 have hS := hS.call hS1
 refine kb 1 rfl ?_
 refine ke (ka (kd ?_))
 obtain ⟨x_26, hx_26, h⟩ := kf h
 obtain ⟨x_34, hx_34, h⟩ := kf h
 obtain ⟨x_37, hx_37, h⟩ := kf h
 obtain ⟨x_40, hx_40, h⟩ := kf h
 obtain ⟨x_45, hx_45, h⟩ := kf h
 refine wpC_regionM (es := [OE.bx ba1_2 [vB a1_2_0, va1_2_1], red e32 va1_2_1 a1_2_1, OE.bx ba1_1 [vB a1_1_0, va1_1_1], red e32 va1_1_1 a1_1_1, OE.bx ba1_0 [vB a1_0_0, va1_0_1], red e32 va1_0_1 a1_0_1, OE.bx ba0 [pB ba0_0 0, pB ba0_1 0, pB ba0_2 0, pB ba0_3 0, pB ba0_4 0, vI a0_5, .func (.func 91) #[] #[]], OE.bx ba0_4 [vB a0_4_0, va0_4_1], red e32 va0_4_1 a0_4_1, OE.bx ba0_3 [vB a0_3_0, va0_3_1], red e32 va0_3_1 a0_3_1, OE.bx ba0_2 [vB a0_2_0, va0_2_1], red e32 va0_2_1 a0_2_1, OE.bx ba0_1 [vB a0_1_0, va0_1_1], red e32 va0_1_1 a0_1_1, OE.bx ba0_0 [vB a0_0_0, va0_0_1], red e32 va0_0_1 a0_0_1]) (os := [OE.bx b_24 [vB x_21.1, v_22], own e32 v_22 x_21.2, OE.bx b_19 [vB x_16.1, v_17], own e32 v_17 x_16.2, OE.bx b_14 [vB x_11.1, v_12], own e32 v_12 x_11.2, OE.bx b_9 [vB x_6.1, v_7], own e32 v_7 x_6.2, OE.bx b_3 [.pointer none, .pointer none, .pointer none], OE.bx b_1 [pB ba1_0 0, pB ba1_1 0, pB ba1_2 0]]) (fun i => [6, 8, 12, 13, 14, 15].contains i) (fun i => if i = 6 then some 14 else if i = 8 then some 12 else if i = 12 then some 13 else if i = 13 then some 14 else if i = 14 then some 15 else none) (fun i => []) (fun i => []) (fun i => []) (fun i => if i = 12 then [8] else if i = 13 then [8] else []) (fun i => if i = 6 then (fun h v x y => ∃ b_29 : Nat, ∃ v_27 : Value, v = pB b_29 0 ∧ x = [OE.bx b_29 [vB x_26.1, v_27], own e32 v_27 x_26.2] ∧ y = []) else if i = 8 then (fun h v x y => ∃ b_31 : Nat, v = pB b_31 0 ∧ x = [OE.bx b_31 [vB false, .slice none 0 0]] ∧ y = []) else if i = 12 then (fun h v x y => ∃ v_35 : Value, ∃ b_31 : Nat, h = [(pB b_31 0, [OE.bx b_31 [vB false, .slice none 0 0]], [])] ∧ v = pB b_31 0 ∧ x = [OE.bx b_31 [vB x_34.1, v_35], own e32 v_35 x_34.2] ∧ y = []) else if i = 13 then (fun h v x y => ∃ v_38 : Value, ∃ b_31 : Nat, h = [(pB b_31 0, [OE.bx b_31 [vB false, .slice none 0 0]], [])] ∧ v = pB b_31 0 ∧ x = [OE.bx b_31 [vB x_37.1, v_38], own e32 v_38 x_37.2] ∧ y = []) else if i = 14 then (fun h v x y => ∃ b_43 : Nat, ∃ v_41 : Value, v = pB b_43 0 ∧ x = [OE.bx b_43 [vB x_40.1, v_41], own e32 v_41 x_40.2] ∧ y = []) else (fun h v x y => ∃ b_48 : Nat, ∃ v_46 : Value, v = pB b_48 0 ∧ x = [OE.bx b_48 [vB x_45.1, v_46], own e32 v_46 x_45.2] ∧ y = [])) (SfT.mk' hZ hA hP hS) (fun k hk => rfl) hTT rfl (fun i => (ite_ns (by rintro h v x y ⟨_, _, rfl, rfl, rfl⟩; exact ns_all rfl) (ite_ns (by rintro h v x y ⟨_, rfl, rfl, rfl⟩; exact ns_all rfl) (ite_ns (by rintro h v x y ⟨_, _, _, rfl, rfl, rfl⟩; exact ns_all rfl) (ite_ns (by rintro h v x y ⟨_, _, _, rfl, rfl, rfl⟩; exact ns_all rfl) (ite_ns (by rintro h v x y ⟨_, _, rfl, rfl, rfl⟩; exact ns_all rfl) (by rintro h v x y ⟨_, _, rfl, rfl, rfl⟩; exact ns_all rfl))))))) hmix (by kernel_rfl) (by kernel_rfl) ?_
 show lxME _ _ _ _ _ _ _ _ _ _ _ _ _ _ _ _ [0, 1, 2, 3, 4, 5, 6, 7, 8, 9, 10, 11, 12, 13, 14, 15, 16] _ _
 refine lxME_v rfl rfl (fun w Sb wb hZ hA hP hF => kl rfl) rfl (lxME_v rfl rfl (fun w Sb wb hZ hA hP hF => kl rfl) rfl (lxME_v rfl rfl (fun w Sb wb hZ hA hP hF => kl rfl) rfl (lxME_v rfl rfl (fun w Sb wb hZ hA hP hF => kk (k := 0) Try.underlying64 rfl rfl nz58 rfl) rfl (lxME_v rfl rfl (fun w Sb wb hZ hA hP hF => kt Try.underlying58 rfl rfl (hF.bxc 9 rfl 0)) rfl (lxME_v rfl rfl (fun w Sb wb hZ hA hP hF => kl rfl) rfl ?_)))))
 refine lxME_call (fun h v x y => ∃ b_29 : Nat, ∃ v_27 : Value, v = pB b_29 0 ∧ x = [OE.bx b_29 [vB x_26.1, v_27], own e32 v_27 x_26.2] ∧ y = []) [] [] [] _ rfl rfl (fun h v x y => rfl) rfl rfl rfl rfl ⟨_, _, _, 0, undef, rfl, rfl, rfl⟩ (by kernel_rfl) rfl (fun w Sl Tl hZ hTT hA hP hS => ?_) rfl ?_
 ·refine calls_ret (c_curve_group_sub _ a0_0_0 a0_0_1 a0_1_0 a0_1_1 a0_2_0 a0_2_1 a0_3_0 a0_3_1 a0_4_0 a0_4_1 a0_5 a1_0_0 a1_0_1 x_6.1 x_6.2 va0_0_1 va0_1_1 va0_2_1 va0_3_1 va0_4_1 va1_0_1 v_7 ba0 ba0_0 ba0_1 ba0_2 ba0_3 ba0_4 ba1_0 b_9 ((hA.rp 0 rfl).now hS.fr).rp ((hA.rb 1 rfl).now hS.fr) ((hA.rp 2 rfl).now hS.fr).rp ((hA.rb 3 rfl).now hS.fr) ((hA.rp 4 rfl).now hS.fr).rp ((hA.rb 5 rfl).now hS.fr) ((hA.rp 6 rfl).now hS.fr).rp ((hA.rb 7 rfl).now hS.fr) ((hA.rp 8 rfl).now hS.fr).rp ((hA.rb 9 rfl).now hS.fr) ((hA.rb 10 rfl).now hS.fr) ((hA.rp 11 rfl).now hS.fr).rp ((hA.rb 12 rfl).now hS.fr) (hS.ro 7 rfl).rp (hS.rb 6 rfl) _ hx_26) ?_
  rintro _ w ⟨v_27, b_29, rfl, hS1⟩
  have hS := hS.call hS1
  exact ⟨_, _, ⟨b_29, v_27, rfl, rfl, rfl⟩, SfT.mk' hZ Rds.nil Off.nil hS⟩
 rintro v_q x_q y_q ⟨b_29, v_27, rfl, rfl, rfl⟩
 refine lxME_v rfl rfl (fun w Sb wb hZ hA hP hF => kl rfl) rfl ?_
 refine lxME_new (fun h v x y => ∃ b_31 : Nat, v = pB b_31 0 ∧ x = [OE.bx b_31 [vB false, .slice none 0 0]] ∧ y = []) [] [] [] _ rfl rfl (fun h v x y => rfl) rfl rfl rfl rfl ⟨_, _, _, 0, rfl, rfl, rfl⟩ (fun w Sl Tl hZ hTT hA hP hS => ?_) rfl ?_
 ·refine opx_imp (kD (cs := [vB false, .slice none 0 0]) tz72 rfl hS) ?_
  rintro _ w ⟨b_31, rfl, hS⟩
  exact ⟨_, _, ⟨b_31, rfl, rfl, rfl⟩, SfT.mk' hZ Rds.nil Off.nil hS⟩
 rintro v_q x_q y_q ⟨b_31, rfl, rfl, rfl⟩
 refine lxME_v rfl rfl (fun w Sb wb hZ hA hP hF => kk (k := 0) Try.underlying64 rfl rfl nz58 rfl) rfl (lxME_v rfl rfl (fun w Sb wb hZ hA hP hF => kt Try.underlying58 rfl rfl (hF.bxc 9 rfl 0)) rfl (lxME_v rfl rfl (fun w Sb wb hZ hA hP hF => kl rfl) rfl ?_))
 refine lxME_call (fun h v x y => ∃ v_35 : Value, ∃ b_31 : Nat, h = [(pB b_31 0, [OE.bx b_31 [vB false, .slice none 0 0]], [])] ∧ v = pB b_31 0 ∧ x = [OE.bx b_31 [vB x_34.1, v_35], own e32 v_35 x_34.2] ∧ y = []) [(pB b_31 0, [OE.bx b_31 [vB false, .slice none 0 0]], [])] [OE.bx b_31 [vB false, .slice none 0 0]] [] _ rfl rfl (fun h v x y => rfl) rfl rfl rfl rfl ⟨_, _, _, undef, b_31, rfl, rfl, rfl, rfl⟩ (by kernel_rfl) rfl (fun w Sl Tl hZ hTT hA hP hS => ?_) rfl ?_
 ·replace hS := hS.nil e32
  have hG := hS.pick (os' := [OE.bx b_31 [vB false, .slice none 0 0], own e32 (.slice none 0 0) []] ++ [OE.bx b_24 [vB x_21.1, v_22], own e32 v_22 x_21.2, OE.bx b_19 [vB x_16.1, v_17], own e32 v_17 x_16.2, OE.bx b_14 [vB x_11.1, v_12], own e32 v_12 x_11.2, OE.bx b_9 [vB x_6.1, v_7], own e32 v_7 x_6.2, OE.bx b_3 [.pointer none, .pointer none, .pointer none], OE.bx b_1 [pB ba1_0 0, pB ba1_1 0, pB ba1_2 0]]) [1, 0, 2, 3, 4, 5, 6, 7, 8, 9, 10, 11] (by decide) rfl
  refine calls_ret (c_bignum_Int_Add _ false [] a1_0_0 a1_0_1 x_6.1 x_6.2 (.slice none 0 0) va1_0_1 v_7 b_31 ba1_0 b_9 _ hG.give ((hA.rp 11 rfl).give (Nat.le_of_ble_eq_true rfl) hG) ((hA.rb 12 rfl).give hG) (hG.giveO 7 rfl) (hG.giveB 6 rfl) _ hx_34) ?_
  rintro _ w ⟨v_35, rfl, hS1⟩
  have hS := hG.back hS1
  exact ⟨_, _, ⟨v_35, b_31, rfl, rfl, rfl, rfl⟩, SfT.mk' hZ Rds.nil Off.nil hS⟩
 rintro v_q x_q y_q ⟨v_35, b_31', hh, rfl, rfl, rfl⟩
 replace hh : ([(pB b_31 0, [OE.bx b_31 [vB false, .slice none 0 0]], [])] : List Th) = [(pB b_31' 0, [OE.bx b_31' [vB false, .slice none 0 0]], [])] := hh
 cases hh
 refine lxME_call (fun h v x y => ∃ v_38 : Value, ∃ b_31 : Nat, h = [(pB b_31 0, [OE.bx b_31 [vB false, .slice none 0 0]], [])] ∧ v = pB b_31 0 ∧ x = [OE.bx b_31 [vB x_37.1, v_38], own e32 v_38 x_37.2] ∧ y = []) [(pB b_31 0, [OE.bx b_31 [vB false, .slice none 0 0]], [])] [OE.bx b_31 [vB x_34.1, v_35], own e32 v_35 x_34.2] [] _ rfl rfl (fun h v x y => rfl) rfl rfl rfl rfl ⟨_, _, _, undef, b_31, rfl, rfl, rfl, rfl⟩ (by kernel_rfl) rfl (fun w Sl Tl hZ hTT hA hP hS => ?_) rfl ?_
 ·have hG := hS.pick (os' := [OE.bx b_31 [vB x_34.1, v_35], own e32 v_35 x_34.2] ++ [OE.bx b_24 [vB x_21.1, v_22], own e32 v_22 x_21.2, OE.bx b_19 [vB x_16.1, v_17], own e32 v_17 x_16.2, OE.bx b_14 [vB x_11.1, v_12], own e32 v_12 x_11.2, OE.bx b_9 [vB x_6.1, v_7], own e32 v_7 x_6.2, OE.bx b_3 [.pointer none, .pointer none, .pointer none], OE.bx b_1 [pB ba1_0 0, pB ba1_1 0, pB ba1_2 0]]) [0, 1, 2, 3, 4, 5, 6, 7, 8, 9, 10, 11] (by decide) rfl
  refine calls_ret (c_curve_group_mod _ a0_0_0 a0_0_1 a0_1_0 a0_1_1 a0_2_0 a0_2_1 a0_3_0 a0_3_1 a0_4_0 a0_4_1 a0_5 x_34.1 x_34.2 va0_0_1 va0_1_1 va0_2_1 va0_3_1 va0_4_1 v_35 ba0 ba0_0 ba0_1 ba0_2 ba0_3 ba0_4 b_31 _ hG.give ((hA.rp 0 rfl).give (Nat.le_of_ble_eq_true rfl) hG) ((hA.rb 1 rfl).give hG) ((hA.rp 2 rfl).give (Nat.le_of_ble_eq_true rfl) hG) ((hA.rb 3 rfl).give hG) ((hA.rp 4 rfl).give (Nat.le_of_ble_eq_true rfl) hG) ((hA.rb 5 rfl).give hG) ((hA.rp 6 rfl).give (Nat.le_of_ble_eq_true rfl) hG) ((hA.rb 7 rfl).give hG) ((hA.rp 8 rfl).give (Nat.le_of_ble_eq_true rfl) hG) ((hA.rb 9 rfl).give hG) ((hA.rb 10 rfl).give hG) _ hx_37) ?_
  rintro _ w ⟨v_38, rfl, hS1⟩
  have hS := hG.back hS1
  exact ⟨_, _, ⟨v_38, b_31, rfl, rfl, rfl, rfl⟩, SfT.mk' hZ Rds.nil Off.nil hS⟩
 rintro v_q x_q y_q ⟨v_38, b_31', hh, rfl, rfl, rfl⟩
 replace hh : ([(pB b_31 0, [OE.bx b_31 [vB false, .slice none 0 0]], [])] : List Th) = [(pB b_31' 0, [OE.bx b_31' [vB false, .slice none 0 0]], [])] := hh
 cases hh
 refine lxME_call (fun h v x y => ∃ b_43 : Nat, ∃ v_41 : Value, v = pB b_43 0 ∧ x = [OE.bx b_43 [vB x_40.1, v_41], own e32 v_41 x_40.2] ∧ y = []) [] [OE.bx b_29 [vB x_26.1, v_27], own e32 v_27 x_26.2, OE.bx b_31 [vB x_37.1, v_38], own e32 v_38 x_37.2] [] _ rfl rfl (fun h v x y => rfl) rfl rfl rfl rfl ⟨_, _, _, 0, undef, rfl, rfl, rfl⟩ (by kernel_rfl) rfl (fun w Sl Tl hZ hTT hA hP hS => ?_) rfl ?_
 ·refine calls_ret (c_curve_group_mul _ a0_0_0 a0_0_1 a0_1_0 a0_1_1 a0_2_0 a0_2_1 a0_3_0 a0_3_1 a0_4_0 a0_4_1 a0_5 x_26.1 x_26.2 x_37.1 x_37.2 va0_0_1 va0_1_1 va0_2_1 va0_3_1 va0_4_1 v_27 v_38 ba0 ba0_0 ba0_1 ba0_2 ba0_3 ba0_4 b_29 b_31 ((hA.rp 0 rfl).now hS.fr).rp ((hA.rb 1 rfl).now hS.fr) ((hA.rp 2 rfl).now hS.fr).rp ((hA.rb 3 rfl).now hS.fr) ((hA.rp 4 rfl).now hS.fr).rp ((hA.rb 5 rfl).now hS.fr) ((hA.rp 6 rfl).now hS.fr).rp ((hA.rb 7 rfl).now hS.fr) ((hA.rp 8 rfl).now hS.fr).rp ((hA.rb 9 rfl).now hS.fr) ((hA.rb 10 rfl).now hS.fr) (hS.ro 1 rfl).rp (hS.rb 0 rfl) (hS.ro 3 rfl).rp (hS.rb 2 rfl) _ hx_40) ?_
  rintro _ w ⟨v_41, b_43, rfl, hS1⟩
  have hS := hS.call hS1
  exact ⟨_, _, ⟨b_43, v_41, rfl, rfl, rfl⟩, SfT.mk' hZ Rds.nil Off.nil (hS.pick [0, 1, 6, 7, 8, 9, 10, 11, 12, 13, 14, 15] (by decide) rfl)⟩
 rintro v_q x_q y_q ⟨b_43, v_41, rfl, rfl, rfl⟩
 refine lxME_call (fun h v x y => ∃ b_48 : Nat, ∃ v_46 : Value, v = pB b_48 0 ∧ x = [OE.bx b_48 [vB x_45.1, v_46], own e32 v_46 x_45.2] ∧ y = []) [] [OE.bx b_43 [vB x_40.1, v_41], own e32 v_41 x_40.2] [] _ rfl rfl (fun h v x y => rfl) rfl rfl rfl rfl ⟨_, _, _, 0, undef, rfl, rfl, rfl⟩ (by kernel_rfl) rfl (fun w Sl Tl hZ hTT hA hP hS => ?_) rfl ?_
 ·refine calls_ret (c_curve_group_times _ a0_0_0 a0_0_1 a0_1_0 a0_1_1 a0_2_0 a0_2_1 a0_3_0 a0_3_1 a0_4_0 a0_4_1 a0_5 3 x_40.1 x_40.2 va0_0_1 va0_1_1 va0_2_1 va0_3_1 va0_4_1 v_41 ba0 ba0_0 ba0_1 ba0_2 ba0_3 ba0_4 b_43 ((hA.rp 0 rfl).now hS.fr).rp ((hA.rb 1 rfl).now hS.fr) ((hA.rp 2 rfl).now hS.fr).rp ((hA.rb 3 rfl).now hS.fr) ((hA.rp 4 rfl).now hS.fr).rp ((hA.rb 5 rfl).now hS.fr) ((hA.rp 6 rfl).now hS.fr).rp ((hA.rb 7 rfl).now hS.fr) ((hA.rp 8 rfl).now hS.fr).rp ((hA.rb 9 rfl).now hS.fr) ((hA.rb 10 rfl).now hS.fr) (hS.ro 1 rfl).rp (hS.rb 0 rfl) _ hx_45) ?_
  rintro _ w ⟨v_46, b_48, rfl, hS1⟩
  have hS := hS.call hS1
  exact ⟨_, _, ⟨b_48, v_46, rfl, rfl, rfl⟩, SfT.mk' hZ Rds.nil Off.nil (hS.pick [0, 1, 4, 5, 6, 7, 8, 9, 10, 11, 12, 13] (by decide) rfl)⟩
 rintro v_q x_q y_q ⟨b_48, v_46, rfl, rfl, rfl⟩
 refine lxME_v rfl rfl (fun w Sb wb hZ hA hP hF => kz rfl) rfl (lxME_nil fun w hQ => ?_)
 obtain ⟨S_50, wb_51, hZ, hA, hP, hS⟩ := hQ
 refine ka (kd (kc (kb 4 rfl ?_)))
 obtain ⟨x_52, hx_52, h⟩ := kf h
 refine kj (by kernel_rfl) rfl (c_curve_group_mul _ a0_0_0 a0_0_1 a0_1_0 a0_1_1 a0_2_0 a0_2_1 a0_3_0 a0_3_1 a0_4_0 a0_4_1 a0_5 x_45.1 x_45.2 x_45.1 x_45.2 va0_0_1 va0_1_1 va0_2_1 va0_3_1 va0_4_1 v_46 v_46 ba0 ba0_0 ba0_1 ba0_2 ba0_3 ba0_4 b_48 b_48 ((hA.rp 0 rfl).now hS.fr).rp ((hA.rb 1 rfl).now hS.fr) ((hA.rp 2 rfl).now hS.fr).rp ((hA.rb 3 rfl).now hS.fr) ((hA.rp 4 rfl).now hS.fr).rp ((hA.rb 5 rfl).now hS.fr) ((hA.rp 6 rfl).now hS.fr).rp ((hA.rb 7 rfl).now hS.fr) ((hA.rp 8 rfl).now hS.fr).rp ((hA.rb 9 rfl).now hS.fr) ((hA.rb 10 rfl).now hS.fr) (hS.ro 1 rfl).rp (hS.rb 0 rfl) (hS.ro 1 rfl).rp (hS.rb 0 rfl) _ hx_52) rfl ?_
 rintro _ w ⟨v_53, b_55, rfl, hS1⟩
 have hS := hS.call hS1
 refine kb 2 rfl ?_
 obtain ⟨x_57, hx_57, h⟩ := kf h
 refine kj (by kernel_rfl) rfl (c_curve_group_times _ a0_0_0 a0_0_1 a0_1_0 a0_1_1 a0_2_0 a0_2_1 a0_3_0 a0_3_1 a0_4_0 a0_4_1 a0_5 2 x_21.1 x_21.2 va0_0_1 va0_1_1 va0_2_1 va0_3_1 va0_4_1 v_22 ba0 ba0_0 ba0_1 ba0_2 ba0_3 ba0_4 b_24 ((hA.rp 0 rfl).now hS.fr).rp ((hA.rb 1 rfl).now hS.fr) ((hA.rp 2 rfl).now hS.fr).rp ((hA.rb 3 rfl).now hS.fr) ((hA.rp 4 rfl).now hS.fr).rp ((hA.rb 5 rfl).now hS.fr) ((hA.rp 6 rfl).now hS.fr).rp ((hA.rb 7 rfl).now hS.fr) ((hA.rp 8 rfl).now hS.fr).rp ((hA.rb 9 rfl).now hS.fr) ((hA.rb 10 rfl).now hS.fr) (hS.ro 5 rfl).rp (hS.rb 4 rfl) _ hx_57) rfl ?_
 rintro _ w ⟨v_58, b_60, rfl, hS1⟩
 have hS := hS.call hS1
 obtain ⟨x_62, hx_62, h⟩ := kf h
 refine kj (by kernel_rfl) rfl (c_curve_group_sub _ a0_0_0 a0_0_1 a0_1_0 a0_1_1 a0_2_0 a0_2_1 a0_3_0 a0_3_1 a0_4_0 a0_4_1 a0_5 x_52.1 x_52.2 x_57.1 x_57.2 va0_0_1 va0_1_1 va0_2_1 va0_3_1 va0_4_1 v_53 v_58 ba0 ba0_0 ba0_1 ba0_2 ba0_3 ba0_4 b_55 b_60 ((hA.rp 0 rfl).now hS.fr).rp ((hA.rb 1 rfl).now hS.fr) ((hA.rp 2 rfl).now hS.fr).rp ((hA.rb 3 rfl).now hS.fr) ((hA.rp 4 rfl).now hS.fr).rp ((hA.rb 5 rfl).now hS.fr) ((hA.rp 6 rfl).now hS.fr).rp ((hA.rb 7 rfl).now hS.fr) ((hA.rp 8 rfl).now hS.fr).rp ((hA.rb 9 rfl).now hS.fr) ((hA.rb 10 rfl).now hS.fr) (hS.ro 3 rfl).rp (hS.rb 2 rfl) (hS.ro 1 rfl).rp (hS.rb 0 rfl) _ hx_62) rfl ?_
 rintro _ w ⟨v_63, b_65, rfl, hS1⟩
 have hS := hS.call hS1
 refine kb 1 rfl ?_
 refine ke (ka (kd (kc (kb 6 rfl ?_))))
 obtain ⟨x_67, hx_67, h⟩ := kf h
 refine kj (by kernel_rfl) rfl (c_curve_group_sub _ a0_0_0 a0_0_1 a0_1_0 a0_1_1 a0_2_0 a0_2_1 a0_3_0 a0_3_1 a0_4_0 a0_4_1 a0_5 x_21.1 x_21.2 x_62.1 x_62.2 va0_0_1 va0_1_1 va0_2_1 va0_3_1 va0_4_1 v_22 v_63 ba0 ba0_0 ba0_1 ba0_2 ba0_3 ba0_4 b_24 b_65 ((hA.rp 0 rfl).now hS.fr).rp ((hA.rb 1 rfl).now hS.fr) ((hA.rp 2 rfl).now hS.fr).rp ((hA.rb 3 rfl).now hS.fr) ((hA.rp 4 rfl).now hS.fr).rp ((hA.rb 5 rfl).now hS.fr) ((hA.rp 6 rfl).now hS.fr).rp ((hA.rb 7 rfl).now hS.fr) ((hA.rp 8 rfl).now hS.fr).rp ((hA.rb 9 rfl).now hS.fr) ((hA.rb 10 rfl).now hS.fr) (hS.ro 9 rfl).rp (hS.rb 8 rfl) (hS.ro 1 rfl).rp (hS.rb 0 rfl) _ hx_67) rfl ?_
 rintro _ w ⟨v_68, b_70, rfl, hS1⟩
 have hS := hS.call hS1
 obtain ⟨x_72, hx_72, h⟩ := kf h
 refine kj (by kernel_rfl) rfl (c_curve_group_mul _ a0_0_0 a0_0_1 a0_1_0 a0_1_1 a0_2_0 a0_2_1 a0_3_0 a0_3_1 a0_4_0 a0_4_1 a0_5 x_45.1 x_45.2 x_67.1 x_67.2 va0_0_1 va0_1_1 va0_2_1 va0_3_1 va0_4_1 v_46 v_68 ba0 ba0_0 ba0_1 ba0_2 ba0_3 ba0_4 b_48 b_70 ((hA.rp 0 rfl).now hS.fr).rp ((hA.rb 1 rfl).now hS.fr) ((hA.rp 2 rfl).now hS.fr).rp ((hA.rb 3 rfl).now hS.fr) ((hA.rp 4 rfl).now hS.fr).rp ((hA.rb 5 rfl).now hS.fr) ((hA.rp 6 rfl).now hS.fr).rp ((hA.rb 7 rfl).now hS.fr) ((hA.rp 8 rfl).now hS.fr).rp ((hA.rb 9 rfl).now hS.fr) ((hA.rb 10 rfl).now hS.fr) (hS.ro 9 rfl).rp (hS.rb 8 rfl) (hS.ro 1 rfl).rp (hS.rb 0 rfl) _ hx_72) rfl ?_
 rintro _ w ⟨v_73, b_75, rfl, hS1⟩
 have hS := hS.call hS1
 refine kb 4 rfl ?_
 obtain ⟨x_77, hx_77, h⟩ := kf h
 refine kj (by kernel_rfl) rfl (c_curve_group_mul _ a0_0_0 a0_0_1 a0_1_0 a0_1_1 a0_2_0 a0_2_1 a0_3_0 a0_3_1 a0_4_0 a0_4_1 a0_5 x_11.1 x_11.2 x_11.1 x_11.2 va0_0_1 va0_1_1 va0_2_1 va0_3_1 va0_4_1 v_12 v_12 ba0 ba0_0 ba0_1 ba0_2 ba0_3 ba0_4 b_14 b_14 ((hA.rp 0 rfl).now hS.fr).rp ((hA.rb 1 rfl).now hS.fr) ((hA.rp 2 rfl).now hS.fr).rp ((hA.rb 3 rfl).now hS.fr) ((hA.rp 4 rfl).now hS.fr).rp ((hA.rb 5 rfl).now hS.fr) ((hA.rp 6 rfl).now hS.fr).rp ((hA.rb 7 rfl).now hS.fr) ((hA.rp 8 rfl).now hS.fr).rp ((hA.rb 9 rfl).now hS.fr) ((hA.rb 10 rfl).now hS.fr) (hS.ro 17 rfl).rp (hS.rb 16 rfl) (hS.ro 17 rfl).rp (hS.rb 16 rfl) _ hx_77) rfl ?_
 rintro _ w ⟨v_78, b_80, rfl, hS1⟩
 have hS := hS.call hS1
 obtain ⟨x_82, hx_82, h⟩ := kf h
 refine kj (by kernel_rfl) rfl (c_curve_group_times _ a0_0_0 a0_0_1 a0_1_0 a0_1_1 a0_2_0 a0_2_1 a0_3_0 a0_3_1 a0_4_0 a0_4_1 a0_5 8 x_77.1 x_77.2 va0_0_1 va0_1_1 va0_2_1 va0_3_1 va0_4_1 v_78 ba0 ba0_0 ba0_1 ba0_2 ba0_3 ba0_4 b_80 ((hA.rp 0 rfl).now hS.fr).rp ((hA.rb 1 rfl).now hS.fr) ((hA.rp 2 rfl).now hS.fr).rp ((hA.rb 3 rfl).now hS.fr) ((hA.rp 4 rfl).now hS.fr).rp ((hA.rb 5 rfl).now hS.fr) ((hA.rp 6 rfl).now hS.fr).rp ((hA.rb 7 rfl).now hS.fr) ((hA.rp 8 rfl).now hS.fr).rp ((hA.rb 9 rfl).now hS.fr) ((hA.rb 10 rfl).now hS.fr) (hS.ro 1 rfl).rp (hS.rb 0 rfl) _ hx_82) rfl ?_
 rintro _ w ⟨v_83, b_85, rfl, hS1⟩
 have hS := hS.call hS1
 obtain ⟨x_87, hx_87, h⟩ := kf h
 refine kj (by kernel_rfl) rfl (c_curve_group_sub _ a0_0_0 a0_0_1 a0_1_0 a0_1_1 a0_2_0 a0_2_1 a0_3_0 a0_3_1 a0_4_0 a0_4_1 a0_5 x_72.1 x_72.2 x_82.1 x_82.2 va0_0_1 va0_1_1 va0_2_1 va0_3_1 va0_4_1 v_73 v_83 ba0 ba0_0 ba0_1 ba0_2 ba0_3 ba0_4 b_75 b_85 ((hA.rp 0 rfl).now hS.fr).rp ((hA.rb 1 rfl).now hS.fr) ((hA.rp 2 rfl).now hS.fr).rp ((hA.rb 3 rfl).now hS.fr) ((hA.rp 4 rfl).now hS.fr).rp ((hA.rb 5 rfl).now hS.fr) ((hA.rp 6 rfl).now hS.fr).rp ((hA.rb 7 rfl).now hS.fr) ((hA.rp 8 rfl).now hS.fr).rp ((hA.rb 9 rfl).now hS.fr) ((hA.rb 10 rfl).now hS.fr) (hS.ro 5 rfl).rp (hS.rb 4 rfl) (hS.ro 1 rfl).rp (hS.rb 0 rfl) _ hx_87) rfl ?_
 rintro _ w ⟨v_88, b_90, rfl, hS1⟩
 have hS := hS.call hS1
 refine kb 1 rfl ?_
 refine ke (ka (kd (kc (kb 4 rfl ?_))))
 refine kh (kk (k := 1) Try.underlying64 rfl rfl nz58 rfl) rfl (kh (kt Try.underlying58 rfl rfl (hS.bxc 27 rfl 1)) rfl (kh (kk (k := 2) Try.underlying64 rfl rfl nz58 rfl) rfl (kh (kt Try.underlying58 rfl rfl (hS.bxc 27 rfl 2)) rfl ?_)))
 obtain ⟨x_92, hx_92, h⟩ := kf h
 refine kj (by kernel_rfl) rfl (c_curve_group_mul _ a0_0_0 a0_0_1 a0_1_0 a0_1_1 a0_2_0 a0_2_1 a0_3_0 a0_3_1 a0_4_0 a0_4_1 a0_5 a1_1_0 a1_1_1 a1_2_0 a1_2_1 va0_0_1 va0_1_1 va0_2_1 va0_3_1 va0_4_1 va1_1_1 va1_2_1 ba0 ba0_0 ba0_1 ba0_2 ba0_3 ba0_4 ba1_1 ba1_2 ((hA.rp 0 rfl).now hS.fr).rp ((hA.rb 1 rfl).now hS.fr) ((hA.rp 2 rfl).now hS.fr).rp ((hA.rb 3 rfl).now hS.fr) ((hA.rp 4 rfl).now hS.fr).rp ((hA.rb 5 rfl).now hS.fr) ((hA.rp 6 rfl).now hS.fr).rp ((hA.rb 7 rfl).now hS.fr) ((hA.rp 8 rfl).now hS.fr).rp ((hA.rb 9 rfl).now hS.fr) ((hA.rb 10 rfl).now hS.fr) ((hA.rp 13 rfl).now hS.fr).rp ((hA.rb 14 rfl).now hS.fr) ((hA.rp 15 rfl).now hS.fr).rp ((hA.rb 16 rfl).now hS.fr) _ hx_92) rfl ?_
 rintro _ w ⟨v_93, b_95, rfl, hS1⟩
 have hS := hS.call hS1
 obtain ⟨x_97, hx_97, h⟩ := kf h
 refine kj (by kernel_rfl) rfl (c_curve_group_times _ a0_0_0 a0_0_1 a0_1_0 a0_1_1 a0_2_0 a0_2_1 a0_3_0 a0_3_1 a0_4_0 a0_4_1 a0_5 2 x_92.1 x_92.2 va0_0_1 va0_1_1 va0_2_1 va0_3_1 va0_4_1 v_93 ba0 ba0_0 ba0_1 ba0_2 ba0_3 ba0_4 b_95 ((hA.rp 0 rfl).now hS.fr).rp ((hA.rb 1 rfl).now hS.fr) ((hA.rp 2 rfl).now hS.fr).rp ((hA.rb 3 rfl).now hS.fr) ((hA.rp 4 rfl).now hS.fr).rp ((hA.rb 5 rfl).now hS.fr) ((hA.rp 6 rfl).now hS.fr).rp ((hA.rb 7 rfl).now hS.fr) ((hA.rp 8 rfl).now hS.fr).rp ((hA.rb 9 rfl).now hS.fr) ((hA.rb 10 rfl).now hS.fr) (hS.ro 1 rfl).rp (hS.rb 0 rfl) _ hx_97) rfl ?_
 rintro _ w ⟨v_98, b_100, rfl, hS1⟩
 have hS := hS.call hS1
 refine kh (OpV_build (vs := [(0, pB b_65 0, [pB b_65 0]), (1, pB b_90 0, [pB b_90 0]), (2, pB b_100 0, [pB b_100 0])]) (cells := [pB b_65 0, pB b_90 0, pB b_100 0]) rfl lay64 ⟨rfl, rfl, rfl, trivial⟩ rfl) rfl ?_
 refine kW (kL (i := 30) (us := [pB b_65 0, pB b_90 0, pB b_100 0]) rfl sz64 rfl rfl rfl ⟨rfl, rfl, rfl, trivial⟩ rfl hS) ?_
 intro w hS
 refine ke (ka (ko ?_))
 cases h
 obtain ⟨hS0, hR⟩ := hZ.outT hTT hA hP hS
 exact QE_rv1 rfl ⟨_, rfl, run_ldAgg (us := [pB b_65 0, pB b_90 0, pB b_100 0]) Try.underlying64 rfl sz64 (hS.bxs 30 rfl rfl)⟩ ⟨b_65, v_63, b_90, v_88, b_100, v_98, rfl, hS0, (Rds.cons (hR.nth 48 rfl) (Rds.cons (hR.nth 47 rfl) (Rds.cons (hR.nth 44 rfl) (Rds.cons (hR.nth 43 rfl) (Rds.cons (hR.nth 34 rfl) (Rds.cons (hR.nth 33 rfl) Rds.nil))))))⟩
theorem c_curve_group_add (w0 : World) (a0_0_0 : Bool) (a0_0_1 : List UInt32) (a0_1_0 : Bool) (a0_1_1 : List UInt32) (a0_2_0 : Bool) (a0_2_1 : List UInt32) (a0_3_0 : Bool) (a0_3_1 : List UInt32) (a0_4_0 : Bool) (a0_4_1 : List UInt32) (a0_5 : Int) (a1_0_0 : Bool) (a1_0_1 : List UInt32) (a1_1_0 : Bool) (a1_1_1 : List UInt32) (a1_2_0 : Bool) (a1_2_1 : List UInt32) (a2_0_0 : Bool) (a2_0_1 : List UInt32) (a2_1_0 : Bool) (a2_1_1 : List UInt32) (a2_2_0 : Bool) (a2_2_1 : List UInt32) (va0_0_1 : Value) (va0_1_1 : Value) (va0_2_1 : Value) (va0_3_1 : Value) (va0_4_1 : Value) (va1_0_1 : Value) (va1_1_1 : Value) (va1_2_1 : Value) (va2_0_1 : Value) (va2_1_1 : Value) (va2_2_1 : Value) (ba0 : Nat) (ba0_0 : Nat) (ba0_1 : Nat) (ba0_2 : Nat) (ba0_3 : Nat) (ba0_4 : Nat) (ba1_0 : Nat) (ba1_1 : Nat) (ba1_2 : Nat) (ba2_0 : Nat) (ba2_1 : Nat) (ba2_2 : Nat) (T : List Nat) (hTT : TOk [] T w0) (ha0_0_1 : RP T w0 e32 va0_0_1 a0_0_1) (hBa0_0 : RB T w0 ba0_0 [vB a0_0_0, va0_0_1]) (ha0_1_1 : RP T w0 e32 va0_1_1 a0_1_1) (hBa0_1 : RB T w0 ba0_1 [vB a0_1_0, va0_1_1]) (ha0_2_1 : RP T w0 e32 va0_2_1 a0_2_1) (hBa0_2 : RB T w0 ba0_2 [vB a0_2_0, va0_2_1]) (ha0_3_1 : RP T w0 e32 va0_3_1 a0_3_1) (hBa0_3 : RB T w0 ba0_3 [vB a0_3_0, va0_3_1]) (ha0_4_1 : RP T w0 e32 va0_4_1 a0_4_1) (hBa0_4 : RB T w0 ba0_4 [vB a0_4_0, va0_4_1]) (hBa0 : RB T w0 ba0 [pB ba0_0 0, pB ba0_1 0, pB ba0_2 0, pB ba0_3 0, pB ba0_4 0, vI a0_5, .func (.func 91) #[] #[]]) (ha1_0_1 : RP T w0 e32 va1_0_1 a1_0_1) (hBa1_0 : RB T w0 ba1_0 [vB a1_0_0, va1_0_1]) (ha1_1_1 : RP T w0 e32 va1_1_1 a1_1_1) (hBa1_1 : RB T w0 ba1_1 [vB a1_1_0, va1_1_1]) (ha1_2_1 : RP T w0 e32 va1_2_1 a1_2_1) (hBa1_2 : RB T w0 ba1_2 [vB a1_2_0, va1_2_1]) (ha2_0_1 : RP T w0 e32 va2_0_1 a2_0_1) (hBa2_0 : RB T w0 ba2_0 [vB a2_0_0, va2_0_1]) (ha2_1_1 : RP T w0 e32 va2_1_1 a2_1_1) (hBa2_1 : RB T w0 ba2_1 [vB a2_1_0, va2_1_1]) (ha2_2_1 : RP T w0 e32 va2_2_1 a2_2_1) (hBa2_2 : RB T w0 ba2_2 [vB a2_2_0, va2_2_1]) (r : Bool × List UInt32 × Bool × List UInt32 × Bool × List UInt32)
  (h : F.curve_group_add a0_0_0 a0_0_1 a0_1_0 a0_1_1 a0_2_0 a0_2_1 a0_3_0 a0_3_1 a0_4_0 a0_4_1 a0_5 a1_0_0 a1_0_1 a1_1_0 a1_1_1 a1_2_0 a1_2_1 a2_0_0 a2_0_1 a2_1_0 a2_1_1 a2_2_0 a2_2_1 = some r) : Calls Try.prog 46 #[pB ba0 0, .agg #[pB ba1_0 0, pB ba1_1 0, pB ba1_2 0], .agg #[pB ba2_0 0, pB ba2_1 0, pB ba2_2 0]] w0 (Ret fun v w => ∃ b0_0 : Nat, ∃ u0_0_1 : Value, ∃ b0_1 : Nat, ∃ u0_1_1 : Value, ∃ b0_2 : Nat, ∃ u0_2_1 : Value, v = .agg #[pB b0_0 0, pB b0_1 0, pB b0_2 0] ∧ St [] w0 w [] ∧ Rds T w [OE.bx b0_2 [vB r.2.2.2.2.1, u0_2_1], red e32 u0_2_1 r.2.2.2.2.2, OE.bx b0_1 [vB r.2.2.1, u0_1_1], red e32 u0_1_1 r.2.2.2.1, OE.bx b0_0 [vB r.1, u0_0_1], red e32 u0_0_1 r.2.1]) := by
 refine ky 137 Try.func46 rfl rfl rfl ?_
 have hS := St.start w0
 have hZ := Fz.start (S := []) (w0 := w0)
 have hA0 : Rds T w0 [OE.bx ba2_2 [vB a2_2_0, va2_2_1], red e32 va2_2_1 a2_2_1, OE.bx ba2_1 [vB a2_1_0, va2_1_1], red e32 va2_1_1 a2_1_1, OE.bx ba2_0 [vB a2_0_0, va2_0_1], red e32 va2_0_1 a2_0_1, OE.bx ba1_2 [vB a1_2_0, va1_2_1], red e32 va1_2_1 a1_2_1, OE.bx ba1_1 [vB a1_1_0, va1_1_1], red e32 va1_1_1 a1_1_1, OE.bx ba1_0 [vB a1_0_0, va1_0_1], red e32 va1_0_1 a1_0_1, OE.bx ba0 [pB ba0_0 0, pB ba0_1 0, pB ba0_2 0, pB ba0_3 0, pB ba0_4 0, vI a0_5, .func (.func 91) #[] #[]], OE.bx ba0_4 [vB a0_4_0, va0_4_1], red e32 va0_4_1 a0_4_1, OE.bx ba0_3 [vB a0_3_0, va0_3_1], red e32 va0_3_1 a0_3_1, OE.bx ba0_2 [vB a0_2_0, va0_2_1], red e32 va0_2_1 a0_2_1, OE.bx ba0_1 [vB a0_1_0, va0_1_1], red e32 va0_1_1 a0_1_1, OE.bx ba0_0 [vB a0_0_0, va0_0_1], red e32 va0_0_1 a0_0_1] := Rds.cons hBa2_2.kept (Rds.cons (RP.kept (Nat.le_of_ble_eq_true rfl) ha2_2_1) (Rds.cons hBa2_1.kept (Rds.cons (RP.kept (Nat.le_of_ble_eq_true rfl) ha2_1_1) (Rds.cons hBa2_0.kept (Rds.cons (RP.kept (Nat.le_of_ble_eq_true rfl) ha2_0_1) (Rds.cons hBa1_2.kept (Rds.cons (RP.kept (Nat.le_of_ble_eq_true rfl) ha1_2_1) (Rds.cons hBa1_1.kept (Rds.cons (RP.kept (Nat.le_of_ble_eq_true rfl) ha1_1_1) (Rds.cons hBa1_0.kept (Rds.cons (RP.kept (Nat.le_of_ble_eq_true rfl) ha1_0_1) (Rds.cons hBa0.kept (Rds.cons hBa0_4.kept (Rds.cons (RP.kept (Nat.le_of_ble_eq_true rfl) ha0_4_1) (Rds.cons hBa0_3.kept (Rds.cons (RP.kept (Nat.le_of_ble_eq_true rfl) ha0_3_1) (Rds.cons hBa0_2.kept (Rds.cons (RP.kept (Nat.le_of_ble_eq_true rfl) ha0_2_1) (Rds.cons hBa0_1.kept (Rds.cons (RP.kept (Nat.le_of_ble_eq_true rfl) ha0_1_1) (Rds.cons hBa0_0.kept (Rds.cons (RP.kept (Nat.le_of_ble_eq_true rfl) ha0_0_1) (Rds.nil)))))))))))))))))))))))
 have hA := hA0.all
 have hP := hA0.off rfl
 refine km [(0, pB ba0 0), (1, .agg #[pB ba1_0 0, pB ba1_1 0, pB ba1_2 0]), (2, .agg #[pB ba2_0 0, pB ba2_1 0, pB ba2_2 0])] ⟨rfl, rfl, rfl, trivial⟩ ?_
 unfold F.curve_group_add at h
 refine kd (kc (kV (OpX_box (cs := [pB ba1_0 0, pB ba1_1 0, pB ba1_2 0]) rfl rfl hS) rfl ?_))
 rintro _ w ⟨b_1, rfl, hS⟩
 refine kV (OpX_box (cs := [pB ba2_0 0, pB ba2_1 0, pB ba2_2 0]) rfl rfl hS) rfl ?_
 rintro _ w ⟨b_3, rfl, hS⟩
 refine kV (kD (cs := [.pointer none, .pointer none, .pointer none]) tz64 rfl hS) rfl ?_
 rintro _ w ⟨b_5, rfl, hS⟩
 refine ke (ka (kd (kd (kc (kh (kk (k := 2) Try.underlying64 rfl rfl nz58 rfl) rfl (kh (kt Try.underlying58 rfl rfl (hS.bxc 2 rfl 2)) rfl ?_))))))
 obtain ⟨x_7, hx_7, h⟩ := kf h
 refine kj (by kernel_rfl) rfl (c_bignum_Int_Sign _ a1_2_0 a1_2_1 va1_2_1 ba1_2 ((hA.rp 15 rfl).now hS.fr).rp ((hA.rb 16 rfl).now hS.fr) _ hx_7) rfl ?_
 rintro _ w ⟨rfl, hS1⟩
 have hS := hS.call hS1
 refine kb 1 rfl ?_
 refine ke (ka ?_)
 refine kn rfl (fun hb_148 => ?_) (fun hb_148 => ?_)
 ·have h := if_t h hb_148
  refine kd (kc (kh (kG (us := [pB ba2_0 0, pB ba2_1 0, pB ba2_2 0]) Try.underlying64 rfl sz64 rfl (hS.bxs 1 rfl rfl)) rfl (kW (kL (i := 0) (us := [pB ba2_0 0, pB ba2_1 0, pB ba2_2 0]) rfl sz64 rfl rfl rfl ⟨rfl, rfl, rfl, trivial⟩ rfl hS) ?_)))
  intro w hS
  refine ke (ka (ko (ku ?_)))
  cases h
  obtain ⟨hS0, hR⟩ := hZ.outT hTT hA hP hS
  exact QE_rv1 rfl ⟨_, rfl, run_ldAgg (us := [pB ba2_0 0, pB ba2_1 0, pB ba2_2 0]) Try.underlying64 rfl sz64 (hS.bxs 0 rfl rfl)⟩ ⟨ba2_0, va2_0_1, ba2_1, va2_1_1, ba2_2, va2_2_1, rfl, hS0, (Rds.cons (hR.nth 22 rfl) (Rds.cons (hR.nth 21 rfl) (Rds.cons (hR.nth 20 rfl) (Rds.cons (hR.nth 19 rfl) (Rds.cons (hR.nth 18 rfl) (Rds.cons (hR.nth 17 rfl) Rds.nil))))))⟩
 have h := if_f h hb_148
 refine kq (ka (kd (kd (kc (kh (kk (k := 2) Try.underlying64 rfl rfl nz58 rfl) rfl (kh (kt Try.underlying58 rfl rfl (hS.bxc 1 rfl 2)) rfl ?_))))))
 obtain ⟨x_8, hx_8, h⟩ := kf h
 refine kj (by kernel_rfl) rfl (c_bignum_Int_Sign _ a2_2_0 a2_2_1 va2_2_1 ba2_2 ((hA.rp 21 rfl).now hS.fr).rp ((hA.rb 22 rfl).now hS.fr) _ hx_8) rfl ?_
 rintro _ w ⟨rfl, hS1⟩
 have hS := hS.call hS1
 refine kb 1 rfl ?_
 refine ke (ka ?_)
 refine kn rfl (fun hb_147 => ?_) (fun hb_147 => ?_)
 ·have h := if_t h hb_147
  refine kd (kc (kh (kG (us := [pB ba1_0 0, pB ba1_1 0, pB ba1_2 0]) Try.underlying64 rfl sz64 rfl (hS.bxs 2 rfl rfl)) rfl (kW (kL (i := 0) (us := [pB ba1_0 0, pB ba1_1 0, pB ba1_2 0]) rfl sz64 rfl rfl rfl ⟨rfl, rfl, rfl, trivial⟩ rfl hS) ?_)))
  intro w hS
  refine ke (ka (ko (ku ?_)))
  cases h
  obtain ⟨hS0, hR⟩ := hZ.outT hTT hA hP hS
  exact QE_rv1 rfl ⟨_, rfl, run_ldAgg (us := [pB ba1_0 0, pB ba1_1 0, pB ba1_2 0]) Try.underlying64 rfl sz64 (hS.bxs 0 rfl rfl)⟩ ⟨ba1_0, va1_0_1, ba1_1, va1_1_1, ba1_2, va1_2_1, rfl, hS0, (Rds.cons (hR.nth 16 rfl) (Rds.cons (hR.nth 15 rfl) (Rds.cons (hR.nth 14 rfl) (Rds.cons (hR.nth 13 rfl) (Rds.cons (hR.nth 12 rfl) (Rds.cons (hR.nth 11 rfl) Rds.nil))))))⟩
 have h := if_f h hb_147
 refine kq (ka (kd ?_))
 refine kM (fun w' => St [] w0 w' [OE.bx b_5 [.pointer none, .pointer none, .pointer none], OE.bx b_3 [pB ba2_0 0, pB ba2_1 0, pB ba2_2 0], OE.bx b_1 [pB ba1_0 0, pB ba1_1 0, pB ba1_2 0]]) (fun i => !([5, 11].contains i)) hmix (fun _ _ _ hf => hf.2) (fun _ _ hf => hf) (by kernel_rfl) ?_
 have hS := hS.drew
 show lxE _ _ _ _ _ _ _ [0, 1, 2, 3, 4, 5, 6, 7, 8, 9, 10, 11, 12, 13] _ _
 refine ki hS rfl rfl (fun w hF => kl rfl) rfl (ki hS rfl rfl (fun w hF => kk (k := 2) Try.underlying64 rfl rfl nz58 rfl) rfl (ki hS rfl rfl (fun w hF => kt Try.underlying58 rfl rfl (hF.bxc 2 rfl 2)) rfl (ki hS rfl rfl (fun w hF => kk (k := 2) Try.underlying64 rfl rfl nz58 rfl) rfl (ki hS rfl rfl (fun w hF => kt Try.underlying58 rfl rfl (hF.bxc 2 rfl 2)) rfl ?_))))
 obtain ⟨x_9, hx_9, h⟩ := kf h
 refine kO hS rfl rfl (by kernel_rfl) rfl (c_curve_group_mul _ a0_0_0 a0_0_1 a0_1_0 a0_1_1 a0_2_0 a0_2_1 a0_3_0 a0_3_1 a0_4_0 a0_4_1 a0_5 a1_2_0 a1_2_1 a1_2_0 a1_2_1 va0_0_1 va0_1_1 va0_2_1 va0_3_1 va0_4_1 va1_2_1 va1_2_1 ba0 ba0_0 ba0_1 ba0_2 ba0_3 ba0_4 ba1_2 ba1_2 ((hA.rp 0 rfl).now hS.fr).rp ((hA.rb 1 rfl).now hS.fr) ((hA.rp 2 rfl).now hS.fr).rp ((hA.rb 3 rfl).now hS.fr) ((hA.rp 4 rfl).now hS.fr).rp ((hA.rb 5 rfl).now hS.fr) ((hA.rp 6 rfl).now hS.fr).rp ((hA.rb 7 rfl).now hS.fr) ((hA.rp 8 rfl).now hS.fr).rp ((hA.rb 9 rfl).now hS.fr) ((hA.rb 10 rfl).now hS.fr) ((hA.rp 15 rfl).now hS.fr).rp ((hA.rb 16 rfl).now hS.fr) ((hA.rp 15 rfl).now hS.fr).rp ((hA.rb 16 rfl).now hS.fr) _ hx_9) rfl ?_
 rintro _ w ⟨v_10, b_12, rfl, hS1⟩
 have hS := hS.call hS1
 refine ki (hS.pick [2, 3, 4] (by decide) rfl) rfl rfl (fun w hF => kl rfl) rfl ?_
 refine ki (hS.pick [2, 3, 4] (by decide) rfl) rfl rfl (fun w hF => kk (k := 2) Try.underlying64 rfl rfl nz58 rfl) rfl ?_
 refine ki (hS.pick [2, 3, 4] (by decide) rfl) rfl rfl (fun w hF => kt Try.underlying58 rfl rfl (hF.bxc 1 rfl 2)) rfl ?_
 refine ki (hS.pick [2, 3, 4] (by decide) rfl) rfl rfl (fun w hF => kk (k := 2) Try.underlying64 rfl rfl nz58 rfl) rfl ?_
 refine ki (hS.pick [2, 3, 4] (by decide) rfl) rfl rfl (fun w hF => kt Try.underlying58 rfl rfl (hF.bxc 1 rfl 2)) rfl ?_
 obtain ⟨x_14, hx_14, h⟩ := kf h
 refine kO (hS.pick [2, 3, 4] (by decide) rfl) rfl rfl (by kernel_rfl) rfl (c_curve_group_mul _ a0_0_0 a0_0_1 a0_1_0 a0_1_1 a0_2_0 a0_2_1 a0_3_0 a0_3_1 a0_4_0 a0_4_1 a0_5 a2_2_0 a2_2_1 a2_2_0 a2_2_1 va0_0_1 va0_1_1 va0_2_1 va0_3_1 va0_4_1 va2_2_1 va2_2_1 ba0 ba0_0 ba0_1 ba0_2 ba0_3 ba0_4 ba2_2 ba2_2 ((hA.rp 0 rfl).now hS.fr).rp ((hA.rb 1 rfl).now hS.fr) ((hA.rp 2 rfl).now hS.fr).rp ((hA.rb 3 rfl).now hS.fr) ((hA.rp 4 rfl).now hS.fr).rp ((hA.rb 5 rfl).now hS.fr) ((hA.rp 6 rfl).now hS.fr).rp ((hA.rb 7 rfl).now hS.fr) ((hA.rp 8 rfl).now hS.fr).rp ((hA.rb 9 rfl).now hS.fr) ((hA.rb 10 rfl).now hS.fr) ((hA.rp 21 rfl).now hS.fr).rp ((hA.rb 22 rfl).now hS.fr) ((hA.rp 21 rfl).now hS.fr).rp ((hA.rb 22 rfl).now hS.fr) _ hx_14) rfl ?_
 rintro _ w ⟨v_15, b_17, rfl, hS1⟩
 have hS := hS.call hS1
 refine ki (hS.pick [4, 5, 6] (by decide) rfl) rfl rfl (fun w hF => kz rfl) rfl ?_
 refine ki (hS.pick [4, 5, 6] (by decide) rfl) rfl rfl (fun w hF => kz rfl) rfl ?_
 refine kX (hS.pick [4, 5, 6] (by decide) rfl) ?_
 refine ka (kd ?_)
 refine kM (fun w' => St [] w0 w' [OE.bx b_17 [vB x_14.1, v_15], own e32 v_15 x_14.2, OE.bx b_12 [vB x_9.1, v_10], own e32 v_10 x_9.2, OE.bx b_5 [.pointer none, .pointer none, .pointer none], OE.bx b_3 [pB ba2_0 0, pB ba2_1 0, pB ba2_2 0], OE.bx b_1 [pB ba1_0 0, pB ba1_1 0, pB ba1_2 0]]) (fun i => !([4, 9].contains i)) hmix (fun _ _ _ hf => hf.2) (fun _ _ hf => hf) (by kernel_rfl) ?_
 have hS := hS.drew
 show lxE _ _ _ _ _ _ _ [0, 1, 2, 3, 4, 5, 6, 7, 8, 9, 10, 11] _ _
 refine ki hS rfl rfl (fun w hF => kl rfl) rfl (ki hS rfl rfl (fun w hF => kk (k := 0) Try.underlying64 rfl rfl nz58 rfl) rfl (ki hS rfl rfl (fun w hF => kt Try.underlying58 rfl rfl (hF.bxc 6 rfl 0)) rfl (ki hS rfl rfl (fun w hF => kl rfl) rfl ?_)))
 obtain ⟨x_19, hx_19, h⟩ := kf h
 refine kO hS rfl rfl (by kernel_rfl) rfl (c_curve_group_mul _ a0_0_0 a0_0_1 a0_1_0 a0_1_1 a0_2_0 a0_2_1 a0_3_0 a0_3_1 a0_4_0 a0_4_1 a0_5 a1_0_0 a1_0_1 x_14.1 x_14.2 va0_0_1 va0_1_1 va0_2_1 va0_3_1 va0_4_1 va1_0_1 v_15 ba0 ba0_0 ba0_1 ba0_2 ba0_3 ba0_4 ba1_0 b_17 ((hA.rp 0 rfl).now hS.fr).rp ((hA.rb 1 rfl).now hS.fr) ((hA.rp 2 rfl).now hS.fr).rp ((hA.rb 3 rfl).now hS.fr) ((hA.rp 4 rfl).now hS.fr).rp ((hA.rb 5 rfl).now hS.fr) ((hA.rp 6 rfl).now hS.fr).rp ((hA.rb 7 rfl).now hS.fr) ((hA.rp 8 rfl).now hS.fr).rp ((hA.rb 9 rfl).now hS.fr) ((hA.rb 10 rfl).now hS.fr) ((hA.rp 11 rfl).now hS.fr).rp ((hA.rb 12 rfl).now hS.fr) (hS.ro 1 rfl).rp (hS.rb 0 rfl) _ hx_19) rfl ?_
 rintro _ w ⟨v_20, b_22, rfl, hS1⟩
 have hS := hS.call hS1
 refine ki (hS.pick [2, 3, 4, 5, 6, 7, 8] (by decide) rfl) rfl rfl (fun w hF => kl rfl) rfl ?_
 refine ki (hS.pick [2, 3, 4, 5, 6, 7, 8] (by decide) rfl) rfl rfl (fun w hF => kk (k := 0) Try.underlying64 rfl rfl nz58 rfl) rfl ?_
 refine ki (hS.pick [2, 3, 4, 5, 6, 7, 8] (by decide) rfl) rfl rfl (fun w hF => kt Try.underlying58 rfl rfl (hF.bxc 5 rfl 0)) rfl ?_
 refine ki (hS.pick [2, 3, 4, 5, 6, 7, 8] (by decide) rfl) rfl rfl (fun w hF => kl rfl) rfl ?_
 obtain ⟨x_24, hx_24, h⟩ := kf h
 refine kO (hS.pick [2, 3, 4, 5, 6, 7, 8] (by decide) rfl) rfl rfl (by kernel_rfl) rfl (c_curve_group_mul _ a0_0_0 a0_0_1 a0_1_0 a0_1_1 a0_2_0 a0_2_1 a0_3_0 a0_3_1 a0_4_0 a0_4_1 a0_5 a2_0_0 a2_0_1 x_9.1 x_9.2 va0_0_1 va0_1_1 va0_2_1 va0_3_1 va0_4_1 va2_0_1 v_10 ba0 ba0_0 ba0_1 ba0_2 ba0_3 ba0_4 ba2_0 b_12 ((hA.rp 0 rfl).now hS.fr).rp ((hA.rb 1 rfl).now hS.fr) ((hA.rp 2 rfl).now hS.fr).rp ((hA.rb 3 rfl).now hS.fr) ((hA.rp 4 rfl).now hS.fr).rp ((hA.rb 5 rfl).now hS.fr) ((hA.rp 6 rfl).now hS.fr).rp ((hA.rb 7 rfl).now hS.fr) ((hA.rp 8 rfl).now hS.fr).rp ((hA.rb 9 rfl).now hS.fr) ((hA.rb 10 rfl).now hS.fr) ((hA.rp 17 rfl).now hS.fr).rp ((hA.rb 18 rfl).now hS.fr) (hS.ro 5 rfl).rp (hS.rb 4 rfl) _ hx_24) rfl ?_
 rintro _ w ⟨v_25, b_27, rfl, hS1⟩
 have hS := hS.call hS1
 refine ki (hS.pick [4, 5, 6, 7, 8, 9, 10] (by decide) rfl) rfl rfl (fun w hF => kz rfl) rfl ?_
 refine ki (hS.pick [4, 5, 6, 7, 8, 9, 10] (by decide) rfl) rfl rfl (fun w hF => kz rfl) rfl ?_
 refine kX (hS.pick [4, 5, 6, 7, 8, 9, 10] (by decide) rfl) ?_
 refine ka (kd ?_)
 refine kM (fun w' => St [] w0 w' [OE.bx b_27 [vB x_24.1, v_25], own e32 v_25 x_24.2, OE.bx b_22 [vB x_19.1, v_20], own e32 v_20 x_19.2, OE.bx b_17 [vB x_14.1, v_15], own e32 v_15 x_14.2, OE.bx b_12 [vB x_9.1, v_10], own e32 v_10 x_9.2, OE.bx b_5 [.pointer none, .pointer none, .pointer none], OE.bx b_3 [pB ba2_0 0, pB ba2_1 0, pB ba2_2 0], OE.bx b_1 [pB ba1_0 0, pB ba1_1 0, pB ba1_2 0]]) (fun i => !([7, 8, 16, 17].contains i)) hmix (fun _ _ _ hf => hf.2) (fun _ _ hf => hf) (by kernel_rfl) ?_
 have hS := hS.drew
 show lxE _ _ _ _ _ _ _ [0, 1, 2, 3, 4, 5, 6, 7, 8, 9, 10, 11, 12, 13, 14, 15, 16, 17, 18, 19] _ _
 refine ki hS rfl rfl (fun w hF => kl rfl) rfl (ki hS rfl rfl (fun w hF => kk (k := 1) Try.underlying64 rfl rfl nz58 rfl) rfl (ki hS rfl rfl (fun w hF => kt Try.underlying58 rfl rfl (hF.bxc 10 rfl 1)) rfl (ki hS rfl rfl (fun w hF => kl rfl) rfl (ki hS rfl rfl (fun w hF => kk (k := 2) Try.underlying64 rfl rfl nz58 rfl) rfl (ki hS rfl rfl (fun w hF => kt Try.underlying58 rfl rfl (hF.bxc 9 rfl 2)) rfl (ki hS rfl rfl (fun w hF => kl rfl) rfl ?_))))))
 obtain ⟨x_29, hx_29, h⟩ := kf h
 refine kO hS rfl rfl (by kernel_rfl) rfl (c_curve_group_mul _ a0_0_0 a0_0_1 a0_1_0 a0_1_1 a0_2_0 a0_2_1 a0_3_0 a0_3_1 a0_4_0 a0_4_1 a0_5 a2_2_0 a2_2_1 x_14.1 x_14.2 va0_0_1 va0_1_1 va0_2_1 va0_3_1 va0_4_1 va2_2_1 v_15 ba0 ba0_0 ba0_1 ba0_2 ba0_3 ba0_4 ba2_2 b_17 ((hA.rp 0 rfl).now hS.fr).rp ((hA.rb 1 rfl).now hS.fr) ((hA.rp 2 rfl).now hS.fr).rp ((hA.rb 3 rfl).now hS.fr) ((hA.rp 4 rfl).now hS.fr).rp ((hA.rb 5 rfl).now hS.fr) ((hA.rp 6 rfl).now hS.fr).rp ((hA.rb 7 rfl).now hS.fr) ((hA.rp 8 rfl).now hS.fr).rp ((hA.rb 9 rfl).now hS.fr) ((hA.rb 10 rfl).now hS.fr) ((hA.rp 21 rfl).now hS.fr).rp ((hA.rb 22 rfl).now hS.fr) (hS.ro 5 rfl).rp (hS.rb 4 rfl) _ hx_29) rfl ?_
 rintro _ w ⟨v_30, b_32, rfl, hS1⟩
 have hS := hS.call hS1
 obtain ⟨x_34, hx_34, h⟩ := kf h
 refine kO (hS.pick [2, 3, 4, 5, 6, 7, 8, 9, 10, 11, 12] (by decide) rfl) rfl rfl (by kernel_rfl) rfl (c_curve_group_mul _ a0_0_0 a0_0_1 a0_1_0 a0_1_1 a0_2_0 a0_2_1 a0_3_0 a0_3_1 a0_4_0 a0_4_1 a0_5 a1_1_0 a1_1_1 x_29.1 x_29.2 va0_0_1 va0_1_1 va0_2_1 va0_3_1 va0_4_1 va1_1_1 v_30 ba0 ba0_0 ba0_1 ba0_2 ba0_3 ba0_4 ba1_1 b_32 ((hA.rp 0 rfl).now hS.fr).rp ((hA.rb 1 rfl).now hS.fr) ((hA.rp 2 rfl).now hS.fr).rp ((hA.rb 3 rfl).now hS.fr) ((hA.rp 4 rfl).now hS.fr).rp ((hA.rb 5 rfl).now hS.fr) ((hA.rp 6 rfl).now hS.fr).rp ((hA.rb 7 rfl).now hS.fr) ((hA.rp 8 rfl).now hS.fr).rp ((hA.rb 9 rfl).now hS.fr) ((hA.rb 10 rfl).now hS.fr) ((hA.rp 13 rfl).now hS.fr).rp ((hA.rb 14 rfl).now hS.fr) (hS.ro 1 rfl).rp (hS.rb 0 rfl) _ hx_34) rfl ?_
 rintro _ w ⟨v_35, b_37, rfl, hS1⟩
 have hS := hS.call hS1
 refine ki (hS.pick [4, 5, 6, 7, 8, 9, 10, 11, 12, 13, 14] (by decide) rfl) rfl rfl (fun w hF => kl rfl) rfl ?_
 refine ki (hS.pick [4, 5, 6, 7, 8, 9, 10, 11, 12, 13, 14] (by decide) rfl) rfl rfl (fun w hF => kk (k := 1) Try.underlying64 rfl rfl nz58 rfl) rfl ?_
 refine ki (hS.pick [4, 5, 6, 7, 8, 9, 10, 11, 12, 13, 14] (by decide) rfl) rfl rfl (fun w hF => kt Try.underlying58 rfl rfl (hF.bxc 9 rfl 1)) rfl ?_
 refine ki (hS.pick [4, 5, 6, 7, 8, 9, 10, 11, 12, 13, 14] (by decide) rfl) rfl rfl (fun w hF => kl rfl) rfl ?_
 refine ki (hS.pick [4, 5, 6, 7, 8, 9, 10, 11, 12, 13, 14] (by decide) rfl) rfl rfl (fun w hF => kk (k := 2) Try.underlying64 rfl rfl nz58 rfl) rfl ?_
 refine ki (hS.pick [4, 5, 6, 7, 8, 9, 10, 11, 12, 13, 14] (by decide) rfl) rfl rfl (fun w hF => kt Try.underlying58 rfl rfl (hF.bxc 10 rfl 2)) rfl ?_
 refine ki (hS.pick [4, 5, 6, 7, 8, 9, 10, 11, 12, 13, 14] (by decide) rfl) rfl rfl (fun w hF => kl rfl) rfl ?_
 obtain ⟨x_39, hx_39, h⟩ := kf h
 refine kO (hS.pick [4, 5, 6, 7, 8, 9, 10, 11, 12, 13, 14] (by decide) rfl) rfl rfl (by kernel_rfl) rfl (c_curve_group_mul _ a0_0_0 a0_0_1 a0_1_0 a0_1_1 a0_2_0 a0_2_1 a0_3_0 a0_3_1 a0_4_0 a0_4_1 a0_5 a1_2_0 a1_2_1 x_9.1 x_9.2 va0_0_1 va0_1_1 va0_2_1 va0_3_1 va0_4_1 va1_2_1 v_10 ba0 ba0_0 ba0_1 ba0_2 ba0_3 ba0_4 ba1_2 b_12 ((hA.rp 0 rfl).now hS.fr).rp ((hA.rb 1 rfl).now hS.fr) ((hA.rp 2 rfl).now hS.fr).rp ((hA.rb 3 rfl).now hS.fr) ((hA.rp 4 rfl).now hS.fr).rp ((hA.rb 5 rfl).now hS.fr) ((hA.rp 6 rfl).now hS.fr).rp ((hA.rb 7 rfl).now hS.fr) ((hA.rp 8 rfl).now hS.fr).rp ((hA.rb 9 rfl).now hS.fr) ((hA.rb 10 rfl).now hS.fr) ((hA.rp 15 rfl).now hS.fr).rp ((hA.rb 16 rfl).now hS.fr) (hS.ro 11 rfl).rp (hS.rb 10 rfl) _ hx_39) rfl ?_
 rintro _ w ⟨v_40, b_42, rfl, hS1⟩
 have hS := hS.call hS1
 obtain ⟨x_44, hx_44, h⟩ := kf h
 refine kO (hS.pick [6, 7, 8, 9, 10, 11, 12, 13, 14, 15, 16] (by decide) rfl) rfl rfl (by kernel_rfl) rfl (c_curve_group_mul _ a0_0_0 a0_0_1 a0_1_0 a0_1_1 a0_2_0 a0_2_1 a0_3_0 a0_3_1 a0_4_0 a0_4_1 a0_5 a2_1_0 a2_1_1 x_39.1 x_39.2 va0_0_1 va0_1_1 va0_2_1 va0_3_1 va0_4_1 va2_1_1 v_40 ba0 ba0_0 ba0_1 ba0_2 ba0_3 ba0_4 ba2_1 b_42 ((hA.rp 0 rfl).now hS.fr).rp ((hA.rb 1 rfl).now hS.fr) ((hA.rp 2 rfl).now hS.fr).rp ((hA.rb 3 rfl).now hS.fr) ((hA.rp 4 rfl).now hS.fr).rp ((hA.rb 5 rfl).now hS.fr) ((hA.rp 6 rfl).now hS.fr).rp ((hA.rb 7 rfl).now hS.fr) ((hA.rp 8 rfl).now hS.fr).rp ((hA.rb 9 rfl).now hS.fr) ((hA.rb 10 rfl).now hS.fr) ((hA.rp 19 rfl).now hS.fr).rp ((hA.rb 20 rfl).now hS.fr) (hS.ro 1 rfl).rp (hS.rb 0 rfl) _ hx_44) rfl ?_
 rintro _ w ⟨v_45, b_47, rfl, hS1⟩
 have hS := hS.call hS1
 refine ki (hS.pick [8, 9, 10, 11, 12, 13, 14, 15, 16, 17, 18] (by decide) rfl) rfl rfl (fun w hF => kz rfl) rfl ?_
 refine ki (hS.pick [8, 9, 10, 11, 12, 13, 14, 15, 16, 17, 18] (by decide) rfl) rfl rfl (fun w hF => kz rfl) rfl ?_
 refine kX (hS.pick [8, 9, 10, 11, 12, 13, 14, 15, 16, 17, 18] (by decide) rfl) ?_
 refine ka (kd (kc (kb 3 rfl ?_)))
 obtain ⟨x_49, hx_49, h⟩ := kf h
 refine kj (by kernel_rfl) rfl (c_curve_group_sub _ a0_0_0 a0_0_1 a0_1_0 a0_1_1 a0_2_0 a0_2_1 a0_3_0 a0_3_1 a0_4_0 a0_4_1 a0_5 x_24.1 x_24.2 x_19.1 x_19.2 va0_0_1 va0_1_1 va0_2_1 va0_3_1 va0_4_1 v_25 v_20 ba0 ba0_0 ba0_1 ba0_2 ba0_3 ba0_4 b_27 b_22 ((hA.rp 0 rfl).now hS.fr).rp ((hA.rb 1 rfl).now hS.fr) ((hA.rp 2 rfl).now hS.fr).rp ((hA.rb 3 rfl).now hS.fr) ((hA.rp 4 rfl).now hS.fr).rp ((hA.rb 5 rfl).now hS.fr) ((hA.rp 6 rfl).now hS.fr).rp ((hA.rb 7 rfl).now hS.fr) ((hA.rp 8 rfl).now hS.fr).rp ((hA.rb 9 rfl).now hS.fr) ((hA.rb 10 rfl).now hS.fr) (hS.ro 9 rfl).rp (hS.rb 8 rfl) (hS.ro 11 rfl).rp (hS.rb 10 rfl) _ hx_49) rfl ?_
 rintro _ w ⟨v_50, b_52, rfl, hS1⟩
 have hS := hS.call hS1
 refine kb 3 rfl ?_
 obtain ⟨x_54, hx_54, h⟩ := kf h
 refine kj (by kernel_rfl) rfl (c_curve_group_sub _ a0_0_0 a0_0_1 a0_1_0 a0_1_1 a0_2_0 a0_2_1 a0_3_0 a0_3_1 a0_4_0 a0_4_1 a0_5 x_44.1 x_44.2 x_34.1 x_34.2 va0_0_1 va0_1_1 va0_2_1 va0_3_1 va0_4_1 v_45 v_35 ba0 ba0_0 ba0_1 ba0_2 ba0_3 ba0_4 b_47 b_37 ((hA.rp 0 rfl).now hS.fr).rp ((hA.rb 1 rfl).now hS.fr) ((hA.rp 2 rfl).now hS.fr).rp ((hA.rb 3 rfl).now hS.fr) ((hA.rp 4 rfl).now hS.fr).rp ((hA.rb 5 rfl).now hS.fr) ((hA.rp 6 rfl).now hS.fr).rp ((hA.rb 7 rfl).now hS.fr) ((hA.rp 8 rfl).now hS.fr).rp ((hA.rb 9 rfl).now hS.fr) ((hA.rb 10 rfl).now hS.fr) (hS.ro 3 rfl).rp (hS.rb 2 rfl) (hS.ro 7 rfl).rp (hS.rb 6 rfl) _ hx_54) rfl ?_
 rintro _ w ⟨v_55, b_57, rfl, hS1⟩
 have hS := hS.call hS1
 refine kb 2 rfl ?_
 refine ke (ka (kd (kd (kc (kb 1 rfl ?_)))))
 obtain ⟨x_59, hx_59, h⟩ := kf h
 refine kj (by kernel_rfl) rfl (c_bignum_Int_Sign _ x_49.1 x_49.2 v_50 b_52 (hS.ro 3 rfl).rp (hS.rb 2 rfl) _ hx_59) rfl ?_
 rintro _ w ⟨rfl, hS1⟩
 have hS := hS.call hS1
 refine kb 1 rfl ?_
 refine ke (ka ?_)
 refine kn rfl (fun hb_146 => ?_) (fun hb_146 => ?_)
 ·have h := if_t h hb_146
  refine kd (kd (kc (kb 1 rfl ?_)))
  obtain ⟨x_60, hx_60, h⟩ := kf h
  refine kj (by kernel_rfl) rfl (c_bignum_Int_Sign _ x_54.1 x_54.2 v_55 b_57 (hS.ro 1 rfl).rp (hS.rb 0 rfl) _ hx_60) rfl ?_
  rintro _ w ⟨rfl, hS1⟩
  have hS := hS.call hS1
  refine kb 1 rfl ?_
  refine ke (ka ?_)
  refine kn rfl (fun hb_80 => ?_) (fun hb_80 => ?_)
  ·have h := if_t h hb_80
   refine kd (kc (kb 1 rfl ?_))
   refine kh (kG (us := [pB ba1_0 0, pB ba1_1 0, pB ba1_2 0]) Try.underlying64 rfl sz64 rfl (hS.bxs 22 rfl rfl)) rfl ?_
   replace hS := hS.pick (os' := [OE.bx b_57 [vB x_54.1, v_55], own e32 v_55 x_54.2, OE.bx b_52 [vB x_49.1, v_50], own e32 v_50 x_49.2, OE.bx b_47 [vB x_44.1, v_45], own e32 v_45 x_44.2, OE.bx b_42 [vB x_39.1, v_40], own e32 v_40 x_39.2, OE.bx b_37 [vB x_34.1, v_35], own e32 v_35 x_34.2, OE.bx b_32 [vB x_29.1, v_30], own e32 v_30 x_29.2, OE.bx b_27 [vB x_24.1, v_25], own e32 v_25 x_24.2, OE.bx b_22 [vB x_19.1, v_20], own e32 v_20 x_19.2, OE.bx b_17 [vB x_14.1, v_15], own e32 v_15 x_14.2, OE.bx b_12 [vB x_9.1, v_10], own e32 v_10 x_9.2] ++ [OE.bx b_5 [.pointer none, .pointer none, .pointer none], OE.bx b_3 [pB ba2_0 0, pB ba2_1 0, pB ba2_2 0], OE.bx b_1 [pB ba1_0 0, pB ba1_1 0, pB ba1_2 0]]) [0, 1, 2, 3, 4, 5, 6, 7, 8, 9, 10, 11, 12, 13, 14, 15, 16, 17, 18, 19, 20, 21, 22] (by decide) rfl
   obtain ⟨hZ, hA, hP, hS⟩ := hZ.frzK hTT hA hP hS
   obtain ⟨x_61, hx_61, h⟩ := kf h
   refine kj (by kernel_rfl) rfl (c_curve_group_double _ a0_0_0 a0_0_1 a0_1_0 a0_1_1 a0_2_0 a0_2_1 a0_3_0 a0_3_1 a0_4_0 a0_4_1 a0_5 a1_0_0 a1_0_1 a1_1_0 a1_1_1 a1_2_0 a1_2_1 va0_0_1 va0_1_1 va0_2_1 va0_3_1 va0_4_1 va1_0_1 va1_1_1 va1_2_1 ba0 ba0_0 ba0_1 ba0_2 ba0_3 ba0_4 ba1_0 ba1_1 ba1_2 _ (hZ.okT hTT hS) (hA.rpT hP 0 rfl) (hA.rbT hP 1 rfl) (hA.rpT hP 2 rfl) (hA.rbT hP 3 rfl) (hA.rpT hP 4 rfl) (hA.rbT hP 5 rfl) (hA.rpT hP 6 rfl) (hA.rbT hP 7 rfl) (hA.rpT hP 8 rfl) (hA.rbT hP 9 rfl) (hA.rbT hP 10 rfl) (hA.rpT hP 11 rfl) (hA.rbT hP 12 rfl) (hA.rpT hP 13 rfl) (hA.rbT hP 14 rfl) (hA.rpT hP 15 rfl) (hA.rbT hP 16 rfl) _ hx_61) rfl ?_
   rintro _ w ⟨b0_62_0, u0_62_0_1, b0_62_1, u0_62_1_1, b0_62_2, u0_62_2_1, rfl, hS1, hR1⟩
   obtain ⟨S_65, wb_66, hZ, hA, hP, hS⟩ := hZ.callK hA hP hS hS1 hR1 rfl
   refine kW (kL (i := 0) (us := [pB b0_62_0 0, pB b0_62_1 0, pB b0_62_2 0]) rfl sz64 rfl rfl rfl ⟨rfl, rfl, rfl, trivial⟩ rfl hS) ?_
   intro w hS
   refine ke (ka (ko (ku (ku ?_))))
   cases h
   obtain ⟨hS0, hR⟩ := hZ.outT hTT hA hP hS
   exact QE_rv1 rfl ⟨_, rfl, run_ldAgg (us := [pB b0_62_0 0, pB b0_62_1 0, pB b0_62_2 0]) Try.underlying64 rfl sz64 (hS.bxs 0 rfl rfl)⟩ ⟨b0_62_0, u0_62_0_1, b0_62_1, u0_62_1_1, b0_62_2, u0_62_2_1, rfl, hS0, (Rds.cons (hR.nth 48 rfl) (Rds.cons (hR.nth 47 rfl) (Rds.cons (hR.nth 46 rfl) (Rds.cons (hR.nth 45 rfl) (Rds.cons (hR.nth 44 rfl) (Rds.cons (hR.nth 43 rfl) Rds.nil))))))⟩
  have h := if_f h hb_80
  refine kq (ka (kd (kc ?_)))
  obtain ⟨x_67, hx_67, h⟩ := kf h
  refine kj (by kernel_rfl) rfl (c_curve_infinity _     _ hx_67) rfl ?_
  rintro _ w ⟨v_68, v_70, v_72, b_74, b_76, b_78, rfl, hS1⟩
  have hS := hS.call hS1
  refine kW (kL (i := 26) (us := [pB b_74 0, pB b_76 0, pB b_78 0]) rfl sz64 rfl rfl rfl ⟨rfl, rfl, rfl, trivial⟩ rfl hS) ?_
  intro w hS
  refine ke (ka (ko (ku ?_)))
  cases h
  obtain ⟨hS0, hR⟩ := hZ.outT hTT hA hP hS
  exact QE_rv1 rfl ⟨_, rfl, run_ldAgg (us := [pB b_74 0, pB b_76 0, pB b_78 0]) Try.underlying64 rfl sz64 (hS.bxs 26 rfl rfl)⟩ ⟨b_74, v_68, b_76, v_70, b_78, v_72, rfl, hS0, (Rds.cons (hR.nth 47 rfl) (Rds.cons (hR.nth 46 rfl) (Rds.cons (hR.nth 49 rfl) (Rds.cons (hR.nth 48 rfl) (Rds.cons (hR.nth 51 rfl) (Rds.cons (hR.nth 50 rfl) Rds.nil))))))⟩
 have h := if_f h hb_146
 refine kq (ka (kd (kc (kb 3 rfl ?_))))
 obtain ⟨x_81, hx_81, h⟩ := kf h
 refine kj (by kernel_rfl) rfl (c_curve_group_mul _ a0_0_0 a0_0_1 a0_1_0 a0_1_1 a0_2_0 a0_2_1 a0_3_0 a0_3_1 a0_4_0 a0_4_1 a0_5 x_49.1 x_49.2 x_49.1 x_49.2 va0_0_1 va0_1_1 va0_2_1 va0_3_1 va0_4_1 v_50 v_50 ba0 ba0_0 ba0_1 ba0_2 ba0_3 ba0_4 b_52 b_52 ((hA.rp 0 rfl).now hS.fr).rp ((hA.rb 1 rfl).now hS.fr) ((hA.rp 2 rfl).now hS.fr).rp ((hA.rb 3 rfl).now hS.fr) ((hA.rp 4 rfl).now hS.fr).rp ((hA.rb 5 rfl).now hS.fr) ((hA.rp 6 rfl).now hS.fr).rp ((hA.rb 7 rfl).now hS.fr) ((hA.rp 8 rfl).now hS.fr).rp ((hA.rb 9 rfl).now hS.fr) ((hA.rb 10 rfl).now hS.fr) (hS.ro 3 rfl).rp (hS.rb 2 rfl) (hS.ro 3 rfl).rp (hS.rb 2 rfl) _ hx_81) rfl ?_
 rintro _ w ⟨v_82, b_84, rfl, hS1⟩
 have hS := hS.call hS1
 refine kb 1 rfl ?_
 refine ke (ka (kd (kc (kb 3 rfl ?_))))
 obtain ⟨x_86, hx_86, h⟩ := kf h
 refine kj (by kernel_rfl) rfl (c_curve_group_mul _ a0_0_0 a0_0_1 a0_1_0 a0_1_1 a0_2_0 a0_2_1 a0_3_0 a0_3_1 a0_4_0 a0_4_1 a0_5 x_49.1 x_49.2 x_81.1 x_81.2 va0_0_1 va0_1_1 va0_2_1 va0_3_1 va0_4_1 v_50 v_82 ba0 ba0_0 ba0_1 ba0_2 ba0_3 ba0_4 b_52 b_84 ((hA.rp 0 rfl).now hS.fr).rp ((hA.rb 1 rfl).now hS.fr) ((hA.rp 2 rfl).now hS.fr).rp ((hA.rb 3 rfl).now hS.fr) ((hA.rp 4 rfl).now hS.fr).rp ((hA.rb 5 rfl).now hS.fr) ((hA.rp 6 rfl).now hS.fr).rp ((hA.rb 7 rfl).now hS.fr) ((hA.rp 8 rfl).now hS.fr).rp ((hA.rb 9 rfl).now hS.fr) ((hA.rb 10 rfl).now hS.fr) (hS.ro 5 rfl).rp (hS.rb 4 rfl) (hS.ro 1 rfl).rp (hS.rb 0 rfl) _ hx_86) rfl ?_
 rintro _ w ⟨v_87, b_89, rfl, hS1⟩
 have hS := hS.call hS1
 refine kb 3 rfl ?_
 obtain ⟨x_91, hx_91, h⟩ := kf h
 refine kj (by kernel_rfl) rfl (c_curve_group_mul _ a0_0_0 a0_0_1 a0_1_0 a0_1_1 a0_2_0 a0_2_1 a0_3_0 a0_3_1 a0_4_0 a0_4_1 a0_5 x_19.1 x_19.2 x_81.1 x_81.2 va0_0_1 va0_1_1 va0_2_1 va0_3_1 va0_4_1 v_20 v_82 ba0 ba0_0 ba0_1 ba0_2 ba0_3 ba0_4 b_22 b_84 ((hA.rp 0 rfl).now hS.fr).rp ((hA.rb 1 rfl).now hS.fr) ((hA.rp 2 rfl).now hS.fr).rp ((hA.rb 3 rfl).now hS.fr) ((hA.rp 4 rfl).now hS.fr).rp ((hA.rb 5 rfl).now hS.fr) ((hA.rp 6 rfl).now hS.fr).rp ((hA.rb 7 rfl).now hS.fr) ((hA.rp 8 rfl).now hS.fr).rp ((hA.rb 9 rfl).now hS.fr) ((hA.rb 10 rfl).now hS.fr) (hS.ro 19 rfl).rp (hS.rb 18 rfl) (hS.ro 3 rfl).rp (hS.rb 2 rfl) _ hx_91) rfl ?_
 rintro _ w ⟨v_92, b_94, rfl, hS1⟩
 have hS := hS.call hS1
 refine kb 2 rfl ?_
 refine ke (ka (kd (kc (kb 5 rfl ?_))))
 obtain ⟨x_96, hx_96, h⟩ := kf h
 refine kj (by kernel_rfl) rfl (c_curve_group_mul _ a0_0_0 a0_0_1 a0_1_0 a0_1_1 a0_2_0 a0_2_1 a0_3_0 a0_3_1 a0_4_0 a0_4_1 a0_5 x_54.1 x_54.2 x_54.1 x_54.2 va0_0_1 va0_1_1 va0_2_1 va0_3_1 va0_4_1 v_55 v_55 ba0 ba0_0 ba0_1 ba0_2 ba0_3 ba0_4 b_57 b_57 ((hA.rp 0 rfl).now hS.fr).rp ((hA.rb 1 rfl).now hS.fr) ((hA.rp 2 rfl).now hS.fr).rp ((hA.rb 3 rfl).now hS.fr) ((hA.rp 4 rfl).now hS.fr).rp ((hA.rb 5 rfl).now hS.fr) ((hA.rp 6 rfl).now hS.fr).rp ((hA.rb 7 rfl).now hS.fr) ((hA.rp 8 rfl).now hS.fr).rp ((hA.rb 9 rfl).now hS.fr) ((hA.rb 10 rfl).now hS.fr) (hS.ro 7 rfl).rp (hS.rb 6 rfl) (hS.ro 7 rfl).rp (hS.rb 6 rfl) _ hx_96) rfl ?_
 rintro _ w ⟨v_97, b_99, rfl, hS1⟩
 have hS := hS.call hS1
 refine kb 1 rfl ?_
 obtain ⟨x_101, hx_101, h⟩ := kf h
 refine kj (by kernel_rfl) rfl (c_curve_group_sub _ a0_0_0 a0_0_1 a0_1_0 a0_1_1 a0_2_0 a0_2_1 a0_3_0 a0_3_1 a0_4_0 a0_4_1 a0_5 x_96.1 x_96.2 x_86.1 x_86.2 va0_0_1 va0_1_1 va0_2_1 va0_3_1 va0_4_1 v_97 v_87 ba0 ba0_0 ba0_1 ba0_2 ba0_3 ba0_4 b_99 b_89 ((hA.rp 0 rfl).now hS.fr).rp ((hA.rb 1 rfl).now hS.fr) ((hA.rp 2 rfl).now hS.fr).rp ((hA.rb 3 rfl).now hS.fr) ((hA.rp 4 rfl).now hS.fr).rp ((hA.rb 5 rfl).now hS.fr) ((hA.rp 6 rfl).now hS.fr).rp ((hA.rb 7 rfl).now hS.fr) ((hA.rp 8 rfl).now hS.fr).rp ((hA.rb 9 rfl).now hS.fr) ((hA.rb 10 rfl).now hS.fr) (hS.ro 1 rfl).rp (hS.rb 0 rfl) (hS.ro 5 rfl).rp (hS.rb 4 rfl) _ hx_101) rfl ?_
 rintro _ w ⟨v_102, b_104, rfl, hS1⟩
 have hS := hS.call hS1
 refine kb 2 rfl ?_
 obtain ⟨x_106, hx_106, h⟩ := kf h
 refine kj (by kernel_rfl) rfl (c_curve_group_times _ a0_0_0 a0_0_1 a0_1_0 a0_1_1 a0_2_0 a0_2_1 a0_3_0 a0_3_1 a0_4_0 a0_4_1 a0_5 2 x_91.1 x_91.2 va0_0_1 va0_1_1 va0_2_1 va0_3_1 va0_4_1 v_92 ba0 ba0_0 ba0_1 ba0_2 ba0_3 ba0_4 b_94 ((hA.rp 0 rfl).now hS.fr).rp ((hA.rb 1 rfl).now hS.fr) ((hA.rp 2 rfl).now hS.fr).rp ((hA.rb 3 rfl).now hS.fr) ((hA.rp 4 rfl).now hS.fr).rp ((hA.rb 5 rfl).now hS.fr) ((hA.rp 6 rfl).now hS.fr).rp ((hA.rb 7 rfl).now hS.fr) ((hA.rp 8 rfl).now hS.fr).rp ((hA.rb 9 rfl).now hS.fr) ((hA.rb 10 rfl).now hS.fr) (hS.ro 5 rfl).rp (hS.rb 4 rfl) _ hx_106) rfl ?_
 rintro _ w ⟨v_107, b_109, rfl, hS1⟩
 have hS := hS.call hS1
 obtain ⟨x_111, hx_111, h⟩ := kf h
 refine kj (by kernel_rfl) rfl (c_curve_group_sub _ a0_0_0 a0_0_1 a0_1_0 a0_1_1 a0_2_0 a0_2_1 a0_3_0 a0_3_1 a0_4_0 a0_4_1 a0_5 x_101.1 x_101.2 x_106.1 x_106.2 va0_0_1 va0_1_1 va0_2_1 va0_3_1 va0_4_1 v_102 v_107 ba0 ba0_0 ba0_1 ba0_2 ba0_3 ba0_4 b_104 b_109 ((hA.rp 0 rfl).now hS.fr).rp ((hA.rb 1 rfl).now hS.fr) ((hA.rp 2 rfl).now hS.fr).rp ((hA.rb 3 rfl).now hS.fr) ((hA.rp 4 rfl).now hS.fr).rp ((hA.rb 5 rfl).now hS.fr) ((hA.rp 6 rfl).now hS.fr).rp ((hA.rb 7 rfl).now hS.fr) ((hA.rp 8 rfl).now hS.fr).rp ((hA.rb 9 rfl).now hS.fr) ((hA.rb 10 rfl).now hS.fr) (hS.ro 3 rfl).rp (hS.rb 2 rfl) (hS.ro 1 rfl).rp (hS.rb 0 rfl) _ hx_111) rfl ?_
 rintro _ w ⟨v_112, b_114, rfl, hS1⟩
 have hS := hS.call hS1
 refine kb 1 rfl ?_
 refine ke (ka (kd (kc (kb 6 rfl ?_))))
 obtain ⟨x_116, hx_116, h⟩ := kf h
 refine kj (by kernel_rfl) rfl (c_curve_group_sub _ a0_0_0 a0_0_1 a0_1_0 a0_1_1 a0_2_0 a0_2_1 a0_3_0 a0_3_1 a0_4_0 a0_4_1 a0_5 x_91.1 x_91.2 x_111.1 x_111.2 va0_0_1 va0_1_1 va0_2_1 va0_3_1 va0_4_1 v_92 v_112 ba0 ba0_0 ba0_1 ba0_2 ba0_3 ba0_4 b_94 b_114 ((hA.rp 0 rfl).now hS.fr).rp ((hA.rb 1 rfl).now hS.fr) ((hA.rp 2 rfl).now hS.fr).rp ((hA.rb 3 rfl).now hS.fr) ((hA.rp 4 rfl).now hS.fr).rp ((hA.rb 5 rfl).now hS.fr) ((hA.rp 6 rfl).now hS.fr).rp ((hA.rb 7 rfl).now hS.fr) ((hA.rp 8 rfl).now hS.fr).rp ((hA.rb 9 rfl).now hS.fr) ((hA.rb 10 rfl).now hS.fr) (hS.ro 9 rfl).rp (hS.rb 8 rfl) (hS.ro 1 rfl).rp (hS.rb 0 rfl) _ hx_116) rfl ?_
 rintro _ w ⟨v_117, b_119, rfl, hS1⟩
 have hS := hS.call hS1
 obtain ⟨x_121, hx_121, h⟩ := kf h
 refine kj (by kernel_rfl) rfl (c_curve_group_mul _ a0_0_0 a0_0_1 a0_1_0 a0_1_1 a0_2_0 a0_2_1 a0_3_0 a0_3_1 a0_4_0 a0_4_1 a0_5 x_54.1 x_54.2 x_116.1 x_116.2 va0_0_1 va0_1_1 va0_2_1 va0_3_1 va0_4_1 v_55 v_117 ba0 ba0_0 ba0_1 ba0_2 ba0_3 ba0_4 b_57 b_119 ((hA.rp 0 rfl).now hS.fr).rp ((hA.rb 1 rfl).now hS.fr) ((hA.rp 2 rfl).now hS.fr).rp ((hA.rb 3 rfl).now hS.fr) ((hA.rp 4 rfl).now hS.fr).rp ((hA.rb 5 rfl).now hS.fr) ((hA.rp 6 rfl).now hS.fr).rp ((hA.rb 7 rfl).now hS.fr) ((hA.rp 8 rfl).now hS.fr).rp ((hA.rb 9 rfl).now hS.fr) ((hA.rb 10 rfl).now hS.fr) (hS.ro 17 rfl).rp (hS.rb 16 rfl) (hS.ro 1 rfl).rp (hS.rb 0 rfl) _ hx_121) rfl ?_
 rintro _ w ⟨v_122, b_124, rfl, hS1⟩
 have hS := hS.call hS1
 refine kb 3 rfl ?_
 obtain ⟨x_126, hx_126, h⟩ := kf h
 refine kj (by kernel_rfl) rfl (c_curve_group_mul _ a0_0_0 a0_0_1 a0_1_0 a0_1_1 a0_2_0 a0_2_1 a0_3_0 a0_3_1 a0_4_0 a0_4_1 a0_5 x_34.1 x_34.2 x_86.1 x_86.2 va0_0_1 va0_1_1 va0_2_1 va0_3_1 va0_4_1 v_35 v_87 ba0 ba0_0 ba0_1 ba0_2 ba0_3 ba0_4 b_37 b_89 ((hA.rp 0 rfl).now hS.fr).rp ((hA.rb 1 rfl).now hS.fr) ((hA.rp 2 rfl).now hS.fr).rp ((hA.rb 3 rfl).now hS.fr) ((hA.rp 4 rfl).now hS.fr).rp ((hA.rb 5 rfl).now hS.fr) ((hA.rp 6 rfl).now hS.fr).rp ((hA.rb 7 rfl).now hS.fr) ((hA.rp 8 rfl).now hS.fr).rp ((hA.rb 9 rfl).now hS.fr) ((hA.rb 10 rfl).now hS.fr) (hS.ro 27 rfl).rp (hS.rb 26 rfl) (hS.ro 15 rfl).rp (hS.rb 14 rfl) _ hx_126) rfl ?_
 rintro _ w ⟨v_127, b_129, rfl, hS1⟩
 have hS := hS.call hS1
 obtain ⟨x_131, hx_131, h⟩ := kf h
 refine kj (by kernel_rfl) rfl (c_curve_group_sub _ a0_0_0 a0_0_1 a0_1_0 a0_1_1 a0_2_0 a0_2_1 a0_3_0 a0_3_1 a0_4_0 a0_4_1 a0_5 x_121.1 x_121.2 x_126.1 x_126.2 va0_0_1 va0_1_1 va0_2_1 va0_3_1 va0_4_1 v_122 v_127 ba0 ba0_0 ba0_1 ba0_2 ba0_3 ba0_4 b_124 b_129 ((hA.rp 0 rfl).now hS.fr).rp ((hA.rb 1 rfl).now hS.fr) ((hA.rp 2 rfl).now hS.fr).rp ((hA.rb 3 rfl).now hS.fr) ((hA.rp 4 rfl).now hS.fr).rp ((hA.rb 5 rfl).now hS.fr) ((hA.rp 6 rfl).now hS.fr).rp ((hA.rb 7 rfl).now hS.fr) ((hA.rp 8 rfl).now hS.fr).rp ((hA.rb 9 rfl).now hS.fr) ((hA.rb 10 rfl).now hS.fr) (hS.ro 3 rfl).rp (hS.rb 2 rfl) (hS.ro 1 rfl).rp (hS.rb 0 rfl) _ hx_131) rfl ?_
 rintro _ w ⟨v_132, b_134, rfl, hS1⟩
 have hS := hS.call hS1
 refine kb 1 rfl ?_
 refine ke (ka (kd (kc (kb 5 rfl ?_))))
 refine kh (kk (k := 2) Try.underlying64 rfl rfl nz58 rfl) rfl (kh (kt Try.underlying58 rfl rfl (hS.bxc 44 rfl 2)) rfl (kh (kk (k := 2) Try.underlying64 rfl rfl nz58 rfl) rfl (kh (kt Try.underlying58 rfl rfl (hS.bxc 43 rfl 2)) rfl ?_)))
 obtain ⟨x_136, hx_136, h⟩ := kf h
 refine kj (by kernel_rfl) rfl (c_curve_group_mul _ a0_0_0 a0_0_1 a0_1_0 a0_1_1 a0_2_0 a0_2_1 a0_3_0 a0_3_1 a0_4_0 a0_4_1 a0_5 a1_2_0 a1_2_1 a2_2_0 a2_2_1 va0_0_1 va0_1_1 va0_2_1 va0_3_1 va0_4_1 va1_2_1 va2_2_1 ba0 ba0_0 ba0_1 ba0_2 ba0_3 ba0_4 ba1_2 ba2_2 ((hA.rp 0 rfl).now hS.fr).rp ((hA.rb 1 rfl).now hS.fr) ((hA.rp 2 rfl).now hS.fr).rp ((hA.rb 3 rfl).now hS.fr) ((hA.rp 4 rfl).now hS.fr).rp ((hA.rb 5 rfl).now hS.fr) ((hA.rp 6 rfl).now hS.fr).rp ((hA.rb 7 rfl).now hS.fr) ((hA.rp 8 rfl).now hS.fr).rp ((hA.rb 9 rfl).now hS.fr) ((hA.rb 10 rfl).now hS.fr) ((hA.rp 15 rfl).now hS.fr).rp ((hA.rb 16 rfl).now hS.fr) ((hA.rp 21 rfl).now hS.fr).rp ((hA.rb 22 rfl).now hS.fr) _ hx_136) rfl ?_
 rintro _ w ⟨v_137, b_139, rfl, hS1⟩
 have hS := hS.call hS1
 obtain ⟨x_141, hx_141, h⟩ := kf h
 refine kj (by kernel_rfl) rfl (c_curve_group_mul _ a0_0_0 a0_0_1 a0_1_0 a0_1_1 a0_2_0 a0_2_1 a0_3_0 a0_3_1 a0_4_0 a0_4_1 a0_5 x_49.1 x_49.2 x_136.1 x_136.2 va0_0_1 va0_1_1 va0_2_1 va0_3_1 va0_4_1 v_50 v_137 ba0 ba0_0 ba0_1 ba0_2 ba0_3 ba0_4 b_52 b_139 ((hA.rp 0 rfl).now hS.fr).rp ((hA.rb 1 rfl).now hS.fr) ((hA.rp 2 rfl).now hS.fr).rp ((hA.rb 3 rfl).now hS.fr) ((hA.rp 4 rfl).now hS.fr).rp ((hA.rb 5 rfl).now hS.fr) ((hA.rp 6 rfl).now hS.fr).rp ((hA.rb 7 rfl).now hS.fr) ((hA.rp 8 rfl).now hS.fr).rp ((hA.rb 9 rfl).now hS.fr) ((hA.rb 10 rfl).now hS.fr) (hS.ro 27 rfl).rp (hS.rb 26 rfl) (hS.ro 1 rfl).rp (hS.rb 0 rfl) _ hx_141) rfl ?_
 rintro _ w ⟨v_142, b_144, rfl, hS1⟩
 have hS := hS.call hS1
 refine kh (OpV_build (vs := [(0, pB b_114 0, [pB b_114 0]), (1, pB b_134 0, [pB b_134 0]), (2, pB b_144 0, [pB b_144 0])]) (cells := [pB b_114 0, pB b_134 0, pB b_144 0]) rfl lay64 ⟨rfl, rfl, rfl, trivial⟩ rfl) rfl ?_
 refine kW (kL (i := 46) (us := [pB b_114 0, pB b_134 0, pB b_144 0]) rfl sz64 rfl rfl rfl ⟨rfl, rfl, rfl, trivial⟩ rfl hS) ?_
 intro w hS
 refine ke (ka (ko ?_))
 cases h
 obtain ⟨hS0, hR⟩ := hZ.outT hTT hA hP hS
 exact QE_rv1 rfl ⟨_, rfl, run_ldAgg (us := [pB b_114 0, pB b_134 0, pB b_144 0]) Try.underlying64 rfl sz64 (hS.bxs 46 rfl rfl)⟩ ⟨b_114, v_112, b_134, v_132, b_144, v_142, rfl, hS0, (Rds.cons (hR.nth 71 rfl) (Rds.cons (hR.nth 70 rfl) (Rds.cons (hR.nth 67 rfl) (Rds.cons (hR.nth 66 rfl) (Rds.cons (hR.nth 59 rfl) (Rds.cons (hR.nth 58 rfl) Rds.nil))))))⟩
theorem c_curve_group_show (w0 : World) (a0_0_0 : Bool) (a0_0_1 : List UInt32) (a0_1_0 : Bool) (a0_1_1 : List UInt32) (a0_2_0 : Bool) (a0_2_1 : List UInt32) (a0_3_0 : Bool) (a0_3_1 : List UInt32) (a0_4_0 : Bool) (a0_4_1 : List UInt32) (a0_5 : Int) (a1_0_0 : Bool) (a1_0_1 : List UInt32) (a1_1_0 : Bool) (a1_1_1 : List UInt32) (a1_2_0 : Bool) (a1_2_1 : List UInt32) (va0_0_1 : Value) (va0_1_1 : Value) (va0_2_1 : Value) (va0_3_1 : Value) (va0_4_1 : Value) (va1_0_1 : Value) (va1_1_1 : Value) (va1_2_1 : Value) (ba0 : Nat) (ba0_0 : Nat) (ba0_1 : Nat) (ba0_2 : Nat) (ba0_3 : Nat) (ba0_4 : Nat) (ba1_0 : Nat) (ba1_1 : Nat) (ba1_2 : Nat) (ha0_0_1 : RP [] w0 e32 va0_0_1 a0_0_1) (hBa0_0 : RB [] w0 ba0_0 [vB a0_0_0, va0_0_1]) (ha0_1_1 : RP [] w0 e32 va0_1_1 a0_1_1) (hBa0_1 : RB [] w0 ba0_1 [vB a0_1_0, va0_1_1]) (ha0_2_1 : RP [] w0 e32 va0_2_1 a0_2_1) (hBa0_2 : RB [] w0 ba0_2 [vB a0_2_0, va0_2_1]) (ha0_3_1 : RP [] w0 e32 va0_3_1 a0_3_1) (hBa0_3 : RB [] w0 ba0_3 [vB a0_3_0, va0_3_1]) (ha0_4_1 : RP [] w0 e32 va0_4_1 a0_4_1) (hBa0_4 : RB [] w0 ba0_4 [vB a0_4_0, va0_4_1]) (hBa0 : RB [] w0 ba0 [pB ba0_0 0, pB ba0_1 0, pB ba0_2 0, pB ba0_3 0, pB ba0_4 0, vI a0_5, .func (.func 91) #[] #[]]) (ha1_0_1 : RP [] w0 e32 va1_0_1 a1_0_1) (hBa1_0 : RB [] w0 ba1_0 [vB a1_0_0, va1_0_1]) (ha1_1_1 : RP [] w0 e32 va1_1_1 a1_1_1) (hBa1_1 : RB [] w0 ba1_1 [vB a1_1_0, va1_1_1]) (ha1_2_1 : RP [] w0 e32 va1_2_1 a1_2_1) (hBa1_2 : RB [] w0 ba1_2 [vB a1_2_0, va1_2_1]) (r : List UInt32 × List UInt32 × Bool)
  (h : F.curve_group_show a0_0_0 a0_0_1 a0_1_0 a0_1_1 a0_2_0 a0_2_1 a0_3_0 a0_3_1 a0_4_0 a0_4_1 a0_5 a1_0_0 a1_0_1 a1_1_0 a1_1_1 a1_2_0 a1_2_1 = some r) : Calls Try.prog 45 #[pB ba0 0, .agg #[pB ba1_0 0, pB ba1_1 0, pB ba1_2 0]] w0 (Ret fun v w => ∃ u0_0 u0_1 : Value, v = .agg #[u0_0, u0_1, vB r.2.2] ∧ St [] w0 w [own e32 u0_0 r.1, own e32 u0_1 r.2.1]) := by
 refine ky 40 Try.func45 rfl rfl rfl ?_
 have hS := St.start w0
 refine km [(0, pB ba0 0), (1, .agg #[pB ba1_0 0, pB ba1_1 0, pB ba1_2 0])] ⟨rfl, rfl, trivial⟩ ?_
 unfold F.curve_group_show at h
 refine kd (kc (kV (OpX_box (cs := [pB ba1_0 0, pB ba1_1 0, pB ba1_2 0]) rfl rfl hS) rfl ?_))
 rintro _ w ⟨b_1, rfl, hS⟩
 refine kV (kD (cs := [.slice none 0 0, .slice none 0 0, vB false]) tz26 rfl hS) rfl ?_
 rintro _ w ⟨b_3, rfl, hS⟩
 refine ke (ka (kd (kd (kc (kh (kk (k := 2) Try.underlying64 rfl rfl nz58 rfl) rfl (kh (kt Try.underlying58 rfl rfl (hS.bxc 1 rfl 2)) rfl ?_))))))
 obtain ⟨x_5, hx_5, h⟩ := kf h
 refine kj (by kernel_rfl) rfl (c_bignum_Int_Sign _ a1_2_0 a1_2_1 va1_2_1 ba1_2 (ha1_2_1.now hS.fr).rp (hBa1_2.now hS.fr) _ hx_5) rfl ?_
 rintro _ w ⟨rfl, hS1⟩
 have hS := hS.call hS1
 refine kb 1 rfl ?_
 refine ke (ka ?_)
 refine kn rfl (fun hb_40 => ?_) (fun hb_40 => ?_)
 ·have h := if_t h hb_40
  refine kd (kc (kh (OpV_build (vs := [(2, vB true, [vB true])]) (cells := [.slice none 0 0, .slice none 0 0, vB true]) rfl lay26 ⟨rfl, trivial⟩ rfl) rfl (kW (kL (i := 0) (us := [.slice none 0 0, .slice none 0 0, vB true]) rfl sz26 rfl rfl rfl ⟨rfl, rfl, rfl, trivial⟩ rfl hS) ?_)))
  intro w hS
  refine ke (ka (ko (ku ?_)))
  cases h
  exact QE_rv1 rfl ⟨_, rfl, run_ldAgg (us := [.slice none 0 0, .slice none 0 0, vB true]) Try.underlying26 rfl sz26 (hS.bxs 0 rfl rfl)⟩ ⟨.slice none 0 0, .slice none 0 0, rfl, ((hS.nil e32).nil e32).pick [1, 0] (by decide) rfl⟩
 have h := if_f h hb_40
 refine kq (ka (kd ?_))
 refine kM (fun w' => St [] w0 w' [OE.bx b_3 [.slice none 0 0, .slice none 0 0, vB false], OE.bx b_1 [pB ba1_0 0, pB ba1_1 0, pB ba1_2 0]]) (fun i => !([0, 7].contains i)) hmix (fun _ _ _ hf => hf.2) (fun _ _ hf => hf) (by kernel_rfl) ?_
 have hS := hS.drew
 show lxE _ _ _ _ _ _ _ [0, 1, 2, 3, 4, 5, 6, 7, 8] _ _
 refine kY hS rfl rfl (kD (cs := [vB false, .slice none 0 0]) tz72 rfl hS) rfl ?_
 rintro _ w ⟨b_6, rfl, hS⟩
 refine ki (hS.pick [1, 2] (by decide) rfl) rfl rfl (fun w hF => kk (k := 2) Try.underlying64 rfl rfl nz58 rfl) rfl ?_
 refine ki (hS.pick [1, 2] (by decide) rfl) rfl rfl (fun w hF => kt Try.underlying58 rfl rfl (hF.bxc 1 rfl 2)) rfl ?_
 refine ki (hS.pick [1, 2] (by decide) rfl) rfl rfl (fun w hF => kl rfl) rfl ?_
 refine ki (hS.pick [1, 2] (by decide) rfl) rfl rfl (fun w hF => kI rfl) rfl ?_
 refine ki (hS.pick [1, 2] (by decide) rfl) rfl rfl (fun w hF => kk (k := 0) Try.underlying61 rfl rfl nz58 rfl) rfl ?_
 refine ki (hS.pick [1, 2] (by decide) rfl) rfl rfl (fun w hF => kt Try.underlying58 rfl rfl (hBa0.cell hF.fr 0 rfl)) rfl ?_
 replace hS := hS.nil e32
 have hG := hS.pick (os' := [OE.bx b_6 [vB false, .slice none 0 0], own e32 (.slice none 0 0) []] ++ [OE.bx b_3 [.slice none 0 0, .slice none 0 0, vB false], OE.bx b_1 [pB ba1_0 0, pB ba1_1 0, pB ba1_2 0]]) [1, 0, 2, 3] (by decide) rfl
 obtain ⟨x_9, hx_9, h⟩ := kf h
 refine kO (hS.pick [2, 3] (by decide) rfl) rfl rfl (by kernel_rfl) rfl (c_bignum_Int_ModInverse _ false [] a1_2_0 a1_2_1 a0_0_0 a0_0_1 (.slice none 0 0) va1_2_1 va0_0_1 b_6 ba1_2 ba0_0 _ hG.give (ha1_2_1.give (Nat.le_of_ble_eq_true rfl) hG) (hBa1_2.give hG) (ha0_0_1.give (Nat.le_of_ble_eq_true rfl) hG) (hBa0_0.give hG) _ hx_9) rfl ?_
 rintro _ w ⟨v_10, rfl, hS1⟩
 have hS := hG.back hS1
 refine ki (hS.pick [2, 3] (by decide) rfl) rfl rfl (fun w hF => kz rfl) rfl ?_
 refine kX (hS.pick [2, 3] (by decide) rfl) ?_
 refine ka (kd (kc (kb 3 rfl ?_)))
 obtain ⟨x_12, hx_12, h⟩ := kf h
 refine kj (by kernel_rfl) rfl (c_curve_group_mul _ a0_0_0 a0_0_1 a0_1_0 a0_1_1 a0_2_0 a0_2_1 a0_3_0 a0_3_1 a0_4_0 a0_4_1 a0_5 x_9.1 x_9.2 x_9.1 x_9.2 va0_0_1 va0_1_1 va0_2_1 va0_3_1 va0_4_1 v_10 v_10 ba0 ba0_0 ba0_1 ba0_2 ba0_3 ba0_4 b_6 b_6 (ha0_0_1.now hS.fr).rp (hBa0_0.now hS.fr) (ha0_1_1.now hS.fr).rp (hBa0_1.now hS.fr) (ha0_2_1.now hS.fr).rp (hBa0_2.now hS.fr) (ha0_3_1.now hS.fr).rp (hBa0_3.now hS.fr) (ha0_4_1.now hS.fr).rp (hBa0_4.now hS.fr) (hBa0.now hS.fr) (hS.ro 1 rfl).rp (hS.rb 0 rfl) (hS.ro 1 rfl).rp (hS.rb 0 rfl) _ hx_12) rfl ?_
 rintro _ w ⟨v_13, b_15, rfl, hS1⟩
 have hS := hS.call hS1
 refine kb 1 rfl ?_
 refine ke (ka (kd ?_))
 refine wpC_regionS (fun w' => St [] w0 w' [OE.bx b_15 [vB x_12.1, v_13], own e32 v_13 x_12.2, OE.bx b_6 [vB x_9.1, v_10], own e32 v_10 x_9.2, OE.bx b_3 [.slice none 0 0, .slice none 0 0, vB false], OE.bx b_1 [pB ba1_0 0, pB ba1_1 0, pB ba1_2 0]]) (fun i => !([4, 5, 12, 13, 14, 16].contains i)) hmix (fun _ _ _ hf => hf.2) (fun _ _ hf => hf) (by kernel_rfl) ?_
 have hS := hS.drew
 show lxE _ _ _ _ _ _ _ [0, 1, 2, 3, 4, 5, 6, 7, 8, 9, 10, 11, 12, 13, 14, 15, 16] _ _
 refine ki hS rfl rfl (fun w hF => kl rfl) rfl (ki hS rfl rfl (fun w hF => kk (k := 0) Try.underlying64 rfl rfl nz58 rfl) rfl (ki hS rfl rfl (fun w hF => kt Try.underlying58 rfl rfl (hF.bxc 5 rfl 0)) rfl (ki hS rfl rfl (fun w hF => kl rfl) rfl ?_)))
 obtain ⟨x_17, hx_17, h⟩ := kf h
 refine kO hS rfl rfl (by kernel_rfl) rfl (c_curve_group_mul _ a0_0_0 a0_0_1 a0_1_0 a0_1_1 a0_2_0 a0_2_1 a0_3_0 a0_3_1 a0_4_0 a0_4_1 a0_5 a1_0_0 a1_0_1 x_12.1 x_12.2 va0_0_1 va0_1_1 va0_2_1 va0_3_1 va0_4_1 va1_0_1 v_13 ba0 ba0_0 ba0_1 ba0_2 ba0_3 ba0_4 ba1_0 b_15 (ha0_0_1.now hS.fr).rp (hBa0_0.now hS.fr) (ha0_1_1.now hS.fr).rp (hBa0_1.now hS.fr) (ha0_2_1.now hS.fr).rp (hBa0_2.now hS.fr) (ha0_3_1.now hS.fr).rp (hBa0_3.now hS.fr) (ha0_4_1.now hS.fr).rp (hBa0_4.now hS.fr) (hBa0.now hS.fr) (ha1_0_1.now hS.fr).rp (hBa1_0.now hS.fr) (hS.ro 1 rfl).rp (hS.rb 0 rfl) _ hx_17) rfl ?_
 rintro _ w ⟨v_18, b_20, rfl, hS1⟩
 have hS := hS.call hS1
 obtain ⟨x_22, hx_22, h⟩ := kf h
 refine kO (hS.pick [2, 3, 4, 5, 6, 7] (by decide) rfl) rfl rfl (by kernel_rfl) rfl (c_curve_out _ x_17.1 x_17.2 v_18 b_20 (hS.ro 1 rfl).rp (hS.rb 0 rfl) _ hx_22) rfl ?_
 rintro v_23 w hS1
 have hS := hS.call hS1
 have h1_25 := (hS.ro 0 rfl).one
 refine ki (hS.pick [3, 4, 5, 6, 7, 8] (by decide) rfl) rfl rfl (fun w hF => kl rfl) rfl ?_
 refine ki (hS.pick [3, 4, 5, 6, 7, 8] (by decide) rfl) rfl rfl (fun w hF => kk (k := 1) Try.underlying64 rfl rfl nz58 rfl) rfl ?_
 refine ki (hS.pick [3, 4, 5, 6, 7, 8] (by decide) rfl) rfl rfl (fun w hF => kt Try.underlying58 rfl rfl (hF.bxc 5 rfl 1)) rfl ?_
 refine ki (hS.pick [3, 4, 5, 6, 7, 8] (by decide) rfl) rfl rfl (fun w hF => kl rfl) rfl ?_
 refine ki (hS.pick [3, 4, 5, 6, 7, 8] (by decide) rfl) rfl rfl (fun w hF => kl rfl) rfl ?_
 refine ki (hS.pick [3, 4, 5, 6, 7, 8] (by decide) rfl) rfl rfl (fun w hF => kl rfl) rfl ?_
 obtain ⟨x_26, hx_26, h⟩ := kf h
 refine kO (hS.pick [3, 4, 5, 6, 7, 8] (by decide) rfl) rfl rfl (by kernel_rfl) rfl (c_curve_group_mul _ a0_0_0 a0_0_1 a0_1_0 a0_1_1 a0_2_0 a0_2_1 a0_3_0 a0_3_1 a0_4_0 a0_4_1 a0_5 x_9.1 x_9.2 x_12.1 x_12.2 va0_0_1 va0_1_1 va0_2_1 va0_3_1 va0_4_1 v_10 v_13 ba0 ba0_0 ba0_1 ba0_2 ba0_3 ba0_4 b_6 b_15 (ha0_0_1.now hS.fr).rp (hBa0_0.now hS.fr) (ha0_1_1.now hS.fr).rp (hBa0_1.now hS.fr) (ha0_2_1.now hS.fr).rp (hBa0_2.now hS.fr) (ha0_3_1.now hS.fr).rp (hBa0_3.now hS.fr) (ha0_4_1.now hS.fr).rp (hBa0_4.now hS.fr) (hBa0.now hS.fr) (hS.ro 6 rfl).rp (hS.rb 5 rfl) (hS.ro 4 rfl).rp (hS.rb 3 rfl) _ hx_26) rfl ?_
 rintro _ w ⟨v_27, b_29, rfl, hS1⟩
 have hS := hS.call hS1
 obtain ⟨x_31, hx_31, h⟩ := kf h
 refine kO (hS.pick [5, 6, 7, 8, 9, 10] (by decide) rfl) rfl rfl (by kernel_rfl) rfl (c_curve_group_mul _ a0_0_0 a0_0_1 a0_1_0 a0_1_1 a0_2_0 a0_2_1 a0_3_0 a0_3_1 a0_4_0 a0_4_1 a0_5 a1_1_0 a1_1_1 x_26.1 x_26.2 va0_0_1 va0_1_1 va0_2_1 va0_3_1 va0_4_1 va1_1_1 v_27 ba0 ba0_0 ba0_1 ba0_2 ba0_3 ba0_4 ba1_1 b_29 (ha0_0_1.now hS.fr).rp (hBa0_0.now hS.fr) (ha0_1_1.now hS.fr).rp (hBa0_1.now hS.fr) (ha0_2_1.now hS.fr).rp (hBa0_2.now hS.fr) (ha0_3_1.now hS.fr).rp (hBa0_3.now hS.fr) (ha0_4_1.now hS.fr).rp (hBa0_4.now hS.fr) (hBa0.now hS.fr) (ha1_1_1.now hS.fr).rp (hBa1_1.now hS.fr) (hS.ro 1 rfl).rp (hS.rb 0 rfl) _ hx_31) rfl ?_
 rintro _ w ⟨v_32, b_34, rfl, hS1⟩
 have hS := hS.call hS1
 obtain ⟨x_36, hx_36, h⟩ := kf h
 refine kO (hS.pick [7, 8, 9, 10, 11, 12] (by decide) rfl) rfl rfl (by kernel_rfl) rfl (c_curve_out _ x_31.1 x_31.2 v_32 b_34 (hS.ro 1 rfl).rp (hS.rb 0 rfl) _ hx_36) rfl ?_
 rintro v_37 w hS1
 have hS := hS.call hS1
 have h1_39 := (hS.ro 0 rfl).one
 refine ki (hS.pick [8, 9, 10, 11, 12, 13] (by decide) rfl) rfl rfl (fun w hF => OpV_build (vs := [(0, v_23, [v_23]), (1, v_37, [v_37])]) (cells := [v_23, v_37, vB false]) rfl lay26 ⟨(cells_one h1_25), (cells_one h1_39), trivial⟩ rfl) rfl ?_
 refine kZ (hS.pick [8, 9, 10, 11, 12, 13] (by decide) rfl) rfl rfl (kL (i := 12) (us := [v_23, v_37, vB false]) rfl sz26 rfl rfl rfl ⟨(hS.ro 5 rfl).one, (hS.ro 0 rfl).one, rfl, trivial⟩ rfl hS) ?_
 intro w hS
 refine kX trivial ?_
 refine ka (ko ?_)
 cases h
 exact QE_rv1 rfl ⟨_, rfl, run_ldAgg (us := [v_23, v_37, vB false]) Try.underlying26 rfl sz26 (hS.bxs 12 rfl rfl)⟩ ⟨v_23, v_37, rfl, hS.pick [5, 0] (by decide) rfl⟩
end Go.Proofs
