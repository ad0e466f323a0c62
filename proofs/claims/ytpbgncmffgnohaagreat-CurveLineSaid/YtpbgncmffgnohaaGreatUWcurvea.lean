import Derived.Test.YtpbgncmffgnohaaGreatUW0
import Derived.Test.YtpbgncmffgnohaaGreatGkFcurve
import Derived.Test.YtpbgncmffgnohaaGreatUWbignumc
import Derived.Test.YtpbgncmffgnohaaGreatUWnatb
set_option linter.unusedVariables false
set_option linter.unusedSimpArgs false
set_option linter.unusedVariables false
set_option maxRecDepth 4000
namespace Go.Proofs
open Go Go.RowKit Go.Gk
theorem c_curve_number (w0 : World) (a0 : List UInt8)   (r : Bool × List UInt32)
  (h : F.curve_number a0 = some r) : Calls Tryz.prog 100 #[vS a0] w0 (Ret fun v w => ∃ u0_1 : Value, ∃ un0 : Nat, v = pB un0 0 ∧ St [] w0 w [OE.bx un0 [vB r.1, u0_1], own e32 u0_1 r.2]) := by
 refine kz 12 Tryz.func100 rfl rfl rfl ?_
 have hS := St.start w0
 refine kn [(0, vS a0)] ⟨rfl, trivial⟩ ?_
 unfold F.curve_number at h
 refine ke (kc (kb 1 rfl ?_))
 refine kf (ka (ke (kc (kW (kE (cs := [vB false, .slice none 0 0]) tz62 rfl hS) rfl ?_))))
 rintro _ w ⟨b_1, rfl, hS⟩
 refine kb 1 rfl ?_
 replace hS := hS.nil e32
 have hG := hS.pick (os' := [OE.bx b_1 [vB false, .slice none 0 0], own e32 (.slice none 0 0) []] ++ []) [1, 0] (by decide) rfl
 obtain ⟨x_4, hx_4, h⟩ := kg h
 refine kk (by kernel_rfl) rfl (c_bignum_Int_SetString _ false [] a0 16 (.slice none 0 0) b_1 _ hG.give  _ hx_4) rfl ?_
 rintro _ w ⟨v_5, rfl, hS1⟩
 have hS := hG.back hS1
 refine kb 5 rfl ?_
 refine kf (ka (ke (kc (kb 2 rfl ?_))))
 refine kf (ka (kq ?_))
 cases h
 exact ky rfl rfl ⟨v_5, b_1, rfl, hS.pick [0, 1] (by decide) rfl⟩
theorem c_curve_p256 (w0 : World)   (T : List Nat) (hTT : TOk [] T w0) (r : Bool × List UInt32 × Bool × List UInt32 × Bool × List UInt32 × Bool × List UInt32 × Bool × List UInt32 × Int)
  (h : F.curve_p256  = some r) : Calls Tryz.prog 66 #[] w0 (Ret fun v w => ∃ b0 : Nat, ∃ b0_0 : Nat, ∃ u0_0_1 : Value, ∃ b0_1 : Nat, ∃ u0_1_1 : Value, ∃ b0_2 : Nat, ∃ u0_2_1 : Value, ∃ b0_3 : Nat, ∃ u0_3_1 : Value, ∃ b0_4 : Nat, ∃ u0_4_1 : Value, v = pB b0 0 ∧ St [] w0 w [] ∧ Rds T w [OE.bx b0 [pB b0_0 0, pB b0_1 0, pB b0_2 0, pB b0_3 0, pB b0_4 0, vI r.2.2.2.2.2.2.2.2.2.2, .func (.func 101) #[] #[]], OE.bx b0_4 [vB r.2.2.2.2.2.2.2.2.1, u0_4_1], red e32 u0_4_1 r.2.2.2.2.2.2.2.2.2.1, OE.bx b0_3 [vB r.2.2.2.2.2.2.1, u0_3_1], red e32 u0_3_1 r.2.2.2.2.2.2.2.1, OE.bx b0_2 [vB r.2.2.2.2.1, u0_2_1], red e32 u0_2_1 r.2.2.2.2.2.1, OE.bx b0_1 [vB r.2.2.1, u0_1_1], red e32 u0_1_1 r.2.2.2.1, OE.bx b0_0 [vB r.1, u0_0_1], red e32 u0_0_1 r.2.1]) := by
 refine kz 8 Tryz.func66 rfl rfl rfl ?_
 have hS := St.start w0
 have hZ := Fz.start (S := []) (w0 := w0)
 have hA0 : Rds T w0 [] := Rds.nil
 have hA := hA0.all
 have hP := hA0.off rfl
 refine kn [] trivial ?_
 unfold F.curve_p256 at h
 refine ke (kc (kb 1 rfl ?_))
 refine kf (ka (ke (kc ?_)))
 obtain ⟨x_1, hx_1, h⟩ := kg h
 refine kk (by kernel_rfl) rfl (c_curve_number _ [102, 102, 102, 102, 102, 102, 102, 102, 48, 48, 48, 48, 48, 48, 48, 49, 48, 48, 48, 48, 48, 48, 48, 48, 48, 48, 48, 48, 48, 48, 48, 48, 48, 48, 48, 48, 48, 48, 48, 48, 102, 102, 102, 102, 102, 102, 102, 102, 102, 102, 102, 102, 102, 102, 102, 102, 102, 102, 102, 102, 102, 102, 102, 102]    _ hx_1) rfl ?_
 rintro _ w ⟨v_2, b_4, rfl, hS1⟩
 have hS := hS.call hS1
 obtain ⟨x_6, hx_6, h⟩ := kg h
 refine kk (by kernel_rfl) rfl (c_curve_number _ [53, 97, 99, 54, 51, 53, 100, 56, 97, 97, 51, 97, 57, 51, 101, 55, 98, 51, 101, 98, 98, 100, 53, 53, 55, 54, 57, 56, 56, 54, 98, 99, 54, 53, 49, 100, 48, 54, 98, 48, 99, 99, 53, 51, 98, 48, 102, 54, 51, 98, 99, 101, 51, 99, 51, 101, 50, 55, 100, 50, 54, 48, 52, 98]    _ hx_6) rfl ?_
 rintro _ w ⟨v_7, b_9, rfl, hS1⟩
 have hS := hS.call hS1
 obtain ⟨x_11, hx_11, h⟩ := kg h
 refine kk (by kernel_rfl) rfl (c_curve_number _ [102, 102, 102, 102, 102, 102, 102, 102, 48, 48, 48, 48, 48, 48, 48, 48, 102, 102, 102, 102, 102, 102, 102, 102, 102, 102, 102, 102, 102, 102, 102, 102, 98, 99, 101, 54, 102, 97, 97, 100, 97, 55, 49, 55, 57, 101, 56, 52, 102, 51, 98, 57, 99, 97, 99, 50, 102, 99, 54, 51, 50, 53, 53, 49]    _ hx_11) rfl ?_
 rintro _ w ⟨v_12, b_14, rfl, hS1⟩
 have hS := hS.call hS1
 obtain ⟨x_16, hx_16, h⟩ := kg h
 refine kk (by kernel_rfl) rfl (c_curve_number _ [54, 98, 49, 55, 100, 49, 102, 50, 101, 49, 50, 99, 52, 50, 52, 55, 102, 56, 98, 99, 101, 54, 101, 53, 54, 51, 97, 52, 52, 48, 102, 50, 55, 55, 48, 51, 55, 100, 56, 49, 50, 100, 101, 98, 51, 51, 97, 48, 102, 52, 97, 49, 51, 57, 52, 53, 100, 56, 57, 56, 99, 50, 57, 54]    _ hx_16) rfl ?_
 rintro _ w ⟨v_17, b_19, rfl, hS1⟩
 have hS := hS.call hS1
 obtain ⟨x_21, hx_21, h⟩ := kg h
 refine kk (by kernel_rfl) rfl (c_curve_number _ [52, 102, 101, 51, 52, 50, 101, 50, 102, 101, 49, 97, 55, 102, 57, 98, 56, 101, 101, 55, 101, 98, 52, 97, 55, 99, 48, 102, 57, 101, 49, 54, 50, 98, 99, 101, 51, 51, 53, 55, 54, 98, 51, 49, 53, 101, 99, 101, 99, 98, 98, 54, 52, 48, 54, 56, 51, 55, 98, 102, 53, 49, 102, 53]    _ hx_21) rfl ?_
 rintro _ w ⟨v_22, b_24, rfl, hS1⟩
 have hS := hS.call hS1
 refine ki (OpV_build (vs := [(0, pB b_4 0, [pB b_4 0]), (1, pB b_9 0, [pB b_9 0]), (2, pB b_14 0, [pB b_14 0]), (3, pB b_19 0, [pB b_19 0]), (4, pB b_24 0, [pB b_24 0]), (5, vI 32, [vI 32]), (6, .func (.func 101) #[] #[], [.func (.func 101) #[] #[]])]) (cells := [pB b_4 0, pB b_9 0, pB b_14 0, pB b_19 0, pB b_24 0, vI 32, .func (.func 101) #[] #[]]) rfl lay59 ⟨rfl, rfl, rfl, rfl, rfl, rfl, rfl, trivial⟩ rfl) rfl ?_
 refine kW (OpX_box (cs := [pB b_4 0, pB b_9 0, pB b_14 0, pB b_19 0, pB b_24 0, vI 32, .func (.func 101) #[] #[]]) rfl rfl hS) rfl ?_
 rintro _ w ⟨b_26, rfl, hS⟩
 refine kb 1 rfl ?_
 refine kf (ka (kq ?_))
 cases h
 obtain ⟨hS0, hR⟩ := hZ.outT hTT hA hP hS
 exact ky rfl rfl ⟨b_26, b_4, v_2, b_9, v_7, b_14, v_12, b_19, v_17, b_24, v_22, rfl, hS0, (Rds.cons (hR.nth 10 rfl) (Rds.cons (hR.nth 9 rfl) (Rds.cons (hR.nth 8 rfl) (Rds.cons (hR.nth 7 rfl) (Rds.cons (hR.nth 6 rfl) (Rds.cons (hR.nth 5 rfl) (Rds.cons (hR.nth 4 rfl) (Rds.cons (hR.nth 3 rfl) (Rds.cons (hR.nth 2 rfl) (Rds.cons (hR.nth 1 rfl) (Rds.cons (hR.nth 0 rfl) Rds.nil)))))))))))⟩
theorem c_curve_p384 (w0 : World)   (T : List Nat) (hTT : TOk [] T w0) (r : Bool × List UInt32 × Bool × List UInt32 × Bool × List UInt32 × Bool × List UInt32 × Bool × List UInt32 × Int)
  (h : F.curve_p384  = some r) : Calls Tryz.prog 67 #[] w0 (Ret fun v w => ∃ b0 : Nat, ∃ b0_0 : Nat, ∃ u0_0_1 : Value, ∃ b0_1 : Nat, ∃ u0_1_1 : Value, ∃ b0_2 : Nat, ∃ u0_2_1 : Value, ∃ b0_3 : Nat, ∃ u0_3_1 : Value, ∃ b0_4 : Nat, ∃ u0_4_1 : Value, v = pB b0 0 ∧ St [] w0 w [] ∧ Rds T w [OE.bx b0 [pB b0_0 0, pB b0_1 0, pB b0_2 0, pB b0_3 0, pB b0_4 0, vI r.2.2.2.2.2.2.2.2.2.2, .func (.func 101) #[] #[]], OE.bx b0_4 [vB r.2.2.2.2.2.2.2.2.1, u0_4_1], red e32 u0_4_1 r.2.2.2.2.2.2.2.2.2.1, OE.bx b0_3 [vB r.2.2.2.2.2.2.1, u0_3_1], red e32 u0_3_1 r.2.2.2.2.2.2.2.1, OE.bx b0_2 [vB r.2.2.2.2.1, u0_2_1], red e32 u0_2_1 r.2.2.2.2.2.1, OE.bx b0_1 [vB r.2.2.1, u0_1_1], red e32 u0_1_1 r.2.2.2.1, OE.bx b0_0 [vB r.1, u0_0_1], red e32 u0_0_1 r.2.1]) := by
 refine kz 8 Tryz.func67 rfl rfl rfl ?_
 have hS := St.start w0
 have hZ := Fz.start (S := []) (w0 := w0)
 have hA0 : Rds T w0 [] := Rds.nil
 have hA := hA0.all
 have hP := hA0.off rfl
 refine kn [] trivial ?_
 unfold F.curve_p384 at h
 refine ke (kc (kb 1 rfl ?_))
 refine kf (ka (ke (kc ?_)))
 obtain ⟨x_1, hx_1, h⟩ := kg h
 refine kk (by kernel_rfl) rfl (c_curve_number _ [102, 102, 102, 102, 102, 102, 102, 102, 102, 102, 102, 102, 102, 102, 102, 102, 102, 102, 102, 102, 102, 102, 102, 102, 102, 102, 102, 102, 102, 102, 102, 102, 102, 102, 102, 102, 102, 102, 102, 102, 102, 102, 102, 102, 102, 102, 102, 102, 102, 102, 102, 102, 102, 102, 102, 102, 102, 102, 102, 102, 102, 102, 102, 101, 102, 102, 102, 102, 102, 102, 102, 102, 48, 48, 48, 48, 48, 48, 48, 48, 48, 48, 48, 48, 48, 48, 48, 48, 102, 102, 102, 102, 102, 102, 102, 102]    _ hx_1) rfl ?_
 rintro _ w ⟨v_2, b_4, rfl, hS1⟩
 have hS := hS.call hS1
 obtain ⟨x_6, hx_6, h⟩ := kg h
 refine kk (by kernel_rfl) rfl (c_curve_number _ [98, 51, 51, 49, 50, 102, 97, 55, 101, 50, 51, 101, 101, 55, 101, 52, 57, 56, 56, 101, 48, 53, 54, 98, 101, 51, 102, 56, 50, 100, 49, 57, 49, 56, 49, 100, 57, 99, 54, 101, 102, 101, 56, 49, 52, 49, 49, 50, 48, 51, 49, 52, 48, 56, 56, 102, 53, 48, 49, 51, 56, 55, 53, 97, 99, 54, 53, 54, 51, 57, 56, 100, 56, 97, 50, 101, 100, 49, 57, 100, 50, 97, 56, 53, 99, 56, 101, 100, 100, 51, 101, 99, 50, 97, 101, 102]    _ hx_6) rfl ?_
 rintro _ w ⟨v_7, b_9, rfl, hS1⟩
 have hS := hS.call hS1
 obtain ⟨x_11, hx_11, h⟩ := kg h
 refine kk (by kernel_rfl) rfl (c_curve_number _ [102, 102, 102, 102, 102, 102, 102, 102, 102, 102, 102, 102, 102, 102, 102, 102, 102, 102, 102, 102, 102, 102, 102, 102, 102, 102, 102, 102, 102, 102, 102, 102, 102, 102, 102, 102, 102, 102, 102, 102, 102, 102, 102, 102, 102, 102, 102, 102, 99, 55, 54, 51, 52, 100, 56, 49, 102, 52, 51, 55, 50, 100, 100, 102, 53, 56, 49, 97, 48, 100, 98, 50, 52, 56, 98, 48, 97, 55, 55, 97, 101, 99, 101, 99, 49, 57, 54, 97, 99, 99, 99, 53, 50, 57, 55, 51]    _ hx_11) rfl ?_
 rintro _ w ⟨v_12, b_14, rfl, hS1⟩
 have hS := hS.call hS1
 obtain ⟨x_16, hx_16, h⟩ := kg h
 refine kk (by kernel_rfl) rfl (c_curve_number _ [97, 97, 56, 55, 99, 97, 50, 50, 98, 101, 56, 98, 48, 53, 51, 55, 56, 101, 98, 49, 99, 55, 49, 101, 102, 51, 50, 48, 97, 100, 55, 52, 54, 101, 49, 100, 51, 98, 54, 50, 56, 98, 97, 55, 57, 98, 57, 56, 53, 57, 102, 55, 52, 49, 101, 48, 56, 50, 53, 52, 50, 97, 51, 56, 53, 53, 48, 50, 102, 50, 53, 100, 98, 102, 53, 53, 50, 57, 54, 99, 51, 97, 53, 52, 53, 101, 51, 56, 55, 50, 55, 54, 48, 97, 98, 55]    _ hx_16) rfl ?_
 rintro _ w ⟨v_17, b_19, rfl, hS1⟩
 have hS := hS.call hS1
 obtain ⟨x_21, hx_21, h⟩ := kg h
 refine kk (by kernel_rfl) rfl (c_curve_number _ [51, 54, 49, 55, 100, 101, 52, 97, 57, 54, 50, 54, 50, 99, 54, 102, 53, 100, 57, 101, 57, 56, 98, 102, 57, 50, 57, 50, 100, 99, 50, 57, 102, 56, 102, 52, 49, 100, 98, 100, 50, 56, 57, 97, 49, 52, 55, 99, 101, 57, 100, 97, 51, 49, 49, 51, 98, 53, 102, 48, 98, 56, 99, 48, 48, 97, 54, 48, 98, 49, 99, 101, 49, 100, 55, 101, 56, 49, 57, 100, 55, 97, 52, 51, 49, 100, 55, 99, 57, 48, 101, 97, 48, 101, 53, 102]    _ hx_21) rfl ?_
 rintro _ w ⟨v_22, b_24, rfl, hS1⟩
 have hS := hS.call hS1
 refine ki (OpV_build (vs := [(0, pB b_4 0, [pB b_4 0]), (1, pB b_9 0, [pB b_9 0]), (2, pB b_14 0, [pB b_14 0]), (3, pB b_19 0, [pB b_19 0]), (4, pB b_24 0, [pB b_24 0]), (5, vI 48, [vI 48]), (6, .func (.func 101) #[] #[], [.func (.func 101) #[] #[]])]) (cells := [pB b_4 0, pB b_9 0, pB b_14 0, pB b_19 0, pB b_24 0, vI 48, .func (.func 101) #[] #[]]) rfl lay59 ⟨rfl, rfl, rfl, rfl, rfl, rfl, rfl, trivial⟩ rfl) rfl ?_
 refine kW (OpX_box (cs := [pB b_4 0, pB b_9 0, pB b_14 0, pB b_19 0, pB b_24 0, vI 48, .func (.func 101) #[] #[]]) rfl rfl hS) rfl ?_
 rintro _ w ⟨b_26, rfl, hS⟩
 refine kb 1 rfl ?_
 refine kf (ka (kq ?_))
 cases h
 obtain ⟨hS0, hR⟩ := hZ.outT hTT hA hP hS
 exact ky rfl rfl ⟨b_26, b_4, v_2, b_9, v_7, b_14, v_12, b_19, v_17, b_24, v_22, rfl, hS0, (Rds.cons (hR.nth 10 rfl) (Rds.cons (hR.nth 9 rfl) (Rds.cons (hR.nth 8 rfl) (Rds.cons (hR.nth 7 rfl) (Rds.cons (hR.nth 6 rfl) (Rds.cons (hR.nth 5 rfl) (Rds.cons (hR.nth 4 rfl) (Rds.cons (hR.nth 3 rfl) (Rds.cons (hR.nth 2 rfl) (Rds.cons (hR.nth 1 rfl) (Rds.cons (hR.nth 0 rfl) Rds.nil)))))))))))⟩
theorem c_curve_of (w0 : World) (a0 : Int)  (T : List Nat) (hTT : TOk [] T w0) (r : Option (Bool × List UInt32 × Bool × List UInt32 × Bool × List UInt32 × Bool × List UInt32 × Bool × List UInt32 × Int))
  (h : F.curve_of a0 = some r) : Calls Tryz.prog 34 #[vI a0] w0 (Ret fun v w => ocaseP r (v = .pointer none ∧ St [] w0 w []) (fun c => ∃ b0 : Nat, ∃ b0_0 : Nat, ∃ u0_0_1 : Value, ∃ b0_1 : Nat, ∃ u0_1_1 : Value, ∃ b0_2 : Nat, ∃ u0_2_1 : Value, ∃ b0_3 : Nat, ∃ u0_3_1 : Value, ∃ b0_4 : Nat, ∃ u0_4_1 : Value, v = pB b0 0 ∧ St [] w0 w [] ∧ Rds T w [OE.bx b0 [pB b0_0 0, pB b0_1 0, pB b0_2 0, pB b0_3 0, pB b0_4 0, vI c.2.2.2.2.2.2.2.2.2.2, .func (.func 101) #[] #[]], OE.bx b0_4 [vB c.2.2.2.2.2.2.2.2.1, u0_4_1], red e32 u0_4_1 c.2.2.2.2.2.2.2.2.2.1, OE.bx b0_3 [vB c.2.2.2.2.2.2.1, u0_3_1], red e32 u0_3_1 c.2.2.2.2.2.2.2.1, OE.bx b0_2 [vB c.2.2.2.2.1, u0_2_1], red e32 u0_2_1 c.2.2.2.2.2.1, OE.bx b0_1 [vB c.2.2.1, u0_1_1], red e32 u0_1_1 c.2.2.2.1, OE.bx b0_0 [vB c.1, u0_0_1], red e32 u0_0_1 c.2.1])) := by
 refine kz 10 Tryz.func34 rfl rfl rfl ?_
 have hS := St.start w0
 have hZ := Fz.start (S := []) (w0 := w0)
 have hA0 : Rds T w0 [] := Rds.nil
 have hA := hA0.all
 have hP := hA0.off rfl
 refine kn [(0, vI a0)] ⟨rfl, trivial⟩ ?_
 unfold F.curve_of at h
 refine ke (kc (kb 1 rfl ?_))
 refine kf (ka (ke (ke (kc (kb 1 rfl ?_)))))
 refine kf (ka (kw ?_))
 refine ke (kc (kb 2 rfl ?_))
 refine kf (ka ?_)
 refine ko rfl (fun hb_14 => ?_) (fun hb_14 => ?_)
 ·have h := if_t h hb_14
  refine ke (kc ?_)
  replace hS := hS.pick (os' := [] ++ []) [] (by decide) rfl
  obtain ⟨hZ, hA, hP, hS⟩ := hZ.frzK hTT hA hP hS
  obtain ⟨x_1, hx_1, h⟩ := kg h
  refine kk (by kernel_rfl) rfl (c_curve_p256 _    _ (hZ.okT hTT hS)  _ hx_1) rfl ?_
  rintro _ w ⟨b0_2, b0_2_0, u0_2_0_1, b0_2_1, u0_2_1_1, b0_2_2, u0_2_2_1, b0_2_3, u0_2_3_1, b0_2_4, u0_2_4_1, rfl, hS1, hR1⟩
  obtain ⟨S_5, wb_6, hZ, hA, hP, hS⟩ := hZ.callK hA hP hS hS1 hR1 rfl
  refine kb 1 rfl ?_
  refine kf (ka (kq (QE_blk_r ?_)))
  refine kv ?_
  cases h
  obtain ⟨hS0, hR⟩ := hZ.outT hTT hA hP hS
  exact ky rfl rfl (ocaseP_s ⟨b0_2, b0_2_0, u0_2_0_1, b0_2_1, u0_2_1_1, b0_2_2, u0_2_2_1, b0_2_3, u0_2_3_1, b0_2_4, u0_2_4_1, rfl, hS0, (Rds.cons (hR.nth 10 rfl) (Rds.cons (hR.nth 9 rfl) (Rds.cons (hR.nth 8 rfl) (Rds.cons (hR.nth 7 rfl) (Rds.cons (hR.nth 6 rfl) (Rds.cons (hR.nth 5 rfl) (Rds.cons (hR.nth 4 rfl) (Rds.cons (hR.nth 3 rfl) (Rds.cons (hR.nth 2 rfl) (Rds.cons (hR.nth 1 rfl) (Rds.cons (hR.nth 0 rfl) Rds.nil)))))))))))⟩)
 have h := if_f h hb_14
 refine ke (kc (kb 2 rfl ?_))
 refine kf (ka ?_)
 refine ko rfl (fun hb_13 => ?_) (fun hb_13 => ?_)
 ·have h := if_t h hb_13
  refine ke (kc ?_)
  replace hS := hS.pick (os' := [] ++ []) [] (by decide) rfl
  obtain ⟨hZ, hA, hP, hS⟩ := hZ.frzK hTT hA hP hS
  obtain ⟨x_7, hx_7, h⟩ := kg h
  refine kk (by kernel_rfl) rfl (c_curve_p384 _    _ (hZ.okT hTT hS)  _ hx_7) rfl ?_
  rintro _ w ⟨b0_8, b0_8_0, u0_8_0_1, b0_8_1, u0_8_1_1, b0_8_2, u0_8_2_1, b0_8_3, u0_8_3_1, b0_8_4, u0_8_4_1, rfl, hS1, hR1⟩
  obtain ⟨S_11, wb_12, hZ, hA, hP, hS⟩ := hZ.callK hA hP hS hS1 hR1 rfl
  refine kb 1 rfl ?_
  refine kf (ka (kq (QE_blk_r ?_)))
  refine kv ?_
  cases h
  obtain ⟨hS0, hR⟩ := hZ.outT hTT hA hP hS
  exact ky rfl rfl (ocaseP_s ⟨b0_8, b0_8_0, u0_8_0_1, b0_8_1, u0_8_1_1, b0_8_2, u0_8_2_1, b0_8_3, u0_8_3_1, b0_8_4, u0_8_4_1, rfl, hS0, (Rds.cons (hR.nth 10 rfl) (Rds.cons (hR.nth 9 rfl) (Rds.cons (hR.nth 8 rfl) (Rds.cons (hR.nth 7 rfl) (Rds.cons (hR.nth 6 rfl) (Rds.cons (hR.nth 5 rfl) (Rds.cons (hR.nth 4 rfl) (Rds.cons (hR.nth 3 rfl) (Rds.cons (hR.nth 2 rfl) (Rds.cons (hR.nth 1 rfl) (Rds.cons (hR.nth 0 rfl) Rds.nil)))))))))))⟩)
 have h := if_f h hb_13
 refine kr (kK ?_)
 refine ka (ke (kc (kb 1 rfl ?_)))
 refine kf (ka (kq ?_))
 cases h
 obtain ⟨hS0, hR⟩ := hZ.outT hTT hA hP hS
 exact ky rfl rfl (ocaseP_n ⟨rfl, hS0⟩)
theorem c_curve_group_mod (w0 : World) (a0_0_0 : Bool) (a0_0_1 : List UInt32) (a0_1_0 : Bool) (a0_1_1 : List UInt32) (a0_2_0 : Bool) (a0_2_1 : List UInt32) (a0_3_0 : Bool) (a0_3_1 : List UInt32) (a0_4_0 : Bool) (a0_4_1 : List UInt32) (a0_5 : Int) (a1_0 : Bool) (a1_1 : List UInt32) (va0_0_1 : Value) (va0_1_1 : Value) (va0_2_1 : Value) (va0_3_1 : Value) (va0_4_1 : Value) (va1_1 : Value) (ba0 : Nat) (ba0_0 : Nat) (ba0_1 : Nat) (ba0_2 : Nat) (ba0_3 : Nat) (ba0_4 : Nat) (ba1 : Nat) (S : List Nat) (hS : St S w0 w0 [OE.bx ba1 [vB a1_0, va1_1], own e32 va1_1 a1_1]) (ha0_0_1 : RP S w0 e32 va0_0_1 a0_0_1) (hBa0_0 : RB S w0 ba0_0 [vB a0_0_0, va0_0_1]) (ha0_1_1 : RP S w0 e32 va0_1_1 a0_1_1) (hBa0_1 : RB S w0 ba0_1 [vB a0_1_0, va0_1_1]) (ha0_2_1 : RP S w0 e32 va0_2_1 a0_2_1) (hBa0_2 : RB S w0 ba0_2 [vB a0_2_0, va0_2_1]) (ha0_3_1 : RP S w0 e32 va0_3_1 a0_3_1) (hBa0_3 : RB S w0 ba0_3 [vB a0_3_0, va0_3_1]) (ha0_4_1 : RP S w0 e32 va0_4_1 a0_4_1) (hBa0_4 : RB S w0 ba0_4 [vB a0_4_0, va0_4_1]) (hBa0 : RB S w0 ba0 [pB ba0_0 0, pB ba0_1 0, pB ba0_2 0, pB ba0_3 0, pB ba0_4 0, vI a0_5, .func (.func 101) #[] #[]]) (r : Bool × List UInt32)
  (h : F.curve_group_mod a0_0_0 a0_0_1 a0_1_0 a0_1_1 a0_2_0 a0_2_1 a0_3_0 a0_3_1 a0_4_0 a0_4_1 a0_5 a1_0 a1_1 = some r) : Calls Tryz.prog 70 #[pB ba0 0, pB ba1 0] w0 (Ret fun v w => ∃ u1_1 : Value, v = pB ba1 0 ∧ St S w0 w [OE.bx ba1 [vB r.1, u1_1], own e32 u1_1 r.2]) := by
 refine kz 12 Tryz.func70 rfl rfl rfl ?_
 refine kn [(0, pB ba0 0), (1, pB ba1 0)] ⟨rfl, rfl, trivial⟩ ?_
 unfold F.curve_group_mod at h
 refine ke (kc (kb 1 rfl ?_))
 refine kf (ka (ke (kc (kb 3 rfl ?_))))
 refine ki (kJ rfl) rfl (ki (kl (k := 0) Tryz.underlying59 rfl rfl nz56 rfl) rfl (ki (ku Tryz.underlying56 rfl rfl (hBa0.cell hS.fr 0 rfl)) rfl ?_))
 have hG := hS.pick (os' := [OE.bx ba1 [vB a1_0, va1_1], own e32 va1_1 a1_1] ++ []) [0, 1] (by decide) rfl
 obtain ⟨x_3, hx_3, h⟩ := kg h
 refine kk (by kernel_rfl) rfl (c_bignum_Int_Mod_a10 _ a1_0 a1_1 a0_0_0 a0_0_1 va1_1 va0_0_1 ba1 ba0_0 _ hG.give (ha0_0_1.give (Nat.le_of_ble_eq_true rfl) hG) (hBa0_0.give hG) _ hx_3) rfl ?_
 rintro _ w ⟨v_4, rfl, hS1⟩
 have hS := hG.back hS1
 refine kb 1 rfl ?_
 refine kf (ka (kq ?_))
 cases h
 exact ky rfl rfl ⟨v_4, rfl, hS.pick [0, 1] (by decide) rfl⟩
theorem c_curve_group_mul (w0 : World) (a0_0_0 : Bool) (a0_0_1 : List UInt32) (a0_1_0 : Bool) (a0_1_1 : List UInt32) (a0_2_0 : Bool) (a0_2_1 : List UInt32) (a0_3_0 : Bool) (a0_3_1 : List UInt32) (a0_4_0 : Bool) (a0_4_1 : List UInt32) (a0_5 : Int) (a1_0 : Bool) (a1_1 : List UInt32) (a2_0 : Bool) (a2_1 : List UInt32) (va0_0_1 : Value) (va0_1_1 : Value) (va0_2_1 : Value) (va0_3_1 : Value) (va0_4_1 : Value) (va1_1 : Value) (va2_1 : Value) (ba0 : Nat) (ba0_0 : Nat) (ba0_1 : Nat) (ba0_2 : Nat) (ba0_3 : Nat) (ba0_4 : Nat) (ba1 : Nat) (ba2 : Nat) (ha0_0_1 : RP [] w0 e32 va0_0_1 a0_0_1) (hBa0_0 : RB [] w0 ba0_0 [vB a0_0_0, va0_0_1]) (ha0_1_1 : RP [] w0 e32 va0_1_1 a0_1_1) (hBa0_1 : RB [] w0 ba0_1 [vB a0_1_0, va0_1_1]) (ha0_2_1 : RP [] w0 e32 va0_2_1 a0_2_1) (hBa0_2 : RB [] w0 ba0_2 [vB a0_2_0, va0_2_1]) (ha0_3_1 : RP [] w0 e32 va0_3_1 a0_3_1) (hBa0_3 : RB [] w0 ba0_3 [vB a0_3_0, va0_3_1]) (ha0_4_1 : RP [] w0 e32 va0_4_1 a0_4_1) (hBa0_4 : RB [] w0 ba0_4 [vB a0_4_0, va0_4_1]) (hBa0 : RB [] w0 ba0 [pB ba0_0 0, pB ba0_1 0, pB ba0_2 0, pB ba0_3 0, pB ba0_4 0, vI a0_5, .func (.func 101) #[] #[]]) (ha1_1 : RP [] w0 e32 va1_1 a1_1) (hBa1 : RB [] w0 ba1 [vB a1_0, va1_1]) (ha2_1 : RP [] w0 e32 va2_1 a2_1) (hBa2 : RB [] w0 ba2 [vB a2_0, va2_1]) (r : Bool × List UInt32)
  (h : F.curve_group_mul a0_0_0 a0_0_1 a0_1_0 a0_1_1 a0_2_0 a0_2_1 a0_3_0 a0_3_1 a0_4_0 a0_4_1 a0_5 a1_0 a1_1 a2_0 a2_1 = some r) : Calls Tryz.prog 68 #[pB ba0 0, pB ba1 0, pB ba2 0] w0 (Ret fun v w => ∃ u0_1 : Value, ∃ un0 : Nat, v = pB un0 0 ∧ St [] w0 w [OE.bx un0 [vB r.1, u0_1], own e32 u0_1 r.2]) := by
 refine kz 13 Tryz.func68 rfl rfl rfl ?_
 have hS := St.start w0
 refine kn [(0, pB ba0 0), (1, pB ba1 0), (2, pB ba2 0)] ⟨rfl, rfl, rfl, trivial⟩ ?_
 unfold F.curve_group_mul at h
 refine ke (kc (kb 1 rfl ?_))
 refine kf (ka (ke (kc (kb 1 rfl ?_))))
 refine kW (kE (cs := [vB false, .slice none 0 0]) tz62 rfl hS) rfl ?_
 rintro _ w ⟨b_1, rfl, hS⟩
 refine kb 2 rfl ?_
 replace hS := hS.nil e32
 have hG := hS.pick (os' := [OE.bx b_1 [vB false, .slice none 0 0], own e32 (.slice none 0 0) []] ++ []) [1, 0] (by decide) rfl
 obtain ⟨x_4, hx_4, h⟩ := kg h
 refine kk (by kernel_rfl) rfl (c_bignum_Int_Mul _ false [] a1_0 a1_1 a2_0 a2_1 (.slice none 0 0) va1_1 va2_1 b_1 ba1 ba2 _ hG.give (ha1_1.give (Nat.le_of_ble_eq_true rfl) hG) (hBa1.give hG) (ha2_1.give (Nat.le_of_ble_eq_true rfl) hG) (hBa2.give hG) _ hx_4) rfl ?_
 rintro _ w ⟨v_5, rfl, hS1⟩
 have hS := hG.back hS1
 have hG := hS.pick (os' := [OE.bx b_1 [vB x_4.1, v_5], own e32 v_5 x_4.2] ++ []) [0, 1] (by decide) rfl
 obtain ⟨x_7, hx_7, h⟩ := kg h
 refine kk (by kernel_rfl) rfl (c_curve_group_mod _ a0_0_0 a0_0_1 a0_1_0 a0_1_1 a0_2_0 a0_2_1 a0_3_0 a0_3_1 a0_4_0 a0_4_1 a0_5 x_4.1 x_4.2 va0_0_1 va0_1_1 va0_2_1 va0_3_1 va0_4_1 v_5 ba0 ba0_0 ba0_1 ba0_2 ba0_3 ba0_4 b_1 _ hG.give (ha0_0_1.give (Nat.le_of_ble_eq_true rfl) hG) (hBa0_0.give hG) (ha0_1_1.give (Nat.le_of_ble_eq_true rfl) hG) (hBa0_1.give hG) (ha0_2_1.give (Nat.le_of_ble_eq_true rfl) hG) (hBa0_2.give hG) (ha0_3_1.give (Nat.le_of_ble_eq_true rfl) hG) (hBa0_3.give hG) (ha0_4_1.give (Nat.le_of_ble_eq_true rfl) hG) (hBa0_4.give hG) (hBa0.give hG) _ hx_7) rfl ?_
 rintro _ w ⟨v_8, rfl, hS1⟩
 have hS := hG.back hS1
 refine kb 1 rfl ?_
 refine kf (ka (kq ?_))
 cases h
 exact ky rfl rfl ⟨v_8, b_1, rfl, hS.pick [0, 1] (by decide) rfl⟩
theorem c_curve_group_times (w0 : World) (a0_0_0 : Bool) (a0_0_1 : List UInt32) (a0_1_0 : Bool) (a0_1_1 : List UInt32) (a0_2_0 : Bool) (a0_2_1 : List UInt32) (a0_3_0 : Bool) (a0_3_1 : List UInt32) (a0_4_0 : Bool) (a0_4_1 : List UInt32) (a0_5 : Int) (a1 : Int) (a2_0 : Bool) (a2_1 : List UInt32) (va0_0_1 : Value) (va0_1_1 : Value) (va0_2_1 : Value) (va0_3_1 : Value) (va0_4_1 : Value) (va2_1 : Value) (ba0 : Nat) (ba0_0 : Nat) (ba0_1 : Nat) (ba0_2 : Nat) (ba0_3 : Nat) (ba0_4 : Nat) (ba2 : Nat) (ha0_0_1 : RP [] w0 e32 va0_0_1 a0_0_1) (hBa0_0 : RB [] w0 ba0_0 [vB a0_0_0, va0_0_1]) (ha0_1_1 : RP [] w0 e32 va0_1_1 a0_1_1) (hBa0_1 : RB [] w0 ba0_1 [vB a0_1_0, va0_1_1]) (ha0_2_1 : RP [] w0 e32 va0_2_1 a0_2_1) (hBa0_2 : RB [] w0 ba0_2 [vB a0_2_0, va0_2_1]) (ha0_3_1 : RP [] w0 e32 va0_3_1 a0_3_1) (hBa0_3 : RB [] w0 ba0_3 [vB a0_3_0, va0_3_1]) (ha0_4_1 : RP [] w0 e32 va0_4_1 a0_4_1) (hBa0_4 : RB [] w0 ba0_4 [vB a0_4_0, va0_4_1]) (hBa0 : RB [] w0 ba0 [pB ba0_0 0, pB ba0_1 0, pB ba0_2 0, pB ba0_3 0, pB ba0_4 0, vI a0_5, .func (.func 101) #[] #[]]) (ha2_1 : RP [] w0 e32 va2_1 a2_1) (hBa2 : RB [] w0 ba2 [vB a2_0, va2_1]) (r : Bool × List UInt32)
  (h : F.curve_group_times a0_0_0 a0_0_1 a0_1_0 a0_1_1 a0_2_0 a0_2_1 a0_3_0 a0_3_1 a0_4_0 a0_4_1 a0_5 a1 a2_0 a2_1 = some r) : Calls Tryz.prog 69 #[pB ba0 0, vI a1, pB ba2 0] w0 (Ret fun v w => ∃ u0_1 : Value, ∃ un0 : Nat, v = pB un0 0 ∧ St [] w0 w [OE.bx un0 [vB r.1, u0_1], own e32 u0_1 r.2]) := by
 refine kz 12 Tryz.func69 rfl rfl rfl ?_
 have hS := St.start w0
 refine kn [(0, pB ba0 0), (1, vI a1), (2, pB ba2 0)] ⟨rfl, rfl, rfl, trivial⟩ ?_
 unfold F.curve_group_times at h
 refine ke (kc (kb 1 rfl ?_))
 refine kf (ka (ke (kc (kb 2 rfl ?_))))
 obtain ⟨x_1, hx_1, h⟩ := kg h
 refine kk (by kernel_rfl) rfl (c_bignum_NewInt _ a1    _ hx_1) rfl ?_
 rintro _ w ⟨v_2, b_4, rfl, hS1⟩
 have hS := hS.call hS1
 refine kb 1 rfl ?_
 obtain ⟨x_6, hx_6, h⟩ := kg h
 refine kk (by kernel_rfl) rfl (c_curve_group_mul _ a0_0_0 a0_0_1 a0_1_0 a0_1_1 a0_2_0 a0_2_1 a0_3_0 a0_3_1 a0_4_0 a0_4_1 a0_5 x_1.1 x_1.2 a2_0 a2_1 va0_0_1 va0_1_1 va0_2_1 va0_3_1 va0_4_1 v_2 va2_1 ba0 ba0_0 ba0_1 ba0_2 ba0_3 ba0_4 b_4 ba2 (ha0_0_1.now hS.fr).rp (hBa0_0.now hS.fr) (ha0_1_1.now hS.fr).rp (hBa0_1.now hS.fr) (ha0_2_1.now hS.fr).rp (hBa0_2.now hS.fr) (ha0_3_1.now hS.fr).rp (hBa0_3.now hS.fr) (ha0_4_1.now hS.fr).rp (hBa0_4.now hS.fr) (hBa0.now hS.fr) (hS.ro 1 rfl).rp (hS.rb 0 rfl) (ha2_1.now hS.fr).rp (hBa2.now hS.fr) _ hx_6) rfl ?_
 rintro _ w ⟨v_7, b_9, rfl, hS1⟩
 have hS := hS.call hS1
 refine kb 1 rfl ?_
 refine kf (ka (kq ?_))
 cases h
 exact ky rfl rfl ⟨v_7, b_9, rfl, hS.pick [0, 1] (by decide) rfl⟩
theorem c_curve_group_sub (w0 : World) (a0_0_0 : Bool) (a0_0_1 : List UInt32) (a0_1_0 : Bool) (a0_1_1 : List UInt32) (a0_2_0 : Bool) (a0_2_1 : List UInt32) (a0_3_0 : Bool) (a0_3_1 : List UInt32) (a0_4_0 : Bool) (a0_4_1 : List UInt32) (a0_5 : Int) (a1_0 : Bool) (a1_1 : List UInt32) (a2_0 : Bool) (a2_1 : List UInt32) (va0_0_1 : Value) (va0_1_1 : Value) (va0_2_1 : Value) (va0_3_1 : Value) (va0_4_1 : Value) (va1_1 : Value) (va2_1 : Value) (ba0 : Nat) (ba0_0 : Nat) (ba0_1 : Nat) (ba0_2 : Nat) (ba0_3 : Nat) (ba0_4 : Nat) (ba1 : Nat) (ba2 : Nat) (ha0_0_1 : RP [] w0 e32 va0_0_1 a0_0_1) (hBa0_0 : RB [] w0 ba0_0 [vB a0_0_0, va0_0_1]) (ha0_1_1 : RP [] w0 e32 va0_1_1 a0_1_1) (hBa0_1 : RB [] w0 ba0_1 [vB a0_1_0, va0_1_1]) (ha0_2_1 : RP [] w0 e32 va0_2_1 a0_2_1) (hBa0_2 : RB [] w0 ba0_2 [vB a0_2_0, va0_2_1]) (ha0_3_1 : RP [] w0 e32 va0_3_1 a0_3_1) (hBa0_3 : RB [] w0 ba0_3 [vB a0_3_0, va0_3_1]) (ha0_4_1 : RP [] w0 e32 va0_4_1 a0_4_1) (hBa0_4 : RB [] w0 ba0_4 [vB a0_4_0, va0_4_1]) (hBa0 : RB [] w0 ba0 [pB ba0_0 0, pB ba0_1 0, pB ba0_2 0, pB ba0_3 0, pB ba0_4 0, vI a0_5, .func (.func 101) #[] #[]]) (ha1_1 : RP [] w0 e32 va1_1 a1_1) (hBa1 : RB [] w0 ba1 [vB a1_0, va1_1]) (ha2_1 : RP [] w0 e32 va2_1 a2_1) (hBa2 : RB [] w0 ba2 [vB a2_0, va2_1]) (r : Bool × List UInt32)
  (h : F.curve_group_sub a0_0_0 a0_0_1 a0_1_0 a0_1_1 a0_2_0 a0_2_1 a0_3_0 a0_3_1 a0_4_0 a0_4_1 a0_5 a1_0 a1_1 a2_0 a2_1 = some r) : Calls Tryz.prog 47 #[pB ba0 0, pB ba1 0, pB ba2 0] w0 (Ret fun v w => ∃ u0_1 : Value, ∃ un0 : Nat, v = pB un0 0 ∧ St [] w0 w [OE.bx un0 [vB r.1, u0_1], own e32 u0_1 r.2]) := by
 refine kz 13 Tryz.func47 rfl rfl rfl ?_
 have hS := St.start w0
 refine kn [(0, pB ba0 0), (1, pB ba1 0), (2, pB ba2 0)] ⟨rfl, rfl, rfl, trivial⟩ ?_
 unfold F.curve_group_sub at h
 refine ke (kc (kb 1 rfl ?_))
 refine kf (ka (ke (kc (kb 1 rfl ?_))))
 refine kW (kE (cs := [vB false, .slice none 0 0]) tz62 rfl hS) rfl ?_
 rintro _ w ⟨b_1, rfl, hS⟩
 refine kb 2 rfl ?_
 replace hS := hS.nil e32
 have hG := hS.pick (os' := [OE.bx b_1 [vB false, .slice none 0 0], own e32 (.slice none 0 0) []] ++ []) [1, 0] (by decide) rfl
 obtain ⟨x_4, hx_4, h⟩ := kg h
 refine kk (by kernel_rfl) rfl (c_bignum_Int_Sub _ false [] a1_0 a1_1 a2_0 a2_1 (.slice none 0 0) va1_1 va2_1 b_1 ba1 ba2 _ hG.give (ha1_1.give (Nat.le_of_ble_eq_true rfl) hG) (hBa1.give hG) (ha2_1.give (Nat.le_of_ble_eq_true rfl) hG) (hBa2.give hG) _ hx_4) rfl ?_
 rintro _ w ⟨v_5, rfl, hS1⟩
 have hS := hG.back hS1
 have hG := hS.pick (os' := [OE.bx b_1 [vB x_4.1, v_5], own e32 v_5 x_4.2] ++ []) [0, 1] (by decide) rfl
 obtain ⟨x_7, hx_7, h⟩ := kg h
 refine kk (by kernel_rfl) rfl (c_curve_group_mod _ a0_0_0 a0_0_1 a0_1_0 a0_1_1 a0_2_0 a0_2_1 a0_3_0 a0_3_1 a0_4_0 a0_4_1 a0_5 x_4.1 x_4.2 va0_0_1 va0_1_1 va0_2_1 va0_3_1 va0_4_1 v_5 ba0 ba0_0 ba0_1 ba0_2 ba0_3 ba0_4 b_1 _ hG.give (ha0_0_1.give (Nat.le_of_ble_eq_true rfl) hG) (hBa0_0.give hG) (ha0_1_1.give (Nat.le_of_ble_eq_true rfl) hG) (hBa0_1.give hG) (ha0_2_1.give (Nat.le_of_ble_eq_true rfl) hG) (hBa0_2.give hG) (ha0_3_1.give (Nat.le_of_ble_eq_true rfl) hG) (hBa0_3.give hG) (ha0_4_1.give (Nat.le_of_ble_eq_true rfl) hG) (hBa0_4.give hG) (hBa0.give hG) _ hx_7) rfl ?_
 rintro _ w ⟨v_8, rfl, hS1⟩
 have hS := hG.back hS1
 refine kb 1 rfl ?_
 refine kf (ka (kq ?_))
 cases h
 exact ky rfl rfl ⟨v_8, b_1, rfl, hS.pick [0, 1] (by decide) rfl⟩
theorem c_curve_group_on (w0 : World) (a0_0_0 : Bool) (a0_0_1 : List UInt32) (a0_1_0 : Bool) (a0_1_1 : List UInt32) (a0_2_0 : Bool) (a0_2_1 : List UInt32) (a0_3_0 : Bool) (a0_3_1 : List UInt32) (a0_4_0 : Bool) (a0_4_1 : List UInt32) (a0_5 : Int) (a1_0 : Bool) (a1_1 : List UInt32) (a2_0 : Bool) (a2_1 : List UInt32) (va0_0_1 : Value) (va0_1_1 : Value) (va0_2_1 : Value) (va0_3_1 : Value) (va0_4_1 : Value) (va1_1 : Value) (va2_1 : Value) (ba0 : Nat) (ba0_0 : Nat) (ba0_1 : Nat) (ba0_2 : Nat) (ba0_3 : Nat) (ba0_4 : Nat) (ba1 : Nat) (ba2 : Nat) (ha0_0_1 : RP [] w0 e32 va0_0_1 a0_0_1) (hBa0_0 : RB [] w0 ba0_0 [vB a0_0_0, va0_0_1]) (ha0_1_1 : RP [] w0 e32 va0_1_1 a0_1_1) (hBa0_1 : RB [] w0 ba0_1 [vB a0_1_0, va0_1_1]) (ha0_2_1 : RP [] w0 e32 va0_2_1 a0_2_1) (hBa0_2 : RB [] w0 ba0_2 [vB a0_2_0, va0_2_1]) (ha0_3_1 : RP [] w0 e32 va0_3_1 a0_3_1) (hBa0_3 : RB [] w0 ba0_3 [vB a0_3_0, va0_3_1]) (ha0_4_1 : RP [] w0 e32 va0_4_1 a0_4_1) (hBa0_4 : RB [] w0 ba0_4 [vB a0_4_0, va0_4_1]) (hBa0 : RB [] w0 ba0 [pB ba0_0 0, pB ba0_1 0, pB ba0_2 0, pB ba0_3 0, pB ba0_4 0, vI a0_5, .func (.func 101) #[] #[]]) (ha1_1 : RP [] w0 e32 va1_1 a1_1) (hBa1 : RB [] w0 ba1 [vB a1_0, va1_1]) (ha2_1 : RP [] w0 e32 va2_1 a2_1) (hBa2 : RB [] w0 ba2 [vB a2_0, va2_1]) (r : Bool)
  (h : F.curve_group_on a0_0_0 a0_0_1 a0_1_0 a0_1_1 a0_2_0 a0_2_1 a0_3_0 a0_3_1 a0_4_0 a0_4_1 a0_5 a1_0 a1_1 a2_0 a2_1 = some r) : Calls Tryz.prog 35 #[pB ba0 0, pB ba1 0, pB ba2 0] w0 (Ret fun v w => v = vB r ∧ St [] w0 w []) := by
 refine kz 55 Tryz.func35 rfl rfl rfl ?_
 have hS := St.start w0
 refine kn [(0, pB ba0 0), (1, pB ba1 0), (2, pB ba2 0)] ⟨rfl, rfl, rfl, trivial⟩ ?_
 unfold F.curve_group_on at h
 refine ke (kc (kb 1 rfl ?_))
 refine kf (ka (ke (kc (kb 5 rfl ?_))))
 obtain ⟨x_1, hx_1, h⟩ := kg h
 refine kk (by kernel_rfl) rfl (c_curve_group_mul _ a0_0_0 a0_0_1 a0_1_0 a0_1_1 a0_2_0 a0_2_1 a0_3_0 a0_3_1 a0_4_0 a0_4_1 a0_5 a1_0 a1_1 a1_0 a1_1 va0_0_1 va0_1_1 va0_2_1 va0_3_1 va0_4_1 va1_1 va1_1 ba0 ba0_0 ba0_1 ba0_2 ba0_3 ba0_4 ba1 ba1 (ha0_0_1.now hS.fr).rp (hBa0_0.now hS.fr) (ha0_1_1.now hS.fr).rp (hBa0_1.now hS.fr) (ha0_2_1.now hS.fr).rp (hBa0_2.now hS.fr) (ha0_3_1.now hS.fr).rp (hBa0_3.now hS.fr) (ha0_4_1.now hS.fr).rp (hBa0_4.now hS.fr) (hBa0.now hS.fr) (ha1_1.now hS.fr).rp (hBa1.now hS.fr) (ha1_1.now hS.fr).rp (hBa1.now hS.fr) _ hx_1) rfl ?_
 rintro _ w ⟨v_2, b_4, rfl, hS1⟩
 have hS := hS.call hS1
 obtain ⟨x_6, hx_6, h⟩ := kg h
 refine kk (by kernel_rfl) rfl (c_curve_group_mul _ a0_0_0 a0_0_1 a0_1_0 a0_1_1 a0_2_0 a0_2_1 a0_3_0 a0_3_1 a0_4_0 a0_4_1 a0_5 a1_0 a1_1 x_1.1 x_1.2 va0_0_1 va0_1_1 va0_2_1 va0_3_1 va0_4_1 va1_1 v_2 ba0 ba0_0 ba0_1 ba0_2 ba0_3 ba0_4 ba1 b_4 (ha0_0_1.now hS.fr).rp (hBa0_0.now hS.fr) (ha0_1_1.now hS.fr).rp (hBa0_1.now hS.fr) (ha0_2_1.now hS.fr).rp (hBa0_2.now hS.fr) (ha0_3_1.now hS.fr).rp (hBa0_3.now hS.fr) (ha0_4_1.now hS.fr).rp (hBa0_4.now hS.fr) (hBa0.now hS.fr) (ha1_1.now hS.fr).rp (hBa1.now hS.fr) (hS.ro 1 rfl).rp (hS.rb 0 rfl) _ hx_6) rfl ?_
 rintro _ w ⟨v_7, b_9, rfl, hS1⟩
 have hS := hS.call hS1
 refine kb 1 rfl ?_
 refine kf (ka (ke (kc (kb 4 rfl ?_))))
 obtain ⟨x_11, hx_11, h⟩ := kg h
 refine kk (by kernel_rfl) rfl (c_curve_group_times _ a0_0_0 a0_0_1 a0_1_0 a0_1_1 a0_2_0 a0_2_1 a0_3_0 a0_3_1 a0_4_0 a0_4_1 a0_5 3 a1_0 a1_1 va0_0_1 va0_1_1 va0_2_1 va0_3_1 va0_4_1 va1_1 ba0 ba0_0 ba0_1 ba0_2 ba0_3 ba0_4 ba1 (ha0_0_1.now hS.fr).rp (hBa0_0.now hS.fr) (ha0_1_1.now hS.fr).rp (hBa0_1.now hS.fr) (ha0_2_1.now hS.fr).rp (hBa0_2.now hS.fr) (ha0_3_1.now hS.fr).rp (hBa0_3.now hS.fr) (ha0_4_1.now hS.fr).rp (hBa0_4.now hS.fr) (hBa0.now hS.fr) (ha1_1.now hS.fr).rp (hBa1.now hS.fr) _ hx_11) rfl ?_
 rintro _ w ⟨v_12, b_14, rfl, hS1⟩
 have hS := hS.call hS1
 obtain ⟨x_16, hx_16, h⟩ := kg h
 refine kk (by kernel_rfl) rfl (c_curve_group_sub _ a0_0_0 a0_0_1 a0_1_0 a0_1_1 a0_2_0 a0_2_1 a0_3_0 a0_3_1 a0_4_0 a0_4_1 a0_5 x_6.1 x_6.2 x_11.1 x_11.2 va0_0_1 va0_1_1 va0_2_1 va0_3_1 va0_4_1 v_7 v_12 ba0 ba0_0 ba0_1 ba0_2 ba0_3 ba0_4 b_9 b_14 (ha0_0_1.now hS.fr).rp (hBa0_0.now hS.fr) (ha0_1_1.now hS.fr).rp (hBa0_1.now hS.fr) (ha0_2_1.now hS.fr).rp (hBa0_2.now hS.fr) (ha0_3_1.now hS.fr).rp (hBa0_3.now hS.fr) (ha0_4_1.now hS.fr).rp (hBa0_4.now hS.fr) (hBa0.now hS.fr) (hS.ro 3 rfl).rp (hS.rb 2 rfl) (hS.ro 1 rfl).rp (hS.rb 0 rfl) _ hx_16) rfl ?_
 rintro _ w ⟨v_17, b_19, rfl, hS1⟩
 have hS := hS.call hS1
 refine kb 1 rfl ?_
 refine kf (ka (ke (kc (kb 4 rfl ?_))))
 refine ki (kJ rfl) rfl (ki (kl (k := 1) Tryz.underlying59 rfl rfl nz56 rfl) rfl (ki (ku Tryz.underlying56 rfl rfl (hBa0.cell hS.fr 1 rfl)) rfl ?_))
 have hG := hS.pick (os' := [OE.bx b_19 [vB x_16.1, v_17], own e32 v_17 x_16.2] ++ [OE.bx b_14 [vB x_11.1, v_12], own e32 v_12 x_11.2, OE.bx b_9 [vB x_6.1, v_7], own e32 v_7 x_6.2, OE.bx b_4 [vB x_1.1, v_2], own e32 v_2 x_1.2]) [0, 1, 2, 3, 4, 5, 6, 7] (by decide) rfl
 obtain ⟨x_21, hx_21, h⟩ := kg h
 refine kk (by kernel_rfl) rfl (c_bignum_Int_Add_a10 _ x_16.1 x_16.2 a0_1_0 a0_1_1 v_17 va0_1_1 b_19 ba0_1 _ hG.give (ha0_1_1.give (Nat.le_of_ble_eq_true rfl) hG) (hBa0_1.give hG) _ hx_21) rfl ?_
 rintro _ w ⟨v_22, rfl, hS1⟩
 have hS := hG.back hS1
 have hG := hS.pick (os' := [OE.bx b_19 [vB x_21.1, v_22], own e32 v_22 x_21.2] ++ [OE.bx b_14 [vB x_11.1, v_12], own e32 v_12 x_11.2, OE.bx b_9 [vB x_6.1, v_7], own e32 v_7 x_6.2, OE.bx b_4 [vB x_1.1, v_2], own e32 v_2 x_1.2]) [0, 1, 2, 3, 4, 5, 6, 7] (by decide) rfl
 obtain ⟨x_24, hx_24, h⟩ := kg h
 refine kk (by kernel_rfl) rfl (c_curve_group_mod _ a0_0_0 a0_0_1 a0_1_0 a0_1_1 a0_2_0 a0_2_1 a0_3_0 a0_3_1 a0_4_0 a0_4_1 a0_5 x_21.1 x_21.2 va0_0_1 va0_1_1 va0_2_1 va0_3_1 va0_4_1 v_22 ba0 ba0_0 ba0_1 ba0_2 ba0_3 ba0_4 b_19 _ hG.give (ha0_0_1.give (Nat.le_of_ble_eq_true rfl) hG) (hBa0_0.give hG) (ha0_1_1.give (Nat.le_of_ble_eq_true rfl) hG) (hBa0_1.give hG) (ha0_2_1.give (Nat.le_of_ble_eq_true rfl) hG) (hBa0_2.give hG) (ha0_3_1.give (Nat.le_of_ble_eq_true rfl) hG) (hBa0_3.give hG) (ha0_4_1.give (Nat.le_of_ble_eq_true rfl) hG) (hBa0_4.give hG) (hBa0.give hG) _ hx_24) rfl ?_
 rintro _ w ⟨v_25, rfl, hS1⟩
 have hS := hG.back hS1
 refine kb 1 rfl ?_
 refine kf (ka (ke (kc (kb 2 rfl ?_))))
 refine ki (kJ rfl) rfl (ki (kl (k := 0) Tryz.underlying59 rfl rfl nz56 rfl) rfl (ki (ku Tryz.underlying56 rfl rfl (hBa0.cell hS.fr 0 rfl)) rfl ?_))
 obtain ⟨x_27, hx_27, h⟩ := kg h
 refine kk (by kernel_rfl) rfl (c_bignum_Int_Cmp _ a1_0 a1_1 a0_0_0 a0_0_1 va1_1 va0_0_1 ba1 ba0_0 (ha1_1.now hS.fr).rp (hBa1.now hS.fr) (ha0_0_1.now hS.fr).rp (hBa0_0.now hS.fr) _ hx_27) rfl ?_
 rintro _ w ⟨rfl, hS1⟩
 have hS := hS.call hS1
 refine kb 2 rfl ?_
 cases hb_28 : (decide (x_27 < 0))
 case true =>
  have h := if_t h hb_28
  try simp only [hb_28]
  refine kb 2 rfl ?_
  refine kT (t := 37) rfl rfl (kJ rfl) rfl (kT (t := 37) rfl rfl (kl (k := 0) Tryz.underlying59 rfl rfl nz56 rfl) rfl (kT (t := 37) rfl rfl (ku Tryz.underlying56 rfl rfl (hBa0.cell hS.fr 0 rfl)) rfl ?_))
  obtain ⟨x_29, hx_29, h⟩ := kg h
  refine wpR_gcall (t := 37) rfl rfl (by kernel_rfl) rfl (c_bignum_Int_Cmp _ a2_0 a2_1 a0_0_0 a0_0_1 va2_1 va0_0_1 ba2 ba0_0 (ha2_1.now hS.fr).rp (hBa2.now hS.fr) (ha0_0_1.now hS.fr).rp (hBa0_0.now hS.fr) _ hx_29) rfl ?_
  rintro _ w ⟨rfl, hS1⟩
  have hS := hS.call hS1
  refine kb 3 rfl ?_
  cases hb_30 : (decide (x_29 < 0))
  case true =>
   have h := if_t h hb_30
   try simp only [hb_30]
   refine kb 3 rfl ?_
   obtain ⟨x_31, hx_31, h⟩ := kg h
   refine wpR_gcall (t := 46) rfl rfl (by kernel_rfl) rfl (c_curve_group_mul _ a0_0_0 a0_0_1 a0_1_0 a0_1_1 a0_2_0 a0_2_1 a0_3_0 a0_3_1 a0_4_0 a0_4_1 a0_5 a2_0 a2_1 a2_0 a2_1 va0_0_1 va0_1_1 va0_2_1 va0_3_1 va0_4_1 va2_1 va2_1 ba0 ba0_0 ba0_1 ba0_2 ba0_3 ba0_4 ba2 ba2 (ha0_0_1.now hS.fr).rp (hBa0_0.now hS.fr) (ha0_1_1.now hS.fr).rp (hBa0_1.now hS.fr) (ha0_2_1.now hS.fr).rp (hBa0_2.now hS.fr) (ha0_3_1.now hS.fr).rp (hBa0_3.now hS.fr) (ha0_4_1.now hS.fr).rp (hBa0_4.now hS.fr) (hBa0.now hS.fr) (ha2_1.now hS.fr).rp (hBa2.now hS.fr) (ha2_1.now hS.fr).rp (hBa2.now hS.fr) _ hx_31) rfl ?_
   rintro _ w ⟨v_32, b_34, rfl, hS1⟩
   have hS := hS.call hS1
   refine kb 1 rfl ?_
   obtain ⟨x_36, hx_36, h⟩ := kg h
   refine wpR_gcall (t := 46) rfl rfl (by kernel_rfl) rfl (c_bignum_Int_Cmp _ x_31.1 x_31.2 x_24.1 x_24.2 v_32 v_25 b_34 b_19 (hS.ro 1 rfl).rp (hS.rb 0 rfl) (hS.ro 3 rfl).rp (hS.rb 2 rfl) _ hx_36) rfl ?_
   rintro _ w ⟨rfl, hS1⟩
   have hS := hS.call hS1
   refine kb 3 rfl ?_
   refine kf (ka (kq ?_))
   cases h
   exact ky rfl rfl ⟨rfl, hS.pick [] (by decide) rfl⟩
  case false =>
   have h := if_f h hb_30
   try simp only [hb_30]
   refine kb 9 rfl ?_
   refine kf (ka (kq ?_))
   cases h
   exact ky rfl rfl ⟨rfl, hS.pick [] (by decide) rfl⟩
 case false =>
  have h := if_f h hb_28
  try simp only [hb_28]
  refine kb 18 rfl ?_
  refine kf (ka (kq ?_))
  cases h
  exact ky rfl rfl ⟨rfl, hS.pick [] (by decide) rfl⟩
theorem c_curve_in (w0 : World) (a0 : List UInt32) (va0 : Value) (ha0 : RP [] w0 e32 va0 a0) (r : Bool × List UInt32)
  (h : F.curve_in a0 = some r) : Calls Tryz.prog 107 #[va0] w0 (Ret fun v w => ∃ u0_1 : Value, ∃ un0 : Nat, v = pB un0 0 ∧ St [] w0 w [OE.bx un0 [vB r.1, u0_1], own e32 u0_1 r.2]) := by
 refine kz 7 Tryz.func107 rfl rfl rfl ?_
 have hS := St.start w0
 refine kn [(0, va0)] ⟨rfl, trivial⟩ ?_
 unfold F.curve_in at h
 refine ke (kc (kb 1 rfl ?_))
 refine kf (ka (ke (kc (kW (kE (cs := [vB false, .slice none 0 0]) tz62 rfl hS) rfl ?_))))
 rintro _ w ⟨b_1, rfl, hS⟩
 refine kb 1 rfl ?_
 obtain ⟨x_3, hx_3, h⟩ := kg h
 refine kk (by kernel_rfl) rfl (c_nat_Bytes _ a0 va0  (ha0.now hS.fr).rp _ hx_3) rfl ?_
 rintro v_4 w hS1
 have hS := hS.call hS1
 replace hS := hS.nil e32
 have hG := hS.pick (os' := [OE.bx b_1 [vB false, .slice none 0 0], own e32 (.slice none 0 0) []] ++ [own e8 v_4 x_3]) [2, 0, 1] (by decide) rfl
 obtain ⟨x_7, hx_7, h⟩ := kg h
 refine kk (by kernel_rfl) rfl (c_bignum_Int_SetBytes _ false [] x_3 (.slice none 0 0) v_4 b_1 _ hG.give (hG.giveO 0 rfl) _ hx_7) rfl ?_
 rintro _ w ⟨v_8, rfl, hS1⟩
 have hS := hG.back hS1
 refine kb 1 rfl ?_
 refine kf (ka (kq ?_))
 cases h
 exact ky rfl rfl ⟨v_8, b_1, rfl, hS.pick [0, 1] (by decide) rfl⟩
theorem c_curve_infinity (w0 : World)    (r : Bool × List UInt32 × Bool × List UInt32 × Bool × List UInt32)
  (h : F.curve_infinity  = some r) : Calls Tryz.prog 86 #[] w0 (Ret fun v w => ∃ u0_0_1 u0_1_1 u0_2_1 : Value, ∃ un0_0 un0_1 un0_2 : Nat, v = .agg #[pB un0_0 0, pB un0_1 0, pB un0_2 0] ∧ St [] w0 w [OE.bx un0_0 [vB r.1, u0_0_1], own e32 u0_0_1 r.2.1, OE.bx un0_1 [vB r.2.2.1, u0_1_1], own e32 u0_1_1 r.2.2.2.1, OE.bx un0_2 [vB r.2.2.2.2.1, u0_2_1], own e32 u0_2_1 r.2.2.2.2.2]) := by
 refine kz 5 Tryz.func86 rfl rfl rfl ?_
 have hS := St.start w0
 refine kn [] trivial ?_
 unfold F.curve_infinity at h
 refine ke (kc (kW (kE (cs := [.pointer none, .pointer none, .pointer none]) tz66 rfl hS) rfl ?_))
 rintro _ w ⟨b_1, rfl, hS⟩
 refine kf (ka (ke (kc (kW (kE (cs := [vB false, .slice none 0 0]) tz62 rfl hS) rfl ?_))))
 rintro _ w ⟨b_3, rfl, hS⟩
 refine kW (kE (cs := [vB false, .slice none 0 0]) tz62 rfl hS) rfl ?_
 rintro _ w ⟨b_5, rfl, hS⟩
 refine kW (kE (cs := [vB false, .slice none 0 0]) tz62 rfl hS) rfl ?_
 rintro _ w ⟨b_7, rfl, hS⟩
 refine ki (OpV_build (vs := [(0, pB b_3 0, [pB b_3 0]), (1, pB b_5 0, [pB b_5 0]), (2, pB b_7 0, [pB b_7 0])]) (cells := [pB b_3 0, pB b_5 0, pB b_7 0]) rfl lay66 ⟨rfl, rfl, rfl, trivial⟩ rfl) rfl ?_
 refine kX (kM (i := 3) (us := [pB b_3 0, pB b_5 0, pB b_7 0]) rfl sz66 rfl rfl rfl ⟨rfl, rfl, rfl, trivial⟩ rfl hS) ?_
 intro w hS
 refine kf (ka (kq ?_))
 cases h
 exact QE_rv1 rfl ⟨_, rfl, run_ldAgg (us := [pB b_3 0, pB b_5 0, pB b_7 0]) Tryz.underlying66 rfl sz66 (hS.bxs 3 rfl rfl)⟩ ⟨.slice none 0 0, .slice none 0 0, .slice none 0 0, b_3, b_5, b_7, rfl, (((hS.nil e32).nil e32).nil e32).pick [5, 2, 4, 1, 3, 0] (by decide) rfl⟩
theorem c_curve_group_read (w0 : World) (a0_0_0 : Bool) (a0_0_1 : List UInt32) (a0_1_0 : Bool) (a0_1_1 : List UInt32) (a0_2_0 : Bool) (a0_2_1 : List UInt32) (a0_3_0 : Bool) (a0_3_1 : List UInt32) (a0_4_0 : Bool) (a0_4_1 : List UInt32) (a0_5 : Int) (a1_0 : List UInt32) (a1_1 : List UInt32) (a1_2 : Bool) (va0_0_1 : Value) (va0_1_1 : Value) (va0_2_1 : Value) (va0_3_1 : Value) (va0_4_1 : Value) (va1_0 : Value) (va1_1 : Value) (ba0 : Nat) (ba0_0 : Nat) (ba0_1 : Nat) (ba0_2 : Nat) (ba0_3 : Nat) (ba0_4 : Nat) (T : List Nat) (hTT : TOk [] T w0) (ha0_0_1 : RP T w0 e32 va0_0_1 a0_0_1) (hBa0_0 : RB T w0 ba0_0 [vB a0_0_0, va0_0_1]) (ha0_1_1 : RP T w0 e32 va0_1_1 a0_1_1) (hBa0_1 : RB T w0 ba0_1 [vB a0_1_0, va0_1_1]) (ha0_2_1 : RP T w0 e32 va0_2_1 a0_2_1) (hBa0_2 : RB T w0 ba0_2 [vB a0_2_0, va0_2_1]) (ha0_3_1 : RP T w0 e32 va0_3_1 a0_3_1) (hBa0_3 : RB T w0 ba0_3 [vB a0_3_0, va0_3_1]) (ha0_4_1 : RP T w0 e32 va0_4_1 a0_4_1) (hBa0_4 : RB T w0 ba0_4 [vB a0_4_0, va0_4_1]) (hBa0 : RB T w0 ba0 [pB ba0_0 0, pB ba0_1 0, pB ba0_2 0, pB ba0_3 0, pB ba0_4 0, vI a0_5, .func (.func 101) #[] #[]]) (ha1_0 : RP T w0 e32 va1_0 a1_0) (ha1_1 : RP T w0 e32 va1_1 a1_1) (r : Bool × List UInt32 × Bool × List UInt32 × Bool × List UInt32 × Bool)
  (h : F.curve_group_read a0_0_0 a0_0_1 a0_1_0 a0_1_1 a0_2_0 a0_2_1 a0_3_0 a0_3_1 a0_4_0 a0_4_1 a0_5 a1_0 a1_1 a1_2 = some r) : Calls Tryz.prog 78 #[pB ba0 0, .agg #[va1_0, va1_1, vB a1_2]] w0 (Ret fun v w => ∃ b0_0 : Nat, ∃ u0_0_1 : Value, ∃ b0_1 : Nat, ∃ u0_1_1 : Value, ∃ b0_2 : Nat, ∃ u0_2_1 : Value, v = .tuple #[.agg #[pB b0_0 0, pB b0_1 0, pB b0_2 0], vB r.2.2.2.2.2.2] ∧ St [] w0 w [] ∧ Rds T w [OE.bx b0_2 [vB r.2.2.2.2.1, u0_2_1], red e32 u0_2_1 r.2.2.2.2.2.1, OE.bx b0_1 [vB r.2.2.1, u0_1_1], red e32 u0_1_1 r.2.2.2.1, OE.bx b0_0 [vB r.1, u0_0_1], red e32 u0_0_1 r.2.1]) := by
 refine kz 33 Tryz.func78 rfl rfl rfl ?_
 have hS := St.start w0
 have hZ := Fz.start (S := []) (w0 := w0)
 have hA0 : Rds T w0 [red e32 va1_1 a1_1, red e32 va1_0 a1_0, OE.bx ba0 [pB ba0_0 0, pB ba0_1 0, pB ba0_2 0, pB ba0_3 0, pB ba0_4 0, vI a0_5, .func (.func 101) #[] #[]], OE.bx ba0_4 [vB a0_4_0, va0_4_1], red e32 va0_4_1 a0_4_1, OE.bx ba0_3 [vB a0_3_0, va0_3_1], red e32 va0_3_1 a0_3_1, OE.bx ba0_2 [vB a0_2_0, va0_2_1], red e32 va0_2_1 a0_2_1, OE.bx ba0_1 [vB a0_1_0, va0_1_1], red e32 va0_1_1 a0_1_1, OE.bx ba0_0 [vB a0_0_0, va0_0_1], red e32 va0_0_1 a0_0_1] := Rds.cons (RP.kept (Nat.le_of_ble_eq_true rfl) ha1_1) (Rds.cons (RP.kept (Nat.le_of_ble_eq_true rfl) ha1_0) (Rds.cons hBa0.kept (Rds.cons hBa0_4.kept (Rds.cons (RP.kept (Nat.le_of_ble_eq_true rfl) ha0_4_1) (Rds.cons hBa0_3.kept (Rds.cons (RP.kept (Nat.le_of_ble_eq_true rfl) ha0_3_1) (Rds.cons hBa0_2.kept (Rds.cons (RP.kept (Nat.le_of_ble_eq_true rfl) ha0_2_1) (Rds.cons hBa0_1.kept (Rds.cons (RP.kept (Nat.le_of_ble_eq_true rfl) ha0_1_1) (Rds.cons hBa0_0.kept (Rds.cons (RP.kept (Nat.le_of_ble_eq_true rfl) ha0_0_1) (Rds.nil)))))))))))))
 have hA := hA0.all
 have hP := hA0.off rfl
 refine kn [(0, pB ba0 0), (1, .agg #[va1_0, va1_1, vB a1_2])] ⟨rfl, rfl, trivial⟩ ?_
 unfold F.curve_group_read at h
 refine ke (kc (kW (OpX_box (cs := [va1_0, va1_1, vB a1_2]) rfl rfl hS) rfl ?_))
 rintro _ w ⟨b_1, rfl, hS⟩
 refine kW (kE (cs := [.pointer none, .pointer none, .pointer none]) tz66 rfl hS) rfl ?_
 rintro _ w ⟨b_3, rfl, hS⟩
 refine kb 1 rfl ?_
 refine kf (ka (ke ?_))
 refine kN (fun w' => St [] w0 w' [OE.bx b_3 [.pointer none, .pointer none, .pointer none], OE.bx b_1 [va1_0, va1_1, vB a1_2]]) (fun i => !([2, 5].contains i)) hmix (fun _ _ _ hf => hf.2) (fun _ _ hf => hf) (by kernel_rfl) ?_
 have hS := hS.drew
 show lxE _ _ _ _ _ _ _ [0, 1, 2, 3, 4, 5, 6, 7] _ _
 refine kj hS rfl rfl (fun w hF => kl (k := 0) Tryz.underlying27 rfl rfl nz25 rfl) rfl (kj hS rfl rfl (fun w hF => ku Tryz.underlying25 rfl rfl (hF.bxc 1 rfl 0)) rfl ?_)
 obtain ⟨x_5, hx_5, h⟩ := kg h
 refine kP hS rfl rfl (by kernel_rfl) rfl (c_curve_in _ a1_0 va1_0  ((hA.rp 11 rfl).now hS.fr).rp _ hx_5) rfl ?_
 rintro _ w ⟨v_6, b_8, rfl, hS1⟩
 have hS := hS.call hS1
 refine kj (hS.pick [2, 3] (by decide) rfl) rfl rfl (fun w hF => kl (k := 1) Tryz.underlying27 rfl rfl nz25 rfl) rfl ?_
 refine kj (hS.pick [2, 3] (by decide) rfl) rfl rfl (fun w hF => ku Tryz.underlying25 rfl rfl (hF.bxc 1 rfl 1)) rfl ?_
 obtain ⟨x_10, hx_10, h⟩ := kg h
 refine kP (hS.pick [2, 3] (by decide) rfl) rfl rfl (by kernel_rfl) rfl (c_curve_in _ a1_1 va1_1  ((hA.rp 12 rfl).now hS.fr).rp _ hx_10) rfl ?_
 rintro _ w ⟨v_11, b_13, rfl, hS1⟩
 have hS := hS.call hS1
 refine kj (hS.pick [4, 5] (by decide) rfl) rfl rfl (fun w hF => kA rfl) rfl ?_
 refine kj (hS.pick [4, 5] (by decide) rfl) rfl rfl (fun w hF => kA rfl) rfl ?_
 refine kY (hS.pick [4, 5] (by decide) rfl) ?_
 refine ka (ke (ke (kc (ki (kl (k := 2) Tryz.underlying27 rfl rfl nz4 rfl) rfl (ki (ku Tryz.underlying4 rfl rfl (hS.bxc 5 rfl 2)) rfl (kf (ka ?_)))))))
 refine ko rfl (fun hb_37 => ?_) (fun hb_37 => ?_)
 ·have h := if_t h hb_37
  refine ke (kc ?_)
  obtain ⟨x_15, hx_15, h⟩ := kg h
  refine kk (by kernel_rfl) rfl (c_curve_infinity _     _ hx_15) rfl ?_
  rintro _ w ⟨v_16, v_18, v_20, b_22, b_24, b_26, rfl, hS1⟩
  have hS := hS.call hS1
  refine kb 1 rfl ?_
  obtain ⟨x_28, hx_28, h⟩ := kg h
  refine kk (by kernel_rfl) rfl (c_bignum_Int_Sign _ x_5.1 x_5.2 v_6 b_8 (hS.ro 9 rfl).rp (hS.rb 8 rfl) _ hx_28) rfl ?_
  rintro _ w ⟨rfl, hS1⟩
  have hS := hS.call hS1
  refine kb 2 rfl ?_
  cases hb_29 : (x_28 == 0)
  case true =>
   have h := if_t h hb_29
   try simp only [hb_29]
   refine kb 1 rfl ?_
   obtain ⟨x_30, hx_30, h⟩ := kg h
   refine wpR_gcall (t := 20) rfl rfl (by kernel_rfl) rfl (c_bignum_Int_Sign _ x_10.1 x_10.2 v_11 b_13 (hS.ro 7 rfl).rp (hS.rb 6 rfl) _ hx_30) rfl ?_
   rintro _ w ⟨rfl, hS1⟩
   have hS := hS.call hS1
   refine kb 2 rfl ?_
   refine kX (kM (i := 10) (us := [pB b_22 0, pB b_24 0, pB b_26 0]) rfl sz66 rfl rfl rfl ⟨rfl, rfl, rfl, trivial⟩ rfl hS) ?_
   intro w hS
   refine kb 1 rfl ?_
   refine kf (ka (kq (kv ?_)))
   cases h
   obtain ⟨hS0, hR⟩ := hZ.outT hTT hA hP hS
   exact QE_rv2 rfl ⟨_, rfl, run_ldAgg (us := [pB b_22 0, pB b_24 0, pB b_26 0]) Tryz.underlying66 rfl sz66 (hS.bxs 10 rfl rfl)⟩ rfl ⟨b_22, v_16, b_24, v_18, b_26, v_20, rfl, hS0, (Rds.cons (hR.nth 20 rfl) (Rds.cons (hR.nth 19 rfl) (Rds.cons (hR.nth 22 rfl) (Rds.cons (hR.nth 21 rfl) (Rds.cons (hR.nth 24 rfl) (Rds.cons (hR.nth 23 rfl) Rds.nil))))))⟩
  case false =>
   have h := if_f h hb_29
   try simp only [hb_29]
   refine kb 4 rfl ?_
   refine kX (kM (i := 10) (us := [pB b_22 0, pB b_24 0, pB b_26 0]) rfl sz66 rfl rfl rfl ⟨rfl, rfl, rfl, trivial⟩ rfl hS) ?_
   intro w hS
   refine kb 1 rfl ?_
   refine kf (ka (kq (kv ?_)))
   cases h
   obtain ⟨hS0, hR⟩ := hZ.outT hTT hA hP hS
   exact QE_rv2 rfl ⟨_, rfl, run_ldAgg (us := [pB b_22 0, pB b_24 0, pB b_26 0]) Tryz.underlying66 rfl sz66 (hS.bxs 10 rfl rfl)⟩ rfl ⟨b_22, v_16, b_24, v_18, b_26, v_20, rfl, hS0, (Rds.cons (hR.nth 20 rfl) (Rds.cons (hR.nth 19 rfl) (Rds.cons (hR.nth 22 rfl) (Rds.cons (hR.nth 21 rfl) (Rds.cons (hR.nth 24 rfl) (Rds.cons (hR.nth 23 rfl) Rds.nil))))))⟩
 have h := if_f h hb_37
 refine kr (ka (ke (kc (kb 2 rfl ?_))))
 obtain ⟨x_31, hx_31, h⟩ := kg h
 refine kk (by kernel_rfl) rfl (c_bignum_NewInt _ 1    _ hx_31) rfl ?_
 rintro _ w ⟨v_32, b_34, rfl, hS1⟩
 have hS := hS.call hS1
 refine ki (OpV_build (vs := [(0, pB b_8 0, [pB b_8 0]), (1, pB b_13 0, [pB b_13 0]), (2, pB b_34 0, [pB b_34 0])]) (cells := [pB b_8 0, pB b_13 0, pB b_34 0]) rfl lay66 ⟨rfl, rfl, rfl, trivial⟩ rfl) rfl ?_
 refine kb 3 rfl ?_
 obtain ⟨x_36, hx_36, h⟩ := kg h
 refine kk (by kernel_rfl) rfl (c_curve_group_on _ a0_0_0 a0_0_1 a0_1_0 a0_1_1 a0_2_0 a0_2_1 a0_3_0 a0_3_1 a0_4_0 a0_4_1 a0_5 x_5.1 x_5.2 x_10.1 x_10.2 va0_0_1 va0_1_1 va0_2_1 va0_3_1 va0_4_1 v_6 v_11 ba0 ba0_0 ba0_1 ba0_2 ba0_3 ba0_4 b_8 b_13 ((hA.rp 0 rfl).now hS.fr).rp ((hA.rb 1 rfl).now hS.fr) ((hA.rp 2 rfl).now hS.fr).rp ((hA.rb 3 rfl).now hS.fr) ((hA.rp 4 rfl).now hS.fr).rp ((hA.rb 5 rfl).now hS.fr) ((hA.rp 6 rfl).now hS.fr).rp ((hA.rb 7 rfl).now hS.fr) ((hA.rp 8 rfl).now hS.fr).rp ((hA.rb 9 rfl).now hS.fr) ((hA.rb 10 rfl).now hS.fr) (hS.ro 5 rfl).rp (hS.rb 4 rfl) (hS.ro 3 rfl).rp (hS.rb 2 rfl) _ hx_36) rfl ?_
 rintro _ w ⟨rfl, hS1⟩
 have hS := hS.call hS1
 refine kX (kM (i := 6) (us := [pB b_8 0, pB b_13 0, pB b_34 0]) rfl sz66 rfl rfl rfl ⟨rfl, rfl, rfl, trivial⟩ rfl hS) ?_
 intro w hS
 refine kb 1 rfl ?_
 refine kf (ka (kq ?_))
 cases h
 obtain ⟨hS0, hR⟩ := hZ.outT hTT hA hP hS
 exact QE_rv2 rfl ⟨_, rfl, run_ldAgg (us := [pB b_8 0, pB b_13 0, pB b_34 0]) Tryz.underlying66 rfl sz66 (hS.bxs 6 rfl rfl)⟩ rfl ⟨b_8, v_6, b_13, v_11, b_34, v_32, rfl, hS0, (Rds.cons (hR.nth 20 rfl) (Rds.cons (hR.nth 19 rfl) (Rds.cons (hR.nth 18 rfl) (Rds.cons (hR.nth 17 rfl) (Rds.cons (hR.nth 16 rfl) (Rds.cons (hR.nth 15 rfl) Rds.nil))))))⟩
theorem c_curve_take (w0 : World) (a0 : Int) (a1_0 : List UInt32) (a1_1 : List UInt32) (a1_2 : Bool) (va1_0 : Value) (va1_1 : Value) (T : List Nat) (hTT : TOk [] T w0) (ha1_0 : RP T w0 e32 va1_0 a1_0) (ha1_1 : RP T w0 e32 va1_1 a1_1) (r : Option (Bool × List UInt32 × Bool × List UInt32 × Bool × List UInt32 × Bool × List UInt32 × Bool × List UInt32 × Int × Bool × List UInt32 × Bool × List UInt32 × Bool × List UInt32) × Bool)
  (h : F.curve_take a0 a1_0 a1_1 a1_2 = some r) : Calls Tryz.prog 38 #[vI a0, .agg #[va1_0, va1_1, vB a1_2]] w0 (Ret fun v w => ocaseP r.1 (v = .tuple #[.pointer none, .agg #[.pointer none, .pointer none, .pointer none], vB r.2] ∧ St [] w0 w []) (fun c => ∃ b0 : Nat, ∃ b0_0 : Nat, ∃ u0_0_1 : Value, ∃ b0_1 : Nat, ∃ u0_1_1 : Value, ∃ b0_2 : Nat, ∃ u0_2_1 : Value, ∃ b0_3 : Nat, ∃ u0_3_1 : Value, ∃ b0_4 : Nat, ∃ u0_4_1 : Value, ∃ b1_0 : Nat, ∃ u1_0_1 : Value, ∃ b1_1 : Nat, ∃ u1_1_1 : Value, ∃ b1_2 : Nat, ∃ u1_2_1 : Value, v = .tuple #[pB b0 0, .agg #[pB b1_0 0, pB b1_1 0, pB b1_2 0], vB r.2] ∧ St [] w0 w [] ∧ Rds T w [OE.bx b1_2 [vB c.2.2.2.2.2.2.2.2.2.2.2.2.2.2.2.1, u1_2_1], red e32 u1_2_1 c.2.2.2.2.2.2.2.2.2.2.2.2.2.2.2.2, OE.bx b1_1 [vB c.2.2.2.2.2.2.2.2.2.2.2.2.2.1, u1_1_1], red e32 u1_1_1 c.2.2.2.2.2.2.2.2.2.2.2.2.2.2.1, OE.bx b1_0 [vB c.2.2.2.2.2.2.2.2.2.2.2.1, u1_0_1], red e32 u1_0_1 c.2.2.2.2.2.2.2.2.2.2.2.2.1, OE.bx b0 [pB b0_0 0, pB b0_1 0, pB b0_2 0, pB b0_3 0, pB b0_4 0, vI c.2.2.2.2.2.2.2.2.2.2.1, .func (.func 101) #[] #[]], OE.bx b0_4 [vB c.2.2.2.2.2.2.2.2.1, u0_4_1], red e32 u0_4_1 c.2.2.2.2.2.2.2.2.2.1, OE.bx b0_3 [vB c.2.2.2.2.2.2.1, u0_3_1], red e32 u0_3_1 c.2.2.2.2.2.2.2.1, OE.bx b0_2 [vB c.2.2.2.2.1, u0_2_1], red e32 u0_2_1 c.2.2.2.2.2.1, OE.bx b0_1 [vB c.2.2.1, u0_1_1], red e32 u0_1_1 c.2.2.2.1, OE.bx b0_0 [vB c.1, u0_0_1], red e32 u0_0_1 c.2.1])) := by
 refine kz 24 Tryz.func38 rfl rfl rfl ?_
 have hS := St.start w0
 have hZ := Fz.start (S := []) (w0 := w0)
 have hA0 : Rds T w0 [red e32 va1_1 a1_1, red e32 va1_0 a1_0] := Rds.cons (RP.kept (Nat.le_of_ble_eq_true rfl) ha1_1) (Rds.cons (RP.kept (Nat.le_of_ble_eq_true rfl) ha1_0) (Rds.nil))
 have hA := hA0.all
 have hP := hA0.off rfl
 refine kn [(0, vI a0), (1, .agg #[va1_0, va1_1, vB a1_2])] ⟨rfl, rfl, trivial⟩ ?_
 unfold F.curve_take at h
 refine ke (kc (kW (OpX_box (cs := [va1_0, va1_1, vB a1_2]) rfl rfl hS) rfl ?_))
 rintro _ w ⟨b_1, rfl, hS⟩
 refine kb 1 rfl ?_
 refine kW (kE (cs := [.pointer none, .pointer none, .pointer none]) tz66 rfl hS) rfl ?_
 rintro _ w ⟨b_3, rfl, hS⟩
 refine kb 1 rfl ?_
 refine kf (ka (ke (kc (kb 1 rfl ?_))))
 replace hS := hS.pick (os' := [] ++ [OE.bx b_3 [.pointer none, .pointer none, .pointer none], OE.bx b_1 [va1_0, va1_1, vB a1_2]]) [0, 1] (by decide) rfl
 obtain ⟨hZ, hA, hP, hS⟩ := hZ.frzK hTT hA hP hS
 obtain ⟨x_5, hx_5, h⟩ := kg h
 refine kk (by kernel_rfl) rfl (c_curve_of _ a0   _ (hZ.okT hTT hS)  _ hx_5) rfl ?_
 rintro v_q w hQ
 cases hc_7 : x_5 with
 | none =>
  have h := ocase_n h hc_7
  rw [hc_7] at hQ
  obtain ⟨rfl, hS1⟩ := ocaseP_n' hQ
  obtain ⟨S_9, wb_10, hZ, hA, hP, hS⟩ := hZ.callK hA hP hS hS1 Rds.nil rfl
  refine kb 1 rfl ?_
  refine kf (ka (ke (ke (kc (kb 1 rfl ?_)))))
  refine ki (kt rfl rfl (b_penN Tryz.underlying54)) rfl (kf (ka (wpC_condT rfl ?_)))
  refine ke (kc (ki (OpV_build (vs := []) (cells := [.pointer none, .pointer none, .pointer none]) rfl lay66 trivial rfl) rfl (kb 1 rfl ?_)))
  refine kX (kM (i := 0) (us := [.pointer none, .pointer none, .pointer none]) rfl sz66 rfl rfl rfl ⟨rfl, rfl, rfl, trivial⟩ rfl hS) ?_
  intro w hS
  refine kb 1 rfl ?_
  refine kf (ka (kq (kv ?_)))
  cases h
  obtain ⟨hS0, hR⟩ := hZ.outT hTT hA hP hS
  exact QE_rv3 rfl rfl ⟨_, rfl, run_ldAgg (us := [.pointer none, .pointer none, .pointer none]) Tryz.underlying66 rfl sz66 (hS.bxs 0 rfl rfl)⟩ rfl (ocaseP_n ⟨rfl, hS0⟩)
 | some x_8 =>
  have h := ocase_s h hc_7
  rw [hc_7] at hQ
  obtain ⟨b0_6, b0_6_0, u0_6_0_1, b0_6_1, u0_6_1_1, b0_6_2, u0_6_2_1, b0_6_3, u0_6_3_1, b0_6_4, u0_6_4_1, rfl, hS1, hR1⟩ := ocaseP_s' hQ
  obtain ⟨S_11, wb_12, hZ, hA, hP, hS⟩ := hZ.callK hA hP hS hS1 hR1 rfl
  refine kb 1 rfl ?_
  refine kf (ka (ke (ke (kc (kb 1 rfl ?_)))))
  refine ki (kt rfl rfl (b_peqN Tryz.underlying54 b0_6 0)) rfl (kf (ka (wpC_condF rfl ?_)))
  refine kr (ka (ke (kc (kb 1 rfl ?_))))
  refine ki (kH (us := [va1_0, va1_1, vB a1_2]) Tryz.underlying27 rfl sz27 rfl (hS.bxs 1 rfl rfl)) rfl ?_
  replace hS := hS.pick (os' := [] ++ [OE.bx b_3 [.pointer none, .pointer none, .pointer none], OE.bx b_1 [va1_0, va1_1, vB a1_2]]) [0, 1] (by decide) rfl
  obtain ⟨hZ, hA, hP, hS⟩ := hZ.frzK hTT hA hP hS
  obtain ⟨x_13, hx_13, h⟩ := kg h
  refine kk (by kernel_rfl) rfl (c_curve_group_read _ x_8.1 x_8.2.1 x_8.2.2.1 x_8.2.2.2.1 x_8.2.2.2.2.1 x_8.2.2.2.2.2.1 x_8.2.2.2.2.2.2.1 x_8.2.2.2.2.2.2.2.1 x_8.2.2.2.2.2.2.2.2.1 x_8.2.2.2.2.2.2.2.2.2.1 x_8.2.2.2.2.2.2.2.2.2.2 a1_0 a1_1 a1_2 u0_6_0_1 u0_6_1_1 u0_6_2_1 u0_6_3_1 u0_6_4_1 va1_0 va1_1 b0_6 b0_6_0 b0_6_1 b0_6_2 b0_6_3 b0_6_4 _ (hZ.okT hTT hS) (hA.rpT hP 2 rfl) (hA.rbT hP 3 rfl) (hA.rpT hP 4 rfl) (hA.rbT hP 5 rfl) (hA.rpT hP 6 rfl) (hA.rbT hP 7 rfl) (hA.rpT hP 8 rfl) (hA.rbT hP 9 rfl) (hA.rpT hP 10 rfl) (hA.rbT hP 11 rfl) (hA.rbT hP 12 rfl) (hA.rpT hP 0 rfl) (hA.rpT hP 1 rfl) _ hx_13) rfl ?_
  rintro _ w ⟨b0_14_0, u0_14_0_1, b0_14_1, u0_14_1_1, b0_14_2, u0_14_2_1, rfl, hS1, hR1⟩
  obtain ⟨S_17, wb_18, hZ, hA, hP, hS⟩ := hZ.callK hA hP hS hS1 hR1 rfl
  refine kb 3 rfl ?_
  refine kW (kE (cs := [.pointer none, .pointer none, .pointer none]) tz66 rfl hS) rfl ?_
  rintro _ w ⟨b_19, rfl, hS⟩
  refine kX (kM (i := 0) (us := [pB b0_14_0 0, pB b0_14_1 0, pB b0_14_2 0]) rfl sz66 rfl rfl rfl ⟨rfl, rfl, rfl, trivial⟩ rfl hS) ?_
  intro w hS
  refine kb 1 rfl ?_
  refine kf (ka (ke ?_))
  refine kN (fun w' => St S_17 wb_18 w' [OE.bx b_19 [pB b0_14_0 0, pB b0_14_1 0, pB b0_14_2 0], OE.bx b_1 [va1_0, va1_1, vB a1_2]]) (fun i => !([4].contains i)) hmix (fun _ _ _ hf => hf.2) (fun _ _ hf => hf) (by kernel_rfl) ?_
  have hS := hS.drew
  show lxE _ _ _ _ _ _ _ [0, 1, 2, 3, 4, 5] _ _
  refine kj (hS.pick [0, 2] (by decide) rfl) rfl rfl (fun w hF => km rfl) rfl ?_
  refine kj (hS.pick [0, 2] (by decide) rfl) rfl rfl (fun w hF => kH (us := [pB b0_14_0 0, pB b0_14_1 0, pB b0_14_2 0]) Tryz.underlying66 rfl sz66 rfl (hF.bxs 0 rfl rfl)) rfl ?_
  refine kj (hS.pick [0, 2] (by decide) rfl) rfl rfl (fun w hF => km rfl) rfl ?_
  refine kj (hS.pick [0, 2] (by decide) rfl) rfl rfl (fun w hF => kA rfl) rfl ?_
  refine ka1 (hS.pick [0, 2] (by decide) rfl) rfl rfl (kM (i := 1) (us := [pB b0_14_0 0, pB b0_14_1 0, pB b0_14_2 0]) rfl sz66 rfl rfl rfl ⟨rfl, rfl, rfl, trivial⟩ rfl hS) ?_
  intro w hS
  refine kj (hS.pick [0, 2] (by decide) rfl) rfl rfl (fun w hF => kA rfl) rfl ?_
  refine kY (hS.pick [0, 2] (by decide) rfl) ?_
  refine ka (kq ?_)
  cases h
  obtain ⟨hS0, hR⟩ := hZ.outT hTT hA hP hS
  exact QE_rv3 rfl rfl ⟨_, rfl, run_ldAgg (us := [pB b0_14_0 0, pB b0_14_1 0, pB b0_14_2 0]) Tryz.underlying66 rfl sz66 (hS.bxs 1 rfl rfl)⟩ rfl (ocaseP_s ⟨b0_6, b0_6_0, u0_6_0_1, b0_6_1, u0_6_1_1, b0_6_2, u0_6_2_1, b0_6_3, u0_6_3_1, b0_6_4, u0_6_4_1, b0_14_0, u0_14_0_1, b0_14_1, u0_14_1_1, b0_14_2, u0_14_2_1, rfl, hS0, (Rds.cons (hR.nth 18 rfl) (Rds.cons (hR.nth 17 rfl) (Rds.cons (hR.nth 16 rfl) (Rds.cons (hR.nth 15 rfl) (Rds.cons (hR.nth 14 rfl) (Rds.cons (hR.nth 13 rfl) (Rds.cons (hR.nth 12 rfl) (Rds.cons (hR.nth 11 rfl) (Rds.cons (hR.nth 10 rfl) (Rds.cons (hR.nth 9 rfl) (Rds.cons (hR.nth 8 rfl) (Rds.cons (hR.nth 7 rfl) (Rds.cons (hR.nth 6 rfl) (Rds.cons (hR.nth 5 rfl) (Rds.cons (hR.nth 4 rfl) (Rds.cons (hR.nth 3 rfl) (Rds.cons (hR.nth 2 rfl) Rds.nil)))))))))))))))))⟩)
end Go.Proofs
