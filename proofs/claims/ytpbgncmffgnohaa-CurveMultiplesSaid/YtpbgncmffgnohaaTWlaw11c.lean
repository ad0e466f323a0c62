import Derived.Test.YtpbgncmffgnohaaTW0
import Derived.Test.YtpbgncmffgnohaaGkFlaw11
import Derived.Test.YtpbgncmffgnohaaTWcurvee
import Derived.Test.YtpbgncmffgnohaaTWlaw11b
import Derived.Test.YtpbgncmffgnohaaTWnat
set_option linter.unusedVariables false
set_option linter.unusedSimpArgs false
set_option linter.unusedVariables false
set_option maxRecDepth 4000
namespace Go.Proofs
open Go Go.RowKit Go.Gk
set_option maxHeartbeats 8000000 in
theorem c_law11_CurveMultiples (w0 : World) (a0 : Int) (a1 : List UInt32) (a2 : List UInt32) (a3_0 : List UInt32) (a3_1 : List UInt32) (a3_2 : Bool) (va1 : Value) (va2 : Value) (va3_0 : Value) (va3_1 : Value) (ha1 : RP [] w0 e32 va1 a1) (ha2 : RP [] w0 e32 va2 a2) (ha3_0 : RP [] w0 e32 va3_0 a3_0) (ha3_1 : RP [] w0 e32 va3_1 a3_1) (r : Bool)
  (h : F.law11_CurveMultiples a0 a1 a2 a3_0 a3_1 a3_2 = some r) : Calls Try.prog 6 #[vI a0, va1, va2, .agg #[va3_0, va3_1, vB a3_2]] w0 (Ret fun v w => v = vB r ∧ St [] w0 w []) := by
 refine ky 216 Try.func6 rfl rfl rfl ?_
 have hS := St.start w0
 have hZ := Fz.start (S := []) (w0 := w0)
 have hTT : TOk [] [] w0 := TOk.nil
 have hA : Rds [] w0 [red e32 va3_1 a3_1, red e32 va3_0 a3_0, red e32 va2 a2, red e32 va1 a1] := Rds.cons (RP.kept (Nat.le_of_ble_eq_true rfl) ha3_1) (Rds.cons (RP.kept (Nat.le_of_ble_eq_true rfl) ha3_0) (Rds.cons (RP.kept (Nat.le_of_ble_eq_true rfl) ha2) (Rds.cons (RP.kept (Nat.le_of_ble_eq_true rfl) ha1) (Rds.nil))))
 have hP : Off [] [red e32 va3_1 a3_1, red e32 va3_0 a3_0, red e32 va2 a2, red e32 va1 a1] := Off.emp
 refine km [(0, vI a0), (1, va1), (2, va2), (3, .agg #[va3_0, va3_1, vB a3_2])] ⟨rfl, rfl, rfl, rfl, trivial⟩ ?_
 unfold F.law11_CurveMultiples at h
 refine kd (kc (kV (OpX_box (cs := [va3_0, va3_1, vB a3_2]) rfl rfl hS) rfl ?_))
 rintro _ w ⟨b_1, rfl, hS⟩
 refine kb 1 rfl ?_
 refine ke (ka (kd (kd (kc ?_))))
 obtain ⟨x_3, hx_3, h⟩ := kf h
 refine kj (by kernel_rfl) rfl (c_law11_started _     _ hx_3) rfl ?_
 rintro _ w ⟨rfl, hS1⟩
 have hS := hS.call hS1
 refine kb 1 rfl ?_
 refine ke (ka ?_)
 refine kn rfl (fun hb_175 => ?_) (fun hb_175 => ?_)
 ·have h := if_t h hb_175
  refine kd (kc (kb 1 rfl ?_))
  refine ke (ka (ko (ku ?_)))
  cases h
  replace hS := hZ.st hS
  exact kx rfl rfl ⟨rfl, hS.pick [] (by decide) rfl⟩
 have h := if_f h hb_175
 refine kq (ka (kd (kd (kc (kb 1 rfl ?_)))))
 refine kh (kG (us := [va3_0, va3_1, vB a3_2]) Try.underlying26 rfl sz26 rfl (hS.bxs 0 rfl rfl)) rfl ?_
 obtain ⟨x_4, hx_4, h⟩ := kf h
 refine kj (by kernel_rfl) rfl (c_curve_On _ a0 a3_0 a3_1 a3_2 va3_0 va3_1  ((hA.rp 2 rfl).now hS.fr).rp ((hA.rp 3 rfl).now hS.fr).rp _ hx_4) rfl ?_
 rintro _ w ⟨rfl, hS1⟩
 have hS := hS.call hS1
 refine kb 1 rfl ?_
 refine ke (ka ?_)
 refine kn rfl (fun hb_174 => ?_) (fun hb_174 => ?_)
 ·have h := if_t h hb_174
  refine kd (kc (kb 2 rfl ?_))
  refine kh (kG (us := [va3_0, va3_1, vB a3_2]) Try.underlying26 rfl sz26 rfl (hS.bxs 0 rfl rfl)) rfl ?_
  obtain ⟨x_5, hx_5, h⟩ := kf h
  refine kj (by kernel_rfl) rfl (c_curve_Mul _ a0 a1 a3_0 a3_1 a3_2 va1 va3_0 va3_1  ((hA.rp 0 rfl).now hS.fr).rp ((hA.rp 2 rfl).now hS.fr).rp ((hA.rp 3 rfl).now hS.fr).rp _ hx_5) rfl ?_
  rintro _ w ⟨v_6, v_8, rfl, hS1⟩
  have hS := hS.call hS1
  refine kb 3 rfl ?_
  refine kV (kD (cs := [.slice none 0 0, .slice none 0 0, vB false]) tz26 rfl hS) rfl ?_
  rintro _ w ⟨b_10, rfl, hS⟩
  refine kW (kL (i := 0) (us := [v_6, v_8, vB x_5.2.2.1]) rfl sz26 rfl rfl rfl ⟨(hS.ro 1 rfl).one, (hS.ro 2 rfl).one, rfl, trivial⟩ rfl hS) ?_
  intro w hS
  refine kb 1 rfl ?_
  refine ke (ka (kd (kc (kb 3 rfl ?_))))
  refine kh (kG (us := [va3_0, va3_1, vB a3_2]) Try.underlying26 rfl sz26 rfl (hS.bxs 3 rfl rfl)) rfl ?_
  obtain ⟨x_12, hx_12, h⟩ := kf h
  refine kj (by kernel_rfl) rfl (c_curve_Joint _ a0 a1 a2 a3_0 a3_1 a3_2 va1 va2 va3_0 va3_1  ((hA.rp 0 rfl).now hS.fr).rp ((hA.rp 1 rfl).now hS.fr).rp ((hA.rp 2 rfl).now hS.fr).rp ((hA.rp 3 rfl).now hS.fr).rp _ hx_12) rfl ?_
  rintro _ w ⟨v_13, v_15, rfl, hS1⟩
  have hS := hS.call hS1
  refine kb 3 rfl ?_
  refine kV (kD (cs := [.slice none 0 0, .slice none 0 0, vB false]) tz26 rfl hS) rfl ?_
  rintro _ w ⟨b_17, rfl, hS⟩
  refine kW (kL (i := 0) (us := [v_13, v_15, vB x_12.2.2.1]) rfl sz26 rfl rfl rfl ⟨(hS.ro 1 rfl).one, (hS.ro 2 rfl).one, rfl, trivial⟩ rfl hS) ?_
  intro w hS
  refine kb 1 rfl ?_
  refine ke (ka (kd (kc (kb 3 rfl ?_))))
  cases hb_19 : (x_5.2.2.2 == 93)
  case true =>
   have h := if_t h hb_19
   try simp only [hb_19]
   refine kb 4 rfl ?_
   refine ke (ka (ko (ku ?_)))
   cases h
   replace hS := hZ.st hS
   exact kx rfl rfl ⟨rfl, hS.pick [] (by decide) rfl⟩
  case false =>
   have h := if_f h hb_19
   try simp only [hb_19]
   refine kb 4 rfl ?_
   refine ke (ka (ko (ku ?_)))
   cases h
   replace hS := hZ.st hS
   exact kx rfl rfl ⟨rfl, hS.pick [] (by decide) rfl⟩
 have h := if_f h hb_174
 refine kq (ka (kd (kc (kb 2 rfl ?_))))
 refine kh (kG (us := [va3_0, va3_1, vB a3_2]) Try.underlying26 rfl sz26 rfl (hS.bxs 0 rfl rfl)) rfl ?_
 obtain ⟨x_20, hx_20, h⟩ := kf h
 refine kj (by kernel_rfl) rfl (c_curve_Mul _ a0 a1 a3_0 a3_1 a3_2 va1 va3_0 va3_1  ((hA.rp 0 rfl).now hS.fr).rp ((hA.rp 2 rfl).now hS.fr).rp ((hA.rp 3 rfl).now hS.fr).rp _ hx_20) rfl ?_
 rintro _ w ⟨v_21, v_23, rfl, hS1⟩
 have hS := hS.call hS1
 refine kb 3 rfl ?_
 refine kV (kD (cs := [.slice none 0 0, .slice none 0 0, vB false]) tz26 rfl hS) rfl ?_
 rintro _ w ⟨b_25, rfl, hS⟩
 refine kW (kL (i := 0) (us := [v_21, v_23, vB x_20.2.2.1]) rfl sz26 rfl rfl rfl ⟨(hS.ro 1 rfl).one, (hS.ro 2 rfl).one, rfl, trivial⟩ rfl hS) ?_
 intro w hS
 refine kb 1 rfl ?_
 refine ke (ka (kd (kc (kb 2 rfl ?_))))
 refine kh (kG (us := [va3_0, va3_1, vB a3_2]) Try.underlying26 rfl sz26 rfl (hS.bxs 3 rfl rfl)) rfl ?_
 obtain ⟨x_27, hx_27, h⟩ := kf h
 refine kj (by kernel_rfl) rfl (c_curve_Mul _ a0 a2 a3_0 a3_1 a3_2 va2 va3_0 va3_1  ((hA.rp 1 rfl).now hS.fr).rp ((hA.rp 2 rfl).now hS.fr).rp ((hA.rp 3 rfl).now hS.fr).rp _ hx_27) rfl ?_
 rintro _ w ⟨v_28, v_30, rfl, hS1⟩
 have hS := hS.call hS1
 refine kb 3 rfl ?_
 refine kV (kD (cs := [.slice none 0 0, .slice none 0 0, vB false]) tz26 rfl hS) rfl ?_
 rintro _ w ⟨b_32, rfl, hS⟩
 refine kW (kL (i := 0) (us := [v_28, v_30, vB x_27.2.2.1]) rfl sz26 rfl rfl rfl ⟨(hS.ro 1 rfl).one, (hS.ro 2 rfl).one, rfl, trivial⟩ rfl hS) ?_
 intro w hS
 refine kb 1 rfl ?_
 refine ke (ka (kd (kc (kb 1 rfl ?_))))
 obtain ⟨x_34, hx_34, h⟩ := kf h
 refine kj (by kernel_rfl) rfl (c_nat_Bits _ a1 va1  ((hA.rp 0 rfl).now hS.fr).rp _ hx_34) rfl ?_
 rintro _ w ⟨rfl, hS1⟩
 have hS := hS.call hS1
 refine kb 1 rfl ?_
 obtain ⟨x_35, hx_35, h⟩ := kH h
 refine kh (kz (v := vB x_35) (by rw [← hx_35]; rfl)) rfl ?_
 refine ke (ka (kd ?_))
 refine kN (r := r) (fun (g : Bool) L w => L = [(0, vI a0), (1, va1), (2, va2), (7, pB b_1 0), (13, pB b_25 0), (14, vI x_20.2.2.2), (15, pB b_32 0), (16, vI x_27.2.2.2), (93, vB g)] ∧ SfT [] [] w0 w [red e32 v_30 x_27.2.1, red e32 v_28 x_27.1, red e32 v_23 x_20.2.1, red e32 v_21 x_20.1, red e32 va3_1 a3_1, red e32 va3_0 a3_0, red e32 va2 a2, red e32 va1 a1] [OE.bx b_1 [va3_0, va3_1, vB a3_2], OE.bx b_25 [v_21, v_23, vB x_20.2.2.1], OE.bx b_32 [v_28, v_30, vB x_27.2.2.1]]) (F.law11_CurveMultiples_K1 x_20 x_27 a0 a1 a2 a3_0 a3_1 a3_2) ?_ ?_
 rotate_left
 ·intro hK_45
  refine kc (kb 3 rfl ?_)
  refine kh (kr rfl rfl (b_bneq _ x_35 (x_20.2.2.2 == 10) Try.underlying4 rfl)) rfl (kb 1 rfl ?_)
  cases hb_36 : (x_35 != (x_20.2.2.2 == 10))
  case true =>
   have h := if_t h hb_36
   try simp only [hb_36]
   refine kb 7 rfl ?_
   refine ke (ka ?_)
   replace hS := hS.pick (os' := [own e32 v_28 x_27.1, own e32 v_30 x_27.2.1, own e32 v_21 x_20.1, own e32 v_23 x_20.2.1] ++ [OE.bx b_32 [v_28, v_30, vB x_27.2.2.1], OE.bx b_25 [v_21, v_23, vB x_20.2.2.1], OE.bx b_1 [va3_0, va3_1, vB a3_2]]) [1, 2, 4, 5, 0, 3, 6] (by decide) rfl
   obtain ⟨S_37, wb_38, hZ, hA, hP, hS⟩ := hZ.frzT hTT hA hP hS
   exact km _ (by exact ⟨rfl, rfl, rfl, rfl, rfl, rfl, rfl, rfl, rfl, trivial⟩) (hK_45 true _ _ ⟨rfl, (SfT.mk' hZ (Rds.cons (hA.nth 6 rfl) (Rds.cons (hA.nth 7 rfl) (Rds.cons (hA.nth 4 rfl) (Rds.cons (hA.nth 5 rfl) (Rds.cons (hA.nth 3 rfl) (Rds.cons (hA.nth 2 rfl) (Rds.cons (hA.nth 1 rfl) (Rds.cons (hA.nth 0 rfl) Rds.nil)))))))) (Off.cons (hP.nth 6 rfl) (Off.cons (hP.nth 7 rfl) (Off.cons (hP.nth 4 rfl) (Off.cons (hP.nth 5 rfl) (Off.cons (hP.nth 3 rfl) (Off.cons (hP.nth 2 rfl) (Off.cons (hP.nth 1 rfl) (Off.cons (hP.nth 0 rfl) Off.nil)))))))) (hS.pick [2, 1, 0] (by decide) rfl))⟩ h)
  case false =>
   have h := if_f h hb_36
   try simp only [hb_36]
   refine kb 1 rfl ?_
   obtain ⟨x_39, hx_39, h⟩ := kf h
   refine wpR_gcall (t := 86) rfl rfl (by kernel_rfl) rfl (c_nat_Bits _ a2 va2  ((hA.rp 1 rfl).now hS.fr).rp _ hx_39) rfl ?_
   rintro _ w ⟨rfl, hS1⟩
   have hS := hS.call hS1
   refine kb 3 rfl ?_
   refine kS (t := 86) rfl rfl (kr rfl rfl (b_bneq _ (decide ((1024 : Int) < x_39)) (x_27.2.2.2 == 10) Try.underlying4 rfl)) rfl (kb 1 rfl ?_)
   refine ke (ka ?_)
   replace hS := hS.pick (os' := [own e32 v_28 x_27.1, own e32 v_30 x_27.2.1, own e32 v_21 x_20.1, own e32 v_23 x_20.2.1] ++ [OE.bx b_32 [v_28, v_30, vB x_27.2.2.1], OE.bx b_25 [v_21, v_23, vB x_20.2.2.1], OE.bx b_1 [va3_0, va3_1, vB a3_2]]) [1, 2, 4, 5, 0, 3, 6] (by decide) rfl
   obtain ⟨S_40, wb_41, hZ, hA, hP, hS⟩ := hZ.frzT hTT hA hP hS
   exact km _ (by exact ⟨rfl, rfl, rfl, rfl, rfl, rfl, rfl, rfl, rfl, trivial⟩) (hK_45 ((decide ((1024 : Int) < x_39)) != (x_27.2.2.2 == 10)) _ _ ⟨rfl, (SfT.mk' hZ (Rds.cons (hA.nth 6 rfl) (Rds.cons (hA.nth 7 rfl) (Rds.cons (hA.nth 4 rfl) (Rds.cons (hA.nth 5 rfl) (Rds.cons (hA.nth 3 rfl) (Rds.cons (hA.nth 2 rfl) (Rds.cons (hA.nth 1 rfl) (Rds.cons (hA.nth 0 rfl) Rds.nil)))))))) (Off.cons (hP.nth 6 rfl) (Off.cons (hP.nth 7 rfl) (Off.cons (hP.nth 4 rfl) (Off.cons (hP.nth 5 rfl) (Off.cons (hP.nth 3 rfl) (Off.cons (hP.nth 2 rfl) (Off.cons (hP.nth 1 rfl) (Off.cons (hP.nth 0 rfl) Off.nil)))))))) (hS.pick [2, 1, 0] (by decide) rfl))⟩ h)
 rintro x_44 L w hJ h
 try dsimp only at hJ
 obtain ⟨rfl, ⟨S_42, wb_43, hZ, hA, hP, hS⟩⟩ := hJ
 unfold F.law11_CurveMultiples_K1 at h
 refine kn rfl (fun hb_173 => ?_) (fun hb_173 => ?_)
 ·have h := if_t h hb_173
  refine kd (kc (kb 1 rfl ?_))
  refine ke (ka (ko (ku ?_)))
  cases h
  replace hS := hZ.st hS
  exact kx rfl rfl ⟨rfl, hS.pick [] (by decide) rfl⟩
 have h := if_f h hb_173
 refine kq (ka (kd ?_))
 refine kN (r := r) (fun (g : Bool) L w => L = [(0, vI a0), (1, va1), (2, va2), (7, pB b_1 0), (13, pB b_25 0), (15, pB b_32 0), (99, vB g)] ∧ SfT [] [] w0 w [red e32 v_30 x_27.2.1, red e32 v_28 x_27.1, red e32 v_23 x_20.2.1, red e32 v_21 x_20.1, red e32 va3_1 a3_1, red e32 va3_0 a3_0, red e32 va2 a2, red e32 va1 a1] [OE.bx b_1 [va3_0, va3_1, vB a3_2], OE.bx b_25 [v_21, v_23, vB x_20.2.2.1], OE.bx b_32 [v_28, v_30, vB x_27.2.2.1]]) (F.law11_CurveMultiples_K2 a0 a1 a2 a3_0 a3_1 a3_2 x_20 x_27) ?_ ?_
 rotate_left
 ·intro hK_50
  refine kc (kb 3 rfl ?_)
  cases hb_46 : (x_20.2.2.2 != 0)
  case true =>
   have h := if_t h hb_46
   try simp only [hb_46]
   refine kb 3 rfl ?_
   refine ke (ka ?_)
   exact km _ (by exact ⟨rfl, rfl, rfl, rfl, rfl, rfl, rfl, trivial⟩) (hK_50 true _ _ ⟨rfl, (SfT.mk' hZ (Rds.cons (hA.nth 7 rfl) (Rds.cons (hA.nth 6 rfl) (Rds.cons (hA.nth 5 rfl) (Rds.cons (hA.nth 4 rfl) (Rds.cons (hA.nth 3 rfl) (Rds.cons (hA.nth 2 rfl) (Rds.cons (hA.nth 1 rfl) (Rds.cons (hA.nth 0 rfl) Rds.nil)))))))) (Off.cons (hP.nth 7 rfl) (Off.cons (hP.nth 6 rfl) (Off.cons (hP.nth 5 rfl) (Off.cons (hP.nth 4 rfl) (Off.cons (hP.nth 3 rfl) (Off.cons (hP.nth 2 rfl) (Off.cons (hP.nth 1 rfl) (Off.cons (hP.nth 0 rfl) Off.nil)))))))) hS)⟩ h)
  case false =>
   have h := if_f h hb_46
   try simp only [hb_46]
   refine kb 3 rfl ?_
   refine ke (ka ?_)
   exact km _ (by exact ⟨rfl, rfl, rfl, rfl, rfl, rfl, rfl, trivial⟩) (hK_50 (x_27.2.2.2 != 0) _ _ ⟨rfl, (SfT.mk' hZ (Rds.cons (hA.nth 7 rfl) (Rds.cons (hA.nth 6 rfl) (Rds.cons (hA.nth 5 rfl) (Rds.cons (hA.nth 4 rfl) (Rds.cons (hA.nth 3 rfl) (Rds.cons (hA.nth 2 rfl) (Rds.cons (hA.nth 1 rfl) (Rds.cons (hA.nth 0 rfl) Rds.nil)))))))) (Off.cons (hP.nth 7 rfl) (Off.cons (hP.nth 6 rfl) (Off.cons (hP.nth 5 rfl) (Off.cons (hP.nth 4 rfl) (Off.cons (hP.nth 3 rfl) (Off.cons (hP.nth 2 rfl) (Off.cons (hP.nth 1 rfl) (Off.cons (hP.nth 0 rfl) Off.nil)))))))) hS)⟩ h)
 rintro x_49 L w hJ h
 try dsimp only at hJ
 obtain ⟨rfl, ⟨S_47, wb_48, hZ, hA, hP, hS⟩⟩ := hJ
 unfold F.law11_CurveMultiples_K2 at h
 refine kn rfl (fun hb_172 => ?_) (fun hb_172 => ?_)
 ·have h := if_t h hb_172
  refine kd (kc (kb 3 rfl ?_))
  refine kh (kG (us := [va3_0, va3_1, vB a3_2]) Try.underlying26 rfl sz26 rfl (hS.bxs 0 rfl rfl)) rfl ?_
  obtain ⟨x_51, hx_51, h⟩ := kf h
  refine kj (by kernel_rfl) rfl (c_curve_Joint _ a0 a1 a2 a3_0 a3_1 a3_2 va1 va2 va3_0 va3_1  ((hA.rp 0 rfl).now hS.fr).rp ((hA.rp 1 rfl).now hS.fr).rp ((hA.rp 2 rfl).now hS.fr).rp ((hA.rp 3 rfl).now hS.fr).rp _ hx_51) rfl ?_
  rintro _ w ⟨v_52, v_54, rfl, hS1⟩
  have hS := hS.call hS1
  refine kb 3 rfl ?_
  refine kV (kD (cs := [.slice none 0 0, .slice none 0 0, vB false]) tz26 rfl hS) rfl ?_
  rintro _ w ⟨b_56, rfl, hS⟩
  refine kW (kL (i := 0) (us := [v_52, v_54, vB x_51.2.2.1]) rfl sz26 rfl rfl rfl ⟨(hS.ro 1 rfl).one, (hS.ro 2 rfl).one, rfl, trivial⟩ rfl hS) ?_
  intro w hS
  refine kb 1 rfl ?_
  refine ke (ka (kd (kc (kb 3 rfl ?_))))
  refine ke (ka (ko (ku ?_)))
  cases h
  replace hS := hZ.st hS
  exact kx rfl rfl ⟨rfl, hS.pick [] (by decide) rfl⟩
 have h := if_f h hb_172
 refine kq (ka (kd (kc (kb 1 rfl ?_))))
 refine kh (kG (us := [v_21, v_23, vB x_20.2.2.1]) Try.underlying26 rfl sz26 rfl (hS.bxs 1 rfl rfl)) rfl (kh (kG (us := [v_28, v_30, vB x_27.2.2.1]) Try.underlying26 rfl sz26 rfl (hS.bxs 2 rfl rfl)) rfl ?_)
 obtain ⟨x_58, hx_58, h⟩ := kf h
 refine kj (by kernel_rfl) rfl (c_curve_Add _ a0 x_20.1 x_20.2.1 x_20.2.2.1 x_27.1 x_27.2.1 x_27.2.2.1 v_21 v_23 v_28 v_30  ((hA.rp 4 rfl).now hS.fr).rp ((hA.rp 5 rfl).now hS.fr).rp ((hA.rp 6 rfl).now hS.fr).rp ((hA.rp 7 rfl).now hS.fr).rp _ hx_58) rfl ?_
 rintro _ w ⟨v_59, v_61, rfl, hS1⟩
 have hS := hS.call hS1
 refine kb 3 rfl ?_
 refine kV (kD (cs := [.slice none 0 0, .slice none 0 0, vB false]) tz26 rfl hS) rfl ?_
 rintro _ w ⟨b_63, rfl, hS⟩
 refine kW (kL (i := 0) (us := [v_59, v_61, vB x_58.2.2.1]) rfl sz26 rfl rfl rfl ⟨(hS.ro 1 rfl).one, (hS.ro 2 rfl).one, rfl, trivial⟩ rfl hS) ?_
 intro w hS
 refine kb 1 rfl ?_
 refine ke (ka (kd ?_))
 obtain ⟨x_65, hx_65, h⟩ := kf h
 obtain ⟨x_68, hx_68, h⟩ := kf h
 refine wpC_regionM (es := [red e32 v_30 x_27.2.1, red e32 v_28 x_27.1, red e32 v_23 x_20.2.1, red e32 v_21 x_20.1, red e32 va3_1 a3_1, red e32 va3_0 a3_0, red e32 va2 a2, red e32 va1 a1]) (os := [OE.bx b_63 [v_59, v_61, vB x_58.2.2.1], own e32 v_59 x_58.1, own e32 v_61 x_58.2.1, OE.bx b_1 [va3_0, va3_1, vB a3_2], OE.bx b_25 [v_21, v_23, vB x_20.2.2.1], OE.bx b_32 [v_28, v_30, vB x_27.2.2.1]]) (fun i => [3, 5, 9, 10].contains i) (fun i => if i = 3 then some 5 else if i = 5 then some 10 else if i = 9 then some 10 else none) (fun i => []) (fun i => []) (fun i => []) (fun i => if i = 10 then [5, 9] else []) (fun i => if i = 3 then (fun h v x y => ∃ v_66 : Value, v = v_66 ∧ x = [own e32 v_66 x_65] ∧ y = []) else if i = 5 then (fun h v x y => ∃ v_69 : Value, ∃ v_71 : Value, v = .tuple #[.agg #[v_69, v_71, vB x_68.2.2.1], vI x_68.2.2.2] ∧ x = [own e32 v_69 x_68.1, own e32 v_71 x_68.2.1] ∧ y = []) else if i = 9 then (fun h v x y => ∃ b_73 : Nat, v = pB b_73 0 ∧ x = [OE.bx b_73 [.slice none 0 0, .slice none 0 0, vB false]] ∧ y = []) else (fun h v x y => ∃ v_69 : Value, ∃ v_71 : Value, ∃ b_73 : Nat, h = [(.tuple #[.agg #[v_69, v_71, vB x_68.2.2.1], vI x_68.2.2.2], [own e32 v_69 x_68.1, own e32 v_71 x_68.2.1], []), (pB b_73 0, [OE.bx b_73 [.slice none 0 0, .slice none 0 0, vB false]], [])] ∧ v = undef ∧ x = [own e32 v_69 x_68.1, own e32 v_71 x_68.2.1, OE.bx b_73 [v_69, v_71, vB x_68.2.2.1]] ∧ y = [])) (SfT.mk' hZ hA hP hS) (fun k hk => rfl) hTT rfl (fun i => (ite_ns (by rintro h v x y ⟨_, rfl, rfl, rfl⟩; exact ns_all rfl) (ite_ns (by rintro h v x y ⟨_, _, rfl, rfl, rfl⟩; exact ns_all rfl) (ite_ns (by rintro h v x y ⟨_, rfl, rfl, rfl⟩; exact ns_all rfl) (by rintro h v x y ⟨_, _, _, _, rfl, rfl, rfl⟩; exact ns_all rfl))))) hmix (by kernel_rfl) (by kernel_rfl) ?_
 show lxME _ _ _ _ _ _ _ _ _ _ _ _ _ _ _ _ [0, 1, 2, 3, 4, 5, 6, 7, 8, 9, 10, 11] _ _
 refine lxME_v rfl rfl (fun w Sb wb hZ hA hP hF => kl rfl) rfl (lxME_v rfl rfl (fun w Sb wb hZ hA hP hF => kl rfl) rfl (lxME_v rfl rfl (fun w Sb wb hZ hA hP hF => kl rfl) rfl ?_))
 refine lxME_call (fun h v x y => ∃ v_66 : Value, v = v_66 ∧ x = [own e32 v_66 x_65] ∧ y = []) [] [] [] _ rfl rfl (fun h v x y => rfl) rfl rfl rfl rfl ⟨_, _, _, undef, rfl, rfl, rfl⟩ (by kernel_rfl) rfl (fun w Sl Tl hZ hTT hA hP hS => ?_) rfl ?_
 ·refine calls_ret (c_nat_Add _ a1 a2 va1 va2  ((hA.rp 0 rfl).now hS.fr).rp ((hA.rp 1 rfl).now hS.fr).rp _ hx_65) ?_
  rintro v_66 w hS1
  have hS := hS.call hS1
  exact ⟨_, _, ⟨v_66, rfl, rfl, rfl⟩, SfT.mk' hZ Rds.nil Off.nil hS⟩
 rintro v_66 x_q y_q ⟨_, rfl, rfl, rfl⟩
 refine lxME_v rfl rfl (fun w Sb wb hZ hA hP hF => kG (us := [va3_0, va3_1, vB a3_2]) Try.underlying26 rfl sz26 rfl (hF.bxs 3 rfl rfl)) rfl ?_
 refine lxME_call (fun h v x y => ∃ v_69 : Value, ∃ v_71 : Value, v = .tuple #[.agg #[v_69, v_71, vB x_68.2.2.1], vI x_68.2.2.2] ∧ x = [own e32 v_69 x_68.1, own e32 v_71 x_68.2.1] ∧ y = []) [] [own e32 v_66 x_65] [] _ rfl rfl (fun h v x y => rfl) rfl rfl rfl rfl ⟨_, _, _, undef, undef, rfl, rfl, rfl⟩ (by kernel_rfl) rfl (fun w Sl Tl hZ hTT hA hP hS => ?_) rfl ?_
 ·refine calls_ret (c_curve_Mul _ a0 x_65 a3_0 a3_1 a3_2 v_66 va3_0 va3_1  (hS.ro 0 rfl).rp ((hA.rp 2 rfl).now hS.fr).rp ((hA.rp 3 rfl).now hS.fr).rp _ hx_68) ?_
  rintro _ w ⟨v_69, v_71, rfl, hS1⟩
  have hS := hS.call hS1
  exact ⟨_, _, ⟨v_69, v_71, rfl, rfl, rfl⟩, SfT.mk' hZ Rds.nil Off.nil (hS.pick [0, 1, 3, 4, 5, 6, 7, 8] (by decide) rfl)⟩
 rintro v_q x_q y_q ⟨v_69, v_71, rfl, rfl, rfl⟩
 refine lxME_v rfl rfl (fun w Sb wb hZ hA hP hF => kl rfl) rfl (lxME_v rfl rfl (fun w Sb wb hZ hA hP hF => kU rfl rfl) rfl (lxME_v rfl rfl (fun w Sb wb hZ hA hP hF => kU rfl rfl) rfl ?_))
 refine lxME_new (fun h v x y => ∃ b_73 : Nat, v = pB b_73 0 ∧ x = [OE.bx b_73 [.slice none 0 0, .slice none 0 0, vB false]] ∧ y = []) [] [] [] _ rfl rfl (fun h v x y => rfl) rfl rfl rfl rfl ⟨_, _, _, 0, rfl, rfl, rfl⟩ (fun w Sl Tl hZ hTT hA hP hS => ?_) rfl ?_
 ·refine opx_imp (kD (cs := [.slice none 0 0, .slice none 0 0, vB false]) tz26 rfl hS) ?_
  rintro _ w ⟨b_73, rfl, hS⟩
  exact ⟨_, _, ⟨b_73, rfl, rfl, rfl⟩, SfT.mk' hZ Rds.nil Off.nil hS⟩
 rintro v_q x_q y_q ⟨b_73, rfl, rfl, rfl⟩
 refine lxME_y (fun h v x y => ∃ v_69 : Value, ∃ v_71 : Value, ∃ b_73 : Nat, h = [(.tuple #[.agg #[v_69, v_71, vB x_68.2.2.1], vI x_68.2.2.2], [own e32 v_69 x_68.1, own e32 v_71 x_68.2.1], []), (pB b_73 0, [OE.bx b_73 [.slice none 0 0, .slice none 0 0, vB false]], [])] ∧ v = undef ∧ x = [own e32 v_69 x_68.1, own e32 v_71 x_68.2.1, OE.bx b_73 [v_69, v_71, vB x_68.2.2.1]] ∧ y = []) [(.tuple #[.agg #[v_69, v_71, vB x_68.2.2.1], vI x_68.2.2.2], [own e32 v_69 x_68.1, own e32 v_71 x_68.2.1], []), (pB b_73 0, [OE.bx b_73 [.slice none 0 0, .slice none 0 0, vB false]], [])] [own e32 v_69 x_68.1, own e32 v_71 x_68.2.1, OE.bx b_73 [.slice none 0 0, .slice none 0 0, vB false]] [] _ rfl rfl (fun h v x y => rfl) rfl rfl rfl rfl ⟨_, _, _, v_69, v_71, b_73, rfl, rfl, rfl, rfl⟩ (fun w Sl Tl hZ hTT hA hP hS => ?_) ?_
 ·refine opy_imp (kL (i := 2) (us := [v_69, v_71, vB x_68.2.2.1]) rfl sz26 rfl rfl rfl ⟨(hS.ro 0 rfl).one, (hS.ro 1 rfl).one, rfl, trivial⟩ rfl hS) ?_
  intro w hS
  exact ⟨_, _, ⟨v_69, v_71, b_73, rfl, rfl, rfl, rfl⟩, SfT.mk' hZ Rds.nil Off.nil hS⟩
 rintro v_q x_q y_q ⟨v_69', v_71', b_73', hh, rfl, rfl, rfl⟩
 replace hh : ([(.tuple #[.agg #[v_69, v_71, vB x_68.2.2.1], vI x_68.2.2.2], [own e32 v_69 x_68.1, own e32 v_71 x_68.2.1], []), (pB b_73 0, [OE.bx b_73 [.slice none 0 0, .slice none 0 0, vB false]], [])] : List Th) = [(.tuple #[.agg #[v_69', v_71', vB x_68.2.2.1], vI x_68.2.2.2], [own e32 v_69' x_68.1, own e32 v_71' x_68.2.1], []), (pB b_73' 0, [OE.bx b_73' [.slice none 0 0, .slice none 0 0, vB false]], [])] := hh
 cases hh
 refine lxME_v rfl rfl (fun w Sb wb hZ hA hP hF => kz rfl) rfl (lxME_nil fun w hQ => ?_)
 obtain ⟨S_75, wb_76, hZ, hA, hP, hS⟩ := hQ
 refine ka (kd ?_)
 refine kN (r := r) (fun (g : Bool) L w => L = [(0, vI a0), (1, va1), (2, va2), (7, pB b_1 0), (15, pB b_32 0), (144, vB g)] ∧ SfT [] [] w0 w [red e32 v_30 x_27.2.1, red e32 v_28 x_27.1, red e32 va3_1 a3_1, red e32 va3_0 a3_0, red e32 va2 a2, red e32 va1 a1] [OE.bx b_1 [va3_0, va3_1, vB a3_2], OE.bx b_32 [v_28, v_30, vB x_27.2.2.1]]) (F.law11_CurveMultiples_K3 a0 a1 a2 a3_0 a3_1 a3_2 x_27) ?_ ?_
 rotate_left
 ·intro hK_103
  refine kc (kb 3 rfl ?_)
  cases hb_77 : (x_68.2.2.2 == 0)
  case true =>
   have h := if_t h hb_77
   try simp only [hb_77]
   refine kS (t := 128) rfl rfl (kG (us := [v_59, v_61, vB x_58.2.2.1]) Try.underlying26 rfl sz26 rfl (hS.bxs 3 rfl rfl)) rfl (kS (t := 128) rfl rfl (kG (us := [v_69, v_71, vB x_68.2.2.1]) Try.underlying26 rfl sz26 rfl (hS.bxs 2 rfl rfl)) rfl ?_)
   obtain ⟨x_78, hx_78, h⟩ := kf h
   refine wpR_gcall (t := 128) rfl rfl (by kernel_rfl) rfl (c_law11_same _ x_58.1 x_58.2.1 x_58.2.2.1 x_68.1 x_68.2.1 x_68.2.2.1 v_59 v_61 v_69 v_71  (hS.ro 4 rfl).rp (hS.ro 5 rfl).rp (hS.ro 0 rfl).rp (hS.ro 1 rfl).rp _ hx_78) rfl ?_
   rintro _ w ⟨rfl, hS1⟩
   have hS := hS.call hS1
   refine kb 3 rfl ?_
   cases hb_79 : (!x_78)
   case true =>
    have h := if_t h hb_79
    try simp only [hb_79]
    refine kb 10 rfl ?_
    refine ke (ka ?_)
    replace hS := hS.pick (os' := [own e32 v_69 x_68.1, own e32 v_71 x_68.2.1, own e32 v_59 x_58.1, own e32 v_61 x_58.2.1] ++ [OE.bx b_73 [v_69, v_71, vB x_68.2.2.1], OE.bx b_63 [v_59, v_61, vB x_58.2.2.1], OE.bx b_1 [va3_0, va3_1, vB a3_2], OE.bx b_25 [v_21, v_23, vB x_20.2.2.1], OE.bx b_32 [v_28, v_30, vB x_27.2.2.1]]) [0, 1, 4, 5, 2, 3, 6, 7, 8] (by decide) rfl
    obtain ⟨S_80, wb_81, hZ, hA, hP, hS⟩ := hZ.frzT hTT hA hP hS
    exact km _ (by exact ⟨rfl, rfl, rfl, rfl, rfl, rfl, trivial⟩) (hK_103 true _ _ ⟨rfl, (SfT.mk' hZ (Rds.cons (hA.nth 7 rfl) (Rds.cons (hA.nth 6 rfl) (Rds.cons (hA.nth 3 rfl) (Rds.cons (hA.nth 2 rfl) (Rds.cons (hA.nth 1 rfl) (Rds.cons (hA.nth 0 rfl) Rds.nil)))))) (Off.cons (hP.nth 7 rfl) (Off.cons (hP.nth 6 rfl) (Off.cons (hP.nth 3 rfl) (Off.cons (hP.nth 2 rfl) (Off.cons (hP.nth 1 rfl) (Off.cons (hP.nth 0 rfl) Off.nil)))))) (hS.pick [2, 4] (by decide) rfl))⟩ h)
   case false =>
    have h := if_f h hb_79
    try simp only [hb_79]
    refine kb 3 rfl ?_
    cases hb_82 : (x_68.2.2.2 != 0)
    case true =>
     have h := if_t h hb_82
     try simp only [hb_82]
     refine kb 2 rfl ?_
     obtain ⟨x_83, hx_83, h⟩ := kf h
     refine wpR_gcall (t := 137) rfl rfl (by kernel_rfl) rfl (c_nat_Add _ a1 a2 va1 va2  ((hA.rp 0 rfl).now hS.fr).rp ((hA.rp 1 rfl).now hS.fr).rp _ hx_83) rfl ?_
     rintro v_84 w hS1
     have hS := hS.call hS1
     obtain ⟨x_86, hx_86, h⟩ := kf h
     refine wpR_gcall (t := 137) rfl rfl (by kernel_rfl) rfl (c_nat_Bits _ x_83 v_84  (hS.ro 0 rfl).rp _ hx_86) rfl ?_
     rintro _ w ⟨rfl, hS1⟩
     have hS := hS.call hS1
     refine kb 3 rfl ?_
     refine ke (ka ?_)
     replace hS := hS.pick (os' := [own e32 v_84 x_83, own e32 v_69 x_68.1, own e32 v_71 x_68.2.1, own e32 v_59 x_58.1, own e32 v_61 x_58.2.1] ++ [OE.bx b_73 [v_69, v_71, vB x_68.2.2.1], OE.bx b_63 [v_59, v_61, vB x_58.2.2.1], OE.bx b_1 [va3_0, va3_1, vB a3_2], OE.bx b_25 [v_21, v_23, vB x_20.2.2.1], OE.bx b_32 [v_28, v_30, vB x_27.2.2.1]]) [0, 1, 2, 5, 6, 3, 4, 7, 8, 9] (by decide) rfl
     obtain ⟨S_87, wb_88, hZ, hA, hP, hS⟩ := hZ.frzT hTT hA hP hS
     exact km _ (by exact ⟨rfl, rfl, rfl, rfl, rfl, rfl, trivial⟩) (hK_103 (decide (x_86 ≤ 1024)) _ _ ⟨rfl, (SfT.mk' hZ (Rds.cons (hA.nth 7 rfl) (Rds.cons (hA.nth 6 rfl) (Rds.cons (hA.nth 3 rfl) (Rds.cons (hA.nth 2 rfl) (Rds.cons (hA.nth 1 rfl) (Rds.cons (hA.nth 0 rfl) Rds.nil)))))) (Off.cons (hP.nth 7 rfl) (Off.cons (hP.nth 6 rfl) (Off.cons (hP.nth 3 rfl) (Off.cons (hP.nth 2 rfl) (Off.cons (hP.nth 1 rfl) (Off.cons (hP.nth 0 rfl) Off.nil)))))) (hS.pick [2, 4] (by decide) rfl))⟩ h)
    case false =>
     have h := if_f h hb_82
     try simp only [hb_82]
     refine kb 7 rfl ?_
     refine ke (ka ?_)
     replace hS := hS.pick (os' := [own e32 v_69 x_68.1, own e32 v_71 x_68.2.1, own e32 v_59 x_58.1, own e32 v_61 x_58.2.1] ++ [OE.bx b_73 [v_69, v_71, vB x_68.2.2.1], OE.bx b_63 [v_59, v_61, vB x_58.2.2.1], OE.bx b_1 [va3_0, va3_1, vB a3_2], OE.bx b_25 [v_21, v_23, vB x_20.2.2.1], OE.bx b_32 [v_28, v_30, vB x_27.2.2.1]]) [0, 1, 4, 5, 2, 3, 6, 7, 8] (by decide) rfl
     obtain ⟨S_89, wb_90, hZ, hA, hP, hS⟩ := hZ.frzT hTT hA hP hS
     exact km _ (by exact ⟨rfl, rfl, rfl, rfl, rfl, rfl, trivial⟩) (hK_103 false _ _ ⟨rfl, (SfT.mk' hZ (Rds.cons (hA.nth 7 rfl) (Rds.cons (hA.nth 6 rfl) (Rds.cons (hA.nth 3 rfl) (Rds.cons (hA.nth 2 rfl) (Rds.cons (hA.nth 1 rfl) (Rds.cons (hA.nth 0 rfl) Rds.nil)))))) (Off.cons (hP.nth 7 rfl) (Off.cons (hP.nth 6 rfl) (Off.cons (hP.nth 3 rfl) (Off.cons (hP.nth 2 rfl) (Off.cons (hP.nth 1 rfl) (Off.cons (hP.nth 0 rfl) Off.nil)))))) (hS.pick [2, 4] (by decide) rfl))⟩ h)
  case false =>
   have h := if_f h hb_77
   try simp only [hb_77]
   refine kb 9 rfl ?_
   cases hb_91 : (x_68.2.2.2 != 0)
   case true =>
    have h := if_t h hb_91
    try simp only [hb_91]
    refine kb 2 rfl ?_
    obtain ⟨x_92, hx_92, h⟩ := kf h
    refine wpR_gcall (t := 137) rfl rfl (by kernel_rfl) rfl (c_nat_Add _ a1 a2 va1 va2  ((hA.rp 0 rfl).now hS.fr).rp ((hA.rp 1 rfl).now hS.fr).rp _ hx_92) rfl ?_
    rintro v_93 w hS1
    have hS := hS.call hS1
    obtain ⟨x_95, hx_95, h⟩ := kf h
    refine wpR_gcall (t := 137) rfl rfl (by kernel_rfl) rfl (c_nat_Bits _ x_92 v_93  (hS.ro 0 rfl).rp _ hx_95) rfl ?_
    rintro _ w ⟨rfl, hS1⟩
    have hS := hS.call hS1
    refine kb 3 rfl ?_
    refine ke (ka ?_)
    replace hS := hS.pick (os' := [own e32 v_93 x_92, own e32 v_69 x_68.1, own e32 v_71 x_68.2.1, own e32 v_59 x_58.1, own e32 v_61 x_58.2.1] ++ [OE.bx b_73 [v_69, v_71, vB x_68.2.2.1], OE.bx b_63 [v_59, v_61, vB x_58.2.2.1], OE.bx b_1 [va3_0, va3_1, vB a3_2], OE.bx b_25 [v_21, v_23, vB x_20.2.2.1], OE.bx b_32 [v_28, v_30, vB x_27.2.2.1]]) [0, 1, 2, 5, 6, 3, 4, 7, 8, 9] (by decide) rfl
    obtain ⟨S_96, wb_97, hZ, hA, hP, hS⟩ := hZ.frzT hTT hA hP hS
    exact km _ (by exact ⟨rfl, rfl, rfl, rfl, rfl, rfl, trivial⟩) (hK_103 (decide (x_95 ≤ 1024)) _ _ ⟨rfl, (SfT.mk' hZ (Rds.cons (hA.nth 7 rfl) (Rds.cons (hA.nth 6 rfl) (Rds.cons (hA.nth 3 rfl) (Rds.cons (hA.nth 2 rfl) (Rds.cons (hA.nth 1 rfl) (Rds.cons (hA.nth 0 rfl) Rds.nil)))))) (Off.cons (hP.nth 7 rfl) (Off.cons (hP.nth 6 rfl) (Off.cons (hP.nth 3 rfl) (Off.cons (hP.nth 2 rfl) (Off.cons (hP.nth 1 rfl) (Off.cons (hP.nth 0 rfl) Off.nil)))))) (hS.pick [2, 4] (by decide) rfl))⟩ h)
   case false =>
    have h := if_f h hb_91
    try simp only [hb_91]
    refine kb 7 rfl ?_
    refine ke (ka ?_)
    replace hS := hS.pick (os' := [own e32 v_69 x_68.1, own e32 v_71 x_68.2.1, own e32 v_59 x_58.1, own e32 v_61 x_58.2.1] ++ [OE.bx b_73 [v_69, v_71, vB x_68.2.2.1], OE.bx b_63 [v_59, v_61, vB x_58.2.2.1], OE.bx b_1 [va3_0, va3_1, vB a3_2], OE.bx b_25 [v_21, v_23, vB x_20.2.2.1], OE.bx b_32 [v_28, v_30, vB x_27.2.2.1]]) [0, 1, 4, 5, 2, 3, 6, 7, 8] (by decide) rfl
    obtain ⟨S_98, wb_99, hZ, hA, hP, hS⟩ := hZ.frzT hTT hA hP hS
    exact km _ (by exact ⟨rfl, rfl, rfl, rfl, rfl, rfl, trivial⟩) (hK_103 false _ _ ⟨rfl, (SfT.mk' hZ (Rds.cons (hA.nth 7 rfl) (Rds.cons (hA.nth 6 rfl) (Rds.cons (hA.nth 3 rfl) (Rds.cons (hA.nth 2 rfl) (Rds.cons (hA.nth 1 rfl) (Rds.cons (hA.nth 0 rfl) Rds.nil)))))) (Off.cons (hP.nth 7 rfl) (Off.cons (hP.nth 6 rfl) (Off.cons (hP.nth 3 rfl) (Off.cons (hP.nth 2 rfl) (Off.cons (hP.nth 1 rfl) (Off.cons (hP.nth 0 rfl) Off.nil)))))) (hS.pick [2, 4] (by decide) rfl))⟩ h)
 rintro x_102 L w hJ h
 try dsimp only at hJ
 obtain ⟨rfl, ⟨S_100, wb_101, hZ, hA, hP, hS⟩⟩ := hJ
 unfold F.law11_CurveMultiples_K3 at h
 refine kn rfl (fun hb_171 => ?_) (fun hb_171 => ?_)
 ·have h := if_t h hb_171
  refine kd (kc (kb 1 rfl ?_))
  refine ke (ka (ko (ku ?_)))
  cases h
  replace hS := hZ.st hS
  exact kx rfl rfl ⟨rfl, hS.pick [] (by decide) rfl⟩
 have h := if_f h hb_171
 refine kq (ka (kd (kc (kb 1 rfl ?_))))
 refine kh (kG (us := [va3_0, va3_1, vB a3_2]) Try.underlying26 rfl sz26 rfl (hS.bxs 0 rfl rfl)) rfl ?_
 obtain ⟨x_104, hx_104, h⟩ := kf h
 refine kj (by kernel_rfl) rfl (c_curve_Mul _ a0 [] a3_0 a3_1 a3_2 (.slice none 0 0) va3_0 va3_1  (RO.nil _ e32).rp ((hA.rp 2 rfl).now hS.fr).rp ((hA.rp 3 rfl).now hS.fr).rp _ hx_104) rfl ?_
 rintro _ w ⟨v_105, v_107, rfl, hS1⟩
 have hS := hS.call hS1
 refine kb 3 rfl ?_
 refine kV (kD (cs := [.slice none 0 0, .slice none 0 0, vB false]) tz26 rfl hS) rfl ?_
 rintro _ w ⟨b_109, rfl, hS⟩
 refine kW (kL (i := 0) (us := [v_105, v_107, vB x_104.2.2.1]) rfl sz26 rfl rfl rfl ⟨(hS.ro 1 rfl).one, (hS.ro 2 rfl).one, rfl, trivial⟩ rfl hS) ?_
 intro w hS
 refine kb 1 rfl ?_
 refine ke (ka (kd (kc (kb 1 rfl ?_))))
 refine kV (OpX_lit (e := e32) (l := ([1] : List UInt32)) (vs := [v32 1]) Try.underlying24 ti52 rfl rfl rfl rfl (by decide) (by decide) hS) rfl ?_
 rintro v_111 w hS
 refine kh (kG (us := [va3_0, va3_1, vB a3_2]) Try.underlying26 rfl sz26 rfl (hS.bxs 4 rfl rfl)) rfl ?_
 obtain ⟨x_113, hx_113, h⟩ := kf h
 refine kj (by kernel_rfl) rfl (c_curve_Mul _ a0 ([1] : List UInt32) a3_0 a3_1 a3_2 v_111 va3_0 va3_1  (hS.ro 0 rfl).rp ((hA.rp 2 rfl).now hS.fr).rp ((hA.rp 3 rfl).now hS.fr).rp _ hx_113) rfl ?_
 rintro _ w ⟨v_114, v_116, rfl, hS1⟩
 have hS := hS.call hS1
 refine kb 3 rfl ?_
 refine kV (kD (cs := [.slice none 0 0, .slice none 0 0, vB false]) tz26 rfl hS) rfl ?_
 rintro _ w ⟨b_118, rfl, hS⟩
 refine kW (kL (i := 0) (us := [v_114, v_116, vB x_113.2.2.1]) rfl sz26 rfl rfl rfl ⟨(hS.ro 1 rfl).one, (hS.ro 2 rfl).one, rfl, trivial⟩ rfl hS) ?_
 intro w hS
 refine kb 1 rfl ?_
 refine ke (ka (kd ?_))
 obtain ⟨x_120, hx_120, h⟩ := kf h
 obtain ⟨x_123, hx_123, h⟩ := kf h
 refine wpC_regionM (es := [red e32 v_30 x_27.2.1, red e32 v_28 x_27.1, red e32 va3_1 a3_1, red e32 va3_0 a3_0, red e32 va2 a2, red e32 va1 a1]) (os := [OE.bx b_118 [v_114, v_116, vB x_113.2.2.1], own e32 v_114 x_113.1, own e32 v_116 x_113.2.1, own e32 v_111 ([1] : List UInt32), OE.bx b_109 [v_105, v_107, vB x_104.2.2.1], own e32 v_105 x_104.1, own e32 v_107 x_104.2.1, OE.bx b_1 [va3_0, va3_1, vB a3_2], OE.bx b_32 [v_28, v_30, vB x_27.2.2.1]]) (fun i => [2, 4, 8, 9].contains i) (fun i => if i = 2 then some 4 else if i = 4 then some 9 else if i = 8 then some 9 else none) (fun i => []) (fun i => []) (fun i => []) (fun i => if i = 9 then [4, 8] else []) (fun i => if i = 2 then (fun h v x y => ∃ v_121 : Value, v = v_121 ∧ x = [own e32 v_121 x_120] ∧ y = []) else if i = 4 then (fun h v x y => ∃ v_124 : Value, ∃ v_126 : Value, v = .tuple #[.agg #[v_124, v_126, vB x_123.2.2.1], vI x_123.2.2.2] ∧ x = [own e32 v_124 x_123.1, own e32 v_126 x_123.2.1] ∧ y = []) else if i = 8 then (fun h v x y => ∃ b_128 : Nat, v = pB b_128 0 ∧ x = [OE.bx b_128 [.slice none 0 0, .slice none 0 0, vB false]] ∧ y = []) else (fun h v x y => ∃ v_124 : Value, ∃ v_126 : Value, ∃ b_128 : Nat, h = [(.tuple #[.agg #[v_124, v_126, vB x_123.2.2.1], vI x_123.2.2.2], [own e32 v_124 x_123.1, own e32 v_126 x_123.2.1], []), (pB b_128 0, [OE.bx b_128 [.slice none 0 0, .slice none 0 0, vB false]], [])] ∧ v = undef ∧ x = [own e32 v_124 x_123.1, own e32 v_126 x_123.2.1, OE.bx b_128 [v_124, v_126, vB x_123.2.2.1]] ∧ y = [])) (SfT.mk' hZ hA hP hS) (fun k hk => rfl) hTT rfl (fun i => (ite_ns (by rintro h v x y ⟨_, rfl, rfl, rfl⟩; exact ns_all rfl) (ite_ns (by rintro h v x y ⟨_, _, rfl, rfl, rfl⟩; exact ns_all rfl) (ite_ns (by rintro h v x y ⟨_, rfl, rfl, rfl⟩; exact ns_all rfl) (by rintro h v x y ⟨_, _, _, _, rfl, rfl, rfl⟩; exact ns_all rfl))))) hmix (by kernel_rfl) (by kernel_rfl) ?_
 show lxME _ _ _ _ _ _ _ _ _ _ _ _ _ _ _ _ [0, 1, 2, 3, 4, 5, 6, 7, 8, 9, 10] _ _
 refine lxME_v rfl rfl (fun w Sb wb hZ hA hP hF => kl rfl) rfl (lxME_v rfl rfl (fun w Sb wb hZ hA hP hF => kl rfl) rfl ?_)
 refine lxME_call (fun h v x y => ∃ v_121 : Value, v = v_121 ∧ x = [own e32 v_121 x_120] ∧ y = []) [] [] [] _ rfl rfl (fun h v x y => rfl) rfl rfl rfl rfl ⟨_, _, _, undef, rfl, rfl, rfl⟩ (by kernel_rfl) rfl (fun w Sl Tl hZ hTT hA hP hS => ?_) rfl ?_
 ·refine calls_ret (c_curve_Order _ a0    _ hx_120) ?_
  rintro v_121 w hS1
  have hS := hS.call hS1
  exact ⟨_, _, ⟨v_121, rfl, rfl, rfl⟩, SfT.mk' hZ Rds.nil Off.nil hS⟩
 rintro v_121 x_q y_q ⟨_, rfl, rfl, rfl⟩
 refine lxME_v rfl rfl (fun w Sb wb hZ hA hP hF => kG (us := [va3_0, va3_1, vB a3_2]) Try.underlying26 rfl sz26 rfl (hF.bxs 7 rfl rfl)) rfl ?_
 refine lxME_call (fun h v x y => ∃ v_124 : Value, ∃ v_126 : Value, v = .tuple #[.agg #[v_124, v_126, vB x_123.2.2.1], vI x_123.2.2.2] ∧ x = [own e32 v_124 x_123.1, own e32 v_126 x_123.2.1] ∧ y = []) [] [own e32 v_121 x_120] [] _ rfl rfl (fun h v x y => rfl) rfl rfl rfl rfl ⟨_, _, _, undef, undef, rfl, rfl, rfl⟩ (by kernel_rfl) rfl (fun w Sl Tl hZ hTT hA hP hS => ?_) rfl ?_
 ·refine calls_ret (c_curve_Mul _ a0 x_120 a3_0 a3_1 a3_2 v_121 va3_0 va3_1  (hS.ro 0 rfl).rp ((hA.rp 2 rfl).now hS.fr).rp ((hA.rp 3 rfl).now hS.fr).rp _ hx_123) ?_
  rintro _ w ⟨v_124, v_126, rfl, hS1⟩
  have hS := hS.call hS1
  exact ⟨_, _, ⟨v_124, v_126, rfl, rfl, rfl⟩, SfT.mk' hZ Rds.nil Off.nil (hS.pick [0, 1, 3, 4, 5, 6, 7, 8, 9, 10, 11] (by decide) rfl)⟩
 rintro v_q x_q y_q ⟨v_124, v_126, rfl, rfl, rfl⟩
 refine lxME_v rfl rfl (fun w Sb wb hZ hA hP hF => kl rfl) rfl (lxME_v rfl rfl (fun w Sb wb hZ hA hP hF => kU rfl rfl) rfl (lxME_v rfl rfl (fun w Sb wb hZ hA hP hF => kU rfl rfl) rfl ?_))
 refine lxME_new (fun h v x y => ∃ b_128 : Nat, v = pB b_128 0 ∧ x = [OE.bx b_128 [.slice none 0 0, .slice none 0 0, vB false]] ∧ y = []) [] [] [] _ rfl rfl (fun h v x y => rfl) rfl rfl rfl rfl ⟨_, _, _, 0, rfl, rfl, rfl⟩ (fun w Sl Tl hZ hTT hA hP hS => ?_) rfl ?_
 ·refine opx_imp (kD (cs := [.slice none 0 0, .slice none 0 0, vB false]) tz26 rfl hS) ?_
  rintro _ w ⟨b_128, rfl, hS⟩
  exact ⟨_, _, ⟨b_128, rfl, rfl, rfl⟩, SfT.mk' hZ Rds.nil Off.nil hS⟩
 rintro v_q x_q y_q ⟨b_128, rfl, rfl, rfl⟩
 refine lxME_y (fun h v x y => ∃ v_124 : Value, ∃ v_126 : Value, ∃ b_128 : Nat, h = [(.tuple #[.agg #[v_124, v_126, vB x_123.2.2.1], vI x_123.2.2.2], [own e32 v_124 x_123.1, own e32 v_126 x_123.2.1], []), (pB b_128 0, [OE.bx b_128 [.slice none 0 0, .slice none 0 0, vB false]], [])] ∧ v = undef ∧ x = [own e32 v_124 x_123.1, own e32 v_126 x_123.2.1, OE.bx b_128 [v_124, v_126, vB x_123.2.2.1]] ∧ y = []) [(.tuple #[.agg #[v_124, v_126, vB x_123.2.2.1], vI x_123.2.2.2], [own e32 v_124 x_123.1, own e32 v_126 x_123.2.1], []), (pB b_128 0, [OE.bx b_128 [.slice none 0 0, .slice none 0 0, vB false]], [])] [own e32 v_124 x_123.1, own e32 v_126 x_123.2.1, OE.bx b_128 [.slice none 0 0, .slice none 0 0, vB false]] [] _ rfl rfl (fun h v x y => rfl) rfl rfl rfl rfl ⟨_, _, _, v_124, v_126, b_128, rfl, rfl, rfl, rfl⟩ (fun w Sl Tl hZ hTT hA hP hS => ?_) ?_
 ·refine opy_imp (kL (i := 2) (us := [v_124, v_126, vB x_123.2.2.1]) rfl sz26 rfl rfl rfl ⟨(hS.ro 0 rfl).one, (hS.ro 1 rfl).one, rfl, trivial⟩ rfl hS) ?_
  intro w hS
  exact ⟨_, _, ⟨v_124, v_126, b_128, rfl, rfl, rfl, rfl⟩, SfT.mk' hZ Rds.nil Off.nil hS⟩
 rintro v_q x_q y_q ⟨v_124', v_126', b_128', hh, rfl, rfl, rfl⟩
 replace hh : ([(.tuple #[.agg #[v_124, v_126, vB x_123.2.2.1], vI x_123.2.2.2], [own e32 v_124 x_123.1, own e32 v_126 x_123.2.1], []), (pB b_128 0, [OE.bx b_128 [.slice none 0 0, .slice none 0 0, vB false]], [])] : List Th) = [(.tuple #[.agg #[v_124', v_126', vB x_123.2.2.1], vI x_123.2.2.2], [own e32 v_124' x_123.1, own e32 v_126' x_123.2.1], []), (pB b_128' 0, [OE.bx b_128' [.slice none 0 0, .slice none 0 0, vB false]], [])] := hh
 cases hh
 refine lxME_v rfl rfl (fun w Sb wb hZ hA hP hF => kz rfl) rfl (lxME_nil fun w hQ => ?_)
 obtain ⟨S_130, wb_131, hZ, hA, hP, hS⟩ := hQ
 refine ka (kd (kc (kb 1 rfl ?_)))
 refine kh (kG (us := [va3_0, va3_1, vB a3_2]) Try.underlying26 rfl sz26 rfl (hS.bxs 10 rfl rfl)) rfl (kh (kG (us := [v_105, v_107, vB x_104.2.2.1]) Try.underlying26 rfl sz26 rfl (hS.bxs 7 rfl rfl)) rfl ?_)
 obtain ⟨x_132, hx_132, h⟩ := kf h
 refine kj (by kernel_rfl) rfl (c_curve_Add _ a0 a3_0 a3_1 a3_2 x_104.1 x_104.2.1 x_104.2.2.1 va3_0 va3_1 v_105 v_107  ((hA.rp 2 rfl).now hS.fr).rp ((hA.rp 3 rfl).now hS.fr).rp (hS.ro 8 rfl).rp (hS.ro 9 rfl).rp _ hx_132) rfl ?_
 rintro _ w ⟨v_133, v_135, rfl, hS1⟩
 have hS := hS.call hS1
 refine kb 3 rfl ?_
 refine kV (kD (cs := [.slice none 0 0, .slice none 0 0, vB false]) tz26 rfl hS) rfl ?_
 rintro _ w ⟨b_137, rfl, hS⟩
 refine kW (kL (i := 0) (us := [v_133, v_135, vB x_132.2.2.1]) rfl sz26 rfl rfl rfl ⟨(hS.ro 1 rfl).one, (hS.ro 2 rfl).one, rfl, trivial⟩ rfl hS) ?_
 intro w hS
 refine kb 1 rfl ?_
 refine ke (ka (kd (kc (kb 3 rfl ?_))))
 obtain ⟨x_139, hx_139, h⟩ := kf h
 refine kj (by kernel_rfl) rfl (c_curve_Base _ a0    _ hx_139) rfl ?_
 rintro _ w ⟨v_140, v_142, rfl, hS1⟩
 have hS := hS.call hS1
 obtain ⟨x_144, hx_144, h⟩ := kf h
 refine kj (by kernel_rfl) rfl (c_curve_Mul _ a0 a1 x_139.1 x_139.2.1 x_139.2.2 va1 v_140 v_142  ((hA.rp 0 rfl).now hS.fr).rp (hS.ro 0 rfl).rp (hS.ro 1 rfl).rp _ hx_144) rfl ?_
 rintro _ w ⟨v_145, v_147, rfl, hS1⟩
 have hS := hS.call hS1
 refine kb 3 rfl ?_
 refine kV (kD (cs := [.slice none 0 0, .slice none 0 0, vB false]) tz26 rfl hS) rfl ?_
 rintro _ w ⟨b_149, rfl, hS⟩
 refine kW (kL (i := 0) (us := [v_145, v_147, vB x_144.2.2.1]) rfl sz26 rfl rfl rfl ⟨(hS.ro 1 rfl).one, (hS.ro 2 rfl).one, rfl, trivial⟩ rfl hS) ?_
 intro w hS
 refine kb 1 rfl ?_
 refine ke (ka (kd (kc (kb 1 rfl ?_))))
 refine kh (kG (us := [v_145, v_147, vB x_144.2.2.1]) Try.underlying26 rfl sz26 rfl (hS.bxs 0 rfl rfl)) rfl (kh (kG (us := [v_28, v_30, vB x_27.2.2.1]) Try.underlying26 rfl sz26 rfl (hS.bxs 19 rfl rfl)) rfl ?_)
 obtain ⟨x_151, hx_151, h⟩ := kf h
 refine kj (by kernel_rfl) rfl (c_curve_Add _ a0 x_144.1 x_144.2.1 x_144.2.2.1 x_27.1 x_27.2.1 x_27.2.2.1 v_145 v_147 v_28 v_30  (hS.ro 1 rfl).rp (hS.ro 2 rfl).rp ((hA.rp 4 rfl).now hS.fr).rp ((hA.rp 5 rfl).now hS.fr).rp _ hx_151) rfl ?_
 rintro _ w ⟨v_152, v_154, rfl, hS1⟩
 have hS := hS.call hS1
 refine kb 3 rfl ?_
 refine kV (kD (cs := [.slice none 0 0, .slice none 0 0, vB false]) tz26 rfl hS) rfl ?_
 rintro _ w ⟨b_156, rfl, hS⟩
 refine kW (kL (i := 0) (us := [v_152, v_154, vB x_151.2.2.1]) rfl sz26 rfl rfl rfl ⟨(hS.ro 1 rfl).one, (hS.ro 2 rfl).one, rfl, trivial⟩ rfl hS) ?_
 intro w hS
 refine kb 1 rfl ?_
 refine ke (ka (kd (kc (kb 3 rfl ?_))))
 refine kh (kG (us := [va3_0, va3_1, vB a3_2]) Try.underlying26 rfl sz26 rfl (hS.bxs 21 rfl rfl)) rfl ?_
 obtain ⟨x_158, hx_158, h⟩ := kf h
 refine kj (by kernel_rfl) rfl (c_curve_Joint _ a0 a1 a2 a3_0 a3_1 a3_2 va1 va2 va3_0 va3_1  ((hA.rp 0 rfl).now hS.fr).rp ((hA.rp 1 rfl).now hS.fr).rp ((hA.rp 2 rfl).now hS.fr).rp ((hA.rp 3 rfl).now hS.fr).rp _ hx_158) rfl ?_
 rintro _ w ⟨v_159, v_161, rfl, hS1⟩
 have hS := hS.call hS1
 refine kb 3 rfl ?_
 refine kV (kD (cs := [.slice none 0 0, .slice none 0 0, vB false]) tz26 rfl hS) rfl ?_
 rintro _ w ⟨b_163, rfl, hS⟩
 refine kW (kL (i := 0) (us := [v_159, v_161, vB x_158.2.2.1]) rfl sz26 rfl rfl rfl ⟨(hS.ro 1 rfl).one, (hS.ro 2 rfl).one, rfl, trivial⟩ rfl hS) ?_
 intro w hS
 refine kb 1 rfl ?_
 refine ke (ka (kd (kc (kh (kk (k := 2) Try.underlying26 rfl rfl nz4 rfl) rfl (kh (kt Try.underlying4 rfl rfl (hS.bxc 21 rfl 2)) rfl (kb 1 rfl ?_))))))
 cases hb_165 : x_104.2.2.1
 case true =>
  have h := if_t h hb_165
  try simp only [hb_165]
  refine kS (t := 198) rfl rfl (kk (k := 2) Try.underlying26 rfl rfl nz4 rfl) rfl (kS (t := 198) rfl rfl (kt Try.underlying4 rfl rfl (hS.bxc 16 rfl 2)) rfl (kb 2 rfl ?_))
  cases hb_166 : x_123.2.2.1
  case true =>
   have h := if_t h hb_166
   try simp only [hb_166]
   refine kS (t := 202) rfl rfl (kG (us := [v_114, v_116, vB x_113.2.2.1]) Try.underlying26 rfl sz26 rfl (hS.bxs 17 rfl rfl)) rfl (kS (t := 202) rfl rfl (kG (us := [v_133, v_135, vB x_132.2.2.1]) Try.underlying26 rfl sz26 rfl (hS.bxs 11 rfl rfl)) rfl ?_)
   obtain ⟨x_167, hx_167, h⟩ := kf h
   refine wpR_gcall (t := 202) rfl rfl (by kernel_rfl) rfl (c_law11_same _ x_113.1 x_113.2.1 x_113.2.2.1 x_132.1 x_132.2.1 x_132.2.2.1 v_114 v_116 v_133 v_135  (hS.ro 18 rfl).rp (hS.ro 19 rfl).rp (hS.ro 12 rfl).rp (hS.ro 13 rfl).rp _ hx_167) rfl ?_
   rintro _ w ⟨rfl, hS1⟩
   have hS := hS.call hS1
   refine kb 2 rfl ?_
   cases hb_168 : x_167
   case true =>
    have h := if_t h hb_168
    try simp only [hb_168]
    refine kb 4 rfl ?_
    cases hb_169 : (x_158.2.2.2 == 0)
    case true =>
     have h := if_t h hb_169
     try simp only [hb_169]
     refine kS (t := 211) rfl rfl (kG (us := [v_159, v_161, vB x_158.2.2.1]) Try.underlying26 rfl sz26 rfl (hS.bxs 0 rfl rfl)) rfl (kS (t := 211) rfl rfl (kG (us := [v_152, v_154, vB x_151.2.2.1]) Try.underlying26 rfl sz26 rfl (hS.bxs 3 rfl rfl)) rfl ?_)
     obtain ⟨x_170, hx_170, h⟩ := kf h
     refine wpR_gcall (t := 211) rfl rfl (by kernel_rfl) rfl (c_law11_same _ x_158.1 x_158.2.1 x_158.2.2.1 x_151.1 x_151.2.1 x_151.2.2.1 v_159 v_161 v_152 v_154  (hS.ro 1 rfl).rp (hS.ro 2 rfl).rp (hS.ro 4 rfl).rp (hS.ro 5 rfl).rp _ hx_170) rfl ?_
     rintro _ w ⟨rfl, hS1⟩
     have hS := hS.call hS1
     refine kb 2 rfl ?_
     refine ke (ka (ko ?_))
     cases h
     replace hS := hZ.st hS
     exact kx rfl rfl ⟨rfl, hS.pick [] (by decide) rfl⟩
    case false =>
     have h := if_f h hb_169
     try simp only [hb_169]
     refine kb 5 rfl ?_
     refine ke (ka (ko ?_))
     cases h
     replace hS := hZ.st hS
     exact kx rfl rfl ⟨rfl, hS.pick [] (by decide) rfl⟩
   case false =>
    have h := if_f h hb_168
    try simp only [hb_168]
    refine kb 9 rfl ?_
    refine ke (ka (ko ?_))
    cases h
    replace hS := hZ.st hS
    exact kx rfl rfl ⟨rfl, hS.pick [] (by decide) rfl⟩
  case false =>
   have h := if_f h hb_166
   try simp only [hb_166]
   refine kb 14 rfl ?_
   refine ke (ka (ko ?_))
   cases h
   replace hS := hZ.st hS
   exact kx rfl rfl ⟨rfl, hS.pick [] (by decide) rfl⟩
 case false =>
  have h := if_f h hb_165
  try simp only [hb_165]
  refine kb 18 rfl ?_
  refine ke (ka (ko ?_))
  cases h
  replace hS := hZ.st hS
  exact kx rfl rfl ⟨rfl, hS.pick [] (by decide) rfl⟩
end Go.Proofs
