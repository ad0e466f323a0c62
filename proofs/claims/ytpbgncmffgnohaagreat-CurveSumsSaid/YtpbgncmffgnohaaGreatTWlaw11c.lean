import Derived.Test.YtpbgncmffgnohaaGreatTW0
import Derived.Test.YtpbgncmffgnohaaGreatGkFlaw11
import Derived.Test.YtpbgncmffgnohaaGreatTWcurvec
import Derived.Test.YtpbgncmffgnohaaGreatTWlaw11b
import Derived.Test.YtpbgncmffgnohaaGreatTWref11
set_option linter.unusedVariables false
set_option linter.unusedSimpArgs false
set_option linter.unusedVariables false
set_option maxRecDepth 4000
namespace Go.Proofs
open Go Go.RowKit Go.Gk
theorem c_law11_CurveSums (w0 : World) (a0 : Int) (a1_0 : List UInt32) (a1_1 : List UInt32) (a1_2 : Bool) (a2_0 : List UInt32) (a2_1 : List UInt32) (a2_2 : Bool) (va1_0 : Value) (va1_1 : Value) (va2_0 : Value) (va2_1 : Value) (ha1_0 : RP [] w0 e32 va1_0 a1_0) (ha1_1 : RP [] w0 e32 va1_1 a1_1) (ha2_0 : RP [] w0 e32 va2_0 a2_0) (ha2_1 : RP [] w0 e32 va2_1 a2_1) (r : Bool)
  (h : F.law11_CurveSums a0 a1_0 a1_1 a1_2 a2_0 a2_1 a2_2 = some r) : Calls Tryz.prog 4 #[vI a0, .agg #[va1_0, va1_1, vB a1_2], .agg #[va2_0, va2_1, vB a2_2]] w0 (Ret fun v w => v = vB r ∧ St [] w0 w []) := by
 refine ky 211 Tryz.func4 rfl rfl rfl ?_
 have hS := St.start w0
 have hZ := Fz.start (S := []) (w0 := w0)
 have hTT : TOk [] [] w0 := TOk.nil
 have hA : Rds [] w0 [red e32 va2_1 a2_1, red e32 va2_0 a2_0, red e32 va1_1 a1_1, red e32 va1_0 a1_0] := Rds.cons (RP.kept (Nat.le_of_ble_eq_true rfl) ha2_1) (Rds.cons (RP.kept (Nat.le_of_ble_eq_true rfl) ha2_0) (Rds.cons (RP.kept (Nat.le_of_ble_eq_true rfl) ha1_1) (Rds.cons (RP.kept (Nat.le_of_ble_eq_true rfl) ha1_0) (Rds.nil))))
 have hP : Off [] [red e32 va2_1 a2_1, red e32 va2_0 a2_0, red e32 va1_1 a1_1, red e32 va1_0 a1_0] := Off.emp
 refine km [(0, vI a0), (1, .agg #[va1_0, va1_1, vB a1_2]), (2, .agg #[va2_0, va2_1, vB a2_2])] ⟨rfl, rfl, rfl, trivial⟩ ?_
 unfold F.law11_CurveSums at h
 refine kd (kc (kV (OpX_box (cs := [va1_0, va1_1, vB a1_2]) rfl rfl hS) rfl ?_))
 rintro _ w ⟨b_1, rfl, hS⟩
 refine kV (OpX_box (cs := [va2_0, va2_1, vB a2_2]) rfl rfl hS) rfl ?_
 rintro _ w ⟨b_3, rfl, hS⟩
 refine kb 1 rfl ?_
 refine ke (ka (kd (kc (kh (kG (us := [va1_0, va1_1, vB a1_2]) Tryz.underlying27 rfl sz27 rfl (hS.bxs 1 rfl rfl)) rfl ?_))))
 obtain ⟨x_5, hx_5, h⟩ := kf h
 refine kj (by kernel_rfl) rfl (c_law11_lent _ a1_0 a1_1 a1_2 va1_0 va1_1  ((hA.rp 0 rfl).now hS.fr).rp ((hA.rp 1 rfl).now hS.fr).rp _ hx_5) rfl ?_
 rintro _ w ⟨v_6, v_9, rfl, hk_8, hk_11, hS1⟩
 have hS := hS.call hS1
 refine kV (kD (cs := [.slice none 0 0, .slice none 0 0, vB false]) tz27 rfl hS) rfl ?_
 rintro _ w ⟨b_12, rfl, hS⟩
 refine kW (kL (i := 0) (us := [slV v_6 e32.sz 0 x_5.1.2, slV v_9 e32.sz 0 x_5.2.1.2, vB x_5.2.2]) rfl sz27 rfl rfl rfl ⟨((hS.ro 1 rfl).tk hk_8).one, ((hS.ro 2 rfl).tk hk_11).one, rfl, trivial⟩ rfl hS) ?_
 intro w hS
 refine ke (ka (kd (kc (kh (kG (us := [va2_0, va2_1, vB a2_2]) Tryz.underlying27 rfl sz27 rfl (hS.bxs 3 rfl rfl)) rfl ?_))))
 obtain ⟨x_14, hx_14, h⟩ := kf h
 refine kj (by kernel_rfl) rfl (c_law11_lent _ a2_0 a2_1 a2_2 va2_0 va2_1  ((hA.rp 2 rfl).now hS.fr).rp ((hA.rp 3 rfl).now hS.fr).rp _ hx_14) rfl ?_
 rintro _ w ⟨v_15, v_18, rfl, hk_17, hk_20, hS1⟩
 have hS := hS.call hS1
 refine kV (kD (cs := [.slice none 0 0, .slice none 0 0, vB false]) tz27 rfl hS) rfl ?_
 rintro _ w ⟨b_21, rfl, hS⟩
 refine kW (kL (i := 0) (us := [slV v_15 e32.sz 0 x_14.1.2, slV v_18 e32.sz 0 x_14.2.1.2, vB x_14.2.2]) rfl sz27 rfl rfl rfl ⟨((hS.ro 1 rfl).tk hk_17).one, ((hS.ro 2 rfl).tk hk_20).one, rfl, trivial⟩ rfl hS) ?_
 intro w hS
 refine ke (ka (kd (kc (kb 1 rfl ?_))))
 refine kh (kG (us := [slV v_6 e32.sz 0 x_5.1.2, slV v_9 e32.sz 0 x_5.2.1.2, vB x_5.2.2]) Tryz.underlying27 rfl sz27 rfl (hS.bxs 3 rfl rfl)) rfl ?_
 obtain ⟨x_23, hx_23, h⟩ := kf h
 refine kj (by kernel_rfl) rfl (c_curve_Neg _ a0 (x_5.1.1.take x_5.1.2) (x_5.2.1.1.take x_5.2.1.2) x_5.2.2 (slV v_6 e32.sz 0 x_5.1.2) (slV v_9 e32.sz 0 x_5.2.1.2)  ((hS.ro 4 rfl).tk hk_8).rp ((hS.ro 5 rfl).tk hk_11).rp _ hx_23) rfl ?_
 rintro _ w ⟨v_24, v_26, rfl, hS1⟩
 have hS := hS.call hS1
 refine kb 3 rfl ?_
 refine kV (kD (cs := [.slice none 0 0, .slice none 0 0, vB false]) tz27 rfl hS) rfl ?_
 rintro _ w ⟨b_28, rfl, hS⟩
 refine kW (kL (i := 0) (us := [v_24, v_26, vB x_23.2.2.1]) rfl sz27 rfl rfl rfl ⟨(hS.ro 1 rfl).one, (hS.ro 2 rfl).one, rfl, trivial⟩ rfl hS) ?_
 intro w hS
 refine kb 1 rfl ?_
 refine ke (ka (kd (kc (kb 1 rfl ?_))))
 refine kh (kG (us := [slV v_6 e32.sz 0 x_5.1.2, slV v_9 e32.sz 0 x_5.2.1.2, vB x_5.2.2]) Tryz.underlying27 rfl sz27 rfl (hS.bxs 6 rfl rfl)) rfl (kh (kG (us := [slV v_15 e32.sz 0 x_14.1.2, slV v_18 e32.sz 0 x_14.2.1.2, vB x_14.2.2]) Tryz.underlying27 rfl sz27 rfl (hS.bxs 3 rfl rfl)) rfl ?_)
 obtain ⟨x_30, hx_30, h⟩ := kf h
 refine kj (by kernel_rfl) rfl (c_curve_Add _ a0 (x_5.1.1.take x_5.1.2) (x_5.2.1.1.take x_5.2.1.2) x_5.2.2 (x_14.1.1.take x_14.1.2) (x_14.2.1.1.take x_14.2.1.2) x_14.2.2 (slV v_6 e32.sz 0 x_5.1.2) (slV v_9 e32.sz 0 x_5.2.1.2) (slV v_15 e32.sz 0 x_14.1.2) (slV v_18 e32.sz 0 x_14.2.1.2)  ((hS.ro 7 rfl).tk hk_8).rp ((hS.ro 8 rfl).tk hk_11).rp ((hS.ro 4 rfl).tk hk_17).rp ((hS.ro 5 rfl).tk hk_20).rp _ hx_30) rfl ?_
 rintro _ w ⟨v_31, v_33, rfl, hS1⟩
 have hS := hS.call hS1
 refine kb 3 rfl ?_
 refine kV (kD (cs := [.slice none 0 0, .slice none 0 0, vB false]) tz27 rfl hS) rfl ?_
 rintro _ w ⟨b_35, rfl, hS⟩
 refine kW (kL (i := 0) (us := [v_31, v_33, vB x_30.2.2.1]) rfl sz27 rfl rfl rfl ⟨(hS.ro 1 rfl).one, (hS.ro 2 rfl).one, rfl, trivial⟩ rfl hS) ?_
 intro w hS
 refine kb 1 rfl ?_
 refine ke (ka (kd (kc (kb 1 rfl ?_))))
 refine kh (kG (us := [slV v_6 e32.sz 0 x_5.1.2, slV v_9 e32.sz 0 x_5.2.1.2, vB x_5.2.2]) Tryz.underlying27 rfl sz27 rfl (hS.bxs 9 rfl rfl)) rfl (kh (kG (us := [slV v_15 e32.sz 0 x_14.1.2, slV v_18 e32.sz 0 x_14.2.1.2, vB x_14.2.2]) Tryz.underlying27 rfl sz27 rfl (hS.bxs 6 rfl rfl)) rfl ?_)
 obtain ⟨x_37, hx_37, h⟩ := kf h
 refine kj (by kernel_rfl) rfl (c_curve_Add _ a0 (x_5.1.1.take x_5.1.2) (x_5.2.1.1.take x_5.2.1.2) x_5.2.2 (x_14.1.1.take x_14.1.2) (x_14.2.1.1.take x_14.2.1.2) x_14.2.2 (slV v_6 e32.sz 0 x_5.1.2) (slV v_9 e32.sz 0 x_5.2.1.2) (slV v_15 e32.sz 0 x_14.1.2) (slV v_18 e32.sz 0 x_14.2.1.2)  ((hS.ro 10 rfl).tk hk_8).rp ((hS.ro 11 rfl).tk hk_11).rp ((hS.ro 7 rfl).tk hk_17).rp ((hS.ro 8 rfl).tk hk_20).rp _ hx_37) rfl ?_
 rintro _ w ⟨v_38, v_40, rfl, hS1⟩
 have hS := hS.call hS1
 refine kb 3 rfl ?_
 refine kV (kD (cs := [.slice none 0 0, .slice none 0 0, vB false]) tz27 rfl hS) rfl ?_
 rintro _ w ⟨b_42, rfl, hS⟩
 refine kW (kL (i := 0) (us := [v_38, v_40, vB x_37.2.2.1]) rfl sz27 rfl rfl rfl ⟨(hS.ro 1 rfl).one, (hS.ro 2 rfl).one, rfl, trivial⟩ rfl hS) ?_
 intro w hS
 refine kb 1 rfl ?_
 refine ke (ka (kd (kc (kb 1 rfl ?_))))
 refine kh (kG (us := [va1_0, va1_1, vB a1_2]) Tryz.underlying27 rfl sz27 rfl (hS.bxs 16 rfl rfl)) rfl ?_
 obtain ⟨x_44, hx_44, h⟩ := kf h
 refine kj (by kernel_rfl) rfl (c_ref11_Neg _ a0 a1_0 a1_1 a1_2 va1_0 va1_1  ((hA.rp 0 rfl).now hS.fr).rp ((hA.rp 1 rfl).now hS.fr).rp _ hx_44) rfl ?_
 rintro _ w ⟨v_45, v_47, rfl, hS1⟩
 have hS := hS.call hS1
 refine kb 3 rfl ?_
 refine kV (kD (cs := [.slice none 0 0, .slice none 0 0, vB false]) tz27 rfl hS) rfl ?_
 rintro _ w ⟨b_49, rfl, hS⟩
 refine kW (kL (i := 0) (us := [v_45, v_47, vB x_44.2.2.1]) rfl sz27 rfl rfl rfl ⟨(hS.ro 1 rfl).one, (hS.ro 2 rfl).one, rfl, trivial⟩ rfl hS) ?_
 intro w hS
 refine kb 1 rfl ?_
 refine ke (ka (kd (kc (kb 1 rfl ?_))))
 refine kh (kG (us := [va1_0, va1_1, vB a1_2]) Tryz.underlying27 rfl sz27 rfl (hS.bxs 19 rfl rfl)) rfl (kh (kG (us := [va2_0, va2_1, vB a2_2]) Tryz.underlying27 rfl sz27 rfl (hS.bxs 18 rfl rfl)) rfl ?_)
 replace hS := hS.pick (os' := [own e32 v_45 x_44.1, own e32 v_47 x_44.2.1, own e32 v_38 x_37.1, own e32 v_40 x_37.2.1] ++ [OE.bx b_49 [v_45, v_47, vB x_44.2.2.1], OE.bx b_42 [v_38, v_40, vB x_37.2.2.1], OE.bx b_35 [v_31, v_33, vB x_30.2.2.1], own e32 v_31 x_30.1, own e32 v_33 x_30.2.1, OE.bx b_28 [v_24, v_26, vB x_23.2.2.1], own e32 v_24 x_23.1, own e32 v_26 x_23.2.1, OE.bx b_21 [slV v_15 e32.sz 0 x_14.1.2, slV v_18 e32.sz 0 x_14.2.1.2, vB x_14.2.2], own e32 v_15 x_14.1.1, own e32 v_18 x_14.2.1.1, OE.bx b_12 [slV v_6 e32.sz 0 x_5.1.2, slV v_9 e32.sz 0 x_5.2.1.2, vB x_5.2.2], own e32 v_6 x_5.1.1, own e32 v_9 x_5.2.1.1, OE.bx b_3 [va2_0, va2_1, vB a2_2], OE.bx b_1 [va1_0, va1_1, vB a1_2]]) [1, 2, 4, 5, 0, 3, 6, 7, 8, 9, 10, 11, 12, 13, 14, 15, 16, 17, 18, 19] (by decide) rfl
 obtain ⟨hZ, hA, hP, hS⟩ := hZ.frzK hTT hA hP hS
 obtain ⟨x_51, hx_51, h⟩ := kf h
 refine kj (by kernel_rfl) rfl (c_ref11_Add _ a0 a1_0 a1_1 a1_2 a2_0 a2_1 a2_2 va1_0 va1_1 va2_0 va2_1  _ (hZ.okT hTT hS) (hA.rpT hP 0 rfl) (hA.rpT hP 1 rfl) (hA.rpT hP 2 rfl) (hA.rpT hP 3 rfl) _ hx_51) rfl ?_
 rintro _ w ⟨u0_52_0, u0_52_1, rfl, hS1, hR1⟩
 obtain ⟨S_55, wb_56, hZ, hA, hP, hS⟩ := hZ.callK hA hP hS hS1 hR1 rfl
 refine kb 3 rfl ?_
 refine kV (kD (cs := [.slice none 0 0, .slice none 0 0, vB false]) tz27 rfl hS) rfl ?_
 rintro _ w ⟨b_57, rfl, hS⟩
 refine kW (kL (i := 0) (us := [u0_52_0, u0_52_1, vB x_51.2.2.1]) rfl sz27 rfl rfl rfl ⟨((hA.rp 8 rfl).now hS.fr).one, ((hA.rp 9 rfl).now hS.fr).one, rfl, trivial⟩ rfl hS) ?_
 intro w hS
 refine kb 1 rfl ?_
 refine ke (ka (kd ?_))
 refine kN (r := r) (fun (g : Bool) L w => L = [(0, vI a0), (4, pB b_1 0), (5, pB b_3 0), (7, pB b_12 0), (8, pB b_21 0), (9, pB b_28 0), (11, pB b_35 0), (13, pB b_42 0), (15, pB b_49 0), (17, pB b_57 0), (98, vB g)] ∧ SfT [] [] w0 w [red e32 u0_52_1 x_51.2.1, red e32 u0_52_0 x_51.1, red e32 v_47 x_44.2.1, red e32 v_45 x_44.1, red e32 v_40 x_37.2.1, red e32 v_38 x_37.1, red e32 va2_1 a2_1, red e32 va2_0 a2_0, red e32 va1_1 a1_1, red e32 va1_0 a1_0] [OE.bx b_1 [va1_0, va1_1, vB a1_2], OE.bx b_3 [va2_0, va2_1, vB a2_2], OE.bx b_12 [slV v_6 e32.sz 0 x_5.1.2, slV v_9 e32.sz 0 x_5.2.1.2, vB x_5.2.2], own e32 v_6 x_5.1.1, own e32 v_9 x_5.2.1.1, OE.bx b_21 [slV v_15 e32.sz 0 x_14.1.2, slV v_18 e32.sz 0 x_14.2.1.2, vB x_14.2.2], own e32 v_15 x_14.1.1, own e32 v_18 x_14.2.1.1, OE.bx b_28 [v_24, v_26, vB x_23.2.2.1], own e32 v_24 x_23.1, own e32 v_26 x_23.2.1, OE.bx b_35 [v_31, v_33, vB x_30.2.2.1], own e32 v_31 x_30.1, own e32 v_33 x_30.2.1, OE.bx b_42 [v_38, v_40, vB x_37.2.2.1], OE.bx b_49 [v_45, v_47, vB x_44.2.2.1], OE.bx b_57 [u0_52_0, u0_52_1, vB x_51.2.2.1]]) (F.law11_CurveSums_K1 a0 a1_0 a1_1 a1_2 a2_0 a2_1 a2_2 x_5 x_14 x_23 x_30 x_37 x_44 x_51) ?_ ?_
 rotate_left
 ·intro hK_71
  refine kc (kh (kG (us := [v_24, v_26, vB x_23.2.2.1]) Tryz.underlying27 rfl sz27 rfl (hS.bxs 6 rfl rfl)) rfl (kh (kG (us := [v_45, v_47, vB x_44.2.2.1]) Tryz.underlying27 rfl sz27 rfl (hS.bxs 1 rfl rfl)) rfl ?_))
  obtain ⟨x_59, hx_59, h⟩ := kf h
  refine kj (by kernel_rfl) rfl (c_law11_same _ x_23.1 x_23.2.1 x_23.2.2.1 x_44.1 x_44.2.1 x_44.2.2.1 v_24 v_26 v_45 v_47  (hS.ro 7 rfl).rp (hS.ro 8 rfl).rp ((hA.rp 7 rfl).now hS.fr).rp ((hA.rp 6 rfl).now hS.fr).rp _ hx_59) rfl ?_
  rintro _ w ⟨rfl, hS1⟩
  have hS := hS.call hS1
  refine kb 2 rfl ?_
  cases hb_60 : (!x_59)
  case true =>
   have h := if_t h hb_60
   try simp only [hb_60]
   refine kb 27 rfl ?_
   refine ke (ka ?_)
   exact km _ (by exact ⟨rfl, rfl, rfl, rfl, rfl, rfl, rfl, rfl, rfl, rfl, rfl, trivial⟩) (hK_71 true _ _ ⟨rfl, (SfT.mk' hZ (Rds.cons (hA.nth 9 rfl) (Rds.cons (hA.nth 8 rfl) (Rds.cons (hA.nth 6 rfl) (Rds.cons (hA.nth 7 rfl) (Rds.cons (hA.nth 4 rfl) (Rds.cons (hA.nth 5 rfl) (Rds.cons (hA.nth 3 rfl) (Rds.cons (hA.nth 2 rfl) (Rds.cons (hA.nth 1 rfl) (Rds.cons (hA.nth 0 rfl) Rds.nil)))))))))) (Off.cons (hP.nth 9 rfl) (Off.cons (hP.nth 8 rfl) (Off.cons (hP.nth 6 rfl) (Off.cons (hP.nth 7 rfl) (Off.cons (hP.nth 4 rfl) (Off.cons (hP.nth 5 rfl) (Off.cons (hP.nth 3 rfl) (Off.cons (hP.nth 2 rfl) (Off.cons (hP.nth 1 rfl) (Off.cons (hP.nth 0 rfl) Off.nil)))))))))) (hS.pick [16, 15, 12, 13, 14, 9, 10, 11, 6, 7, 8, 3, 4, 5, 2, 1, 0] (by decide) rfl))⟩ h)
  case false =>
   have h := if_f h hb_60
   try simp only [hb_60]
   refine kb 5 rfl ?_
   cases hb_61 : (x_23.2.2.2 != x_44.2.2.2)
   case true =>
    have h := if_t h hb_61
    try simp only [hb_61]
    refine kb 22 rfl ?_
    refine ke (ka ?_)
    exact km _ (by exact ⟨rfl, rfl, rfl, rfl, rfl, rfl, rfl, rfl, rfl, rfl, rfl, trivial⟩) (hK_71 true _ _ ⟨rfl, (SfT.mk' hZ (Rds.cons (hA.nth 9 rfl) (Rds.cons (hA.nth 8 rfl) (Rds.cons (hA.nth 6 rfl) (Rds.cons (hA.nth 7 rfl) (Rds.cons (hA.nth 4 rfl) (Rds.cons (hA.nth 5 rfl) (Rds.cons (hA.nth 3 rfl) (Rds.cons (hA.nth 2 rfl) (Rds.cons (hA.nth 1 rfl) (Rds.cons (hA.nth 0 rfl) Rds.nil)))))))))) (Off.cons (hP.nth 9 rfl) (Off.cons (hP.nth 8 rfl) (Off.cons (hP.nth 6 rfl) (Off.cons (hP.nth 7 rfl) (Off.cons (hP.nth 4 rfl) (Off.cons (hP.nth 5 rfl) (Off.cons (hP.nth 3 rfl) (Off.cons (hP.nth 2 rfl) (Off.cons (hP.nth 1 rfl) (Off.cons (hP.nth 0 rfl) Off.nil)))))))))) (hS.pick [16, 15, 12, 13, 14, 9, 10, 11, 6, 7, 8, 3, 4, 5, 2, 1, 0] (by decide) rfl))⟩ h)
   case false =>
    have h := if_f h hb_61
    try simp only [hb_61]
    refine kS (t := 76) rfl rfl (kG (us := [v_31, v_33, vB x_30.2.2.1]) Tryz.underlying27 rfl sz27 rfl (hS.bxs 3 rfl rfl)) rfl (kS (t := 76) rfl rfl (kG (us := [u0_52_0, u0_52_1, vB x_51.2.2.1]) Tryz.underlying27 rfl sz27 rfl (hS.bxs 0 rfl rfl)) rfl ?_)
    obtain ⟨x_62, hx_62, h⟩ := kf h
    refine wpR_gcall (t := 76) rfl rfl (by kernel_rfl) rfl (c_law11_same _ x_30.1 x_30.2.1 x_30.2.2.1 x_51.1 x_51.2.1 x_51.2.2.1 v_31 v_33 u0_52_0 u0_52_1  (hS.ro 4 rfl).rp (hS.ro 5 rfl).rp ((hA.rp 8 rfl).now hS.fr).rp ((hA.rp 9 rfl).now hS.fr).rp _ hx_62) rfl ?_
    rintro _ w ⟨rfl, hS1⟩
    have hS := hS.call hS1
    refine kb 3 rfl ?_
    cases hb_63 : (!x_62)
    case true =>
     have h := if_t h hb_63
     try simp only [hb_63]
     refine kb 16 rfl ?_
     refine ke (ka ?_)
     exact km _ (by exact ⟨rfl, rfl, rfl, rfl, rfl, rfl, rfl, rfl, rfl, rfl, rfl, trivial⟩) (hK_71 true _ _ ⟨rfl, (SfT.mk' hZ (Rds.cons (hA.nth 9 rfl) (Rds.cons (hA.nth 8 rfl) (Rds.cons (hA.nth 6 rfl) (Rds.cons (hA.nth 7 rfl) (Rds.cons (hA.nth 4 rfl) (Rds.cons (hA.nth 5 rfl) (Rds.cons (hA.nth 3 rfl) (Rds.cons (hA.nth 2 rfl) (Rds.cons (hA.nth 1 rfl) (Rds.cons (hA.nth 0 rfl) Rds.nil)))))))))) (Off.cons (hP.nth 9 rfl) (Off.cons (hP.nth 8 rfl) (Off.cons (hP.nth 6 rfl) (Off.cons (hP.nth 7 rfl) (Off.cons (hP.nth 4 rfl) (Off.cons (hP.nth 5 rfl) (Off.cons (hP.nth 3 rfl) (Off.cons (hP.nth 2 rfl) (Off.cons (hP.nth 1 rfl) (Off.cons (hP.nth 0 rfl) Off.nil)))))))))) (hS.pick [16, 15, 12, 13, 14, 9, 10, 11, 6, 7, 8, 3, 4, 5, 2, 1, 0] (by decide) rfl))⟩ h)
    case false =>
     have h := if_f h hb_63
     try simp only [hb_63]
     refine kb 5 rfl ?_
     cases hb_64 : (x_30.2.2.2 != x_51.2.2.2)
     case true =>
      have h := if_t h hb_64
      try simp only [hb_64]
      refine kb 11 rfl ?_
      refine ke (ka ?_)
      exact km _ (by exact ⟨rfl, rfl, rfl, rfl, rfl, rfl, rfl, rfl, rfl, rfl, rfl, trivial⟩) (hK_71 true _ _ ⟨rfl, (SfT.mk' hZ (Rds.cons (hA.nth 9 rfl) (Rds.cons (hA.nth 8 rfl) (Rds.cons (hA.nth 6 rfl) (Rds.cons (hA.nth 7 rfl) (Rds.cons (hA.nth 4 rfl) (Rds.cons (hA.nth 5 rfl) (Rds.cons (hA.nth 3 rfl) (Rds.cons (hA.nth 2 rfl) (Rds.cons (hA.nth 1 rfl) (Rds.cons (hA.nth 0 rfl) Rds.nil)))))))))) (Off.cons (hP.nth 9 rfl) (Off.cons (hP.nth 8 rfl) (Off.cons (hP.nth 6 rfl) (Off.cons (hP.nth 7 rfl) (Off.cons (hP.nth 4 rfl) (Off.cons (hP.nth 5 rfl) (Off.cons (hP.nth 3 rfl) (Off.cons (hP.nth 2 rfl) (Off.cons (hP.nth 1 rfl) (Off.cons (hP.nth 0 rfl) Off.nil)))))))))) (hS.pick [16, 15, 12, 13, 14, 9, 10, 11, 6, 7, 8, 3, 4, 5, 2, 1, 0] (by decide) rfl))⟩ h)
     case false =>
      have h := if_f h hb_64
      try simp only [hb_64]
      refine kS (t := 87) rfl rfl (kG (us := [slV v_6 e32.sz 0 x_5.1.2, slV v_9 e32.sz 0 x_5.2.1.2, vB x_5.2.2]) Tryz.underlying27 rfl sz27 rfl (hS.bxs 12 rfl rfl)) rfl (kS (t := 87) rfl rfl (kG (us := [va1_0, va1_1, vB a1_2]) Tryz.underlying27 rfl sz27 rfl (hS.bxs 16 rfl rfl)) rfl ?_)
      obtain ⟨x_65, hx_65, h⟩ := kf h
      refine wpR_gcall (t := 87) rfl rfl (by kernel_rfl) rfl (c_law11_still _ x_5.1.1 x_5.1.2 x_5.2.1.1 x_5.2.1.2 x_5.2.2 a1_0 a1_1 a1_2 v_6 v_9 va1_0 va1_1  (hS.ro 13 rfl).rp hk_8 (hS.ro 14 rfl).rp hk_11 ((hA.rp 0 rfl).now hS.fr).rp ((hA.rp 1 rfl).now hS.fr).rp _ hx_65) rfl ?_
      rintro _ w ⟨rfl, hS1⟩
      have hS := hS.call hS1
      refine kb 3 rfl ?_
      cases hb_66 : (!x_65)
      case true =>
       have h := if_t h hb_66
       try simp only [hb_66]
       refine kb 5 rfl ?_
       refine ke (ka ?_)
       exact km _ (by exact ⟨rfl, rfl, rfl, rfl, rfl, rfl, rfl, rfl, rfl, rfl, rfl, trivial⟩) (hK_71 true _ _ ⟨rfl, (SfT.mk' hZ (Rds.cons (hA.nth 9 rfl) (Rds.cons (hA.nth 8 rfl) (Rds.cons (hA.nth 6 rfl) (Rds.cons (hA.nth 7 rfl) (Rds.cons (hA.nth 4 rfl) (Rds.cons (hA.nth 5 rfl) (Rds.cons (hA.nth 3 rfl) (Rds.cons (hA.nth 2 rfl) (Rds.cons (hA.nth 1 rfl) (Rds.cons (hA.nth 0 rfl) Rds.nil)))))))))) (Off.cons (hP.nth 9 rfl) (Off.cons (hP.nth 8 rfl) (Off.cons (hP.nth 6 rfl) (Off.cons (hP.nth 7 rfl) (Off.cons (hP.nth 4 rfl) (Off.cons (hP.nth 5 rfl) (Off.cons (hP.nth 3 rfl) (Off.cons (hP.nth 2 rfl) (Off.cons (hP.nth 1 rfl) (Off.cons (hP.nth 0 rfl) Off.nil)))))))))) (hS.pick [16, 15, 12, 13, 14, 9, 10, 11, 6, 7, 8, 3, 4, 5, 2, 1, 0] (by decide) rfl))⟩ h)
      case false =>
       have h := if_f h hb_66
       try simp only [hb_66]
       refine kS (t := 93) rfl rfl (kG (us := [slV v_15 e32.sz 0 x_14.1.2, slV v_18 e32.sz 0 x_14.2.1.2, vB x_14.2.2]) Tryz.underlying27 rfl sz27 rfl (hS.bxs 9 rfl rfl)) rfl (kS (t := 93) rfl rfl (kG (us := [va2_0, va2_1, vB a2_2]) Tryz.underlying27 rfl sz27 rfl (hS.bxs 15 rfl rfl)) rfl ?_)
       obtain ⟨x_67, hx_67, h⟩ := kf h
       refine wpR_gcall (t := 93) rfl rfl (by kernel_rfl) rfl (c_law11_still _ x_14.1.1 x_14.1.2 x_14.2.1.1 x_14.2.1.2 x_14.2.2 a2_0 a2_1 a2_2 v_15 v_18 va2_0 va2_1  (hS.ro 10 rfl).rp hk_17 (hS.ro 11 rfl).rp hk_20 ((hA.rp 2 rfl).now hS.fr).rp ((hA.rp 3 rfl).now hS.fr).rp _ hx_67) rfl ?_
       rintro _ w ⟨rfl, hS1⟩
       have hS := hS.call hS1
       refine kb 2 rfl ?_
       refine ke (ka ?_)
       exact km _ (by exact ⟨rfl, rfl, rfl, rfl, rfl, rfl, rfl, rfl, rfl, rfl, rfl, trivial⟩) (hK_71 (!x_67) _ _ ⟨rfl, (SfT.mk' hZ (Rds.cons (hA.nth 9 rfl) (Rds.cons (hA.nth 8 rfl) (Rds.cons (hA.nth 6 rfl) (Rds.cons (hA.nth 7 rfl) (Rds.cons (hA.nth 4 rfl) (Rds.cons (hA.nth 5 rfl) (Rds.cons (hA.nth 3 rfl) (Rds.cons (hA.nth 2 rfl) (Rds.cons (hA.nth 1 rfl) (Rds.cons (hA.nth 0 rfl) Rds.nil)))))))))) (Off.cons (hP.nth 9 rfl) (Off.cons (hP.nth 8 rfl) (Off.cons (hP.nth 6 rfl) (Off.cons (hP.nth 7 rfl) (Off.cons (hP.nth 4 rfl) (Off.cons (hP.nth 5 rfl) (Off.cons (hP.nth 3 rfl) (Off.cons (hP.nth 2 rfl) (Off.cons (hP.nth 1 rfl) (Off.cons (hP.nth 0 rfl) Off.nil)))))))))) (hS.pick [16, 15, 12, 13, 14, 9, 10, 11, 6, 7, 8, 3, 4, 5, 2, 1, 0] (by decide) rfl))⟩ h)
 rintro x_70 L w hJ h
 try dsimp only at hJ
 obtain ⟨rfl, ⟨S_68, wb_69, hZ, hA, hP, hS⟩⟩ := hJ
 unfold F.law11_CurveSums_K1 at h
 refine kn rfl (fun hb_178 => ?_) (fun hb_178 => ?_)
 ·have h := if_t h hb_178
  refine kd (kc (kb 1 rfl ?_))
  refine ke (ka (ko (ku ?_)))
  cases h
  replace hS := hZ.st hS
  exact kx rfl rfl ⟨rfl, hS.pick [] (by decide) rfl⟩
 have h := if_f h hb_178
 refine kq (ka (kd (kc (kb 1 rfl ?_))))
 refine kh (kG (us := [slV v_6 e32.sz 0 x_5.1.2, slV v_9 e32.sz 0 x_5.2.1.2, vB x_5.2.2]) Tryz.underlying27 rfl sz27 rfl (hS.bxs 2 rfl rfl)) rfl ?_
 obtain ⟨x_72, hx_72, h⟩ := kf h
 refine kj (by kernel_rfl) rfl (c_curve_Neg _ a0 (x_5.1.1.take x_5.1.2) (x_5.2.1.1.take x_5.2.1.2) x_5.2.2 (slV v_6 e32.sz 0 x_5.1.2) (slV v_9 e32.sz 0 x_5.2.1.2)  ((hS.ro 3 rfl).tk hk_8).rp ((hS.ro 4 rfl).tk hk_11).rp _ hx_72) rfl ?_
 rintro _ w ⟨v_73, v_75, rfl, hS1⟩
 have hS := hS.call hS1
 refine kb 3 rfl ?_
 refine kV (kD (cs := [.slice none 0 0, .slice none 0 0, vB false]) tz27 rfl hS) rfl ?_
 rintro _ w ⟨b_77, rfl, hS⟩
 refine kW (kL (i := 0) (us := [v_73, v_75, vB x_72.2.2.1]) rfl sz27 rfl rfl rfl ⟨(hS.ro 1 rfl).one, (hS.ro 2 rfl).one, rfl, trivial⟩ rfl hS) ?_
 intro w hS
 refine kb 1 rfl ?_
 refine ke (ka (kd ?_))
 refine kN (r := r) (fun (g : Bool) L w => L = [(0, vI a0), (5, pB b_3 0), (7, pB b_12 0), (8, pB b_21 0), (145, vB g)] ∧ SfT [] [] w0 w [red e32 va2_1 a2_1, red e32 va2_0 a2_0] [OE.bx b_3 [va2_0, va2_1, vB a2_2], OE.bx b_12 [slV v_6 e32.sz 0 x_5.1.2, slV v_9 e32.sz 0 x_5.2.1.2, vB x_5.2.2], own e32 v_6 x_5.1.1, own e32 v_9 x_5.2.1.1, OE.bx b_21 [slV v_15 e32.sz 0 x_14.1.2, slV v_18 e32.sz 0 x_14.2.1.2, vB x_14.2.2], own e32 v_15 x_14.1.1, own e32 v_18 x_14.2.1.1]) (F.law11_CurveSums_K2 a0 a2_0 a2_1 a2_2 x_5 x_14) ?_ ?_
 rotate_left
 ·intro hK_110
  have hsh12 := (hS.ro 12 rfl).shp
  have hsh13 := (hS.ro 13 rfl).shp
  have hsh15 := (hS.ro 15 rfl).shp
  have hsh16 := (hS.ro 16 rfl).shp
  refine kM (fun w' => St S_68 wb_69 w' [OE.bx b_77 [v_73, v_75, vB x_72.2.2.1], own e32 v_73 x_72.1, own e32 v_75 x_72.2.1, OE.bx b_1 [va1_0, va1_1, vB a1_2], OE.bx b_3 [va2_0, va2_1, vB a2_2], OE.bx b_12 [slV v_6 e32.sz 0 x_5.1.2, slV v_9 e32.sz 0 x_5.2.1.2, vB x_5.2.2], own e32 v_6 x_5.1.1, own e32 v_9 x_5.2.1.1, OE.bx b_21 [slV v_15 e32.sz 0 x_14.1.2, slV v_18 e32.sz 0 x_14.2.1.2, vB x_14.2.2], own e32 v_15 x_14.1.1, own e32 v_18 x_14.2.1.1, OE.bx b_28 [v_24, v_26, vB x_23.2.2.1], OE.bx b_35 [v_31, v_33, vB x_30.2.2.1], OE.bx b_42 [v_38, v_40, vB x_37.2.2.1], OE.bx b_49 [v_45, v_47, vB x_44.2.2.1], OE.bx b_57 [u0_52_0, u0_52_1, vB x_51.2.2.1]]) (fun i => !([1, 5, 11, 17, 23, 26, 32, 38].contains i)) hmix (fun _ _ _ hf => hf.2) (fun _ _ hf => hf) (by kernel_rfl) ?_
  have hS := hS.drew
  show lxE _ _ _ _ _ _ _ [0, 1, 2, 3, 4, 5, 6, 7, 8, 9, 10, 11, 12, 13, 14, 15, 16, 17, 18, 19, 20, 21, 22, 23, 24, 25, 26, 27, 28, 29, 30, 31, 32, 33, 34, 35, 36, 37, 38, 39, 40] _ _
  refine ki (hS.pick [0, 1, 2, 3, 4, 5, 6, 7, 8, 9, 10, 11, 14, 17, 18, 19] (by decide) rfl) rfl rfl (fun w hF => kG (us := [v_24, v_26, vB x_23.2.2.1]) Tryz.underlying27 rfl sz27 rfl (hF.bxs 11 rfl rfl)) rfl ?_
  have hG := hS.pick (os' := [own e32 v_24 x_23.1, own e32 v_26 x_23.2.1] ++ [OE.bx b_77 [v_73, v_75, vB x_72.2.2.1], own e32 v_73 x_72.1, own e32 v_75 x_72.2.1, OE.bx b_1 [va1_0, va1_1, vB a1_2], OE.bx b_3 [va2_0, va2_1, vB a2_2], OE.bx b_12 [slV v_6 e32.sz 0 x_5.1.2, slV v_9 e32.sz 0 x_5.2.1.2, vB x_5.2.2], own e32 v_6 x_5.1.1, own e32 v_9 x_5.2.1.1, OE.bx b_21 [slV v_15 e32.sz 0 x_14.1.2, slV v_18 e32.sz 0 x_14.2.1.2, vB x_14.2.2], own e32 v_15 x_14.1.1, own e32 v_18 x_14.2.1.1, OE.bx b_28 [v_24, v_26, vB x_23.2.2.1], OE.bx b_35 [v_31, v_33, vB x_30.2.2.1], own e32 v_31 x_30.1, own e32 v_33 x_30.2.1, OE.bx b_42 [v_38, v_40, vB x_37.2.2.1], OE.bx b_49 [v_45, v_47, vB x_44.2.2.1], OE.bx b_57 [u0_52_0, u0_52_1, vB x_51.2.2.1]]) [12, 13, 0, 1, 2, 3, 4, 5, 6, 7, 8, 9, 10, 11, 14, 15, 16, 17, 18, 19] (by decide) rfl
  obtain ⟨x_79, hx_79, h⟩ := kf h
  refine kO (hS.pick [0, 1, 2, 3, 4, 5, 6, 7, 8, 9, 10, 11, 14, 17, 18, 19] (by decide) rfl) rfl rfl (by kernel_rfl) rfl (c_law11_spoil _ x_23.1 x_23.2.1 x_23.2.2.1 v_24 v_26  _ hG.give  _ hx_79) rfl ?_
  rintro _ w ⟨rfl, hS1⟩
  have hS := hG.back hS1
  refine ki (hS.pick [0, 1, 2, 3, 4, 5, 6, 7, 8, 9, 10, 11, 12, 15, 16, 17] (by decide) rfl) rfl rfl (fun w hF => kb1 rfl (u_not x_79)) rfl ?_
  refine ki (hS.pick [0, 1, 2, 3, 4, 5, 6, 7, 8, 9, 10, 11, 12, 15, 16, 17] (by decide) rfl) rfl rfl (fun w hF => kl rfl) rfl ?_
  cases hb_80 : (!x_79)
  case true =>
   have h := if_t h hb_80
   try simp only [hb_80]
   refine kC (b := true) (t := 108) (hS.pick [0, 1, 2, 3, 4, 5, 6, 7, 8, 9, 10, 11, 12, 15, 16, 17] (by decide) rfl) rfl rfl rfl rfl rfl rfl ?_
   refine lxE_gskipL (b := true) (t := 108) (hS.pick [0, 1, 2, 3, 4, 5, 6, 7, 8, 9, 10, 11, 12, 15, 16, 17] (by decide) rfl) rfl rfl rfl rfl rfl rfl ?_
   refine kC (b := true) (t := 108) (hS.pick [0, 1, 2, 3, 4, 5, 6, 7, 8, 9, 10, 11, 12, 15, 16, 17] (by decide) rfl) rfl rfl rfl rfl rfl rfl ?_
   refine ki (hS.pick [0, 1, 2, 3, 4, 5, 6, 7, 8, 9, 10, 11, 12, 15, 16, 17] (by decide) rfl) rfl rfl (fun w hF => kc1 rfl rfl) rfl ?_
   refine ki (hS.pick [0, 1, 2, 3, 4, 5, 6, 7, 8, 9, 10, 11, 12, 15, 16, 17] (by decide) rfl) rfl rfl (fun w hF => kl rfl) rfl ?_
   refine kC (b := true) (t := 113) (hS.pick [0, 1, 2, 3, 4, 5, 6, 7, 8, 9, 10, 11, 12, 15, 16, 17] (by decide) rfl) rfl rfl rfl rfl rfl rfl ?_
   refine kC (b := true) (t := 113) (hS.pick [0, 1, 2, 3, 4, 5, 6, 7, 8, 9, 10, 11, 12, 15, 16, 17] (by decide) rfl) rfl rfl rfl rfl rfl rfl ?_
   refine lxE_gskipL (b := true) (t := 113) (hS.pick [0, 1, 2, 3, 4, 5, 6, 7, 8, 9, 10, 11, 12, 15, 16, 17] (by decide) rfl) rfl rfl rfl rfl rfl rfl ?_
   refine kC (b := true) (t := 113) (hS.pick [0, 1, 2, 3, 4, 5, 6, 7, 8, 9, 10, 11, 12, 15, 16, 17] (by decide) rfl) rfl rfl rfl rfl rfl rfl ?_
   refine ki (hS.pick [0, 1, 2, 3, 4, 5, 6, 7, 8, 9, 10, 11, 12, 15, 16, 17] (by decide) rfl) rfl rfl (fun w hF => kc1 rfl rfl) rfl ?_
   refine ki (hS.pick [0, 1, 2, 3, 4, 5, 6, 7, 8, 9, 10, 11, 12, 15, 16, 17] (by decide) rfl) rfl rfl (fun w hF => kl rfl) rfl ?_
   refine kC (b := true) (t := 119) (hS.pick [0, 1, 2, 3, 4, 5, 6, 7, 8, 9, 10, 11, 12, 15, 16, 17] (by decide) rfl) rfl rfl rfl rfl rfl rfl ?_
   refine kC (b := true) (t := 119) (hS.pick [0, 1, 2, 3, 4, 5, 6, 7, 8, 9, 10, 11, 12, 15, 16, 17] (by decide) rfl) rfl rfl rfl rfl rfl rfl ?_
   refine lxE_gskipL (b := true) (t := 119) (hS.pick [0, 1, 2, 3, 4, 5, 6, 7, 8, 9, 10, 11, 12, 15, 16, 17] (by decide) rfl) rfl rfl rfl rfl rfl rfl ?_
   refine kC (b := true) (t := 119) (hS.pick [0, 1, 2, 3, 4, 5, 6, 7, 8, 9, 10, 11, 12, 15, 16, 17] (by decide) rfl) rfl rfl rfl rfl rfl rfl ?_
   refine ki (hS.pick [0, 1, 2, 3, 4, 5, 6, 7, 8, 9, 10, 11, 12, 15, 16, 17] (by decide) rfl) rfl rfl (fun w hF => kc1 rfl rfl) rfl ?_
   refine ki (hS.pick [0, 1, 2, 3, 4, 5, 6, 7, 8, 9, 10, 11, 12, 15, 16, 17] (by decide) rfl) rfl rfl (fun w hF => kl rfl) rfl ?_
   refine kC (b := true) (t := 125) (hS.pick [0, 1, 2, 3, 4, 5, 6, 7, 8, 9, 10, 11, 12, 15, 16, 17] (by decide) rfl) rfl rfl rfl rfl rfl rfl ?_
   refine kC (b := true) (t := 125) (hS.pick [0, 1, 2, 3, 4, 5, 6, 7, 8, 9, 10, 11, 12, 15, 16, 17] (by decide) rfl) rfl rfl rfl rfl rfl rfl ?_
   refine lxE_gskipL (b := true) (t := 125) (hS.pick [0, 1, 2, 3, 4, 5, 6, 7, 8, 9, 10, 11, 12, 15, 16, 17] (by decide) rfl) rfl rfl rfl rfl rfl rfl ?_
   refine kC (b := true) (t := 125) (hS.pick [0, 1, 2, 3, 4, 5, 6, 7, 8, 9, 10, 11, 12, 15, 16, 17] (by decide) rfl) rfl rfl rfl rfl rfl rfl ?_
   refine kC (b := true) (t := 125) (hS.pick [0, 1, 2, 3, 4, 5, 6, 7, 8, 9, 10, 11, 12, 15, 16, 17] (by decide) rfl) rfl rfl rfl rfl rfl rfl ?_
   refine lxE_gskipL (b := true) (t := 125) (hS.pick [0, 1, 2, 3, 4, 5, 6, 7, 8, 9, 10, 11, 12, 15, 16, 17] (by decide) rfl) rfl rfl rfl rfl rfl rfl ?_
   refine kC (b := true) (t := 125) (hS.pick [0, 1, 2, 3, 4, 5, 6, 7, 8, 9, 10, 11, 12, 15, 16, 17] (by decide) rfl) rfl rfl rfl rfl rfl rfl ?_
   refine ki (hS.pick [0, 1, 2, 3, 4, 5, 6, 7, 8, 9, 10, 11, 12, 15, 16, 17] (by decide) rfl) rfl rfl (fun w hF => kc1 rfl rfl) rfl ?_
   refine ki (hS.pick [0, 1, 2, 3, 4, 5, 6, 7, 8, 9, 10, 11, 12, 15, 16, 17] (by decide) rfl) rfl rfl (fun w hF => kl rfl) rfl ?_
   refine kC (b := true) (t := 134) (hS.pick [0, 1, 2, 3, 4, 5, 6, 7, 8, 9, 10, 11, 12, 15, 16, 17] (by decide) rfl) rfl rfl rfl rfl rfl rfl ?_
   refine kC (b := true) (t := 134) (hS.pick [0, 1, 2, 3, 4, 5, 6, 7, 8, 9, 10, 11, 12, 15, 16, 17] (by decide) rfl) rfl rfl rfl rfl rfl rfl ?_
   refine lxE_gskipL (b := true) (t := 134) (hS.pick [0, 1, 2, 3, 4, 5, 6, 7, 8, 9, 10, 11, 12, 15, 16, 17] (by decide) rfl) rfl rfl rfl rfl rfl rfl ?_
   refine kC (b := true) (t := 134) (hS.pick [0, 1, 2, 3, 4, 5, 6, 7, 8, 9, 10, 11, 12, 15, 16, 17] (by decide) rfl) rfl rfl rfl rfl rfl rfl ?_
   refine ki (hS.pick [0, 1, 2, 3, 4, 5, 6, 7, 8, 9, 10, 11, 12, 15, 16, 17] (by decide) rfl) rfl rfl (fun w hF => kc1 rfl rfl) rfl ?_
   refine ki (hS.pick [0, 1, 2, 3, 4, 5, 6, 7, 8, 9, 10, 11, 12, 15, 16, 17] (by decide) rfl) rfl rfl (fun w hF => kl rfl) rfl ?_
   refine kC (b := true) (t := 140) (hS.pick [0, 1, 2, 3, 4, 5, 6, 7, 8, 9, 10, 11, 12, 15, 16, 17] (by decide) rfl) rfl rfl rfl rfl rfl rfl ?_
   refine kC (b := true) (t := 140) (hS.pick [0, 1, 2, 3, 4, 5, 6, 7, 8, 9, 10, 11, 12, 15, 16, 17] (by decide) rfl) rfl rfl rfl rfl rfl rfl ?_
   refine lxE_gskipL (b := true) (t := 140) (hS.pick [0, 1, 2, 3, 4, 5, 6, 7, 8, 9, 10, 11, 12, 15, 16, 17] (by decide) rfl) rfl rfl rfl rfl rfl rfl ?_
   refine kC (b := true) (t := 140) (hS.pick [0, 1, 2, 3, 4, 5, 6, 7, 8, 9, 10, 11, 12, 15, 16, 17] (by decide) rfl) rfl rfl rfl rfl rfl rfl ?_
   refine ki (hS.pick [0, 1, 2, 3, 4, 5, 6, 7, 8, 9, 10, 11, 12, 15, 16, 17] (by decide) rfl) rfl rfl (fun w hF => kc1 rfl rfl) rfl ?_
   refine kX (hS.pick [0, 1, 2, 3, 4, 5, 6, 7, 8, 9, 10, 11, 12, 15, 16, 17] (by decide) rfl) ?_
   refine ka ?_
   replace hS := hS.pick (os' := [own e32 v_73 x_72.1, own e32 v_75 x_72.2.1] ++ [OE.bx b_77 [v_73, v_75, vB x_72.2.2.1], OE.bx b_1 [va1_0, va1_1, vB a1_2], OE.bx b_3 [va2_0, va2_1, vB a2_2], OE.bx b_12 [slV v_6 e32.sz 0 x_5.1.2, slV v_9 e32.sz 0 x_5.2.1.2, vB x_5.2.2], own e32 v_6 x_5.1.1, own e32 v_9 x_5.2.1.1, OE.bx b_21 [slV v_15 e32.sz 0 x_14.1.2, slV v_18 e32.sz 0 x_14.2.1.2, vB x_14.2.2], own e32 v_15 x_14.1.1, own e32 v_18 x_14.2.1.1, OE.bx b_28 [v_24, v_26, vB x_23.2.2.1], OE.bx b_35 [v_31, v_33, vB x_30.2.2.1], own e32 v_31 x_30.1, own e32 v_33 x_30.2.1, OE.bx b_42 [v_38, v_40, vB x_37.2.2.1], OE.bx b_49 [v_45, v_47, vB x_44.2.2.1], OE.bx b_57 [u0_52_0, u0_52_1, vB x_51.2.2.1]]) [1, 2, 0, 3, 4, 5, 6, 7, 8, 9, 10, 11, 12, 13, 14, 15, 16, 17] (by decide) rfl
   obtain ⟨S_81, wb_82, hZ, hA, hP, hS⟩ := hZ.frzT hTT hA hP hS
   exact km _ (by exact ⟨rfl, rfl, rfl, rfl, rfl, trivial⟩) (hK_110 true _ _ ⟨rfl, (SfT.mk' hZ (Rds.cons (hA.nth 3 rfl) (Rds.cons (hA.nth 2 rfl) Rds.nil)) (Off.cons (hP.nth 3 rfl) (Off.cons (hP.nth 2 rfl) Off.nil)) (hS.pick [2, 3, 4, 5, 6, 7, 8] (by decide) rfl))⟩ h)
  case false =>
   have h := if_f h hb_80
   try simp only [hb_80]
   refine ka1 (t := 108) (hS.pick [0, 1, 2, 3, 4, 5, 6, 7, 8, 9, 10, 11, 12, 15, 16, 17] (by decide) rfl) rfl rfl rfl rfl (fun w hF => kG (us := [v_31, v_33, vB x_30.2.2.1]) Tryz.underlying27 rfl sz27 rfl (hF.bxs 12 rfl rfl)) rfl ?_
   have hG := hS.pick (os' := [own e32 v_31 x_30.1, own e32 v_33 x_30.2.1] ++ [OE.bx b_77 [v_73, v_75, vB x_72.2.2.1], own e32 v_73 x_72.1, own e32 v_75 x_72.2.1, OE.bx b_1 [va1_0, va1_1, vB a1_2], OE.bx b_3 [va2_0, va2_1, vB a2_2], OE.bx b_12 [slV v_6 e32.sz 0 x_5.1.2, slV v_9 e32.sz 0 x_5.2.1.2, vB x_5.2.2], own e32 v_6 x_5.1.1, own e32 v_9 x_5.2.1.1, OE.bx b_21 [slV v_15 e32.sz 0 x_14.1.2, slV v_18 e32.sz 0 x_14.2.1.2, vB x_14.2.2], own e32 v_15 x_14.1.1, own e32 v_18 x_14.2.1.1, OE.bx b_28 [v_24, v_26, vB x_23.2.2.1], OE.bx b_35 [v_31, v_33, vB x_30.2.2.1], OE.bx b_42 [v_38, v_40, vB x_37.2.2.1], OE.bx b_49 [v_45, v_47, vB x_44.2.2.1], OE.bx b_57 [u0_52_0, u0_52_1, vB x_51.2.2.1]]) [13, 14, 0, 1, 2, 3, 4, 5, 6, 7, 8, 9, 10, 11, 12, 15, 16, 17] (by decide) rfl
   obtain ⟨x_83, hx_83, h⟩ := kf h
   refine lxE_gcall (t := 108) (hS.pick [0, 1, 2, 3, 4, 5, 6, 7, 8, 9, 10, 11, 12, 15, 16, 17] (by decide) rfl) rfl rfl rfl rfl (by kernel_rfl) rfl (c_law11_spoil _ x_30.1 x_30.2.1 x_30.2.2.1 v_31 v_33  _ hG.give  _ hx_83) rfl ?_
   rintro _ w ⟨rfl, hS1⟩
   have hS := hG.back hS1
   refine ka1 (t := 108) hS rfl rfl rfl rfl (fun w hF => kb1 rfl (u_not x_83)) rfl (ki hS rfl rfl (fun w hF => kd1 rfl rfl) rfl (ki hS rfl rfl (fun w hF => kl rfl) rfl ?_))
   cases hb_84 : (!x_83)
   case true =>
    have h := if_t h hb_84
    try simp only [hb_84]
    refine kC (b := true) (t := 113) hS rfl rfl rfl rfl rfl rfl (kC (b := true) (t := 113) hS rfl rfl rfl rfl rfl rfl (lxE_gskipL (b := true) (t := 113) hS rfl rfl rfl rfl rfl rfl ?_))
    refine kC (b := true) (t := 113) hS rfl rfl rfl rfl rfl rfl (ki hS rfl rfl (fun w hF => kc1 rfl rfl) rfl (ki hS rfl rfl (fun w hF => kl rfl) rfl (kC (b := true) (t := 119) hS rfl rfl rfl rfl rfl rfl (kC (b := true) (t := 119) hS rfl rfl rfl rfl rfl rfl (lxE_gskipL (b := true) (t := 119) hS rfl rfl rfl rfl rfl rfl ?_)))))
    refine kC (b := true) (t := 119) hS rfl rfl rfl rfl rfl rfl (ki hS rfl rfl (fun w hF => kc1 rfl rfl) rfl (ki hS rfl rfl (fun w hF => kl rfl) rfl (kC (b := true) (t := 125) hS rfl rfl rfl rfl rfl rfl (kC (b := true) (t := 125) hS rfl rfl rfl rfl rfl rfl (lxE_gskipL (b := true) (t := 125) hS rfl rfl rfl rfl rfl rfl ?_)))))
    refine kC (b := true) (t := 125) hS rfl rfl rfl rfl rfl rfl (kC (b := true) (t := 125) hS rfl rfl rfl rfl rfl rfl (lxE_gskipL (b := true) (t := 125) hS rfl rfl rfl rfl rfl rfl ?_))
    refine kC (b := true) (t := 125) hS rfl rfl rfl rfl rfl rfl (ki hS rfl rfl (fun w hF => kc1 rfl rfl) rfl (ki hS rfl rfl (fun w hF => kl rfl) rfl (kC (b := true) (t := 134) hS rfl rfl rfl rfl rfl rfl (kC (b := true) (t := 134) hS rfl rfl rfl rfl rfl rfl (lxE_gskipL (b := true) (t := 134) hS rfl rfl rfl rfl rfl rfl ?_)))))
    refine kC (b := true) (t := 134) hS rfl rfl rfl rfl rfl rfl (ki hS rfl rfl (fun w hF => kc1 rfl rfl) rfl (ki hS rfl rfl (fun w hF => kl rfl) rfl (kC (b := true) (t := 140) hS rfl rfl rfl rfl rfl rfl (kC (b := true) (t := 140) hS rfl rfl rfl rfl rfl rfl (lxE_gskipL (b := true) (t := 140) hS rfl rfl rfl rfl rfl rfl ?_)))))
    refine kC (b := true) (t := 140) hS rfl rfl rfl rfl rfl rfl (ki hS rfl rfl (fun w hF => kc1 rfl rfl) rfl (kX hS ?_))
    refine ka ?_
    replace hS := hS.pick (os' := [own e32 v_73 x_72.1, own e32 v_75 x_72.2.1] ++ [OE.bx b_77 [v_73, v_75, vB x_72.2.2.1], OE.bx b_1 [va1_0, va1_1, vB a1_2], OE.bx b_3 [va2_0, va2_1, vB a2_2], OE.bx b_12 [slV v_6 e32.sz 0 x_5.1.2, slV v_9 e32.sz 0 x_5.2.1.2, vB x_5.2.2], own e32 v_6 x_5.1.1, own e32 v_9 x_5.2.1.1, OE.bx b_21 [slV v_15 e32.sz 0 x_14.1.2, slV v_18 e32.sz 0 x_14.2.1.2, vB x_14.2.2], own e32 v_15 x_14.1.1, own e32 v_18 x_14.2.1.1, OE.bx b_28 [v_24, v_26, vB x_23.2.2.1], OE.bx b_35 [v_31, v_33, vB x_30.2.2.1], OE.bx b_42 [v_38, v_40, vB x_37.2.2.1], OE.bx b_49 [v_45, v_47, vB x_44.2.2.1], OE.bx b_57 [u0_52_0, u0_52_1, vB x_51.2.2.1]]) [1, 2, 0, 3, 4, 5, 6, 7, 8, 9, 10, 11, 12, 13, 14, 15] (by decide) rfl
    obtain ⟨S_85, wb_86, hZ, hA, hP, hS⟩ := hZ.frzT hTT hA hP hS
    exact km _ (by exact ⟨rfl, rfl, rfl, rfl, rfl, trivial⟩) (hK_110 true _ _ ⟨rfl, (SfT.mk' hZ (Rds.cons (hA.nth 3 rfl) (Rds.cons (hA.nth 2 rfl) Rds.nil)) (Off.cons (hP.nth 3 rfl) (Off.cons (hP.nth 2 rfl) Off.nil)) (hS.pick [2, 3, 4, 5, 6, 7, 8] (by decide) rfl))⟩ h)
   case false =>
    have h := if_f h hb_84
    try simp only [hb_84]
    refine ka1 (t := 113) hS rfl rfl rfl rfl (fun w hF => kG (us := [v_73, v_75, vB x_72.2.2.1]) Tryz.underlying27 rfl sz27 rfl (hF.bxs 0 rfl rfl)) rfl (ka1 (t := 113) hS rfl rfl rfl rfl (fun w hF => kG (us := [v_45, v_47, vB x_44.2.2.1]) Tryz.underlying27 rfl sz27 rfl (hF.bxs 14 rfl rfl)) rfl ?_)
    obtain ⟨x_87, hx_87, h⟩ := kf h
    refine lxE_gcall (t := 113) hS rfl rfl rfl rfl (by kernel_rfl) rfl (c_law11_same _ x_72.1 x_72.2.1 x_72.2.2.1 x_44.1 x_44.2.1 x_44.2.2.1 v_73 v_75 v_45 v_47  (hS.ro 1 rfl).rp (hS.ro 2 rfl).rp ((hA.rp 6 rfl).now hS.fr).rp ((hA.rp 7 rfl).now hS.fr).rp _ hx_87) rfl ?_
    rintro _ w ⟨rfl, hS1⟩
    have hS := hS.call hS1
    refine ka1 (t := 113) hS rfl rfl rfl rfl (fun w hF => kb1 rfl (u_not x_87)) rfl (ki hS rfl rfl (fun w hF => kd1 rfl rfl) rfl (ki hS rfl rfl (fun w hF => kl rfl) rfl ?_))
    cases hb_88 : (!x_87)
    case true =>
     have h := if_t h hb_88
     try simp only [hb_88]
     refine kC (b := true) (t := 119) hS rfl rfl rfl rfl rfl rfl (kC (b := true) (t := 119) hS rfl rfl rfl rfl rfl rfl (lxE_gskipL (b := true) (t := 119) hS rfl rfl rfl rfl rfl rfl ?_))
     refine kC (b := true) (t := 119) hS rfl rfl rfl rfl rfl rfl (ki hS rfl rfl (fun w hF => kc1 rfl rfl) rfl (ki hS rfl rfl (fun w hF => kl rfl) rfl (kC (b := true) (t := 125) hS rfl rfl rfl rfl rfl rfl (kC (b := true) (t := 125) hS rfl rfl rfl rfl rfl rfl (lxE_gskipL (b := true) (t := 125) hS rfl rfl rfl rfl rfl rfl ?_)))))
     refine kC (b := true) (t := 125) hS rfl rfl rfl rfl rfl rfl (kC (b := true) (t := 125) hS rfl rfl rfl rfl rfl rfl (lxE_gskipL (b := true) (t := 125) hS rfl rfl rfl rfl rfl rfl ?_))
     refine kC (b := true) (t := 125) hS rfl rfl rfl rfl rfl rfl (ki hS rfl rfl (fun w hF => kc1 rfl rfl) rfl (ki hS rfl rfl (fun w hF => kl rfl) rfl (kC (b := true) (t := 134) hS rfl rfl rfl rfl rfl rfl (kC (b := true) (t := 134) hS rfl rfl rfl rfl rfl rfl (lxE_gskipL (b := true) (t := 134) hS rfl rfl rfl rfl rfl rfl ?_)))))
     refine kC (b := true) (t := 134) hS rfl rfl rfl rfl rfl rfl (ki hS rfl rfl (fun w hF => kc1 rfl rfl) rfl (ki hS rfl rfl (fun w hF => kl rfl) rfl (kC (b := true) (t := 140) hS rfl rfl rfl rfl rfl rfl (kC (b := true) (t := 140) hS rfl rfl rfl rfl rfl rfl (lxE_gskipL (b := true) (t := 140) hS rfl rfl rfl rfl rfl rfl ?_)))))
     refine kC (b := true) (t := 140) hS rfl rfl rfl rfl rfl rfl (ki hS rfl rfl (fun w hF => kc1 rfl rfl) rfl (kX hS ?_))
     refine ka ?_
     replace hS := hS.pick (os' := [own e32 v_73 x_72.1, own e32 v_75 x_72.2.1] ++ [OE.bx b_77 [v_73, v_75, vB x_72.2.2.1], OE.bx b_1 [va1_0, va1_1, vB a1_2], OE.bx b_3 [va2_0, va2_1, vB a2_2], OE.bx b_12 [slV v_6 e32.sz 0 x_5.1.2, slV v_9 e32.sz 0 x_5.2.1.2, vB x_5.2.2], own e32 v_6 x_5.1.1, own e32 v_9 x_5.2.1.1, OE.bx b_21 [slV v_15 e32.sz 0 x_14.1.2, slV v_18 e32.sz 0 x_14.2.1.2, vB x_14.2.2], own e32 v_15 x_14.1.1, own e32 v_18 x_14.2.1.1, OE.bx b_28 [v_24, v_26, vB x_23.2.2.1], OE.bx b_35 [v_31, v_33, vB x_30.2.2.1], OE.bx b_42 [v_38, v_40, vB x_37.2.2.1], OE.bx b_49 [v_45, v_47, vB x_44.2.2.1], OE.bx b_57 [u0_52_0, u0_52_1, vB x_51.2.2.1]]) [1, 2, 0, 3, 4, 5, 6, 7, 8, 9, 10, 11, 12, 13, 14, 15] (by decide) rfl
     obtain ⟨S_89, wb_90, hZ, hA, hP, hS⟩ := hZ.frzT hTT hA hP hS
     exact km _ (by exact ⟨rfl, rfl, rfl, rfl, rfl, trivial⟩) (hK_110 true _ _ ⟨rfl, (SfT.mk' hZ (Rds.cons (hA.nth 3 rfl) (Rds.cons (hA.nth 2 rfl) Rds.nil)) (Off.cons (hP.nth 3 rfl) (Off.cons (hP.nth 2 rfl) Off.nil)) (hS.pick [2, 3, 4, 5, 6, 7, 8] (by decide) rfl))⟩ h)
    case false =>
     have h := if_f h hb_88
     try simp only [hb_88]
     refine ka1 (t := 119) hS rfl rfl rfl rfl (fun w hF => kG (us := [v_38, v_40, vB x_37.2.2.1]) Tryz.underlying27 rfl sz27 rfl (hF.bxs 13 rfl rfl)) rfl (ka1 (t := 119) hS rfl rfl rfl rfl (fun w hF => kG (us := [u0_52_0, u0_52_1, vB x_51.2.2.1]) Tryz.underlying27 rfl sz27 rfl (hF.bxs 15 rfl rfl)) rfl ?_)
     obtain ⟨x_91, hx_91, h⟩ := kf h
     refine lxE_gcall (t := 119) hS rfl rfl rfl rfl (by kernel_rfl) rfl (c_law11_same _ x_37.1 x_37.2.1 x_37.2.2.1 x_51.1 x_51.2.1 x_51.2.2.1 v_38 v_40 u0_52_0 u0_52_1  ((hA.rp 4 rfl).now hS.fr).rp ((hA.rp 5 rfl).now hS.fr).rp ((hA.rp 8 rfl).now hS.fr).rp ((hA.rp 9 rfl).now hS.fr).rp _ hx_91) rfl ?_
     rintro _ w ⟨rfl, hS1⟩
     have hS := hS.call hS1
     refine ka1 (t := 119) hS rfl rfl rfl rfl (fun w hF => kb1 rfl (u_not x_91)) rfl (ki hS rfl rfl (fun w hF => kd1 rfl rfl) rfl (ki hS rfl rfl (fun w hF => kl rfl) rfl ?_))
     cases hb_92 : (!x_91)
     case true =>
      have h := if_t h hb_92
      try simp only [hb_92]
      refine kC (b := true) (t := 125) hS rfl rfl rfl rfl rfl rfl (kC (b := true) (t := 125) hS rfl rfl rfl rfl rfl rfl (lxE_gskipL (b := true) (t := 125) hS rfl rfl rfl rfl rfl rfl ?_))
      refine kC (b := true) (t := 125) hS rfl rfl rfl rfl rfl rfl (kC (b := true) (t := 125) hS rfl rfl rfl rfl rfl rfl (lxE_gskipL (b := true) (t := 125) hS rfl rfl rfl rfl rfl rfl ?_))
      refine kC (b := true) (t := 125) hS rfl rfl rfl rfl rfl rfl (ki hS rfl rfl (fun w hF => kc1 rfl rfl) rfl (ki hS rfl rfl (fun w hF => kl rfl) rfl (kC (b := true) (t := 134) hS rfl rfl rfl rfl rfl rfl (kC (b := true) (t := 134) hS rfl rfl rfl rfl rfl rfl (lxE_gskipL (b := true) (t := 134) hS rfl rfl rfl rfl rfl rfl ?_)))))
      refine kC (b := true) (t := 134) hS rfl rfl rfl rfl rfl rfl (ki hS rfl rfl (fun w hF => kc1 rfl rfl) rfl (ki hS rfl rfl (fun w hF => kl rfl) rfl (kC (b := true) (t := 140) hS rfl rfl rfl rfl rfl rfl (kC (b := true) (t := 140) hS rfl rfl rfl rfl rfl rfl (lxE_gskipL (b := true) (t := 140) hS rfl rfl rfl rfl rfl rfl ?_)))))
      refine kC (b := true) (t := 140) hS rfl rfl rfl rfl rfl rfl (ki hS rfl rfl (fun w hF => kc1 rfl rfl) rfl (kX hS ?_))
      refine ka ?_
      replace hS := hS.pick (os' := [own e32 v_73 x_72.1, own e32 v_75 x_72.2.1] ++ [OE.bx b_77 [v_73, v_75, vB x_72.2.2.1], OE.bx b_1 [va1_0, va1_1, vB a1_2], OE.bx b_3 [va2_0, va2_1, vB a2_2], OE.bx b_12 [slV v_6 e32.sz 0 x_5.1.2, slV v_9 e32.sz 0 x_5.2.1.2, vB x_5.2.2], own e32 v_6 x_5.1.1, own e32 v_9 x_5.2.1.1, OE.bx b_21 [slV v_15 e32.sz 0 x_14.1.2, slV v_18 e32.sz 0 x_14.2.1.2, vB x_14.2.2], own e32 v_15 x_14.1.1, own e32 v_18 x_14.2.1.1, OE.bx b_28 [v_24, v_26, vB x_23.2.2.1], OE.bx b_35 [v_31, v_33, vB x_30.2.2.1], OE.bx b_42 [v_38, v_40, vB x_37.2.2.1], OE.bx b_49 [v_45, v_47, vB x_44.2.2.1], OE.bx b_57 [u0_52_0, u0_52_1, vB x_51.2.2.1]]) [1, 2, 0, 3, 4, 5, 6, 7, 8, 9, 10, 11, 12, 13, 14, 15] (by decide) rfl
      obtain ⟨S_93, wb_94, hZ, hA, hP, hS⟩ := hZ.frzT hTT hA hP hS
      exact km _ (by exact ⟨rfl, rfl, rfl, rfl, rfl, trivial⟩) (hK_110 true _ _ ⟨rfl, (SfT.mk' hZ (Rds.cons (hA.nth 3 rfl) (Rds.cons (hA.nth 2 rfl) Rds.nil)) (Off.cons (hP.nth 3 rfl) (Off.cons (hP.nth 2 rfl) Off.nil)) (hS.pick [2, 3, 4, 5, 6, 7, 8] (by decide) rfl))⟩ h)
     case false =>
      have h := if_f h hb_92
      try simp only [hb_92]
      refine ka1 (t := 125) hS rfl rfl rfl rfl (fun w hF => kl rfl) rfl (ka1 (t := 125) hS rfl rfl rfl rfl (fun w hF => kG (us := [slV v_6 e32.sz 0 x_5.1.2, slV v_9 e32.sz 0 x_5.2.1.2, vB x_5.2.2]) Tryz.underlying27 rfl sz27 rfl (hF.bxs 5 rfl rfl)) rfl ?_)
      obtain ⟨x_95, hx_95, h⟩ := kf h
      refine lxE_gcall (t := 125) hS rfl rfl rfl rfl (by kernel_rfl) rfl (c_curve_On _ a0 (x_5.1.1.take x_5.1.2) (x_5.2.1.1.take x_5.2.1.2) x_5.2.2 (slV v_6 e32.sz 0 x_5.1.2) (slV v_9 e32.sz 0 x_5.2.1.2)  ((hS.ro 6 rfl).tk hk_8).rp ((hS.ro 7 rfl).tk hk_11).rp _ hx_95) rfl ?_
      rintro _ w ⟨rfl, hS1⟩
      have hS := hS.call hS1
      refine ka1 (t := 125) hS rfl rfl rfl rfl (fun w hF => kl rfl) rfl (ka1 (t := 125) hS rfl rfl rfl rfl (fun w hF => kG (us := [va1_0, va1_1, vB a1_2]) Tryz.underlying27 rfl sz27 rfl (hF.bxs 3 rfl rfl)) rfl ?_)
      obtain ⟨x_96, hx_96, h⟩ := kf h
      refine lxE_gcall (t := 125) hS rfl rfl rfl rfl (by kernel_rfl) rfl (c_ref11_On _ a0 a1_0 a1_1 a1_2 va1_0 va1_1  ((hA.rp 0 rfl).now hS.fr).rp ((hA.rp 1 rfl).now hS.fr).rp _ hx_96) rfl ?_
      rintro _ w ⟨rfl, hS1⟩
      have hS := hS.call hS1
      refine ka1 (t := 125) hS rfl rfl rfl rfl (fun w hF => kr rfl rfl (b_bneq _ x_95 x_96 Tryz.underlying4 rfl)) rfl (ki hS rfl rfl (fun w hF => kd1 rfl rfl) rfl (ki hS rfl rfl (fun w hF => kl rfl) rfl ?_))
      cases hb_97 : (x_95 != x_96)
      case true =>
       have h := if_t h hb_97
       try simp only [hb_97]
       refine kC (b := true) (t := 134) hS rfl rfl rfl rfl rfl rfl (kC (b := true) (t := 134) hS rfl rfl rfl rfl rfl rfl (lxE_gskipL (b := true) (t := 134) hS rfl rfl rfl rfl rfl rfl ?_))
       refine kC (b := true) (t := 134) hS rfl rfl rfl rfl rfl rfl (ki hS rfl rfl (fun w hF => kc1 rfl rfl) rfl (ki hS rfl rfl (fun w hF => kl rfl) rfl (kC (b := true) (t := 140) hS rfl rfl rfl rfl rfl rfl (kC (b := true) (t := 140) hS rfl rfl rfl rfl rfl rfl (lxE_gskipL (b := true) (t := 140) hS rfl rfl rfl rfl rfl rfl ?_)))))
       refine kC (b := true) (t := 140) hS rfl rfl rfl rfl rfl rfl (ki hS rfl rfl (fun w hF => kc1 rfl rfl) rfl (kX hS ?_))
       refine ka ?_
       replace hS := hS.pick (os' := [own e32 v_73 x_72.1, own e32 v_75 x_72.2.1] ++ [OE.bx b_77 [v_73, v_75, vB x_72.2.2.1], OE.bx b_1 [va1_0, va1_1, vB a1_2], OE.bx b_3 [va2_0, va2_1, vB a2_2], OE.bx b_12 [slV v_6 e32.sz 0 x_5.1.2, slV v_9 e32.sz 0 x_5.2.1.2, vB x_5.2.2], own e32 v_6 x_5.1.1, own e32 v_9 x_5.2.1.1, OE.bx b_21 [slV v_15 e32.sz 0 x_14.1.2, slV v_18 e32.sz 0 x_14.2.1.2, vB x_14.2.2], own e32 v_15 x_14.1.1, own e32 v_18 x_14.2.1.1, OE.bx b_28 [v_24, v_26, vB x_23.2.2.1], OE.bx b_35 [v_31, v_33, vB x_30.2.2.1], OE.bx b_42 [v_38, v_40, vB x_37.2.2.1], OE.bx b_49 [v_45, v_47, vB x_44.2.2.1], OE.bx b_57 [u0_52_0, u0_52_1, vB x_51.2.2.1]]) [1, 2, 0, 3, 4, 5, 6, 7, 8, 9, 10, 11, 12, 13, 14, 15] (by decide) rfl
       obtain ⟨S_98, wb_99, hZ, hA, hP, hS⟩ := hZ.frzT hTT hA hP hS
       exact km _ (by exact ⟨rfl, rfl, rfl, rfl, rfl, trivial⟩) (hK_110 true _ _ ⟨rfl, (SfT.mk' hZ (Rds.cons (hA.nth 3 rfl) (Rds.cons (hA.nth 2 rfl) Rds.nil)) (Off.cons (hP.nth 3 rfl) (Off.cons (hP.nth 2 rfl) Off.nil)) (hS.pick [2, 3, 4, 5, 6, 7, 8] (by decide) rfl))⟩ h)
      case false =>
       have h := if_f h hb_97
       try simp only [hb_97]
       refine ka1 (t := 134) hS rfl rfl rfl rfl (fun w hF => kG (us := [slV v_6 e32.sz 0 x_5.1.2, slV v_9 e32.sz 0 x_5.2.1.2, vB x_5.2.2]) Tryz.underlying27 rfl sz27 rfl (hF.bxs 5 rfl rfl)) rfl ?_
       refine ka1 (t := 134) hS rfl rfl rfl rfl (fun w hF => kG (us := [va1_0, va1_1, vB a1_2]) Tryz.underlying27 rfl sz27 rfl (hF.bxs 3 rfl rfl)) rfl ?_
       obtain ⟨x_100, hx_100, h⟩ := kf h
       refine lxE_gcall (t := 134) hS rfl rfl rfl rfl (by kernel_rfl) rfl (c_law11_still _ x_5.1.1 x_5.1.2 x_5.2.1.1 x_5.2.1.2 x_5.2.2 a1_0 a1_1 a1_2 v_6 v_9 va1_0 va1_1  (hS.ro 6 rfl).rp hk_8 (hS.ro 7 rfl).rp hk_11 ((hA.rp 0 rfl).now hS.fr).rp ((hA.rp 1 rfl).now hS.fr).rp _ hx_100) rfl ?_
       rintro _ w ⟨rfl, hS1⟩
       have hS := hS.call hS1
       refine ka1 (t := 134) hS rfl rfl rfl rfl (fun w hF => kb1 rfl (u_not x_100)) rfl (ki hS rfl rfl (fun w hF => kd1 rfl rfl) rfl (ki hS rfl rfl (fun w hF => kl rfl) rfl ?_))
       cases hb_101 : (!x_100)
       case true =>
        have h := if_t h hb_101
        try simp only [hb_101]
        refine kC (b := true) (t := 140) hS rfl rfl rfl rfl rfl rfl (kC (b := true) (t := 140) hS rfl rfl rfl rfl rfl rfl (lxE_gskipL (b := true) (t := 140) hS rfl rfl rfl rfl rfl rfl ?_))
        refine kC (b := true) (t := 140) hS rfl rfl rfl rfl rfl rfl (ki hS rfl rfl (fun w hF => kc1 rfl rfl) rfl (kX hS ?_))
        refine ka ?_
        replace hS := hS.pick (os' := [own e32 v_73 x_72.1, own e32 v_75 x_72.2.1] ++ [OE.bx b_77 [v_73, v_75, vB x_72.2.2.1], OE.bx b_1 [va1_0, va1_1, vB a1_2], OE.bx b_3 [va2_0, va2_1, vB a2_2], OE.bx b_12 [slV v_6 e32.sz 0 x_5.1.2, slV v_9 e32.sz 0 x_5.2.1.2, vB x_5.2.2], own e32 v_6 x_5.1.1, own e32 v_9 x_5.2.1.1, OE.bx b_21 [slV v_15 e32.sz 0 x_14.1.2, slV v_18 e32.sz 0 x_14.2.1.2, vB x_14.2.2], own e32 v_15 x_14.1.1, own e32 v_18 x_14.2.1.1, OE.bx b_28 [v_24, v_26, vB x_23.2.2.1], OE.bx b_35 [v_31, v_33, vB x_30.2.2.1], OE.bx b_42 [v_38, v_40, vB x_37.2.2.1], OE.bx b_49 [v_45, v_47, vB x_44.2.2.1], OE.bx b_57 [u0_52_0, u0_52_1, vB x_51.2.2.1]]) [1, 2, 0, 3, 4, 5, 6, 7, 8, 9, 10, 11, 12, 13, 14, 15] (by decide) rfl
        obtain ⟨S_102, wb_103, hZ, hA, hP, hS⟩ := hZ.frzT hTT hA hP hS
        exact km _ (by exact ⟨rfl, rfl, rfl, rfl, rfl, trivial⟩) (hK_110 true _ _ ⟨rfl, (SfT.mk' hZ (Rds.cons (hA.nth 3 rfl) (Rds.cons (hA.nth 2 rfl) Rds.nil)) (Off.cons (hP.nth 3 rfl) (Off.cons (hP.nth 2 rfl) Off.nil)) (hS.pick [2, 3, 4, 5, 6, 7, 8] (by decide) rfl))⟩ h)
       case false =>
        have h := if_f h hb_101
        try simp only [hb_101]
        refine ka1 (t := 140) hS rfl rfl rfl rfl (fun w hF => kG (us := [slV v_15 e32.sz 0 x_14.1.2, slV v_18 e32.sz 0 x_14.2.1.2, vB x_14.2.2]) Tryz.underlying27 rfl sz27 rfl (hF.bxs 8 rfl rfl)) rfl ?_
        refine ka1 (t := 140) hS rfl rfl rfl rfl (fun w hF => kG (us := [va2_0, va2_1, vB a2_2]) Tryz.underlying27 rfl sz27 rfl (hF.bxs 4 rfl rfl)) rfl ?_
        obtain ⟨x_104, hx_104, h⟩ := kf h
        refine lxE_gcall (t := 140) hS rfl rfl rfl rfl (by kernel_rfl) rfl (c_law11_still _ x_14.1.1 x_14.1.2 x_14.2.1.1 x_14.2.1.2 x_14.2.2 a2_0 a2_1 a2_2 v_15 v_18 va2_0 va2_1  (hS.ro 9 rfl).rp hk_17 (hS.ro 10 rfl).rp hk_20 ((hA.rp 2 rfl).now hS.fr).rp ((hA.rp 3 rfl).now hS.fr).rp _ hx_104) rfl ?_
        rintro _ w ⟨rfl, hS1⟩
        have hS := hS.call hS1
        refine ka1 (t := 140) hS rfl rfl rfl rfl (fun w hF => kb1 rfl (u_not x_104)) rfl (ki hS rfl rfl (fun w hF => kd1 rfl rfl) rfl (kX hS ?_))
        refine ka ?_
        replace hS := hS.pick (os' := [own e32 v_73 x_72.1, own e32 v_75 x_72.2.1] ++ [OE.bx b_77 [v_73, v_75, vB x_72.2.2.1], OE.bx b_1 [va1_0, va1_1, vB a1_2], OE.bx b_3 [va2_0, va2_1, vB a2_2], OE.bx b_12 [slV v_6 e32.sz 0 x_5.1.2, slV v_9 e32.sz 0 x_5.2.1.2, vB x_5.2.2], own e32 v_6 x_5.1.1, own e32 v_9 x_5.2.1.1, OE.bx b_21 [slV v_15 e32.sz 0 x_14.1.2, slV v_18 e32.sz 0 x_14.2.1.2, vB x_14.2.2], own e32 v_15 x_14.1.1, own e32 v_18 x_14.2.1.1, OE.bx b_28 [v_24, v_26, vB x_23.2.2.1], OE.bx b_35 [v_31, v_33, vB x_30.2.2.1], OE.bx b_42 [v_38, v_40, vB x_37.2.2.1], OE.bx b_49 [v_45, v_47, vB x_44.2.2.1], OE.bx b_57 [u0_52_0, u0_52_1, vB x_51.2.2.1]]) [1, 2, 0, 3, 4, 5, 6, 7, 8, 9, 10, 11, 12, 13, 14, 15] (by decide) rfl
        obtain ⟨S_105, wb_106, hZ, hA, hP, hS⟩ := hZ.frzT hTT hA hP hS
        exact km _ (by exact ⟨rfl, rfl, rfl, rfl, rfl, trivial⟩) (hK_110 (!x_104) _ _ ⟨rfl, (SfT.mk' hZ (Rds.cons (hA.nth 3 rfl) (Rds.cons (hA.nth 2 rfl) Rds.nil)) (Off.cons (hP.nth 3 rfl) (Off.cons (hP.nth 2 rfl) Off.nil)) (hS.pick [2, 3, 4, 5, 6, 7, 8] (by decide) rfl))⟩ h)
 rintro x_109 L w hJ h
 try dsimp only at hJ
 obtain ⟨rfl, ⟨S_107, wb_108, hZ, hA, hP, hS⟩⟩ := hJ
 unfold F.law11_CurveSums_K2 at h
 refine kn rfl (fun hb_177 => ?_) (fun hb_177 => ?_)
 ·have h := if_t h hb_177
  refine kd (kc (kb 1 rfl ?_))
  refine ke (ka (ko (ku ?_)))
  cases h
  replace hS := hZ.st hS
  exact kx rfl rfl ⟨rfl, hS.pick [] (by decide) rfl⟩
 have h := if_f h hb_177
 refine kq (ka (kd (kc (kh (kG (us := [slV v_6 e32.sz 0 x_5.1.2, slV v_9 e32.sz 0 x_5.2.1.2, vB x_5.2.2]) Tryz.underlying27 rfl sz27 rfl (hS.bxs 1 rfl rfl)) rfl (kh (kG (us := [va2_0, va2_1, vB a2_2]) Tryz.underlying27 rfl sz27 rfl (hS.bxs 0 rfl rfl)) rfl ?_)))))
 replace hS := hS.trunc (i := 2) rfl hk_8
 replace hS := hS.trunc (i := 3) rfl hk_11
 have hG := hS.pick (os' := [own e32 (slV v_6 e32.sz 0 x_5.1.2) (x_5.1.1.take x_5.1.2), own e32 (slV v_9 e32.sz 0 x_5.2.1.2) (x_5.2.1.1.take x_5.2.1.2)] ++ [OE.bx b_3 [va2_0, va2_1, vB a2_2], OE.bx b_12 [slV v_6 e32.sz 0 x_5.1.2, slV v_9 e32.sz 0 x_5.2.1.2, vB x_5.2.2], OE.bx b_21 [slV v_15 e32.sz 0 x_14.1.2, slV v_18 e32.sz 0 x_14.2.1.2, vB x_14.2.2], own e32 v_15 x_14.1.1, own e32 v_18 x_14.2.1.1]) [2, 3, 0, 1, 4, 5, 6] (by decide) rfl
 obtain ⟨x_111, hx_111, h⟩ := kf h
 refine kj (by kernel_rfl) rfl (c_law11_over _ (x_5.1.1.take x_5.1.2) (x_5.2.1.1.take x_5.2.1.2) x_5.2.2 a2_0 a2_1 a2_2 (slV v_6 e32.sz 0 x_5.1.2) (slV v_9 e32.sz 0 x_5.2.1.2) va2_0 va2_1  _ hG.give ((hA.rp 0 rfl).give (Nat.le_of_ble_eq_true rfl) hG) ((hA.rp 1 rfl).give (Nat.le_of_ble_eq_true rfl) hG) _ hx_111) rfl ?_
 rintro _ w ⟨rfl, hS1⟩
 have hS := hG.back hS1
 refine ke (ka (kd ?_))
 refine wpC_regionS (fun w' => St S_107 wb_108 w' [own e32 (slV v_6 e32.sz 0 x_5.1.2) x_111.1, own e32 (slV v_9 e32.sz 0 x_5.2.1.2) x_111.2, OE.bx b_3 [va2_0, va2_1, vB a2_2], OE.bx b_12 [slV v_6 e32.sz 0 x_5.1.2, slV v_9 e32.sz 0 x_5.2.1.2, vB x_5.2.2], OE.bx b_21 [slV v_15 e32.sz 0 x_14.1.2, slV v_18 e32.sz 0 x_14.2.1.2, vB x_14.2.2], own e32 v_15 x_14.1.1, own e32 v_18 x_14.2.1.1]) (fun i => !([2, 3].contains i)) hmix (fun _ _ _ hf => hf.2) (fun _ _ hf => hf) (by kernel_rfl) ?_
 have hS := hS.drew
 show lxE _ _ _ _ _ _ _ [0, 1, 2, 3] _ _
 refine ki hS rfl rfl (fun w hF => kG (us := [slV v_15 e32.sz 0 x_14.1.2, slV v_18 e32.sz 0 x_14.2.1.2, vB x_14.2.2]) Tryz.underlying27 rfl sz27 rfl (hF.bxs 4 rfl rfl)) rfl ?_
 refine ki hS rfl rfl (fun w hF => kl rfl) rfl ?_
 obtain ⟨x_112, hx_112, h⟩ := kf h
 refine kO hS rfl rfl (by kernel_rfl) rfl (c_ref11_Base _ a0    _ hx_112) rfl ?_
 rintro _ w ⟨v_113, v_115, rfl, hS1⟩
 have hS := hS.call hS1
 have hSc := hS
 replace hS := hS.trunc (i := 7) rfl hk_17
 replace hS := hS.trunc (i := 8) rfl hk_20
 have hG := hS.pick (os' := [own e32 (slV v_15 e32.sz 0 x_14.1.2) (x_14.1.1.take x_14.1.2), own e32 (slV v_18 e32.sz 0 x_14.2.1.2) (x_14.2.1.1.take x_14.2.1.2)] ++ [own e32 v_113 x_112.1, own e32 v_115 x_112.2.1, own e32 (slV v_6 e32.sz 0 x_5.1.2) x_111.1, own e32 (slV v_9 e32.sz 0 x_5.2.1.2) x_111.2, OE.bx b_3 [va2_0, va2_1, vB a2_2], OE.bx b_12 [slV v_6 e32.sz 0 x_5.1.2, slV v_9 e32.sz 0 x_5.2.1.2, vB x_5.2.2], OE.bx b_21 [slV v_15 e32.sz 0 x_14.1.2, slV v_18 e32.sz 0 x_14.2.1.2, vB x_14.2.2]]) [7, 8, 0, 1, 2, 3, 4, 5, 6] (by decide) rfl
 obtain ⟨x_117, hx_117, h⟩ := kf h
 refine kO (hSc.pick [2, 3, 4, 5, 6, 7, 8] (by decide) rfl) rfl rfl (by kernel_rfl) rfl (c_law11_over _ (x_14.1.1.take x_14.1.2) (x_14.2.1.1.take x_14.2.1.2) x_14.2.2 x_112.1 x_112.2.1 x_112.2.2 (slV v_15 e32.sz 0 x_14.1.2) (slV v_18 e32.sz 0 x_14.2.1.2) v_113 v_115  _ hG.give (hG.giveO 0 rfl) (hG.giveO 1 rfl) _ hx_117) rfl ?_
 rintro _ w ⟨rfl, hS1⟩
 have hS := hG.back hS1
 refine kX trivial ?_
 refine ka (kd (kc (kb 1 rfl ?_)))
 refine kh (kG (us := [slV v_6 e32.sz 0 x_5.1.2, slV v_9 e32.sz 0 x_5.2.1.2, vB x_5.2.2]) Tryz.underlying27 rfl sz27 rfl (hS.bxs 7 rfl rfl)) rfl ?_
 obtain ⟨x_118, hx_118, h⟩ := kf h
 refine kj (by kernel_rfl) rfl (c_law11_copied _ x_111.1 x_111.2 x_5.2.2 (slV v_6 e32.sz 0 x_5.1.2) (slV v_9 e32.sz 0 x_5.2.1.2)  (hS.ro 4 rfl).rp (hS.ro 5 rfl).rp _ hx_118) rfl ?_
 rintro _ w ⟨v_119, v_121, rfl, hS1⟩
 have hS := hS.call hS1
 obtain ⟨x_123, hx_123, h⟩ := kf h
 refine kj (by kernel_rfl) rfl (c_ref11_Neg _ a0 x_118.1 x_118.2.1 x_118.2.2 v_119 v_121  (hS.ro 0 rfl).rp (hS.ro 1 rfl).rp _ hx_123) rfl ?_
 rintro _ w ⟨v_124, v_126, rfl, hS1⟩
 have hS := hS.call hS1
 refine kb 3 rfl ?_
 refine kV (kD (cs := [.slice none 0 0, .slice none 0 0, vB false]) tz27 rfl hS) rfl ?_
 rintro _ w ⟨b_128, rfl, hS⟩
 refine kW (kL (i := 0) (us := [v_124, v_126, vB x_123.2.2.1]) rfl sz27 rfl rfl rfl ⟨(hS.ro 1 rfl).one, (hS.ro 2 rfl).one, rfl, trivial⟩ rfl hS) ?_
 intro w hS
 refine kb 1 rfl ?_
 refine ke (ka (kd ?_))
 obtain ⟨x_130, hx_130, h⟩ := kf h
 obtain ⟨x_135, hx_135, h⟩ := kf h
 obtain ⟨x_140, hx_140, h⟩ := kf h
 refine wpC_regionM (es := [red e32 va2_1 a2_1, red e32 va2_0 a2_0]) (os := [OE.bx b_128 [v_124, v_126, vB x_123.2.2.1], own e32 v_124 x_123.1, own e32 v_126 x_123.2.1, own e32 v_119 x_118.1, own e32 v_121 x_118.2.1, own e32 (slV v_15 e32.sz 0 x_14.1.2) x_117.1, own e32 (slV v_18 e32.sz 0 x_14.2.1.2) x_117.2, own e32 v_113 x_112.1, own e32 v_115 x_112.2.1, own e32 (slV v_6 e32.sz 0 x_5.1.2) x_111.1, own e32 (slV v_9 e32.sz 0 x_5.2.1.2) x_111.2, OE.bx b_3 [va2_0, va2_1, vB a2_2], OE.bx b_12 [slV v_6 e32.sz 0 x_5.1.2, slV v_9 e32.sz 0 x_5.2.1.2, vB x_5.2.2], OE.bx b_21 [slV v_15 e32.sz 0 x_14.1.2, slV v_18 e32.sz 0 x_14.2.1.2, vB x_14.2.2]]) (fun i => [2, 4, 5, 9, 10].contains i) (fun i => if i = 2 then some 5 else if i = 4 then some 5 else if i = 9 then some 10 else none) (fun i => if i = 10 then [5] else []) (fun i => []) (fun i => if i = 10 then [5, 9] else []) (fun i => if i = 2 then (fun h v x y => ∃ v_131 : Value, ∃ v_133 : Value, v = .agg #[v_131, v_133, vB x_130.2.2] ∧ x = [own e32 v_131 x_130.1, own e32 v_133 x_130.2.1] ∧ y = []) else if i = 4 then (fun h v x y => ∃ v_136 : Value, ∃ v_138 : Value, v = .agg #[v_136, v_138, vB x_135.2.2] ∧ x = [own e32 v_136 x_135.1, own e32 v_138 x_135.2.1] ∧ y = []) else if i = 5 then (fun h v x y => ∃ u0_141_0 : Value, ∃ u0_141_1 : Value, v = .tuple #[.agg #[u0_141_0, u0_141_1, vB x_140.2.2.1], vI x_140.2.2.2] ∧ x = [] ∧ y = [red e32 u0_141_0 x_140.1, red e32 u0_141_1 x_140.2.1]) else if i = 9 then (fun h v x y => ∃ b_146 : Nat, v = pB b_146 0 ∧ x = [OE.bx b_146 [.slice none 0 0, .slice none 0 0, vB false]] ∧ y = []) else (fun h v x y => ∃ b_146 : Nat, ∃ u0_141_0 : Value, ∃ u0_141_1 : Value, h = [(.tuple #[.agg #[u0_141_0, u0_141_1, vB x_140.2.2.1], vI x_140.2.2.2], [], [red e32 u0_141_0 x_140.1, red e32 u0_141_1 x_140.2.1]), (pB b_146 0, [OE.bx b_146 [.slice none 0 0, .slice none 0 0, vB false]], [])] ∧ v = undef ∧ x = [OE.bx b_146 [u0_141_0, u0_141_1, vB x_140.2.2.1]] ∧ y = [red e32 u0_141_0 x_140.1, red e32 u0_141_1 x_140.2.1])) (SfT.mk' hZ hA hP hS) (fun k hk => rfl) hTT rfl (fun i => (ite_ns (by rintro h v x y ⟨_, _, rfl, rfl, rfl⟩; exact ns_all rfl) (ite_ns (by rintro h v x y ⟨_, _, rfl, rfl, rfl⟩; exact ns_all rfl) (ite_ns (by rintro h v x y ⟨_, _, rfl, rfl, rfl⟩; exact ns_all rfl) (ite_ns (by rintro h v x y ⟨_, rfl, rfl, rfl⟩; exact ns_all rfl) (by rintro h v x y ⟨_, _, _, _, rfl, rfl, rfl⟩; exact ns_all rfl)))))) hmix (by kernel_rfl) (by kernel_rfl) ?_
 show lxME _ _ _ _ _ _ _ _ _ _ _ _ _ _ _ [0, 1, 2, 3, 4, 5, 6, 7, 8, 9, 10, 11] _ _
 refine lxME_v rfl rfl (fun w Sb wb hZ hA hP hF => kl rfl) rfl (lxME_v rfl rfl (fun w Sb wb hZ hA hP hF => kG (us := [slV v_6 e32.sz 0 x_5.1.2, slV v_9 e32.sz 0 x_5.2.1.2, vB x_5.2.2]) Tryz.underlying27 rfl sz27 rfl (hF.bxs 12 rfl rfl)) rfl ?_)
 refine lxME_call (fun h v x y => ∃ v_131 : Value, ∃ v_133 : Value, v = .agg #[v_131, v_133, vB x_130.2.2] ∧ x = [own e32 v_131 x_130.1, own e32 v_133 x_130.2.1] ∧ y = []) [] [] [] rfl rfl (fun h v x y => rfl) rfl rfl rfl ⟨_, _, _, undef, undef, rfl, rfl, rfl⟩ (by kernel_rfl) rfl (fun w Sl Tl hZ hTT hA hP hS => ?_) rfl ?_
 ·refine calls_ret (c_law11_copied _ x_111.1 x_111.2 x_5.2.2 (slV v_6 e32.sz 0 x_5.1.2) (slV v_9 e32.sz 0 x_5.2.1.2)  (hS.ro 9 rfl).rp (hS.ro 10 rfl).rp _ hx_130) ?_
  rintro _ w ⟨v_131, v_133, rfl, hS1⟩
  have hS := hS.call hS1
  exact ⟨_, _, ⟨v_131, v_133, rfl, rfl, rfl⟩, SfT.mk' hZ Rds.nil Off.nil hS⟩
 rintro v_q x_q y_q ⟨v_131, v_133, rfl, rfl, rfl⟩
 refine lxME_v rfl rfl (fun w Sb wb hZ hA hP hF => kG (us := [slV v_15 e32.sz 0 x_14.1.2, slV v_18 e32.sz 0 x_14.2.1.2, vB x_14.2.2]) Tryz.underlying27 rfl sz27 rfl (hF.bxs 13 rfl rfl)) rfl ?_
 refine lxME_call (fun h v x y => ∃ v_136 : Value, ∃ v_138 : Value, v = .agg #[v_136, v_138, vB x_135.2.2] ∧ x = [own e32 v_136 x_135.1, own e32 v_138 x_135.2.1] ∧ y = []) [] [] [] rfl rfl (fun h v x y => rfl) rfl rfl rfl ⟨_, _, _, undef, undef, rfl, rfl, rfl⟩ (by kernel_rfl) rfl (fun w Sl Tl hZ hTT hA hP hS => ?_) rfl ?_
 ·refine calls_ret (c_law11_copied _ x_117.1 x_117.2 x_14.2.2 (slV v_15 e32.sz 0 x_14.1.2) (slV v_18 e32.sz 0 x_14.2.1.2)  (hS.ro 5 rfl).rp (hS.ro 6 rfl).rp _ hx_135) ?_
  rintro _ w ⟨v_136, v_138, rfl, hS1⟩
  have hS := hS.call hS1
  exact ⟨_, _, ⟨v_136, v_138, rfl, rfl, rfl⟩, SfT.mk' hZ Rds.nil Off.nil hS⟩
 rintro v_q x_q y_q ⟨v_136, v_138, rfl, rfl, rfl⟩
 refine lxME_call (fun h v x y => ∃ u0_141_0 : Value, ∃ u0_141_1 : Value, v = .tuple #[.agg #[u0_141_0, u0_141_1, vB x_140.2.2.1], vI x_140.2.2.2] ∧ x = [] ∧ y = [red e32 u0_141_0 x_140.1, red e32 u0_141_1 x_140.2.1]) [] [own e32 v_131 x_130.1, own e32 v_133 x_130.2.1, own e32 v_136 x_135.1, own e32 v_138 x_135.2.1] [] rfl rfl (fun h v x y => rfl) rfl rfl rfl ⟨_, _, _, undef, undef, rfl, rfl, rfl⟩ (by kernel_rfl) rfl (fun w Sl Tl hZ hTT hA hP hS => ?_) rfl ?_
 ·replace hS := hS.pick (os' := [own e32 v_131 x_130.1, own e32 v_133 x_130.2.1, own e32 v_136 x_135.1, own e32 v_138 x_135.2.1] ++ [OE.bx b_128 [v_124, v_126, vB x_123.2.2.1], own e32 v_124 x_123.1, own e32 v_126 x_123.2.1, own e32 v_119 x_118.1, own e32 v_121 x_118.2.1, own e32 (slV v_15 e32.sz 0 x_14.1.2) x_117.1, own e32 (slV v_18 e32.sz 0 x_14.2.1.2) x_117.2, own e32 v_113 x_112.1, own e32 v_115 x_112.2.1, own e32 (slV v_6 e32.sz 0 x_5.1.2) x_111.1, own e32 (slV v_9 e32.sz 0 x_5.2.1.2) x_111.2, OE.bx b_3 [va2_0, va2_1, vB a2_2], OE.bx b_12 [slV v_6 e32.sz 0 x_5.1.2, slV v_9 e32.sz 0 x_5.2.1.2, vB x_5.2.2], OE.bx b_21 [slV v_15 e32.sz 0 x_14.1.2, slV v_18 e32.sz 0 x_14.2.1.2, vB x_14.2.2]]) [0, 1, 2, 3, 4, 5, 6, 7, 8, 9, 10, 11, 12, 13, 14, 15, 16, 17] (by decide) rfl
  obtain ⟨hZ, hA, hP, hS⟩ := hZ.frzK hTT hA hP hS
  refine calls_ret (c_ref11_Add _ a0 x_130.1 x_130.2.1 x_130.2.2 x_135.1 x_135.2.1 x_135.2.2 v_131 v_133 v_136 v_138  _ (hZ.okT hTT hS) (hA.rpT hP 5 rfl) (hA.rpT hP 4 rfl) (hA.rpT hP 3 rfl) (hA.rpT hP 2 rfl) _ hx_140) ?_
  rintro _ w ⟨u0_141_0, u0_141_1, rfl, hS1, hR1⟩
  obtain ⟨S_144, wb_145, hZ, hA, hP, hS⟩ := hZ.callK hA hP hS hS1 hR1 rfl
  exact ⟨_, _, ⟨u0_141_0, u0_141_1, rfl, rfl, rfl⟩, SfT.mk' hZ (Rds.cons (hA.nth 6 rfl) (Rds.cons (hA.nth 7 rfl) Rds.nil)) (Off.cons (hP.nth 6 rfl) (Off.cons (hP.nth 7 rfl) Off.nil)) hS⟩
 rintro v_q x_q y_q ⟨u0_141_0, u0_141_1, rfl, rfl, rfl⟩
 refine lxME_v rfl rfl (fun w Sb wb hZ hA hP hF => kl rfl) rfl (lxME_v rfl rfl (fun w Sb wb hZ hA hP hF => kU rfl rfl) rfl (lxME_v rfl rfl (fun w Sb wb hZ hA hP hF => kU rfl rfl) rfl ?_))
 refine lxME_new (fun h v x y => ∃ b_146 : Nat, v = pB b_146 0 ∧ x = [OE.bx b_146 [.slice none 0 0, .slice none 0 0, vB false]] ∧ y = []) [] [] [] rfl rfl (fun h v x y => rfl) rfl rfl rfl ⟨_, _, _, 0, rfl, rfl, rfl⟩ (fun w Sl Tl hZ hTT hA hP hS => ?_) rfl ?_
 ·refine opx_imp (kD (cs := [.slice none 0 0, .slice none 0 0, vB false]) tz27 rfl hS) ?_
  rintro _ w ⟨b_146, rfl, hS⟩
  exact ⟨_, _, ⟨b_146, rfl, rfl, rfl⟩, SfT.mk' hZ Rds.nil Off.nil hS⟩
 rintro v_q x_q y_q ⟨b_146, rfl, rfl, rfl⟩
 refine lxME_y (fun h v x y => ∃ b_146 : Nat, ∃ u0_141_0 : Value, ∃ u0_141_1 : Value, h = [(.tuple #[.agg #[u0_141_0, u0_141_1, vB x_140.2.2.1], vI x_140.2.2.2], [], [red e32 u0_141_0 x_140.1, red e32 u0_141_1 x_140.2.1]), (pB b_146 0, [OE.bx b_146 [.slice none 0 0, .slice none 0 0, vB false]], [])] ∧ v = undef ∧ x = [OE.bx b_146 [u0_141_0, u0_141_1, vB x_140.2.2.1]] ∧ y = [red e32 u0_141_0 x_140.1, red e32 u0_141_1 x_140.2.1]) [(.tuple #[.agg #[u0_141_0, u0_141_1, vB x_140.2.2.1], vI x_140.2.2.2], [], [red e32 u0_141_0 x_140.1, red e32 u0_141_1 x_140.2.1]), (pB b_146 0, [OE.bx b_146 [.slice none 0 0, .slice none 0 0, vB false]], [])] [OE.bx b_146 [.slice none 0 0, .slice none 0 0, vB false]] [red e32 u0_141_0 x_140.1, red e32 u0_141_1 x_140.2.1] rfl rfl (fun h v x y => rfl) rfl rfl rfl ⟨_, _, _, b_146, u0_141_0, u0_141_1, rfl, rfl, rfl, rfl⟩ (fun w Sl Tl hZ hTT hA hP hS => ?_) ?_
 ·refine opy_imp (kL (i := 0) (us := [u0_141_0, u0_141_1, vB x_140.2.2.1]) rfl sz27 rfl rfl rfl ⟨((hA.rp 3 rfl).now hS.fr).one, ((hA.rp 2 rfl).now hS.fr).one, rfl, trivial⟩ rfl hS) ?_
  intro w hS
  exact ⟨_, _, ⟨b_146, u0_141_0, u0_141_1, rfl, rfl, rfl, rfl⟩, SfT.mk' hZ (Rds.cons (hA.nth 3 rfl) (Rds.cons (hA.nth 2 rfl) Rds.nil)) (Off.cons (hP.nth 3 rfl) (Off.cons (hP.nth 2 rfl) Off.nil)) hS⟩
 rintro v_q x_q y_q ⟨b_146', u0_141_0', u0_141_1', hh, rfl, rfl, rfl⟩
 replace hh : ([(.tuple #[.agg #[u0_141_0, u0_141_1, vB x_140.2.2.1], vI x_140.2.2.2], [], [red e32 u0_141_0 x_140.1, red e32 u0_141_1 x_140.2.1]), (pB b_146 0, [OE.bx b_146 [.slice none 0 0, .slice none 0 0, vB false]], [])] : List Th) = [(.tuple #[.agg #[u0_141_0', u0_141_1', vB x_140.2.2.1], vI x_140.2.2.2], [], [red e32 u0_141_0' x_140.1, red e32 u0_141_1' x_140.2.1]), (pB b_146' 0, [OE.bx b_146' [.slice none 0 0, .slice none 0 0, vB false]], [])] := hh
 cases hh
 refine lxME_v rfl rfl (fun w Sb wb hZ hA hP hF => kz rfl) rfl (lxME_nil fun w hQ => ?_)
 obtain ⟨S_148, wb_149, hZ, hA, hP, hS⟩ := hQ
 refine ka (kd (kc (kb 1 rfl ?_)))
 refine kh (kG (us := [slV v_6 e32.sz 0 x_5.1.2, slV v_9 e32.sz 0 x_5.2.1.2, vB x_5.2.2]) Tryz.underlying27 rfl sz27 rfl (hS.bxs 13 rfl rfl)) rfl ?_
 obtain ⟨x_150, hx_150, h⟩ := kf h
 refine kj (by kernel_rfl) rfl (c_law11_copied _ x_111.1 x_111.2 x_5.2.2 (slV v_6 e32.sz 0 x_5.1.2) (slV v_9 e32.sz 0 x_5.2.1.2)  (hS.ro 10 rfl).rp (hS.ro 11 rfl).rp _ hx_150) rfl ?_
 rintro _ w ⟨v_151, v_153, rfl, hS1⟩
 have hS := hS.call hS1
 obtain ⟨x_155, hx_155, h⟩ := kf h
 refine kj (by kernel_rfl) rfl (c_ref11_On _ a0 x_150.1 x_150.2.1 x_150.2.2 v_151 v_153  (hS.ro 0 rfl).rp (hS.ro 1 rfl).rp _ hx_155) rfl ?_
 rintro _ w ⟨rfl, hS1⟩
 have hS := hS.call hS1
 refine kb 1 rfl ?_
 refine ke (ka (kd (kc (kb 1 rfl ?_))))
 refine kh (kG (us := [slV v_6 e32.sz 0 x_5.1.2, slV v_9 e32.sz 0 x_5.2.1.2, vB x_5.2.2]) Tryz.underlying27 rfl sz27 rfl (hS.bxs 15 rfl rfl)) rfl ?_
 obtain ⟨x_156, hx_156, h⟩ := kf h
 refine kj (by kernel_rfl) rfl (c_curve_Neg _ a0 x_111.1 x_111.2 x_5.2.2 (slV v_6 e32.sz 0 x_5.1.2) (slV v_9 e32.sz 0 x_5.2.1.2)  (hS.ro 12 rfl).rp (hS.ro 13 rfl).rp _ hx_156) rfl ?_
 rintro _ w ⟨v_157, v_159, rfl, hS1⟩
 have hS := hS.call hS1
 refine kb 3 rfl ?_
 refine kV (kD (cs := [.slice none 0 0, .slice none 0 0, vB false]) tz27 rfl hS) rfl ?_
 rintro _ w ⟨b_161, rfl, hS⟩
 refine kW (kL (i := 0) (us := [v_157, v_159, vB x_156.2.2.1]) rfl sz27 rfl rfl rfl ⟨(hS.ro 1 rfl).one, (hS.ro 2 rfl).one, rfl, trivial⟩ rfl hS) ?_
 intro w hS
 refine kb 1 rfl ?_
 refine ke (ka (kd (kc (kb 1 rfl ?_))))
 refine kh (kG (us := [slV v_6 e32.sz 0 x_5.1.2, slV v_9 e32.sz 0 x_5.2.1.2, vB x_5.2.2]) Tryz.underlying27 rfl sz27 rfl (hS.bxs 18 rfl rfl)) rfl (kh (kG (us := [slV v_15 e32.sz 0 x_14.1.2, slV v_18 e32.sz 0 x_14.2.1.2, vB x_14.2.2]) Tryz.underlying27 rfl sz27 rfl (hS.bxs 19 rfl rfl)) rfl ?_)
 obtain ⟨x_163, hx_163, h⟩ := kf h
 refine kj (by kernel_rfl) rfl (c_curve_Add _ a0 x_111.1 x_111.2 x_5.2.2 x_117.1 x_117.2 x_14.2.2 (slV v_6 e32.sz 0 x_5.1.2) (slV v_9 e32.sz 0 x_5.2.1.2) (slV v_15 e32.sz 0 x_14.1.2) (slV v_18 e32.sz 0 x_14.2.1.2)  (hS.ro 15 rfl).rp (hS.ro 16 rfl).rp (hS.ro 11 rfl).rp (hS.ro 12 rfl).rp _ hx_163) rfl ?_
 rintro _ w ⟨v_164, v_166, rfl, hS1⟩
 have hS := hS.call hS1
 refine kb 3 rfl ?_
 refine kV (kD (cs := [.slice none 0 0, .slice none 0 0, vB false]) tz27 rfl hS) rfl ?_
 rintro _ w ⟨b_168, rfl, hS⟩
 refine kW (kL (i := 0) (us := [v_164, v_166, vB x_163.2.2.1]) rfl sz27 rfl rfl rfl ⟨(hS.ro 1 rfl).one, (hS.ro 2 rfl).one, rfl, trivial⟩ rfl hS) ?_
 intro w hS
 refine kb 1 rfl ?_
 refine ke (ka (kd (kc (kh (kG (us := [v_157, v_159, vB x_156.2.2.1]) Tryz.underlying27 rfl sz27 rfl (hS.bxs 3 rfl rfl)) rfl (kh (kG (us := [v_124, v_126, vB x_123.2.2.1]) Tryz.underlying27 rfl sz27 rfl (hS.bxs 9 rfl rfl)) rfl ?_)))))
 obtain ⟨x_170, hx_170, h⟩ := kf h
 refine kj (by kernel_rfl) rfl (c_law11_same _ x_156.1 x_156.2.1 x_156.2.2.1 x_123.1 x_123.2.1 x_123.2.2.1 v_157 v_159 v_124 v_126  (hS.ro 4 rfl).rp (hS.ro 5 rfl).rp (hS.ro 10 rfl).rp (hS.ro 11 rfl).rp _ hx_170) rfl ?_
 rintro _ w ⟨rfl, hS1⟩
 have hS := hS.call hS1
 refine kb 1 rfl ?_
 cases hb_171 : x_170
 case true =>
  have h := if_t h hb_171
  try simp only [hb_171]
  refine kb 5 rfl ?_
  cases hb_172 : (x_156.2.2.2 == x_123.2.2.2)
  case true =>
   have h := if_t h hb_172
   try simp only [hb_172]
   refine kS (t := 194) rfl rfl (kG (us := [v_164, v_166, vB x_163.2.2.1]) Tryz.underlying27 rfl sz27 rfl (hS.bxs 0 rfl rfl)) rfl (kS (t := 194) rfl rfl (kG (us := [u0_141_0, u0_141_1, vB x_140.2.2.1]) Tryz.underlying27 rfl sz27 rfl (hS.bxs 8 rfl rfl)) rfl ?_)
   obtain ⟨x_173, hx_173, h⟩ := kf h
   refine wpR_gcall (t := 194) rfl rfl (by kernel_rfl) rfl (c_law11_same _ x_163.1 x_163.2.1 x_163.2.2.1 x_140.1 x_140.2.1 x_140.2.2.1 v_164 v_166 u0_141_0 u0_141_1  (hS.ro 1 rfl).rp (hS.ro 2 rfl).rp ((hA.rp 3 rfl).now hS.fr).rp ((hA.rp 2 rfl).now hS.fr).rp _ hx_173) rfl ?_
   rintro _ w ⟨rfl, hS1⟩
   have hS := hS.call hS1
   refine kb 2 rfl ?_
   cases hb_174 : x_173
   case true =>
    have h := if_t h hb_174
    try simp only [hb_174]
    refine kb 5 rfl ?_
    cases hb_175 : (x_163.2.2.2 == x_140.2.2.2)
    case true =>
     have h := if_t h hb_175
     try simp only [hb_175]
     refine kb 1 rfl ?_
     refine kS (t := 204) rfl rfl (kG (us := [slV v_6 e32.sz 0 x_5.1.2, slV v_9 e32.sz 0 x_5.2.1.2, vB x_5.2.2]) Tryz.underlying27 rfl sz27 rfl (hS.bxs 21 rfl rfl)) rfl ?_
     obtain ⟨x_176, hx_176, h⟩ := kf h
     refine wpR_gcall (t := 204) rfl rfl (by kernel_rfl) rfl (c_curve_On _ a0 x_111.1 x_111.2 x_5.2.2 (slV v_6 e32.sz 0 x_5.1.2) (slV v_9 e32.sz 0 x_5.2.1.2)  (hS.ro 18 rfl).rp (hS.ro 19 rfl).rp _ hx_176) rfl ?_
     rintro _ w ⟨rfl, hS1⟩
     have hS := hS.call hS1
     refine kb 1 rfl ?_
     refine kS (t := 204) rfl rfl (kr rfl rfl (b_beql _ x_176 x_155 Tryz.underlying4 rfl)) rfl (kb 2 rfl ?_)
     refine ke (ka (ko ?_))
     cases h
     replace hS := hZ.st hS
     exact kx rfl rfl ⟨rfl, hS.pick [] (by decide) rfl⟩
    case false =>
     have h := if_f h hb_175
     try simp only [hb_175]
     refine kb 7 rfl ?_
     refine ke (ka (ko ?_))
     cases h
     replace hS := hZ.st hS
     exact kx rfl rfl ⟨rfl, hS.pick [] (by decide) rfl⟩
   case false =>
    have h := if_f h hb_174
    try simp only [hb_174]
    refine kb 12 rfl ?_
    refine ke (ka (ko ?_))
    cases h
    replace hS := hZ.st hS
    exact kx rfl rfl ⟨rfl, hS.pick [] (by decide) rfl⟩
  case false =>
   have h := if_f h hb_172
   try simp only [hb_172]
   refine kb 17 rfl ?_
   refine ke (ka (ko ?_))
   cases h
   replace hS := hZ.st hS
   exact kx rfl rfl ⟨rfl, hS.pick [] (by decide) rfl⟩
 case false =>
  have h := if_f h hb_171
  try simp only [hb_171]
  refine kb 22 rfl ?_
  refine ke (ka (ko ?_))
  cases h
  replace hS := hZ.st hS
  exact kx rfl rfl ⟨rfl, hS.pick [] (by decide) rfl⟩
end Go.Proofs
