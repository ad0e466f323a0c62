import Derived.Test.YtpbgncmffgnohaaGreatTW0
import Derived.Test.YtpbgncmffgnohaaGreatGkFlaw11
import Derived.Test.YtpbgncmffgnohaaGreatTWcurve
import Derived.Test.YtpbgncmffgnohaaGreatTWlaw11a
import Derived.Test.YtpbgncmffgnohaaGreatTWref11
set_option linter.unusedVariables false
set_option linter.unusedSimpArgs false
set_option linter.unusedVariables false
set_option maxRecDepth 4000
namespace Go.Proofs
open Go Go.RowKit Go.Gk
theorem c_law11_CurveCodes (w0 : World) (a0 : Int) (a1 : List UInt8) (a2 : List UInt8) (a3_0 : List UInt32) (a3_1 : List UInt32) (a3_2 : Bool) (va1 : Value) (va2 : Value) (va3_0 : Value) (va3_1 : Value) (ha1 : RP [] w0 e8 va1 a1) (ha2 : RP [] w0 e8 va2 a2) (ha3_0 : RP [] w0 e32 va3_0 a3_0) (ha3_1 : RP [] w0 e32 va3_1 a3_1) (r : Bool)
  (h : F.law11_CurveCodes a0 a1 a2 a3_0 a3_1 a3_2 = some r) : Calls Tryz.prog 3 #[vI a0, va1, va2, .agg #[va3_0, va3_1, vB a3_2]] w0 (Ret fun v w => v = vB r ∧ St [] w0 w []) := by
 refine calls_at 356 Tryz.func3 rfl rfl rfl ?_
 have hS := St.start w0
 refine wpC_le [(0, vI a0), (1, va1), (2, va2), (3, .agg #[va3_0, va3_1, vB a3_2])] ⟨rfl, rfl, rfl, rfl, trivial⟩ ?_
 unfold F.law11_CurveCodes at h
 refine wpC_seq (wpC_region (wpR_x (OpX_box (cs := [va3_0, va3_1, vB a3_2]) rfl rfl hS) rfl ?_))
 rintro _ w ⟨b_1, rfl, hS⟩
 refine wpR_run 1 rfl ?_
 refine wpR_nil (QE_then_n (wpC_seq (wpC_region (wpR_v (OpV_ldBs (us := [va3_0, va3_1, vB a3_2]) Tryz.underlying27 rfl sz27 rfl (hS.bxs 0 rfl rfl)) rfl ?_))))
 obtain ⟨x_3, hx_3, h⟩ := obind_some h
 refine wpR_call (by kernel_rfl) rfl (c_law11_lent _ a3_0 a3_1 a3_2 va3_0 va3_1  (ha3_0.now hS.fr).rp (ha3_1.now hS.fr).rp _ hx_3) rfl ?_
 rintro _ w ⟨v_4, v_7, rfl, hk_6, hk_9, hS1⟩
 have hS := hS.call hS1
 simp only [List.cons_append, List.nil_append] at hS
 refine wpR_x (OpX_alloc (cs := [.slice none 0 0, .slice none 0 0, vB false]) tz27 rfl hS) rfl ?_
 rintro _ w ⟨b_10, rfl, hS⟩
 refine wpR_y (OpY_stB (i := 0) (us := [slV v_4 e32.sz 0 x_3.1.2, slV v_7 e32.sz 0 x_3.2.1.2, vB x_3.2.2]) rfl sz27 rfl rfl rfl ⟨((hS.ro 1 rfl).tk hk_6).one, ((hS.ro 2 rfl).tk hk_9).one, rfl, trivial⟩ rfl hS) ?_
 intro w hS
 replace hS : St _ _ w [OE.bx b_10 [slV v_4 e32.sz 0 x_3.1.2, slV v_7 e32.sz 0 x_3.2.1.2, vB x_3.2.2], own e32 v_4 x_3.1.1, own e32 v_7 x_3.2.1.1, OE.bx b_1 [va3_0, va3_1, vB a3_2]] := hS
 refine wpR_nil (QE_then_n (wpC_seq (wpC_region (wpR_run 1 rfl ?_))))
 obtain ⟨x_12, hx_12, h⟩ := obind_some h
 refine wpR_call (by kernel_rfl) rfl (c_law11_lentBytes _ a1 va1  (ha1.now hS.fr).rp _ hx_12) rfl ?_
 rintro _ w ⟨v_13, rfl, hk_15, hS1⟩
 have hS := hS.call hS1
 simp only [List.cons_append, List.nil_append] at hS
 refine wpR_run 1 rfl ?_
 refine wpR_nil (QE_then_n (wpC_seq (wpC_region (wpR_run 1 rfl ?_))))
 obtain ⟨x_16, hx_16, h⟩ := obind_some h
 refine wpR_call (by kernel_rfl) rfl (c_law11_lentBytes _ a2 va2  (ha2.now hS.fr).rp _ hx_16) rfl ?_
 rintro _ w ⟨v_17, rfl, hk_19, hS1⟩
 have hS := hS.call hS1
 simp only [List.cons_append, List.nil_append] at hS
 refine wpR_run 1 rfl ?_
 refine wpR_nil (QE_then_n (wpC_seq (wpC_region (wpR_run 3 rfl ?_))))
 obtain ⟨x_20, hx_20, h⟩ := obind_some h
 refine wpR_call (by kernel_rfl) rfl (c_curve_Decode _ a0 (x_12.1.take x_12.2) (x_16.1.take x_16.2) (slV v_13 e8.sz 0 x_12.2) (slV v_17 e8.sz 0 x_16.2)  ((hS.ro 1 rfl).tk hk_15).rp ((hS.ro 0 rfl).tk hk_19).rp _ hx_20) rfl ?_
 rintro _ w ⟨v_21, v_23, rfl, hS1⟩
 have hS := hS.call hS1
 simp only [List.cons_append, List.nil_append] at hS
 refine wpR_run 3 rfl ?_
 refine wpR_x (OpX_alloc (cs := [.slice none 0 0, .slice none 0 0, vB false]) tz27 rfl hS) rfl ?_
 rintro _ w ⟨b_25, rfl, hS⟩
 refine wpR_y (OpY_stB (i := 0) (us := [v_21, v_23, vB x_20.2.2.1]) rfl sz27 rfl rfl rfl ⟨(hS.ro 1 rfl).one, (hS.ro 2 rfl).one, rfl, trivial⟩ rfl hS) ?_
 intro w hS
 replace hS : St _ _ w [OE.bx b_25 [v_21, v_23, vB x_20.2.2.1], own e32 v_21 x_20.1, own e32 v_23 x_20.2.1, own e8 v_17 x_16.1, own e8 v_13 x_12.1, OE.bx b_10 [slV v_4 e32.sz 0 x_3.1.2, slV v_7 e32.sz 0 x_3.2.1.2, vB x_3.2.2], own e32 v_4 x_3.1.1, own e32 v_7 x_3.2.1.1, OE.bx b_1 [va3_0, va3_1, vB a3_2]] := hS
 refine wpR_run 1 rfl ?_
 refine wpR_nil (QE_then_n (wpC_seq (wpC_region (wpR_run 1 rfl ?_))))
 refine wpR_v (OpV_ldBs (us := [slV v_4 e32.sz 0 x_3.1.2, slV v_7 e32.sz 0 x_3.2.1.2, vB x_3.2.2]) Tryz.underlying27 rfl sz27 rfl (hS.bxs 5 rfl rfl)) rfl ?_
 obtain ⟨x_27, hx_27, h⟩ := obind_some h
 refine wpR_call (by kernel_rfl) rfl (c_curve_Encode _ a0 (x_3.1.1.take x_3.1.2) (x_3.2.1.1.take x_3.2.1.2) x_3.2.2 (slV v_4 e32.sz 0 x_3.1.2) (slV v_7 e32.sz 0 x_3.2.1.2)  ((hS.ro 6 rfl).tk hk_6).rp ((hS.ro 7 rfl).tk hk_9).rp _ hx_27) rfl ?_
 rintro _ w ⟨v_28, v_30, rfl, hS1⟩
 have hS := hS.call hS1
 simp only [List.cons_append, List.nil_append] at hS
 refine wpR_run 7 rfl ?_
 refine wpR_nil (QE_then_n (wpC_seq (wpC_region (wpR_run 3 rfl ?_))))
 obtain ⟨x_32, hx_32, h⟩ := obind_some h
 refine wpR_call (by kernel_rfl) rfl (c_curve_Decode _ a0 (x_12.1.take x_12.2) (x_16.1.take x_16.2) (slV v_13 e8.sz 0 x_12.2) (slV v_17 e8.sz 0 x_16.2)  ((hS.ro 6 rfl).tk hk_15).rp ((hS.ro 5 rfl).tk hk_19).rp _ hx_32) rfl ?_
 rintro _ w ⟨v_33, v_35, rfl, hS1⟩
 have hS := hS.call hS1
 simp only [List.cons_append, List.nil_append] at hS
 refine wpR_run 3 rfl ?_
 refine wpR_x (OpX_alloc (cs := [.slice none 0 0, .slice none 0 0, vB false]) tz27 rfl hS) rfl ?_
 rintro _ w ⟨b_37, rfl, hS⟩
 refine wpR_y (OpY_stB (i := 0) (us := [v_33, v_35, vB x_32.2.2.1]) rfl sz27 rfl rfl rfl ⟨(hS.ro 1 rfl).one, (hS.ro 2 rfl).one, rfl, trivial⟩ rfl hS) ?_
 intro w hS
 replace hS : St _ _ w [OE.bx b_37 [v_33, v_35, vB x_32.2.2.1], own e32 v_33 x_32.1, own e32 v_35 x_32.2.1, own e8 v_28 x_27.1, own e8 v_30 x_27.2.1, OE.bx b_25 [v_21, v_23, vB x_20.2.2.1], own e32 v_21 x_20.1, own e32 v_23 x_20.2.1, own e8 v_17 x_16.1, own e8 v_13 x_12.1, OE.bx b_10 [slV v_4 e32.sz 0 x_3.1.2, slV v_7 e32.sz 0 x_3.2.1.2, vB x_3.2.2], own e32 v_4 x_3.1.1, own e32 v_7 x_3.2.1.1, OE.bx b_1 [va3_0, va3_1, vB a3_2]] := hS
 refine wpR_run 1 rfl ?_
 refine wpR_nil (QE_then_n (wpC_seq (wpC_region (wpR_run 1 rfl ?_))))
 refine wpR_v (OpV_ldBs (us := [slV v_4 e32.sz 0 x_3.1.2, slV v_7 e32.sz 0 x_3.2.1.2, vB x_3.2.2]) Tryz.underlying27 rfl sz27 rfl (hS.bxs 10 rfl rfl)) rfl ?_
 obtain ⟨x_39, hx_39, h⟩ := obind_some h
 refine wpR_call (by kernel_rfl) rfl (c_curve_Encode _ a0 (x_3.1.1.take x_3.1.2) (x_3.2.1.1.take x_3.2.1.2) x_3.2.2 (slV v_4 e32.sz 0 x_3.1.2) (slV v_7 e32.sz 0 x_3.2.1.2)  ((hS.ro 11 rfl).tk hk_6).rp ((hS.ro 12 rfl).tk hk_9).rp _ hx_39) rfl ?_
 rintro _ w ⟨v_40, v_42, rfl, hS1⟩
 have hS := hS.call hS1
 simp only [List.cons_append, List.nil_append] at hS
 refine wpR_run 7 rfl ?_
 refine wpR_nil (QE_then_n (wpC_seq (wpC_region (wpR_run 3 rfl ?_))))
 obtain ⟨x_44, hx_44, h⟩ := obind_some h
 refine wpR_call (by kernel_rfl) rfl (c_ref11_Decode _ a0 a1 a2 va1 va2  (ha1.now hS.fr).rp (ha2.now hS.fr).rp _ hx_44) rfl ?_
 rintro _ w ⟨v_45, v_47, rfl, hS1⟩
 have hS := hS.call hS1
 simp only [List.cons_append, List.nil_append] at hS
 refine wpR_run 3 rfl ?_
 refine wpR_x (OpX_alloc (cs := [.slice none 0 0, .slice none 0 0, vB false]) tz27 rfl hS) rfl ?_
 rintro _ w ⟨b_49, rfl, hS⟩
 refine wpR_y (OpY_stB (i := 0) (us := [v_45, v_47, vB x_44.2.2.1]) rfl sz27 rfl rfl rfl ⟨(hS.ro 1 rfl).one, (hS.ro 2 rfl).one, rfl, trivial⟩ rfl hS) ?_
 intro w hS
 replace hS : St _ _ w [OE.bx b_49 [v_45, v_47, vB x_44.2.2.1], own e32 v_45 x_44.1, own e32 v_47 x_44.2.1, own e8 v_40 x_39.1, own e8 v_42 x_39.2.1, OE.bx b_37 [v_33, v_35, vB x_32.2.2.1], own e32 v_33 x_32.1, own e32 v_35 x_32.2.1, own e8 v_28 x_27.1, own e8 v_30 x_27.2.1, OE.bx b_25 [v_21, v_23, vB x_20.2.2.1], own e32 v_21 x_20.1, own e32 v_23 x_20.2.1, own e8 v_17 x_16.1, own e8 v_13 x_12.1, OE.bx b_10 [slV v_4 e32.sz 0 x_3.1.2, slV v_7 e32.sz 0 x_3.2.1.2, vB x_3.2.2], own e32 v_4 x_3.1.1, own e32 v_7 x_3.2.1.1, OE.bx b_1 [va3_0, va3_1, vB a3_2]] := hS
 refine wpR_run 1 rfl ?_
 refine wpR_nil (QE_then_n (wpC_seq (wpC_region (wpR_run 1 rfl ?_))))
 refine wpR_v (OpV_ldBs (us := [va3_0, va3_1, vB a3_2]) Tryz.underlying27 rfl sz27 rfl (hS.bxs 18 rfl rfl)) rfl ?_
 obtain ⟨x_51, hx_51, h⟩ := obind_some h
 refine wpR_call (by kernel_rfl) rfl (c_ref11_Encode _ a0 a3_0 a3_1 a3_2 va3_0 va3_1  (ha3_0.now hS.fr).rp (ha3_1.now hS.fr).rp _ hx_51) rfl ?_
 rintro _ w ⟨v_52, v_54, rfl, hS1⟩
 have hS := hS.call hS1
 simp only [List.cons_append, List.nil_append] at hS
 refine wpR_run 7 rfl ?_
 refine wpR_nil (QE_then_n (wpC_seq ?_))
 refine seq_join (r := r) (fun (g : Bool) L w => L = [(0, vI a0), (1, va1), (2, va2), (7, pB b_1 0), (9, pB b_10 0), (10, slV v_13 e8.sz 0 x_12.2), (11, slV v_17 e8.sz 0 x_16.2), (12, pB b_25 0), (14, v_28), (15, v_30), (17, pB b_37 0), (19, v_40), (20, v_42), (22, pB b_49 0), (24, v_52), (25, v_54), (140, vB g)] ∧ St [] w0 w [OE.bx b_1 [va3_0, va3_1, vB a3_2], OE.bx b_10 [slV v_4 e32.sz 0 x_3.1.2, slV v_7 e32.sz 0 x_3.2.1.2, vB x_3.2.2], own e32 v_4 x_3.1.1, own e32 v_7 x_3.2.1.1, own e8 v_13 x_12.1, own e8 v_17 x_16.1, OE.bx b_25 [v_21, v_23, vB x_20.2.2.1], own e32 v_21 x_20.1, own e32 v_23 x_20.2.1, own e8 v_28 x_27.1, own e8 v_30 x_27.2.1, OE.bx b_37 [v_33, v_35, vB x_32.2.2.1], own e32 v_33 x_32.1, own e32 v_35 x_32.2.1, own e8 v_40 x_39.1, own e8 v_42 x_39.2.1, OE.bx b_49 [v_45, v_47, vB x_44.2.2.1], own e32 v_45 x_44.1, own e32 v_47 x_44.2.1, own e8 v_52 x_51.1, own e8 v_54 x_51.2.1]) (F.law11_CurveCodes_K1 x_27 a1 a2 a3_0 a3_1 a3_2 x_3 x_12 x_16 x_20 x_32 x_39 x_44 x_51 a0) ?_ ?_
 rotate_left
 ·intro hK_70
  refine wpC_region (wpR_v (OpV_ldBs (us := [v_21, v_23, vB x_20.2.2.1]) Tryz.underlying27 rfl sz27 rfl (hS.bxs 12 rfl rfl)) rfl ?_)
  refine wpR_v (OpV_ldBs (us := [v_45, v_47, vB x_44.2.2.1]) Tryz.underlying27 rfl sz27 rfl (hS.bxs 2 rfl rfl)) rfl ?_
  obtain ⟨x_56, hx_56, h⟩ := obind_some h
  refine wpR_call (by kernel_rfl) rfl (c_law11_same _ x_20.1 x_20.2.1 x_20.2.2.1 x_44.1 x_44.2.1 x_44.2.2.1 v_21 v_23 v_45 v_47  (hS.ro 13 rfl).rp (hS.ro 14 rfl).rp (hS.ro 3 rfl).rp (hS.ro 4 rfl).rp _ hx_56) rfl ?_
  rintro _ w ⟨rfl, hS1⟩
  have hS := hS.call hS1
  simp only [List.cons_append, List.nil_append] at hS
  refine wpR_run 2 rfl ?_
  cases hb_57 : (!x_56)
  case true =>
   have h := if_t h hb_57
   try simp only [hb_57]
   refine wpR_run 39 rfl ?_
   refine wpR_nil (QE_then_n ?_)
   exact wpC_le _ (by exact ⟨rfl, rfl, rfl, rfl, rfl, rfl, rfl, rfl, rfl, rfl, rfl, rfl, rfl, rfl, rfl, rfl, rfl, trivial⟩) (hK_70 true _ _ ⟨rfl, (hS.pick [20, 17, 18, 19, 16, 15, 12, 13, 14, 10, 11, 7, 8, 9, 5, 6, 2, 3, 4, 0, 1] (by decide) rfl)⟩ h)
  case false =>
   have h := if_f h hb_57
   try simp only [hb_57]
   refine wpR_run 5 rfl ?_
   cases hb_58 : (x_20.2.2.2 != x_44.2.2.2)
   case true =>
    have h := if_t h hb_58
    try simp only [hb_58]
    refine wpR_run 34 rfl ?_
    refine wpR_nil (QE_then_n ?_)
    exact wpC_le _ (by exact ⟨rfl, rfl, rfl, rfl, rfl, rfl, rfl, rfl, rfl, rfl, rfl, rfl, rfl, rfl, rfl, rfl, rfl, trivial⟩) (hK_70 true _ _ ⟨rfl, (hS.pick [20, 17, 18, 19, 16, 15, 12, 13, 14, 10, 11, 7, 8, 9, 5, 6, 2, 3, 4, 0, 1] (by decide) rfl)⟩ h)
   case false =>
    have h := if_f h hb_58
    try simp only [hb_58]
    refine wpR_run 2 rfl ?_
    obtain ⟨x_59, hx_59, h⟩ := obind_some h
    refine wpR_gcall (t := 106) rfl rfl (by kernel_rfl) rfl (c_law11_sameBytes _ x_27.1 x_51.1 v_28 v_52  (hS.ro 10 rfl).rp (hS.ro 0 rfl).rp _ hx_59) rfl ?_
    rintro _ w ⟨rfl, hS1⟩
    have hS := hS.call hS1
    simp only [List.cons_append, List.nil_append] at hS
    refine wpR_run 3 rfl ?_
    cases hb_60 : (!x_59)
    case true =>
     have h := if_t h hb_60
     try simp only [hb_60]
     refine wpR_run 28 rfl ?_
     refine wpR_nil (QE_then_n ?_)
     exact wpC_le _ (by exact ⟨rfl, rfl, rfl, rfl, rfl, rfl, rfl, rfl, rfl, rfl, rfl, rfl, rfl, rfl, rfl, rfl, rfl, trivial⟩) (hK_70 true _ _ ⟨rfl, (hS.pick [20, 17, 18, 19, 16, 15, 12, 13, 14, 10, 11, 7, 8, 9, 5, 6, 2, 3, 4, 0, 1] (by decide) rfl)⟩ h)
    case false =>
     have h := if_f h hb_60
     try simp only [hb_60]
     refine wpR_run 2 rfl ?_
     obtain ⟨x_61, hx_61, h⟩ := obind_some h
     refine wpR_gcall (t := 112) rfl rfl (by kernel_rfl) rfl (c_law11_sameBytes _ x_27.2.1 x_51.2.1 v_30 v_54  (hS.ro 11 rfl).rp (hS.ro 1 rfl).rp _ hx_61) rfl ?_
     rintro _ w ⟨rfl, hS1⟩
     have hS := hS.call hS1
     simp only [List.cons_append, List.nil_append] at hS
     refine wpR_run 3 rfl ?_
     cases hb_62 : (!x_61)
     case true =>
      have h := if_t h hb_62
      try simp only [hb_62]
      refine wpR_run 22 rfl ?_
      refine wpR_nil (QE_then_n ?_)
      exact wpC_le _ (by exact ⟨rfl, rfl, rfl, rfl, rfl, rfl, rfl, rfl, rfl, rfl, rfl, rfl, rfl, rfl, rfl, rfl, rfl, trivial⟩) (hK_70 true _ _ ⟨rfl, (hS.pick [20, 17, 18, 19, 16, 15, 12, 13, 14, 10, 11, 7, 8, 9, 5, 6, 2, 3, 4, 0, 1] (by decide) rfl)⟩ h)
     case false =>
      have h := if_f h hb_62
      try simp only [hb_62]
      refine wpR_run 5 rfl ?_
      cases hb_63 : (x_27.2.2 != x_51.2.2)
      case true =>
       have h := if_t h hb_63
       try simp only [hb_63]
       refine wpR_run 17 rfl ?_
       refine wpR_nil (QE_then_n ?_)
       exact wpC_le _ (by exact ⟨rfl, rfl, rfl, rfl, rfl, rfl, rfl, rfl, rfl, rfl, rfl, rfl, rfl, rfl, rfl, rfl, rfl, trivial⟩) (hK_70 true _ _ ⟨rfl, (hS.pick [20, 17, 18, 19, 16, 15, 12, 13, 14, 10, 11, 7, 8, 9, 5, 6, 2, 3, 4, 0, 1] (by decide) rfl)⟩ h)
      case false =>
       have h := if_f h hb_63
       try simp only [hb_63]
       refine wpR_gv (t := 123) rfl rfl (OpV_ldBs (us := [slV v_4 e32.sz 0 x_3.1.2, slV v_7 e32.sz 0 x_3.2.1.2, vB x_3.2.2]) Tryz.underlying27 rfl sz27 rfl (hS.bxs 17 rfl rfl)) rfl ?_
       refine wpR_gv (t := 123) rfl rfl (OpV_ldBs (us := [va3_0, va3_1, vB a3_2]) Tryz.underlying27 rfl sz27 rfl (hS.bxs 20 rfl rfl)) rfl ?_
       obtain ⟨x_64, hx_64, h⟩ := obind_some h
       refine wpR_gcall (t := 123) rfl rfl (by kernel_rfl) rfl (c_law11_still _ x_3.1.1 x_3.1.2 x_3.2.1.1 x_3.2.1.2 x_3.2.2 a3_0 a3_1 a3_2 v_4 v_7 va3_0 va3_1  (hS.ro 18 rfl).rp hk_6 (hS.ro 19 rfl).rp hk_9 (ha3_0.now hS.fr).rp (ha3_1.now hS.fr).rp _ hx_64) rfl ?_
       rintro _ w ⟨rfl, hS1⟩
       have hS := hS.call hS1
       simp only [List.cons_append, List.nil_append] at hS
       refine wpR_run 3 rfl ?_
       cases hb_65 : (!x_64)
       case true =>
        have h := if_t h hb_65
        try simp only [hb_65]
        refine wpR_run 11 rfl ?_
        refine wpR_nil (QE_then_n ?_)
        exact wpC_le _ (by exact ⟨rfl, rfl, rfl, rfl, rfl, rfl, rfl, rfl, rfl, rfl, rfl, rfl, rfl, rfl, rfl, rfl, rfl, trivial⟩) (hK_70 true _ _ ⟨rfl, (hS.pick [20, 17, 18, 19, 16, 15, 12, 13, 14, 10, 11, 7, 8, 9, 5, 6, 2, 3, 4, 0, 1] (by decide) rfl)⟩ h)
       case false =>
        have h := if_f h hb_65
        try simp only [hb_65]
        refine wpR_run 2 rfl ?_
        obtain ⟨x_66, hx_66, h⟩ := obind_some h
        refine wpR_gcall (t := 129) rfl rfl (by kernel_rfl) rfl (c_law11_wholeBytes _ x_12.1 x_12.2 a1 v_13 va1  (hS.ro 16 rfl).rp hk_15 (ha1.now hS.fr).rp _ hx_66) rfl ?_
        rintro _ w ⟨rfl, hS1⟩
        have hS := hS.call hS1
        simp only [List.cons_append, List.nil_append] at hS
        refine wpR_run 3 rfl ?_
        cases hb_67 : (!x_66)
        case true =>
         have h := if_t h hb_67
         try simp only [hb_67]
         refine wpR_run 5 rfl ?_
         refine wpR_nil (QE_then_n ?_)
         exact wpC_le _ (by exact ⟨rfl, rfl, rfl, rfl, rfl, rfl, rfl, rfl, rfl, rfl, rfl, rfl, rfl, rfl, rfl, rfl, rfl, trivial⟩) (hK_70 true _ _ ⟨rfl, (hS.pick [20, 17, 18, 19, 16, 15, 12, 13, 14, 10, 11, 7, 8, 9, 5, 6, 2, 3, 4, 0, 1] (by decide) rfl)⟩ h)
        case false =>
         have h := if_f h hb_67
         try simp only [hb_67]
         refine wpR_run 2 rfl ?_
         obtain ⟨x_68, hx_68, h⟩ := obind_some h
         refine wpR_gcall (t := 135) rfl rfl (by kernel_rfl) rfl (c_law11_wholeBytes _ x_16.1 x_16.2 a2 v_17 va2  (hS.ro 15 rfl).rp hk_19 (ha2.now hS.fr).rp _ hx_68) rfl ?_
         rintro _ w ⟨rfl, hS1⟩
         have hS := hS.call hS1
         simp only [List.cons_append, List.nil_append] at hS
         refine wpR_run 2 rfl ?_
         refine wpR_nil (QE_then_n ?_)
         exact wpC_le _ (by exact ⟨rfl, rfl, rfl, rfl, rfl, rfl, rfl, rfl, rfl, rfl, rfl, rfl, rfl, rfl, rfl, rfl, rfl, trivial⟩) (hK_70 (!x_68) _ _ ⟨rfl, (hS.pick [20, 17, 18, 19, 16, 15, 12, 13, 14, 10, 11, 7, 8, 9, 5, 6, 2, 3, 4, 0, 1] (by decide) rfl)⟩ h)
 rintro x_69 L w hJ h
 try dsimp only at hJ
 obtain ⟨rfl, hS⟩ := hJ
 unfold F.law11_CurveCodes_K1 at h
 refine wpC_cond rfl (fun hb_257 => ?_) (fun hb_257 => ?_)
 ·have h := if_t h hb_257
  refine wpC_seq (wpC_region (wpR_run 1 rfl ?_))
  refine wpR_nil (QE_then_n (wpC_ret (QE_then_r ?_)))
  cases h
  exact QE_ret1 rfl rfl ⟨rfl, hS.pick [] (by decide) rfl⟩
 have h := if_f h hb_257
 refine wpC_skip (QE_then_n (wpC_seq (wpC_seq (wpC_region (wpR_run 1 rfl ?_)))))
 refine wpR_nil (QE_then_n (wpC_block ?_))
 refine wpC_le [(0, vI a0), (1, va1), (2, va2), (7, pB b_1 0), (9, pB b_10 0), (10, slV v_13 e8.sz 0 x_12.2), (11, slV v_17 e8.sz 0 x_16.2), (12, pB b_25 0), (14, v_28), (15, v_30), (17, pB b_37 0), (19, v_40), (20, v_42), (22, pB b_49 0), (24, v_52), (25, v_54), (27, vI 0)] ⟨rfl, rfl, rfl, rfl, rfl, rfl, rfl, rfl, rfl, rfl, rfl, rfl, rfl, rfl, rfl, rfl, rfl, trivial⟩ ?_
 refine loop_ind (F.law11_CurveCodes_L1 x_27 a1 a2 a3_0 a3_1 a3_2 x_3 x_12 x_16 x_20 x_32 x_39 x_44 x_51 a0) (fun (s : Int × List UInt8) L w => L = [(0, vI a0), (1, va1), (2, va2), (7, pB b_1 0), (9, pB b_10 0), (10, slV v_13 e8.sz 0 x_12.2), (11, slV v_17 e8.sz 0 x_16.2), (12, pB b_25 0), (14, v_28), (15, v_30), (17, pB b_37 0), (19, v_40), (20, v_42), (22, pB b_49 0), (24, v_52), (25, v_54), (27, vI s.1)] ∧ St [] w0 w [OE.bx b_1 [va3_0, va3_1, vB a3_2], OE.bx b_10 [slV v_4 e32.sz 0 x_3.1.2, slV v_7 e32.sz 0 x_3.2.1.2, vB x_3.2.2], own e32 v_4 x_3.1.1, own e32 v_7 x_3.2.1.1, own e8 v_13 x_12.1, own e8 v_17 x_16.1, OE.bx b_25 [v_21, v_23, vB x_20.2.2.1], own e32 v_21 x_20.1, own e32 v_23 x_20.2.1, own e8 v_28 s.2, own e8 v_30 x_27.2.1, OE.bx b_37 [v_33, v_35, vB x_32.2.2.1], own e32 v_33 x_32.1, own e32 v_35 x_32.2.1, own e8 v_40 x_39.1, own e8 v_42 x_39.2.1, OE.bx b_49 [v_45, v_47, vB x_44.2.2.1], own e32 v_45 x_44.1, own e32 v_47 x_44.2.1, own e8 v_52 x_51.1, own e8 v_54 x_51.2.1]) ?_ (0, x_27.1) ⟨rfl, hS⟩ h
 rintro k_256 ⟨x_71, x_72⟩ L w q_75 hI ih_74 h hk_73
 try dsimp only at hI
 obtain ⟨rfl, hS⟩ := hI
 unfold F.law11_CurveCodes_L1 at h
 refine wpC_seq (wpC_seq (wpC_region (wpR_run 2 rfl ?_)))
 refine wpR_v (OpV_len Tryz.underlying23 rfl (hS.ro 9 rfl)) rfl ?_
 refine wpR_run 1 rfl ?_
 refine wpR_nil (QE_then_n ?_)
 refine wpC_cond rfl (fun hb_255 => ?_) (fun hb_255 => ?_)
 ·have h := if_t h hb_255
  refine wpC_skip (QE_then_n (wpC_seq (wpC_block ?_)))
  refine wpC_region (wpR_run 2 rfl ?_)
  obtain ⟨x_76, hx_76, h⟩ := obind_some h
  refine wpR_v (G_ix Tryz.underlying23 ti5 rfl rfl (hS.ro 9 rfl) hx_76) rfl ?_
  refine wpR_y (G_storeE (t := 21) ti5 rfl rfl hS (i := 9) rfl hx_76 rfl) ?_
  intro w hS
  obtain ⟨x_77, hx_77, h⟩ := olet_some h
  rw [hx_77] at hS
  refine wpR_nil (QE_blk_n ?_)
  refine QE_then_n (wpC_region (wpR_run 3 rfl ?_))
  refine wpR_nil ?_
  exact QE_rnd (wpN_le _ (by exact ⟨rfl, rfl, rfl, rfl, rfl, rfl, rfl, rfl, rfl, rfl, rfl, rfl, rfl, rfl, rfl, rfl, rfl, trivial⟩) (ih_74 (wI (x_71 + 1), x_77) _ _ ⟨rfl, hS⟩ (oinl_some h hk_73)))
 have h := if_f h hb_255
 refine wpC_exit ?_
 refine QE_then_x (QE_then_x ?_)
 have h := oinr_some h hk_73
 refine QE_blk_x ?_
 refine QE_then_n (wpC_seq (wpC_seq (wpC_region (wpR_run 1 rfl ?_))))
 refine wpR_nil (QE_then_n (wpC_block ?_))
 refine wpC_le [(0, vI a0), (1, va1), (2, va2), (7, pB b_1 0), (9, pB b_10 0), (10, slV v_13 e8.sz 0 x_12.2), (11, slV v_17 e8.sz 0 x_16.2), (12, pB b_25 0), (14, v_28), (15, v_30), (17, pB b_37 0), (19, v_40), (20, v_42), (22, pB b_49 0), (24, v_52), (25, v_54), (28, vI 0)] ⟨rfl, rfl, rfl, rfl, rfl, rfl, rfl, rfl, rfl, rfl, rfl, rfl, rfl, rfl, rfl, rfl, rfl, trivial⟩ ?_
 refine loop_ind (F.law11_CurveCodes_L2 x_72 a1 a2 a3_0 a3_1 a3_2 x_3 x_12 x_16 x_20 x_32 x_39 x_44 x_51 a0) (fun (s : Int × List UInt8) L w => L = [(0, vI a0), (1, va1), (2, va2), (7, pB b_1 0), (9, pB b_10 0), (10, slV v_13 e8.sz 0 x_12.2), (11, slV v_17 e8.sz 0 x_16.2), (12, pB b_25 0), (14, v_28), (15, v_30), (17, pB b_37 0), (19, v_40), (20, v_42), (22, pB b_49 0), (24, v_52), (25, v_54), (28, vI s.1)] ∧ St [] w0 w [OE.bx b_1 [va3_0, va3_1, vB a3_2], OE.bx b_10 [slV v_4 e32.sz 0 x_3.1.2, slV v_7 e32.sz 0 x_3.2.1.2, vB x_3.2.2], own e32 v_4 x_3.1.1, own e32 v_7 x_3.2.1.1, own e8 v_13 x_12.1, own e8 v_17 x_16.1, OE.bx b_25 [v_21, v_23, vB x_20.2.2.1], own e32 v_21 x_20.1, own e32 v_23 x_20.2.1, own e8 v_28 x_72, own e8 v_30 s.2, OE.bx b_37 [v_33, v_35, vB x_32.2.2.1], own e32 v_33 x_32.1, own e32 v_35 x_32.2.1, own e8 v_40 x_39.1, own e8 v_42 x_39.2.1, OE.bx b_49 [v_45, v_47, vB x_44.2.2.1], own e32 v_45 x_44.1, own e32 v_47 x_44.2.1, own e8 v_52 x_51.1, own e8 v_54 x_51.2.1]) ?_ (0, x_27.2.1) ⟨rfl, hS⟩ h
 rintro k_254 ⟨x_78, x_79⟩ L w q_82 hI ih_81 h hk_80
 try dsimp only at hI
 obtain ⟨rfl, hS⟩ := hI
 unfold F.law11_CurveCodes_L2 at h
 refine wpC_seq (wpC_seq (wpC_region (wpR_run 2 rfl ?_)))
 refine wpR_v (OpV_len Tryz.underlying23 rfl (hS.ro 10 rfl)) rfl ?_
 refine wpR_run 1 rfl ?_
 refine wpR_nil (QE_then_n ?_)
 refine wpC_cond rfl (fun hb_253 => ?_) (fun hb_253 => ?_)
 ·have h := if_t h hb_253
  refine wpC_skip (QE_then_n (wpC_seq (wpC_block ?_)))
  refine wpC_region (wpR_run 2 rfl ?_)
  obtain ⟨x_83, hx_83, h⟩ := obind_some h
  refine wpR_v (G_ix Tryz.underlying23 ti5 rfl rfl (hS.ro 10 rfl) hx_83) rfl ?_
  refine wpR_y (G_storeE (t := 22) ti5 rfl rfl hS (i := 10) rfl hx_83 rfl) ?_
  intro w hS
  obtain ⟨x_84, hx_84, h⟩ := olet_some h
  rw [hx_84] at hS
  refine wpR_nil (QE_blk_n ?_)
  refine QE_then_n (wpC_region (wpR_run 3 rfl ?_))
  refine wpR_nil ?_
  exact QE_rnd (wpN_le _ (by exact ⟨rfl, rfl, rfl, rfl, rfl, rfl, rfl, rfl, rfl, rfl, rfl, rfl, rfl, rfl, rfl, rfl, rfl, trivial⟩) (ih_81 (wI (x_78 + 1), x_84) _ _ ⟨rfl, hS⟩ (oinl_some h hk_80)))
 have h := if_f h hb_253
 refine wpC_exit ?_
 refine QE_then_x (QE_then_x ?_)
 have h := oinr_some h hk_80
 refine QE_blk_x ?_
 refine QE_then_n (wpC_seq (wpC_region (wpR_run 2 rfl ?_)))
 have hA_86 := (hS.ro 9 rfl).tw
 replace hS := hS.twin 9 rfl
 refine wpR_nil (QE_then_n (wpC_seq (wpC_region (wpR_run 2 rfl ?_))))
 have hA_88 := (hS.ro 11 rfl).tw
 replace hS := hS.twin 11 rfl
 refine wpR_nil (QE_then_n (wpC_seq (wpC_seq (wpC_region (wpR_run 1 rfl ?_)))))
 refine wpR_nil (QE_then_n (wpC_block ?_))
 refine wpC_le [(0, vI a0), (1, va1), (2, va2), (7, pB b_1 0), (9, pB b_10 0), (10, slV v_13 e8.sz 0 x_12.2), (11, slV v_17 e8.sz 0 x_16.2), (12, pB b_25 0), (14, v_28), (15, v_30), (17, pB b_37 0), (19, v_40), (20, v_42), (22, pB b_49 0), (24, v_52), (25, v_54), (29, v_28), (30, v_30), (31, vI 0)] ⟨rfl, rfl, rfl, rfl, rfl, rfl, rfl, rfl, rfl, rfl, rfl, rfl, rfl, rfl, rfl, rfl, rfl, rfl, rfl, trivial⟩ ?_
 refine loop_ind (F.law11_CurveCodes_L3 x_72 x_79 a1 a2 a3_0 a3_1 a3_2 x_3 x_12 x_16 x_20 x_32 x_39 x_44 x_51 a0) (fun (s : List UInt8 × List UInt8 × Int) L w => ∃ (v_90 : Value) (v_93 : Value) (b_96 : Nat) (b_98 : Nat), L = [(0, vI a0), (1, va1), (2, va2), (7, pB b_1 0), (9, pB b_10 0), (10, slV v_13 e8.sz 0 x_12.2), (11, slV v_17 e8.sz 0 x_16.2), (12, pB b_25 0), (14, v_28), (15, v_30), (17, pB b_37 0), (19, v_40), (20, v_42), (22, pB b_49 0), (24, v_52), (25, v_54), (29, v_90), (30, v_93), (31, vI s.2.2)] ∧ Tw v_28 x_72 v_90 s.1 b_96 ∧ Tw v_30 x_79 v_93 s.2.1 b_98 ∧ St [] w0 w [own e8 v_90 s.1, own e8 v_93 s.2.1, OE.bx b_1 [va3_0, va3_1, vB a3_2], OE.bx b_10 [slV v_4 e32.sz 0 x_3.1.2, slV v_7 e32.sz 0 x_3.2.1.2, vB x_3.2.2], own e32 v_4 x_3.1.1, own e32 v_7 x_3.2.1.1, own e8 v_13 x_12.1, own e8 v_17 x_16.1, OE.bx b_25 [v_21, v_23, vB x_20.2.2.1], own e32 v_21 x_20.1, own e32 v_23 x_20.2.1, twE e8 v_28 x_72 b_96, twE e8 v_30 x_79 b_98, OE.bx b_37 [v_33, v_35, vB x_32.2.2.1], own e32 v_33 x_32.1, own e32 v_35 x_32.2.1, own e8 v_40 x_39.1, own e8 v_42 x_39.2.1, OE.bx b_49 [v_45, v_47, vB x_44.2.2.1], own e32 v_45 x_44.1, own e32 v_47 x_44.2.1, own e8 v_52 x_51.1, own e8 v_54 x_51.2.1]) ?_ (x_72, x_79, 0) ⟨v_28, v_30, 0, 0, rfl, hA_86, hA_88, (hS.pick [11, 12, 2, 3, 4, 5, 6, 7, 8, 9, 10, 1, 0, 13, 14, 15, 16, 17, 18, 19, 20, 21, 22] (by decide) rfl)⟩ h
 rintro k_252 ⟨x_89, x_92, x_95⟩ L w q_102 hI ih_101 h hk_100
 try dsimp only at hI
 obtain ⟨v_90, v_93, b_96, b_98, rfl, hA_97, hA_99, hS⟩ := hI
 unfold F.law11_CurveCodes_L3 at h
 refine wpC_seq (wpC_seq (wpC_region (wpR_run 2 rfl ?_)))
 refine wpR_nil (QE_then_n ?_)
 refine wpC_cond rfl (fun hb_251 => ?_) (fun hb_251 => ?_)
 ·have h := if_t h hb_251
  refine wpC_skip (QE_then_n (wpC_seq (wpC_block ?_)))
  refine wpC_seq (wpC_region (wpR_run 1 rfl ?_))
  refine wpR_x (OpX_lit (e := e8) (l := [23]) (vs := [v8 23]) Tryz.underlying23 ti5 rfl rfl rfl rfl (by decide) (by decide) hS) rfl ?_
  rintro v_103 w hS
  obtain ⟨x_105, hx_105, h⟩ := obind_some h
  refine wpR_x (G_append_tw Tryz.underlying23 ti5 rfl rfl rfl hS (i := 1) (j := 12) rfl rfl hA_97 (hS.ro 0 rfl) hx_105) rfl ?_
  rintro v_106 w ⟨b_107, hA_108, hS⟩
  refine wpR_run 1 rfl ?_
  refine wpR_nil (QE_then_n (wpC_region (wpR_run 1 rfl ?_)))
  refine wpR_x (OpX_lit (e := e8) (l := [24]) (vs := [v8 24]) Tryz.underlying23 ti5 rfl rfl rfl rfl (by decide) (by decide) hS) rfl ?_
  rintro v_110 w hS
  obtain ⟨x_112, hx_112, h⟩ := obind_some h
  refine wpR_x (G_append_tw Tryz.underlying23 ti5 rfl rfl rfl hS (i := 3) (j := 14) rfl rfl hA_99 (hS.ro 0 rfl) hx_112) rfl ?_
  rintro v_113 w ⟨b_114, hA_115, hS⟩
  refine wpR_run 1 rfl ?_
  refine wpR_nil (QE_blk_n ?_)
  refine QE_then_n (wpC_region (wpR_run 3 rfl ?_))
  refine wpR_nil ?_
  exact QE_rnd (wpN_le _ (by exact ⟨rfl, rfl, rfl, rfl, rfl, rfl, rfl, rfl, rfl, rfl, rfl, rfl, rfl, rfl, rfl, rfl, rfl, rfl, rfl, trivial⟩) (ih_101 (x_105, x_112, wI (x_95 + 1)) _ _ ⟨v_106, v_113, b_107, b_114, rfl, hA_108, hA_115, (hS.pick [2, 3, 4, 5, 6, 7, 8, 9, 10, 11, 12, 13, 14, 15, 16, 17, 18, 19, 20, 21, 22, 23, 24] (by decide) rfl)⟩ (oinl_some h hk_100)))
 have h := if_f h hb_251
 refine wpC_exit ?_
 refine QE_then_x (QE_then_x ?_)
 have h := oinr_some h hk_100
 refine QE_blk_x ?_
 refine QE_then_n (wpC_seq (wpC_seq (wpC_region (wpR_run 1 rfl ?_))))
 refine wpR_nil (QE_then_n (wpC_block ?_))
 refine wpC_le [(0, vI a0), (1, va1), (2, va2), (7, pB b_1 0), (9, pB b_10 0), (10, slV v_13 e8.sz 0 x_12.2), (11, slV v_17 e8.sz 0 x_16.2), (12, pB b_25 0), (14, v_28), (15, v_30), (17, pB b_37 0), (19, v_40), (20, v_42), (22, pB b_49 0), (24, v_52), (25, v_54), (29, v_90), (30, v_93), (32, vI 0)] ⟨rfl, rfl, rfl, rfl, rfl, rfl, rfl, rfl, rfl, rfl, rfl, rfl, rfl, rfl, rfl, rfl, rfl, rfl, rfl, trivial⟩ ?_
 refine loop_ind (F.law11_CurveCodes_L4 x_72 x_79 a1 a2 a3_0 a3_1 a3_2 x_3 x_12 x_16 x_20 x_32 x_39 x_44 x_51 x_89 x_92 a0) (fun (s : Int) L w => L = [(0, vI a0), (1, va1), (2, va2), (7, pB b_1 0), (9, pB b_10 0), (10, slV v_13 e8.sz 0 x_12.2), (11, slV v_17 e8.sz 0 x_16.2), (12, pB b_25 0), (14, v_28), (15, v_30), (17, pB b_37 0), (19, v_40), (20, v_42), (22, pB b_49 0), (24, v_52), (25, v_54), (29, v_90), (30, v_93), (32, vI s)] ∧ St [] w0 w [OE.bx b_1 [va3_0, va3_1, vB a3_2], OE.bx b_10 [slV v_4 e32.sz 0 x_3.1.2, slV v_7 e32.sz 0 x_3.2.1.2, vB x_3.2.2], own e32 v_4 x_3.1.1, own e32 v_7 x_3.2.1.1, own e8 v_13 x_12.1, own e8 v_17 x_16.1, OE.bx b_25 [v_21, v_23, vB x_20.2.2.1], own e32 v_21 x_20.1, own e32 v_23 x_20.2.1, twE e8 v_28 x_72 b_96, own e8 v_90 x_89, twE e8 v_30 x_79 b_98, own e8 v_93 x_92, OE.bx b_37 [v_33, v_35, vB x_32.2.2.1], own e32 v_33 x_32.1, own e32 v_35 x_32.2.1, own e8 v_40 x_39.1, own e8 v_42 x_39.2.1, OE.bx b_49 [v_45, v_47, vB x_44.2.2.1], own e32 v_45 x_44.1, own e32 v_47 x_44.2.1, own e8 v_52 x_51.1, own e8 v_54 x_51.2.1]) ?_ 0 ⟨rfl, (hS.pick [2, 3, 4, 5, 6, 7, 8, 9, 10, 11, 0, 12, 1, 13, 14, 15, 16, 17, 18, 19, 20, 21, 22] (by decide) rfl)⟩ h
 rintro k_250 x_117 L w q_120 hI ih_119 h hk_118
 try dsimp only at hI
 obtain ⟨rfl, hS⟩ := hI
 unfold F.law11_CurveCodes_L4 at h
 refine wpC_seq (wpC_seq (wpC_region (wpR_run 2 rfl ?_)))
 refine wpR_v (OpV_len Tryz.underlying23 rfl (hS.twro hA_97 10 9 rfl rfl)) rfl ?_
 refine wpR_run 1 rfl ?_
 refine wpR_nil (QE_then_n ?_)
 refine wpC_cond rfl (fun hb_249 => ?_) (fun hb_249 => ?_)
 ·have h := if_t h hb_249
  refine wpC_skip (QE_then_n (wpC_seq (wpC_block ?_)))
  refine seq_join (r := q_120) (fun (g : Bool) L w => L = [(0, vI a0), (1, va1), (2, va2), (7, pB b_1 0), (9, pB b_10 0), (10, slV v_13 e8.sz 0 x_12.2), (11, slV v_17 e8.sz 0 x_16.2), (12, pB b_25 0), (14, v_28), (15, v_30), (17, pB b_37 0), (19, v_40), (20, v_42), (22, pB b_49 0), (24, v_52), (25, v_54), (29, v_90), (30, v_93), (32, vI x_117), (188, vB g)] ∧ St [] w0 w [OE.bx b_1 [va3_0, va3_1, vB a3_2], OE.bx b_10 [slV v_4 e32.sz 0 x_3.1.2, slV v_7 e32.sz 0 x_3.2.1.2, vB x_3.2.2], own e32 v_4 x_3.1.1, own e32 v_7 x_3.2.1.1, own e8 v_13 x_12.1, own e8 v_17 x_16.1, OE.bx b_25 [v_21, v_23, vB x_20.2.2.1], own e32 v_21 x_20.1, own e32 v_23 x_20.2.1, twE e8 v_28 x_72 b_96, own e8 v_90 x_89, twE e8 v_30 x_79 b_98, own e8 v_93 x_92, OE.bx b_37 [v_33, v_35, vB x_32.2.2.1], own e32 v_33 x_32.1, own e32 v_35 x_32.2.1, own e8 v_40 x_39.1, own e8 v_42 x_39.2.1, OE.bx b_49 [v_45, v_47, vB x_44.2.2.1], own e32 v_45 x_44.1, own e32 v_47 x_44.2.1, own e8 v_52 x_51.1, own e8 v_54 x_51.2.1]) (F.law11_CurveCodes_K2 x_117) ?_ ?_
  rotate_left
  ·intro hK_125
   refine wpC_region (wpR_run 2 rfl ?_)
   obtain ⟨x_121, hx_121, h⟩ := obind_some h
   refine wpR_v (G_ix Tryz.underlying23 ti5 rfl rfl (hS.twro hA_97 10 9 rfl rfl) hx_121) rfl ?_
   refine wpR_v (G_load Tryz.underlying5 rfl rfl (hS.twro hA_97 10 9 rfl rfl) hx_121 rfl) rfl ?_
   refine wpR_v (OpV_bin rfl rfl (b_neq8 _ x_121 21)) rfl ?_
   refine wpR_run 1 rfl ?_
   cases hb_122 : (x_121 != 21)
   case true =>
    have h := if_t h hb_122
    try simp only [hb_122]
    refine wpR_run 6 rfl ?_
    refine wpR_nil (QE_then_n ?_)
    exact wpC_le _ (by exact ⟨rfl, rfl, rfl, rfl, rfl, rfl, rfl, rfl, rfl, rfl, rfl, rfl, rfl, rfl, rfl, rfl, rfl, rfl, rfl, rfl, trivial⟩) (hK_125 true _ _ ⟨rfl, hS⟩ h)
   case false =>
    have h := if_f h hb_122
    try simp only [hb_122]
    refine wpR_run 2 rfl ?_
    obtain ⟨x_123, hx_123, h⟩ := obind_some h
    refine wpR_gv (t := 182) rfl rfl (G_ix Tryz.underlying23 ti5 rfl rfl (hS.twro hA_99 12 11 rfl rfl) hx_123) rfl ?_
    refine wpR_gv (t := 182) rfl rfl (G_load Tryz.underlying5 rfl rfl (hS.twro hA_99 12 11 rfl rfl) hx_123 rfl) rfl ?_
    refine wpR_gv (t := 182) rfl rfl (OpV_bin rfl rfl (b_neq8 _ x_123 22)) rfl ?_
    refine wpR_run 1 rfl ?_
    refine wpR_nil (QE_then_n ?_)
    exact wpC_le _ (by exact ⟨rfl, rfl, rfl, rfl, rfl, rfl, rfl, rfl, rfl, rfl, rfl, rfl, rfl, rfl, rfl, rfl, rfl, rfl, rfl, rfl, trivial⟩) (hK_125 (x_123 != 22) _ _ ⟨rfl, hS⟩ h)
  rintro x_124 L w hJ h
  try dsimp only at hJ
  obtain ⟨rfl, hS⟩ := hJ
  unfold F.law11_CurveCodes_K2 at h
  refine wpC_cond rfl (fun hb_126 => ?_) (fun hb_126 => ?_)
  ·have h := if_t h hb_126
   refine wpC_seq (wpC_region (wpR_run 1 rfl ?_))
   refine wpR_nil (QE_then_n (wpC_ret (QE_blk_r ?_)))
   refine QE_then_r (QE_then_r ?_)
   have h := oinr_some h hk_118
   refine QE_blk_r ?_
   refine QE_then_r ?_
   cases h
   exact QE_ret1 rfl rfl ⟨rfl, hS.pick [] (by decide) rfl⟩
  have h := if_f h hb_126
  refine wpC_skip (QE_blk_n ?_)
  refine QE_then_n (wpC_region (wpR_run 3 rfl ?_))
  refine wpR_nil ?_
  exact QE_rnd (wpN_le _ (by exact ⟨rfl, rfl, rfl, rfl, rfl, rfl, rfl, rfl, rfl, rfl, rfl, rfl, rfl, rfl, rfl, rfl, rfl, rfl, rfl, trivial⟩) (ih_119 (wI (x_117 + 1)) _ _ ⟨rfl, hS⟩ (oinl_some h hk_118)))
 have h := if_f h hb_249
 refine wpC_exit ?_
 refine QE_then_x (QE_then_x ?_)
 have h := oinr_some h hk_118
 refine QE_blk_x ?_
 refine QE_then_n (wpC_seq (wpC_seq (wpC_region (wpR_run 1 rfl ?_))))
 refine wpR_nil (QE_then_n (wpC_block ?_))
 refine wpC_le [(0, vI a0), (1, va1), (2, va2), (7, pB b_1 0), (9, pB b_10 0), (10, slV v_13 e8.sz 0 x_12.2), (11, slV v_17 e8.sz 0 x_16.2), (12, pB b_25 0), (14, v_28), (15, v_30), (17, pB b_37 0), (19, v_40), (20, v_42), (22, pB b_49 0), (24, v_52), (25, v_54), (29, v_90), (30, v_93), (33, vI 0)] ⟨rfl, rfl, rfl, rfl, rfl, rfl, rfl, rfl, rfl, rfl, rfl, rfl, rfl, rfl, rfl, rfl, rfl, rfl, rfl, trivial⟩ ?_
 refine loop_ind (F.law11_CurveCodes_L5 a1 a2 a3_0 a3_1 a3_2 x_3 x_12 x_16 x_20 x_32 x_39 x_44 x_51 x_72 x_79 x_89 x_92 a0) (fun (s : Int) L w => L = [(0, vI a0), (1, va1), (2, va2), (7, pB b_1 0), (9, pB b_10 0), (10, slV v_13 e8.sz 0 x_12.2), (11, slV v_17 e8.sz 0 x_16.2), (12, pB b_25 0), (14, v_28), (15, v_30), (17, pB b_37 0), (19, v_40), (20, v_42), (22, pB b_49 0), (24, v_52), (25, v_54), (29, v_90), (30, v_93), (33, vI s)] ∧ St [] w0 w [OE.bx b_1 [va3_0, va3_1, vB a3_2], OE.bx b_10 [slV v_4 e32.sz 0 x_3.1.2, slV v_7 e32.sz 0 x_3.2.1.2, vB x_3.2.2], own e32 v_4 x_3.1.1, own e32 v_7 x_3.2.1.1, own e8 v_13 x_12.1, own e8 v_17 x_16.1, OE.bx b_25 [v_21, v_23, vB x_20.2.2.1], own e32 v_21 x_20.1, own e32 v_23 x_20.2.1, twE e8 v_28 x_72 b_96, own e8 v_90 x_89, twE e8 v_30 x_79 b_98, own e8 v_93 x_92, OE.bx b_37 [v_33, v_35, vB x_32.2.2.1], own e32 v_33 x_32.1, own e32 v_35 x_32.2.1, own e8 v_40 x_39.1, own e8 v_42 x_39.2.1, OE.bx b_49 [v_45, v_47, vB x_44.2.2.1], own e32 v_45 x_44.1, own e32 v_47 x_44.2.1, own e8 v_52 x_51.1, own e8 v_54 x_51.2.1]) ?_ 0 ⟨rfl, hS⟩ h
 rintro k_248 x_127 L w q_130 hI ih_129 h hk_128
 try dsimp only at hI
 obtain ⟨rfl, hS⟩ := hI
 unfold F.law11_CurveCodes_L5 at h
 refine wpC_seq (wpC_seq (wpC_region (wpR_run 2 rfl ?_)))
 refine wpR_nil (QE_then_n ?_)
 refine wpC_cond rfl (fun hb_247 => ?_) (fun hb_247 => ?_)
 ·have h := if_t h hb_247
  refine wpC_skip (QE_then_n (wpC_seq (wpC_block ?_)))
  refine seq_join (r := q_130) (fun (g : Bool) L w => L = [(0, vI a0), (1, va1), (2, va2), (7, pB b_1 0), (9, pB b_10 0), (10, slV v_13 e8.sz 0 x_12.2), (11, slV v_17 e8.sz 0 x_16.2), (12, pB b_25 0), (14, v_28), (15, v_30), (17, pB b_37 0), (19, v_40), (20, v_42), (22, pB b_49 0), (24, v_52), (25, v_54), (29, v_90), (30, v_93), (33, vI x_127), (210, vB g)] ∧ St [] w0 w [OE.bx b_1 [va3_0, va3_1, vB a3_2], OE.bx b_10 [slV v_4 e32.sz 0 x_3.1.2, slV v_7 e32.sz 0 x_3.2.1.2, vB x_3.2.2], own e32 v_4 x_3.1.1, own e32 v_7 x_3.2.1.1, own e8 v_13 x_12.1, own e8 v_17 x_16.1, OE.bx b_25 [v_21, v_23, vB x_20.2.2.1], own e32 v_21 x_20.1, own e32 v_23 x_20.2.1, twE e8 v_28 x_72 b_96, own e8 v_90 x_89, twE e8 v_30 x_79 b_98, own e8 v_93 x_92, OE.bx b_37 [v_33, v_35, vB x_32.2.2.1], own e32 v_33 x_32.1, own e32 v_35 x_32.2.1, own e8 v_40 x_39.1, own e8 v_42 x_39.2.1, OE.bx b_49 [v_45, v_47, vB x_44.2.2.1], own e32 v_45 x_44.1, own e32 v_47 x_44.2.1, own e8 v_52 x_51.1, own e8 v_54 x_51.2.1]) (F.law11_CurveCodes_K3 x_127) ?_ ?_
  rotate_left
  ·intro hK_135
   refine wpC_region (wpR_run 2 rfl ?_)
   refine wpR_v (OpV_len Tryz.underlying23 rfl (hS.twro hA_97 10 9 rfl rfl)) rfl ?_
   refine wpR_run 2 rfl ?_
   obtain ⟨x_131, hx_131, h⟩ := obind_some h
   refine wpR_v (G_ix Tryz.underlying23 ti5 rfl rfl (hS.ro 10 rfl) hx_131) rfl ?_
   refine wpR_v (G_load Tryz.underlying5 rfl rfl (hS.ro 10 rfl) hx_131 rfl) rfl ?_
   refine wpR_v (OpV_bin rfl rfl (b_neq8 _ x_131 23)) rfl ?_
   refine wpR_run 1 rfl ?_
   cases hb_132 : (x_131 != 23)
   case true =>
    have h := if_t h hb_132
    try simp only [hb_132]
    refine wpR_run 9 rfl ?_
    refine wpR_nil (QE_then_n ?_)
    exact wpC_le _ (by exact ⟨rfl, rfl, rfl, rfl, rfl, rfl, rfl, rfl, rfl, rfl, rfl, rfl, rfl, rfl, rfl, rfl, rfl, rfl, rfl, rfl, trivial⟩) (hK_135 true _ _ ⟨rfl, hS⟩ h)
   case false =>
    have h := if_f h hb_132
    try simp only [hb_132]
    refine wpR_run 2 rfl ?_
    refine wpR_gv (t := 201) rfl rfl (OpV_len Tryz.underlying23 rfl (hS.twro hA_99 12 11 rfl rfl)) rfl ?_
    refine wpR_run 2 rfl ?_
    obtain ⟨x_133, hx_133, h⟩ := obind_some h
    refine wpR_gv (t := 201) rfl rfl (G_ix Tryz.underlying23 ti5 rfl rfl (hS.ro 12 rfl) hx_133) rfl ?_
    refine wpR_gv (t := 201) rfl rfl (G_load Tryz.underlying5 rfl rfl (hS.ro 12 rfl) hx_133 rfl) rfl ?_
    refine wpR_gv (t := 201) rfl rfl (OpV_bin rfl rfl (b_neq8 _ x_133 24)) rfl ?_
    refine wpR_run 1 rfl ?_
    refine wpR_nil (QE_then_n ?_)
    exact wpC_le _ (by exact ⟨rfl, rfl, rfl, rfl, rfl, rfl, rfl, rfl, rfl, rfl, rfl, rfl, rfl, rfl, rfl, rfl, rfl, rfl, rfl, rfl, trivial⟩) (hK_135 (x_133 != 24) _ _ ⟨rfl, hS⟩ h)
  rintro x_134 L w hJ h
  try dsimp only at hJ
  obtain ⟨rfl, hS⟩ := hJ
  unfold F.law11_CurveCodes_K3 at h
  refine wpC_cond rfl (fun hb_136 => ?_) (fun hb_136 => ?_)
  ·have h := if_t h hb_136
   refine wpC_seq (wpC_region (wpR_run 1 rfl ?_))
   refine wpR_nil (QE_then_n (wpC_ret (QE_blk_r ?_)))
   refine QE_then_r (QE_then_r ?_)
   have h := oinr_some h hk_128
   refine QE_blk_r ?_
   refine QE_then_r ?_
   cases h
   exact QE_ret1 rfl rfl ⟨rfl, hS.pick [] (by decide) rfl⟩
  have h := if_f h hb_136
  refine wpC_skip (QE_blk_n ?_)
  refine QE_then_n (wpC_region (wpR_run 3 rfl ?_))
  refine wpR_nil ?_
  exact QE_rnd (wpN_le _ (by exact ⟨rfl, rfl, rfl, rfl, rfl, rfl, rfl, rfl, rfl, rfl, rfl, rfl, rfl, rfl, rfl, rfl, rfl, rfl, rfl, trivial⟩) (ih_129 (wI (x_127 + 1)) _ _ ⟨rfl, hS⟩ (oinl_some h hk_128)))
 have h := if_f h hb_247
 refine wpC_exit ?_
 refine QE_then_x (QE_then_x ?_)
 have h := oinr_some h hk_128
 refine QE_blk_x ?_
 refine QE_then_n (wpC_seq ?_)
 refine seq_join (r := r) (fun (g : Bool) L w => L = [(0, vI a0), (9, pB b_10 0), (10, slV v_13 e8.sz 0 x_12.2), (11, slV v_17 e8.sz 0 x_16.2), (249, vB g)] ∧ St [] w0 w [OE.bx b_10 [slV v_4 e32.sz 0 x_3.1.2, slV v_7 e32.sz 0 x_3.2.1.2, vB x_3.2.2], own e32 v_4 x_3.1.1, own e32 v_7 x_3.2.1.1, own e8 v_13 x_12.1, own e8 v_17 x_16.1]) (F.law11_CurveCodes_K4 a0 x_12 x_16 x_3) ?_ ?_
 rotate_left
 ·intro hK_151
  refine wpC_region (wpR_v (OpV_ldBs (us := [v_21, v_23, vB x_20.2.2.1]) Tryz.underlying27 rfl sz27 rfl (hS.bxs 6 rfl rfl)) rfl ?_)
  have hG := hS.pick (os' := [own e32 v_21 x_20.1, own e32 v_23 x_20.2.1] ++ [OE.bx b_1 [va3_0, va3_1, vB a3_2], OE.bx b_10 [slV v_4 e32.sz 0 x_3.1.2, slV v_7 e32.sz 0 x_3.2.1.2, vB x_3.2.2], own e32 v_4 x_3.1.1, own e32 v_7 x_3.2.1.1, own e8 v_13 x_12.1, own e8 v_17 x_16.1, OE.bx b_25 [v_21, v_23, vB x_20.2.2.1], twE e8 v_28 x_72 b_96, own e8 v_90 x_89, twE e8 v_30 x_79 b_98, own e8 v_93 x_92, OE.bx b_37 [v_33, v_35, vB x_32.2.2.1], own e32 v_33 x_32.1, own e32 v_35 x_32.2.1, own e8 v_40 x_39.1, own e8 v_42 x_39.2.1, OE.bx b_49 [v_45, v_47, vB x_44.2.2.1], own e32 v_45 x_44.1, own e32 v_47 x_44.2.1, own e8 v_52 x_51.1, own e8 v_54 x_51.2.1]) [7, 8, 0, 1, 2, 3, 4, 5, 6, 9, 10, 11, 12, 13, 14, 15, 16, 17, 18, 19, 20, 21, 22] (by decide) rfl
  obtain ⟨x_137, hx_137, h⟩ := obind_some h
  refine wpR_call (by kernel_rfl) rfl (c_law11_spoil _ x_20.1 x_20.2.1 x_20.2.2.1 v_21 v_23  _ hG.give  _ hx_137) rfl ?_
  rintro _ w ⟨rfl, hS1⟩
  have hS := hG.back hS1
  simp only [List.cons_append, List.nil_append] at hS
  refine wpR_run 2 rfl ?_
  cases hb_138 : (!x_137)
  case true =>
   have h := if_t h hb_138
   try simp only [hb_138]
   refine wpR_run 35 rfl ?_
   refine wpR_nil (QE_then_n ?_)
   exact wpC_le _ (by exact ⟨rfl, rfl, rfl, rfl, rfl, trivial⟩) (hK_151 true _ _ ⟨rfl, (hS.pick [1, 2, 3, 4, 5] (by decide) rfl)⟩ h)
  case false =>
   have h := if_f h hb_138
   try simp only [hb_138]
   refine wpR_gv (t := 214) rfl rfl (OpV_ldBs (us := [slV v_4 e32.sz 0 x_3.1.2, slV v_7 e32.sz 0 x_3.2.1.2, vB x_3.2.2]) Tryz.underlying27 rfl sz27 rfl (hS.bxs 1 rfl rfl)) rfl ?_
   refine wpR_gv (t := 214) rfl rfl (OpV_ldBs (us := [va3_0, va3_1, vB a3_2]) Tryz.underlying27 rfl sz27 rfl (hS.bxs 0 rfl rfl)) rfl ?_
   obtain ⟨x_139, hx_139, h⟩ := obind_some h
   refine wpR_gcall (t := 214) rfl rfl (by kernel_rfl) rfl (c_law11_still _ x_3.1.1 x_3.1.2 x_3.2.1.1 x_3.2.1.2 x_3.2.2 a3_0 a3_1 a3_2 v_4 v_7 va3_0 va3_1  (hS.ro 2 rfl).rp hk_6 (hS.ro 3 rfl).rp hk_9 (ha3_0.now hS.fr).rp (ha3_1.now hS.fr).rp _ hx_139) rfl ?_
   rintro _ w ⟨rfl, hS1⟩
   have hS := hS.call hS1
   simp only [List.cons_append, List.nil_append] at hS
   refine wpR_run 3 rfl ?_
   cases hb_140 : (!x_139)
   case true =>
    have h := if_t h hb_140
    try simp only [hb_140]
    refine wpR_run 29 rfl ?_
    refine wpR_nil (QE_then_n ?_)
    exact wpC_le _ (by exact ⟨rfl, rfl, rfl, rfl, rfl, trivial⟩) (hK_151 true _ _ ⟨rfl, (hS.pick [1, 2, 3, 4, 5] (by decide) rfl)⟩ h)
   case false =>
    have h := if_f h hb_140
    try simp only [hb_140]
    refine wpR_run 2 rfl ?_
    obtain ⟨x_141, hx_141, h⟩ := obind_some h
    refine wpR_gcall (t := 220) rfl rfl (by kernel_rfl) rfl (c_law11_wholeBytes _ x_12.1 x_12.2 a1 v_13 va1  (hS.ro 4 rfl).rp hk_15 (ha1.now hS.fr).rp _ hx_141) rfl ?_
    rintro _ w ⟨rfl, hS1⟩
    have hS := hS.call hS1
    simp only [List.cons_append, List.nil_append] at hS
    refine wpR_run 3 rfl ?_
    cases hb_142 : (!x_141)
    case true =>
     have h := if_t h hb_142
     try simp only [hb_142]
     refine wpR_run 23 rfl ?_
     refine wpR_nil (QE_then_n ?_)
     exact wpC_le _ (by exact ⟨rfl, rfl, rfl, rfl, rfl, trivial⟩) (hK_151 true _ _ ⟨rfl, (hS.pick [1, 2, 3, 4, 5] (by decide) rfl)⟩ h)
    case false =>
     have h := if_f h hb_142
     try simp only [hb_142]
     refine wpR_run 2 rfl ?_
     obtain ⟨x_143, hx_143, h⟩ := obind_some h
     refine wpR_gcall (t := 226) rfl rfl (by kernel_rfl) rfl (c_law11_wholeBytes _ x_16.1 x_16.2 a2 v_17 va2  (hS.ro 5 rfl).rp hk_19 (ha2.now hS.fr).rp _ hx_143) rfl ?_
     rintro _ w ⟨rfl, hS1⟩
     have hS := hS.call hS1
     simp only [List.cons_append, List.nil_append] at hS
     refine wpR_run 3 rfl ?_
     cases hb_144 : (!x_143)
     case true =>
      have h := if_t h hb_144
      try simp only [hb_144]
      refine wpR_run 17 rfl ?_
      refine wpR_nil (QE_then_n ?_)
      exact wpC_le _ (by exact ⟨rfl, rfl, rfl, rfl, rfl, trivial⟩) (hK_151 true _ _ ⟨rfl, (hS.pick [1, 2, 3, 4, 5] (by decide) rfl)⟩ h)
     case false =>
      have h := if_f h hb_144
      try simp only [hb_144]
      refine wpR_gv (t := 232) rfl rfl (OpV_ldBs (us := [v_33, v_35, vB x_32.2.2.1]) Tryz.underlying27 rfl sz27 rfl (hS.bxs 11 rfl rfl)) rfl ?_
      refine wpR_gv (t := 232) rfl rfl (OpV_ldBs (us := [v_45, v_47, vB x_44.2.2.1]) Tryz.underlying27 rfl sz27 rfl (hS.bxs 16 rfl rfl)) rfl ?_
      obtain ⟨x_145, hx_145, h⟩ := obind_some h
      refine wpR_gcall (t := 232) rfl rfl (by kernel_rfl) rfl (c_law11_same _ x_32.1 x_32.2.1 x_32.2.2.1 x_44.1 x_44.2.1 x_44.2.2.1 v_33 v_35 v_45 v_47  (hS.ro 12 rfl).rp (hS.ro 13 rfl).rp (hS.ro 17 rfl).rp (hS.ro 18 rfl).rp _ hx_145) rfl ?_
      rintro _ w ⟨rfl, hS1⟩
      have hS := hS.call hS1
      simp only [List.cons_append, List.nil_append] at hS
      refine wpR_run 3 rfl ?_
      cases hb_146 : (!x_145)
      case true =>
       have h := if_t h hb_146
       try simp only [hb_146]
       refine wpR_run 11 rfl ?_
       refine wpR_nil (QE_then_n ?_)
       exact wpC_le _ (by exact ⟨rfl, rfl, rfl, rfl, rfl, trivial⟩) (hK_151 true _ _ ⟨rfl, (hS.pick [1, 2, 3, 4, 5] (by decide) rfl)⟩ h)
      case false =>
       have h := if_f h hb_146
       try simp only [hb_146]
       refine wpR_run 2 rfl ?_
       obtain ⟨x_147, hx_147, h⟩ := obind_some h
       refine wpR_gcall (t := 238) rfl rfl (by kernel_rfl) rfl (c_law11_sameBytes _ x_39.1 x_51.1 v_40 v_52  (hS.ro 14 rfl).rp (hS.ro 19 rfl).rp _ hx_147) rfl ?_
       rintro _ w ⟨rfl, hS1⟩
       have hS := hS.call hS1
       simp only [List.cons_append, List.nil_append] at hS
       refine wpR_run 3 rfl ?_
       cases hb_148 : (!x_147)
       case true =>
        have h := if_t h hb_148
        try simp only [hb_148]
        refine wpR_run 5 rfl ?_
        refine wpR_nil (QE_then_n ?_)
        exact wpC_le _ (by exact ⟨rfl, rfl, rfl, rfl, rfl, trivial⟩) (hK_151 true _ _ ⟨rfl, (hS.pick [1, 2, 3, 4, 5] (by decide) rfl)⟩ h)
       case false =>
        have h := if_f h hb_148
        try simp only [hb_148]
        refine wpR_run 2 rfl ?_
        obtain ⟨x_149, hx_149, h⟩ := obind_some h
        refine wpR_gcall (t := 244) rfl rfl (by kernel_rfl) rfl (c_law11_sameBytes _ x_39.2.1 x_51.2.1 v_42 v_54  (hS.ro 15 rfl).rp (hS.ro 20 rfl).rp _ hx_149) rfl ?_
        rintro _ w ⟨rfl, hS1⟩
        have hS := hS.call hS1
        simp only [List.cons_append, List.nil_append] at hS
        refine wpR_run 2 rfl ?_
        refine wpR_nil (QE_then_n ?_)
        exact wpC_le _ (by exact ⟨rfl, rfl, rfl, rfl, rfl, trivial⟩) (hK_151 (!x_149) _ _ ⟨rfl, (hS.pick [1, 2, 3, 4, 5] (by decide) rfl)⟩ h)
 rintro x_150 L w hJ h
 try dsimp only at hJ
 obtain ⟨rfl, hS⟩ := hJ
 unfold F.law11_CurveCodes_K4 at h
 refine wpC_cond rfl (fun hb_246 => ?_) (fun hb_246 => ?_)
 ·have h := if_t h hb_246
  refine wpC_seq (wpC_region (wpR_run 1 rfl ?_))
  refine wpR_nil (QE_then_n (wpC_ret (QE_then_r ?_)))
  cases h
  exact QE_ret1 rfl rfl ⟨rfl, hS.pick [] (by decide) rfl⟩
 have h := if_f h hb_246
 refine wpC_skip (QE_then_n (wpC_seq (wpC_region (wpR_run 2 rfl ?_))))
 obtain ⟨x_152, hx_152, h⟩ := obind_some h
 refine wpR_call (by kernel_rfl) rfl (c_ref11_Base _ a0    _ hx_152) rfl ?_
 rintro _ w ⟨v_153, v_155, rfl, hS1⟩
 have hS := hS.call hS1
 simp only [List.cons_append, List.nil_append] at hS
 obtain ⟨x_157, hx_157, h⟩ := obind_some h
 refine wpR_call (by kernel_rfl) rfl (c_ref11_Encode _ a0 x_152.1 x_152.2.1 x_152.2.2 v_153 v_155  (hS.ro 0 rfl).rp (hS.ro 1 rfl).rp _ hx_157) rfl ?_
 rintro _ w ⟨v_158, v_160, rfl, hS1⟩
 have hS := hS.call hS1
 simp only [List.cons_append, List.nil_append] at hS
 refine wpR_run 7 rfl ?_
 refine wpR_nil (QE_then_n (wpC_seq (wpC_seq (wpC_region (wpR_run 1 rfl ?_)))))
 refine wpR_nil (QE_then_n (wpC_block ?_))
 refine wpC_le [(0, vI a0), (9, pB b_10 0), (10, slV v_13 e8.sz 0 x_12.2), (11, slV v_17 e8.sz 0 x_16.2), (34, v_158), (35, v_160), (37, vI 0)] ⟨rfl, rfl, rfl, rfl, rfl, rfl, rfl, trivial⟩ ?_
 refine loop_ind (F.law11_CurveCodes_L6 x_12 x_16 x_157 a0 x_3) (fun (s : Int × List UInt8) L w => L = [(0, vI a0), (9, pB b_10 0), (10, slV v_13 e8.sz 0 x_12.2), (11, slV v_17 e8.sz 0 x_16.2), (34, v_158), (35, v_160), (37, vI s.1)] ∧ x_12.2 ≤ s.2.length ∧ St [] w0 w [OE.bx b_10 [slV v_4 e32.sz 0 x_3.1.2, slV v_7 e32.sz 0 x_3.2.1.2, vB x_3.2.2], own e32 v_4 x_3.1.1, own e32 v_7 x_3.2.1.1, own e8 v_13 s.2, own e8 v_17 x_16.1, own e8 v_158 x_157.1, own e8 v_160 x_157.2.1]) ?_ (0, x_12.1) ⟨rfl, hk_15, (hS.pick [4, 5, 6, 7, 8, 0, 1] (by decide) rfl)⟩ h
 rintro k_245 ⟨x_162, x_163⟩ L w q_167 hI ih_166 h hk_165
 try dsimp only at hI
 obtain ⟨rfl, hK_164, hS⟩ := hI
 unfold F.law11_CurveCodes_L6 at h
 refine wpC_seq (wpC_seq (wpC_region (wpR_run 2 rfl ?_)))
 refine wpR_v (OpV_len Tryz.underlying23 rfl ((hS.ro 3 rfl).tk hK_164)) rfl ?_
 refine wpR_run 1 rfl ?_
 refine wpR_nil (QE_then_n ?_)
 refine wpC_cond rfl (fun hb_244 => ?_) (fun hb_244 => ?_)
 ·have h := if_t h hb_244
  refine wpC_skip (QE_then_n ?_)
  refine seq_join (r := q_167) (fun (g : List UInt8) L w => L = [(0, vI a0), (9, pB b_10 0), (10, slV v_13 e8.sz 0 x_12.2), (11, slV v_17 e8.sz 0 x_16.2), (34, v_158), (35, v_160), (37, vI x_162)] ∧ x_12.2 ≤ g.length ∧ St [] w0 w [OE.bx b_10 [slV v_4 e32.sz 0 x_3.1.2, slV v_7 e32.sz 0 x_3.2.1.2, vB x_3.2.2], own e32 v_4 x_3.1.1, own e32 v_7 x_3.2.1.1, own e8 v_13 g, own e8 v_17 x_16.1, own e8 v_158 x_157.1, own e8 v_160 x_157.2.1]) (F.law11_CurveCodes_K5 x_162) ?_ ?_
  rotate_left
  ·intro hK_176
   refine wpC_block ?_
   refine wpC_seq (wpC_region (wpR_run 2 rfl ?_))
   obtain ⟨x_168, hx_168, h⟩ := obind_some h
   refine wpR_v (G_ix_room Tryz.underlying23 ti5 rfl rfl (hS.ro 3 rfl) hK_164 hx_168) rfl ?_
   refine wpR_y (G_storeE (t := 0) ti5 rfl rfl hS (i := 3) rfl (getO_take hx_168) rfl) ?_
   intro w hS
   obtain ⟨x_169, hx_169, h⟩ := olet_some h
   rw [hx_169] at hS
   refine wpR_nil (QE_then_n (wpC_seq (wpC_region (wpR_run 2 rfl ?_))))
   refine wpR_v (OpV_len Tryz.underlying23 rfl (hS.ro 5 rfl)) rfl ?_
   refine wpR_run 1 rfl ?_
   refine wpR_nil (QE_then_n ?_)
   refine wpC_cond rfl (fun hb_173 => ?_) (fun hb_173 => ?_)
   ·have h := if_t h hb_173
    refine wpC_region (wpR_run 4 rfl ?_)
    obtain ⟨x_170, hx_170, h⟩ := obind_some h
    refine wpR_v (G_ix Tryz.underlying23 ti5 rfl rfl (hS.ro 5 rfl) hx_170) rfl ?_
    refine wpR_v (G_load Tryz.underlying5 rfl rfl (hS.ro 5 rfl) hx_170 rfl) rfl ?_
    obtain ⟨x_171, hx_171, h⟩ := obind_some h
    refine wpR_v (G_ix_room Tryz.underlying23 ti5 rfl rfl (hS.ro 3 rfl) (by rw [← hx_169, List.length_set]; exact hK_164) hx_171) rfl ?_
    refine wpR_y (G_storeE (t := x_170) ti5 rfl rfl hS (i := 3) rfl (getO_take hx_171) rfl) ?_
    intro w hS
    obtain ⟨x_172, hx_172, h⟩ := olet_some h
    rw [hx_172] at hS
    refine wpR_nil (QE_blk_n ?_)
    refine QE_then_n ?_
    exact wpC_le _ (by exact ⟨rfl, rfl, rfl, rfl, rfl, rfl, rfl, trivial⟩) (hK_176 x_172 _ _ ⟨rfl, (by rw [← hx_172, List.length_set]; exact (by rw [← hx_169, List.length_set]; exact hK_164)), hS⟩ h)
   have h := if_f h hb_173
   refine wpC_skip (QE_blk_n ?_)
   refine QE_then_n ?_
   exact wpC_le _ (by exact ⟨rfl, rfl, rfl, rfl, rfl, rfl, rfl, trivial⟩) (hK_176 x_169 _ _ ⟨rfl, (by rw [← hx_169, List.length_set]; exact hK_164), hS⟩ h)
  rintro x_174 L w hJ h
  try dsimp only at hJ
  obtain ⟨rfl, hK_175, hS⟩ := hJ
  unfold F.law11_CurveCodes_K5 at h
  refine wpC_region (wpR_run 3 rfl ?_)
  refine wpR_nil ?_
  exact QE_rnd (wpN_le _ (by exact ⟨rfl, rfl, rfl, rfl, rfl, rfl, rfl, trivial⟩) (ih_166 (wI (x_162 + 1), x_174) _ _ ⟨rfl, hK_175, hS⟩ (oinl_some h hk_165)))
 have h := if_f h hb_244
 refine wpC_exit ?_
 refine QE_then_x (QE_then_x ?_)
 have h := oinr_some h hk_165
 refine QE_blk_x ?_
 refine QE_then_n (wpC_seq (wpC_seq (wpC_region (wpR_run 1 rfl ?_))))
 refine wpR_nil (QE_then_n (wpC_block ?_))
 refine wpC_le [(0, vI a0), (9, pB b_10 0), (10, slV v_13 e8.sz 0 x_12.2), (11, slV v_17 e8.sz 0 x_16.2), (35, v_160), (38, vI 0)] ⟨rfl, rfl, rfl, rfl, rfl, rfl, trivial⟩ ?_
 refine loop_ind (F.law11_CurveCodes_L7 a0 x_3 x_12 x_16 x_157 x_163) (fun (s : Int × List UInt8) L w => L = [(0, vI a0), (9, pB b_10 0), (10, slV v_13 e8.sz 0 x_12.2), (11, slV v_17 e8.sz 0 x_16.2), (35, v_160), (38, vI s.1)] ∧ x_16.2 ≤ s.2.length ∧ St [] w0 w [OE.bx b_10 [slV v_4 e32.sz 0 x_3.1.2, slV v_7 e32.sz 0 x_3.2.1.2, vB x_3.2.2], own e32 v_4 x_3.1.1, own e32 v_7 x_3.2.1.1, own e8 v_13 x_163, own e8 v_17 s.2, own e8 v_160 x_157.2.1]) ?_ (0, x_16.1) ⟨rfl, hk_19, (hS.pick [0, 1, 2, 3, 4, 6] (by decide) rfl)⟩ h
 rintro k_243 ⟨x_177, x_178⟩ L w q_182 hI ih_181 h hk_180
 try dsimp only at hI
 obtain ⟨rfl, hK_179, hS⟩ := hI
 unfold F.law11_CurveCodes_L7 at h
 refine wpC_seq (wpC_seq (wpC_region (wpR_run 2 rfl ?_)))
 refine wpR_v (OpV_len Tryz.underlying23 rfl ((hS.ro 4 rfl).tk hK_179)) rfl ?_
 refine wpR_run 1 rfl ?_
 refine wpR_nil (QE_then_n ?_)
 refine wpC_cond rfl (fun hb_242 => ?_) (fun hb_242 => ?_)
 ·have h := if_t h hb_242
  refine wpC_skip (QE_then_n ?_)
  refine seq_join (r := q_182) (fun (g : List UInt8) L w => L = [(0, vI a0), (9, pB b_10 0), (10, slV v_13 e8.sz 0 x_12.2), (11, slV v_17 e8.sz 0 x_16.2), (35, v_160), (38, vI x_177)] ∧ x_16.2 ≤ g.length ∧ St [] w0 w [OE.bx b_10 [slV v_4 e32.sz 0 x_3.1.2, slV v_7 e32.sz 0 x_3.2.1.2, vB x_3.2.2], own e32 v_4 x_3.1.1, own e32 v_7 x_3.2.1.1, own e8 v_13 x_163, own e8 v_17 g, own e8 v_160 x_157.2.1]) (F.law11_CurveCodes_K6 x_177) ?_ ?_
  rotate_left
  ·intro hK_191
   refine wpC_block ?_
   refine wpC_seq (wpC_region (wpR_run 2 rfl ?_))
   obtain ⟨x_183, hx_183, h⟩ := obind_some h
   refine wpR_v (G_ix_room Tryz.underlying23 ti5 rfl rfl (hS.ro 4 rfl) hK_179 hx_183) rfl ?_
   refine wpR_y (G_storeE (t := 0) ti5 rfl rfl hS (i := 4) rfl (getO_take hx_183) rfl) ?_
   intro w hS
   obtain ⟨x_184, hx_184, h⟩ := olet_some h
   rw [hx_184] at hS
   refine wpR_nil (QE_then_n (wpC_seq (wpC_region (wpR_run 2 rfl ?_))))
   refine wpR_v (OpV_len Tryz.underlying23 rfl (hS.ro 5 rfl)) rfl ?_
   refine wpR_run 1 rfl ?_
   refine wpR_nil (QE_then_n ?_)
   refine wpC_cond rfl (fun hb_188 => ?_) (fun hb_188 => ?_)
   ·have h := if_t h hb_188
    refine wpC_region (wpR_run 4 rfl ?_)
    obtain ⟨x_185, hx_185, h⟩ := obind_some h
    refine wpR_v (G_ix Tryz.underlying23 ti5 rfl rfl (hS.ro 5 rfl) hx_185) rfl ?_
    refine wpR_v (G_load Tryz.underlying5 rfl rfl (hS.ro 5 rfl) hx_185 rfl) rfl ?_
    obtain ⟨x_186, hx_186, h⟩ := obind_some h
    refine wpR_v (G_ix_room Tryz.underlying23 ti5 rfl rfl (hS.ro 4 rfl) (by rw [← hx_184, List.length_set]; exact hK_179) hx_186) rfl ?_
    refine wpR_y (G_storeE (t := x_185) ti5 rfl rfl hS (i := 4) rfl (getO_take hx_186) rfl) ?_
    intro w hS
    obtain ⟨x_187, hx_187, h⟩ := olet_some h
    rw [hx_187] at hS
    refine wpR_nil (QE_blk_n ?_)
    refine QE_then_n ?_
    exact wpC_le _ (by exact ⟨rfl, rfl, rfl, rfl, rfl, rfl, trivial⟩) (hK_191 x_187 _ _ ⟨rfl, (by rw [← hx_187, List.length_set]; exact (by rw [← hx_184, List.length_set]; exact hK_179)), hS⟩ h)
   have h := if_f h hb_188
   refine wpC_skip (QE_blk_n ?_)
   refine QE_then_n ?_
   exact wpC_le _ (by exact ⟨rfl, rfl, rfl, rfl, rfl, rfl, trivial⟩) (hK_191 x_184 _ _ ⟨rfl, (by rw [← hx_184, List.length_set]; exact hK_179), hS⟩ h)
  rintro x_189 L w hJ h
  try dsimp only at hJ
  obtain ⟨rfl, hK_190, hS⟩ := hJ
  unfold F.law11_CurveCodes_K6 at h
  refine wpC_region (wpR_run 3 rfl ?_)
  refine wpR_nil ?_
  exact QE_rnd (wpN_le _ (by exact ⟨rfl, rfl, rfl, rfl, rfl, rfl, trivial⟩) (ih_181 (wI (x_177 + 1), x_189) _ _ ⟨rfl, hK_190, hS⟩ (oinl_some h hk_180)))
 have h := if_f h hb_242
 refine wpC_exit ?_
 refine QE_then_x (QE_then_x ?_)
 have h := oinr_some h hk_180
 refine QE_blk_x ?_
 refine QE_then_n (wpC_seq ?_)
 refine wpC_regionS (fun w' => St [] w0 w' [OE.bx b_10 [slV v_4 e32.sz 0 x_3.1.2, slV v_7 e32.sz 0 x_3.2.1.2, vB x_3.2.2], own e32 v_4 x_3.1.1, own e32 v_7 x_3.2.1.1, own e8 v_13 x_163, own e8 v_17 x_178, own e8 v_160 x_157.2.1]) (fun i => !([2, 3].contains i)) hmix (fun _ _ _ hf => hf.2) (fun _ _ hf => hf) (by kernel_rfl) ?_
 have hS := hS.drew
 show lxE _ _ _ _ _ _ _ [0, 1, 2, 3] _ _
 refine lxE_v hS rfl rfl (fun w hF => OpV_ldBs (us := [slV v_4 e32.sz 0 x_3.1.2, slV v_7 e32.sz 0 x_3.2.1.2, vB x_3.2.2]) Tryz.underlying27 rfl sz27 rfl (hF.bxs 0 rfl rfl)) rfl ?_
 refine lxE_v hS rfl rfl (fun w hF => OpV_move rfl) rfl ?_
 obtain ⟨x_192, hx_192, h⟩ := obind_some h
 refine lxE_call hS rfl rfl (by kernel_rfl) rfl (c_ref11_Base _ a0    _ hx_192) rfl ?_
 rintro _ w ⟨v_193, v_195, rfl, hS1⟩
 have hS := hS.call hS1
 simp only [List.cons_append, List.nil_append] at hS
 have hSc := hS
 replace hS := hS.trunc (i := 3) rfl hk_6
 replace hS := hS.trunc (i := 4) rfl hk_9
 have hG := hS.pick (os' := [own e32 (slV v_4 e32.sz 0 x_3.1.2) (x_3.1.1.take x_3.1.2), own e32 (slV v_7 e32.sz 0 x_3.2.1.2) (x_3.2.1.1.take x_3.2.1.2)] ++ [own e32 v_193 x_192.1, own e32 v_195 x_192.2.1, OE.bx b_10 [slV v_4 e32.sz 0 x_3.1.2, slV v_7 e32.sz 0 x_3.2.1.2, vB x_3.2.2], own e8 v_13 x_163, own e8 v_17 x_178, own e8 v_160 x_157.2.1]) [3, 4, 0, 1, 2, 5, 6, 7] (by decide) rfl
 obtain ⟨x_197, hx_197, h⟩ := obind_some h
 refine lxE_call (hSc.pick [2, 3, 4, 5, 6, 7] (by decide) rfl) rfl rfl (by kernel_rfl) rfl (c_law11_over _ (x_3.1.1.take x_3.1.2) (x_3.2.1.1.take x_3.2.1.2) x_3.2.2 x_192.1 x_192.2.1 x_192.2.2 (slV v_4 e32.sz 0 x_3.1.2) (slV v_7 e32.sz 0 x_3.2.1.2) v_193 v_195  _ hG.give (hG.giveO 0 rfl) (hG.giveO 1 rfl) _ hx_197) rfl ?_
 rintro _ w ⟨rfl, hS1⟩
 have hS := hG.back hS1
 simp only [List.cons_append, List.nil_append] at hS
 refine lxE_nil trivial ?_
 refine QE_then_n (wpC_seq (wpC_region (wpR_run 2 rfl ?_)))
 obtain ⟨x_198, hx_198, h⟩ := obind_some h
 refine wpR_call (by kernel_rfl) rfl (c_law11_lentBytes _ (x_163.take x_12.2) (slV v_13 e8.sz 0 x_12.2)  ((hS.ro 5 rfl).tk hK_164).rp _ hx_198) rfl ?_
 rintro _ w ⟨v_199, rfl, hk_201, hS1⟩
 have hS := hS.call hS1
 simp only [List.cons_append, List.nil_append] at hS
 refine wpR_run 1 rfl ?_
 obtain ⟨x_202, hx_202, h⟩ := obind_some h
 refine wpR_call (by kernel_rfl) rfl (c_law11_lentBytes _ (x_178.take x_16.2) (slV v_17 e8.sz 0 x_16.2)  ((hS.ro 7 rfl).tk hK_179).rp _ hx_202) rfl ?_
 rintro _ w ⟨v_203, rfl, hk_205, hS1⟩
 have hS := hS.call hS1
 simp only [List.cons_append, List.nil_append] at hS
 obtain ⟨x_206, hx_206, h⟩ := obind_some h
 refine wpR_call (by kernel_rfl) rfl (c_ref11_Decode _ a0 (x_198.1.take x_198.2) (x_202.1.take x_202.2) (slV v_199 e8.sz 0 x_198.2) (slV v_203 e8.sz 0 x_202.2)  ((hS.ro 1 rfl).tk hk_201).rp ((hS.ro 0 rfl).tk hk_205).rp _ hx_206) rfl ?_
 rintro _ w ⟨v_207, v_209, rfl, hS1⟩
 have hS := hS.call hS1
 simp only [List.cons_append, List.nil_append] at hS
 refine wpR_run 3 rfl ?_
 refine wpR_x (OpX_alloc (cs := [.slice none 0 0, .slice none 0 0, vB false]) tz27 rfl hS) rfl ?_
 rintro _ w ⟨b_211, rfl, hS⟩
 refine wpR_y (OpY_stB (i := 0) (us := [v_207, v_209, vB x_206.2.2.1]) rfl sz27 rfl rfl rfl ⟨(hS.ro 1 rfl).one, (hS.ro 2 rfl).one, rfl, trivial⟩ rfl hS) ?_
 intro w hS
 replace hS : St _ _ w [OE.bx b_211 [v_207, v_209, vB x_206.2.2.1], own e32 v_207 x_206.1, own e32 v_209 x_206.2.1, own e8 v_203 x_202.1, own e8 v_199 x_198.1, own e32 (slV v_4 e32.sz 0 x_3.1.2) x_197.1, own e32 (slV v_7 e32.sz 0 x_3.2.1.2) x_197.2, own e32 v_193 x_192.1, own e32 v_195 x_192.2.1, OE.bx b_10 [slV v_4 e32.sz 0 x_3.1.2, slV v_7 e32.sz 0 x_3.2.1.2, vB x_3.2.2], own e8 v_13 x_163, own e8 v_17 x_178, own e8 v_160 x_157.2.1] := hS
 refine wpR_run 1 rfl ?_
 refine wpR_nil (QE_then_n (wpC_seq (wpC_region (wpR_run 1 rfl ?_))))
 refine wpR_v (OpV_ldBs (us := [slV v_4 e32.sz 0 x_3.1.2, slV v_7 e32.sz 0 x_3.2.1.2, vB x_3.2.2]) Tryz.underlying27 rfl sz27 rfl (hS.bxs 9 rfl rfl)) rfl ?_
 obtain ⟨x_213, hx_213, h⟩ := obind_some h
 refine wpR_call (by kernel_rfl) rfl (c_law11_copied _ x_197.1 x_197.2 x_3.2.2 (slV v_4 e32.sz 0 x_3.1.2) (slV v_7 e32.sz 0 x_3.2.1.2)  (hS.ro 5 rfl).rp (hS.ro 6 rfl).rp _ hx_213) rfl ?_
 rintro _ w ⟨v_214, v_216, rfl, hS1⟩
 have hS := hS.call hS1
 simp only [List.cons_append, List.nil_append] at hS
 obtain ⟨x_218, hx_218, h⟩ := obind_some h
 refine wpR_call (by kernel_rfl) rfl (c_ref11_Encode _ a0 x_213.1 x_213.2.1 x_213.2.2 v_214 v_216  (hS.ro 0 rfl).rp (hS.ro 1 rfl).rp _ hx_218) rfl ?_
 rintro _ w ⟨v_219, v_221, rfl, hS1⟩
 have hS := hS.call hS1
 simp only [List.cons_append, List.nil_append] at hS
 refine wpR_run 7 rfl ?_
 refine wpR_nil (QE_then_n (wpC_seq (wpC_region (wpR_run 3 rfl ?_))))
 obtain ⟨x_223, hx_223, h⟩ := obind_some h
 refine wpR_call (by kernel_rfl) rfl (c_curve_Decode _ a0 (x_163.take x_12.2) (x_178.take x_16.2) (slV v_13 e8.sz 0 x_12.2) (slV v_17 e8.sz 0 x_16.2)  ((hS.ro 14 rfl).tk hK_164).rp ((hS.ro 15 rfl).tk hK_179).rp _ hx_223) rfl ?_
 rintro _ w ⟨v_224, v_226, rfl, hS1⟩
 have hS := hS.call hS1
 simp only [List.cons_append, List.nil_append] at hS
 refine wpR_run 3 rfl ?_
 refine wpR_x (OpX_alloc (cs := [.slice none 0 0, .slice none 0 0, vB false]) tz27 rfl hS) rfl ?_
 rintro _ w ⟨b_228, rfl, hS⟩
 refine wpR_y (OpY_stB (i := 0) (us := [v_224, v_226, vB x_223.2.2.1]) rfl sz27 rfl rfl rfl ⟨(hS.ro 1 rfl).one, (hS.ro 2 rfl).one, rfl, trivial⟩ rfl hS) ?_
 intro w hS
 replace hS : St _ _ w [OE.bx b_228 [v_224, v_226, vB x_223.2.2.1], own e32 v_224 x_223.1, own e32 v_226 x_223.2.1, own e8 v_219 x_218.1, own e8 v_221 x_218.2.1, own e32 v_214 x_213.1, own e32 v_216 x_213.2.1, OE.bx b_211 [v_207, v_209, vB x_206.2.2.1], own e32 v_207 x_206.1, own e32 v_209 x_206.2.1, own e8 v_203 x_202.1, own e8 v_199 x_198.1, own e32 (slV v_4 e32.sz 0 x_3.1.2) x_197.1, own e32 (slV v_7 e32.sz 0 x_3.2.1.2) x_197.2, own e32 v_193 x_192.1, own e32 v_195 x_192.2.1, OE.bx b_10 [slV v_4 e32.sz 0 x_3.1.2, slV v_7 e32.sz 0 x_3.2.1.2, vB x_3.2.2], own e8 v_13 x_163, own e8 v_17 x_178, own e8 v_160 x_157.2.1] := hS
 refine wpR_run 1 rfl ?_
 refine wpR_nil (QE_then_n (wpC_seq (wpC_region (wpR_run 1 rfl ?_))))
 refine wpR_v (OpV_ldBs (us := [slV v_4 e32.sz 0 x_3.1.2, slV v_7 e32.sz 0 x_3.2.1.2, vB x_3.2.2]) Tryz.underlying27 rfl sz27 rfl (hS.bxs 16 rfl rfl)) rfl ?_
 obtain ⟨x_230, hx_230, h⟩ := obind_some h
 refine wpR_call (by kernel_rfl) rfl (c_curve_Encode _ a0 x_197.1 x_197.2 x_3.2.2 (slV v_4 e32.sz 0 x_3.1.2) (slV v_7 e32.sz 0 x_3.2.1.2)  (hS.ro 12 rfl).rp (hS.ro 13 rfl).rp _ hx_230) rfl ?_
 rintro _ w ⟨v_231, v_233, rfl, hS1⟩
 have hS := hS.call hS1
 simp only [List.cons_append, List.nil_append] at hS
 refine wpR_run 7 rfl ?_
 refine wpR_nil (QE_then_n (wpC_seq (wpC_region (wpR_v (OpV_ldBs (us := [v_224, v_226, vB x_223.2.2.1]) Tryz.underlying27 rfl sz27 rfl (hS.bxs 2 rfl rfl)) rfl ?_))))
 refine wpR_v (OpV_ldBs (us := [v_207, v_209, vB x_206.2.2.1]) Tryz.underlying27 rfl sz27 rfl (hS.bxs 9 rfl rfl)) rfl ?_
 obtain ⟨x_235, hx_235, h⟩ := obind_some h
 refine wpR_call (by kernel_rfl) rfl (c_law11_same _ x_223.1 x_223.2.1 x_223.2.2.1 x_206.1 x_206.2.1 x_206.2.2.1 v_224 v_226 v_207 v_209  (hS.ro 3 rfl).rp (hS.ro 4 rfl).rp (hS.ro 10 rfl).rp (hS.ro 11 rfl).rp _ hx_235) rfl ?_
 rintro _ w ⟨rfl, hS1⟩
 have hS := hS.call hS1
 simp only [List.cons_append, List.nil_append] at hS
 refine wpR_run 1 rfl ?_
 cases hb_236 : x_235
 case true =>
  have h := if_t h hb_236
  try simp only [hb_236]
  refine wpR_run 5 rfl ?_
  cases hb_237 : (x_223.2.2.2 == x_206.2.2.2)
  case true =>
   have h := if_t h hb_237
   try simp only [hb_237]
   refine wpR_run 2 rfl ?_
   obtain ⟨x_238, hx_238, h⟩ := obind_some h
   refine wpR_gcall (t := 341) rfl rfl (by kernel_rfl) rfl (c_law11_sameBytes _ x_230.1 x_218.1 v_231 v_219  (hS.ro 0 rfl).rp (hS.ro 5 rfl).rp _ hx_238) rfl ?_
   rintro _ w ⟨rfl, hS1⟩
   have hS := hS.call hS1
   simp only [List.cons_append, List.nil_append] at hS
   refine wpR_run 2 rfl ?_
   cases hb_239 : x_238
   case true =>
    have h := if_t h hb_239
    try simp only [hb_239]
    refine wpR_run 2 rfl ?_
    obtain ⟨x_240, hx_240, h⟩ := obind_some h
    refine wpR_gcall (t := 346) rfl rfl (by kernel_rfl) rfl (c_law11_sameBytes _ x_230.2.1 x_218.2.1 v_233 v_221  (hS.ro 1 rfl).rp (hS.ro 6 rfl).rp _ hx_240) rfl ?_
    rintro _ w ⟨rfl, hS1⟩
    have hS := hS.call hS1
    simp only [List.cons_append, List.nil_append] at hS
    refine wpR_run 2 rfl ?_
    cases hb_241 : x_240
    case true =>
     have h := if_t h hb_241
     try simp only [hb_241]
     refine wpR_run 5 rfl ?_
     refine wpR_nil (QE_then_n (wpC_ret ?_))
     cases h
     exact QE_ret1 rfl rfl ⟨rfl, hS.pick [] (by decide) rfl⟩
    case false =>
     have h := if_f h hb_241
     try simp only [hb_241]
     refine wpR_run 5 rfl ?_
     refine wpR_nil (QE_then_n (wpC_ret ?_))
     cases h
     exact QE_ret1 rfl rfl ⟨rfl, hS.pick [] (by decide) rfl⟩
   case false =>
    have h := if_f h hb_239
    try simp only [hb_239]
    refine wpR_run 10 rfl ?_
    refine wpR_nil (QE_then_n (wpC_ret ?_))
    cases h
    exact QE_ret1 rfl rfl ⟨rfl, hS.pick [] (by decide) rfl⟩
  case false =>
   have h := if_f h hb_237
   try simp only [hb_237]
   refine wpR_run 15 rfl ?_
   refine wpR_nil (QE_then_n (wpC_ret ?_))
   cases h
   exact QE_ret1 rfl rfl ⟨rfl, hS.pick [] (by decide) rfl⟩
 case false =>
  have h := if_f h hb_236
  try simp only [hb_236]
  refine wpR_run 20 rfl ?_
  refine wpR_nil (QE_then_n (wpC_ret ?_))
  cases h
  exact QE_ret1 rfl rfl ⟨rfl, hS.pick [] (by decide) rfl⟩
end Go.Proofs
