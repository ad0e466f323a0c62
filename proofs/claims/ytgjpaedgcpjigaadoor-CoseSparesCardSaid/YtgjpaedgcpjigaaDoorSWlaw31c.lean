import Derived.Test.YtgjpaedgcpjigaaDoorSW0
import Derived.Test.YtgjpaedgcpjigaaDoorGkFlaw31
import Derived.Test.YtgjpaedgcpjigaaDoorSWcoseb
import Derived.Test.YtgjpaedgcpjigaaDoorSWlaw31b
set_option linter.unusedVariables false
set_option linter.unusedSimpArgs false
set_option linter.unusedVariables false
set_option maxRecDepth 4000
namespace Go.Proofs
open Go Go.RowKit Go.Gk
set_option maxHeartbeats 8000000 in
theorem c_law31_CoseSpares (w0 : World) (a0 : List UInt8) (a1 : List UInt8) (a2 : List UInt8) (va0 : Value) (va1 : Value) (va2 : Value) (hT : TB [] w0) (ha0 : RP [] w0 e8 va0 a0) (ha1 : RP [] w0 e8 va1 a1) (ha2 : RP [] w0 e8 va2 a2) (r : Bool)
  (h : F.law31_CoseSpares a0 a1 a2 = some r) : Calls Tryd.prog 6 #[va0, va1, va2] w0 (Ret fun v w => v = vB r ∧ St [] w0 w []) := by
 refine calls_at 364 Tryd.func6 rfl rfl rfl ?_
 have hS := St.start w0
 refine wpC_le [(0, va0), (1, va1), (2, va2)] ⟨rfl, rfl, rfl, trivial⟩ ?_
 unfold F.law31_CoseSpares at h
 refine wpC_seq (wpC_region (wpR_run 1 rfl ?_))
 refine wpR_nil (QE_then_n (wpC_seq (wpC_seq (wpC_region ?_))))
 obtain ⟨x_1, hx_1, h⟩ := obind_some h
 refine wpR_call (by kernel_rfl) rfl (c_law31_awake _    (hT.now hS.fr) _ hx_1) rfl ?_
 rintro _ w ⟨rfl, hS1⟩
 have hS := hS.call hS1
 simp only [List.cons_append, List.nil_append] at hS
 refine wpR_run 1 rfl ?_
 refine wpR_nil (QE_then_n ?_)
 refine wpC_cond rfl (fun hb_2 => ?_) (fun hb_2 => ?_)
 ·have h := if_t h hb_2
  refine wpC_seq (wpC_region (wpR_run 1 rfl ?_))
  refine wpR_nil (QE_then_n (wpC_ret (QE_then_r ?_)))
  cases h
  exact QE_ret1 rfl rfl ⟨rfl, hS⟩
 have h := if_f h hb_2
 refine wpC_skip (QE_then_n (wpC_seq (wpC_region (wpR_run 1 rfl ?_))))
 obtain ⟨x_3, hx_3, h⟩ := obind_some h
 refine wpR_call (by kernel_rfl) rfl (c_law31_roomy _ a0 va0  (ha0.now hS.fr).rp _ hx_3) rfl ?_
 rintro _ w ⟨v_4, rfl, hk_6, hS1⟩
 have hS := hS.call hS1
 simp only [List.cons_append, List.nil_append] at hS
 refine wpR_run 1 rfl ?_
 refine wpR_nil (QE_then_n (wpC_seq (wpC_region (wpR_run 1 rfl ?_))))
 obtain ⟨x_7, hx_7, h⟩ := obind_some h
 refine wpR_call (by kernel_rfl) rfl (c_law31_roomy _ a1 va1  (ha1.now hS.fr).rp _ hx_7) rfl ?_
 rintro _ w ⟨v_8, rfl, hk_10, hS1⟩
 have hS := hS.call hS1
 simp only [List.cons_append, List.nil_append] at hS
 refine wpR_run 1 rfl ?_
 refine wpR_nil (QE_then_n (wpC_seq (wpC_region (wpR_run 2 rfl ?_))))
 obtain ⟨x_11, hx_11, h⟩ := obind_some h
 refine wpR_call (by kernel_rfl) rfl (c_cose_Parse _ (x_3.1.take x_3.2) (x_7.1.take x_7.2) (slV v_4 e8.sz 0 x_3.2) (slV v_8 e8.sz 0 x_7.2)  (hT.now hS.fr) ((hS.ro 1 rfl).tk hk_6).rp ((hS.ro 0 rfl).tk hk_10).rp _ hx_11) rfl ?_
 rintro _ w ⟨v_12, v_14, v_16, v_18, rfl, hS1⟩
 have hS := hS.call hS1
 simp only [List.cons_append, List.nil_append] at hS
 refine wpR_run 13 rfl ?_
 refine wpR_nil (QE_then_n (wpC_seq (wpC_region (wpR_run 2 rfl ?_))))
 obtain ⟨x_20, hx_20, h⟩ := obind_some h
 refine wpR_call (by kernel_rfl) rfl (c_cose_Parse _ (x_3.1.take x_3.2) (x_7.1.take x_7.2) (slV v_4 e8.sz 0 x_3.2) (slV v_8 e8.sz 0 x_7.2)  (hT.now hS.fr) ((hS.ro 5 rfl).tk hk_6).rp ((hS.ro 4 rfl).tk hk_10).rp _ hx_20) rfl ?_
 rintro _ w ⟨v_21, v_23, v_25, v_27, rfl, hS1⟩
 have hS := hS.call hS1
 simp only [List.cons_append, List.nil_append] at hS
 refine wpR_run 13 rfl ?_
 refine wpR_nil (QE_then_n (wpC_seq ?_))
 refine seq_join (r := r) (fun (g : Bool) L w => L = [(0, va0), (1, va1), (2, va2), (7, slV v_4 e8.sz 0 x_3.2), (8, slV v_8 e8.sz 0 x_7.2), (10, v_12), (11, v_14), (12, v_16), (13, v_18), (16, v_21), (17, v_23), (18, v_25), (19, v_27), (101, vB g)] ∧ St [] w0 w [own e8 v_4 x_3.1, own e8 v_8 x_7.1, own e8 v_12 x_11.2.1, own e8 v_14 x_11.2.2.1, own e8 v_16 x_11.2.2.2.1, own e8 v_18 x_11.2.2.2.2.1, own e8 v_21 x_20.2.1, own e8 v_23 x_20.2.2.1, own e8 v_25 x_20.2.2.2.1, own e8 v_27 x_20.2.2.2.2.1]) (F.law31_CoseSpares_K1 x_11 x_20 a2 a0 a1 x_3 x_7) ?_ ?_
 rotate_left
 ·intro hK_39
  refine wpC_region (wpR_run 4 rfl ?_)
  cases hb_29 : (x_11.1 != x_20.1)
  case true =>
   have h := if_t h hb_29
   try simp only [hb_29]
   refine wpR_run 28 rfl ?_
   refine wpR_nil (QE_then_n ?_)
   exact wpC_le _ (by exact ⟨rfl, rfl, rfl, rfl, rfl, rfl, rfl, rfl, rfl, rfl, rfl, rfl, rfl, rfl, trivial⟩) (hK_39 true _ _ ⟨rfl, (hS.pick [9, 8, 4, 5, 6, 7, 0, 1, 2, 3] (by decide) rfl)⟩ h)
  case false =>
   have h := if_f h hb_29
   try simp only [hb_29]
   refine wpR_run 5 rfl ?_
   cases hb_30 : (x_11.2.2.2.2.2 != x_20.2.2.2.2.2)
   case true =>
    have h := if_t h hb_30
    try simp only [hb_30]
    refine wpR_run 23 rfl ?_
    refine wpR_nil (QE_then_n ?_)
    exact wpC_le _ (by exact ⟨rfl, rfl, rfl, rfl, rfl, rfl, rfl, rfl, rfl, rfl, rfl, rfl, rfl, rfl, trivial⟩) (hK_39 true _ _ ⟨rfl, (hS.pick [9, 8, 4, 5, 6, 7, 0, 1, 2, 3] (by decide) rfl)⟩ h)
   case false =>
    have h := if_f h hb_30
    try simp only [hb_30]
    refine wpR_run 2 rfl ?_
    obtain ⟨x_31, hx_31, h⟩ := obind_some h
    refine wpR_gcall (t := 78) rfl rfl (by kernel_rfl) rfl (c_law31_same _ x_11.2.1 x_20.2.1 v_12 v_21  (hS.ro 4 rfl).rp (hS.ro 0 rfl).rp _ hx_31) rfl ?_
    rintro _ w ⟨rfl, hS1⟩
    have hS := hS.call hS1
    simp only [List.cons_append, List.nil_append] at hS
    refine wpR_run 3 rfl ?_
    cases hb_32 : (!x_31)
    case true =>
     have h := if_t h hb_32
     try simp only [hb_32]
     refine wpR_run 17 rfl ?_
     refine wpR_nil (QE_then_n ?_)
     exact wpC_le _ (by exact ⟨rfl, rfl, rfl, rfl, rfl, rfl, rfl, rfl, rfl, rfl, rfl, rfl, rfl, rfl, trivial⟩) (hK_39 true _ _ ⟨rfl, (hS.pick [9, 8, 4, 5, 6, 7, 0, 1, 2, 3] (by decide) rfl)⟩ h)
    case false =>
     have h := if_f h hb_32
     try simp only [hb_32]
     refine wpR_run 2 rfl ?_
     obtain ⟨x_33, hx_33, h⟩ := obind_some h
     refine wpR_gcall (t := 84) rfl rfl (by kernel_rfl) rfl (c_law31_same _ x_11.2.2.1 x_20.2.2.1 v_14 v_23  (hS.ro 5 rfl).rp (hS.ro 1 rfl).rp _ hx_33) rfl ?_
     rintro _ w ⟨rfl, hS1⟩
     have hS := hS.call hS1
     simp only [List.cons_append, List.nil_append] at hS
     refine wpR_run 3 rfl ?_
     cases hb_34 : (!x_33)
     case true =>
      have h := if_t h hb_34
      try simp only [hb_34]
      refine wpR_run 11 rfl ?_
      refine wpR_nil (QE_then_n ?_)
      exact wpC_le _ (by exact ⟨rfl, rfl, rfl, rfl, rfl, rfl, rfl, rfl, rfl, rfl, rfl, rfl, rfl, rfl, trivial⟩) (hK_39 true _ _ ⟨rfl, (hS.pick [9, 8, 4, 5, 6, 7, 0, 1, 2, 3] (by decide) rfl)⟩ h)
     case false =>
      have h := if_f h hb_34
      try simp only [hb_34]
      refine wpR_run 2 rfl ?_
      obtain ⟨x_35, hx_35, h⟩ := obind_some h
      refine wpR_gcall (t := 90) rfl rfl (by kernel_rfl) rfl (c_law31_same _ x_11.2.2.2.1 x_20.2.2.2.1 v_16 v_25  (hS.ro 6 rfl).rp (hS.ro 2 rfl).rp _ hx_35) rfl ?_
      rintro _ w ⟨rfl, hS1⟩
      have hS := hS.call hS1
      simp only [List.cons_append, List.nil_append] at hS
      refine wpR_run 3 rfl ?_
      cases hb_36 : (!x_35)
      case true =>
       have h := if_t h hb_36
       try simp only [hb_36]
       refine wpR_run 5 rfl ?_
       refine wpR_nil (QE_then_n ?_)
       exact wpC_le _ (by exact ⟨rfl, rfl, rfl, rfl, rfl, rfl, rfl, rfl, rfl, rfl, rfl, rfl, rfl, rfl, trivial⟩) (hK_39 true _ _ ⟨rfl, (hS.pick [9, 8, 4, 5, 6, 7, 0, 1, 2, 3] (by decide) rfl)⟩ h)
      case false =>
       have h := if_f h hb_36
       try simp only [hb_36]
       refine wpR_run 2 rfl ?_
       obtain ⟨x_37, hx_37, h⟩ := obind_some h
       refine wpR_gcall (t := 96) rfl rfl (by kernel_rfl) rfl (c_law31_same _ x_11.2.2.2.2.1 x_20.2.2.2.2.1 v_18 v_27  (hS.ro 7 rfl).rp (hS.ro 3 rfl).rp _ hx_37) rfl ?_
       rintro _ w ⟨rfl, hS1⟩
       have hS := hS.call hS1
       simp only [List.cons_append, List.nil_append] at hS
       refine wpR_run 2 rfl ?_
       refine wpR_nil (QE_then_n ?_)
       exact wpC_le _ (by exact ⟨rfl, rfl, rfl, rfl, rfl, rfl, rfl, rfl, rfl, rfl, rfl, rfl, rfl, rfl, trivial⟩) (hK_39 (!x_37) _ _ ⟨rfl, (hS.pick [9, 8, 4, 5, 6, 7, 0, 1, 2, 3] (by decide) rfl)⟩ h)
 rintro x_38 L w hJ h
 try dsimp only at hJ
 obtain ⟨rfl, hS⟩ := hJ
 unfold F.law31_CoseSpares_K1 at h
 refine wpC_cond rfl (fun hb_40 => ?_) (fun hb_40 => ?_)
 ·have h := if_t h hb_40
  refine wpC_seq (wpC_region (wpR_run 1 rfl ?_))
  refine wpR_nil (QE_then_n (wpC_ret (QE_then_r ?_)))
  cases h
  exact QE_ret1 rfl rfl ⟨rfl, hS.pick [] (by decide) rfl⟩
 have h := if_f h hb_40
 refine wpC_skip (QE_then_n (wpC_seq (wpC_region (wpR_run 8 rfl ?_))))
 refine wpR_x (OpX_lit (e := eV) (l := ([SV.of v_12, SV.of v_14, SV.of v_16, SV.of v_18, SV.of v_21, SV.of v_23, SV.of v_25, SV.of v_27] : List SV)) (vs := [v_12, v_14, v_16, v_18, v_21, v_23, v_25, v_27]) Tryd.underlying53 ti22 rfl rfl rfl (fl_eVc (hS.ro 2 rfl).sv (fl_eVc (hS.ro 3 rfl).sv (fl_eVc (hS.ro 4 rfl).sv (fl_eVc (hS.ro 5 rfl).sv (fl_eVc (hS.ro 6 rfl).sv (fl_eVc (hS.ro 7 rfl).sv (fl_eVc (hS.ro 8 rfl).sv (fl_eVc (hS.ro 9 rfl).sv rfl)))))))) (by decide) (by decide) hS) rfl ?_
 rintro v_41 w hS
 refine wpR_run 1 rfl ?_
 refine wpR_nil (QE_then_n (wpC_seq (wpC_region (wpR_run 1 rfl ?_))))
 refine wpR_nil (QE_then_n (wpC_seq (wpC_seq (wpC_region (wpR_run 1 rfl ?_)))))
 refine wpR_nil (QE_then_n (wpC_block ?_))
 refine wpC_loop 100 ?_
 refine wpN_succ ?_
 refine wpC_seq (wpC_seq (wpC_region (wpR_run 1 rfl ?_)))
 refine wpR_v (OpV_bin rfl rfl (b_ilss _ 0 4)) rfl ?_
 refine wpR_nil (QE_then_n (wpC_condT rfl ?_))
 refine wpC_skip (QE_then_n (wpC_seq (wpC_block ?_)))
 refine wpC_region (wpR_run 3 rfl ?_)
 refine wpR_v (G_ix Tryd.underlying53 ti22 rfl rfl (hS.ro 0 rfl) (show getO ([SV.of v_12, SV.of v_14, SV.of v_16, SV.of v_18, SV.of v_21, SV.of v_23, SV.of v_25, SV.of v_27] : List SV) (0 : Int) = some (SV.of v_12) from rfl)) rfl ?_
 refine wpR_v (G_load Tryd.underlying22 rfl rfl (hS.ro 0 rfl) (show getO ([SV.of v_12, SV.of v_14, SV.of v_16, SV.of v_18, SV.of v_21, SV.of v_23, SV.of v_25, SV.of v_27] : List SV) (0 : Int) = some (SV.of v_12) from rfl) (eVc (hS.ro 3 rfl).sv)) rfl ?_
 obtain ⟨x_43, hx_43, h⟩ := obind_some h
 refine wpR_call (by kernel_rfl) rfl (c_law31_roomy _ x_11.2.1 v_12  (hS.ro 3 rfl).rp _ hx_43) rfl ?_
 rintro _ w ⟨v_44, rfl, hk_46, hS1⟩
 have hS := hS.call hS1
 simp only [List.cons_append, List.nil_append] at hS
 refine wpR_x (OpX_lit (e := eV) (l := ([SV.of (slV v_44 e8.sz 0 x_43.2)] : List SV)) (vs := [slV v_44 e8.sz 0 x_43.2]) Tryd.underlying53 ti22 rfl rfl rfl (fl_eVc ((hS.ro 0 rfl).tk hk_46).sv rfl) (by decide) (by decide) hS) rfl ?_
 rintro v_47 w hS
 refine wpR_x (G_append0 Tryd.underlying53 ti22 rfl rfl rfl hS (hS.ro 0 rfl) (apO_v rfl)) rfl ?_
 rintro v_49 w hS
 replace hS : St _ w0 w [own eV v_49 ([SV.of (slV v_44 e8.sz 0 x_43.2)] : List SV), own eV v_47 ([SV.of (slV v_44 e8.sz 0 x_43.2)] : List SV), own e8 v_44 x_43.1, own eV v_41 ([SV.of v_12, SV.of v_14, SV.of v_16, SV.of v_18, SV.of v_21, SV.of v_23, SV.of v_25, SV.of v_27] : List SV), own e8 v_4 x_3.1, own e8 v_8 x_7.1, own e8 v_12 x_11.2.1, own e8 v_14 x_11.2.2.1, own e8 v_16 x_11.2.2.2.1, own e8 v_18 x_11.2.2.2.2.1, own e8 v_21 x_20.2.1, own e8 v_23 x_20.2.2.1, own e8 v_25 x_20.2.2.2.1, own e8 v_27 x_20.2.2.2.2.1] := hS
 refine wpR_run 1 rfl ?_
 refine wpR_nil (QE_blk_n ?_)
 refine QE_then_n (wpC_region (wpR_run 1 rfl ?_))
 refine wpR_v (OpV_bin rfl rfl (b_iadd _ 0 1)) rfl ?_
 refine wpR_run 1 rfl ?_
 refine wpR_nil (QE_rnd ?_)
 refine wpN_succ ?_
 refine wpC_seq (wpC_seq (wpC_region (wpR_run 1 rfl ?_)))
 refine wpR_v (OpV_bin rfl rfl (b_ilss _ 1 4)) rfl ?_
 refine wpR_nil (QE_then_n (wpC_condT rfl ?_))
 refine wpC_skip (QE_then_n (wpC_seq (wpC_block ?_)))
 refine wpC_region (wpR_run 3 rfl ?_)
 refine wpR_v (G_ix Tryd.underlying53 ti22 rfl rfl (hS.ro 3 rfl) (show getO ([SV.of v_12, SV.of v_14, SV.of v_16, SV.of v_18, SV.of v_21, SV.of v_23, SV.of v_25, SV.of v_27] : List SV) (1 : Int) = some (SV.of v_14) from rfl)) rfl ?_
 refine wpR_v (G_load Tryd.underlying22 rfl rfl (hS.ro 3 rfl) (show getO ([SV.of v_12, SV.of v_14, SV.of v_16, SV.of v_18, SV.of v_21, SV.of v_23, SV.of v_25, SV.of v_27] : List SV) (1 : Int) = some (SV.of v_14) from rfl) (eVc (hS.ro 7 rfl).sv)) rfl ?_
 obtain ⟨x_51, hx_51, h⟩ := obind_some h
 refine wpR_call (by kernel_rfl) rfl (c_law31_roomy _ x_11.2.2.1 v_14  (hS.ro 7 rfl).rp _ hx_51) rfl ?_
 rintro _ w ⟨v_52, rfl, hk_54, hS1⟩
 have hS := hS.call hS1
 simp only [List.cons_append, List.nil_append] at hS
 refine wpR_x (OpX_lit (e := eV) (l := ([SV.of (slV v_52 e8.sz 0 x_51.2)] : List SV)) (vs := [slV v_52 e8.sz 0 x_51.2]) Tryd.underlying53 ti22 rfl rfl rfl (fl_eVc ((hS.ro 0 rfl).tk hk_54).sv rfl) (by decide) (by decide) hS) rfl ?_
 rintro v_55 w hS
 refine wpR_x (G_append Tryd.underlying53 ti22 rfl rfl rfl hS (i := 2) rfl (hS.ro 0 rfl) (apO_v rfl)) rfl ?_
 rintro v_57 w hS
 replace hS : St _ w0 w [own eV v_55 ([SV.of (slV v_52 e8.sz 0 x_51.2)] : List SV), own e8 v_52 x_51.1, own eV v_57 ([SV.of (slV v_44 e8.sz 0 x_43.2), SV.of (slV v_52 e8.sz 0 x_51.2)] : List SV), own eV v_47 ([SV.of (slV v_44 e8.sz 0 x_43.2)] : List SV), own e8 v_44 x_43.1, own eV v_41 ([SV.of v_12, SV.of v_14, SV.of v_16, SV.of v_18, SV.of v_21, SV.of v_23, SV.of v_25, SV.of v_27] : List SV), own e8 v_4 x_3.1, own e8 v_8 x_7.1, own e8 v_12 x_11.2.1, own e8 v_14 x_11.2.2.1, own e8 v_16 x_11.2.2.2.1, own e8 v_18 x_11.2.2.2.2.1, own e8 v_21 x_20.2.1, own e8 v_23 x_20.2.2.1, own e8 v_25 x_20.2.2.2.1, own e8 v_27 x_20.2.2.2.2.1] := hS
 refine wpR_run 1 rfl ?_
 refine wpR_nil (QE_blk_n ?_)
 refine QE_then_n (wpC_region (wpR_run 1 rfl ?_))
 refine wpR_v (OpV_bin rfl rfl (b_iadd _ 1 1)) rfl ?_
 refine wpR_run 1 rfl ?_
 refine wpR_nil (QE_rnd ?_)
 refine wpN_succ ?_
 refine wpC_seq (wpC_seq (wpC_region (wpR_run 1 rfl ?_)))
 refine wpR_v (OpV_bin rfl rfl (b_ilss _ 2 4)) rfl ?_
 refine wpR_nil (QE_then_n (wpC_condT rfl ?_))
 refine wpC_skip (QE_then_n (wpC_seq (wpC_block ?_)))
 refine wpC_region (wpR_run 3 rfl ?_)
 refine wpR_v (G_ix Tryd.underlying53 ti22 rfl rfl (hS.ro 5 rfl) (show getO ([SV.of v_12, SV.of v_14, SV.of v_16, SV.of v_18, SV.of v_21, SV.of v_23, SV.of v_25, SV.of v_27] : List SV) (2 : Int) = some (SV.of v_16) from rfl)) rfl ?_
 refine wpR_v (G_load Tryd.underlying22 rfl rfl (hS.ro 5 rfl) (show getO ([SV.of v_12, SV.of v_14, SV.of v_16, SV.of v_18, SV.of v_21, SV.of v_23, SV.of v_25, SV.of v_27] : List SV) (2 : Int) = some (SV.of v_16) from rfl) (eVc (hS.ro 10 rfl).sv)) rfl ?_
 obtain ⟨x_59, hx_59, h⟩ := obind_some h
 refine wpR_call (by kernel_rfl) rfl (c_law31_roomy _ x_11.2.2.2.1 v_16  (hS.ro 10 rfl).rp _ hx_59) rfl ?_
 rintro _ w ⟨v_60, rfl, hk_62, hS1⟩
 have hS := hS.call hS1
 simp only [List.cons_append, List.nil_append] at hS
 refine wpR_x (OpX_lit (e := eV) (l := ([SV.of (slV v_60 e8.sz 0 x_59.2)] : List SV)) (vs := [slV v_60 e8.sz 0 x_59.2]) Tryd.underlying53 ti22 rfl rfl rfl (fl_eVc ((hS.ro 0 rfl).tk hk_62).sv rfl) (by decide) (by decide) hS) rfl ?_
 rintro v_63 w hS
 refine wpR_x (G_append Tryd.underlying53 ti22 rfl rfl rfl hS (i := 4) rfl (hS.ro 0 rfl) (apO_v rfl)) rfl ?_
 rintro v_65 w hS
 replace hS : St _ w0 w [own eV v_63 ([SV.of (slV v_60 e8.sz 0 x_59.2)] : List SV), own e8 v_60 x_59.1, own eV v_55 ([SV.of (slV v_52 e8.sz 0 x_51.2)] : List SV), own e8 v_52 x_51.1, own eV v_65 ([SV.of (slV v_44 e8.sz 0 x_43.2), SV.of (slV v_52 e8.sz 0 x_51.2), SV.of (slV v_60 e8.sz 0 x_59.2)] : List SV), own eV v_47 ([SV.of (slV v_44 e8.sz 0 x_43.2)] : List SV), own e8 v_44 x_43.1, own eV v_41 ([SV.of v_12, SV.of v_14, SV.of v_16, SV.of v_18, SV.of v_21, SV.of v_23, SV.of v_25, SV.of v_27] : List SV), own e8 v_4 x_3.1, own e8 v_8 x_7.1, own e8 v_12 x_11.2.1, own e8 v_14 x_11.2.2.1, own e8 v_16 x_11.2.2.2.1, own e8 v_18 x_11.2.2.2.2.1, own e8 v_21 x_20.2.1, own e8 v_23 x_20.2.2.1, own e8 v_25 x_20.2.2.2.1, own e8 v_27 x_20.2.2.2.2.1] := hS
 refine wpR_run 1 rfl ?_
 refine wpR_nil (QE_blk_n ?_)
 refine QE_then_n (wpC_region (wpR_run 1 rfl ?_))
 refine wpR_v (OpV_bin rfl rfl (b_iadd _ 2 1)) rfl ?_
 refine wpR_run 1 rfl ?_
 refine wpR_nil (QE_rnd ?_)
 refine wpN_succ ?_
 refine wpC_seq (wpC_seq (wpC_region (wpR_run 1 rfl ?_)))
 refine wpR_v (OpV_bin rfl rfl (b_ilss _ 3 4)) rfl ?_
 refine wpR_nil (QE_then_n (wpC_condT rfl ?_))
 refine wpC_skip (QE_then_n (wpC_seq (wpC_block ?_)))
 refine wpC_region (wpR_run 3 rfl ?_)
 refine wpR_v (G_ix Tryd.underlying53 ti22 rfl rfl (hS.ro 7 rfl) (show getO ([SV.of v_12, SV.of v_14, SV.of v_16, SV.of v_18, SV.of v_21, SV.of v_23, SV.of v_25, SV.of v_27] : List SV) (3 : Int) = some (SV.of v_18) from rfl)) rfl ?_
 refine wpR_v (G_load Tryd.underlying22 rfl rfl (hS.ro 7 rfl) (show getO ([SV.of v_12, SV.of v_14, SV.of v_16, SV.of v_18, SV.of v_21, SV.of v_23, SV.of v_25, SV.of v_27] : List SV) (3 : Int) = some (SV.of v_18) from rfl) (eVc (hS.ro 13 rfl).sv)) rfl ?_
 obtain ⟨x_67, hx_67, h⟩ := obind_some h
 refine wpR_call (by kernel_rfl) rfl (c_law31_roomy _ x_11.2.2.2.2.1 v_18  (hS.ro 13 rfl).rp _ hx_67) rfl ?_
 rintro _ w ⟨v_68, rfl, hk_70, hS1⟩
 have hS := hS.call hS1
 simp only [List.cons_append, List.nil_append] at hS
 refine wpR_x (OpX_lit (e := eV) (l := ([SV.of (slV v_68 e8.sz 0 x_67.2)] : List SV)) (vs := [slV v_68 e8.sz 0 x_67.2]) Tryd.underlying53 ti22 rfl rfl rfl (fl_eVc ((hS.ro 0 rfl).tk hk_70).sv rfl) (by decide) (by decide) hS) rfl ?_
 rintro v_71 w hS
 refine wpR_x (G_append Tryd.underlying53 ti22 rfl rfl rfl hS (i := 6) rfl (hS.ro 0 rfl) (apO_v rfl)) rfl ?_
 rintro v_73 w hS
 replace hS : St _ w0 w [own eV v_71 ([SV.of (slV v_68 e8.sz 0 x_67.2)] : List SV), own e8 v_68 x_67.1, own eV v_63 ([SV.of (slV v_60 e8.sz 0 x_59.2)] : List SV), own e8 v_60 x_59.1, own eV v_55 ([SV.of (slV v_52 e8.sz 0 x_51.2)] : List SV), own e8 v_52 x_51.1, own eV v_73 ([SV.of (slV v_44 e8.sz 0 x_43.2), SV.of (slV v_52 e8.sz 0 x_51.2), SV.of (slV v_60 e8.sz 0 x_59.2), SV.of (slV v_68 e8.sz 0 x_67.2)] : List SV), own eV v_47 ([SV.of (slV v_44 e8.sz 0 x_43.2)] : List SV), own e8 v_44 x_43.1, own eV v_41 ([SV.of v_12, SV.of v_14, SV.of v_16, SV.of v_18, SV.of v_21, SV.of v_23, SV.of v_25, SV.of v_27] : List SV), own e8 v_4 x_3.1, own e8 v_8 x_7.1, own e8 v_12 x_11.2.1, own e8 v_14 x_11.2.2.1, own e8 v_16 x_11.2.2.2.1, own e8 v_18 x_11.2.2.2.2.1, own e8 v_21 x_20.2.1, own e8 v_23 x_20.2.2.1, own e8 v_25 x_20.2.2.2.1, own e8 v_27 x_20.2.2.2.2.1] := hS
 refine wpR_run 1 rfl ?_
 refine wpR_nil (QE_blk_n ?_)
 refine QE_then_n (wpC_region (wpR_run 1 rfl ?_))
 refine wpR_v (OpV_bin rfl rfl (b_iadd _ 3 1)) rfl ?_
 refine wpR_run 1 rfl ?_
 refine wpR_nil (QE_rnd ?_)
 refine wpN_succ ?_
 refine wpC_seq (wpC_seq (wpC_region (wpR_run 1 rfl ?_)))
 refine wpR_v (OpV_bin rfl rfl (b_ilss _ 4 4)) rfl ?_
 refine wpR_nil (QE_then_n (wpC_condF rfl ?_))
 refine wpC_exit ?_
 refine QE_then_x (QE_then_x (QE_blk_x ?_))
 refine QE_then_n (wpC_seq (wpC_seq (wpC_region (wpR_run 1 rfl ?_))))
 refine wpR_nil (QE_then_n (wpC_block ?_))
 refine wpC_loop 100 ?_
 refine wpN_succ ?_
 refine wpC_seq (wpC_seq (wpC_region (wpR_run 2 rfl ?_)))
 refine wpR_v (show OpV _ _ _ _ _ (vI 8) _ from OpV_len Tryd.underlying53 rfl (hS.ro 9 rfl)) rfl ?_
 refine wpR_v (OpV_bin rfl rfl (b_ilss _ 0 8)) rfl ?_
 refine wpR_nil (QE_then_n (wpC_condT rfl ?_))
 refine wpC_skip (QE_then_n (wpC_seq (wpC_block ?_)))
 refine wpC_seq (wpC_seq ?_)
 refine wpC_regionT (fun w' => St [] w0 w' [own eV v_71 ([SV.of (slV v_68 e8.sz 0 x_67.2)] : List SV), own e8 v_68 x_67.1, own eV v_63 ([SV.of (slV v_60 e8.sz 0 x_59.2)] : List SV), own e8 v_60 x_59.1, own eV v_55 ([SV.of (slV v_52 e8.sz 0 x_51.2)] : List SV), own e8 v_52 x_51.1, own eV v_73 ([SV.of (slV v_44 e8.sz 0 x_43.2), SV.of (slV v_52 e8.sz 0 x_51.2), SV.of (slV v_60 e8.sz 0 x_59.2), SV.of (slV v_68 e8.sz 0 x_67.2)] : List SV), own eV v_47 ([SV.of (slV v_44 e8.sz 0 x_43.2)] : List SV), own e8 v_44 x_43.1, own eV v_41 ([SV.of v_12, SV.of v_14, SV.of v_16, SV.of v_18, SV.of v_21, SV.of v_23, SV.of v_25, SV.of v_27] : List SV), own e8 v_4 x_3.1, own e8 v_8 x_7.1, own e8 v_12 x_11.2.1, own e8 v_14 x_11.2.2.1, own e8 v_16 x_11.2.2.2.1, own e8 v_18 x_11.2.2.2.2.1, own e8 v_21 x_20.2.1, own e8 v_23 x_20.2.2.1, own e8 v_25 x_20.2.2.2.1, own e8 v_27 x_20.2.2.2.2.1]) (fun i => !([12].contains i)) hmix (fun _ _ _ hf => hf.2) (fun _ _ hf => hf) (by kernel_rfl) ?_
 have hS := hS.drew
 show lxE _ _ _ _ _ _ _ [0, 1, 2, 3, 4, 5, 6, 7, 8, 9, 10, 11, 12, 13, 14] _ _
 refine lxE_v hS rfl rfl (fun w hF => OpV_move rfl) rfl ?_
 refine lxE_v hS rfl rfl (fun w hF => OpV_bin rfl rfl (b_igeq _ 0 4)) rfl ?_
 refine lxE_v hS rfl rfl (fun w hF => OpV_move rfl) rfl ?_
 refine lxE_gskip (b := false) (t := 131) hS rfl rfl rfl rfl rfl rfl ?_
 refine lxE_gskip (b := false) (t := 131) hS rfl rfl rfl rfl rfl rfl ?_
 refine lxE_gskip (b := false) (t := 131) hS rfl rfl rfl rfl rfl rfl ?_
 refine lxE_gskip (b := false) (t := 131) hS rfl rfl rfl rfl rfl rfl ?_
 refine lxE_gskip (b := false) (t := 131) hS rfl rfl rfl rfl rfl rfl ?_
 refine lxE_gskip (b := false) (t := 131) hS rfl rfl rfl rfl rfl rfl ?_
 refine lxE_gskip (b := false) (t := 131) hS rfl rfl rfl rfl rfl rfl ?_
 refine lxE_gskip (b := false) (t := 131) hS rfl rfl rfl rfl rfl rfl ?_
 refine lxE_gskip (b := false) (t := 131) hS rfl rfl rfl rfl rfl rfl ?_
 refine lxE_gskipL (b := false) (t := 131) hS rfl rfl rfl rfl rfl rfl ?_
 refine lxE_gskip (b := false) (t := 131) hS rfl rfl rfl rfl rfl rfl ?_
 refine lxE_v hS rfl rfl (fun w hF => OpV_pickF rfl rfl) rfl ?_
 refine lxE_nil hS ?_
 refine QE_then_n (wpC_condF rfl ?_)
 refine wpC_skip (QE_then_n (wpC_seq (wpC_region (wpR_run 1 rfl ?_))))
 refine wpR_v (OpV_bin rfl rfl (b_ilss _ 0 4)) rfl ?_
 refine wpR_nil (QE_then_n (wpC_condT rfl ?_))
 refine wpC_seq (wpC_region (wpR_run 1 rfl ?_))
 refine wpR_nil (QE_then_n (wpC_block ?_))
 refine wpC_le [(0, va0), (1, va1), (2, va2), (7, slV v_4 e8.sz 0 x_3.2), (8, slV v_8 e8.sz 0 x_7.2), (21, v_41), (22, v_73), (24, vI 0), (25, vI 0)] ⟨rfl, rfl, rfl, rfl, rfl, rfl, rfl, rfl, rfl, trivial⟩ ?_
 refine loop_ind (F.law31_CoseSpares_L1 x_11 x_20 x_43 x_51 x_59 x_67 a2 a0 a1 x_3 x_7) (fun (s : Int × List UInt8) L w => L = [(0, va0), (1, va1), (2, va2), (7, slV v_4 e8.sz 0 x_3.2), (8, slV v_8 e8.sz 0 x_7.2), (21, v_41), (22, v_73), (24, vI 0), (25, vI s.1)] ∧ St [] w0 w [own e8 v_4 x_3.1, own e8 v_8 x_7.1, own eV v_41 ([SV.of v_12, SV.of v_14, SV.of v_16, SV.of v_18, SV.of v_21, SV.of v_23, SV.of v_25, SV.of v_27] : List SV), own e8 v_12 s.2, own e8 v_14 x_11.2.2.1, own e8 v_16 x_11.2.2.2.1, own e8 v_18 x_11.2.2.2.2.1, own e8 v_21 x_20.2.1, own e8 v_23 x_20.2.2.1, own e8 v_25 x_20.2.2.2.1, own e8 v_27 x_20.2.2.2.2.1, own eV v_73 ([SV.of (slV v_44 e8.sz 0 x_43.2), SV.of (slV v_52 e8.sz 0 x_51.2), SV.of (slV v_60 e8.sz 0 x_59.2), SV.of (slV v_68 e8.sz 0 x_67.2)] : List SV), own e8 v_44 x_43.1, own e8 v_52 x_51.1, own e8 v_60 x_59.1, own e8 v_68 x_67.1]) ?_ (0, x_11.2.1) ⟨rfl, (hS.pick [10, 11, 9, 12, 13, 14, 15, 16, 17, 18, 19, 6, 8, 5, 3, 1] (by decide) rfl)⟩ h
 rintro k_536 ⟨x_75, x_76⟩ L w q_79 hI ih_78 h hk_77
 try dsimp only at hI
 obtain ⟨rfl, hS⟩ := hI
 unfold F.law31_CoseSpares_L1 at h
 refine wpC_seq (wpC_seq (wpC_region (wpR_run 3 rfl ?_)))
 refine wpR_v (G_ix Tryd.underlying53 ti22 rfl rfl (hS.ro 2 rfl) (show getO ([SV.of v_12, SV.of v_14, SV.of v_16, SV.of v_18, SV.of v_21, SV.of v_23, SV.of v_25, SV.of v_27] : List SV) (0 : Int) = some (SV.of v_12) from rfl)) rfl ?_
 refine wpR_v (G_load Tryd.underlying22 rfl rfl (hS.ro 2 rfl) (show getO ([SV.of v_12, SV.of v_14, SV.of v_16, SV.of v_18, SV.of v_21, SV.of v_23, SV.of v_25, SV.of v_27] : List SV) (0 : Int) = some (SV.of v_12) from rfl) (eVc (hS.ro 3 rfl).sv)) rfl ?_
 refine wpR_v (OpV_len Tryd.underlying22 rfl (hS.ro 3 rfl)) rfl ?_
 refine wpR_run 1 rfl ?_
 refine wpR_nil (QE_then_n ?_)
 refine wpC_cond rfl (fun hb_80 => ?_) (fun hb_80 => ?_)
 ·have h := if_t h hb_80
  refine wpC_skip (QE_then_n (wpC_seq (wpC_block ?_)))
  refine wpC_region (wpR_run 2 rfl ?_)
  refine wpR_v (G_ix Tryd.underlying53 ti22 rfl rfl (hS.ro 2 rfl) (show getO ([SV.of v_12, SV.of v_14, SV.of v_16, SV.of v_18, SV.of v_21, SV.of v_23, SV.of v_25, SV.of v_27] : List SV) (0 : Int) = some (SV.of v_12) from rfl)) rfl ?_
  refine wpR_v (G_load Tryd.underlying22 rfl rfl (hS.ro 2 rfl) (show getO ([SV.of v_12, SV.of v_14, SV.of v_16, SV.of v_18, SV.of v_21, SV.of v_23, SV.of v_25, SV.of v_27] : List SV) (0 : Int) = some (SV.of v_12) from rfl) (eVc (hS.ro 3 rfl).sv)) rfl ?_
  refine wpR_run 2 rfl ?_
  refine wpR_v (OpV_bin rfl rfl (b_iadd _ 60 0)) rfl ?_
  refine wpR_v (OpV_conv rfl (cv_i_8 Tryd.underlying3 Tryd.underlying5 60)) rfl ?_
  obtain ⟨x_81, hx_81, h⟩ := obind_some h
  refine wpR_v (G_ix Tryd.underlying22 ti5 rfl rfl (hS.ro 3 rfl) hx_81) rfl ?_
  refine wpR_y (G_storeE (t := (UInt8.ofInt 60)) ti5 rfl rfl hS (i := 3) rfl hx_81 rfl) ?_
  intro w hS
  obtain ⟨x_82, hx_82, h⟩ := olet_some h
  rw [hx_82] at hS
  refine wpR_nil (QE_blk_n ?_)
  refine QE_then_n (wpC_region (wpR_run 3 rfl ?_))
  refine wpR_nil ?_
  exact QE_rnd (wpN_le _ (by exact ⟨rfl, rfl, rfl, rfl, rfl, rfl, rfl, rfl, rfl, trivial⟩) (ih_78 (wI (x_75 + 1), x_82) _ _ ⟨rfl, hS⟩ (oinl_some h hk_77)))
 have h := if_f h hb_80
 refine wpC_exit ?_
 refine QE_then_x (QE_then_x ?_)
 have h := oinr_some h hk_77
 refine QE_blk_x ?_
 refine QE_blk_n ?_
 refine QE_then_n (wpC_region (wpR_run 1 rfl ?_))
 refine wpR_v (OpV_bin rfl rfl (b_iadd _ 0 1)) rfl ?_
 refine wpR_run 1 rfl ?_
 refine wpR_nil (QE_rnd ?_)
 refine wpN_succ ?_
 refine wpC_seq (wpC_seq (wpC_region (wpR_run 2 rfl ?_)))
 refine wpR_v (show OpV _ _ _ _ _ (vI 8) _ from OpV_len Tryd.underlying53 rfl (hS.ro 2 rfl)) rfl ?_
 refine wpR_v (OpV_bin rfl rfl (b_ilss _ 1 8)) rfl ?_
 refine wpR_nil (QE_then_n (wpC_condT rfl ?_))
 refine wpC_skip (QE_then_n (wpC_seq (wpC_block ?_)))
 refine wpC_seq (wpC_seq ?_)
 refine wpC_regionT (fun w' => St [] w0 w' [own e8 v_4 x_3.1, own e8 v_8 x_7.1, own eV v_41 ([SV.of v_12, SV.of v_14, SV.of v_16, SV.of v_18, SV.of v_21, SV.of v_23, SV.of v_25, SV.of v_27] : List SV), own e8 v_12 x_76, own e8 v_14 x_11.2.2.1, own e8 v_16 x_11.2.2.2.1, own e8 v_18 x_11.2.2.2.2.1, own e8 v_21 x_20.2.1, own e8 v_23 x_20.2.2.1, own e8 v_25 x_20.2.2.2.1, own e8 v_27 x_20.2.2.2.2.1, own eV v_73 ([SV.of (slV v_44 e8.sz 0 x_43.2), SV.of (slV v_52 e8.sz 0 x_51.2), SV.of (slV v_60 e8.sz 0 x_59.2), SV.of (slV v_68 e8.sz 0 x_67.2)] : List SV), own e8 v_44 x_43.1, own e8 v_52 x_51.1, own e8 v_60 x_59.1, own e8 v_68 x_67.1]) (fun i => !([12].contains i)) hmix (fun _ _ _ hf => hf.2) (fun _ _ hf => hf) (by kernel_rfl) ?_
 have hS := hS.drew
 show lxE _ _ _ _ _ _ _ [0, 1, 2, 3, 4, 5, 6, 7, 8, 9, 10, 11, 12, 13, 14] _ _
 refine lxE_v hS rfl rfl (fun w hF => OpV_move rfl) rfl ?_
 refine lxE_v hS rfl rfl (fun w hF => OpV_bin rfl rfl (b_igeq _ 1 4)) rfl ?_
 refine lxE_v hS rfl rfl (fun w hF => OpV_move rfl) rfl ?_
 refine lxE_gskip (b := false) (t := 131) hS rfl rfl rfl rfl rfl rfl ?_
 refine lxE_gskip (b := false) (t := 131) hS rfl rfl rfl rfl rfl rfl ?_
 refine lxE_gskip (b := false) (t := 131) hS rfl rfl rfl rfl rfl rfl ?_
 refine lxE_gskip (b := false) (t := 131) hS rfl rfl rfl rfl rfl rfl ?_
 refine lxE_gskip (b := false) (t := 131) hS rfl rfl rfl rfl rfl rfl ?_
 refine lxE_gskip (b := false) (t := 131) hS rfl rfl rfl rfl rfl rfl ?_
 refine lxE_gskip (b := false) (t := 131) hS rfl rfl rfl rfl rfl rfl ?_
 refine lxE_gskip (b := false) (t := 131) hS rfl rfl rfl rfl rfl rfl ?_
 refine lxE_gskip (b := false) (t := 131) hS rfl rfl rfl rfl rfl rfl ?_
 refine lxE_gskipL (b := false) (t := 131) hS rfl rfl rfl rfl rfl rfl ?_
 refine lxE_gskip (b := false) (t := 131) hS rfl rfl rfl rfl rfl rfl ?_
 refine lxE_v hS rfl rfl (fun w hF => OpV_pickF rfl rfl) rfl ?_
 refine lxE_nil hS ?_
 refine QE_then_n (wpC_condF rfl ?_)
 refine wpC_skip (QE_then_n (wpC_seq (wpC_region (wpR_run 1 rfl ?_))))
 refine wpR_v (OpV_bin rfl rfl (b_ilss _ 1 4)) rfl ?_
 refine wpR_nil (QE_then_n (wpC_condT rfl ?_))
 refine wpC_seq (wpC_region (wpR_run 1 rfl ?_))
 refine wpR_nil (QE_then_n (wpC_block ?_))
 refine wpC_le [(0, va0), (1, va1), (2, va2), (7, slV v_4 e8.sz 0 x_3.2), (8, slV v_8 e8.sz 0 x_7.2), (21, v_41), (22, v_73), (24, vI 1), (25, vI 0)] ⟨rfl, rfl, rfl, rfl, rfl, rfl, rfl, rfl, rfl, trivial⟩ ?_
 refine loop_ind (F.law31_CoseSpares_L2 x_11 x_20 x_43 x_51 x_59 x_67 x_76 a2 a0 a1 x_3 x_7) (fun (s : Int × List UInt8) L w => L = [(0, va0), (1, va1), (2, va2), (7, slV v_4 e8.sz 0 x_3.2), (8, slV v_8 e8.sz 0 x_7.2), (21, v_41), (22, v_73), (24, vI 1), (25, vI s.1)] ∧ St [] w0 w [own e8 v_4 x_3.1, own e8 v_8 x_7.1, own eV v_41 ([SV.of v_12, SV.of v_14, SV.of v_16, SV.of v_18, SV.of v_21, SV.of v_23, SV.of v_25, SV.of v_27] : List SV), own e8 v_12 x_76, own e8 v_14 s.2, own e8 v_16 x_11.2.2.2.1, own e8 v_18 x_11.2.2.2.2.1, own e8 v_21 x_20.2.1, own e8 v_23 x_20.2.2.1, own e8 v_25 x_20.2.2.2.1, own e8 v_27 x_20.2.2.2.2.1, own eV v_73 ([SV.of (slV v_44 e8.sz 0 x_43.2), SV.of (slV v_52 e8.sz 0 x_51.2), SV.of (slV v_60 e8.sz 0 x_59.2), SV.of (slV v_68 e8.sz 0 x_67.2)] : List SV), own e8 v_44 x_43.1, own e8 v_52 x_51.1, own e8 v_60 x_59.1, own e8 v_68 x_67.1]) ?_ (0, x_11.2.2.1) ⟨rfl, hS⟩ h
 rintro k_535 ⟨x_83, x_84⟩ L w q_87 hI ih_86 h hk_85
 try dsimp only at hI
 obtain ⟨rfl, hS⟩ := hI
 unfold F.law31_CoseSpares_L2 at h
 refine wpC_seq (wpC_seq (wpC_region (wpR_run 3 rfl ?_)))
 refine wpR_v (G_ix Tryd.underlying53 ti22 rfl rfl (hS.ro 2 rfl) (show getO ([SV.of v_12, SV.of v_14, SV.of v_16, SV.of v_18, SV.of v_21, SV.of v_23, SV.of v_25, SV.of v_27] : List SV) (1 : Int) = some (SV.of v_14) from rfl)) rfl ?_
 refine wpR_v (G_load Tryd.underlying22 rfl rfl (hS.ro 2 rfl) (show getO ([SV.of v_12, SV.of v_14, SV.of v_16, SV.of v_18, SV.of v_21, SV.of v_23, SV.of v_25, SV.of v_27] : List SV) (1 : Int) = some (SV.of v_14) from rfl) (eVc (hS.ro 4 rfl).sv)) rfl ?_
 refine wpR_v (OpV_len Tryd.underlying22 rfl (hS.ro 4 rfl)) rfl ?_
 refine wpR_run 1 rfl ?_
 refine wpR_nil (QE_then_n ?_)
 refine wpC_cond rfl (fun hb_88 => ?_) (fun hb_88 => ?_)
 ·have h := if_t h hb_88
  refine wpC_skip (QE_then_n (wpC_seq (wpC_block ?_)))
  refine wpC_region (wpR_run 2 rfl ?_)
  refine wpR_v (G_ix Tryd.underlying53 ti22 rfl rfl (hS.ro 2 rfl) (show getO ([SV.of v_12, SV.of v_14, SV.of v_16, SV.of v_18, SV.of v_21, SV.of v_23, SV.of v_25, SV.of v_27] : List SV) (1 : Int) = some (SV.of v_14) from rfl)) rfl ?_
  refine wpR_v (G_load Tryd.underlying22 rfl rfl (hS.ro 2 rfl) (show getO ([SV.of v_12, SV.of v_14, SV.of v_16, SV.of v_18, SV.of v_21, SV.of v_23, SV.of v_25, SV.of v_27] : List SV) (1 : Int) = some (SV.of v_14) from rfl) (eVc (hS.ro 4 rfl).sv)) rfl ?_
  refine wpR_run 2 rfl ?_
  refine wpR_v (OpV_bin rfl rfl (b_iadd _ 60 1)) rfl ?_
  refine wpR_v (OpV_conv rfl (cv_i_8 Tryd.underlying3 Tryd.underlying5 61)) rfl ?_
  obtain ⟨x_89, hx_89, h⟩ := obind_some h
  refine wpR_v (G_ix Tryd.underlying22 ti5 rfl rfl (hS.ro 4 rfl) hx_89) rfl ?_
  refine wpR_y (G_storeE (t := (UInt8.ofInt 61)) ti5 rfl rfl hS (i := 4) rfl hx_89 rfl) ?_
  intro w hS
  obtain ⟨x_90, hx_90, h⟩ := olet_some h
  rw [hx_90] at hS
  refine wpR_nil (QE_blk_n ?_)
  refine QE_then_n (wpC_region (wpR_run 3 rfl ?_))
  refine wpR_nil ?_
  exact QE_rnd (wpN_le _ (by exact ⟨rfl, rfl, rfl, rfl, rfl, rfl, rfl, rfl, rfl, trivial⟩) (ih_86 (wI (x_83 + 1), x_90) _ _ ⟨rfl, hS⟩ (oinl_some h hk_85)))
 have h := if_f h hb_88
 refine wpC_exit ?_
 refine QE_then_x (QE_then_x ?_)
 have h := oinr_some h hk_85
 refine QE_blk_x ?_
 refine QE_blk_n ?_
 refine QE_then_n (wpC_region (wpR_run 1 rfl ?_))
 refine wpR_v (OpV_bin rfl rfl (b_iadd _ 1 1)) rfl ?_
 refine wpR_run 1 rfl ?_
 refine wpR_nil (QE_rnd ?_)
 refine wpN_succ ?_
 refine wpC_seq (wpC_seq (wpC_region (wpR_run 2 rfl ?_)))
 refine wpR_v (show OpV _ _ _ _ _ (vI 8) _ from OpV_len Tryd.underlying53 rfl (hS.ro 2 rfl)) rfl ?_
 refine wpR_v (OpV_bin rfl rfl (b_ilss _ 2 8)) rfl ?_
 refine wpR_nil (QE_then_n (wpC_condT rfl ?_))
 refine wpC_skip (QE_then_n (wpC_seq (wpC_block ?_)))
 refine wpC_seq (wpC_seq ?_)
 refine wpC_regionT (fun w' => St [] w0 w' [own e8 v_4 x_3.1, own e8 v_8 x_7.1, own eV v_41 ([SV.of v_12, SV.of v_14, SV.of v_16, SV.of v_18, SV.of v_21, SV.of v_23, SV.of v_25, SV.of v_27] : List SV), own e8 v_12 x_76, own e8 v_14 x_84, own e8 v_16 x_11.2.2.2.1, own e8 v_18 x_11.2.2.2.2.1, own e8 v_21 x_20.2.1, own e8 v_23 x_20.2.2.1, own e8 v_25 x_20.2.2.2.1, own e8 v_27 x_20.2.2.2.2.1, own eV v_73 ([SV.of (slV v_44 e8.sz 0 x_43.2), SV.of (slV v_52 e8.sz 0 x_51.2), SV.of (slV v_60 e8.sz 0 x_59.2), SV.of (slV v_68 e8.sz 0 x_67.2)] : List SV), own e8 v_44 x_43.1, own e8 v_52 x_51.1, own e8 v_60 x_59.1, own e8 v_68 x_67.1]) (fun i => !([12].contains i)) hmix (fun _ _ _ hf => hf.2) (fun _ _ hf => hf) (by kernel_rfl) ?_
 have hS := hS.drew
 show lxE _ _ _ _ _ _ _ [0, 1, 2, 3, 4, 5, 6, 7, 8, 9, 10, 11, 12, 13, 14] _ _
 refine lxE_v hS rfl rfl (fun w hF => OpV_move rfl) rfl ?_
 refine lxE_v hS rfl rfl (fun w hF => OpV_bin rfl rfl (b_igeq _ 2 4)) rfl ?_
 refine lxE_v hS rfl rfl (fun w hF => OpV_move rfl) rfl ?_
 refine lxE_gskip (b := false) (t := 131) hS rfl rfl rfl rfl rfl rfl ?_
 refine lxE_gskip (b := false) (t := 131) hS rfl rfl rfl rfl rfl rfl ?_
 refine lxE_gskip (b := false) (t := 131) hS rfl rfl rfl rfl rfl rfl ?_
 refine lxE_gskip (b := false) (t := 131) hS rfl rfl rfl rfl rfl rfl ?_
 refine lxE_gskip (b := false) (t := 131) hS rfl rfl rfl rfl rfl rfl ?_
 refine lxE_gskip (b := false) (t := 131) hS rfl rfl rfl rfl rfl rfl ?_
 refine lxE_gskip (b := false) (t := 131) hS rfl rfl rfl rfl rfl rfl ?_
 refine lxE_gskip (b := false) (t := 131) hS rfl rfl rfl rfl rfl rfl ?_
 refine lxE_gskip (b := false) (t := 131) hS rfl rfl rfl rfl rfl rfl ?_
 refine lxE_gskipL (b := false) (t := 131) hS rfl rfl rfl rfl rfl rfl ?_
 refine lxE_gskip (b := false) (t := 131) hS rfl rfl rfl rfl rfl rfl ?_
 refine lxE_v hS rfl rfl (fun w hF => OpV_pickF rfl rfl) rfl ?_
 refine lxE_nil hS ?_
 refine QE_then_n (wpC_condF rfl ?_)
 refine wpC_skip (QE_then_n (wpC_seq (wpC_region (wpR_run 1 rfl ?_))))
 refine wpR_v (OpV_bin rfl rfl (b_ilss _ 2 4)) rfl ?_
 refine wpR_nil (QE_then_n (wpC_condT rfl ?_))
 refine wpC_seq (wpC_region (wpR_run 1 rfl ?_))
 refine wpR_nil (QE_then_n (wpC_block ?_))
 refine wpC_le [(0, va0), (1, va1), (2, va2), (7, slV v_4 e8.sz 0 x_3.2), (8, slV v_8 e8.sz 0 x_7.2), (21, v_41), (22, v_73), (24, vI 2), (25, vI 0)] ⟨rfl, rfl, rfl, rfl, rfl, rfl, rfl, rfl, rfl, trivial⟩ ?_
 refine loop_ind (F.law31_CoseSpares_L3 x_11 x_20 x_43 x_51 x_59 x_67 x_76 x_84 a2 a0 a1 x_3 x_7) (fun (s : Int × List UInt8) L w => L = [(0, va0), (1, va1), (2, va2), (7, slV v_4 e8.sz 0 x_3.2), (8, slV v_8 e8.sz 0 x_7.2), (21, v_41), (22, v_73), (24, vI 2), (25, vI s.1)] ∧ St [] w0 w [own e8 v_4 x_3.1, own e8 v_8 x_7.1, own eV v_41 ([SV.of v_12, SV.of v_14, SV.of v_16, SV.of v_18, SV.of v_21, SV.of v_23, SV.of v_25, SV.of v_27] : List SV), own e8 v_12 x_76, own e8 v_14 x_84, own e8 v_16 s.2, own e8 v_18 x_11.2.2.2.2.1, own e8 v_21 x_20.2.1, own e8 v_23 x_20.2.2.1, own e8 v_25 x_20.2.2.2.1, own e8 v_27 x_20.2.2.2.2.1, own eV v_73 ([SV.of (slV v_44 e8.sz 0 x_43.2), SV.of (slV v_52 e8.sz 0 x_51.2), SV.of (slV v_60 e8.sz 0 x_59.2), SV.of (slV v_68 e8.sz 0 x_67.2)] : List SV), own e8 v_44 x_43.1, own e8 v_52 x_51.1, own e8 v_60 x_59.1, own e8 v_68 x_67.1]) ?_ (0, x_11.2.2.2.1) ⟨rfl, hS⟩ h
 rintro k_534 ⟨x_91, x_92⟩ L w q_95 hI ih_94 h hk_93
 try dsimp only at hI
 obtain ⟨rfl, hS⟩ := hI
 unfold F.law31_CoseSpares_L3 at h
 refine wpC_seq (wpC_seq (wpC_region (wpR_run 3 rfl ?_)))
 refine wpR_v (G_ix Tryd.underlying53 ti22 rfl rfl (hS.ro 2 rfl) (show getO ([SV.of v_12, SV.of v_14, SV.of v_16, SV.of v_18, SV.of v_21, SV.of v_23, SV.of v_25, SV.of v_27] : List SV) (2 : Int) = some (SV.of v_16) from rfl)) rfl ?_
 refine wpR_v (G_load Tryd.underlying22 rfl rfl (hS.ro 2 rfl) (show getO ([SV.of v_12, SV.of v_14, SV.of v_16, SV.of v_18, SV.of v_21, SV.of v_23, SV.of v_25, SV.of v_27] : List SV) (2 : Int) = some (SV.of v_16) from rfl) (eVc (hS.ro 5 rfl).sv)) rfl ?_
 refine wpR_v (OpV_len Tryd.underlying22 rfl (hS.ro 5 rfl)) rfl ?_
 refine wpR_run 1 rfl ?_
 refine wpR_nil (QE_then_n ?_)
 refine wpC_cond rfl (fun hb_96 => ?_) (fun hb_96 => ?_)
 ·have h := if_t h hb_96
  refine wpC_skip (QE_then_n (wpC_seq (wpC_block ?_)))
  refine wpC_region (wpR_run 2 rfl ?_)
  refine wpR_v (G_ix Tryd.underlying53 ti22 rfl rfl (hS.ro 2 rfl) (show getO ([SV.of v_12, SV.of v_14, SV.of v_16, SV.of v_18, SV.of v_21, SV.of v_23, SV.of v_25, SV.of v_27] : List SV) (2 : Int) = some (SV.of v_16) from rfl)) rfl ?_
  refine wpR_v (G_load Tryd.underlying22 rfl rfl (hS.ro 2 rfl) (show getO ([SV.of v_12, SV.of v_14, SV.of v_16, SV.of v_18, SV.of v_21, SV.of v_23, SV.of v_25, SV.of v_27] : List SV) (2 : Int) = some (SV.of v_16) from rfl) (eVc (hS.ro 5 rfl).sv)) rfl ?_
  refine wpR_run 2 rfl ?_
  refine wpR_v (OpV_bin rfl rfl (b_iadd _ 60 2)) rfl ?_
  refine wpR_v (OpV_conv rfl (cv_i_8 Tryd.underlying3 Tryd.underlying5 62)) rfl ?_
  obtain ⟨x_97, hx_97, h⟩ := obind_some h
  refine wpR_v (G_ix Tryd.underlying22 ti5 rfl rfl (hS.ro 5 rfl) hx_97) rfl ?_
  refine wpR_y (G_storeE (t := (UInt8.ofInt 62)) ti5 rfl rfl hS (i := 5) rfl hx_97 rfl) ?_
  intro w hS
  obtain ⟨x_98, hx_98, h⟩ := olet_some h
  rw [hx_98] at hS
  refine wpR_nil (QE_blk_n ?_)
  refine QE_then_n (wpC_region (wpR_run 3 rfl ?_))
  refine wpR_nil ?_
  exact QE_rnd (wpN_le _ (by exact ⟨rfl, rfl, rfl, rfl, rfl, rfl, rfl, rfl, rfl, trivial⟩) (ih_94 (wI (x_91 + 1), x_98) _ _ ⟨rfl, hS⟩ (oinl_some h hk_93)))
 have h := if_f h hb_96
 refine wpC_exit ?_
 refine QE_then_x (QE_then_x ?_)
 have h := oinr_some h hk_93
 refine QE_blk_x ?_
 refine QE_blk_n ?_
 refine QE_then_n (wpC_region (wpR_run 1 rfl ?_))
 refine wpR_v (OpV_bin rfl rfl (b_iadd _ 2 1)) rfl ?_
 refine wpR_run 1 rfl ?_
 refine wpR_nil (QE_rnd ?_)
 refine wpN_succ ?_
 refine wpC_seq (wpC_seq (wpC_region (wpR_run 2 rfl ?_)))
 refine wpR_v (show OpV _ _ _ _ _ (vI 8) _ from OpV_len Tryd.underlying53 rfl (hS.ro 2 rfl)) rfl ?_
 refine wpR_v (OpV_bin rfl rfl (b_ilss _ 3 8)) rfl ?_
 refine wpR_nil (QE_then_n (wpC_condT rfl ?_))
 refine wpC_skip (QE_then_n (wpC_seq (wpC_block ?_)))
 refine wpC_seq (wpC_seq ?_)
 refine wpC_regionT (fun w' => St [] w0 w' [own e8 v_4 x_3.1, own e8 v_8 x_7.1, own eV v_41 ([SV.of v_12, SV.of v_14, SV.of v_16, SV.of v_18, SV.of v_21, SV.of v_23, SV.of v_25, SV.of v_27] : List SV), own e8 v_12 x_76, own e8 v_14 x_84, own e8 v_16 x_92, own e8 v_18 x_11.2.2.2.2.1, own e8 v_21 x_20.2.1, own e8 v_23 x_20.2.2.1, own e8 v_25 x_20.2.2.2.1, own e8 v_27 x_20.2.2.2.2.1, own eV v_73 ([SV.of (slV v_44 e8.sz 0 x_43.2), SV.of (slV v_52 e8.sz 0 x_51.2), SV.of (slV v_60 e8.sz 0 x_59.2), SV.of (slV v_68 e8.sz 0 x_67.2)] : List SV), own e8 v_44 x_43.1, own e8 v_52 x_51.1, own e8 v_60 x_59.1, own e8 v_68 x_67.1]) (fun i => !([12].contains i)) hmix (fun _ _ _ hf => hf.2) (fun _ _ hf => hf) (by kernel_rfl) ?_
 have hS := hS.drew
 show lxE _ _ _ _ _ _ _ [0, 1, 2, 3, 4, 5, 6, 7, 8, 9, 10, 11, 12, 13, 14] _ _
 refine lxE_v hS rfl rfl (fun w hF => OpV_move rfl) rfl ?_
 refine lxE_v hS rfl rfl (fun w hF => OpV_bin rfl rfl (b_igeq _ 3 4)) rfl ?_
 refine lxE_v hS rfl rfl (fun w hF => OpV_move rfl) rfl ?_
 refine lxE_gskip (b := false) (t := 131) hS rfl rfl rfl rfl rfl rfl ?_
 refine lxE_gskip (b := false) (t := 131) hS rfl rfl rfl rfl rfl rfl ?_
 refine lxE_gskip (b := false) (t := 131) hS rfl rfl rfl rfl rfl rfl ?_
 refine lxE_gskip (b := false) (t := 131) hS rfl rfl rfl rfl rfl rfl ?_
 refine lxE_gskip (b := false) (t := 131) hS rfl rfl rfl rfl rfl rfl ?_
 refine lxE_gskip (b := false) (t := 131) hS rfl rfl rfl rfl rfl rfl ?_
 refine lxE_gskip (b := false) (t := 131) hS rfl rfl rfl rfl rfl rfl ?_
 refine lxE_gskip (b := false) (t := 131) hS rfl rfl rfl rfl rfl rfl ?_
 refine lxE_gskip (b := false) (t := 131) hS rfl rfl rfl rfl rfl rfl ?_
 refine lxE_gskipL (b := false) (t := 131) hS rfl rfl rfl rfl rfl rfl ?_
 refine lxE_gskip (b := false) (t := 131) hS rfl rfl rfl rfl rfl rfl ?_
 refine lxE_v hS rfl rfl (fun w hF => OpV_pickF rfl rfl) rfl ?_
 refine lxE_nil hS ?_
 refine QE_then_n (wpC_condF rfl ?_)
 refine wpC_skip (QE_then_n (wpC_seq (wpC_region (wpR_run 1 rfl ?_))))
 refine wpR_v (OpV_bin rfl rfl (b_ilss _ 3 4)) rfl ?_
 refine wpR_nil (QE_then_n (wpC_condT rfl ?_))
 refine wpC_seq (wpC_region (wpR_run 1 rfl ?_))
 refine wpR_nil (QE_then_n (wpC_block ?_))
 refine wpC_le [(0, va0), (1, va1), (2, va2), (7, slV v_4 e8.sz 0 x_3.2), (8, slV v_8 e8.sz 0 x_7.2), (21, v_41), (22, v_73), (24, vI 3), (25, vI 0)] ⟨rfl, rfl, rfl, rfl, rfl, rfl, rfl, rfl, rfl, trivial⟩ ?_
 refine loop_ind (F.law31_CoseSpares_L4 x_20 x_43 x_51 x_59 x_67 x_76 x_84 x_92 a2 a0 a1 x_3 x_7) (fun (s : Int × List UInt8) L w => L = [(0, va0), (1, va1), (2, va2), (7, slV v_4 e8.sz 0 x_3.2), (8, slV v_8 e8.sz 0 x_7.2), (21, v_41), (22, v_73), (24, vI 3), (25, vI s.1)] ∧ St [] w0 w [own e8 v_4 x_3.1, own e8 v_8 x_7.1, own eV v_41 ([SV.of v_12, SV.of v_14, SV.of v_16, SV.of v_18, SV.of v_21, SV.of v_23, SV.of v_25, SV.of v_27] : List SV), own e8 v_12 x_76, own e8 v_14 x_84, own e8 v_16 x_92, own e8 v_18 s.2, own e8 v_21 x_20.2.1, own e8 v_23 x_20.2.2.1, own e8 v_25 x_20.2.2.2.1, own e8 v_27 x_20.2.2.2.2.1, own eV v_73 ([SV.of (slV v_44 e8.sz 0 x_43.2), SV.of (slV v_52 e8.sz 0 x_51.2), SV.of (slV v_60 e8.sz 0 x_59.2), SV.of (slV v_68 e8.sz 0 x_67.2)] : List SV), own e8 v_44 x_43.1, own e8 v_52 x_51.1, own e8 v_60 x_59.1, own e8 v_68 x_67.1]) ?_ (0, x_11.2.2.2.2.1) ⟨rfl, hS⟩ h
 rintro k_533 ⟨x_99, x_100⟩ L w q_103 hI ih_102 h hk_101
 try dsimp only at hI
 obtain ⟨rfl, hS⟩ := hI
 unfold F.law31_CoseSpares_L4 at h
 refine wpC_seq (wpC_seq (wpC_region (wpR_run 3 rfl ?_)))
 refine wpR_v (G_ix Tryd.underlying53 ti22 rfl rfl (hS.ro 2 rfl) (show getO ([SV.of v_12, SV.of v_14, SV.of v_16, SV.of v_18, SV.of v_21, SV.of v_23, SV.of v_25, SV.of v_27] : List SV) (3 : Int) = some (SV.of v_18) from rfl)) rfl ?_
 refine wpR_v (G_load Tryd.underlying22 rfl rfl (hS.ro 2 rfl) (show getO ([SV.of v_12, SV.of v_14, SV.of v_16, SV.of v_18, SV.of v_21, SV.of v_23, SV.of v_25, SV.of v_27] : List SV) (3 : Int) = some (SV.of v_18) from rfl) (eVc (hS.ro 6 rfl).sv)) rfl ?_
 refine wpR_v (OpV_len Tryd.underlying22 rfl (hS.ro 6 rfl)) rfl ?_
 refine wpR_run 1 rfl ?_
 refine wpR_nil (QE_then_n ?_)
 refine wpC_cond rfl (fun hb_104 => ?_) (fun hb_104 => ?_)
 ·have h := if_t h hb_104
  refine wpC_skip (QE_then_n (wpC_seq (wpC_block ?_)))
  refine wpC_region (wpR_run 2 rfl ?_)
  refine wpR_v (G_ix Tryd.underlying53 ti22 rfl rfl (hS.ro 2 rfl) (show getO ([SV.of v_12, SV.of v_14, SV.of v_16, SV.of v_18, SV.of v_21, SV.of v_23, SV.of v_25, SV.of v_27] : List SV) (3 : Int) = some (SV.of v_18) from rfl)) rfl ?_
  refine wpR_v (G_load Tryd.underlying22 rfl rfl (hS.ro 2 rfl) (show getO ([SV.of v_12, SV.of v_14, SV.of v_16, SV.of v_18, SV.of v_21, SV.of v_23, SV.of v_25, SV.of v_27] : List SV) (3 : Int) = some (SV.of v_18) from rfl) (eVc (hS.ro 6 rfl).sv)) rfl ?_
  refine wpR_run 2 rfl ?_
  refine wpR_v (OpV_bin rfl rfl (b_iadd _ 60 3)) rfl ?_
  refine wpR_v (OpV_conv rfl (cv_i_8 Tryd.underlying3 Tryd.underlying5 63)) rfl ?_
  obtain ⟨x_105, hx_105, h⟩ := obind_some h
  refine wpR_v (G_ix Tryd.underlying22 ti5 rfl rfl (hS.ro 6 rfl) hx_105) rfl ?_
  refine wpR_y (G_storeE (t := (UInt8.ofInt 63)) ti5 rfl rfl hS (i := 6) rfl hx_105 rfl) ?_
  intro w hS
  obtain ⟨x_106, hx_106, h⟩ := olet_some h
  rw [hx_106] at hS
  refine wpR_nil (QE_blk_n ?_)
  refine QE_then_n (wpC_region (wpR_run 3 rfl ?_))
  refine wpR_nil ?_
  exact QE_rnd (wpN_le _ (by exact ⟨rfl, rfl, rfl, rfl, rfl, rfl, rfl, rfl, rfl, trivial⟩) (ih_102 (wI (x_99 + 1), x_106) _ _ ⟨rfl, hS⟩ (oinl_some h hk_101)))
 have h := if_f h hb_104
 refine wpC_exit ?_
 refine QE_then_x (QE_then_x ?_)
 have h := oinr_some h hk_101
 refine QE_blk_x ?_
 refine QE_blk_n ?_
 refine QE_then_n (wpC_region (wpR_run 1 rfl ?_))
 refine wpR_v (OpV_bin rfl rfl (b_iadd _ 3 1)) rfl ?_
 refine wpR_run 1 rfl ?_
 refine wpR_nil (QE_rnd ?_)
 refine wpN_succ ?_
 refine wpC_seq (wpC_seq (wpC_region (wpR_run 2 rfl ?_)))
 refine wpR_v (show OpV _ _ _ _ _ (vI 8) _ from OpV_len Tryd.underlying53 rfl (hS.ro 2 rfl)) rfl ?_
 refine wpR_v (OpV_bin rfl rfl (b_ilss _ 4 8)) rfl ?_
 refine wpR_nil (QE_then_n (wpC_condT rfl ?_))
 refine wpC_skip (QE_then_n (wpC_seq (wpC_block ?_)))
 refine wpC_seq (wpC_seq ?_)
 refine wpC_regionT (fun w' => St [] w0 w' [own e8 v_4 x_3.1, own e8 v_8 x_7.1, own eV v_41 ([SV.of v_12, SV.of v_14, SV.of v_16, SV.of v_18, SV.of v_21, SV.of v_23, SV.of v_25, SV.of v_27] : List SV), own e8 v_12 x_76, own e8 v_14 x_84, own e8 v_16 x_92, own e8 v_18 x_100, own e8 v_21 x_20.2.1, own e8 v_23 x_20.2.2.1, own e8 v_25 x_20.2.2.2.1, own e8 v_27 x_20.2.2.2.2.1, own eV v_73 ([SV.of (slV v_44 e8.sz 0 x_43.2), SV.of (slV v_52 e8.sz 0 x_51.2), SV.of (slV v_60 e8.sz 0 x_59.2), SV.of (slV v_68 e8.sz 0 x_67.2)] : List SV), own e8 v_44 x_43.1, own e8 v_52 x_51.1, own e8 v_60 x_59.1, own e8 v_68 x_67.1]) (fun i => !([12].contains i)) hmix (fun _ _ _ hf => hf.2) (fun _ _ hf => hf) (by kernel_rfl) ?_
 have hS := hS.drew
 show lxE _ _ _ _ _ _ _ [0, 1, 2, 3, 4, 5, 6, 7, 8, 9, 10, 11, 12, 13, 14] _ _
 refine lxE_v hS rfl rfl (fun w hF => OpV_move rfl) rfl ?_
 refine lxE_v hS rfl rfl (fun w hF => OpV_bin rfl rfl (b_igeq _ 4 4)) rfl ?_
 refine lxE_v hS rfl rfl (fun w hF => OpV_move rfl) rfl ?_
 refine lxE_gv (t := 131) hS rfl rfl rfl rfl (fun w hF => OpV_move rfl) rfl ?_
 refine lxE_gv (t := 131) hS rfl rfl rfl rfl (fun w hF => OpV_move rfl) rfl ?_
 refine lxE_gv (t := 131) hS rfl rfl rfl rfl (fun w hF => G_ix Tryd.underlying53 ti22 rfl rfl (hF.ro 2 rfl) (show getO ([SV.of v_12, SV.of v_14, SV.of v_16, SV.of v_18, SV.of v_21, SV.of v_23, SV.of v_25, SV.of v_27] : List SV) (4 : Int) = some (SV.of v_21) from rfl)) rfl ?_
 refine lxE_gv (t := 131) hS rfl rfl rfl rfl (fun w hF => G_load Tryd.underlying22 rfl rfl (hF.ro 2 rfl) (show getO ([SV.of v_12, SV.of v_14, SV.of v_16, SV.of v_18, SV.of v_21, SV.of v_23, SV.of v_25, SV.of v_27] : List SV) (4 : Int) = some (SV.of v_21) from rfl) (eVc (hF.ro 7 rfl).sv)) rfl ?_
 refine lxE_gv (t := 131) hS rfl rfl rfl rfl (fun w hF => OpV_move rfl) rfl ?_
 refine lxE_gv (t := 131) hS rfl rfl rfl rfl (fun w hF => OpV_move rfl) rfl ?_
 refine lxE_gv (t := 131) hS rfl rfl rfl rfl (fun w hF => OpV_bin rfl rfl (b_isub _ 4 4)) rfl ?_
 refine lxE_gv (t := 131) hS rfl rfl rfl rfl (fun w hF => G_ix Tryd.underlying53 ti22 rfl rfl (hF.ro 11 rfl) (show getO ([SV.of (slV v_44 e8.sz 0 x_43.2), SV.of (slV v_52 e8.sz 0 x_51.2), SV.of (slV v_60 e8.sz 0 x_59.2), SV.of (slV v_68 e8.sz 0 x_67.2)] : List SV) (0 : Int) = some (SV.of (slV v_44 e8.sz 0 x_43.2)) from rfl)) rfl ?_
 refine lxE_gv (t := 131) hS rfl rfl rfl rfl (fun w hF => G_load Tryd.underlying22 rfl rfl (hF.ro 11 rfl) (show getO ([SV.of (slV v_44 e8.sz 0 x_43.2), SV.of (slV v_52 e8.sz 0 x_51.2), SV.of (slV v_60 e8.sz 0 x_59.2), SV.of (slV v_68 e8.sz 0 x_67.2)] : List SV) (0 : Int) = some (SV.of (slV v_44 e8.sz 0 x_43.2)) from rfl) (eVc ((hF.ro 12 rfl).tk hk_46).sv)) rfl ?_
 obtain ⟨x_107, hx_107, h⟩ := obind_some h
 refine lxE_gcall (t := 131) hS rfl rfl rfl rfl (by kernel_rfl) rfl (c_law31_same _ x_20.2.1 (x_43.1.take x_43.2) v_21 (slV v_44 e8.sz 0 x_43.2)  (hS.ro 7 rfl).rp ((hS.ro 12 rfl).tk hk_46).rp _ hx_107) rfl ?_
 rintro _ w ⟨rfl, hS1⟩
 have hS := hS.call hS1
 simp only [List.cons_append, List.nil_append] at hS
 refine lxE_gv (t := 131) hS rfl rfl rfl rfl (fun w hF => OpV_un rfl (u_not x_107)) rfl ?_
 refine lxE_v hS rfl rfl (fun w hF => OpV_pickT rfl rfl) rfl ?_
 refine lxE_nil hS ?_
 refine QE_then_n ?_
 refine wpC_cond rfl (fun hb_108 => ?_) (fun hb_108 => ?_)
 ·have h := if_t h hb_108
  refine wpC_seq (wpC_region (wpR_run 1 rfl ?_))
  refine wpR_nil (QE_then_n (wpC_ret (QE_then_r (QE_blk_r ?_))))
  refine QE_then_r (QE_then_r (QE_blk_r ?_))
  refine QE_then_r ?_
  cases h
  exact QE_ret1 rfl rfl ⟨rfl, hS.pick [] (by decide) rfl⟩
 have h := if_f h hb_108
 refine wpC_skip (QE_then_n (wpC_seq (wpC_region (wpR_run 1 rfl ?_))))
 refine wpR_v (OpV_bin rfl rfl (b_ilss _ 4 4)) rfl ?_
 refine wpR_nil (QE_then_n (wpC_condF rfl ?_))
 refine wpC_skip (QE_blk_n ?_)
 refine QE_then_n (wpC_region (wpR_run 1 rfl ?_))
 refine wpR_v (OpV_bin rfl rfl (b_iadd _ 4 1)) rfl ?_
 refine wpR_run 1 rfl ?_
 refine wpR_nil (QE_rnd ?_)
 refine wpN_succ ?_
 refine wpC_seq (wpC_seq (wpC_region (wpR_run 2 rfl ?_)))
 refine wpR_v (show OpV _ _ _ _ _ (vI 8) _ from OpV_len Tryd.underlying53 rfl (hS.ro 2 rfl)) rfl ?_
 refine wpR_v (OpV_bin rfl rfl (b_ilss _ 5 8)) rfl ?_
 refine wpR_nil (QE_then_n (wpC_condT rfl ?_))
 refine wpC_skip (QE_then_n (wpC_seq (wpC_block ?_)))
 refine wpC_seq (wpC_seq ?_)
 refine wpC_regionT (fun w' => St [] w0 w' [own e8 v_4 x_3.1, own e8 v_8 x_7.1, own eV v_41 ([SV.of v_12, SV.of v_14, SV.of v_16, SV.of v_18, SV.of v_21, SV.of v_23, SV.of v_25, SV.of v_27] : List SV), own e8 v_12 x_76, own e8 v_14 x_84, own e8 v_16 x_92, own e8 v_18 x_100, own e8 v_21 x_20.2.1, own e8 v_23 x_20.2.2.1, own e8 v_25 x_20.2.2.2.1, own e8 v_27 x_20.2.2.2.2.1, own eV v_73 ([SV.of (slV v_44 e8.sz 0 x_43.2), SV.of (slV v_52 e8.sz 0 x_51.2), SV.of (slV v_60 e8.sz 0 x_59.2), SV.of (slV v_68 e8.sz 0 x_67.2)] : List SV), own e8 v_44 x_43.1, own e8 v_52 x_51.1, own e8 v_60 x_59.1, own e8 v_68 x_67.1]) (fun i => !([12].contains i)) hmix (fun _ _ _ hf => hf.2) (fun _ _ hf => hf) (by kernel_rfl) ?_
 have hS := hS.drew
 show lxE _ _ _ _ _ _ _ [0, 1, 2, 3, 4, 5, 6, 7, 8, 9, 10, 11, 12, 13, 14] _ _
 refine lxE_v hS rfl rfl (fun w hF => OpV_move rfl) rfl ?_
 refine lxE_v hS rfl rfl (fun w hF => OpV_bin rfl rfl (b_igeq _ 5 4)) rfl ?_
 refine lxE_v hS rfl rfl (fun w hF => OpV_move rfl) rfl ?_
 refine lxE_gv (t := 131) hS rfl rfl rfl rfl (fun w hF => OpV_move rfl) rfl ?_
 refine lxE_gv (t := 131) hS rfl rfl rfl rfl (fun w hF => OpV_move rfl) rfl ?_
 refine lxE_gv (t := 131) hS rfl rfl rfl rfl (fun w hF => G_ix Tryd.underlying53 ti22 rfl rfl (hF.ro 2 rfl) (show getO ([SV.of v_12, SV.of v_14, SV.of v_16, SV.of v_18, SV.of v_21, SV.of v_23, SV.of v_25, SV.of v_27] : List SV) (5 : Int) = some (SV.of v_23) from rfl)) rfl ?_
 refine lxE_gv (t := 131) hS rfl rfl rfl rfl (fun w hF => G_load Tryd.underlying22 rfl rfl (hF.ro 2 rfl) (show getO ([SV.of v_12, SV.of v_14, SV.of v_16, SV.of v_18, SV.of v_21, SV.of v_23, SV.of v_25, SV.of v_27] : List SV) (5 : Int) = some (SV.of v_23) from rfl) (eVc (hF.ro 8 rfl).sv)) rfl ?_
 refine lxE_gv (t := 131) hS rfl rfl rfl rfl (fun w hF => OpV_move rfl) rfl ?_
 refine lxE_gv (t := 131) hS rfl rfl rfl rfl (fun w hF => OpV_move rfl) rfl ?_
 refine lxE_gv (t := 131) hS rfl rfl rfl rfl (fun w hF => OpV_bin rfl rfl (b_isub _ 5 4)) rfl ?_
 refine lxE_gv (t := 131) hS rfl rfl rfl rfl (fun w hF => G_ix Tryd.underlying53 ti22 rfl rfl (hF.ro 11 rfl) (show getO ([SV.of (slV v_44 e8.sz 0 x_43.2), SV.of (slV v_52 e8.sz 0 x_51.2), SV.of (slV v_60 e8.sz 0 x_59.2), SV.of (slV v_68 e8.sz 0 x_67.2)] : List SV) (1 : Int) = some (SV.of (slV v_52 e8.sz 0 x_51.2)) from rfl)) rfl ?_
 refine lxE_gv (t := 131) hS rfl rfl rfl rfl (fun w hF => G_load Tryd.underlying22 rfl rfl (hF.ro 11 rfl) (show getO ([SV.of (slV v_44 e8.sz 0 x_43.2), SV.of (slV v_52 e8.sz 0 x_51.2), SV.of (slV v_60 e8.sz 0 x_59.2), SV.of (slV v_68 e8.sz 0 x_67.2)] : List SV) (1 : Int) = some (SV.of (slV v_52 e8.sz 0 x_51.2)) from rfl) (eVc ((hF.ro 13 rfl).tk hk_54).sv)) rfl ?_
 obtain ⟨x_109, hx_109, h⟩ := obind_some h
 refine lxE_gcall (t := 131) hS rfl rfl rfl rfl (by kernel_rfl) rfl (c_law31_same _ x_20.2.2.1 (x_51.1.take x_51.2) v_23 (slV v_52 e8.sz 0 x_51.2)  (hS.ro 8 rfl).rp ((hS.ro 13 rfl).tk hk_54).rp _ hx_109) rfl ?_
 rintro _ w ⟨rfl, hS1⟩
 have hS := hS.call hS1
 simp only [List.cons_append, List.nil_append] at hS
 refine lxE_gv (t := 131) hS rfl rfl rfl rfl (fun w hF => OpV_un rfl (u_not x_109)) rfl ?_
 refine lxE_v hS rfl rfl (fun w hF => OpV_pickT rfl rfl) rfl ?_
 refine lxE_nil hS ?_
 refine QE_then_n ?_
 refine wpC_cond rfl (fun hb_110 => ?_) (fun hb_110 => ?_)
 ·have h := if_t h hb_110
  refine wpC_seq (wpC_region (wpR_run 1 rfl ?_))
  refine wpR_nil (QE_then_n (wpC_ret (QE_then_r (QE_blk_r ?_))))
  refine QE_then_r (QE_then_r (QE_blk_r ?_))
  refine QE_then_r ?_
  cases h
  exact QE_ret1 rfl rfl ⟨rfl, hS.pick [] (by decide) rfl⟩
 have h := if_f h hb_110
 refine wpC_skip (QE_then_n (wpC_seq (wpC_region (wpR_run 1 rfl ?_))))
 refine wpR_v (OpV_bin rfl rfl (b_ilss _ 5 4)) rfl ?_
 refine wpR_nil (QE_then_n (wpC_condF rfl ?_))
 refine wpC_skip (QE_blk_n ?_)
 refine QE_then_n (wpC_region (wpR_run 1 rfl ?_))
 refine wpR_v (OpV_bin rfl rfl (b_iadd _ 5 1)) rfl ?_
 refine wpR_run 1 rfl ?_
 refine wpR_nil (QE_rnd ?_)
 refine wpN_succ ?_
 refine wpC_seq (wpC_seq (wpC_region (wpR_run 2 rfl ?_)))
 refine wpR_v (show OpV _ _ _ _ _ (vI 8) _ from OpV_len Tryd.underlying53 rfl (hS.ro 2 rfl)) rfl ?_
 refine wpR_v (OpV_bin rfl rfl (b_ilss _ 6 8)) rfl ?_
 refine wpR_nil (QE_then_n (wpC_condT rfl ?_))
 refine wpC_skip (QE_then_n (wpC_seq (wpC_block ?_)))
 refine wpC_seq (wpC_seq ?_)
 refine wpC_regionT (fun w' => St [] w0 w' [own e8 v_4 x_3.1, own e8 v_8 x_7.1, own eV v_41 ([SV.of v_12, SV.of v_14, SV.of v_16, SV.of v_18, SV.of v_21, SV.of v_23, SV.of v_25, SV.of v_27] : List SV), own e8 v_12 x_76, own e8 v_14 x_84, own e8 v_16 x_92, own e8 v_18 x_100, own e8 v_21 x_20.2.1, own e8 v_23 x_20.2.2.1, own e8 v_25 x_20.2.2.2.1, own e8 v_27 x_20.2.2.2.2.1, own eV v_73 ([SV.of (slV v_44 e8.sz 0 x_43.2), SV.of (slV v_52 e8.sz 0 x_51.2), SV.of (slV v_60 e8.sz 0 x_59.2), SV.of (slV v_68 e8.sz 0 x_67.2)] : List SV), own e8 v_44 x_43.1, own e8 v_52 x_51.1, own e8 v_60 x_59.1, own e8 v_68 x_67.1]) (fun i => !([12].contains i)) hmix (fun _ _ _ hf => hf.2) (fun _ _ hf => hf) (by kernel_rfl) ?_
 have hS := hS.drew
 show lxE _ _ _ _ _ _ _ [0, 1, 2, 3, 4, 5, 6, 7, 8, 9, 10, 11, 12, 13, 14] _ _
 refine lxE_v hS rfl rfl (fun w hF => OpV_move rfl) rfl ?_
 refine lxE_v hS rfl rfl (fun w hF => OpV_bin rfl rfl (b_igeq _ 6 4)) rfl ?_
 refine lxE_v hS rfl rfl (fun w hF => OpV_move rfl) rfl ?_
 refine lxE_gv (t := 131) hS rfl rfl rfl rfl (fun w hF => OpV_move rfl) rfl ?_
 refine lxE_gv (t := 131) hS rfl rfl rfl rfl (fun w hF => OpV_move rfl) rfl ?_
 refine lxE_gv (t := 131) hS rfl rfl rfl rfl (fun w hF => G_ix Tryd.underlying53 ti22 rfl rfl (hF.ro 2 rfl) (show getO ([SV.of v_12, SV.of v_14, SV.of v_16, SV.of v_18, SV.of v_21, SV.of v_23, SV.of v_25, SV.of v_27] : List SV) (6 : Int) = some (SV.of v_25) from rfl)) rfl ?_
 refine lxE_gv (t := 131) hS rfl rfl rfl rfl (fun w hF => G_load Tryd.underlying22 rfl rfl (hF.ro 2 rfl) (show getO ([SV.of v_12, SV.of v_14, SV.of v_16, SV.of v_18, SV.of v_21, SV.of v_23, SV.of v_25, SV.of v_27] : List SV) (6 : Int) = some (SV.of v_25) from rfl) (eVc (hF.ro 9 rfl).sv)) rfl ?_
 refine lxE_gv (t := 131) hS rfl rfl rfl rfl (fun w hF => OpV_move rfl) rfl ?_
 refine lxE_gv (t := 131) hS rfl rfl rfl rfl (fun w hF => OpV_move rfl) rfl ?_
 refine lxE_gv (t := 131) hS rfl rfl rfl rfl (fun w hF => OpV_bin rfl rfl (b_isub _ 6 4)) rfl ?_
 refine lxE_gv (t := 131) hS rfl rfl rfl rfl (fun w hF => G_ix Tryd.underlying53 ti22 rfl rfl (hF.ro 11 rfl) (show getO ([SV.of (slV v_44 e8.sz 0 x_43.2), SV.of (slV v_52 e8.sz 0 x_51.2), SV.of (slV v_60 e8.sz 0 x_59.2), SV.of (slV v_68 e8.sz 0 x_67.2)] : List SV) (2 : Int) = some (SV.of (slV v_60 e8.sz 0 x_59.2)) from rfl)) rfl ?_
 refine lxE_gv (t := 131) hS rfl rfl rfl rfl (fun w hF => G_load Tryd.underlying22 rfl rfl (hF.ro 11 rfl) (show getO ([SV.of (slV v_44 e8.sz 0 x_43.2), SV.of (slV v_52 e8.sz 0 x_51.2), SV.of (slV v_60 e8.sz 0 x_59.2), SV.of (slV v_68 e8.sz 0 x_67.2)] : List SV) (2 : Int) = some (SV.of (slV v_60 e8.sz 0 x_59.2)) from rfl) (eVc ((hF.ro 14 rfl).tk hk_62).sv)) rfl ?_
 obtain ⟨x_111, hx_111, h⟩ := obind_some h
 refine lxE_gcall (t := 131) hS rfl rfl rfl rfl (by kernel_rfl) rfl (c_law31_same _ x_20.2.2.2.1 (x_59.1.take x_59.2) v_25 (slV v_60 e8.sz 0 x_59.2)  (hS.ro 9 rfl).rp ((hS.ro 14 rfl).tk hk_62).rp _ hx_111) rfl ?_
 rintro _ w ⟨rfl, hS1⟩
 have hS := hS.call hS1
 simp only [List.cons_append, List.nil_append] at hS
 refine lxE_gv (t := 131) hS rfl rfl rfl rfl (fun w hF => OpV_un rfl (u_not x_111)) rfl ?_
 refine lxE_v hS rfl rfl (fun w hF => OpV_pickT rfl rfl) rfl ?_
 refine lxE_nil hS ?_
 refine QE_then_n ?_
 refine wpC_cond rfl (fun hb_112 => ?_) (fun hb_112 => ?_)
 ·have h := if_t h hb_112
  refine wpC_seq (wpC_region (wpR_run 1 rfl ?_))
  refine wpR_nil (QE_then_n (wpC_ret (QE_then_r (QE_blk_r ?_))))
  refine QE_then_r (QE_then_r (QE_blk_r ?_))
  refine QE_then_r ?_
  cases h
  exact QE_ret1 rfl rfl ⟨rfl, hS.pick [] (by decide) rfl⟩
 have h := if_f h hb_112
 refine wpC_skip (QE_then_n (wpC_seq (wpC_region (wpR_run 1 rfl ?_))))
 refine wpR_v (OpV_bin rfl rfl (b_ilss _ 6 4)) rfl ?_
 refine wpR_nil (QE_then_n (wpC_condF rfl ?_))
 refine wpC_skip (QE_blk_n ?_)
 refine QE_then_n (wpC_region (wpR_run 1 rfl ?_))
 refine wpR_v (OpV_bin rfl rfl (b_iadd _ 6 1)) rfl ?_
 refine wpR_run 1 rfl ?_
 refine wpR_nil (QE_rnd ?_)
 refine wpN_succ ?_
 refine wpC_seq (wpC_seq (wpC_region (wpR_run 2 rfl ?_)))
 refine wpR_v (show OpV _ _ _ _ _ (vI 8) _ from OpV_len Tryd.underlying53 rfl (hS.ro 2 rfl)) rfl ?_
 refine wpR_v (OpV_bin rfl rfl (b_ilss _ 7 8)) rfl ?_
 refine wpR_nil (QE_then_n (wpC_condT rfl ?_))
 refine wpC_skip (QE_then_n (wpC_seq (wpC_block ?_)))
 refine wpC_seq (wpC_seq ?_)
 refine wpC_regionT (fun w' => St [] w0 w' [own e8 v_4 x_3.1, own e8 v_8 x_7.1, own eV v_41 ([SV.of v_12, SV.of v_14, SV.of v_16, SV.of v_18, SV.of v_21, SV.of v_23, SV.of v_25, SV.of v_27] : List SV), own e8 v_12 x_76, own e8 v_14 x_84, own e8 v_16 x_92, own e8 v_18 x_100, own e8 v_21 x_20.2.1, own e8 v_23 x_20.2.2.1, own e8 v_25 x_20.2.2.2.1, own e8 v_27 x_20.2.2.2.2.1, own eV v_73 ([SV.of (slV v_44 e8.sz 0 x_43.2), SV.of (slV v_52 e8.sz 0 x_51.2), SV.of (slV v_60 e8.sz 0 x_59.2), SV.of (slV v_68 e8.sz 0 x_67.2)] : List SV), own e8 v_44 x_43.1, own e8 v_52 x_51.1, own e8 v_60 x_59.1, own e8 v_68 x_67.1]) (fun i => !([12].contains i)) hmix (fun _ _ _ hf => hf.2) (fun _ _ hf => hf) (by kernel_rfl) ?_
 have hS := hS.drew
 show lxE _ _ _ _ _ _ _ [0, 1, 2, 3, 4, 5, 6, 7, 8, 9, 10, 11, 12, 13, 14] _ _
 refine lxE_v hS rfl rfl (fun w hF => OpV_move rfl) rfl ?_
 refine lxE_v hS rfl rfl (fun w hF => OpV_bin rfl rfl (b_igeq _ 7 4)) rfl ?_
 refine lxE_v hS rfl rfl (fun w hF => OpV_move rfl) rfl ?_
 refine lxE_gv (t := 131) hS rfl rfl rfl rfl (fun w hF => OpV_move rfl) rfl ?_
 refine lxE_gv (t := 131) hS rfl rfl rfl rfl (fun w hF => OpV_move rfl) rfl ?_
 refine lxE_gv (t := 131) hS rfl rfl rfl rfl (fun w hF => G_ix Tryd.underlying53 ti22 rfl rfl (hF.ro 2 rfl) (show getO ([SV.of v_12, SV.of v_14, SV.of v_16, SV.of v_18, SV.of v_21, SV.of v_23, SV.of v_25, SV.of v_27] : List SV) (7 : Int) = some (SV.of v_27) from rfl)) rfl ?_
 refine lxE_gv (t := 131) hS rfl rfl rfl rfl (fun w hF => G_load Tryd.underlying22 rfl rfl (hF.ro 2 rfl) (show getO ([SV.of v_12, SV.of v_14, SV.of v_16, SV.of v_18, SV.of v_21, SV.of v_23, SV.of v_25, SV.of v_27] : List SV) (7 : Int) = some (SV.of v_27) from rfl) (eVc (hF.ro 10 rfl).sv)) rfl ?_
 refine lxE_gv (t := 131) hS rfl rfl rfl rfl (fun w hF => OpV_move rfl) rfl ?_
 refine lxE_gv (t := 131) hS rfl rfl rfl rfl (fun w hF => OpV_move rfl) rfl ?_
 refine lxE_gv (t := 131) hS rfl rfl rfl rfl (fun w hF => OpV_bin rfl rfl (b_isub _ 7 4)) rfl ?_
 refine lxE_gv (t := 131) hS rfl rfl rfl rfl (fun w hF => G_ix Tryd.underlying53 ti22 rfl rfl (hF.ro 11 rfl) (show getO ([SV.of (slV v_44 e8.sz 0 x_43.2), SV.of (slV v_52 e8.sz 0 x_51.2), SV.of (slV v_60 e8.sz 0 x_59.2), SV.of (slV v_68 e8.sz 0 x_67.2)] : List SV) (3 : Int) = some (SV.of (slV v_68 e8.sz 0 x_67.2)) from rfl)) rfl ?_
 refine lxE_gv (t := 131) hS rfl rfl rfl rfl (fun w hF => G_load Tryd.underlying22 rfl rfl (hF.ro 11 rfl) (show getO ([SV.of (slV v_44 e8.sz 0 x_43.2), SV.of (slV v_52 e8.sz 0 x_51.2), SV.of (slV v_60 e8.sz 0 x_59.2), SV.of (slV v_68 e8.sz 0 x_67.2)] : List SV) (3 : Int) = some (SV.of (slV v_68 e8.sz 0 x_67.2)) from rfl) (eVc ((hF.ro 15 rfl).tk hk_70).sv)) rfl ?_
 obtain ⟨x_113, hx_113, h⟩ := obind_some h
 refine lxE_gcall (t := 131) hS rfl rfl rfl rfl (by kernel_rfl) rfl (c_law31_same _ x_20.2.2.2.2.1 (x_67.1.take x_67.2) v_27 (slV v_68 e8.sz 0 x_67.2)  (hS.ro 10 rfl).rp ((hS.ro 15 rfl).tk hk_70).rp _ hx_113) rfl ?_
 rintro _ w ⟨rfl, hS1⟩
 have hS := hS.call hS1
 simp only [List.cons_append, List.nil_append] at hS
 refine lxE_gv (t := 131) hS rfl rfl rfl rfl (fun w hF => OpV_un rfl (u_not x_113)) rfl ?_
 refine lxE_v hS rfl rfl (fun w hF => OpV_pickT rfl rfl) rfl ?_
 refine lxE_nil hS ?_
 refine QE_then_n ?_
 refine wpC_cond rfl (fun hb_114 => ?_) (fun hb_114 => ?_)
 ·have h := if_t h hb_114
  refine wpC_seq (wpC_region (wpR_run 1 rfl ?_))
  refine wpR_nil (QE_then_n (wpC_ret (QE_then_r (QE_blk_r ?_))))
  refine QE_then_r (QE_then_r (QE_blk_r ?_))
  refine QE_then_r ?_
  cases h
  exact QE_ret1 rfl rfl ⟨rfl, hS.pick [] (by decide) rfl⟩
 have h := if_f h hb_114
 refine wpC_skip (QE_then_n (wpC_seq (wpC_region (wpR_run 1 rfl ?_))))
 refine wpR_v (OpV_bin rfl rfl (b_ilss _ 7 4)) rfl ?_
 refine wpR_nil (QE_then_n (wpC_condF rfl ?_))
 refine wpC_skip (QE_blk_n ?_)
 refine QE_then_n (wpC_region (wpR_run 1 rfl ?_))
 refine wpR_v (OpV_bin rfl rfl (b_iadd _ 7 1)) rfl ?_
 refine wpR_run 1 rfl ?_
 refine wpR_nil (QE_rnd ?_)
 refine wpN_succ ?_
 refine wpC_seq (wpC_seq (wpC_region (wpR_run 2 rfl ?_)))
 refine wpR_v (show OpV _ _ _ _ _ (vI 8) _ from OpV_len Tryd.underlying53 rfl (hS.ro 2 rfl)) rfl ?_
 refine wpR_v (OpV_bin rfl rfl (b_ilss _ 8 8)) rfl ?_
 refine wpR_nil (QE_then_n (wpC_condF rfl ?_))
 refine wpC_exit ?_
 refine QE_then_x (QE_then_x (QE_blk_x ?_))
 refine QE_then_n (wpC_seq (wpC_seq (wpC_region (wpR_run 1 rfl ?_))))
 refine wpR_nil (QE_then_n (wpC_block ?_))
 refine wpC_loop 100 ?_
 refine wpN_succ ?_
 refine wpC_seq (wpC_seq (wpC_region (wpR_run 2 rfl ?_)))
 refine wpR_v (show OpV _ _ _ _ _ (vI 8) _ from OpV_len Tryd.underlying53 rfl (hS.ro 2 rfl)) rfl ?_
 refine wpR_v (OpV_bin rfl rfl (b_ilss _ 4 8)) rfl ?_
 refine wpR_nil (QE_then_n (wpC_condT rfl ?_))
 refine wpC_skip (QE_then_n (wpC_seq (wpC_block ?_)))
 refine wpC_seq (wpC_region (wpR_run 1 rfl ?_))
 refine wpR_nil (QE_then_n (wpC_block ?_))
 refine wpC_le [(0, va0), (1, va1), (2, va2), (7, slV v_4 e8.sz 0 x_3.2), (8, slV v_8 e8.sz 0 x_7.2), (21, v_41), (26, vI 4), (27, vI 0)] ⟨rfl, rfl, rfl, rfl, rfl, rfl, rfl, rfl, trivial⟩ ?_
 refine loop_ind (F.law31_CoseSpares_L5 x_20 x_76 x_84 x_92 x_100 a2 a0 a1 x_3 x_7) (fun (s : Int × List UInt8) L w => L = [(0, va0), (1, va1), (2, va2), (7, slV v_4 e8.sz 0 x_3.2), (8, slV v_8 e8.sz 0 x_7.2), (21, v_41), (26, vI 4), (27, vI s.1)] ∧ St [] w0 w [own e8 v_4 x_3.1, own e8 v_8 x_7.1, own eV v_41 ([SV.of v_12, SV.of v_14, SV.of v_16, SV.of v_18, SV.of v_21, SV.of v_23, SV.of v_25, SV.of v_27] : List SV), own e8 v_12 x_76, own e8 v_14 x_84, own e8 v_16 x_92, own e8 v_18 x_100, own e8 v_21 s.2, own e8 v_23 x_20.2.2.1, own e8 v_25 x_20.2.2.2.1, own e8 v_27 x_20.2.2.2.2.1]) ?_ (0, x_20.2.1) ⟨rfl, (hS.pick [0, 1, 2, 3, 4, 5, 6, 7, 8, 9, 10] (by decide) rfl)⟩ h
 rintro k_532 ⟨x_115, x_116⟩ L w q_119 hI ih_118 h hk_117
 try dsimp only at hI
 obtain ⟨rfl, hS⟩ := hI
 unfold F.law31_CoseSpares_L5 at h
 refine wpC_seq (wpC_seq (wpC_region (wpR_run 3 rfl ?_)))
 refine wpR_v (G_ix Tryd.underlying53 ti22 rfl rfl (hS.ro 2 rfl) (show getO ([SV.of v_12, SV.of v_14, SV.of v_16, SV.of v_18, SV.of v_21, SV.of v_23, SV.of v_25, SV.of v_27] : List SV) (4 : Int) = some (SV.of v_21) from rfl)) rfl ?_
 refine wpR_v (G_load Tryd.underlying22 rfl rfl (hS.ro 2 rfl) (show getO ([SV.of v_12, SV.of v_14, SV.of v_16, SV.of v_18, SV.of v_21, SV.of v_23, SV.of v_25, SV.of v_27] : List SV) (4 : Int) = some (SV.of v_21) from rfl) (eVc (hS.ro 7 rfl).sv)) rfl ?_
 refine wpR_v (OpV_len Tryd.underlying22 rfl (hS.ro 7 rfl)) rfl ?_
 refine wpR_run 1 rfl ?_
 refine wpR_nil (QE_then_n ?_)
 refine wpC_cond rfl (fun hb_120 => ?_) (fun hb_120 => ?_)
 ·have h := if_t h hb_120
  refine wpC_skip (QE_then_n (wpC_seq (wpC_block ?_)))
  refine wpC_region (wpR_run 2 rfl ?_)
  refine wpR_v (G_ix Tryd.underlying53 ti22 rfl rfl (hS.ro 2 rfl) (show getO ([SV.of v_12, SV.of v_14, SV.of v_16, SV.of v_18, SV.of v_21, SV.of v_23, SV.of v_25, SV.of v_27] : List SV) (4 : Int) = some (SV.of v_21) from rfl)) rfl ?_
  refine wpR_v (G_load Tryd.underlying22 rfl rfl (hS.ro 2 rfl) (show getO ([SV.of v_12, SV.of v_14, SV.of v_16, SV.of v_18, SV.of v_21, SV.of v_23, SV.of v_25, SV.of v_27] : List SV) (4 : Int) = some (SV.of v_21) from rfl) (eVc (hS.ro 7 rfl).sv)) rfl ?_
  refine wpR_run 2 rfl ?_
  refine wpR_v (OpV_bin rfl rfl (b_iadd _ 60 4)) rfl ?_
  refine wpR_v (OpV_conv rfl (cv_i_8 Tryd.underlying3 Tryd.underlying5 64)) rfl ?_
  obtain ⟨x_121, hx_121, h⟩ := obind_some h
  refine wpR_v (G_ix Tryd.underlying22 ti5 rfl rfl (hS.ro 7 rfl) hx_121) rfl ?_
  refine wpR_y (G_storeE (t := (UInt8.ofInt 64)) ti5 rfl rfl hS (i := 7) rfl hx_121 rfl) ?_
  intro w hS
  obtain ⟨x_122, hx_122, h⟩ := olet_some h
  rw [hx_122] at hS
  refine wpR_nil (QE_blk_n ?_)
  refine QE_then_n (wpC_region (wpR_run 3 rfl ?_))
  refine wpR_nil ?_
  exact QE_rnd (wpN_le _ (by exact ⟨rfl, rfl, rfl, rfl, rfl, rfl, rfl, rfl, trivial⟩) (ih_118 (wI (x_115 + 1), x_122) _ _ ⟨rfl, hS⟩ (oinl_some h hk_117)))
 have h := if_f h hb_120
 refine wpC_exit ?_
 refine QE_then_x (QE_then_x ?_)
 have h := oinr_some h hk_117
 refine QE_blk_x ?_
 refine QE_blk_n ?_
 refine QE_then_n (wpC_region (wpR_run 1 rfl ?_))
 refine wpR_v (OpV_bin rfl rfl (b_iadd _ 4 1)) rfl ?_
 refine wpR_run 1 rfl ?_
 refine wpR_nil (QE_rnd ?_)
 refine wpN_succ ?_
 refine wpC_seq (wpC_seq (wpC_region (wpR_run 2 rfl ?_)))
 refine wpR_v (show OpV _ _ _ _ _ (vI 8) _ from OpV_len Tryd.underlying53 rfl (hS.ro 2 rfl)) rfl ?_
 refine wpR_v (OpV_bin rfl rfl (b_ilss _ 5 8)) rfl ?_
 refine wpR_nil (QE_then_n (wpC_condT rfl ?_))
 refine wpC_skip (QE_then_n (wpC_seq (wpC_block ?_)))
 refine wpC_seq (wpC_region (wpR_run 1 rfl ?_))
 refine wpR_nil (QE_then_n (wpC_block ?_))
 refine wpC_le [(0, va0), (1, va1), (2, va2), (7, slV v_4 e8.sz 0 x_3.2), (8, slV v_8 e8.sz 0 x_7.2), (21, v_41), (26, vI 5), (27, vI 0)] ⟨rfl, rfl, rfl, rfl, rfl, rfl, rfl, rfl, trivial⟩ ?_
 refine loop_ind (F.law31_CoseSpares_L6 x_20 x_76 x_84 x_92 x_100 x_116 a2 a0 a1 x_3 x_7) (fun (s : Int × List UInt8) L w => L = [(0, va0), (1, va1), (2, va2), (7, slV v_4 e8.sz 0 x_3.2), (8, slV v_8 e8.sz 0 x_7.2), (21, v_41), (26, vI 5), (27, vI s.1)] ∧ St [] w0 w [own e8 v_4 x_3.1, own e8 v_8 x_7.1, own eV v_41 ([SV.of v_12, SV.of v_14, SV.of v_16, SV.of v_18, SV.of v_21, SV.of v_23, SV.of v_25, SV.of v_27] : List SV), own e8 v_12 x_76, own e8 v_14 x_84, own e8 v_16 x_92, own e8 v_18 x_100, own e8 v_21 x_116, own e8 v_23 s.2, own e8 v_25 x_20.2.2.2.1, own e8 v_27 x_20.2.2.2.2.1]) ?_ (0, x_20.2.2.1) ⟨rfl, hS⟩ h
 rintro k_531 ⟨x_123, x_124⟩ L w q_127 hI ih_126 h hk_125
 try dsimp only at hI
 obtain ⟨rfl, hS⟩ := hI
 unfold F.law31_CoseSpares_L6 at h
 refine wpC_seq (wpC_seq (wpC_region (wpR_run 3 rfl ?_)))
 refine wpR_v (G_ix Tryd.underlying53 ti22 rfl rfl (hS.ro 2 rfl) (show getO ([SV.of v_12, SV.of v_14, SV.of v_16, SV.of v_18, SV.of v_21, SV.of v_23, SV.of v_25, SV.of v_27] : List SV) (5 : Int) = some (SV.of v_23) from rfl)) rfl ?_
 refine wpR_v (G_load Tryd.underlying22 rfl rfl (hS.ro 2 rfl) (show getO ([SV.of v_12, SV.of v_14, SV.of v_16, SV.of v_18, SV.of v_21, SV.of v_23, SV.of v_25, SV.of v_27] : List SV) (5 : Int) = some (SV.of v_23) from rfl) (eVc (hS.ro 8 rfl).sv)) rfl ?_
 refine wpR_v (OpV_len Tryd.underlying22 rfl (hS.ro 8 rfl)) rfl ?_
 refine wpR_run 1 rfl ?_
 refine wpR_nil (QE_then_n ?_)
 refine wpC_cond rfl (fun hb_128 => ?_) (fun hb_128 => ?_)
 ·have h := if_t h hb_128
  refine wpC_skip (QE_then_n (wpC_seq (wpC_block ?_)))
  refine wpC_region (wpR_run 2 rfl ?_)
  refine wpR_v (G_ix Tryd.underlying53 ti22 rfl rfl (hS.ro 2 rfl) (show getO ([SV.of v_12, SV.of v_14, SV.of v_16, SV.of v_18, SV.of v_21, SV.of v_23, SV.of v_25, SV.of v_27] : List SV) (5 : Int) = some (SV.of v_23) from rfl)) rfl ?_
  refine wpR_v (G_load Tryd.underlying22 rfl rfl (hS.ro 2 rfl) (show getO ([SV.of v_12, SV.of v_14, SV.of v_16, SV.of v_18, SV.of v_21, SV.of v_23, SV.of v_25, SV.of v_27] : List SV) (5 : Int) = some (SV.of v_23) from rfl) (eVc (hS.ro 8 rfl).sv)) rfl ?_
  refine wpR_run 2 rfl ?_
  refine wpR_v (OpV_bin rfl rfl (b_iadd _ 60 5)) rfl ?_
  refine wpR_v (OpV_conv rfl (cv_i_8 Tryd.underlying3 Tryd.underlying5 65)) rfl ?_
  obtain ⟨x_129, hx_129, h⟩ := obind_some h
  refine wpR_v (G_ix Tryd.underlying22 ti5 rfl rfl (hS.ro 8 rfl) hx_129) rfl ?_
  refine wpR_y (G_storeE (t := (UInt8.ofInt 65)) ti5 rfl rfl hS (i := 8) rfl hx_129 rfl) ?_
  intro w hS
  obtain ⟨x_130, hx_130, h⟩ := olet_some h
  rw [hx_130] at hS
  refine wpR_nil (QE_blk_n ?_)
  refine QE_then_n (wpC_region (wpR_run 3 rfl ?_))
  refine wpR_nil ?_
  exact QE_rnd (wpN_le _ (by exact ⟨rfl, rfl, rfl, rfl, rfl, rfl, rfl, rfl, trivial⟩) (ih_126 (wI (x_123 + 1), x_130) _ _ ⟨rfl, hS⟩ (oinl_some h hk_125)))
 have h := if_f h hb_128
 refine wpC_exit ?_
 refine QE_then_x (QE_then_x ?_)
 have h := oinr_some h hk_125
 refine QE_blk_x ?_
 refine QE_blk_n ?_
 refine QE_then_n (wpC_region (wpR_run 1 rfl ?_))
 refine wpR_v (OpV_bin rfl rfl (b_iadd _ 5 1)) rfl ?_
 refine wpR_run 1 rfl ?_
 refine wpR_nil (QE_rnd ?_)
 refine wpN_succ ?_
 refine wpC_seq (wpC_seq (wpC_region (wpR_run 2 rfl ?_)))
 refine wpR_v (show OpV _ _ _ _ _ (vI 8) _ from OpV_len Tryd.underlying53 rfl (hS.ro 2 rfl)) rfl ?_
 refine wpR_v (OpV_bin rfl rfl (b_ilss _ 6 8)) rfl ?_
 refine wpR_nil (QE_then_n (wpC_condT rfl ?_))
 refine wpC_skip (QE_then_n (wpC_seq (wpC_block ?_)))
 refine wpC_seq (wpC_region (wpR_run 1 rfl ?_))
 refine wpR_nil (QE_then_n (wpC_block ?_))
 refine wpC_le [(0, va0), (1, va1), (2, va2), (7, slV v_4 e8.sz 0 x_3.2), (8, slV v_8 e8.sz 0 x_7.2), (21, v_41), (26, vI 6), (27, vI 0)] ⟨rfl, rfl, rfl, rfl, rfl, rfl, rfl, rfl, trivial⟩ ?_
 refine loop_ind (F.law31_CoseSpares_L7 x_20 x_76 x_84 x_92 x_100 x_116 x_124 a2 a0 a1 x_3 x_7) (fun (s : Int × List UInt8) L w => L = [(0, va0), (1, va1), (2, va2), (7, slV v_4 e8.sz 0 x_3.2), (8, slV v_8 e8.sz 0 x_7.2), (21, v_41), (26, vI 6), (27, vI s.1)] ∧ St [] w0 w [own e8 v_4 x_3.1, own e8 v_8 x_7.1, own eV v_41 ([SV.of v_12, SV.of v_14, SV.of v_16, SV.of v_18, SV.of v_21, SV.of v_23, SV.of v_25, SV.of v_27] : List SV), own e8 v_12 x_76, own e8 v_14 x_84, own e8 v_16 x_92, own e8 v_18 x_100, own e8 v_21 x_116, own e8 v_23 x_124, own e8 v_25 s.2, own e8 v_27 x_20.2.2.2.2.1]) ?_ (0, x_20.2.2.2.1) ⟨rfl, hS⟩ h
 rintro k_530 ⟨x_131, x_132⟩ L w q_135 hI ih_134 h hk_133
 try dsimp only at hI
 obtain ⟨rfl, hS⟩ := hI
 unfold F.law31_CoseSpares_L7 at h
 refine wpC_seq (wpC_seq (wpC_region (wpR_run 3 rfl ?_)))
 refine wpR_v (G_ix Tryd.underlying53 ti22 rfl rfl (hS.ro 2 rfl) (show getO ([SV.of v_12, SV.of v_14, SV.of v_16, SV.of v_18, SV.of v_21, SV.of v_23, SV.of v_25, SV.of v_27] : List SV) (6 : Int) = some (SV.of v_25) from rfl)) rfl ?_
 refine wpR_v (G_load Tryd.underlying22 rfl rfl (hS.ro 2 rfl) (show getO ([SV.of v_12, SV.of v_14, SV.of v_16, SV.of v_18, SV.of v_21, SV.of v_23, SV.of v_25, SV.of v_27] : List SV) (6 : Int) = some (SV.of v_25) from rfl) (eVc (hS.ro 9 rfl).sv)) rfl ?_
 refine wpR_v (OpV_len Tryd.underlying22 rfl (hS.ro 9 rfl)) rfl ?_
 refine wpR_run 1 rfl ?_
 refine wpR_nil (QE_then_n ?_)
 refine wpC_cond rfl (fun hb_136 => ?_) (fun hb_136 => ?_)
 ·have h := if_t h hb_136
  refine wpC_skip (QE_then_n (wpC_seq (wpC_block ?_)))
  refine wpC_region (wpR_run 2 rfl ?_)
  refine wpR_v (G_ix Tryd.underlying53 ti22 rfl rfl (hS.ro 2 rfl) (show getO ([SV.of v_12, SV.of v_14, SV.of v_16, SV.of v_18, SV.of v_21, SV.of v_23, SV.of v_25, SV.of v_27] : List SV) (6 : Int) = some (SV.of v_25) from rfl)) rfl ?_
  refine wpR_v (G_load Tryd.underlying22 rfl rfl (hS.ro 2 rfl) (show getO ([SV.of v_12, SV.of v_14, SV.of v_16, SV.of v_18, SV.of v_21, SV.of v_23, SV.of v_25, SV.of v_27] : List SV) (6 : Int) = some (SV.of v_25) from rfl) (eVc (hS.ro 9 rfl).sv)) rfl ?_
  refine wpR_run 2 rfl ?_
  refine wpR_v (OpV_bin rfl rfl (b_iadd _ 60 6)) rfl ?_
  refine wpR_v (OpV_conv rfl (cv_i_8 Tryd.underlying3 Tryd.underlying5 66)) rfl ?_
  obtain ⟨x_137, hx_137, h⟩ := obind_some h
  refine wpR_v (G_ix Tryd.underlying22 ti5 rfl rfl (hS.ro 9 rfl) hx_137) rfl ?_
  refine wpR_y (G_storeE (t := (UInt8.ofInt 66)) ti5 rfl rfl hS (i := 9) rfl hx_137 rfl) ?_
  intro w hS
  obtain ⟨x_138, hx_138, h⟩ := olet_some h
  rw [hx_138] at hS
  refine wpR_nil (QE_blk_n ?_)
  refine QE_then_n (wpC_region (wpR_run 3 rfl ?_))
  refine wpR_nil ?_
  exact QE_rnd (wpN_le _ (by exact ⟨rfl, rfl, rfl, rfl, rfl, rfl, rfl, rfl, trivial⟩) (ih_134 (wI (x_131 + 1), x_138) _ _ ⟨rfl, hS⟩ (oinl_some h hk_133)))
 have h := if_f h hb_136
 refine wpC_exit ?_
 refine QE_then_x (QE_then_x ?_)
 have h := oinr_some h hk_133
 refine QE_blk_x ?_
 refine QE_blk_n ?_
 refine QE_then_n (wpC_region (wpR_run 1 rfl ?_))
 refine wpR_v (OpV_bin rfl rfl (b_iadd _ 6 1)) rfl ?_
 refine wpR_run 1 rfl ?_
 refine wpR_nil (QE_rnd ?_)
 refine wpN_succ ?_
 refine wpC_seq (wpC_seq (wpC_region (wpR_run 2 rfl ?_)))
 refine wpR_v (show OpV _ _ _ _ _ (vI 8) _ from OpV_len Tryd.underlying53 rfl (hS.ro 2 rfl)) rfl ?_
 refine wpR_v (OpV_bin rfl rfl (b_ilss _ 7 8)) rfl ?_
 refine wpR_nil (QE_then_n (wpC_condT rfl ?_))
 refine wpC_skip (QE_then_n (wpC_seq (wpC_block ?_)))
 refine wpC_seq (wpC_region (wpR_run 1 rfl ?_))
 refine wpR_nil (QE_then_n (wpC_block ?_))
 refine wpC_le [(0, va0), (1, va1), (2, va2), (7, slV v_4 e8.sz 0 x_3.2), (8, slV v_8 e8.sz 0 x_7.2), (21, v_41), (26, vI 7), (27, vI 0)] ⟨rfl, rfl, rfl, rfl, rfl, rfl, rfl, rfl, trivial⟩ ?_
 refine loop_ind (F.law31_CoseSpares_L8 x_76 x_84 x_92 x_100 x_116 x_124 x_132 a2 a0 a1 x_3 x_7) (fun (s : Int × List UInt8) L w => L = [(0, va0), (1, va1), (2, va2), (7, slV v_4 e8.sz 0 x_3.2), (8, slV v_8 e8.sz 0 x_7.2), (21, v_41), (26, vI 7), (27, vI s.1)] ∧ St [] w0 w [own e8 v_4 x_3.1, own e8 v_8 x_7.1, own eV v_41 ([SV.of v_12, SV.of v_14, SV.of v_16, SV.of v_18, SV.of v_21, SV.of v_23, SV.of v_25, SV.of v_27] : List SV), own e8 v_12 x_76, own e8 v_14 x_84, own e8 v_16 x_92, own e8 v_18 x_100, own e8 v_21 x_116, own e8 v_23 x_124, own e8 v_25 x_132, own e8 v_27 s.2]) ?_ (0, x_20.2.2.2.2.1) ⟨rfl, hS⟩ h
 rintro k_529 ⟨x_139, x_140⟩ L w q_143 hI ih_142 h hk_141
 try dsimp only at hI
 obtain ⟨rfl, hS⟩ := hI
 unfold F.law31_CoseSpares_L8 at h
 refine wpC_seq (wpC_seq (wpC_region (wpR_run 3 rfl ?_)))
 refine wpR_v (G_ix Tryd.underlying53 ti22 rfl rfl (hS.ro 2 rfl) (show getO ([SV.of v_12, SV.of v_14, SV.of v_16, SV.of v_18, SV.of v_21, SV.of v_23, SV.of v_25, SV.of v_27] : List SV) (7 : Int) = some (SV.of v_27) from rfl)) rfl ?_
 refine wpR_v (G_load Tryd.underlying22 rfl rfl (hS.ro 2 rfl) (show getO ([SV.of v_12, SV.of v_14, SV.of v_16, SV.of v_18, SV.of v_21, SV.of v_23, SV.of v_25, SV.of v_27] : List SV) (7 : Int) = some (SV.of v_27) from rfl) (eVc (hS.ro 10 rfl).sv)) rfl ?_
 refine wpR_v (OpV_len Tryd.underlying22 rfl (hS.ro 10 rfl)) rfl ?_
 refine wpR_run 1 rfl ?_
 refine wpR_nil (QE_then_n ?_)
 refine wpC_cond rfl (fun hb_144 => ?_) (fun hb_144 => ?_)
 ·have h := if_t h hb_144
  refine wpC_skip (QE_then_n (wpC_seq (wpC_block ?_)))
  refine wpC_region (wpR_run 2 rfl ?_)
  refine wpR_v (G_ix Tryd.underlying53 ti22 rfl rfl (hS.ro 2 rfl) (show getO ([SV.of v_12, SV.of v_14, SV.of v_16, SV.of v_18, SV.of v_21, SV.of v_23, SV.of v_25, SV.of v_27] : List SV) (7 : Int) = some (SV.of v_27) from rfl)) rfl ?_
  refine wpR_v (G_load Tryd.underlying22 rfl rfl (hS.ro 2 rfl) (show getO ([SV.of v_12, SV.of v_14, SV.of v_16, SV.of v_18, SV.of v_21, SV.of v_23, SV.of v_25, SV.of v_27] : List SV) (7 : Int) = some (SV.of v_27) from rfl) (eVc (hS.ro 10 rfl).sv)) rfl ?_
  refine wpR_run 2 rfl ?_
  refine wpR_v (OpV_bin rfl rfl (b_iadd _ 60 7)) rfl ?_
  refine wpR_v (OpV_conv rfl (cv_i_8 Tryd.underlying3 Tryd.underlying5 67)) rfl ?_
  obtain ⟨x_145, hx_145, h⟩ := obind_some h
  refine wpR_v (G_ix Tryd.underlying22 ti5 rfl rfl (hS.ro 10 rfl) hx_145) rfl ?_
  refine wpR_y (G_storeE (t := (UInt8.ofInt 67)) ti5 rfl rfl hS (i := 10) rfl hx_145 rfl) ?_
  intro w hS
  obtain ⟨x_146, hx_146, h⟩ := olet_some h
  rw [hx_146] at hS
  refine wpR_nil (QE_blk_n ?_)
  refine QE_then_n (wpC_region (wpR_run 3 rfl ?_))
  refine wpR_nil ?_
  exact QE_rnd (wpN_le _ (by exact ⟨rfl, rfl, rfl, rfl, rfl, rfl, rfl, rfl, trivial⟩) (ih_142 (wI (x_139 + 1), x_146) _ _ ⟨rfl, hS⟩ (oinl_some h hk_141)))
 have h := if_f h hb_144
 refine wpC_exit ?_
 refine QE_then_x (QE_then_x ?_)
 have h := oinr_some h hk_141
 refine QE_blk_x ?_
 refine QE_blk_n ?_
 refine QE_then_n (wpC_region (wpR_run 1 rfl ?_))
 refine wpR_v (OpV_bin rfl rfl (b_iadd _ 7 1)) rfl ?_
 refine wpR_run 1 rfl ?_
 refine wpR_nil (QE_rnd ?_)
 refine wpN_succ ?_
 refine wpC_seq (wpC_seq (wpC_region (wpR_run 2 rfl ?_)))
 refine wpR_v (show OpV _ _ _ _ _ (vI 8) _ from OpV_len Tryd.underlying53 rfl (hS.ro 2 rfl)) rfl ?_
 refine wpR_v (OpV_bin rfl rfl (b_ilss _ 8 8)) rfl ?_
 refine wpR_nil (QE_then_n (wpC_condF rfl ?_))
 refine wpC_exit ?_
 refine QE_then_x (QE_then_x (QE_blk_x ?_))
 refine QE_then_n (wpC_seq (wpC_region (wpR_run 1 rfl ?_)))
 refine wpR_nil (QE_then_n (wpC_seq (wpC_seq (wpC_region (wpR_run 1 rfl ?_)))))
 refine wpR_nil (QE_then_n (wpC_block ?_))
 refine wpC_loop 100 ?_
 refine wpN_succ ?_
 refine wpC_seq (wpC_seq (wpC_region (wpR_run 2 rfl ?_)))
 refine wpR_v (show OpV _ _ _ _ _ (vI 8) _ from OpV_len Tryd.underlying53 rfl (hS.ro 2 rfl)) rfl ?_
 refine wpR_v (OpV_bin rfl rfl (b_ilss _ 0 8)) rfl ?_
 refine wpR_nil (QE_then_n (wpC_condT rfl ?_))
 refine wpC_skip (QE_then_n (wpC_seq (wpC_block ?_)))
 refine wpC_seq (wpC_region (wpR_run 2 rfl ?_))
 refine wpR_v (G_ix Tryd.underlying53 ti22 rfl rfl (hS.ro 2 rfl) (show getO ([SV.of v_12, SV.of v_14, SV.of v_16, SV.of v_18, SV.of v_21, SV.of v_23, SV.of v_25, SV.of v_27] : List SV) (0 : Int) = some (SV.of v_12) from rfl)) rfl ?_
 refine wpR_v (G_load Tryd.underlying22 rfl rfl (hS.ro 2 rfl) (show getO ([SV.of v_12, SV.of v_14, SV.of v_16, SV.of v_18, SV.of v_21, SV.of v_23, SV.of v_25, SV.of v_27] : List SV) (0 : Int) = some (SV.of v_12) from rfl) (eVc (hS.ro 3 rfl).sv)) rfl ?_
 refine wpR_run 1 rfl ?_
 have hA_148 := (hS.ro 3 rfl).tw
 replace hS := hS.twin 3 rfl
 refine wpR_nil (QE_then_n (wpC_seq (wpC_seq (wpC_region (wpR_run 1 rfl ?_)))))
 refine wpR_nil (QE_then_n (wpC_block ?_))
 refine wpC_le [(0, va0), (1, va1), (2, va2), (7, slV v_4 e8.sz 0 x_3.2), (8, slV v_8 e8.sz 0 x_7.2), (21, v_41), (28, .slice none 0 0), (29, vI 0), (30, v_12), (31, vI 0)] ⟨rfl, rfl, rfl, rfl, rfl, rfl, rfl, rfl, rfl, rfl, trivial⟩ ?_
 refine loop_ind (F.law31_CoseSpares_L9 x_84 x_92 x_100 x_116 x_124 x_132 x_140 x_76 a2 a0 a1 x_3 x_7) (fun (s : List UInt8 × Int) L w => ∃ (v_150 : Value) (b_153 : Nat), L = [(0, va0), (1, va1), (2, va2), (7, slV v_4 e8.sz 0 x_3.2), (8, slV v_8 e8.sz 0 x_7.2), (21, v_41), (28, .slice none 0 0), (29, vI 0), (30, v_150), (31, vI s.2)] ∧ Tw v_12 x_76 v_150 s.1 b_153 ∧ St [] w0 w [own e8 v_150 s.1, own e8 v_4 x_3.1, own e8 v_8 x_7.1, own eV v_41 ([SV.of v_12, SV.of v_14, SV.of v_16, SV.of v_18, SV.of v_21, SV.of v_23, SV.of v_25, SV.of v_27] : List SV), twE e8 v_12 x_76 b_153, own e8 v_14 x_84, own e8 v_16 x_92, own e8 v_18 x_100, own e8 v_21 x_116, own e8 v_23 x_124, own e8 v_25 x_132, own e8 v_27 x_140]) ?_ (x_76, 0) ⟨v_12, 0, rfl, hA_148, (hS.pick [4, 1, 2, 3, 0, 5, 6, 7, 8, 9, 10, 11] (by decide) rfl)⟩ h
 rintro k_528 ⟨x_149, x_152⟩ L w q_157 hI ih_156 h hk_155
 try dsimp only at hI
 obtain ⟨v_150, b_153, rfl, hA_154, hS⟩ := hI
 unfold F.law31_CoseSpares_L9 at h
 refine wpC_seq (wpC_seq (wpC_region (wpR_run 2 rfl ?_)))
 refine wpR_nil (QE_then_n ?_)
 refine wpC_cond rfl (fun hb_158 => ?_) (fun hb_158 => ?_)
 ·have h := if_t h hb_158
  refine wpC_skip (QE_then_n (wpC_seq (wpC_block ?_)))
  refine wpC_region (wpR_run 2 rfl ?_)
  refine wpR_v (OpV_bin rfl rfl (b_iadd _ 80 0)) rfl ?_
  refine wpR_v (OpV_conv rfl (cv_i_8 Tryd.underlying3 Tryd.underlying5 80)) rfl ?_
  refine wpR_x (OpX_lit (e := e8) (l := [UInt8.ofInt 80]) (vs := [v8 (UInt8.ofInt 80)]) Tryd.underlying22 ti5 rfl rfl rfl rfl (by decide) (by decide) hS) rfl ?_
  rintro v_159 w hS
  obtain ⟨x_161, hx_161, h⟩ := obind_some h
  refine wpR_x (G_append_tw Tryd.underlying22 ti5 rfl rfl rfl hS (i := 1) (j := 5) rfl rfl hA_154 (hS.ro 0 rfl) hx_161) rfl ?_
  rintro v_162 w ⟨b_163, hA_164, hS⟩
  refine wpR_run 1 rfl ?_
  refine wpR_nil (QE_blk_n ?_)
  refine QE_then_n (wpC_region (wpR_run 3 rfl ?_))
  refine wpR_nil ?_
  exact QE_rnd (wpN_le _ (by exact ⟨rfl, rfl, rfl, rfl, rfl, rfl, rfl, rfl, rfl, rfl, trivial⟩) (ih_156 (x_161, wI (x_152 + 1)) _ _ ⟨v_162, b_163, rfl, hA_164, (hS.pick [1, 2, 3, 4, 5, 6, 7, 8, 9, 10, 11, 12] (by decide) rfl)⟩ (oinl_some h hk_155)))
 have h := if_f h hb_158
 refine wpC_exit ?_
 refine QE_then_x (QE_then_x ?_)
 have h := oinr_some h hk_155
 refine QE_blk_x ?_
 refine QE_then_n (wpC_region (wpR_run 2 rfl ?_))
 refine wpR_x (OpX_lit (e := eV) (l := ([SV.of v_150] : List SV)) (vs := [v_150]) Tryd.underlying53 ti22 rfl rfl rfl (fl_eVc (hS.ro 0 rfl).sv rfl) (by decide) (by decide) hS) rfl ?_
 rintro v_166 w hS
 refine wpR_x (G_append0 Tryd.underlying53 ti22 rfl rfl rfl hS (hS.ro 0 rfl) (apO_v rfl)) rfl ?_
 rintro v_168 w hS
 replace hS : St _ w0 w [own eV v_168 ([SV.of v_150] : List SV), own eV v_166 ([SV.of v_150] : List SV), own e8 v_150 x_149, own e8 v_4 x_3.1, own e8 v_8 x_7.1, own eV v_41 ([SV.of v_12, SV.of v_14, SV.of v_16, SV.of v_18, SV.of v_21, SV.of v_23, SV.of v_25, SV.of v_27] : List SV), twE e8 v_12 x_76 b_153, own e8 v_14 x_84, own e8 v_16 x_92, own e8 v_18 x_100, own e8 v_21 x_116, own e8 v_23 x_124, own e8 v_25 x_132, own e8 v_27 x_140] := hS
 refine wpR_run 1 rfl ?_
 refine wpR_nil (QE_blk_n ?_)
 refine QE_then_n (wpC_region (wpR_run 1 rfl ?_))
 refine wpR_v (OpV_bin rfl rfl (b_iadd _ 0 1)) rfl ?_
 refine wpR_run 1 rfl ?_
 refine wpR_nil (QE_rnd ?_)
 refine wpN_succ ?_
 refine wpC_seq (wpC_seq (wpC_region (wpR_run 2 rfl ?_)))
 refine wpR_v (show OpV _ _ _ _ _ (vI 8) _ from OpV_len Tryd.underlying53 rfl (hS.ro 5 rfl)) rfl ?_
 refine wpR_v (OpV_bin rfl rfl (b_ilss _ 1 8)) rfl ?_
 refine wpR_nil (QE_then_n (wpC_condT rfl ?_))
 refine wpC_skip (QE_then_n (wpC_seq (wpC_block ?_)))
 refine wpC_seq (wpC_region (wpR_run 2 rfl ?_))
 refine wpR_v (G_ix Tryd.underlying53 ti22 rfl rfl (hS.ro 5 rfl) (show getO ([SV.of v_12, SV.of v_14, SV.of v_16, SV.of v_18, SV.of v_21, SV.of v_23, SV.of v_25, SV.of v_27] : List SV) (1 : Int) = some (SV.of v_14) from rfl)) rfl ?_
 refine wpR_v (G_load Tryd.underlying22 rfl rfl (hS.ro 5 rfl) (show getO ([SV.of v_12, SV.of v_14, SV.of v_16, SV.of v_18, SV.of v_21, SV.of v_23, SV.of v_25, SV.of v_27] : List SV) (1 : Int) = some (SV.of v_14) from rfl) (eVc (hS.ro 7 rfl).sv)) rfl ?_
 refine wpR_run 1 rfl ?_
 have hA_171 := (hS.ro 7 rfl).tw
 replace hS := hS.twin 7 rfl
 refine wpR_nil (QE_then_n (wpC_seq (wpC_seq (wpC_region (wpR_run 1 rfl ?_)))))
 refine wpR_nil (QE_then_n (wpC_block ?_))
 refine wpC_le [(0, va0), (1, va1), (2, va2), (7, slV v_4 e8.sz 0 x_3.2), (8, slV v_8 e8.sz 0 x_7.2), (21, v_41), (28, v_168), (29, vI 1), (30, v_14), (31, vI 0)] ⟨rfl, rfl, rfl, rfl, rfl, rfl, rfl, rfl, rfl, rfl, trivial⟩ ?_
 refine loop_ind (F.law31_CoseSpares_L10 x_92 x_100 x_116 x_124 x_132 x_140 x_76 x_149 x_84 a2 a0 a1 x_3 x_7) (fun (s : List UInt8 × Int) L w => ∃ (v_173 : Value) (b_176 : Nat), L = [(0, va0), (1, va1), (2, va2), (7, slV v_4 e8.sz 0 x_3.2), (8, slV v_8 e8.sz 0 x_7.2), (21, v_41), (28, v_168), (29, vI 1), (30, v_173), (31, vI s.2)] ∧ Tw v_14 x_84 v_173 s.1 b_176 ∧ St [] w0 w [own e8 v_173 s.1, own e8 v_4 x_3.1, own e8 v_8 x_7.1, own eV v_41 ([SV.of v_12, SV.of v_14, SV.of v_16, SV.of v_18, SV.of v_21, SV.of v_23, SV.of v_25, SV.of v_27] : List SV), twE e8 v_12 x_76 b_153, own e8 v_150 x_149, twE e8 v_14 x_84 b_176, own e8 v_16 x_92, own e8 v_18 x_100, own e8 v_21 x_116, own e8 v_23 x_124, own e8 v_25 x_132, own e8 v_27 x_140, own eV v_168 ([SV.of v_150] : List SV)]) ?_ (x_84, 0) ⟨v_14, 0, rfl, hA_171, (hS.pick [8, 4, 5, 6, 7, 3, 0, 9, 10, 11, 12, 13, 14, 1] (by decide) rfl)⟩ h
 rintro k_527 ⟨x_172, x_175⟩ L w q_180 hI ih_179 h hk_178
 try dsimp only at hI
 obtain ⟨v_173, b_176, rfl, hA_177, hS⟩ := hI
 unfold F.law31_CoseSpares_L10 at h
 refine wpC_seq (wpC_seq (wpC_region (wpR_run 2 rfl ?_)))
 refine wpR_nil (QE_then_n ?_)
 refine wpC_cond rfl (fun hb_181 => ?_) (fun hb_181 => ?_)
 ·have h := if_t h hb_181
  refine wpC_skip (QE_then_n (wpC_seq (wpC_block ?_)))
  refine wpC_region (wpR_run 2 rfl ?_)
  refine wpR_v (OpV_bin rfl rfl (b_iadd _ 80 1)) rfl ?_
  refine wpR_v (OpV_conv rfl (cv_i_8 Tryd.underlying3 Tryd.underlying5 81)) rfl ?_
  refine wpR_x (OpX_lit (e := e8) (l := [UInt8.ofInt 81]) (vs := [v8 (UInt8.ofInt 81)]) Tryd.underlying22 ti5 rfl rfl rfl rfl (by decide) (by decide) hS) rfl ?_
  rintro v_182 w hS
  obtain ⟨x_184, hx_184, h⟩ := obind_some h
  refine wpR_x (G_append_tw Tryd.underlying22 ti5 rfl rfl rfl hS (i := 1) (j := 7) rfl rfl hA_177 (hS.ro 0 rfl) hx_184) rfl ?_
  rintro v_185 w ⟨b_186, hA_187, hS⟩
  refine wpR_run 1 rfl ?_
  refine wpR_nil (QE_blk_n ?_)
  refine QE_then_n (wpC_region (wpR_run 3 rfl ?_))
  refine wpR_nil ?_
  exact QE_rnd (wpN_le _ (by exact ⟨rfl, rfl, rfl, rfl, rfl, rfl, rfl, rfl, rfl, rfl, trivial⟩) (ih_179 (x_184, wI (x_175 + 1)) _ _ ⟨v_185, b_186, rfl, hA_187, (hS.pick [1, 2, 3, 4, 5, 6, 7, 8, 9, 10, 11, 12, 13, 14] (by decide) rfl)⟩ (oinl_some h hk_178)))
 have h := if_f h hb_181
 refine wpC_exit ?_
 refine QE_then_x (QE_then_x ?_)
 have h := oinr_some h hk_178
 refine QE_blk_x ?_
 refine QE_then_n (wpC_region (wpR_run 2 rfl ?_))
 refine wpR_x (OpX_lit (e := eV) (l := ([SV.of v_173] : List SV)) (vs := [v_173]) Tryd.underlying53 ti22 rfl rfl rfl (fl_eVc (hS.ro 0 rfl).sv rfl) (by decide) (by decide) hS) rfl ?_
 rintro v_189 w hS
 refine wpR_x (G_append Tryd.underlying53 ti22 rfl rfl rfl hS (i := 14) rfl (hS.ro 0 rfl) (apO_v rfl)) rfl ?_
 rintro v_191 w hS
 replace hS : St _ w0 w [own eV v_189 ([SV.of v_173] : List SV), own e8 v_173 x_172, own e8 v_4 x_3.1, own e8 v_8 x_7.1, own eV v_41 ([SV.of v_12, SV.of v_14, SV.of v_16, SV.of v_18, SV.of v_21, SV.of v_23, SV.of v_25, SV.of v_27] : List SV), twE e8 v_12 x_76 b_153, own e8 v_150 x_149, twE e8 v_14 x_84 b_176, own e8 v_16 x_92, own e8 v_18 x_100, own e8 v_21 x_116, own e8 v_23 x_124, own e8 v_25 x_132, own e8 v_27 x_140, own eV v_191 ([SV.of v_150, SV.of v_173] : List SV)] := hS
 refine wpR_run 1 rfl ?_
 refine wpR_nil (QE_blk_n ?_)
 refine QE_then_n (wpC_region (wpR_run 1 rfl ?_))
 refine wpR_v (OpV_bin rfl rfl (b_iadd _ 1 1)) rfl ?_
 refine wpR_run 1 rfl ?_
 refine wpR_nil (QE_rnd ?_)
 refine wpN_succ ?_
 refine wpC_seq (wpC_seq (wpC_region (wpR_run 2 rfl ?_)))
 refine wpR_v (show OpV _ _ _ _ _ (vI 8) _ from OpV_len Tryd.underlying53 rfl (hS.ro 4 rfl)) rfl ?_
 refine wpR_v (OpV_bin rfl rfl (b_ilss _ 2 8)) rfl ?_
 refine wpR_nil (QE_then_n (wpC_condT rfl ?_))
 refine wpC_skip (QE_then_n (wpC_seq (wpC_block ?_)))
 refine wpC_seq (wpC_region (wpR_run 2 rfl ?_))
 refine wpR_v (G_ix Tryd.underlying53 ti22 rfl rfl (hS.ro 4 rfl) (show getO ([SV.of v_12, SV.of v_14, SV.of v_16, SV.of v_18, SV.of v_21, SV.of v_23, SV.of v_25, SV.of v_27] : List SV) (2 : Int) = some (SV.of v_16) from rfl)) rfl ?_
 refine wpR_v (G_load Tryd.underlying22 rfl rfl (hS.ro 4 rfl) (show getO ([SV.of v_12, SV.of v_14, SV.of v_16, SV.of v_18, SV.of v_21, SV.of v_23, SV.of v_25, SV.of v_27] : List SV) (2 : Int) = some (SV.of v_16) from rfl) (eVc (hS.ro 8 rfl).sv)) rfl ?_
 refine wpR_run 1 rfl ?_
 have hA_194 := (hS.ro 8 rfl).tw
 replace hS := hS.twin 8 rfl
 refine wpR_nil (QE_then_n (wpC_seq (wpC_seq (wpC_region (wpR_run 1 rfl ?_)))))
 refine wpR_nil (QE_then_n (wpC_block ?_))
 refine wpC_le [(0, va0), (1, va1), (2, va2), (7, slV v_4 e8.sz 0 x_3.2), (8, slV v_8 e8.sz 0 x_7.2), (21, v_41), (28, v_191), (29, vI 2), (30, v_16), (31, vI 0)] ⟨rfl, rfl, rfl, rfl, rfl, rfl, rfl, rfl, rfl, rfl, trivial⟩ ?_
 refine loop_ind (F.law31_CoseSpares_L11 x_100 x_116 x_124 x_132 x_140 x_76 x_149 x_84 x_172 x_92 a2 a0 a1 x_3 x_7) (fun (s : List UInt8 × Int) L w => ∃ (v_196 : Value) (b_199 : Nat), L = [(0, va0), (1, va1), (2, va2), (7, slV v_4 e8.sz 0 x_3.2), (8, slV v_8 e8.sz 0 x_7.2), (21, v_41), (28, v_191), (29, vI 2), (30, v_196), (31, vI s.2)] ∧ Tw v_16 x_92 v_196 s.1 b_199 ∧ St [] w0 w [own e8 v_196 s.1, own e8 v_4 x_3.1, own e8 v_8 x_7.1, own eV v_41 ([SV.of v_12, SV.of v_14, SV.of v_16, SV.of v_18, SV.of v_21, SV.of v_23, SV.of v_25, SV.of v_27] : List SV), twE e8 v_12 x_76 b_153, own e8 v_150 x_149, twE e8 v_14 x_84 b_176, own e8 v_173 x_172, twE e8 v_16 x_92 b_199, own e8 v_18 x_100, own e8 v_21 x_116, own e8 v_23 x_124, own e8 v_25 x_132, own e8 v_27 x_140, own eV v_191 ([SV.of v_150, SV.of v_173] : List SV)]) ?_ (x_92, 0) ⟨v_16, 0, rfl, hA_194, (hS.pick [9, 3, 4, 5, 6, 7, 8, 2, 0, 10, 11, 12, 13, 14, 15] (by decide) rfl)⟩ h
 rintro k_526 ⟨x_195, x_198⟩ L w q_203 hI ih_202 h hk_201
 try dsimp only at hI
 obtain ⟨v_196, b_199, rfl, hA_200, hS⟩ := hI
 unfold F.law31_CoseSpares_L11 at h
 refine wpC_seq (wpC_seq (wpC_region (wpR_run 2 rfl ?_)))
 refine wpR_nil (QE_then_n ?_)
 refine wpC_cond rfl (fun hb_204 => ?_) (fun hb_204 => ?_)
 ·have h := if_t h hb_204
  refine wpC_skip (QE_then_n (wpC_seq (wpC_block ?_)))
  refine wpC_region (wpR_run 2 rfl ?_)
  refine wpR_v (OpV_bin rfl rfl (b_iadd _ 80 2)) rfl ?_
  refine wpR_v (OpV_conv rfl (cv_i_8 Tryd.underlying3 Tryd.underlying5 82)) rfl ?_
  refine wpR_x (OpX_lit (e := e8) (l := [UInt8.ofInt 82]) (vs := [v8 (UInt8.ofInt 82)]) Tryd.underlying22 ti5 rfl rfl rfl rfl (by decide) (by decide) hS) rfl ?_
  rintro v_205 w hS
  obtain ⟨x_207, hx_207, h⟩ := obind_some h
  refine wpR_x (G_append_tw Tryd.underlying22 ti5 rfl rfl rfl hS (i := 1) (j := 9) rfl rfl hA_200 (hS.ro 0 rfl) hx_207) rfl ?_
  rintro v_208 w ⟨b_209, hA_210, hS⟩
  refine wpR_run 1 rfl ?_
  refine wpR_nil (QE_blk_n ?_)
  refine QE_then_n (wpC_region (wpR_run 3 rfl ?_))
  refine wpR_nil ?_
  exact QE_rnd (wpN_le _ (by exact ⟨rfl, rfl, rfl, rfl, rfl, rfl, rfl, rfl, rfl, rfl, trivial⟩) (ih_202 (x_207, wI (x_198 + 1)) _ _ ⟨v_208, b_209, rfl, hA_210, (hS.pick [1, 2, 3, 4, 5, 6, 7, 8, 9, 10, 11, 12, 13, 14, 15] (by decide) rfl)⟩ (oinl_some h hk_201)))
 have h := if_f h hb_204
 refine wpC_exit ?_
 refine QE_then_x (QE_then_x ?_)
 have h := oinr_some h hk_201
 refine QE_blk_x ?_
 refine QE_then_n (wpC_region (wpR_run 2 rfl ?_))
 refine wpR_x (OpX_lit (e := eV) (l := ([SV.of v_196] : List SV)) (vs := [v_196]) Tryd.underlying53 ti22 rfl rfl rfl (fl_eVc (hS.ro 0 rfl).sv rfl) (by decide) (by decide) hS) rfl ?_
 rintro v_212 w hS
 refine wpR_x (G_append Tryd.underlying53 ti22 rfl rfl rfl hS (i := 15) rfl (hS.ro 0 rfl) (apO_v rfl)) rfl ?_
 rintro v_214 w hS
 replace hS : St _ w0 w [own eV v_212 ([SV.of v_196] : List SV), own e8 v_196 x_195, own e8 v_4 x_3.1, own e8 v_8 x_7.1, own eV v_41 ([SV.of v_12, SV.of v_14, SV.of v_16, SV.of v_18, SV.of v_21, SV.of v_23, SV.of v_25, SV.of v_27] : List SV), twE e8 v_12 x_76 b_153, own e8 v_150 x_149, twE e8 v_14 x_84 b_176, own e8 v_173 x_172, twE e8 v_16 x_92 b_199, own e8 v_18 x_100, own e8 v_21 x_116, own e8 v_23 x_124, own e8 v_25 x_132, own e8 v_27 x_140, own eV v_214 ([SV.of v_150, SV.of v_173, SV.of v_196] : List SV)] := hS
 refine wpR_run 1 rfl ?_
 refine wpR_nil (QE_blk_n ?_)
 refine QE_then_n (wpC_region (wpR_run 1 rfl ?_))
 refine wpR_v (OpV_bin rfl rfl (b_iadd _ 2 1)) rfl ?_
 refine wpR_run 1 rfl ?_
 refine wpR_nil (QE_rnd ?_)
 refine wpN_succ ?_
 refine wpC_seq (wpC_seq (wpC_region (wpR_run 2 rfl ?_)))
 refine wpR_v (show OpV _ _ _ _ _ (vI 8) _ from OpV_len Tryd.underlying53 rfl (hS.ro 4 rfl)) rfl ?_
 refine wpR_v (OpV_bin rfl rfl (b_ilss _ 3 8)) rfl ?_
 refine wpR_nil (QE_then_n (wpC_condT rfl ?_))
 refine wpC_skip (QE_then_n (wpC_seq (wpC_block ?_)))
 refine wpC_seq (wpC_region (wpR_run 2 rfl ?_))
 refine wpR_v (G_ix Tryd.underlying53 ti22 rfl rfl (hS.ro 4 rfl) (show getO ([SV.of v_12, SV.of v_14, SV.of v_16, SV.of v_18, SV.of v_21, SV.of v_23, SV.of v_25, SV.of v_27] : List SV) (3 : Int) = some (SV.of v_18) from rfl)) rfl ?_
 refine wpR_v (G_load Tryd.underlying22 rfl rfl (hS.ro 4 rfl) (show getO ([SV.of v_12, SV.of v_14, SV.of v_16, SV.of v_18, SV.of v_21, SV.of v_23, SV.of v_25, SV.of v_27] : List SV) (3 : Int) = some (SV.of v_18) from rfl) (eVc (hS.ro 10 rfl).sv)) rfl ?_
 refine wpR_run 1 rfl ?_
 have hA_217 := (hS.ro 10 rfl).tw
 replace hS := hS.twin 10 rfl
 refine wpR_nil (QE_then_n (wpC_seq (wpC_seq (wpC_region (wpR_run 1 rfl ?_)))))
 refine wpR_nil (QE_then_n (wpC_block ?_))
 refine wpC_le [(0, va0), (1, va1), (2, va2), (7, slV v_4 e8.sz 0 x_3.2), (8, slV v_8 e8.sz 0 x_7.2), (21, v_41), (28, v_214), (29, vI 3), (30, v_18), (31, vI 0)] ⟨rfl, rfl, rfl, rfl, rfl, rfl, rfl, rfl, rfl, rfl, trivial⟩ ?_
 refine loop_ind (F.law31_CoseSpares_L12 x_116 x_124 x_132 x_140 x_76 x_149 x_84 x_172 x_92 x_195 x_100 a2 a0 a1 x_3 x_7) (fun (s : List UInt8 × Int) L w => ∃ (v_219 : Value) (b_222 : Nat), L = [(0, va0), (1, va1), (2, va2), (7, slV v_4 e8.sz 0 x_3.2), (8, slV v_8 e8.sz 0 x_7.2), (21, v_41), (28, v_214), (29, vI 3), (30, v_219), (31, vI s.2)] ∧ Tw v_18 x_100 v_219 s.1 b_222 ∧ St [] w0 w [own e8 v_219 s.1, own e8 v_4 x_3.1, own e8 v_8 x_7.1, own eV v_41 ([SV.of v_12, SV.of v_14, SV.of v_16, SV.of v_18, SV.of v_21, SV.of v_23, SV.of v_25, SV.of v_27] : List SV), twE e8 v_12 x_76 b_153, own e8 v_150 x_149, twE e8 v_14 x_84 b_176, own e8 v_173 x_172, twE e8 v_16 x_92 b_199, own e8 v_196 x_195, twE e8 v_18 x_100 b_222, own e8 v_21 x_116, own e8 v_23 x_124, own e8 v_25 x_132, own e8 v_27 x_140, own eV v_214 ([SV.of v_150, SV.of v_173, SV.of v_196] : List SV)]) ?_ (x_100, 0) ⟨v_18, 0, rfl, hA_217, (hS.pick [11, 3, 4, 5, 6, 7, 8, 9, 10, 2, 0, 12, 13, 14, 15, 16] (by decide) rfl)⟩ h
 rintro k_525 ⟨x_218, x_221⟩ L w q_226 hI ih_225 h hk_224
 try dsimp only at hI
 obtain ⟨v_219, b_222, rfl, hA_223, hS⟩ := hI
 unfold F.law31_CoseSpares_L12 at h
 refine wpC_seq (wpC_seq (wpC_region (wpR_run 2 rfl ?_)))
 refine wpR_nil (QE_then_n ?_)
 refine wpC_cond rfl (fun hb_227 => ?_) (fun hb_227 => ?_)
 ·have h := if_t h hb_227
  refine wpC_skip (QE_then_n (wpC_seq (wpC_block ?_)))
  refine wpC_region (wpR_run 2 rfl ?_)
  refine wpR_v (OpV_bin rfl rfl (b_iadd _ 80 3)) rfl ?_
  refine wpR_v (OpV_conv rfl (cv_i_8 Tryd.underlying3 Tryd.underlying5 83)) rfl ?_
  refine wpR_x (OpX_lit (e := e8) (l := [UInt8.ofInt 83]) (vs := [v8 (UInt8.ofInt 83)]) Tryd.underlying22 ti5 rfl rfl rfl rfl (by decide) (by decide) hS) rfl ?_
  rintro v_228 w hS
  obtain ⟨x_230, hx_230, h⟩ := obind_some h
  refine wpR_x (G_append_tw Tryd.underlying22 ti5 rfl rfl rfl hS (i := 1) (j := 11) rfl rfl hA_223 (hS.ro 0 rfl) hx_230) rfl ?_
  rintro v_231 w ⟨b_232, hA_233, hS⟩
  refine wpR_run 1 rfl ?_
  refine wpR_nil (QE_blk_n ?_)
  refine QE_then_n (wpC_region (wpR_run 3 rfl ?_))
  refine wpR_nil ?_
  exact QE_rnd (wpN_le _ (by exact ⟨rfl, rfl, rfl, rfl, rfl, rfl, rfl, rfl, rfl, rfl, trivial⟩) (ih_225 (x_230, wI (x_221 + 1)) _ _ ⟨v_231, b_232, rfl, hA_233, (hS.pick [1, 2, 3, 4, 5, 6, 7, 8, 9, 10, 11, 12, 13, 14, 15, 16] (by decide) rfl)⟩ (oinl_some h hk_224)))
 have h := if_f h hb_227
 refine wpC_exit ?_
 refine QE_then_x (QE_then_x ?_)
 have h := oinr_some h hk_224
 refine QE_blk_x ?_
 refine QE_then_n (wpC_region (wpR_run 2 rfl ?_))
 refine wpR_x (OpX_lit (e := eV) (l := ([SV.of v_219] : List SV)) (vs := [v_219]) Tryd.underlying53 ti22 rfl rfl rfl (fl_eVc (hS.ro 0 rfl).sv rfl) (by decide) (by decide) hS) rfl ?_
 rintro v_235 w hS
 refine wpR_x (G_append Tryd.underlying53 ti22 rfl rfl rfl hS (i := 16) rfl (hS.ro 0 rfl) (apO_v rfl)) rfl ?_
 rintro v_237 w hS
 replace hS : St _ w0 w [own eV v_235 ([SV.of v_219] : List SV), own e8 v_219 x_218, own e8 v_4 x_3.1, own e8 v_8 x_7.1, own eV v_41 ([SV.of v_12, SV.of v_14, SV.of v_16, SV.of v_18, SV.of v_21, SV.of v_23, SV.of v_25, SV.of v_27] : List SV), twE e8 v_12 x_76 b_153, own e8 v_150 x_149, twE e8 v_14 x_84 b_176, own e8 v_173 x_172, twE e8 v_16 x_92 b_199, own e8 v_196 x_195, twE e8 v_18 x_100 b_222, own e8 v_21 x_116, own e8 v_23 x_124, own e8 v_25 x_132, own e8 v_27 x_140, own eV v_237 ([SV.of v_150, SV.of v_173, SV.of v_196, SV.of v_219] : List SV)] := hS
 refine wpR_run 1 rfl ?_
 refine wpR_nil (QE_blk_n ?_)
 refine QE_then_n (wpC_region (wpR_run 1 rfl ?_))
 refine wpR_v (OpV_bin rfl rfl (b_iadd _ 3 1)) rfl ?_
 refine wpR_run 1 rfl ?_
 refine wpR_nil (QE_rnd ?_)
 refine wpN_succ ?_
 refine wpC_seq (wpC_seq (wpC_region (wpR_run 2 rfl ?_)))
 refine wpR_v (show OpV _ _ _ _ _ (vI 8) _ from OpV_len Tryd.underlying53 rfl (hS.ro 4 rfl)) rfl ?_
 refine wpR_v (OpV_bin rfl rfl (b_ilss _ 4 8)) rfl ?_
 refine wpR_nil (QE_then_n (wpC_condT rfl ?_))
 refine wpC_skip (QE_then_n (wpC_seq (wpC_block ?_)))
 refine wpC_seq (wpC_region (wpR_run 2 rfl ?_))
 refine wpR_v (G_ix Tryd.underlying53 ti22 rfl rfl (hS.ro 4 rfl) (show getO ([SV.of v_12, SV.of v_14, SV.of v_16, SV.of v_18, SV.of v_21, SV.of v_23, SV.of v_25, SV.of v_27] : List SV) (4 : Int) = some (SV.of v_21) from rfl)) rfl ?_
 refine wpR_v (G_load Tryd.underlying22 rfl rfl (hS.ro 4 rfl) (show getO ([SV.of v_12, SV.of v_14, SV.of v_16, SV.of v_18, SV.of v_21, SV.of v_23, SV.of v_25, SV.of v_27] : List SV) (4 : Int) = some (SV.of v_21) from rfl) (eVc (hS.ro 12 rfl).sv)) rfl ?_
 refine wpR_run 1 rfl ?_
 have hA_240 := (hS.ro 12 rfl).tw
 replace hS := hS.twin 12 rfl
 refine wpR_nil (QE_then_n (wpC_seq (wpC_seq (wpC_region (wpR_run 1 rfl ?_)))))
 refine wpR_nil (QE_then_n (wpC_block ?_))
 refine wpC_le [(0, va0), (1, va1), (2, va2), (7, slV v_4 e8.sz 0 x_3.2), (8, slV v_8 e8.sz 0 x_7.2), (21, v_41), (28, v_237), (29, vI 4), (30, v_21), (31, vI 0)] ⟨rfl, rfl, rfl, rfl, rfl, rfl, rfl, rfl, rfl, rfl, trivial⟩ ?_
 refine loop_ind (F.law31_CoseSpares_L13 x_124 x_132 x_140 x_76 x_149 x_84 x_172 x_92 x_195 x_100 x_218 x_116 a2 a0 a1 x_3 x_7) (fun (s : List UInt8 × Int) L w => ∃ (v_242 : Value) (b_245 : Nat), L = [(0, va0), (1, va1), (2, va2), (7, slV v_4 e8.sz 0 x_3.2), (8, slV v_8 e8.sz 0 x_7.2), (21, v_41), (28, v_237), (29, vI 4), (30, v_242), (31, vI s.2)] ∧ Tw v_21 x_116 v_242 s.1 b_245 ∧ St [] w0 w [own e8 v_242 s.1, own e8 v_4 x_3.1, own e8 v_8 x_7.1, own eV v_41 ([SV.of v_12, SV.of v_14, SV.of v_16, SV.of v_18, SV.of v_21, SV.of v_23, SV.of v_25, SV.of v_27] : List SV), twE e8 v_12 x_76 b_153, own e8 v_150 x_149, twE e8 v_14 x_84 b_176, own e8 v_173 x_172, twE e8 v_16 x_92 b_199, own e8 v_196 x_195, twE e8 v_18 x_100 b_222, own e8 v_219 x_218, twE e8 v_21 x_116 b_245, own e8 v_23 x_124, own e8 v_25 x_132, own e8 v_27 x_140, own eV v_237 ([SV.of v_150, SV.of v_173, SV.of v_196, SV.of v_219] : List SV)]) ?_ (x_116, 0) ⟨v_21, 0, rfl, hA_240, (hS.pick [13, 3, 4, 5, 6, 7, 8, 9, 10, 11, 12, 2, 0, 14, 15, 16, 17] (by decide) rfl)⟩ h
 rintro k_524 ⟨x_241, x_244⟩ L w q_249 hI ih_248 h hk_247
 try dsimp only at hI
 obtain ⟨v_242, b_245, rfl, hA_246, hS⟩ := hI
 unfold F.law31_CoseSpares_L13 at h
 refine wpC_seq (wpC_seq (wpC_region (wpR_run 2 rfl ?_)))
 refine wpR_nil (QE_then_n ?_)
 refine wpC_cond rfl (fun hb_250 => ?_) (fun hb_250 => ?_)
 ·have h := if_t h hb_250
  refine wpC_skip (QE_then_n (wpC_seq (wpC_block ?_)))
  refine wpC_region (wpR_run 2 rfl ?_)
  refine wpR_v (OpV_bin rfl rfl (b_iadd _ 80 4)) rfl ?_
  refine wpR_v (OpV_conv rfl (cv_i_8 Tryd.underlying3 Tryd.underlying5 84)) rfl ?_
  refine wpR_x (OpX_lit (e := e8) (l := [UInt8.ofInt 84]) (vs := [v8 (UInt8.ofInt 84)]) Tryd.underlying22 ti5 rfl rfl rfl rfl (by decide) (by decide) hS) rfl ?_
  rintro v_251 w hS
  obtain ⟨x_253, hx_253, h⟩ := obind_some h
  refine wpR_x (G_append_tw Tryd.underlying22 ti5 rfl rfl rfl hS (i := 1) (j := 13) rfl rfl hA_246 (hS.ro 0 rfl) hx_253) rfl ?_
  rintro v_254 w ⟨b_255, hA_256, hS⟩
  refine wpR_run 1 rfl ?_
  refine wpR_nil (QE_blk_n ?_)
  refine QE_then_n (wpC_region (wpR_run 3 rfl ?_))
  refine wpR_nil ?_
  exact QE_rnd (wpN_le _ (by exact ⟨rfl, rfl, rfl, rfl, rfl, rfl, rfl, rfl, rfl, rfl, trivial⟩) (ih_248 (x_253, wI (x_244 + 1)) _ _ ⟨v_254, b_255, rfl, hA_256, (hS.pick [1, 2, 3, 4, 5, 6, 7, 8, 9, 10, 11, 12, 13, 14, 15, 16, 17] (by decide) rfl)⟩ (oinl_some h hk_247)))
 have h := if_f h hb_250
 refine wpC_exit ?_
 refine QE_then_x (QE_then_x ?_)
 have h := oinr_some h hk_247
 refine QE_blk_x ?_
 refine QE_then_n (wpC_region (wpR_run 2 rfl ?_))
 refine wpR_x (OpX_lit (e := eV) (l := ([SV.of v_242] : List SV)) (vs := [v_242]) Tryd.underlying53 ti22 rfl rfl rfl (fl_eVc (hS.ro 0 rfl).sv rfl) (by decide) (by decide) hS) rfl ?_
 rintro v_258 w hS
 refine wpR_x (G_append Tryd.underlying53 ti22 rfl rfl rfl hS (i := 17) rfl (hS.ro 0 rfl) (apO_v rfl)) rfl ?_
 rintro v_260 w hS
 replace hS : St _ w0 w [own eV v_258 ([SV.of v_242] : List SV), own e8 v_242 x_241, own e8 v_4 x_3.1, own e8 v_8 x_7.1, own eV v_41 ([SV.of v_12, SV.of v_14, SV.of v_16, SV.of v_18, SV.of v_21, SV.of v_23, SV.of v_25, SV.of v_27] : List SV), twE e8 v_12 x_76 b_153, own e8 v_150 x_149, twE e8 v_14 x_84 b_176, own e8 v_173 x_172, twE e8 v_16 x_92 b_199, own e8 v_196 x_195, twE e8 v_18 x_100 b_222, own e8 v_219 x_218, twE e8 v_21 x_116 b_245, own e8 v_23 x_124, own e8 v_25 x_132, own e8 v_27 x_140, own eV v_260 ([SV.of v_150, SV.of v_173, SV.of v_196, SV.of v_219, SV.of v_242] : List SV)] := hS
 refine wpR_run 1 rfl ?_
 refine wpR_nil (QE_blk_n ?_)
 refine QE_then_n (wpC_region (wpR_run 1 rfl ?_))
 refine wpR_v (OpV_bin rfl rfl (b_iadd _ 4 1)) rfl ?_
 refine wpR_run 1 rfl ?_
 refine wpR_nil (QE_rnd ?_)
 refine wpN_succ ?_
 refine wpC_seq (wpC_seq (wpC_region (wpR_run 2 rfl ?_)))
 refine wpR_v (show OpV _ _ _ _ _ (vI 8) _ from OpV_len Tryd.underlying53 rfl (hS.ro 4 rfl)) rfl ?_
 refine wpR_v (OpV_bin rfl rfl (b_ilss _ 5 8)) rfl ?_
 refine wpR_nil (QE_then_n (wpC_condT rfl ?_))
 refine wpC_skip (QE_then_n (wpC_seq (wpC_block ?_)))
 refine wpC_seq (wpC_region (wpR_run 2 rfl ?_))
 refine wpR_v (G_ix Tryd.underlying53 ti22 rfl rfl (hS.ro 4 rfl) (show getO ([SV.of v_12, SV.of v_14, SV.of v_16, SV.of v_18, SV.of v_21, SV.of v_23, SV.of v_25, SV.of v_27] : List SV) (5 : Int) = some (SV.of v_23) from rfl)) rfl ?_
 refine wpR_v (G_load Tryd.underlying22 rfl rfl (hS.ro 4 rfl) (show getO ([SV.of v_12, SV.of v_14, SV.of v_16, SV.of v_18, SV.of v_21, SV.of v_23, SV.of v_25, SV.of v_27] : List SV) (5 : Int) = some (SV.of v_23) from rfl) (eVc (hS.ro 14 rfl).sv)) rfl ?_
 refine wpR_run 1 rfl ?_
 have hA_263 := (hS.ro 14 rfl).tw
 replace hS := hS.twin 14 rfl
 refine wpR_nil (QE_then_n (wpC_seq (wpC_seq (wpC_region (wpR_run 1 rfl ?_)))))
 refine wpR_nil (QE_then_n (wpC_block ?_))
 refine wpC_le [(0, va0), (1, va1), (2, va2), (7, slV v_4 e8.sz 0 x_3.2), (8, slV v_8 e8.sz 0 x_7.2), (21, v_41), (28, v_260), (29, vI 5), (30, v_23), (31, vI 0)] ⟨rfl, rfl, rfl, rfl, rfl, rfl, rfl, rfl, rfl, rfl, trivial⟩ ?_
 refine loop_ind (F.law31_CoseSpares_L14 x_132 x_140 x_76 x_149 x_84 x_172 x_92 x_195 x_100 x_218 x_116 x_241 x_124 a2 a0 a1 x_3 x_7) (fun (s : List UInt8 × Int) L w => ∃ (v_265 : Value) (b_268 : Nat), L = [(0, va0), (1, va1), (2, va2), (7, slV v_4 e8.sz 0 x_3.2), (8, slV v_8 e8.sz 0 x_7.2), (21, v_41), (28, v_260), (29, vI 5), (30, v_265), (31, vI s.2)] ∧ Tw v_23 x_124 v_265 s.1 b_268 ∧ St [] w0 w [own e8 v_265 s.1, own e8 v_4 x_3.1, own e8 v_8 x_7.1, own eV v_41 ([SV.of v_12, SV.of v_14, SV.of v_16, SV.of v_18, SV.of v_21, SV.of v_23, SV.of v_25, SV.of v_27] : List SV), twE e8 v_12 x_76 b_153, own e8 v_150 x_149, twE e8 v_14 x_84 b_176, own e8 v_173 x_172, twE e8 v_16 x_92 b_199, own e8 v_196 x_195, twE e8 v_18 x_100 b_222, own e8 v_219 x_218, twE e8 v_21 x_116 b_245, own e8 v_242 x_241, twE e8 v_23 x_124 b_268, own e8 v_25 x_132, own e8 v_27 x_140, own eV v_260 ([SV.of v_150, SV.of v_173, SV.of v_196, SV.of v_219, SV.of v_242] : List SV)]) ?_ (x_124, 0) ⟨v_23, 0, rfl, hA_263, (hS.pick [15, 3, 4, 5, 6, 7, 8, 9, 10, 11, 12, 13, 14, 2, 0, 16, 17, 18] (by decide) rfl)⟩ h
 rintro k_523 ⟨x_264, x_267⟩ L w q_272 hI ih_271 h hk_270
 try dsimp only at hI
 obtain ⟨v_265, b_268, rfl, hA_269, hS⟩ := hI
 unfold F.law31_CoseSpares_L14 at h
 refine wpC_seq (wpC_seq (wpC_region (wpR_run 2 rfl ?_)))
 refine wpR_nil (QE_then_n ?_)
 refine wpC_cond rfl (fun hb_273 => ?_) (fun hb_273 => ?_)
 ·have h := if_t h hb_273
  refine wpC_skip (QE_then_n (wpC_seq (wpC_block ?_)))
  refine wpC_region (wpR_run 2 rfl ?_)
  refine wpR_v (OpV_bin rfl rfl (b_iadd _ 80 5)) rfl ?_
  refine wpR_v (OpV_conv rfl (cv_i_8 Tryd.underlying3 Tryd.underlying5 85)) rfl ?_
  refine wpR_x (OpX_lit (e := e8) (l := [UInt8.ofInt 85]) (vs := [v8 (UInt8.ofInt 85)]) Tryd.underlying22 ti5 rfl rfl rfl rfl (by decide) (by decide) hS) rfl ?_
  rintro v_274 w hS
  obtain ⟨x_276, hx_276, h⟩ := obind_some h
  refine wpR_x (G_append_tw Tryd.underlying22 ti5 rfl rfl rfl hS (i := 1) (j := 15) rfl rfl hA_269 (hS.ro 0 rfl) hx_276) rfl ?_
  rintro v_277 w ⟨b_278, hA_279, hS⟩
  refine wpR_run 1 rfl ?_
  refine wpR_nil (QE_blk_n ?_)
  refine QE_then_n (wpC_region (wpR_run 3 rfl ?_))
  refine wpR_nil ?_
  exact QE_rnd (wpN_le _ (by exact ⟨rfl, rfl, rfl, rfl, rfl, rfl, rfl, rfl, rfl, rfl, trivial⟩) (ih_271 (x_276, wI (x_267 + 1)) _ _ ⟨v_277, b_278, rfl, hA_279, (hS.pick [1, 2, 3, 4, 5, 6, 7, 8, 9, 10, 11, 12, 13, 14, 15, 16, 17, 18] (by decide) rfl)⟩ (oinl_some h hk_270)))
 have h := if_f h hb_273
 refine wpC_exit ?_
 refine QE_then_x (QE_then_x ?_)
 have h := oinr_some h hk_270
 refine QE_blk_x ?_
 refine QE_then_n (wpC_region (wpR_run 2 rfl ?_))
 refine wpR_x (OpX_lit (e := eV) (l := ([SV.of v_265] : List SV)) (vs := [v_265]) Tryd.underlying53 ti22 rfl rfl rfl (fl_eVc (hS.ro 0 rfl).sv rfl) (by decide) (by decide) hS) rfl ?_
 rintro v_281 w hS
 refine wpR_x (G_append Tryd.underlying53 ti22 rfl rfl rfl hS (i := 18) rfl (hS.ro 0 rfl) (apO_v rfl)) rfl ?_
 rintro v_283 w hS
 replace hS : St _ w0 w [own eV v_281 ([SV.of v_265] : List SV), own e8 v_265 x_264, own e8 v_4 x_3.1, own e8 v_8 x_7.1, own eV v_41 ([SV.of v_12, SV.of v_14, SV.of v_16, SV.of v_18, SV.of v_21, SV.of v_23, SV.of v_25, SV.of v_27] : List SV), twE e8 v_12 x_76 b_153, own e8 v_150 x_149, twE e8 v_14 x_84 b_176, own e8 v_173 x_172, twE e8 v_16 x_92 b_199, own e8 v_196 x_195, twE e8 v_18 x_100 b_222, own e8 v_219 x_218, twE e8 v_21 x_116 b_245, own e8 v_242 x_241, twE e8 v_23 x_124 b_268, own e8 v_25 x_132, own e8 v_27 x_140, own eV v_283 ([SV.of v_150, SV.of v_173, SV.of v_196, SV.of v_219, SV.of v_242, SV.of v_265] : List SV)] := hS
 refine wpR_run 1 rfl ?_
 refine wpR_nil (QE_blk_n ?_)
 refine QE_then_n (wpC_region (wpR_run 1 rfl ?_))
 refine wpR_v (OpV_bin rfl rfl (b_iadd _ 5 1)) rfl ?_
 refine wpR_run 1 rfl ?_
 refine wpR_nil (QE_rnd ?_)
 refine wpN_succ ?_
 refine wpC_seq (wpC_seq (wpC_region (wpR_run 2 rfl ?_)))
 refine wpR_v (show OpV _ _ _ _ _ (vI 8) _ from OpV_len Tryd.underlying53 rfl (hS.ro 4 rfl)) rfl ?_
 refine wpR_v (OpV_bin rfl rfl (b_ilss _ 6 8)) rfl ?_
 refine wpR_nil (QE_then_n (wpC_condT rfl ?_))
 refine wpC_skip (QE_then_n (wpC_seq (wpC_block ?_)))
 refine wpC_seq (wpC_region (wpR_run 2 rfl ?_))
 refine wpR_v (G_ix Tryd.underlying53 ti22 rfl rfl (hS.ro 4 rfl) (show getO ([SV.of v_12, SV.of v_14, SV.of v_16, SV.of v_18, SV.of v_21, SV.of v_23, SV.of v_25, SV.of v_27] : List SV) (6 : Int) = some (SV.of v_25) from rfl)) rfl ?_
 refine wpR_v (G_load Tryd.underlying22 rfl rfl (hS.ro 4 rfl) (show getO ([SV.of v_12, SV.of v_14, SV.of v_16, SV.of v_18, SV.of v_21, SV.of v_23, SV.of v_25, SV.of v_27] : List SV) (6 : Int) = some (SV.of v_25) from rfl) (eVc (hS.ro 16 rfl).sv)) rfl ?_
 refine wpR_run 1 rfl ?_
 have hA_286 := (hS.ro 16 rfl).tw
 replace hS := hS.twin 16 rfl
 refine wpR_nil (QE_then_n (wpC_seq (wpC_seq (wpC_region (wpR_run 1 rfl ?_)))))
 refine wpR_nil (QE_then_n (wpC_block ?_))
 refine wpC_le [(0, va0), (1, va1), (2, va2), (7, slV v_4 e8.sz 0 x_3.2), (8, slV v_8 e8.sz 0 x_7.2), (21, v_41), (28, v_283), (29, vI 6), (30, v_25), (31, vI 0)] ⟨rfl, rfl, rfl, rfl, rfl, rfl, rfl, rfl, rfl, rfl, trivial⟩ ?_
 refine loop_ind (F.law31_CoseSpares_L15 x_140 x_76 x_149 x_84 x_172 x_92 x_195 x_100 x_218 x_116 x_241 x_124 x_264 x_132 a2 a0 a1 x_3 x_7) (fun (s : List UInt8 × Int) L w => ∃ (v_288 : Value) (b_291 : Nat), L = [(0, va0), (1, va1), (2, va2), (7, slV v_4 e8.sz 0 x_3.2), (8, slV v_8 e8.sz 0 x_7.2), (21, v_41), (28, v_283), (29, vI 6), (30, v_288), (31, vI s.2)] ∧ Tw v_25 x_132 v_288 s.1 b_291 ∧ St [] w0 w [own e8 v_288 s.1, own e8 v_4 x_3.1, own e8 v_8 x_7.1, own eV v_41 ([SV.of v_12, SV.of v_14, SV.of v_16, SV.of v_18, SV.of v_21, SV.of v_23, SV.of v_25, SV.of v_27] : List SV), twE e8 v_12 x_76 b_153, own e8 v_150 x_149, twE e8 v_14 x_84 b_176, own e8 v_173 x_172, twE e8 v_16 x_92 b_199, own e8 v_196 x_195, twE e8 v_18 x_100 b_222, own e8 v_219 x_218, twE e8 v_21 x_116 b_245, own e8 v_242 x_241, twE e8 v_23 x_124 b_268, own e8 v_265 x_264, twE e8 v_25 x_132 b_291, own e8 v_27 x_140, own eV v_283 ([SV.of v_150, SV.of v_173, SV.of v_196, SV.of v_219, SV.of v_242, SV.of v_265] : List SV)]) ?_ (x_132, 0) ⟨v_25, 0, rfl, hA_286, (hS.pick [17, 3, 4, 5, 6, 7, 8, 9, 10, 11, 12, 13, 14, 15, 16, 2, 0, 18, 19] (by decide) rfl)⟩ h
 rintro k_522 ⟨x_287, x_290⟩ L w q_295 hI ih_294 h hk_293
 try dsimp only at hI
 obtain ⟨v_288, b_291, rfl, hA_292, hS⟩ := hI
 unfold F.law31_CoseSpares_L15 at h
 refine wpC_seq (wpC_seq (wpC_region (wpR_run 2 rfl ?_)))
 refine wpR_nil (QE_then_n ?_)
 refine wpC_cond rfl (fun hb_296 => ?_) (fun hb_296 => ?_)
 ·have h := if_t h hb_296
  refine wpC_skip (QE_then_n (wpC_seq (wpC_block ?_)))
  refine wpC_region (wpR_run 2 rfl ?_)
  refine wpR_v (OpV_bin rfl rfl (b_iadd _ 80 6)) rfl ?_
  refine wpR_v (OpV_conv rfl (cv_i_8 Tryd.underlying3 Tryd.underlying5 86)) rfl ?_
  refine wpR_x (OpX_lit (e := e8) (l := [UInt8.ofInt 86]) (vs := [v8 (UInt8.ofInt 86)]) Tryd.underlying22 ti5 rfl rfl rfl rfl (by decide) (by decide) hS) rfl ?_
  rintro v_297 w hS
  obtain ⟨x_299, hx_299, h⟩ := obind_some h
  refine wpR_x (G_append_tw Tryd.underlying22 ti5 rfl rfl rfl hS (i := 1) (j := 17) rfl rfl hA_292 (hS.ro 0 rfl) hx_299) rfl ?_
  rintro v_300 w ⟨b_301, hA_302, hS⟩
  refine wpR_run 1 rfl ?_
  refine wpR_nil (QE_blk_n ?_)
  refine QE_then_n (wpC_region (wpR_run 3 rfl ?_))
  refine wpR_nil ?_
  exact QE_rnd (wpN_le _ (by exact ⟨rfl, rfl, rfl, rfl, rfl, rfl, rfl, rfl, rfl, rfl, trivial⟩) (ih_294 (x_299, wI (x_290 + 1)) _ _ ⟨v_300, b_301, rfl, hA_302, (hS.pick [1, 2, 3, 4, 5, 6, 7, 8, 9, 10, 11, 12, 13, 14, 15, 16, 17, 18, 19] (by decide) rfl)⟩ (oinl_some h hk_293)))
 have h := if_f h hb_296
 refine wpC_exit ?_
 refine QE_then_x (QE_then_x ?_)
 have h := oinr_some h hk_293
 refine QE_blk_x ?_
 refine QE_then_n (wpC_region (wpR_run 2 rfl ?_))
 refine wpR_x (OpX_lit (e := eV) (l := ([SV.of v_288] : List SV)) (vs := [v_288]) Tryd.underlying53 ti22 rfl rfl rfl (fl_eVc (hS.ro 0 rfl).sv rfl) (by decide) (by decide) hS) rfl ?_
 rintro v_304 w hS
 refine wpR_x (G_append Tryd.underlying53 ti22 rfl rfl rfl hS (i := 19) rfl (hS.ro 0 rfl) (apO_v rfl)) rfl ?_
 rintro v_306 w hS
 replace hS : St _ w0 w [own eV v_304 ([SV.of v_288] : List SV), own e8 v_288 x_287, own e8 v_4 x_3.1, own e8 v_8 x_7.1, own eV v_41 ([SV.of v_12, SV.of v_14, SV.of v_16, SV.of v_18, SV.of v_21, SV.of v_23, SV.of v_25, SV.of v_27] : List SV), twE e8 v_12 x_76 b_153, own e8 v_150 x_149, twE e8 v_14 x_84 b_176, own e8 v_173 x_172, twE e8 v_16 x_92 b_199, own e8 v_196 x_195, twE e8 v_18 x_100 b_222, own e8 v_219 x_218, twE e8 v_21 x_116 b_245, own e8 v_242 x_241, twE e8 v_23 x_124 b_268, own e8 v_265 x_264, twE e8 v_25 x_132 b_291, own e8 v_27 x_140, own eV v_306 ([SV.of v_150, SV.of v_173, SV.of v_196, SV.of v_219, SV.of v_242, SV.of v_265, SV.of v_288] : List SV)] := hS
 refine wpR_run 1 rfl ?_
 refine wpR_nil (QE_blk_n ?_)
 refine QE_then_n (wpC_region (wpR_run 1 rfl ?_))
 refine wpR_v (OpV_bin rfl rfl (b_iadd _ 6 1)) rfl ?_
 refine wpR_run 1 rfl ?_
 refine wpR_nil (QE_rnd ?_)
 refine wpN_succ ?_
 refine wpC_seq (wpC_seq (wpC_region (wpR_run 2 rfl ?_)))
 refine wpR_v (show OpV _ _ _ _ _ (vI 8) _ from OpV_len Tryd.underlying53 rfl (hS.ro 4 rfl)) rfl ?_
 refine wpR_v (OpV_bin rfl rfl (b_ilss _ 7 8)) rfl ?_
 refine wpR_nil (QE_then_n (wpC_condT rfl ?_))
 refine wpC_skip (QE_then_n (wpC_seq (wpC_block ?_)))
 refine wpC_seq (wpC_region (wpR_run 2 rfl ?_))
 refine wpR_v (G_ix Tryd.underlying53 ti22 rfl rfl (hS.ro 4 rfl) (show getO ([SV.of v_12, SV.of v_14, SV.of v_16, SV.of v_18, SV.of v_21, SV.of v_23, SV.of v_25, SV.of v_27] : List SV) (7 : Int) = some (SV.of v_27) from rfl)) rfl ?_
 refine wpR_v (G_load Tryd.underlying22 rfl rfl (hS.ro 4 rfl) (show getO ([SV.of v_12, SV.of v_14, SV.of v_16, SV.of v_18, SV.of v_21, SV.of v_23, SV.of v_25, SV.of v_27] : List SV) (7 : Int) = some (SV.of v_27) from rfl) (eVc (hS.ro 18 rfl).sv)) rfl ?_
 refine wpR_run 1 rfl ?_
 have hA_309 := (hS.ro 18 rfl).tw
 replace hS := hS.twin 18 rfl
 refine wpR_nil (QE_then_n (wpC_seq (wpC_seq (wpC_region (wpR_run 1 rfl ?_)))))
 refine wpR_nil (QE_then_n (wpC_block ?_))
 refine wpC_le [(0, va0), (1, va1), (2, va2), (7, slV v_4 e8.sz 0 x_3.2), (8, slV v_8 e8.sz 0 x_7.2), (21, v_41), (28, v_306), (29, vI 7), (30, v_27), (31, vI 0)] ⟨rfl, rfl, rfl, rfl, rfl, rfl, rfl, rfl, rfl, rfl, trivial⟩ ?_
 refine loop_ind (F.law31_CoseSpares_L16 x_76 x_149 x_84 x_172 x_92 x_195 x_100 x_218 x_116 x_241 x_124 x_264 x_132 x_287 a2 x_140 a0 a1 x_3 x_7) (fun (s : List UInt8 × Int) L w => ∃ (v_311 : Value) (b_314 : Nat), L = [(0, va0), (1, va1), (2, va2), (7, slV v_4 e8.sz 0 x_3.2), (8, slV v_8 e8.sz 0 x_7.2), (21, v_41), (28, v_306), (29, vI 7), (30, v_311), (31, vI s.2)] ∧ Tw v_27 x_140 v_311 s.1 b_314 ∧ St [] w0 w [own e8 v_311 s.1, own e8 v_4 x_3.1, own e8 v_8 x_7.1, own eV v_41 ([SV.of v_12, SV.of v_14, SV.of v_16, SV.of v_18, SV.of v_21, SV.of v_23, SV.of v_25, SV.of v_27] : List SV), twE e8 v_12 x_76 b_153, own e8 v_150 x_149, twE e8 v_14 x_84 b_176, own e8 v_173 x_172, twE e8 v_16 x_92 b_199, own e8 v_196 x_195, twE e8 v_18 x_100 b_222, own e8 v_219 x_218, twE e8 v_21 x_116 b_245, own e8 v_242 x_241, twE e8 v_23 x_124 b_268, own e8 v_265 x_264, twE e8 v_25 x_132 b_291, own e8 v_288 x_287, twE e8 v_27 x_140 b_314, own eV v_306 ([SV.of v_150, SV.of v_173, SV.of v_196, SV.of v_219, SV.of v_242, SV.of v_265, SV.of v_288] : List SV)]) ?_ (x_140, 0) ⟨v_27, 0, rfl, hA_309, (hS.pick [19, 3, 4, 5, 6, 7, 8, 9, 10, 11, 12, 13, 14, 15, 16, 17, 18, 2, 0, 20] (by decide) rfl)⟩ h
 rintro k_521 ⟨x_310, x_313⟩ L w q_318 hI ih_317 h hk_316
 try dsimp only at hI
 obtain ⟨v_311, b_314, rfl, hA_315, hS⟩ := hI
 unfold F.law31_CoseSpares_L16 at h
 refine wpC_seq (wpC_seq (wpC_region (wpR_run 2 rfl ?_)))
 refine wpR_nil (QE_then_n ?_)
 refine wpC_cond rfl (fun hb_319 => ?_) (fun hb_319 => ?_)
 ·have h := if_t h hb_319
  refine wpC_skip (QE_then_n (wpC_seq (wpC_block ?_)))
  refine wpC_region (wpR_run 2 rfl ?_)
  refine wpR_v (OpV_bin rfl rfl (b_iadd _ 80 7)) rfl ?_
  refine wpR_v (OpV_conv rfl (cv_i_8 Tryd.underlying3 Tryd.underlying5 87)) rfl ?_
  refine wpR_x (OpX_lit (e := e8) (l := [UInt8.ofInt 87]) (vs := [v8 (UInt8.ofInt 87)]) Tryd.underlying22 ti5 rfl rfl rfl rfl (by decide) (by decide) hS) rfl ?_
  rintro v_320 w hS
  obtain ⟨x_322, hx_322, h⟩ := obind_some h
  refine wpR_x (G_append_tw Tryd.underlying22 ti5 rfl rfl rfl hS (i := 1) (j := 19) rfl rfl hA_315 (hS.ro 0 rfl) hx_322) rfl ?_
  rintro v_323 w ⟨b_324, hA_325, hS⟩
  refine wpR_run 1 rfl ?_
  refine wpR_nil (QE_blk_n ?_)
  refine QE_then_n (wpC_region (wpR_run 3 rfl ?_))
  refine wpR_nil ?_
  exact QE_rnd (wpN_le _ (by exact ⟨rfl, rfl, rfl, rfl, rfl, rfl, rfl, rfl, rfl, rfl, trivial⟩) (ih_317 (x_322, wI (x_313 + 1)) _ _ ⟨v_323, b_324, rfl, hA_325, (hS.pick [1, 2, 3, 4, 5, 6, 7, 8, 9, 10, 11, 12, 13, 14, 15, 16, 17, 18, 19, 20] (by decide) rfl)⟩ (oinl_some h hk_316)))
 have h := if_f h hb_319
 refine wpC_exit ?_
 refine QE_then_x (QE_then_x ?_)
 have h := oinr_some h hk_316
 refine QE_blk_x ?_
 refine QE_then_n (wpC_region (wpR_run 2 rfl ?_))
 refine wpR_x (OpX_lit (e := eV) (l := ([SV.of v_311] : List SV)) (vs := [v_311]) Tryd.underlying53 ti22 rfl rfl rfl (fl_eVc (hS.ro 0 rfl).sv rfl) (by decide) (by decide) hS) rfl ?_
 rintro v_327 w hS
 refine wpR_x (G_append Tryd.underlying53 ti22 rfl rfl rfl hS (i := 20) rfl (hS.ro 0 rfl) (apO_v rfl)) rfl ?_
 rintro v_329 w hS
 replace hS : St _ w0 w [own eV v_327 ([SV.of v_311] : List SV), own e8 v_311 x_310, own e8 v_4 x_3.1, own e8 v_8 x_7.1, own eV v_41 ([SV.of v_12, SV.of v_14, SV.of v_16, SV.of v_18, SV.of v_21, SV.of v_23, SV.of v_25, SV.of v_27] : List SV), twE e8 v_12 x_76 b_153, own e8 v_150 x_149, twE e8 v_14 x_84 b_176, own e8 v_173 x_172, twE e8 v_16 x_92 b_199, own e8 v_196 x_195, twE e8 v_18 x_100 b_222, own e8 v_219 x_218, twE e8 v_21 x_116 b_245, own e8 v_242 x_241, twE e8 v_23 x_124 b_268, own e8 v_265 x_264, twE e8 v_25 x_132 b_291, own e8 v_288 x_287, twE e8 v_27 x_140 b_314, own eV v_329 ([SV.of v_150, SV.of v_173, SV.of v_196, SV.of v_219, SV.of v_242, SV.of v_265, SV.of v_288, SV.of v_311] : List SV)] := hS
 refine wpR_run 1 rfl ?_
 refine wpR_nil (QE_blk_n ?_)
 refine QE_then_n (wpC_region (wpR_run 1 rfl ?_))
 refine wpR_v (OpV_bin rfl rfl (b_iadd _ 7 1)) rfl ?_
 refine wpR_run 1 rfl ?_
 refine wpR_nil (QE_rnd ?_)
 refine wpN_succ ?_
 refine wpC_seq (wpC_seq (wpC_region (wpR_run 2 rfl ?_)))
 refine wpR_v (show OpV _ _ _ _ _ (vI 8) _ from OpV_len Tryd.underlying53 rfl (hS.ro 4 rfl)) rfl ?_
 refine wpR_v (OpV_bin rfl rfl (b_ilss _ 8 8)) rfl ?_
 refine wpR_nil (QE_then_n (wpC_condF rfl ?_))
 refine wpC_exit ?_
 refine QE_then_x (QE_then_x (QE_blk_x ?_))
 refine QE_then_n (wpC_seq (wpC_seq (wpC_region (wpR_run 1 rfl ?_))))
 refine wpR_nil (QE_then_n (wpC_block ?_))
 refine wpC_loop 100 ?_
 refine wpN_succ ?_
 refine wpC_seq (wpC_seq (wpC_region (wpR_run 2 rfl ?_)))
 refine wpR_v (show OpV _ _ _ _ _ (vI 8) _ from OpV_len Tryd.underlying53 rfl (hS.ro 4 rfl)) rfl ?_
 refine wpR_v (OpV_bin rfl rfl (b_ilss _ 0 8)) rfl ?_
 refine wpR_nil (QE_then_n (wpC_condT rfl ?_))
 refine wpC_skip (QE_then_n (wpC_seq (wpC_block ?_)))
 refine wpC_seq (wpC_region (wpR_run 1 rfl ?_))
 refine wpR_nil (QE_then_n (wpC_block ?_))
 refine wpC_le [(0, va0), (1, va1), (2, va2), (7, slV v_4 e8.sz 0 x_3.2), (8, slV v_8 e8.sz 0 x_7.2), (21, v_41), (28, v_329), (32, vI 0), (33, vI 0)] ⟨rfl, rfl, rfl, rfl, rfl, rfl, rfl, rfl, rfl, trivial⟩ ?_
 refine loop_ind (F.law31_CoseSpares_L17 x_76 x_149 x_84 x_172 x_92 x_195 x_100 x_218 x_116 x_241 x_124 x_264 x_132 x_287 a2 x_140 x_310 a0 a1 x_3 x_7) (fun (s : Int) L w => L = [(0, va0), (1, va1), (2, va2), (7, slV v_4 e8.sz 0 x_3.2), (8, slV v_8 e8.sz 0 x_7.2), (21, v_41), (28, v_329), (32, vI 0), (33, vI s)] ∧ St [] w0 w [own e8 v_4 x_3.1, own e8 v_8 x_7.1, own eV v_41 ([SV.of v_12, SV.of v_14, SV.of v_16, SV.of v_18, SV.of v_21, SV.of v_23, SV.of v_25, SV.of v_27] : List SV), twE e8 v_12 x_76 b_153, own e8 v_150 x_149, twE e8 v_14 x_84 b_176, own e8 v_173 x_172, twE e8 v_16 x_92 b_199, own e8 v_196 x_195, twE e8 v_18 x_100 b_222, own e8 v_219 x_218, twE e8 v_21 x_116 b_245, own e8 v_242 x_241, twE e8 v_23 x_124 b_268, own e8 v_265 x_264, twE e8 v_25 x_132 b_291, own e8 v_288 x_287, twE e8 v_27 x_140 b_314, own e8 v_311 x_310, own eV v_329 ([SV.of v_150, SV.of v_173, SV.of v_196, SV.of v_219, SV.of v_242, SV.of v_265, SV.of v_288, SV.of v_311] : List SV)]) ?_ 0 ⟨rfl, (hS.pick [2, 3, 4, 5, 6, 7, 8, 9, 10, 11, 12, 13, 14, 15, 16, 17, 18, 19, 1, 20] (by decide) rfl)⟩ h
 rintro k_520 x_331 L w q_334 hI ih_333 h hk_332
 try dsimp only at hI
 obtain ⟨rfl, hS⟩ := hI
 unfold F.law31_CoseSpares_L17 at h
 refine wpC_seq (wpC_seq (wpC_region (wpR_run 3 rfl ?_)))
 refine wpR_v (G_ix Tryd.underlying53 ti22 rfl rfl (hS.ro 19 rfl) (show getO ([SV.of v_150, SV.of v_173, SV.of v_196, SV.of v_219, SV.of v_242, SV.of v_265, SV.of v_288, SV.of v_311] : List SV) (0 : Int) = some (SV.of v_150) from rfl)) rfl ?_
 refine wpR_v (G_load Tryd.underlying22 rfl rfl (hS.ro 19 rfl) (show getO ([SV.of v_150, SV.of v_173, SV.of v_196, SV.of v_219, SV.of v_242, SV.of v_265, SV.of v_288, SV.of v_311] : List SV) (0 : Int) = some (SV.of v_150) from rfl) (eVc (hS.ro 4 rfl).sv)) rfl ?_
 refine wpR_v (OpV_len Tryd.underlying22 rfl (hS.ro 4 rfl)) rfl ?_
 refine wpR_run 1 rfl ?_
 refine wpR_nil (QE_then_n ?_)
 refine wpC_cond rfl (fun hb_335 => ?_) (fun hb_335 => ?_)
 ·have h := if_t h hb_335
  refine wpC_skip (QE_then_n (wpC_seq (wpC_block ?_)))
  refine seq_join (r := q_334) (fun (g : Bool) L w => L = [(0, va0), (1, va1), (2, va2), (7, slV v_4 e8.sz 0 x_3.2), (8, slV v_8 e8.sz 0 x_7.2), (21, v_41), (28, v_329), (32, vI 0), (33, vI x_331), (281, vB g)] ∧ St [] w0 w [own e8 v_4 x_3.1, own e8 v_8 x_7.1, own eV v_41 ([SV.of v_12, SV.of v_14, SV.of v_16, SV.of v_18, SV.of v_21, SV.of v_23, SV.of v_25, SV.of v_27] : List SV), twE e8 v_12 x_76 b_153, own e8 v_150 x_149, twE e8 v_14 x_84 b_176, own e8 v_173 x_172, twE e8 v_16 x_92 b_199, own e8 v_196 x_195, twE e8 v_18 x_100 b_222, own e8 v_219 x_218, twE e8 v_21 x_116 b_245, own e8 v_242 x_241, twE e8 v_23 x_124 b_268, own e8 v_265 x_264, twE e8 v_25 x_132 b_291, own e8 v_288 x_287, twE e8 v_27 x_140 b_314, own e8 v_311 x_310, own eV v_329 ([SV.of v_150, SV.of v_173, SV.of v_196, SV.of v_219, SV.of v_242, SV.of v_265, SV.of v_288, SV.of v_311] : List SV)]) (F.law31_CoseSpares_K2 x_331) ?_ ?_
  rotate_left
  ·intro hK_343
   refine wpC_region (wpR_run 3 rfl ?_)
   refine wpR_v (G_ix Tryd.underlying53 ti22 rfl rfl (hS.ro 2 rfl) (show getO ([SV.of v_12, SV.of v_14, SV.of v_16, SV.of v_18, SV.of v_21, SV.of v_23, SV.of v_25, SV.of v_27] : List SV) (0 : Int) = some (SV.of v_12) from rfl)) rfl ?_
   refine wpR_v (G_load Tryd.underlying22 rfl rfl (hS.ro 2 rfl) (show getO ([SV.of v_12, SV.of v_14, SV.of v_16, SV.of v_18, SV.of v_21, SV.of v_23, SV.of v_25, SV.of v_27] : List SV) (0 : Int) = some (SV.of v_12) from rfl) (eVc (hS.twro hA_154 4 3 rfl rfl).sv)) rfl ?_
   refine wpR_v (OpV_len Tryd.underlying22 rfl (hS.twro hA_154 4 3 rfl rfl)) rfl ?_
   refine wpR_run 2 rfl ?_
   cases hb_336 : (decide (x_331 < (x_76.length : Int)))
   case true =>
    have h := if_t h hb_336
    try simp only [hb_336]
    refine wpR_run 2 rfl ?_
    refine wpR_gv (t := 234) rfl rfl (G_ix Tryd.underlying53 ti22 rfl rfl (hS.ro 2 rfl) (show getO ([SV.of v_12, SV.of v_14, SV.of v_16, SV.of v_18, SV.of v_21, SV.of v_23, SV.of v_25, SV.of v_27] : List SV) (0 : Int) = some (SV.of v_12) from rfl)) rfl ?_
    refine wpR_gv (t := 234) rfl rfl (G_load Tryd.underlying22 rfl rfl (hS.ro 2 rfl) (show getO ([SV.of v_12, SV.of v_14, SV.of v_16, SV.of v_18, SV.of v_21, SV.of v_23, SV.of v_25, SV.of v_27] : List SV) (0 : Int) = some (SV.of v_12) from rfl) (eVc (hS.twro hA_154 4 3 rfl rfl).sv)) rfl ?_
    refine wpR_run 1 rfl ?_
    obtain ⟨x_337, hx_337, h⟩ := obind_some h
    refine wpR_gv (t := 234) rfl rfl (G_ix Tryd.underlying22 ti5 rfl rfl (hS.twro hA_154 4 3 rfl rfl) hx_337) rfl ?_
    refine wpR_gv (t := 234) rfl rfl (G_load Tryd.underlying5 rfl rfl (hS.twro hA_154 4 3 rfl rfl) hx_337 rfl) rfl ?_
    refine wpR_run 1 rfl ?_
    refine wpR_gv (t := 234) rfl rfl (OpV_bin rfl rfl (b_iadd _ 60 0)) rfl ?_
    refine wpR_gv (t := 234) rfl rfl (OpV_conv rfl (cv_i_8 Tryd.underlying3 Tryd.underlying5 60)) rfl ?_
    refine wpR_gv (t := 234) rfl rfl (OpV_bin rfl rfl (b_neq8 _ x_337 (UInt8.ofInt 60))) rfl ?_
    refine wpR_run 1 rfl ?_
    cases hb_338 : (x_337 != (UInt8.ofInt 60))
    case true =>
     have h := if_t h hb_338
     try simp only [hb_338]
     refine wpR_run 35 rfl ?_
     refine wpR_nil (QE_then_n ?_)
     exact wpC_le _ (by exact ⟨rfl, rfl, rfl, rfl, rfl, rfl, rfl, rfl, rfl, rfl, trivial⟩) (hK_343 true _ _ ⟨rfl, hS⟩ h)
    case false =>
     have h := if_f h hb_338
     try simp only [hb_338]
     refine wpR_run 2 rfl ?_
     refine wpR_gv (t := 246) rfl rfl (G_ix Tryd.underlying53 ti22 rfl rfl (hS.ro 19 rfl) (show getO ([SV.of v_150, SV.of v_173, SV.of v_196, SV.of v_219, SV.of v_242, SV.of v_265, SV.of v_288, SV.of v_311] : List SV) (0 : Int) = some (SV.of v_150) from rfl)) rfl ?_
     refine wpR_gv (t := 246) rfl rfl (G_load Tryd.underlying22 rfl rfl (hS.ro 19 rfl) (show getO ([SV.of v_150, SV.of v_173, SV.of v_196, SV.of v_219, SV.of v_242, SV.of v_265, SV.of v_288, SV.of v_311] : List SV) (0 : Int) = some (SV.of v_150) from rfl) (eVc (hS.ro 4 rfl).sv)) rfl ?_
     refine wpR_run 1 rfl ?_
     obtain ⟨x_339, hx_339, h⟩ := obind_some h
     refine wpR_gv (t := 246) rfl rfl (G_ix Tryd.underlying22 ti5 rfl rfl (hS.ro 4 rfl) hx_339) rfl ?_
     refine wpR_gv (t := 246) rfl rfl (G_load Tryd.underlying5 rfl rfl (hS.ro 4 rfl) hx_339 rfl) rfl ?_
     refine wpR_run 1 rfl ?_
     refine wpR_gv (t := 246) rfl rfl (OpV_bin rfl rfl (b_iadd _ 60 0)) rfl ?_
     refine wpR_gv (t := 246) rfl rfl (OpV_conv rfl (cv_i_8 Tryd.underlying3 Tryd.underlying5 60)) rfl ?_
     refine wpR_gv (t := 246) rfl rfl (OpV_bin rfl rfl (b_neq8 _ x_339 (UInt8.ofInt 60))) rfl ?_
     refine wpR_run 3 rfl ?_
     cases hb_340 : (x_339 != (UInt8.ofInt 60))
     case true =>
      have h := if_t h hb_340
      try simp only [hb_340]
      refine wpR_run 21 rfl ?_
      refine wpR_nil (QE_then_n ?_)
      exact wpC_le _ (by exact ⟨rfl, rfl, rfl, rfl, rfl, rfl, rfl, rfl, rfl, rfl, trivial⟩) (hK_343 true _ _ ⟨rfl, hS⟩ h)
     case false =>
      have h := if_f h hb_340
      try simp only [hb_340]
      refine wpR_run 3 rfl ?_
      refine wpR_gv (t := 260) rfl rfl (G_ix Tryd.underlying53 ti22 rfl rfl (hS.ro 2 rfl) (show getO ([SV.of v_12, SV.of v_14, SV.of v_16, SV.of v_18, SV.of v_21, SV.of v_23, SV.of v_25, SV.of v_27] : List SV) (0 : Int) = some (SV.of v_12) from rfl)) rfl ?_
      refine wpR_gv (t := 260) rfl rfl (G_load Tryd.underlying22 rfl rfl (hS.ro 2 rfl) (show getO ([SV.of v_12, SV.of v_14, SV.of v_16, SV.of v_18, SV.of v_21, SV.of v_23, SV.of v_25, SV.of v_27] : List SV) (0 : Int) = some (SV.of v_12) from rfl) (eVc (hS.twro hA_154 4 3 rfl rfl).sv)) rfl ?_
      refine wpR_gv (t := 260) rfl rfl (OpV_len Tryd.underlying22 rfl (hS.twro hA_154 4 3 rfl rfl)) rfl ?_
      refine wpR_gv (t := 260) rfl rfl (OpV_bin rfl rfl ((cpl_f hb_336).to (b_igeq _ x_331 (x_76.length : Int)))) rfl ?_
      refine wpR_run 14 rfl ?_
      refine wpR_nil (QE_then_n ?_)
      exact wpC_le _ (by exact ⟨rfl, rfl, rfl, rfl, rfl, rfl, rfl, rfl, rfl, rfl, trivial⟩) (hK_343 false _ _ ⟨rfl, hS⟩ h)
   case false =>
    have h := if_f h hb_336
    try simp only [hb_336]
    refine wpR_run 29 rfl ?_
    refine wpR_gv (t := 260) rfl rfl (G_ix Tryd.underlying53 ti22 rfl rfl (hS.ro 2 rfl) (show getO ([SV.of v_12, SV.of v_14, SV.of v_16, SV.of v_18, SV.of v_21, SV.of v_23, SV.of v_25, SV.of v_27] : List SV) (0 : Int) = some (SV.of v_12) from rfl)) rfl ?_
    refine wpR_gv (t := 260) rfl rfl (G_load Tryd.underlying22 rfl rfl (hS.ro 2 rfl) (show getO ([SV.of v_12, SV.of v_14, SV.of v_16, SV.of v_18, SV.of v_21, SV.of v_23, SV.of v_25, SV.of v_27] : List SV) (0 : Int) = some (SV.of v_12) from rfl) (eVc (hS.twro hA_154 4 3 rfl rfl).sv)) rfl ?_
    refine wpR_gv (t := 260) rfl rfl (OpV_len Tryd.underlying22 rfl (hS.twro hA_154 4 3 rfl rfl)) rfl ?_
    refine wpR_gv (t := 260) rfl rfl (OpV_bin rfl rfl ((cpl_t hb_336).to (b_igeq _ x_331 (x_76.length : Int)))) rfl ?_
    refine wpR_run 3 rfl ?_
    refine wpR_gv (t := 268) rfl rfl (G_ix Tryd.underlying53 ti22 rfl rfl (hS.ro 19 rfl) (show getO ([SV.of v_150, SV.of v_173, SV.of v_196, SV.of v_219, SV.of v_242, SV.of v_265, SV.of v_288, SV.of v_311] : List SV) (0 : Int) = some (SV.of v_150) from rfl)) rfl ?_
    refine wpR_gv (t := 268) rfl rfl (G_load Tryd.underlying22 rfl rfl (hS.ro 19 rfl) (show getO ([SV.of v_150, SV.of v_173, SV.of v_196, SV.of v_219, SV.of v_242, SV.of v_265, SV.of v_288, SV.of v_311] : List SV) (0 : Int) = some (SV.of v_150) from rfl) (eVc (hS.ro 4 rfl).sv)) rfl ?_
    refine wpR_run 1 rfl ?_
    obtain ⟨x_341, hx_341, h⟩ := obind_some h
    refine wpR_gv (t := 268) rfl rfl (G_ix Tryd.underlying22 ti5 rfl rfl (hS.ro 4 rfl) hx_341) rfl ?_
    refine wpR_gv (t := 268) rfl rfl (G_load Tryd.underlying5 rfl rfl (hS.ro 4 rfl) hx_341 rfl) rfl ?_
    refine wpR_run 1 rfl ?_
    refine wpR_gv (t := 268) rfl rfl (OpV_bin rfl rfl (b_iadd _ 80 0)) rfl ?_
    refine wpR_gv (t := 268) rfl rfl (OpV_conv rfl (cv_i_8 Tryd.underlying3 Tryd.underlying5 80)) rfl ?_
    refine wpR_gv (t := 268) rfl rfl (OpV_bin rfl rfl (b_neq8 _ x_341 (UInt8.ofInt 80))) rfl ?_
    refine wpR_run 2 rfl ?_
    refine wpR_nil (QE_then_n ?_)
    exact wpC_le _ (by exact ⟨rfl, rfl, rfl, rfl, rfl, rfl, rfl, rfl, rfl, rfl, trivial⟩) (hK_343 (x_341 != (UInt8.ofInt 80)) _ _ ⟨rfl, hS⟩ h)
  rintro x_342 L w hJ h
  try dsimp only at hJ
  obtain ⟨rfl, hS⟩ := hJ
  unfold F.law31_CoseSpares_K2 at h
  refine wpC_cond rfl (fun hb_344 => ?_) (fun hb_344 => ?_)
  ·have h := if_t h hb_344
   refine wpC_seq (wpC_region (wpR_run 1 rfl ?_))
   refine wpR_nil (QE_then_n (wpC_ret (QE_blk_r ?_)))
   refine QE_then_r (QE_then_r ?_)
   have h := oinr_some h hk_332
   refine QE_blk_r ?_
   refine QE_blk_r ?_
   refine QE_then_r (QE_then_r (QE_blk_r ?_))
   refine QE_then_r ?_
   cases h
   exact QE_ret1 rfl rfl ⟨rfl, hS.pick [] (by decide) rfl⟩
  have h := if_f h hb_344
  refine wpC_skip (QE_blk_n ?_)
  refine QE_then_n (wpC_region (wpR_run 3 rfl ?_))
  refine wpR_nil ?_
  exact QE_rnd (wpN_le _ (by exact ⟨rfl, rfl, rfl, rfl, rfl, rfl, rfl, rfl, rfl, trivial⟩) (ih_333 (wI (x_331 + 1)) _ _ ⟨rfl, hS⟩ (oinl_some h hk_332)))
 have h := if_f h hb_335
 refine wpC_exit ?_
 refine QE_then_x (QE_then_x ?_)
 have h := oinr_some h hk_332
 refine QE_blk_x ?_
 refine QE_blk_n ?_
 refine QE_then_n (wpC_region (wpR_run 1 rfl ?_))
 refine wpR_v (OpV_bin rfl rfl (b_iadd _ 0 1)) rfl ?_
 refine wpR_run 1 rfl ?_
 refine wpR_nil (QE_rnd ?_)
 refine wpN_succ ?_
 refine wpC_seq (wpC_seq (wpC_region (wpR_run 2 rfl ?_)))
 refine wpR_v (show OpV _ _ _ _ _ (vI 8) _ from OpV_len Tryd.underlying53 rfl (hS.ro 2 rfl)) rfl ?_
 refine wpR_v (OpV_bin rfl rfl (b_ilss _ 1 8)) rfl ?_
 refine wpR_nil (QE_then_n (wpC_condT rfl ?_))
 refine wpC_skip (QE_then_n (wpC_seq (wpC_block ?_)))
 refine wpC_seq (wpC_region (wpR_run 1 rfl ?_))
 refine wpR_nil (QE_then_n (wpC_block ?_))
 refine wpC_le [(0, va0), (1, va1), (2, va2), (7, slV v_4 e8.sz 0 x_3.2), (8, slV v_8 e8.sz 0 x_7.2), (21, v_41), (28, v_329), (32, vI 1), (33, vI 0)] ⟨rfl, rfl, rfl, rfl, rfl, rfl, rfl, rfl, rfl, trivial⟩ ?_
 refine loop_ind (F.law31_CoseSpares_L18 x_84 x_172 x_92 x_195 x_100 x_218 x_116 x_241 x_124 x_264 x_132 x_287 a2 x_140 x_310 a0 a1 x_3 x_7) (fun (s : Int) L w => L = [(0, va0), (1, va1), (2, va2), (7, slV v_4 e8.sz 0 x_3.2), (8, slV v_8 e8.sz 0 x_7.2), (21, v_41), (28, v_329), (32, vI 1), (33, vI s)] ∧ St [] w0 w [own e8 v_4 x_3.1, own e8 v_8 x_7.1, own eV v_41 ([SV.of v_12, SV.of v_14, SV.of v_16, SV.of v_18, SV.of v_21, SV.of v_23, SV.of v_25, SV.of v_27] : List SV), twE e8 v_12 x_76 b_153, own e8 v_150 x_149, twE e8 v_14 x_84 b_176, own e8 v_173 x_172, twE e8 v_16 x_92 b_199, own e8 v_196 x_195, twE e8 v_18 x_100 b_222, own e8 v_219 x_218, twE e8 v_21 x_116 b_245, own e8 v_242 x_241, twE e8 v_23 x_124 b_268, own e8 v_265 x_264, twE e8 v_25 x_132 b_291, own e8 v_288 x_287, twE e8 v_27 x_140 b_314, own e8 v_311 x_310, own eV v_329 ([SV.of v_150, SV.of v_173, SV.of v_196, SV.of v_219, SV.of v_242, SV.of v_265, SV.of v_288, SV.of v_311] : List SV)]) ?_ 0 ⟨rfl, hS⟩ h
 rintro k_519 x_345 L w q_348 hI ih_347 h hk_346
 try dsimp only at hI
 obtain ⟨rfl, hS⟩ := hI
 unfold F.law31_CoseSpares_L18 at h
 refine wpC_seq (wpC_seq (wpC_region (wpR_run 3 rfl ?_)))
 refine wpR_v (G_ix Tryd.underlying53 ti22 rfl rfl (hS.ro 19 rfl) (show getO ([SV.of v_150, SV.of v_173, SV.of v_196, SV.of v_219, SV.of v_242, SV.of v_265, SV.of v_288, SV.of v_311] : List SV) (1 : Int) = some (SV.of v_173) from rfl)) rfl ?_
 refine wpR_v (G_load Tryd.underlying22 rfl rfl (hS.ro 19 rfl) (show getO ([SV.of v_150, SV.of v_173, SV.of v_196, SV.of v_219, SV.of v_242, SV.of v_265, SV.of v_288, SV.of v_311] : List SV) (1 : Int) = some (SV.of v_173) from rfl) (eVc (hS.ro 6 rfl).sv)) rfl ?_
 refine wpR_v (OpV_len Tryd.underlying22 rfl (hS.ro 6 rfl)) rfl ?_
 refine wpR_run 1 rfl ?_
 refine wpR_nil (QE_then_n ?_)
 refine wpC_cond rfl (fun hb_349 => ?_) (fun hb_349 => ?_)
 ·have h := if_t h hb_349
  refine wpC_skip (QE_then_n (wpC_seq (wpC_block ?_)))
  refine seq_join (r := q_348) (fun (g : Bool) L w => L = [(0, va0), (1, va1), (2, va2), (7, slV v_4 e8.sz 0 x_3.2), (8, slV v_8 e8.sz 0 x_7.2), (21, v_41), (28, v_329), (32, vI 1), (33, vI x_345), (281, vB g)] ∧ St [] w0 w [own e8 v_4 x_3.1, own e8 v_8 x_7.1, own eV v_41 ([SV.of v_12, SV.of v_14, SV.of v_16, SV.of v_18, SV.of v_21, SV.of v_23, SV.of v_25, SV.of v_27] : List SV), twE e8 v_12 x_76 b_153, own e8 v_150 x_149, twE e8 v_14 x_84 b_176, own e8 v_173 x_172, twE e8 v_16 x_92 b_199, own e8 v_196 x_195, twE e8 v_18 x_100 b_222, own e8 v_219 x_218, twE e8 v_21 x_116 b_245, own e8 v_242 x_241, twE e8 v_23 x_124 b_268, own e8 v_265 x_264, twE e8 v_25 x_132 b_291, own e8 v_288 x_287, twE e8 v_27 x_140 b_314, own e8 v_311 x_310, own eV v_329 ([SV.of v_150, SV.of v_173, SV.of v_196, SV.of v_219, SV.of v_242, SV.of v_265, SV.of v_288, SV.of v_311] : List SV)]) (F.law31_CoseSpares_K3 x_345) ?_ ?_
  rotate_left
  ·intro hK_357
   refine wpC_region (wpR_run 3 rfl ?_)
   refine wpR_v (G_ix Tryd.underlying53 ti22 rfl rfl (hS.ro 2 rfl) (show getO ([SV.of v_12, SV.of v_14, SV.of v_16, SV.of v_18, SV.of v_21, SV.of v_23, SV.of v_25, SV.of v_27] : List SV) (1 : Int) = some (SV.of v_14) from rfl)) rfl ?_
   refine wpR_v (G_load Tryd.underlying22 rfl rfl (hS.ro 2 rfl) (show getO ([SV.of v_12, SV.of v_14, SV.of v_16, SV.of v_18, SV.of v_21, SV.of v_23, SV.of v_25, SV.of v_27] : List SV) (1 : Int) = some (SV.of v_14) from rfl) (eVc (hS.twro hA_177 6 5 rfl rfl).sv)) rfl ?_
   refine wpR_v (OpV_len Tryd.underlying22 rfl (hS.twro hA_177 6 5 rfl rfl)) rfl ?_
   refine wpR_run 2 rfl ?_
   cases hb_350 : (decide (x_345 < (x_84.length : Int)))
   case true =>
    have h := if_t h hb_350
    try simp only [hb_350]
    refine wpR_run 2 rfl ?_
    refine wpR_gv (t := 234) rfl rfl (G_ix Tryd.underlying53 ti22 rfl rfl (hS.ro 2 rfl) (show getO ([SV.of v_12, SV.of v_14, SV.of v_16, SV.of v_18, SV.of v_21, SV.of v_23, SV.of v_25, SV.of v_27] : List SV) (1 : Int) = some (SV.of v_14) from rfl)) rfl ?_
    refine wpR_gv (t := 234) rfl rfl (G_load Tryd.underlying22 rfl rfl (hS.ro 2 rfl) (show getO ([SV.of v_12, SV.of v_14, SV.of v_16, SV.of v_18, SV.of v_21, SV.of v_23, SV.of v_25, SV.of v_27] : List SV) (1 : Int) = some (SV.of v_14) from rfl) (eVc (hS.twro hA_177 6 5 rfl rfl).sv)) rfl ?_
    refine wpR_run 1 rfl ?_
    obtain ⟨x_351, hx_351, h⟩ := obind_some h
    refine wpR_gv (t := 234) rfl rfl (G_ix Tryd.underlying22 ti5 rfl rfl (hS.twro hA_177 6 5 rfl rfl) hx_351) rfl ?_
    refine wpR_gv (t := 234) rfl rfl (G_load Tryd.underlying5 rfl rfl (hS.twro hA_177 6 5 rfl rfl) hx_351 rfl) rfl ?_
    refine wpR_run 1 rfl ?_
    refine wpR_gv (t := 234) rfl rfl (OpV_bin rfl rfl (b_iadd _ 60 1)) rfl ?_
    refine wpR_gv (t := 234) rfl rfl (OpV_conv rfl (cv_i_8 Tryd.underlying3 Tryd.underlying5 61)) rfl ?_
    refine wpR_gv (t := 234) rfl rfl (OpV_bin rfl rfl (b_neq8 _ x_351 (UInt8.ofInt 61))) rfl ?_
    refine wpR_run 1 rfl ?_
    cases hb_352 : (x_351 != (UInt8.ofInt 61))
    case true =>
     have h := if_t h hb_352
     try simp only [hb_352]
     refine wpR_run 35 rfl ?_
     refine wpR_nil (QE_then_n ?_)
     exact wpC_le _ (by exact ⟨rfl, rfl, rfl, rfl, rfl, rfl, rfl, rfl, rfl, rfl, trivial⟩) (hK_357 true _ _ ⟨rfl, hS⟩ h)
    case false =>
     have h := if_f h hb_352
     try simp only [hb_352]
     refine wpR_run 2 rfl ?_
     refine wpR_gv (t := 246) rfl rfl (G_ix Tryd.underlying53 ti22 rfl rfl (hS.ro 19 rfl) (show getO ([SV.of v_150, SV.of v_173, SV.of v_196, SV.of v_219, SV.of v_242, SV.of v_265, SV.of v_288, SV.of v_311] : List SV) (1 : Int) = some (SV.of v_173) from rfl)) rfl ?_
     refine wpR_gv (t := 246) rfl rfl (G_load Tryd.underlying22 rfl rfl (hS.ro 19 rfl) (show getO ([SV.of v_150, SV.of v_173, SV.of v_196, SV.of v_219, SV.of v_242, SV.of v_265, SV.of v_288, SV.of v_311] : List SV) (1 : Int) = some (SV.of v_173) from rfl) (eVc (hS.ro 6 rfl).sv)) rfl ?_
     refine wpR_run 1 rfl ?_
     obtain ⟨x_353, hx_353, h⟩ := obind_some h
     refine wpR_gv (t := 246) rfl rfl (G_ix Tryd.underlying22 ti5 rfl rfl (hS.ro 6 rfl) hx_353) rfl ?_
     refine wpR_gv (t := 246) rfl rfl (G_load Tryd.underlying5 rfl rfl (hS.ro 6 rfl) hx_353 rfl) rfl ?_
     refine wpR_run 1 rfl ?_
     refine wpR_gv (t := 246) rfl rfl (OpV_bin rfl rfl (b_iadd _ 60 1)) rfl ?_
     refine wpR_gv (t := 246) rfl rfl (OpV_conv rfl (cv_i_8 Tryd.underlying3 Tryd.underlying5 61)) rfl ?_
     refine wpR_gv (t := 246) rfl rfl (OpV_bin rfl rfl (b_neq8 _ x_353 (UInt8.ofInt 61))) rfl ?_
     refine wpR_run 3 rfl ?_
     cases hb_354 : (x_353 != (UInt8.ofInt 61))
     case true =>
      have h := if_t h hb_354
      try simp only [hb_354]
      refine wpR_run 21 rfl ?_
      refine wpR_nil (QE_then_n ?_)
      exact wpC_le _ (by exact ⟨rfl, rfl, rfl, rfl, rfl, rfl, rfl, rfl, rfl, rfl, trivial⟩) (hK_357 true _ _ ⟨rfl, hS⟩ h)
     case false =>
      have h := if_f h hb_354
      try simp only [hb_354]
      refine wpR_run 3 rfl ?_
      refine wpR_gv (t := 260) rfl rfl (G_ix Tryd.underlying53 ti22 rfl rfl (hS.ro 2 rfl) (show getO ([SV.of v_12, SV.of v_14, SV.of v_16, SV.of v_18, SV.of v_21, SV.of v_23, SV.of v_25, SV.of v_27] : List SV) (1 : Int) = some (SV.of v_14) from rfl)) rfl ?_
      refine wpR_gv (t := 260) rfl rfl (G_load Tryd.underlying22 rfl rfl (hS.ro 2 rfl) (show getO ([SV.of v_12, SV.of v_14, SV.of v_16, SV.of v_18, SV.of v_21, SV.of v_23, SV.of v_25, SV.of v_27] : List SV) (1 : Int) = some (SV.of v_14) from rfl) (eVc (hS.twro hA_177 6 5 rfl rfl).sv)) rfl ?_
      refine wpR_gv (t := 260) rfl rfl (OpV_len Tryd.underlying22 rfl (hS.twro hA_177 6 5 rfl rfl)) rfl ?_
      refine wpR_gv (t := 260) rfl rfl (OpV_bin rfl rfl ((cpl_f hb_350).to (b_igeq _ x_345 (x_84.length : Int)))) rfl ?_
      refine wpR_run 14 rfl ?_
      refine wpR_nil (QE_then_n ?_)
      exact wpC_le _ (by exact ⟨rfl, rfl, rfl, rfl, rfl, rfl, rfl, rfl, rfl, rfl, trivial⟩) (hK_357 false _ _ ⟨rfl, hS⟩ h)
   case false =>
    have h := if_f h hb_350
    try simp only [hb_350]
    refine wpR_run 29 rfl ?_
    refine wpR_gv (t := 260) rfl rfl (G_ix Tryd.underlying53 ti22 rfl rfl (hS.ro 2 rfl) (show getO ([SV.of v_12, SV.of v_14, SV.of v_16, SV.of v_18, SV.of v_21, SV.of v_23, SV.of v_25, SV.of v_27] : List SV) (1 : Int) = some (SV.of v_14) from rfl)) rfl ?_
    refine wpR_gv (t := 260) rfl rfl (G_load Tryd.underlying22 rfl rfl (hS.ro 2 rfl) (show getO ([SV.of v_12, SV.of v_14, SV.of v_16, SV.of v_18, SV.of v_21, SV.of v_23, SV.of v_25, SV.of v_27] : List SV) (1 : Int) = some (SV.of v_14) from rfl) (eVc (hS.twro hA_177 6 5 rfl rfl).sv)) rfl ?_
    refine wpR_gv (t := 260) rfl rfl (OpV_len Tryd.underlying22 rfl (hS.twro hA_177 6 5 rfl rfl)) rfl ?_
    refine wpR_gv (t := 260) rfl rfl (OpV_bin rfl rfl ((cpl_t hb_350).to (b_igeq _ x_345 (x_84.length : Int)))) rfl ?_
    refine wpR_run 3 rfl ?_
    refine wpR_gv (t := 268) rfl rfl (G_ix Tryd.underlying53 ti22 rfl rfl (hS.ro 19 rfl) (show getO ([SV.of v_150, SV.of v_173, SV.of v_196, SV.of v_219, SV.of v_242, SV.of v_265, SV.of v_288, SV.of v_311] : List SV) (1 : Int) = some (SV.of v_173) from rfl)) rfl ?_
    refine wpR_gv (t := 268) rfl rfl (G_load Tryd.underlying22 rfl rfl (hS.ro 19 rfl) (show getO ([SV.of v_150, SV.of v_173, SV.of v_196, SV.of v_219, SV.of v_242, SV.of v_265, SV.of v_288, SV.of v_311] : List SV) (1 : Int) = some (SV.of v_173) from rfl) (eVc (hS.ro 6 rfl).sv)) rfl ?_
    refine wpR_run 1 rfl ?_
    obtain ⟨x_355, hx_355, h⟩ := obind_some h
    refine wpR_gv (t := 268) rfl rfl (G_ix Tryd.underlying22 ti5 rfl rfl (hS.ro 6 rfl) hx_355) rfl ?_
    refine wpR_gv (t := 268) rfl rfl (G_load Tryd.underlying5 rfl rfl (hS.ro 6 rfl) hx_355 rfl) rfl ?_
    refine wpR_run 1 rfl ?_
    refine wpR_gv (t := 268) rfl rfl (OpV_bin rfl rfl (b_iadd _ 80 1)) rfl ?_
    refine wpR_gv (t := 268) rfl rfl (OpV_conv rfl (cv_i_8 Tryd.underlying3 Tryd.underlying5 81)) rfl ?_
    refine wpR_gv (t := 268) rfl rfl (OpV_bin rfl rfl (b_neq8 _ x_355 (UInt8.ofInt 81))) rfl ?_
    refine wpR_run 2 rfl ?_
    refine wpR_nil (QE_then_n ?_)
    exact wpC_le _ (by exact ⟨rfl, rfl, rfl, rfl, rfl, rfl, rfl, rfl, rfl, rfl, trivial⟩) (hK_357 (x_355 != (UInt8.ofInt 81)) _ _ ⟨rfl, hS⟩ h)
  rintro x_356 L w hJ h
  try dsimp only at hJ
  obtain ⟨rfl, hS⟩ := hJ
  unfold F.law31_CoseSpares_K3 at h
  refine wpC_cond rfl (fun hb_358 => ?_) (fun hb_358 => ?_)
  ·have h := if_t h hb_358
   refine wpC_seq (wpC_region (wpR_run 1 rfl ?_))
   refine wpR_nil (QE_then_n (wpC_ret (QE_blk_r ?_)))
   refine QE_then_r (QE_then_r ?_)
   have h := oinr_some h hk_346
   refine QE_blk_r ?_
   refine QE_blk_r ?_
   refine QE_then_r (QE_then_r (QE_blk_r ?_))
   refine QE_then_r ?_
   cases h
   exact QE_ret1 rfl rfl ⟨rfl, hS.pick [] (by decide) rfl⟩
  have h := if_f h hb_358
  refine wpC_skip (QE_blk_n ?_)
  refine QE_then_n (wpC_region (wpR_run 3 rfl ?_))
  refine wpR_nil ?_
  exact QE_rnd (wpN_le _ (by exact ⟨rfl, rfl, rfl, rfl, rfl, rfl, rfl, rfl, rfl, trivial⟩) (ih_347 (wI (x_345 + 1)) _ _ ⟨rfl, hS⟩ (oinl_some h hk_346)))
 have h := if_f h hb_349
 refine wpC_exit ?_
 refine QE_then_x (QE_then_x ?_)
 have h := oinr_some h hk_346
 refine QE_blk_x ?_
 refine QE_blk_n ?_
 refine QE_then_n (wpC_region (wpR_run 1 rfl ?_))
 refine wpR_v (OpV_bin rfl rfl (b_iadd _ 1 1)) rfl ?_
 refine wpR_run 1 rfl ?_
 refine wpR_nil (QE_rnd ?_)
 refine wpN_succ ?_
 refine wpC_seq (wpC_seq (wpC_region (wpR_run 2 rfl ?_)))
 refine wpR_v (show OpV _ _ _ _ _ (vI 8) _ from OpV_len Tryd.underlying53 rfl (hS.ro 2 rfl)) rfl ?_
 refine wpR_v (OpV_bin rfl rfl (b_ilss _ 2 8)) rfl ?_
 refine wpR_nil (QE_then_n (wpC_condT rfl ?_))
 refine wpC_skip (QE_then_n (wpC_seq (wpC_block ?_)))
 refine wpC_seq (wpC_region (wpR_run 1 rfl ?_))
 refine wpR_nil (QE_then_n (wpC_block ?_))
 refine wpC_le [(0, va0), (1, va1), (2, va2), (7, slV v_4 e8.sz 0 x_3.2), (8, slV v_8 e8.sz 0 x_7.2), (21, v_41), (28, v_329), (32, vI 2), (33, vI 0)] ⟨rfl, rfl, rfl, rfl, rfl, rfl, rfl, rfl, rfl, trivial⟩ ?_
 refine loop_ind (F.law31_CoseSpares_L19 x_92 x_195 x_100 x_218 x_116 x_241 x_124 x_264 x_132 x_287 a2 x_140 x_310 a0 a1 x_3 x_7) (fun (s : Int) L w => L = [(0, va0), (1, va1), (2, va2), (7, slV v_4 e8.sz 0 x_3.2), (8, slV v_8 e8.sz 0 x_7.2), (21, v_41), (28, v_329), (32, vI 2), (33, vI s)] ∧ St [] w0 w [own e8 v_4 x_3.1, own e8 v_8 x_7.1, own eV v_41 ([SV.of v_12, SV.of v_14, SV.of v_16, SV.of v_18, SV.of v_21, SV.of v_23, SV.of v_25, SV.of v_27] : List SV), twE e8 v_12 x_76 b_153, own e8 v_150 x_149, twE e8 v_14 x_84 b_176, own e8 v_173 x_172, twE e8 v_16 x_92 b_199, own e8 v_196 x_195, twE e8 v_18 x_100 b_222, own e8 v_219 x_218, twE e8 v_21 x_116 b_245, own e8 v_242 x_241, twE e8 v_23 x_124 b_268, own e8 v_265 x_264, twE e8 v_25 x_132 b_291, own e8 v_288 x_287, twE e8 v_27 x_140 b_314, own e8 v_311 x_310, own eV v_329 ([SV.of v_150, SV.of v_173, SV.of v_196, SV.of v_219, SV.of v_242, SV.of v_265, SV.of v_288, SV.of v_311] : List SV)]) ?_ 0 ⟨rfl, hS⟩ h
 rintro k_518 x_359 L w q_362 hI ih_361 h hk_360
 try dsimp only at hI
 obtain ⟨rfl, hS⟩ := hI
 unfold F.law31_CoseSpares_L19 at h
 refine wpC_seq (wpC_seq (wpC_region (wpR_run 3 rfl ?_)))
 refine wpR_v (G_ix Tryd.underlying53 ti22 rfl rfl (hS.ro 19 rfl) (show getO ([SV.of v_150, SV.of v_173, SV.of v_196, SV.of v_219, SV.of v_242, SV.of v_265, SV.of v_288, SV.of v_311] : List SV) (2 : Int) = some (SV.of v_196) from rfl)) rfl ?_
 refine wpR_v (G_load Tryd.underlying22 rfl rfl (hS.ro 19 rfl) (show getO ([SV.of v_150, SV.of v_173, SV.of v_196, SV.of v_219, SV.of v_242, SV.of v_265, SV.of v_288, SV.of v_311] : List SV) (2 : Int) = some (SV.of v_196) from rfl) (eVc (hS.ro 8 rfl).sv)) rfl ?_
 refine wpR_v (OpV_len Tryd.underlying22 rfl (hS.ro 8 rfl)) rfl ?_
 refine wpR_run 1 rfl ?_
 refine wpR_nil (QE_then_n ?_)
 refine wpC_cond rfl (fun hb_363 => ?_) (fun hb_363 => ?_)
 ·have h := if_t h hb_363
  refine wpC_skip (QE_then_n (wpC_seq (wpC_block ?_)))
  refine seq_join (r := q_362) (fun (g : Bool) L w => L = [(0, va0), (1, va1), (2, va2), (7, slV v_4 e8.sz 0 x_3.2), (8, slV v_8 e8.sz 0 x_7.2), (21, v_41), (28, v_329), (32, vI 2), (33, vI x_359), (281, vB g)] ∧ St [] w0 w [own e8 v_4 x_3.1, own e8 v_8 x_7.1, own eV v_41 ([SV.of v_12, SV.of v_14, SV.of v_16, SV.of v_18, SV.of v_21, SV.of v_23, SV.of v_25, SV.of v_27] : List SV), twE e8 v_12 x_76 b_153, own e8 v_150 x_149, twE e8 v_14 x_84 b_176, own e8 v_173 x_172, twE e8 v_16 x_92 b_199, own e8 v_196 x_195, twE e8 v_18 x_100 b_222, own e8 v_219 x_218, twE e8 v_21 x_116 b_245, own e8 v_242 x_241, twE e8 v_23 x_124 b_268, own e8 v_265 x_264, twE e8 v_25 x_132 b_291, own e8 v_288 x_287, twE e8 v_27 x_140 b_314, own e8 v_311 x_310, own eV v_329 ([SV.of v_150, SV.of v_173, SV.of v_196, SV.of v_219, SV.of v_242, SV.of v_265, SV.of v_288, SV.of v_311] : List SV)]) (F.law31_CoseSpares_K4 x_359) ?_ ?_
  rotate_left
  ·intro hK_371
   refine wpC_region (wpR_run 3 rfl ?_)
   refine wpR_v (G_ix Tryd.underlying53 ti22 rfl rfl (hS.ro 2 rfl) (show getO ([SV.of v_12, SV.of v_14, SV.of v_16, SV.of v_18, SV.of v_21, SV.of v_23, SV.of v_25, SV.of v_27] : List SV) (2 : Int) = some (SV.of v_16) from rfl)) rfl ?_
   refine wpR_v (G_load Tryd.underlying22 rfl rfl (hS.ro 2 rfl) (show getO ([SV.of v_12, SV.of v_14, SV.of v_16, SV.of v_18, SV.of v_21, SV.of v_23, SV.of v_25, SV.of v_27] : List SV) (2 : Int) = some (SV.of v_16) from rfl) (eVc (hS.twro hA_200 8 7 rfl rfl).sv)) rfl ?_
   refine wpR_v (OpV_len Tryd.underlying22 rfl (hS.twro hA_200 8 7 rfl rfl)) rfl ?_
   refine wpR_run 2 rfl ?_
   cases hb_364 : (decide (x_359 < (x_92.length : Int)))
   case true =>
    have h := if_t h hb_364
    try simp only [hb_364]
    refine wpR_run 2 rfl ?_
    refine wpR_gv (t := 234) rfl rfl (G_ix Tryd.underlying53 ti22 rfl rfl (hS.ro 2 rfl) (show getO ([SV.of v_12, SV.of v_14, SV.of v_16, SV.of v_18, SV.of v_21, SV.of v_23, SV.of v_25, SV.of v_27] : List SV) (2 : Int) = some (SV.of v_16) from rfl)) rfl ?_
    refine wpR_gv (t := 234) rfl rfl (G_load Tryd.underlying22 rfl rfl (hS.ro 2 rfl) (show getO ([SV.of v_12, SV.of v_14, SV.of v_16, SV.of v_18, SV.of v_21, SV.of v_23, SV.of v_25, SV.of v_27] : List SV) (2 : Int) = some (SV.of v_16) from rfl) (eVc (hS.twro hA_200 8 7 rfl rfl).sv)) rfl ?_
    refine wpR_run 1 rfl ?_
    obtain ⟨x_365, hx_365, h⟩ := obind_some h
    refine wpR_gv (t := 234) rfl rfl (G_ix Tryd.underlying22 ti5 rfl rfl (hS.twro hA_200 8 7 rfl rfl) hx_365) rfl ?_
    refine wpR_gv (t := 234) rfl rfl (G_load Tryd.underlying5 rfl rfl (hS.twro hA_200 8 7 rfl rfl) hx_365 rfl) rfl ?_
    refine wpR_run 1 rfl ?_
    refine wpR_gv (t := 234) rfl rfl (OpV_bin rfl rfl (b_iadd _ 60 2)) rfl ?_
    refine wpR_gv (t := 234) rfl rfl (OpV_conv rfl (cv_i_8 Tryd.underlying3 Tryd.underlying5 62)) rfl ?_
    refine wpR_gv (t := 234) rfl rfl (OpV_bin rfl rfl (b_neq8 _ x_365 (UInt8.ofInt 62))) rfl ?_
    refine wpR_run 1 rfl ?_
    cases hb_366 : (x_365 != (UInt8.ofInt 62))
    case true =>
     have h := if_t h hb_366
     try simp only [hb_366]
     refine wpR_run 35 rfl ?_
     refine wpR_nil (QE_then_n ?_)
     exact wpC_le _ (by exact ⟨rfl, rfl, rfl, rfl, rfl, rfl, rfl, rfl, rfl, rfl, trivial⟩) (hK_371 true _ _ ⟨rfl, hS⟩ h)
    case false =>
     have h := if_f h hb_366
     try simp only [hb_366]
     refine wpR_run 2 rfl ?_
     refine wpR_gv (t := 246) rfl rfl (G_ix Tryd.underlying53 ti22 rfl rfl (hS.ro 19 rfl) (show getO ([SV.of v_150, SV.of v_173, SV.of v_196, SV.of v_219, SV.of v_242, SV.of v_265, SV.of v_288, SV.of v_311] : List SV) (2 : Int) = some (SV.of v_196) from rfl)) rfl ?_
     refine wpR_gv (t := 246) rfl rfl (G_load Tryd.underlying22 rfl rfl (hS.ro 19 rfl) (show getO ([SV.of v_150, SV.of v_173, SV.of v_196, SV.of v_219, SV.of v_242, SV.of v_265, SV.of v_288, SV.of v_311] : List SV) (2 : Int) = some (SV.of v_196) from rfl) (eVc (hS.ro 8 rfl).sv)) rfl ?_
     refine wpR_run 1 rfl ?_
     obtain ⟨x_367, hx_367, h⟩ := obind_some h
     refine wpR_gv (t := 246) rfl rfl (G_ix Tryd.underlying22 ti5 rfl rfl (hS.ro 8 rfl) hx_367) rfl ?_
     refine wpR_gv (t := 246) rfl rfl (G_load Tryd.underlying5 rfl rfl (hS.ro 8 rfl) hx_367 rfl) rfl ?_
     refine wpR_run 1 rfl ?_
     refine wpR_gv (t := 246) rfl rfl (OpV_bin rfl rfl (b_iadd _ 60 2)) rfl ?_
     refine wpR_gv (t := 246) rfl rfl (OpV_conv rfl (cv_i_8 Tryd.underlying3 Tryd.underlying5 62)) rfl ?_
     refine wpR_gv (t := 246) rfl rfl (OpV_bin rfl rfl (b_neq8 _ x_367 (UInt8.ofInt 62))) rfl ?_
     refine wpR_run 3 rfl ?_
     cases hb_368 : (x_367 != (UInt8.ofInt 62))
     case true =>
      have h := if_t h hb_368
      try simp only [hb_368]
      refine wpR_run 21 rfl ?_
      refine wpR_nil (QE_then_n ?_)
      exact wpC_le _ (by exact ⟨rfl, rfl, rfl, rfl, rfl, rfl, rfl, rfl, rfl, rfl, trivial⟩) (hK_371 true _ _ ⟨rfl, hS⟩ h)
     case false =>
      have h := if_f h hb_368
      try simp only [hb_368]
      refine wpR_run 3 rfl ?_
      refine wpR_gv (t := 260) rfl rfl (G_ix Tryd.underlying53 ti22 rfl rfl (hS.ro 2 rfl) (show getO ([SV.of v_12, SV.of v_14, SV.of v_16, SV.of v_18, SV.of v_21, SV.of v_23, SV.of v_25, SV.of v_27] : List SV) (2 : Int) = some (SV.of v_16) from rfl)) rfl ?_
      refine wpR_gv (t := 260) rfl rfl (G_load Tryd.underlying22 rfl rfl (hS.ro 2 rfl) (show getO ([SV.of v_12, SV.of v_14, SV.of v_16, SV.of v_18, SV.of v_21, SV.of v_23, SV.of v_25, SV.of v_27] : List SV) (2 : Int) = some (SV.of v_16) from rfl) (eVc (hS.twro hA_200 8 7 rfl rfl).sv)) rfl ?_
      refine wpR_gv (t := 260) rfl rfl (OpV_len Tryd.underlying22 rfl (hS.twro hA_200 8 7 rfl rfl)) rfl ?_
      refine wpR_gv (t := 260) rfl rfl (OpV_bin rfl rfl ((cpl_f hb_364).to (b_igeq _ x_359 (x_92.length : Int)))) rfl ?_
      refine wpR_run 14 rfl ?_
      refine wpR_nil (QE_then_n ?_)
      exact wpC_le _ (by exact ⟨rfl, rfl, rfl, rfl, rfl, rfl, rfl, rfl, rfl, rfl, trivial⟩) (hK_371 false _ _ ⟨rfl, hS⟩ h)
   case false =>
    have h := if_f h hb_364
    try simp only [hb_364]
    refine wpR_run 29 rfl ?_
    refine wpR_gv (t := 260) rfl rfl (G_ix Tryd.underlying53 ti22 rfl rfl (hS.ro 2 rfl) (show getO ([SV.of v_12, SV.of v_14, SV.of v_16, SV.of v_18, SV.of v_21, SV.of v_23, SV.of v_25, SV.of v_27] : List SV) (2 : Int) = some (SV.of v_16) from rfl)) rfl ?_
    refine wpR_gv (t := 260) rfl rfl (G_load Tryd.underlying22 rfl rfl (hS.ro 2 rfl) (show getO ([SV.of v_12, SV.of v_14, SV.of v_16, SV.of v_18, SV.of v_21, SV.of v_23, SV.of v_25, SV.of v_27] : List SV) (2 : Int) = some (SV.of v_16) from rfl) (eVc (hS.twro hA_200 8 7 rfl rfl).sv)) rfl ?_
    refine wpR_gv (t := 260) rfl rfl (OpV_len Tryd.underlying22 rfl (hS.twro hA_200 8 7 rfl rfl)) rfl ?_
    refine wpR_gv (t := 260) rfl rfl (OpV_bin rfl rfl ((cpl_t hb_364).to (b_igeq _ x_359 (x_92.length : Int)))) rfl ?_
    refine wpR_run 3 rfl ?_
    refine wpR_gv (t := 268) rfl rfl (G_ix Tryd.underlying53 ti22 rfl rfl (hS.ro 19 rfl) (show getO ([SV.of v_150, SV.of v_173, SV.of v_196, SV.of v_219, SV.of v_242, SV.of v_265, SV.of v_288, SV.of v_311] : List SV) (2 : Int) = some (SV.of v_196) from rfl)) rfl ?_
    refine wpR_gv (t := 268) rfl rfl (G_load Tryd.underlying22 rfl rfl (hS.ro 19 rfl) (show getO ([SV.of v_150, SV.of v_173, SV.of v_196, SV.of v_219, SV.of v_242, SV.of v_265, SV.of v_288, SV.of v_311] : List SV) (2 : Int) = some (SV.of v_196) from rfl) (eVc (hS.ro 8 rfl).sv)) rfl ?_
    refine wpR_run 1 rfl ?_
    obtain ⟨x_369, hx_369, h⟩ := obind_some h
    refine wpR_gv (t := 268) rfl rfl (G_ix Tryd.underlying22 ti5 rfl rfl (hS.ro 8 rfl) hx_369) rfl ?_
    refine wpR_gv (t := 268) rfl rfl (G_load Tryd.underlying5 rfl rfl (hS.ro 8 rfl) hx_369 rfl) rfl ?_
    refine wpR_run 1 rfl ?_
    refine wpR_gv (t := 268) rfl rfl (OpV_bin rfl rfl (b_iadd _ 80 2)) rfl ?_
    refine wpR_gv (t := 268) rfl rfl (OpV_conv rfl (cv_i_8 Tryd.underlying3 Tryd.underlying5 82)) rfl ?_
    refine wpR_gv (t := 268) rfl rfl (OpV_bin rfl rfl (b_neq8 _ x_369 (UInt8.ofInt 82))) rfl ?_
    refine wpR_run 2 rfl ?_
    refine wpR_nil (QE_then_n ?_)
    exact wpC_le _ (by exact ⟨rfl, rfl, rfl, rfl, rfl, rfl, rfl, rfl, rfl, rfl, trivial⟩) (hK_371 (x_369 != (UInt8.ofInt 82)) _ _ ⟨rfl, hS⟩ h)
  rintro x_370 L w hJ h
  try dsimp only at hJ
  obtain ⟨rfl, hS⟩ := hJ
  unfold F.law31_CoseSpares_K4 at h
  refine wpC_cond rfl (fun hb_372 => ?_) (fun hb_372 => ?_)
  ·have h := if_t h hb_372
   refine wpC_seq (wpC_region (wpR_run 1 rfl ?_))
   refine wpR_nil (QE_then_n (wpC_ret (QE_blk_r ?_)))
   refine QE_then_r (QE_then_r ?_)
   have h := oinr_some h hk_360
   refine QE_blk_r ?_
   refine QE_blk_r ?_
   refine QE_then_r (QE_then_r (QE_blk_r ?_))
   refine QE_then_r ?_
   cases h
   exact QE_ret1 rfl rfl ⟨rfl, hS.pick [] (by decide) rfl⟩
  have h := if_f h hb_372
  refine wpC_skip (QE_blk_n ?_)
  refine QE_then_n (wpC_region (wpR_run 3 rfl ?_))
  refine wpR_nil ?_
  exact QE_rnd (wpN_le _ (by exact ⟨rfl, rfl, rfl, rfl, rfl, rfl, rfl, rfl, rfl, trivial⟩) (ih_361 (wI (x_359 + 1)) _ _ ⟨rfl, hS⟩ (oinl_some h hk_360)))
 have h := if_f h hb_363
 refine wpC_exit ?_
 refine QE_then_x (QE_then_x ?_)
 have h := oinr_some h hk_360
 refine QE_blk_x ?_
 refine QE_blk_n ?_
 refine QE_then_n (wpC_region (wpR_run 1 rfl ?_))
 refine wpR_v (OpV_bin rfl rfl (b_iadd _ 2 1)) rfl ?_
 refine wpR_run 1 rfl ?_
 refine wpR_nil (QE_rnd ?_)
 refine wpN_succ ?_
 refine wpC_seq (wpC_seq (wpC_region (wpR_run 2 rfl ?_)))
 refine wpR_v (show OpV _ _ _ _ _ (vI 8) _ from OpV_len Tryd.underlying53 rfl (hS.ro 2 rfl)) rfl ?_
 refine wpR_v (OpV_bin rfl rfl (b_ilss _ 3 8)) rfl ?_
 refine wpR_nil (QE_then_n (wpC_condT rfl ?_))
 refine wpC_skip (QE_then_n (wpC_seq (wpC_block ?_)))
 refine wpC_seq (wpC_region (wpR_run 1 rfl ?_))
 refine wpR_nil (QE_then_n (wpC_block ?_))
 refine wpC_le [(0, va0), (1, va1), (2, va2), (7, slV v_4 e8.sz 0 x_3.2), (8, slV v_8 e8.sz 0 x_7.2), (21, v_41), (28, v_329), (32, vI 3), (33, vI 0)] ⟨rfl, rfl, rfl, rfl, rfl, rfl, rfl, rfl, rfl, trivial⟩ ?_
 refine loop_ind (F.law31_CoseSpares_L20 x_100 x_218 x_116 x_241 x_124 x_264 x_132 x_287 a2 x_140 x_310 a0 a1 x_3 x_7) (fun (s : Int) L w => L = [(0, va0), (1, va1), (2, va2), (7, slV v_4 e8.sz 0 x_3.2), (8, slV v_8 e8.sz 0 x_7.2), (21, v_41), (28, v_329), (32, vI 3), (33, vI s)] ∧ St [] w0 w [own e8 v_4 x_3.1, own e8 v_8 x_7.1, own eV v_41 ([SV.of v_12, SV.of v_14, SV.of v_16, SV.of v_18, SV.of v_21, SV.of v_23, SV.of v_25, SV.of v_27] : List SV), twE e8 v_12 x_76 b_153, own e8 v_150 x_149, twE e8 v_14 x_84 b_176, own e8 v_173 x_172, twE e8 v_16 x_92 b_199, own e8 v_196 x_195, twE e8 v_18 x_100 b_222, own e8 v_219 x_218, twE e8 v_21 x_116 b_245, own e8 v_242 x_241, twE e8 v_23 x_124 b_268, own e8 v_265 x_264, twE e8 v_25 x_132 b_291, own e8 v_288 x_287, twE e8 v_27 x_140 b_314, own e8 v_311 x_310, own eV v_329 ([SV.of v_150, SV.of v_173, SV.of v_196, SV.of v_219, SV.of v_242, SV.of v_265, SV.of v_288, SV.of v_311] : List SV)]) ?_ 0 ⟨rfl, hS⟩ h
 rintro k_517 x_373 L w q_376 hI ih_375 h hk_374
 try dsimp only at hI
 obtain ⟨rfl, hS⟩ := hI
 unfold F.law31_CoseSpares_L20 at h
 refine wpC_seq (wpC_seq (wpC_region (wpR_run 3 rfl ?_)))
 refine wpR_v (G_ix Tryd.underlying53 ti22 rfl rfl (hS.ro 19 rfl) (show getO ([SV.of v_150, SV.of v_173, SV.of v_196, SV.of v_219, SV.of v_242, SV.of v_265, SV.of v_288, SV.of v_311] : List SV) (3 : Int) = some (SV.of v_219) from rfl)) rfl ?_
 refine wpR_v (G_load Tryd.underlying22 rfl rfl (hS.ro 19 rfl) (show getO ([SV.of v_150, SV.of v_173, SV.of v_196, SV.of v_219, SV.of v_242, SV.of v_265, SV.of v_288, SV.of v_311] : List SV) (3 : Int) = some (SV.of v_219) from rfl) (eVc (hS.ro 10 rfl).sv)) rfl ?_
 refine wpR_v (OpV_len Tryd.underlying22 rfl (hS.ro 10 rfl)) rfl ?_
 refine wpR_run 1 rfl ?_
 refine wpR_nil (QE_then_n ?_)
 refine wpC_cond rfl (fun hb_377 => ?_) (fun hb_377 => ?_)
 ·have h := if_t h hb_377
  refine wpC_skip (QE_then_n (wpC_seq (wpC_block ?_)))
  refine seq_join (r := q_376) (fun (g : Bool) L w => L = [(0, va0), (1, va1), (2, va2), (7, slV v_4 e8.sz 0 x_3.2), (8, slV v_8 e8.sz 0 x_7.2), (21, v_41), (28, v_329), (32, vI 3), (33, vI x_373), (281, vB g)] ∧ St [] w0 w [own e8 v_4 x_3.1, own e8 v_8 x_7.1, own eV v_41 ([SV.of v_12, SV.of v_14, SV.of v_16, SV.of v_18, SV.of v_21, SV.of v_23, SV.of v_25, SV.of v_27] : List SV), twE e8 v_12 x_76 b_153, own e8 v_150 x_149, twE e8 v_14 x_84 b_176, own e8 v_173 x_172, twE e8 v_16 x_92 b_199, own e8 v_196 x_195, twE e8 v_18 x_100 b_222, own e8 v_219 x_218, twE e8 v_21 x_116 b_245, own e8 v_242 x_241, twE e8 v_23 x_124 b_268, own e8 v_265 x_264, twE e8 v_25 x_132 b_291, own e8 v_288 x_287, twE e8 v_27 x_140 b_314, own e8 v_311 x_310, own eV v_329 ([SV.of v_150, SV.of v_173, SV.of v_196, SV.of v_219, SV.of v_242, SV.of v_265, SV.of v_288, SV.of v_311] : List SV)]) (F.law31_CoseSpares_K5 x_373) ?_ ?_
  rotate_left
  ·intro hK_385
   refine wpC_region (wpR_run 3 rfl ?_)
   refine wpR_v (G_ix Tryd.underlying53 ti22 rfl rfl (hS.ro 2 rfl) (show getO ([SV.of v_12, SV.of v_14, SV.of v_16, SV.of v_18, SV.of v_21, SV.of v_23, SV.of v_25, SV.of v_27] : List SV) (3 : Int) = some (SV.of v_18) from rfl)) rfl ?_
   refine wpR_v (G_load Tryd.underlying22 rfl rfl (hS.ro 2 rfl) (show getO ([SV.of v_12, SV.of v_14, SV.of v_16, SV.of v_18, SV.of v_21, SV.of v_23, SV.of v_25, SV.of v_27] : List SV) (3 : Int) = some (SV.of v_18) from rfl) (eVc (hS.twro hA_223 10 9 rfl rfl).sv)) rfl ?_
   refine wpR_v (OpV_len Tryd.underlying22 rfl (hS.twro hA_223 10 9 rfl rfl)) rfl ?_
   refine wpR_run 2 rfl ?_
   cases hb_378 : (decide (x_373 < (x_100.length : Int)))
   case true =>
    have h := if_t h hb_378
    try simp only [hb_378]
    refine wpR_run 2 rfl ?_
    refine wpR_gv (t := 234) rfl rfl (G_ix Tryd.underlying53 ti22 rfl rfl (hS.ro 2 rfl) (show getO ([SV.of v_12, SV.of v_14, SV.of v_16, SV.of v_18, SV.of v_21, SV.of v_23, SV.of v_25, SV.of v_27] : List SV) (3 : Int) = some (SV.of v_18) from rfl)) rfl ?_
    refine wpR_gv (t := 234) rfl rfl (G_load Tryd.underlying22 rfl rfl (hS.ro 2 rfl) (show getO ([SV.of v_12, SV.of v_14, SV.of v_16, SV.of v_18, SV.of v_21, SV.of v_23, SV.of v_25, SV.of v_27] : List SV) (3 : Int) = some (SV.of v_18) from rfl) (eVc (hS.twro hA_223 10 9 rfl rfl).sv)) rfl ?_
    refine wpR_run 1 rfl ?_
    obtain ⟨x_379, hx_379, h⟩ := obind_some h
    refine wpR_gv (t := 234) rfl rfl (G_ix Tryd.underlying22 ti5 rfl rfl (hS.twro hA_223 10 9 rfl rfl) hx_379) rfl ?_
    refine wpR_gv (t := 234) rfl rfl (G_load Tryd.underlying5 rfl rfl (hS.twro hA_223 10 9 rfl rfl) hx_379 rfl) rfl ?_
    refine wpR_run 1 rfl ?_
    refine wpR_gv (t := 234) rfl rfl (OpV_bin rfl rfl (b_iadd _ 60 3)) rfl ?_
    refine wpR_gv (t := 234) rfl rfl (OpV_conv rfl (cv_i_8 Tryd.underlying3 Tryd.underlying5 63)) rfl ?_
    refine wpR_gv (t := 234) rfl rfl (OpV_bin rfl rfl (b_neq8 _ x_379 (UInt8.ofInt 63))) rfl ?_
    refine wpR_run 1 rfl ?_
    cases hb_380 : (x_379 != (UInt8.ofInt 63))
    case true =>
     have h := if_t h hb_380
     try simp only [hb_380]
     refine wpR_run 35 rfl ?_
     refine wpR_nil (QE_then_n ?_)
     exact wpC_le _ (by exact ⟨rfl, rfl, rfl, rfl, rfl, rfl, rfl, rfl, rfl, rfl, trivial⟩) (hK_385 true _ _ ⟨rfl, hS⟩ h)
    case false =>
     have h := if_f h hb_380
     try simp only [hb_380]
     refine wpR_run 2 rfl ?_
     refine wpR_gv (t := 246) rfl rfl (G_ix Tryd.underlying53 ti22 rfl rfl (hS.ro 19 rfl) (show getO ([SV.of v_150, SV.of v_173, SV.of v_196, SV.of v_219, SV.of v_242, SV.of v_265, SV.of v_288, SV.of v_311] : List SV) (3 : Int) = some (SV.of v_219) from rfl)) rfl ?_
     refine wpR_gv (t := 246) rfl rfl (G_load Tryd.underlying22 rfl rfl (hS.ro 19 rfl) (show getO ([SV.of v_150, SV.of v_173, SV.of v_196, SV.of v_219, SV.of v_242, SV.of v_265, SV.of v_288, SV.of v_311] : List SV) (3 : Int) = some (SV.of v_219) from rfl) (eVc (hS.ro 10 rfl).sv)) rfl ?_
     refine wpR_run 1 rfl ?_
     obtain ⟨x_381, hx_381, h⟩ := obind_some h
     refine wpR_gv (t := 246) rfl rfl (G_ix Tryd.underlying22 ti5 rfl rfl (hS.ro 10 rfl) hx_381) rfl ?_
     refine wpR_gv (t := 246) rfl rfl (G_load Tryd.underlying5 rfl rfl (hS.ro 10 rfl) hx_381 rfl) rfl ?_
     refine wpR_run 1 rfl ?_
     refine wpR_gv (t := 246) rfl rfl (OpV_bin rfl rfl (b_iadd _ 60 3)) rfl ?_
     refine wpR_gv (t := 246) rfl rfl (OpV_conv rfl (cv_i_8 Tryd.underlying3 Tryd.underlying5 63)) rfl ?_
     refine wpR_gv (t := 246) rfl rfl (OpV_bin rfl rfl (b_neq8 _ x_381 (UInt8.ofInt 63))) rfl ?_
     refine wpR_run 3 rfl ?_
     cases hb_382 : (x_381 != (UInt8.ofInt 63))
     case true =>
      have h := if_t h hb_382
      try simp only [hb_382]
      refine wpR_run 21 rfl ?_
      refine wpR_nil (QE_then_n ?_)
      exact wpC_le _ (by exact ⟨rfl, rfl, rfl, rfl, rfl, rfl, rfl, rfl, rfl, rfl, trivial⟩) (hK_385 true _ _ ⟨rfl, hS⟩ h)
     case false =>
      have h := if_f h hb_382
      try simp only [hb_382]
      refine wpR_run 3 rfl ?_
      refine wpR_gv (t := 260) rfl rfl (G_ix Tryd.underlying53 ti22 rfl rfl (hS.ro 2 rfl) (show getO ([SV.of v_12, SV.of v_14, SV.of v_16, SV.of v_18, SV.of v_21, SV.of v_23, SV.of v_25, SV.of v_27] : List SV) (3 : Int) = some (SV.of v_18) from rfl)) rfl ?_
      refine wpR_gv (t := 260) rfl rfl (G_load Tryd.underlying22 rfl rfl (hS.ro 2 rfl) (show getO ([SV.of v_12, SV.of v_14, SV.of v_16, SV.of v_18, SV.of v_21, SV.of v_23, SV.of v_25, SV.of v_27] : List SV) (3 : Int) = some (SV.of v_18) from rfl) (eVc (hS.twro hA_223 10 9 rfl rfl).sv)) rfl ?_
      refine wpR_gv (t := 260) rfl rfl (OpV_len Tryd.underlying22 rfl (hS.twro hA_223 10 9 rfl rfl)) rfl ?_
      refine wpR_gv (t := 260) rfl rfl (OpV_bin rfl rfl ((cpl_f hb_378).to (b_igeq _ x_373 (x_100.length : Int)))) rfl ?_
      refine wpR_run 14 rfl ?_
      refine wpR_nil (QE_then_n ?_)
      exact wpC_le _ (by exact ⟨rfl, rfl, rfl, rfl, rfl, rfl, rfl, rfl, rfl, rfl, trivial⟩) (hK_385 false _ _ ⟨rfl, hS⟩ h)
   case false =>
    have h := if_f h hb_378
    try simp only [hb_378]
    refine wpR_run 29 rfl ?_
    refine wpR_gv (t := 260) rfl rfl (G_ix Tryd.underlying53 ti22 rfl rfl (hS.ro 2 rfl) (show getO ([SV.of v_12, SV.of v_14, SV.of v_16, SV.of v_18, SV.of v_21, SV.of v_23, SV.of v_25, SV.of v_27] : List SV) (3 : Int) = some (SV.of v_18) from rfl)) rfl ?_
    refine wpR_gv (t := 260) rfl rfl (G_load Tryd.underlying22 rfl rfl (hS.ro 2 rfl) (show getO ([SV.of v_12, SV.of v_14, SV.of v_16, SV.of v_18, SV.of v_21, SV.of v_23, SV.of v_25, SV.of v_27] : List SV) (3 : Int) = some (SV.of v_18) from rfl) (eVc (hS.twro hA_223 10 9 rfl rfl).sv)) rfl ?_
    refine wpR_gv (t := 260) rfl rfl (OpV_len Tryd.underlying22 rfl (hS.twro hA_223 10 9 rfl rfl)) rfl ?_
    refine wpR_gv (t := 260) rfl rfl (OpV_bin rfl rfl ((cpl_t hb_378).to (b_igeq _ x_373 (x_100.length : Int)))) rfl ?_
    refine wpR_run 3 rfl ?_
    refine wpR_gv (t := 268) rfl rfl (G_ix Tryd.underlying53 ti22 rfl rfl (hS.ro 19 rfl) (show getO ([SV.of v_150, SV.of v_173, SV.of v_196, SV.of v_219, SV.of v_242, SV.of v_265, SV.of v_288, SV.of v_311] : List SV) (3 : Int) = some (SV.of v_219) from rfl)) rfl ?_
    refine wpR_gv (t := 268) rfl rfl (G_load Tryd.underlying22 rfl rfl (hS.ro 19 rfl) (show getO ([SV.of v_150, SV.of v_173, SV.of v_196, SV.of v_219, SV.of v_242, SV.of v_265, SV.of v_288, SV.of v_311] : List SV) (3 : Int) = some (SV.of v_219) from rfl) (eVc (hS.ro 10 rfl).sv)) rfl ?_
    refine wpR_run 1 rfl ?_
    obtain ⟨x_383, hx_383, h⟩ := obind_some h
    refine wpR_gv (t := 268) rfl rfl (G_ix Tryd.underlying22 ti5 rfl rfl (hS.ro 10 rfl) hx_383) rfl ?_
    refine wpR_gv (t := 268) rfl rfl (G_load Tryd.underlying5 rfl rfl (hS.ro 10 rfl) hx_383 rfl) rfl ?_
    refine wpR_run 1 rfl ?_
    refine wpR_gv (t := 268) rfl rfl (OpV_bin rfl rfl (b_iadd _ 80 3)) rfl ?_
    refine wpR_gv (t := 268) rfl rfl (OpV_conv rfl (cv_i_8 Tryd.underlying3 Tryd.underlying5 83)) rfl ?_
    refine wpR_gv (t := 268) rfl rfl (OpV_bin rfl rfl (b_neq8 _ x_383 (UInt8.ofInt 83))) rfl ?_
    refine wpR_run 2 rfl ?_
    refine wpR_nil (QE_then_n ?_)
    exact wpC_le _ (by exact ⟨rfl, rfl, rfl, rfl, rfl, rfl, rfl, rfl, rfl, rfl, trivial⟩) (hK_385 (x_383 != (UInt8.ofInt 83)) _ _ ⟨rfl, hS⟩ h)
  rintro x_384 L w hJ h
  try dsimp only at hJ
  obtain ⟨rfl, hS⟩ := hJ
  unfold F.law31_CoseSpares_K5 at h
  refine wpC_cond rfl (fun hb_386 => ?_) (fun hb_386 => ?_)
  ·have h := if_t h hb_386
   refine wpC_seq (wpC_region (wpR_run 1 rfl ?_))
   refine wpR_nil (QE_then_n (wpC_ret (QE_blk_r ?_)))
   refine QE_then_r (QE_then_r ?_)
   have h := oinr_some h hk_374
   refine QE_blk_r ?_
   refine QE_blk_r ?_
   refine QE_then_r (QE_then_r (QE_blk_r ?_))
   refine QE_then_r ?_
   cases h
   exact QE_ret1 rfl rfl ⟨rfl, hS.pick [] (by decide) rfl⟩
  have h := if_f h hb_386
  refine wpC_skip (QE_blk_n ?_)
  refine QE_then_n (wpC_region (wpR_run 3 rfl ?_))
  refine wpR_nil ?_
  exact QE_rnd (wpN_le _ (by exact ⟨rfl, rfl, rfl, rfl, rfl, rfl, rfl, rfl, rfl, trivial⟩) (ih_375 (wI (x_373 + 1)) _ _ ⟨rfl, hS⟩ (oinl_some h hk_374)))
 have h := if_f h hb_377
 refine wpC_exit ?_
 refine QE_then_x (QE_then_x ?_)
 have h := oinr_some h hk_374
 refine QE_blk_x ?_
 refine QE_blk_n ?_
 refine QE_then_n (wpC_region (wpR_run 1 rfl ?_))
 refine wpR_v (OpV_bin rfl rfl (b_iadd _ 3 1)) rfl ?_
 refine wpR_run 1 rfl ?_
 refine wpR_nil (QE_rnd ?_)
 refine wpN_succ ?_
 refine wpC_seq (wpC_seq (wpC_region (wpR_run 2 rfl ?_)))
 refine wpR_v (show OpV _ _ _ _ _ (vI 8) _ from OpV_len Tryd.underlying53 rfl (hS.ro 2 rfl)) rfl ?_
 refine wpR_v (OpV_bin rfl rfl (b_ilss _ 4 8)) rfl ?_
 refine wpR_nil (QE_then_n (wpC_condT rfl ?_))
 refine wpC_skip (QE_then_n (wpC_seq (wpC_block ?_)))
 refine wpC_seq (wpC_region (wpR_run 1 rfl ?_))
 refine wpR_nil (QE_then_n (wpC_block ?_))
 refine wpC_le [(0, va0), (1, va1), (2, va2), (7, slV v_4 e8.sz 0 x_3.2), (8, slV v_8 e8.sz 0 x_7.2), (21, v_41), (28, v_329), (32, vI 4), (33, vI 0)] ⟨rfl, rfl, rfl, rfl, rfl, rfl, rfl, rfl, rfl, trivial⟩ ?_
 refine loop_ind (F.law31_CoseSpares_L21 x_116 x_241 x_124 x_264 x_132 x_287 a2 x_140 x_310 a0 a1 x_3 x_7) (fun (s : Int) L w => L = [(0, va0), (1, va1), (2, va2), (7, slV v_4 e8.sz 0 x_3.2), (8, slV v_8 e8.sz 0 x_7.2), (21, v_41), (28, v_329), (32, vI 4), (33, vI s)] ∧ St [] w0 w [own e8 v_4 x_3.1, own e8 v_8 x_7.1, own eV v_41 ([SV.of v_12, SV.of v_14, SV.of v_16, SV.of v_18, SV.of v_21, SV.of v_23, SV.of v_25, SV.of v_27] : List SV), twE e8 v_12 x_76 b_153, own e8 v_150 x_149, twE e8 v_14 x_84 b_176, own e8 v_173 x_172, twE e8 v_16 x_92 b_199, own e8 v_196 x_195, twE e8 v_18 x_100 b_222, own e8 v_219 x_218, twE e8 v_21 x_116 b_245, own e8 v_242 x_241, twE e8 v_23 x_124 b_268, own e8 v_265 x_264, twE e8 v_25 x_132 b_291, own e8 v_288 x_287, twE e8 v_27 x_140 b_314, own e8 v_311 x_310, own eV v_329 ([SV.of v_150, SV.of v_173, SV.of v_196, SV.of v_219, SV.of v_242, SV.of v_265, SV.of v_288, SV.of v_311] : List SV)]) ?_ 0 ⟨rfl, hS⟩ h
 rintro k_516 x_387 L w q_390 hI ih_389 h hk_388
 try dsimp only at hI
 obtain ⟨rfl, hS⟩ := hI
 unfold F.law31_CoseSpares_L21 at h
 refine wpC_seq (wpC_seq (wpC_region (wpR_run 3 rfl ?_)))
 refine wpR_v (G_ix Tryd.underlying53 ti22 rfl rfl (hS.ro 19 rfl) (show getO ([SV.of v_150, SV.of v_173, SV.of v_196, SV.of v_219, SV.of v_242, SV.of v_265, SV.of v_288, SV.of v_311] : List SV) (4 : Int) = some (SV.of v_242) from rfl)) rfl ?_
 refine wpR_v (G_load Tryd.underlying22 rfl rfl (hS.ro 19 rfl) (show getO ([SV.of v_150, SV.of v_173, SV.of v_196, SV.of v_219, SV.of v_242, SV.of v_265, SV.of v_288, SV.of v_311] : List SV) (4 : Int) = some (SV.of v_242) from rfl) (eVc (hS.ro 12 rfl).sv)) rfl ?_
 refine wpR_v (OpV_len Tryd.underlying22 rfl (hS.ro 12 rfl)) rfl ?_
 refine wpR_run 1 rfl ?_
 refine wpR_nil (QE_then_n ?_)
 refine wpC_cond rfl (fun hb_391 => ?_) (fun hb_391 => ?_)
 ·have h := if_t h hb_391
  refine wpC_skip (QE_then_n (wpC_seq (wpC_block ?_)))
  refine seq_join (r := q_390) (fun (g : Bool) L w => L = [(0, va0), (1, va1), (2, va2), (7, slV v_4 e8.sz 0 x_3.2), (8, slV v_8 e8.sz 0 x_7.2), (21, v_41), (28, v_329), (32, vI 4), (33, vI x_387), (281, vB g)] ∧ St [] w0 w [own e8 v_4 x_3.1, own e8 v_8 x_7.1, own eV v_41 ([SV.of v_12, SV.of v_14, SV.of v_16, SV.of v_18, SV.of v_21, SV.of v_23, SV.of v_25, SV.of v_27] : List SV), twE e8 v_12 x_76 b_153, own e8 v_150 x_149, twE e8 v_14 x_84 b_176, own e8 v_173 x_172, twE e8 v_16 x_92 b_199, own e8 v_196 x_195, twE e8 v_18 x_100 b_222, own e8 v_219 x_218, twE e8 v_21 x_116 b_245, own e8 v_242 x_241, twE e8 v_23 x_124 b_268, own e8 v_265 x_264, twE e8 v_25 x_132 b_291, own e8 v_288 x_287, twE e8 v_27 x_140 b_314, own e8 v_311 x_310, own eV v_329 ([SV.of v_150, SV.of v_173, SV.of v_196, SV.of v_219, SV.of v_242, SV.of v_265, SV.of v_288, SV.of v_311] : List SV)]) (F.law31_CoseSpares_K6 x_387) ?_ ?_
  rotate_left
  ·intro hK_399
   refine wpC_region (wpR_run 3 rfl ?_)
   refine wpR_v (G_ix Tryd.underlying53 ti22 rfl rfl (hS.ro 2 rfl) (show getO ([SV.of v_12, SV.of v_14, SV.of v_16, SV.of v_18, SV.of v_21, SV.of v_23, SV.of v_25, SV.of v_27] : List SV) (4 : Int) = some (SV.of v_21) from rfl)) rfl ?_
   refine wpR_v (G_load Tryd.underlying22 rfl rfl (hS.ro 2 rfl) (show getO ([SV.of v_12, SV.of v_14, SV.of v_16, SV.of v_18, SV.of v_21, SV.of v_23, SV.of v_25, SV.of v_27] : List SV) (4 : Int) = some (SV.of v_21) from rfl) (eVc (hS.twro hA_246 12 11 rfl rfl).sv)) rfl ?_
   refine wpR_v (OpV_len Tryd.underlying22 rfl (hS.twro hA_246 12 11 rfl rfl)) rfl ?_
   refine wpR_run 2 rfl ?_
   cases hb_392 : (decide (x_387 < (x_116.length : Int)))
   case true =>
    have h := if_t h hb_392
    try simp only [hb_392]
    refine wpR_run 2 rfl ?_
    refine wpR_gv (t := 234) rfl rfl (G_ix Tryd.underlying53 ti22 rfl rfl (hS.ro 2 rfl) (show getO ([SV.of v_12, SV.of v_14, SV.of v_16, SV.of v_18, SV.of v_21, SV.of v_23, SV.of v_25, SV.of v_27] : List SV) (4 : Int) = some (SV.of v_21) from rfl)) rfl ?_
    refine wpR_gv (t := 234) rfl rfl (G_load Tryd.underlying22 rfl rfl (hS.ro 2 rfl) (show getO ([SV.of v_12, SV.of v_14, SV.of v_16, SV.of v_18, SV.of v_21, SV.of v_23, SV.of v_25, SV.of v_27] : List SV) (4 : Int) = some (SV.of v_21) from rfl) (eVc (hS.twro hA_246 12 11 rfl rfl).sv)) rfl ?_
    refine wpR_run 1 rfl ?_
    obtain ⟨x_393, hx_393, h⟩ := obind_some h
    refine wpR_gv (t := 234) rfl rfl (G_ix Tryd.underlying22 ti5 rfl rfl (hS.twro hA_246 12 11 rfl rfl) hx_393) rfl ?_
    refine wpR_gv (t := 234) rfl rfl (G_load Tryd.underlying5 rfl rfl (hS.twro hA_246 12 11 rfl rfl) hx_393 rfl) rfl ?_
    refine wpR_run 1 rfl ?_
    refine wpR_gv (t := 234) rfl rfl (OpV_bin rfl rfl (b_iadd _ 60 4)) rfl ?_
    refine wpR_gv (t := 234) rfl rfl (OpV_conv rfl (cv_i_8 Tryd.underlying3 Tryd.underlying5 64)) rfl ?_
    refine wpR_gv (t := 234) rfl rfl (OpV_bin rfl rfl (b_neq8 _ x_393 (UInt8.ofInt 64))) rfl ?_
    refine wpR_run 1 rfl ?_
    cases hb_394 : (x_393 != (UInt8.ofInt 64))
    case true =>
     have h := if_t h hb_394
     try simp only [hb_394]
     refine wpR_run 35 rfl ?_
     refine wpR_nil (QE_then_n ?_)
     exact wpC_le _ (by exact ⟨rfl, rfl, rfl, rfl, rfl, rfl, rfl, rfl, rfl, rfl, trivial⟩) (hK_399 true _ _ ⟨rfl, hS⟩ h)
    case false =>
     have h := if_f h hb_394
     try simp only [hb_394]
     refine wpR_run 2 rfl ?_
     refine wpR_gv (t := 246) rfl rfl (G_ix Tryd.underlying53 ti22 rfl rfl (hS.ro 19 rfl) (show getO ([SV.of v_150, SV.of v_173, SV.of v_196, SV.of v_219, SV.of v_242, SV.of v_265, SV.of v_288, SV.of v_311] : List SV) (4 : Int) = some (SV.of v_242) from rfl)) rfl ?_
     refine wpR_gv (t := 246) rfl rfl (G_load Tryd.underlying22 rfl rfl (hS.ro 19 rfl) (show getO ([SV.of v_150, SV.of v_173, SV.of v_196, SV.of v_219, SV.of v_242, SV.of v_265, SV.of v_288, SV.of v_311] : List SV) (4 : Int) = some (SV.of v_242) from rfl) (eVc (hS.ro 12 rfl).sv)) rfl ?_
     refine wpR_run 1 rfl ?_
     obtain ⟨x_395, hx_395, h⟩ := obind_some h
     refine wpR_gv (t := 246) rfl rfl (G_ix Tryd.underlying22 ti5 rfl rfl (hS.ro 12 rfl) hx_395) rfl ?_
     refine wpR_gv (t := 246) rfl rfl (G_load Tryd.underlying5 rfl rfl (hS.ro 12 rfl) hx_395 rfl) rfl ?_
     refine wpR_run 1 rfl ?_
     refine wpR_gv (t := 246) rfl rfl (OpV_bin rfl rfl (b_iadd _ 60 4)) rfl ?_
     refine wpR_gv (t := 246) rfl rfl (OpV_conv rfl (cv_i_8 Tryd.underlying3 Tryd.underlying5 64)) rfl ?_
     refine wpR_gv (t := 246) rfl rfl (OpV_bin rfl rfl (b_neq8 _ x_395 (UInt8.ofInt 64))) rfl ?_
     refine wpR_run 3 rfl ?_
     cases hb_396 : (x_395 != (UInt8.ofInt 64))
     case true =>
      have h := if_t h hb_396
      try simp only [hb_396]
      refine wpR_run 21 rfl ?_
      refine wpR_nil (QE_then_n ?_)
      exact wpC_le _ (by exact ⟨rfl, rfl, rfl, rfl, rfl, rfl, rfl, rfl, rfl, rfl, trivial⟩) (hK_399 true _ _ ⟨rfl, hS⟩ h)
     case false =>
      have h := if_f h hb_396
      try simp only [hb_396]
      refine wpR_run 3 rfl ?_
      refine wpR_gv (t := 260) rfl rfl (G_ix Tryd.underlying53 ti22 rfl rfl (hS.ro 2 rfl) (show getO ([SV.of v_12, SV.of v_14, SV.of v_16, SV.of v_18, SV.of v_21, SV.of v_23, SV.of v_25, SV.of v_27] : List SV) (4 : Int) = some (SV.of v_21) from rfl)) rfl ?_
      refine wpR_gv (t := 260) rfl rfl (G_load Tryd.underlying22 rfl rfl (hS.ro 2 rfl) (show getO ([SV.of v_12, SV.of v_14, SV.of v_16, SV.of v_18, SV.of v_21, SV.of v_23, SV.of v_25, SV.of v_27] : List SV) (4 : Int) = some (SV.of v_21) from rfl) (eVc (hS.twro hA_246 12 11 rfl rfl).sv)) rfl ?_
      refine wpR_gv (t := 260) rfl rfl (OpV_len Tryd.underlying22 rfl (hS.twro hA_246 12 11 rfl rfl)) rfl ?_
      refine wpR_gv (t := 260) rfl rfl (OpV_bin rfl rfl ((cpl_f hb_392).to (b_igeq _ x_387 (x_116.length : Int)))) rfl ?_
      refine wpR_run 14 rfl ?_
      refine wpR_nil (QE_then_n ?_)
      exact wpC_le _ (by exact ⟨rfl, rfl, rfl, rfl, rfl, rfl, rfl, rfl, rfl, rfl, trivial⟩) (hK_399 false _ _ ⟨rfl, hS⟩ h)
   case false =>
    have h := if_f h hb_392
    try simp only [hb_392]
    refine wpR_run 29 rfl ?_
    refine wpR_gv (t := 260) rfl rfl (G_ix Tryd.underlying53 ti22 rfl rfl (hS.ro 2 rfl) (show getO ([SV.of v_12, SV.of v_14, SV.of v_16, SV.of v_18, SV.of v_21, SV.of v_23, SV.of v_25, SV.of v_27] : List SV) (4 : Int) = some (SV.of v_21) from rfl)) rfl ?_
    refine wpR_gv (t := 260) rfl rfl (G_load Tryd.underlying22 rfl rfl (hS.ro 2 rfl) (show getO ([SV.of v_12, SV.of v_14, SV.of v_16, SV.of v_18, SV.of v_21, SV.of v_23, SV.of v_25, SV.of v_27] : List SV) (4 : Int) = some (SV.of v_21) from rfl) (eVc (hS.twro hA_246 12 11 rfl rfl).sv)) rfl ?_
    refine wpR_gv (t := 260) rfl rfl (OpV_len Tryd.underlying22 rfl (hS.twro hA_246 12 11 rfl rfl)) rfl ?_
    refine wpR_gv (t := 260) rfl rfl (OpV_bin rfl rfl ((cpl_t hb_392).to (b_igeq _ x_387 (x_116.length : Int)))) rfl ?_
    refine wpR_run 3 rfl ?_
    refine wpR_gv (t := 268) rfl rfl (G_ix Tryd.underlying53 ti22 rfl rfl (hS.ro 19 rfl) (show getO ([SV.of v_150, SV.of v_173, SV.of v_196, SV.of v_219, SV.of v_242, SV.of v_265, SV.of v_288, SV.of v_311] : List SV) (4 : Int) = some (SV.of v_242) from rfl)) rfl ?_
    refine wpR_gv (t := 268) rfl rfl (G_load Tryd.underlying22 rfl rfl (hS.ro 19 rfl) (show getO ([SV.of v_150, SV.of v_173, SV.of v_196, SV.of v_219, SV.of v_242, SV.of v_265, SV.of v_288, SV.of v_311] : List SV) (4 : Int) = some (SV.of v_242) from rfl) (eVc (hS.ro 12 rfl).sv)) rfl ?_
    refine wpR_run 1 rfl ?_
    obtain ⟨x_397, hx_397, h⟩ := obind_some h
    refine wpR_gv (t := 268) rfl rfl (G_ix Tryd.underlying22 ti5 rfl rfl (hS.ro 12 rfl) hx_397) rfl ?_
    refine wpR_gv (t := 268) rfl rfl (G_load Tryd.underlying5 rfl rfl (hS.ro 12 rfl) hx_397 rfl) rfl ?_
    refine wpR_run 1 rfl ?_
    refine wpR_gv (t := 268) rfl rfl (OpV_bin rfl rfl (b_iadd _ 80 4)) rfl ?_
    refine wpR_gv (t := 268) rfl rfl (OpV_conv rfl (cv_i_8 Tryd.underlying3 Tryd.underlying5 84)) rfl ?_
    refine wpR_gv (t := 268) rfl rfl (OpV_bin rfl rfl (b_neq8 _ x_397 (UInt8.ofInt 84))) rfl ?_
    refine wpR_run 2 rfl ?_
    refine wpR_nil (QE_then_n ?_)
    exact wpC_le _ (by exact ⟨rfl, rfl, rfl, rfl, rfl, rfl, rfl, rfl, rfl, rfl, trivial⟩) (hK_399 (x_397 != (UInt8.ofInt 84)) _ _ ⟨rfl, hS⟩ h)
  rintro x_398 L w hJ h
  try dsimp only at hJ
  obtain ⟨rfl, hS⟩ := hJ
  unfold F.law31_CoseSpares_K6 at h
  refine wpC_cond rfl (fun hb_400 => ?_) (fun hb_400 => ?_)
  ·have h := if_t h hb_400
   refine wpC_seq (wpC_region (wpR_run 1 rfl ?_))
   refine wpR_nil (QE_then_n (wpC_ret (QE_blk_r ?_)))
   refine QE_then_r (QE_then_r ?_)
   have h := oinr_some h hk_388
   refine QE_blk_r ?_
   refine QE_blk_r ?_
   refine QE_then_r (QE_then_r (QE_blk_r ?_))
   refine QE_then_r ?_
   cases h
   exact QE_ret1 rfl rfl ⟨rfl, hS.pick [] (by decide) rfl⟩
  have h := if_f h hb_400
  refine wpC_skip (QE_blk_n ?_)
  refine QE_then_n (wpC_region (wpR_run 3 rfl ?_))
  refine wpR_nil ?_
  exact QE_rnd (wpN_le _ (by exact ⟨rfl, rfl, rfl, rfl, rfl, rfl, rfl, rfl, rfl, trivial⟩) (ih_389 (wI (x_387 + 1)) _ _ ⟨rfl, hS⟩ (oinl_some h hk_388)))
 have h := if_f h hb_391
 refine wpC_exit ?_
 refine QE_then_x (QE_then_x ?_)
 have h := oinr_some h hk_388
 refine QE_blk_x ?_
 refine QE_blk_n ?_
 refine QE_then_n (wpC_region (wpR_run 1 rfl ?_))
 refine wpR_v (OpV_bin rfl rfl (b_iadd _ 4 1)) rfl ?_
 refine wpR_run 1 rfl ?_
 refine wpR_nil (QE_rnd ?_)
 refine wpN_succ ?_
 refine wpC_seq (wpC_seq (wpC_region (wpR_run 2 rfl ?_)))
 refine wpR_v (show OpV _ _ _ _ _ (vI 8) _ from OpV_len Tryd.underlying53 rfl (hS.ro 2 rfl)) rfl ?_
 refine wpR_v (OpV_bin rfl rfl (b_ilss _ 5 8)) rfl ?_
 refine wpR_nil (QE_then_n (wpC_condT rfl ?_))
 refine wpC_skip (QE_then_n (wpC_seq (wpC_block ?_)))
 refine wpC_seq (wpC_region (wpR_run 1 rfl ?_))
 refine wpR_nil (QE_then_n (wpC_block ?_))
 refine wpC_le [(0, va0), (1, va1), (2, va2), (7, slV v_4 e8.sz 0 x_3.2), (8, slV v_8 e8.sz 0 x_7.2), (21, v_41), (28, v_329), (32, vI 5), (33, vI 0)] ⟨rfl, rfl, rfl, rfl, rfl, rfl, rfl, rfl, rfl, trivial⟩ ?_
 refine loop_ind (F.law31_CoseSpares_L22 x_124 x_264 x_132 x_287 a2 x_140 x_310 a0 a1 x_3 x_7) (fun (s : Int) L w => L = [(0, va0), (1, va1), (2, va2), (7, slV v_4 e8.sz 0 x_3.2), (8, slV v_8 e8.sz 0 x_7.2), (21, v_41), (28, v_329), (32, vI 5), (33, vI s)] ∧ St [] w0 w [own e8 v_4 x_3.1, own e8 v_8 x_7.1, own eV v_41 ([SV.of v_12, SV.of v_14, SV.of v_16, SV.of v_18, SV.of v_21, SV.of v_23, SV.of v_25, SV.of v_27] : List SV), twE e8 v_12 x_76 b_153, own e8 v_150 x_149, twE e8 v_14 x_84 b_176, own e8 v_173 x_172, twE e8 v_16 x_92 b_199, own e8 v_196 x_195, twE e8 v_18 x_100 b_222, own e8 v_219 x_218, twE e8 v_21 x_116 b_245, own e8 v_242 x_241, twE e8 v_23 x_124 b_268, own e8 v_265 x_264, twE e8 v_25 x_132 b_291, own e8 v_288 x_287, twE e8 v_27 x_140 b_314, own e8 v_311 x_310, own eV v_329 ([SV.of v_150, SV.of v_173, SV.of v_196, SV.of v_219, SV.of v_242, SV.of v_265, SV.of v_288, SV.of v_311] : List SV)]) ?_ 0 ⟨rfl, hS⟩ h
 rintro k_515 x_401 L w q_404 hI ih_403 h hk_402
 try dsimp only at hI
 obtain ⟨rfl, hS⟩ := hI
 unfold F.law31_CoseSpares_L22 at h
 refine wpC_seq (wpC_seq (wpC_region (wpR_run 3 rfl ?_)))
 refine wpR_v (G_ix Tryd.underlying53 ti22 rfl rfl (hS.ro 19 rfl) (show getO ([SV.of v_150, SV.of v_173, SV.of v_196, SV.of v_219, SV.of v_242, SV.of v_265, SV.of v_288, SV.of v_311] : List SV) (5 : Int) = some (SV.of v_265) from rfl)) rfl ?_
 refine wpR_v (G_load Tryd.underlying22 rfl rfl (hS.ro 19 rfl) (show getO ([SV.of v_150, SV.of v_173, SV.of v_196, SV.of v_219, SV.of v_242, SV.of v_265, SV.of v_288, SV.of v_311] : List SV) (5 : Int) = some (SV.of v_265) from rfl) (eVc (hS.ro 14 rfl).sv)) rfl ?_
 refine wpR_v (OpV_len Tryd.underlying22 rfl (hS.ro 14 rfl)) rfl ?_
 refine wpR_run 1 rfl ?_
 refine wpR_nil (QE_then_n ?_)
 refine wpC_cond rfl (fun hb_405 => ?_) (fun hb_405 => ?_)
 ·have h := if_t h hb_405
  refine wpC_skip (QE_then_n (wpC_seq (wpC_block ?_)))
  refine seq_join (r := q_404) (fun (g : Bool) L w => L = [(0, va0), (1, va1), (2, va2), (7, slV v_4 e8.sz 0 x_3.2), (8, slV v_8 e8.sz 0 x_7.2), (21, v_41), (28, v_329), (32, vI 5), (33, vI x_401), (281, vB g)] ∧ St [] w0 w [own e8 v_4 x_3.1, own e8 v_8 x_7.1, own eV v_41 ([SV.of v_12, SV.of v_14, SV.of v_16, SV.of v_18, SV.of v_21, SV.of v_23, SV.of v_25, SV.of v_27] : List SV), twE e8 v_12 x_76 b_153, own e8 v_150 x_149, twE e8 v_14 x_84 b_176, own e8 v_173 x_172, twE e8 v_16 x_92 b_199, own e8 v_196 x_195, twE e8 v_18 x_100 b_222, own e8 v_219 x_218, twE e8 v_21 x_116 b_245, own e8 v_242 x_241, twE e8 v_23 x_124 b_268, own e8 v_265 x_264, twE e8 v_25 x_132 b_291, own e8 v_288 x_287, twE e8 v_27 x_140 b_314, own e8 v_311 x_310, own eV v_329 ([SV.of v_150, SV.of v_173, SV.of v_196, SV.of v_219, SV.of v_242, SV.of v_265, SV.of v_288, SV.of v_311] : List SV)]) (F.law31_CoseSpares_K7 x_401) ?_ ?_
  rotate_left
  ·intro hK_413
   refine wpC_region (wpR_run 3 rfl ?_)
   refine wpR_v (G_ix Tryd.underlying53 ti22 rfl rfl (hS.ro 2 rfl) (show getO ([SV.of v_12, SV.of v_14, SV.of v_16, SV.of v_18, SV.of v_21, SV.of v_23, SV.of v_25, SV.of v_27] : List SV) (5 : Int) = some (SV.of v_23) from rfl)) rfl ?_
   refine wpR_v (G_load Tryd.underlying22 rfl rfl (hS.ro 2 rfl) (show getO ([SV.of v_12, SV.of v_14, SV.of v_16, SV.of v_18, SV.of v_21, SV.of v_23, SV.of v_25, SV.of v_27] : List SV) (5 : Int) = some (SV.of v_23) from rfl) (eVc (hS.twro hA_269 14 13 rfl rfl).sv)) rfl ?_
   refine wpR_v (OpV_len Tryd.underlying22 rfl (hS.twro hA_269 14 13 rfl rfl)) rfl ?_
   refine wpR_run 2 rfl ?_
   cases hb_406 : (decide (x_401 < (x_124.length : Int)))
   case true =>
    have h := if_t h hb_406
    try simp only [hb_406]
    refine wpR_run 2 rfl ?_
    refine wpR_gv (t := 234) rfl rfl (G_ix Tryd.underlying53 ti22 rfl rfl (hS.ro 2 rfl) (show getO ([SV.of v_12, SV.of v_14, SV.of v_16, SV.of v_18, SV.of v_21, SV.of v_23, SV.of v_25, SV.of v_27] : List SV) (5 : Int) = some (SV.of v_23) from rfl)) rfl ?_
    refine wpR_gv (t := 234) rfl rfl (G_load Tryd.underlying22 rfl rfl (hS.ro 2 rfl) (show getO ([SV.of v_12, SV.of v_14, SV.of v_16, SV.of v_18, SV.of v_21, SV.of v_23, SV.of v_25, SV.of v_27] : List SV) (5 : Int) = some (SV.of v_23) from rfl) (eVc (hS.twro hA_269 14 13 rfl rfl).sv)) rfl ?_
    refine wpR_run 1 rfl ?_
    obtain ⟨x_407, hx_407, h⟩ := obind_some h
    refine wpR_gv (t := 234) rfl rfl (G_ix Tryd.underlying22 ti5 rfl rfl (hS.twro hA_269 14 13 rfl rfl) hx_407) rfl ?_
    refine wpR_gv (t := 234) rfl rfl (G_load Tryd.underlying5 rfl rfl (hS.twro hA_269 14 13 rfl rfl) hx_407 rfl) rfl ?_
    refine wpR_run 1 rfl ?_
    refine wpR_gv (t := 234) rfl rfl (OpV_bin rfl rfl (b_iadd _ 60 5)) rfl ?_
    refine wpR_gv (t := 234) rfl rfl (OpV_conv rfl (cv_i_8 Tryd.underlying3 Tryd.underlying5 65)) rfl ?_
    refine wpR_gv (t := 234) rfl rfl (OpV_bin rfl rfl (b_neq8 _ x_407 (UInt8.ofInt 65))) rfl ?_
    refine wpR_run 1 rfl ?_
    cases hb_408 : (x_407 != (UInt8.ofInt 65))
    case true =>
     have h := if_t h hb_408
     try simp only [hb_408]
     refine wpR_run 35 rfl ?_
     refine wpR_nil (QE_then_n ?_)
     exact wpC_le _ (by exact ⟨rfl, rfl, rfl, rfl, rfl, rfl, rfl, rfl, rfl, rfl, trivial⟩) (hK_413 true _ _ ⟨rfl, hS⟩ h)
    case false =>
     have h := if_f h hb_408
     try simp only [hb_408]
     refine wpR_run 2 rfl ?_
     refine wpR_gv (t := 246) rfl rfl (G_ix Tryd.underlying53 ti22 rfl rfl (hS.ro 19 rfl) (show getO ([SV.of v_150, SV.of v_173, SV.of v_196, SV.of v_219, SV.of v_242, SV.of v_265, SV.of v_288, SV.of v_311] : List SV) (5 : Int) = some (SV.of v_265) from rfl)) rfl ?_
     refine wpR_gv (t := 246) rfl rfl (G_load Tryd.underlying22 rfl rfl (hS.ro 19 rfl) (show getO ([SV.of v_150, SV.of v_173, SV.of v_196, SV.of v_219, SV.of v_242, SV.of v_265, SV.of v_288, SV.of v_311] : List SV) (5 : Int) = some (SV.of v_265) from rfl) (eVc (hS.ro 14 rfl).sv)) rfl ?_
     refine wpR_run 1 rfl ?_
     obtain ⟨x_409, hx_409, h⟩ := obind_some h
     refine wpR_gv (t := 246) rfl rfl (G_ix Tryd.underlying22 ti5 rfl rfl (hS.ro 14 rfl) hx_409) rfl ?_
     refine wpR_gv (t := 246) rfl rfl (G_load Tryd.underlying5 rfl rfl (hS.ro 14 rfl) hx_409 rfl) rfl ?_
     refine wpR_run 1 rfl ?_
     refine wpR_gv (t := 246) rfl rfl (OpV_bin rfl rfl (b_iadd _ 60 5)) rfl ?_
     refine wpR_gv (t := 246) rfl rfl (OpV_conv rfl (cv_i_8 Tryd.underlying3 Tryd.underlying5 65)) rfl ?_
     refine wpR_gv (t := 246) rfl rfl (OpV_bin rfl rfl (b_neq8 _ x_409 (UInt8.ofInt 65))) rfl ?_
     refine wpR_run 3 rfl ?_
     cases hb_410 : (x_409 != (UInt8.ofInt 65))
     case true =>
      have h := if_t h hb_410
      try simp only [hb_410]
      refine wpR_run 21 rfl ?_
      refine wpR_nil (QE_then_n ?_)
      exact wpC_le _ (by exact ⟨rfl, rfl, rfl, rfl, rfl, rfl, rfl, rfl, rfl, rfl, trivial⟩) (hK_413 true _ _ ⟨rfl, hS⟩ h)
     case false =>
      have h := if_f h hb_410
      try simp only [hb_410]
      refine wpR_run 3 rfl ?_
      refine wpR_gv (t := 260) rfl rfl (G_ix Tryd.underlying53 ti22 rfl rfl (hS.ro 2 rfl) (show getO ([SV.of v_12, SV.of v_14, SV.of v_16, SV.of v_18, SV.of v_21, SV.of v_23, SV.of v_25, SV.of v_27] : List SV) (5 : Int) = some (SV.of v_23) from rfl)) rfl ?_
      refine wpR_gv (t := 260) rfl rfl (G_load Tryd.underlying22 rfl rfl (hS.ro 2 rfl) (show getO ([SV.of v_12, SV.of v_14, SV.of v_16, SV.of v_18, SV.of v_21, SV.of v_23, SV.of v_25, SV.of v_27] : List SV) (5 : Int) = some (SV.of v_23) from rfl) (eVc (hS.twro hA_269 14 13 rfl rfl).sv)) rfl ?_
      refine wpR_gv (t := 260) rfl rfl (OpV_len Tryd.underlying22 rfl (hS.twro hA_269 14 13 rfl rfl)) rfl ?_
      refine wpR_gv (t := 260) rfl rfl (OpV_bin rfl rfl ((cpl_f hb_406).to (b_igeq _ x_401 (x_124.length : Int)))) rfl ?_
      refine wpR_run 14 rfl ?_
      refine wpR_nil (QE_then_n ?_)
      exact wpC_le _ (by exact ⟨rfl, rfl, rfl, rfl, rfl, rfl, rfl, rfl, rfl, rfl, trivial⟩) (hK_413 false _ _ ⟨rfl, hS⟩ h)
   case false =>
    have h := if_f h hb_406
    try simp only [hb_406]
    refine wpR_run 29 rfl ?_
    refine wpR_gv (t := 260) rfl rfl (G_ix Tryd.underlying53 ti22 rfl rfl (hS.ro 2 rfl) (show getO ([SV.of v_12, SV.of v_14, SV.of v_16, SV.of v_18, SV.of v_21, SV.of v_23, SV.of v_25, SV.of v_27] : List SV) (5 : Int) = some (SV.of v_23) from rfl)) rfl ?_
    refine wpR_gv (t := 260) rfl rfl (G_load Tryd.underlying22 rfl rfl (hS.ro 2 rfl) (show getO ([SV.of v_12, SV.of v_14, SV.of v_16, SV.of v_18, SV.of v_21, SV.of v_23, SV.of v_25, SV.of v_27] : List SV) (5 : Int) = some (SV.of v_23) from rfl) (eVc (hS.twro hA_269 14 13 rfl rfl).sv)) rfl ?_
    refine wpR_gv (t := 260) rfl rfl (OpV_len Tryd.underlying22 rfl (hS.twro hA_269 14 13 rfl rfl)) rfl ?_
    refine wpR_gv (t := 260) rfl rfl (OpV_bin rfl rfl ((cpl_t hb_406).to (b_igeq _ x_401 (x_124.length : Int)))) rfl ?_
    refine wpR_run 3 rfl ?_
    refine wpR_gv (t := 268) rfl rfl (G_ix Tryd.underlying53 ti22 rfl rfl (hS.ro 19 rfl) (show getO ([SV.of v_150, SV.of v_173, SV.of v_196, SV.of v_219, SV.of v_242, SV.of v_265, SV.of v_288, SV.of v_311] : List SV) (5 : Int) = some (SV.of v_265) from rfl)) rfl ?_
    refine wpR_gv (t := 268) rfl rfl (G_load Tryd.underlying22 rfl rfl (hS.ro 19 rfl) (show getO ([SV.of v_150, SV.of v_173, SV.of v_196, SV.of v_219, SV.of v_242, SV.of v_265, SV.of v_288, SV.of v_311] : List SV) (5 : Int) = some (SV.of v_265) from rfl) (eVc (hS.ro 14 rfl).sv)) rfl ?_
    refine wpR_run 1 rfl ?_
    obtain ⟨x_411, hx_411, h⟩ := obind_some h
    refine wpR_gv (t := 268) rfl rfl (G_ix Tryd.underlying22 ti5 rfl rfl (hS.ro 14 rfl) hx_411) rfl ?_
    refine wpR_gv (t := 268) rfl rfl (G_load Tryd.underlying5 rfl rfl (hS.ro 14 rfl) hx_411 rfl) rfl ?_
    refine wpR_run 1 rfl ?_
    refine wpR_gv (t := 268) rfl rfl (OpV_bin rfl rfl (b_iadd _ 80 5)) rfl ?_
    refine wpR_gv (t := 268) rfl rfl (OpV_conv rfl (cv_i_8 Tryd.underlying3 Tryd.underlying5 85)) rfl ?_
    refine wpR_gv (t := 268) rfl rfl (OpV_bin rfl rfl (b_neq8 _ x_411 (UInt8.ofInt 85))) rfl ?_
    refine wpR_run 2 rfl ?_
    refine wpR_nil (QE_then_n ?_)
    exact wpC_le _ (by exact ⟨rfl, rfl, rfl, rfl, rfl, rfl, rfl, rfl, rfl, rfl, trivial⟩) (hK_413 (x_411 != (UInt8.ofInt 85)) _ _ ⟨rfl, hS⟩ h)
  rintro x_412 L w hJ h
  try dsimp only at hJ
  obtain ⟨rfl, hS⟩ := hJ
  unfold F.law31_CoseSpares_K7 at h
  refine wpC_cond rfl (fun hb_414 => ?_) (fun hb_414 => ?_)
  ·have h := if_t h hb_414
   refine wpC_seq (wpC_region (wpR_run 1 rfl ?_))
   refine wpR_nil (QE_then_n (wpC_ret (QE_blk_r ?_)))
   refine QE_then_r (QE_then_r ?_)
   have h := oinr_some h hk_402
   refine QE_blk_r ?_
   refine QE_blk_r ?_
   refine QE_then_r (QE_then_r (QE_blk_r ?_))
   refine QE_then_r ?_
   cases h
   exact QE_ret1 rfl rfl ⟨rfl, hS.pick [] (by decide) rfl⟩
  have h := if_f h hb_414
  refine wpC_skip (QE_blk_n ?_)
  refine QE_then_n (wpC_region (wpR_run 3 rfl ?_))
  refine wpR_nil ?_
  exact QE_rnd (wpN_le _ (by exact ⟨rfl, rfl, rfl, rfl, rfl, rfl, rfl, rfl, rfl, trivial⟩) (ih_403 (wI (x_401 + 1)) _ _ ⟨rfl, hS⟩ (oinl_some h hk_402)))
 have h := if_f h hb_405
 refine wpC_exit ?_
 refine QE_then_x (QE_then_x ?_)
 have h := oinr_some h hk_402
 refine QE_blk_x ?_
 refine QE_blk_n ?_
 refine QE_then_n (wpC_region (wpR_run 1 rfl ?_))
 refine wpR_v (OpV_bin rfl rfl (b_iadd _ 5 1)) rfl ?_
 refine wpR_run 1 rfl ?_
 refine wpR_nil (QE_rnd ?_)
 refine wpN_succ ?_
 refine wpC_seq (wpC_seq (wpC_region (wpR_run 2 rfl ?_)))
 refine wpR_v (show OpV _ _ _ _ _ (vI 8) _ from OpV_len Tryd.underlying53 rfl (hS.ro 2 rfl)) rfl ?_
 refine wpR_v (OpV_bin rfl rfl (b_ilss _ 6 8)) rfl ?_
 refine wpR_nil (QE_then_n (wpC_condT rfl ?_))
 refine wpC_skip (QE_then_n (wpC_seq (wpC_block ?_)))
 refine wpC_seq (wpC_region (wpR_run 1 rfl ?_))
 refine wpR_nil (QE_then_n (wpC_block ?_))
 refine wpC_le [(0, va0), (1, va1), (2, va2), (7, slV v_4 e8.sz 0 x_3.2), (8, slV v_8 e8.sz 0 x_7.2), (21, v_41), (28, v_329), (32, vI 6), (33, vI 0)] ⟨rfl, rfl, rfl, rfl, rfl, rfl, rfl, rfl, rfl, trivial⟩ ?_
 refine loop_ind (F.law31_CoseSpares_L23 x_132 x_287 a2 x_140 x_310 a0 a1 x_3 x_7) (fun (s : Int) L w => L = [(0, va0), (1, va1), (2, va2), (7, slV v_4 e8.sz 0 x_3.2), (8, slV v_8 e8.sz 0 x_7.2), (21, v_41), (28, v_329), (32, vI 6), (33, vI s)] ∧ St [] w0 w [own e8 v_4 x_3.1, own e8 v_8 x_7.1, own eV v_41 ([SV.of v_12, SV.of v_14, SV.of v_16, SV.of v_18, SV.of v_21, SV.of v_23, SV.of v_25, SV.of v_27] : List SV), twE e8 v_12 x_76 b_153, own e8 v_150 x_149, twE e8 v_14 x_84 b_176, own e8 v_173 x_172, twE e8 v_16 x_92 b_199, own e8 v_196 x_195, twE e8 v_18 x_100 b_222, own e8 v_219 x_218, twE e8 v_21 x_116 b_245, own e8 v_242 x_241, twE e8 v_23 x_124 b_268, own e8 v_265 x_264, twE e8 v_25 x_132 b_291, own e8 v_288 x_287, twE e8 v_27 x_140 b_314, own e8 v_311 x_310, own eV v_329 ([SV.of v_150, SV.of v_173, SV.of v_196, SV.of v_219, SV.of v_242, SV.of v_265, SV.of v_288, SV.of v_311] : List SV)]) ?_ 0 ⟨rfl, hS⟩ h
 rintro k_514 x_415 L w q_418 hI ih_417 h hk_416
 try dsimp only at hI
 obtain ⟨rfl, hS⟩ := hI
 unfold F.law31_CoseSpares_L23 at h
 refine wpC_seq (wpC_seq (wpC_region (wpR_run 3 rfl ?_)))
 refine wpR_v (G_ix Tryd.underlying53 ti22 rfl rfl (hS.ro 19 rfl) (show getO ([SV.of v_150, SV.of v_173, SV.of v_196, SV.of v_219, SV.of v_242, SV.of v_265, SV.of v_288, SV.of v_311] : List SV) (6 : Int) = some (SV.of v_288) from rfl)) rfl ?_
 refine wpR_v (G_load Tryd.underlying22 rfl rfl (hS.ro 19 rfl) (show getO ([SV.of v_150, SV.of v_173, SV.of v_196, SV.of v_219, SV.of v_242, SV.of v_265, SV.of v_288, SV.of v_311] : List SV) (6 : Int) = some (SV.of v_288) from rfl) (eVc (hS.ro 16 rfl).sv)) rfl ?_
 refine wpR_v (OpV_len Tryd.underlying22 rfl (hS.ro 16 rfl)) rfl ?_
 refine wpR_run 1 rfl ?_
 refine wpR_nil (QE_then_n ?_)
 refine wpC_cond rfl (fun hb_419 => ?_) (fun hb_419 => ?_)
 ·have h := if_t h hb_419
  refine wpC_skip (QE_then_n (wpC_seq (wpC_block ?_)))
  refine seq_join (r := q_418) (fun (g : Bool) L w => L = [(0, va0), (1, va1), (2, va2), (7, slV v_4 e8.sz 0 x_3.2), (8, slV v_8 e8.sz 0 x_7.2), (21, v_41), (28, v_329), (32, vI 6), (33, vI x_415), (281, vB g)] ∧ St [] w0 w [own e8 v_4 x_3.1, own e8 v_8 x_7.1, own eV v_41 ([SV.of v_12, SV.of v_14, SV.of v_16, SV.of v_18, SV.of v_21, SV.of v_23, SV.of v_25, SV.of v_27] : List SV), twE e8 v_12 x_76 b_153, own e8 v_150 x_149, twE e8 v_14 x_84 b_176, own e8 v_173 x_172, twE e8 v_16 x_92 b_199, own e8 v_196 x_195, twE e8 v_18 x_100 b_222, own e8 v_219 x_218, twE e8 v_21 x_116 b_245, own e8 v_242 x_241, twE e8 v_23 x_124 b_268, own e8 v_265 x_264, twE e8 v_25 x_132 b_291, own e8 v_288 x_287, twE e8 v_27 x_140 b_314, own e8 v_311 x_310, own eV v_329 ([SV.of v_150, SV.of v_173, SV.of v_196, SV.of v_219, SV.of v_242, SV.of v_265, SV.of v_288, SV.of v_311] : List SV)]) (F.law31_CoseSpares_K8 x_415) ?_ ?_
  rotate_left
  ·intro hK_427
   refine wpC_region (wpR_run 3 rfl ?_)
   refine wpR_v (G_ix Tryd.underlying53 ti22 rfl rfl (hS.ro 2 rfl) (show getO ([SV.of v_12, SV.of v_14, SV.of v_16, SV.of v_18, SV.of v_21, SV.of v_23, SV.of v_25, SV.of v_27] : List SV) (6 : Int) = some (SV.of v_25) from rfl)) rfl ?_
   refine wpR_v (G_load Tryd.underlying22 rfl rfl (hS.ro 2 rfl) (show getO ([SV.of v_12, SV.of v_14, SV.of v_16, SV.of v_18, SV.of v_21, SV.of v_23, SV.of v_25, SV.of v_27] : List SV) (6 : Int) = some (SV.of v_25) from rfl) (eVc (hS.twro hA_292 16 15 rfl rfl).sv)) rfl ?_
   refine wpR_v (OpV_len Tryd.underlying22 rfl (hS.twro hA_292 16 15 rfl rfl)) rfl ?_
   refine wpR_run 2 rfl ?_
   cases hb_420 : (decide (x_415 < (x_132.length : Int)))
   case true =>
    have h := if_t h hb_420
    try simp only [hb_420]
    refine wpR_run 2 rfl ?_
    refine wpR_gv (t := 234) rfl rfl (G_ix Tryd.underlying53 ti22 rfl rfl (hS.ro 2 rfl) (show getO ([SV.of v_12, SV.of v_14, SV.of v_16, SV.of v_18, SV.of v_21, SV.of v_23, SV.of v_25, SV.of v_27] : List SV) (6 : Int) = some (SV.of v_25) from rfl)) rfl ?_
    refine wpR_gv (t := 234) rfl rfl (G_load Tryd.underlying22 rfl rfl (hS.ro 2 rfl) (show getO ([SV.of v_12, SV.of v_14, SV.of v_16, SV.of v_18, SV.of v_21, SV.of v_23, SV.of v_25, SV.of v_27] : List SV) (6 : Int) = some (SV.of v_25) from rfl) (eVc (hS.twro hA_292 16 15 rfl rfl).sv)) rfl ?_
    refine wpR_run 1 rfl ?_
    obtain ⟨x_421, hx_421, h⟩ := obind_some h
    refine wpR_gv (t := 234) rfl rfl (G_ix Tryd.underlying22 ti5 rfl rfl (hS.twro hA_292 16 15 rfl rfl) hx_421) rfl ?_
    refine wpR_gv (t := 234) rfl rfl (G_load Tryd.underlying5 rfl rfl (hS.twro hA_292 16 15 rfl rfl) hx_421 rfl) rfl ?_
    refine wpR_run 1 rfl ?_
    refine wpR_gv (t := 234) rfl rfl (OpV_bin rfl rfl (b_iadd _ 60 6)) rfl ?_
    refine wpR_gv (t := 234) rfl rfl (OpV_conv rfl (cv_i_8 Tryd.underlying3 Tryd.underlying5 66)) rfl ?_
    refine wpR_gv (t := 234) rfl rfl (OpV_bin rfl rfl (b_neq8 _ x_421 (UInt8.ofInt 66))) rfl ?_
    refine wpR_run 1 rfl ?_
    cases hb_422 : (x_421 != (UInt8.ofInt 66))
    case true =>
     have h := if_t h hb_422
     try simp only [hb_422]
     refine wpR_run 35 rfl ?_
     refine wpR_nil (QE_then_n ?_)
     exact wpC_le _ (by exact ⟨rfl, rfl, rfl, rfl, rfl, rfl, rfl, rfl, rfl, rfl, trivial⟩) (hK_427 true _ _ ⟨rfl, hS⟩ h)
    case false =>
     have h := if_f h hb_422
     try simp only [hb_422]
     refine wpR_run 2 rfl ?_
     refine wpR_gv (t := 246) rfl rfl (G_ix Tryd.underlying53 ti22 rfl rfl (hS.ro 19 rfl) (show getO ([SV.of v_150, SV.of v_173, SV.of v_196, SV.of v_219, SV.of v_242, SV.of v_265, SV.of v_288, SV.of v_311] : List SV) (6 : Int) = some (SV.of v_288) from rfl)) rfl ?_
     refine wpR_gv (t := 246) rfl rfl (G_load Tryd.underlying22 rfl rfl (hS.ro 19 rfl) (show getO ([SV.of v_150, SV.of v_173, SV.of v_196, SV.of v_219, SV.of v_242, SV.of v_265, SV.of v_288, SV.of v_311] : List SV) (6 : Int) = some (SV.of v_288) from rfl) (eVc (hS.ro 16 rfl).sv)) rfl ?_
     refine wpR_run 1 rfl ?_
     obtain ⟨x_423, hx_423, h⟩ := obind_some h
     refine wpR_gv (t := 246) rfl rfl (G_ix Tryd.underlying22 ti5 rfl rfl (hS.ro 16 rfl) hx_423) rfl ?_
     refine wpR_gv (t := 246) rfl rfl (G_load Tryd.underlying5 rfl rfl (hS.ro 16 rfl) hx_423 rfl) rfl ?_
     refine wpR_run 1 rfl ?_
     refine wpR_gv (t := 246) rfl rfl (OpV_bin rfl rfl (b_iadd _ 60 6)) rfl ?_
     refine wpR_gv (t := 246) rfl rfl (OpV_conv rfl (cv_i_8 Tryd.underlying3 Tryd.underlying5 66)) rfl ?_
     refine wpR_gv (t := 246) rfl rfl (OpV_bin rfl rfl (b_neq8 _ x_423 (UInt8.ofInt 66))) rfl ?_
     refine wpR_run 3 rfl ?_
     cases hb_424 : (x_423 != (UInt8.ofInt 66))
     case true =>
      have h := if_t h hb_424
      try simp only [hb_424]
      refine wpR_run 21 rfl ?_
      refine wpR_nil (QE_then_n ?_)
      exact wpC_le _ (by exact ⟨rfl, rfl, rfl, rfl, rfl, rfl, rfl, rfl, rfl, rfl, trivial⟩) (hK_427 true _ _ ⟨rfl, hS⟩ h)
     case false =>
      have h := if_f h hb_424
      try simp only [hb_424]
      refine wpR_run 3 rfl ?_
      refine wpR_gv (t := 260) rfl rfl (G_ix Tryd.underlying53 ti22 rfl rfl (hS.ro 2 rfl) (show getO ([SV.of v_12, SV.of v_14, SV.of v_16, SV.of v_18, SV.of v_21, SV.of v_23, SV.of v_25, SV.of v_27] : List SV) (6 : Int) = some (SV.of v_25) from rfl)) rfl ?_
      refine wpR_gv (t := 260) rfl rfl (G_load Tryd.underlying22 rfl rfl (hS.ro 2 rfl) (show getO ([SV.of v_12, SV.of v_14, SV.of v_16, SV.of v_18, SV.of v_21, SV.of v_23, SV.of v_25, SV.of v_27] : List SV) (6 : Int) = some (SV.of v_25) from rfl) (eVc (hS.twro hA_292 16 15 rfl rfl).sv)) rfl ?_
      refine wpR_gv (t := 260) rfl rfl (OpV_len Tryd.underlying22 rfl (hS.twro hA_292 16 15 rfl rfl)) rfl ?_
      refine wpR_gv (t := 260) rfl rfl (OpV_bin rfl rfl ((cpl_f hb_420).to (b_igeq _ x_415 (x_132.length : Int)))) rfl ?_
      refine wpR_run 14 rfl ?_
      refine wpR_nil (QE_then_n ?_)
      exact wpC_le _ (by exact ⟨rfl, rfl, rfl, rfl, rfl, rfl, rfl, rfl, rfl, rfl, trivial⟩) (hK_427 false _ _ ⟨rfl, hS⟩ h)
   case false =>
    have h := if_f h hb_420
    try simp only [hb_420]
    refine wpR_run 29 rfl ?_
    refine wpR_gv (t := 260) rfl rfl (G_ix Tryd.underlying53 ti22 rfl rfl (hS.ro 2 rfl) (show getO ([SV.of v_12, SV.of v_14, SV.of v_16, SV.of v_18, SV.of v_21, SV.of v_23, SV.of v_25, SV.of v_27] : List SV) (6 : Int) = some (SV.of v_25) from rfl)) rfl ?_
    refine wpR_gv (t := 260) rfl rfl (G_load Tryd.underlying22 rfl rfl (hS.ro 2 rfl) (show getO ([SV.of v_12, SV.of v_14, SV.of v_16, SV.of v_18, SV.of v_21, SV.of v_23, SV.of v_25, SV.of v_27] : List SV) (6 : Int) = some (SV.of v_25) from rfl) (eVc (hS.twro hA_292 16 15 rfl rfl).sv)) rfl ?_
    refine wpR_gv (t := 260) rfl rfl (OpV_len Tryd.underlying22 rfl (hS.twro hA_292 16 15 rfl rfl)) rfl ?_
    refine wpR_gv (t := 260) rfl rfl (OpV_bin rfl rfl ((cpl_t hb_420).to (b_igeq _ x_415 (x_132.length : Int)))) rfl ?_
    refine wpR_run 3 rfl ?_
    refine wpR_gv (t := 268) rfl rfl (G_ix Tryd.underlying53 ti22 rfl rfl (hS.ro 19 rfl) (show getO ([SV.of v_150, SV.of v_173, SV.of v_196, SV.of v_219, SV.of v_242, SV.of v_265, SV.of v_288, SV.of v_311] : List SV) (6 : Int) = some (SV.of v_288) from rfl)) rfl ?_
    refine wpR_gv (t := 268) rfl rfl (G_load Tryd.underlying22 rfl rfl (hS.ro 19 rfl) (show getO ([SV.of v_150, SV.of v_173, SV.of v_196, SV.of v_219, SV.of v_242, SV.of v_265, SV.of v_288, SV.of v_311] : List SV) (6 : Int) = some (SV.of v_288) from rfl) (eVc (hS.ro 16 rfl).sv)) rfl ?_
    refine wpR_run 1 rfl ?_
    obtain ⟨x_425, hx_425, h⟩ := obind_some h
    refine wpR_gv (t := 268) rfl rfl (G_ix Tryd.underlying22 ti5 rfl rfl (hS.ro 16 rfl) hx_425) rfl ?_
    refine wpR_gv (t := 268) rfl rfl (G_load Tryd.underlying5 rfl rfl (hS.ro 16 rfl) hx_425 rfl) rfl ?_
    refine wpR_run 1 rfl ?_
    refine wpR_gv (t := 268) rfl rfl (OpV_bin rfl rfl (b_iadd _ 80 6)) rfl ?_
    refine wpR_gv (t := 268) rfl rfl (OpV_conv rfl (cv_i_8 Tryd.underlying3 Tryd.underlying5 86)) rfl ?_
    refine wpR_gv (t := 268) rfl rfl (OpV_bin rfl rfl (b_neq8 _ x_425 (UInt8.ofInt 86))) rfl ?_
    refine wpR_run 2 rfl ?_
    refine wpR_nil (QE_then_n ?_)
    exact wpC_le _ (by exact ⟨rfl, rfl, rfl, rfl, rfl, rfl, rfl, rfl, rfl, rfl, trivial⟩) (hK_427 (x_425 != (UInt8.ofInt 86)) _ _ ⟨rfl, hS⟩ h)
  rintro x_426 L w hJ h
  try dsimp only at hJ
  obtain ⟨rfl, hS⟩ := hJ
  unfold F.law31_CoseSpares_K8 at h
  refine wpC_cond rfl (fun hb_428 => ?_) (fun hb_428 => ?_)
  ·have h := if_t h hb_428
   refine wpC_seq (wpC_region (wpR_run 1 rfl ?_))
   refine wpR_nil (QE_then_n (wpC_ret (QE_blk_r ?_)))
   refine QE_then_r (QE_then_r ?_)
   have h := oinr_some h hk_416
   refine QE_blk_r ?_
   refine QE_blk_r ?_
   refine QE_then_r (QE_then_r (QE_blk_r ?_))
   refine QE_then_r ?_
   cases h
   exact QE_ret1 rfl rfl ⟨rfl, hS.pick [] (by decide) rfl⟩
  have h := if_f h hb_428
  refine wpC_skip (QE_blk_n ?_)
  refine QE_then_n (wpC_region (wpR_run 3 rfl ?_))
  refine wpR_nil ?_
  exact QE_rnd (wpN_le _ (by exact ⟨rfl, rfl, rfl, rfl, rfl, rfl, rfl, rfl, rfl, trivial⟩) (ih_417 (wI (x_415 + 1)) _ _ ⟨rfl, hS⟩ (oinl_some h hk_416)))
 have h := if_f h hb_419
 refine wpC_exit ?_
 refine QE_then_x (QE_then_x ?_)
 have h := oinr_some h hk_416
 refine QE_blk_x ?_
 refine QE_blk_n ?_
 refine QE_then_n (wpC_region (wpR_run 1 rfl ?_))
 refine wpR_v (OpV_bin rfl rfl (b_iadd _ 6 1)) rfl ?_
 refine wpR_run 1 rfl ?_
 refine wpR_nil (QE_rnd ?_)
 refine wpN_succ ?_
 refine wpC_seq (wpC_seq (wpC_region (wpR_run 2 rfl ?_)))
 refine wpR_v (show OpV _ _ _ _ _ (vI 8) _ from OpV_len Tryd.underlying53 rfl (hS.ro 2 rfl)) rfl ?_
 refine wpR_v (OpV_bin rfl rfl (b_ilss _ 7 8)) rfl ?_
 refine wpR_nil (QE_then_n (wpC_condT rfl ?_))
 refine wpC_skip (QE_then_n (wpC_seq (wpC_block ?_)))
 refine wpC_seq (wpC_region (wpR_run 1 rfl ?_))
 refine wpR_nil (QE_then_n (wpC_block ?_))
 refine wpC_le [(0, va0), (1, va1), (2, va2), (7, slV v_4 e8.sz 0 x_3.2), (8, slV v_8 e8.sz 0 x_7.2), (21, v_41), (28, v_329), (32, vI 7), (33, vI 0)] ⟨rfl, rfl, rfl, rfl, rfl, rfl, rfl, rfl, rfl, trivial⟩ ?_
 refine loop_ind (F.law31_CoseSpares_L24 a2 x_140 x_310 a0 a1 x_3 x_7) (fun (s : Int) L w => L = [(0, va0), (1, va1), (2, va2), (7, slV v_4 e8.sz 0 x_3.2), (8, slV v_8 e8.sz 0 x_7.2), (21, v_41), (28, v_329), (32, vI 7), (33, vI s)] ∧ St [] w0 w [own e8 v_4 x_3.1, own e8 v_8 x_7.1, own eV v_41 ([SV.of v_12, SV.of v_14, SV.of v_16, SV.of v_18, SV.of v_21, SV.of v_23, SV.of v_25, SV.of v_27] : List SV), twE e8 v_12 x_76 b_153, own e8 v_150 x_149, twE e8 v_14 x_84 b_176, own e8 v_173 x_172, twE e8 v_16 x_92 b_199, own e8 v_196 x_195, twE e8 v_18 x_100 b_222, own e8 v_219 x_218, twE e8 v_21 x_116 b_245, own e8 v_242 x_241, twE e8 v_23 x_124 b_268, own e8 v_265 x_264, twE e8 v_25 x_132 b_291, own e8 v_288 x_287, twE e8 v_27 x_140 b_314, own e8 v_311 x_310, own eV v_329 ([SV.of v_150, SV.of v_173, SV.of v_196, SV.of v_219, SV.of v_242, SV.of v_265, SV.of v_288, SV.of v_311] : List SV)]) ?_ 0 ⟨rfl, hS⟩ h
 rintro k_513 x_429 L w q_432 hI ih_431 h hk_430
 try dsimp only at hI
 obtain ⟨rfl, hS⟩ := hI
 unfold F.law31_CoseSpares_L24 at h
 refine wpC_seq (wpC_seq (wpC_region (wpR_run 3 rfl ?_)))
 refine wpR_v (G_ix Tryd.underlying53 ti22 rfl rfl (hS.ro 19 rfl) (show getO ([SV.of v_150, SV.of v_173, SV.of v_196, SV.of v_219, SV.of v_242, SV.of v_265, SV.of v_288, SV.of v_311] : List SV) (7 : Int) = some (SV.of v_311) from rfl)) rfl ?_
 refine wpR_v (G_load Tryd.underlying22 rfl rfl (hS.ro 19 rfl) (show getO ([SV.of v_150, SV.of v_173, SV.of v_196, SV.of v_219, SV.of v_242, SV.of v_265, SV.of v_288, SV.of v_311] : List SV) (7 : Int) = some (SV.of v_311) from rfl) (eVc (hS.ro 18 rfl).sv)) rfl ?_
 refine wpR_v (OpV_len Tryd.underlying22 rfl (hS.ro 18 rfl)) rfl ?_
 refine wpR_run 1 rfl ?_
 refine wpR_nil (QE_then_n ?_)
 refine wpC_cond rfl (fun hb_433 => ?_) (fun hb_433 => ?_)
 ·have h := if_t h hb_433
  refine wpC_skip (QE_then_n (wpC_seq (wpC_block ?_)))
  refine seq_join (r := q_432) (fun (g : Bool) L w => L = [(0, va0), (1, va1), (2, va2), (7, slV v_4 e8.sz 0 x_3.2), (8, slV v_8 e8.sz 0 x_7.2), (21, v_41), (28, v_329), (32, vI 7), (33, vI x_429), (281, vB g)] ∧ St [] w0 w [own e8 v_4 x_3.1, own e8 v_8 x_7.1, own eV v_41 ([SV.of v_12, SV.of v_14, SV.of v_16, SV.of v_18, SV.of v_21, SV.of v_23, SV.of v_25, SV.of v_27] : List SV), twE e8 v_12 x_76 b_153, own e8 v_150 x_149, twE e8 v_14 x_84 b_176, own e8 v_173 x_172, twE e8 v_16 x_92 b_199, own e8 v_196 x_195, twE e8 v_18 x_100 b_222, own e8 v_219 x_218, twE e8 v_21 x_116 b_245, own e8 v_242 x_241, twE e8 v_23 x_124 b_268, own e8 v_265 x_264, twE e8 v_25 x_132 b_291, own e8 v_288 x_287, twE e8 v_27 x_140 b_314, own e8 v_311 x_310, own eV v_329 ([SV.of v_150, SV.of v_173, SV.of v_196, SV.of v_219, SV.of v_242, SV.of v_265, SV.of v_288, SV.of v_311] : List SV)]) (F.law31_CoseSpares_K9 x_429) ?_ ?_
  rotate_left
  ·intro hK_441
   refine wpC_region (wpR_run 3 rfl ?_)
   refine wpR_v (G_ix Tryd.underlying53 ti22 rfl rfl (hS.ro 2 rfl) (show getO ([SV.of v_12, SV.of v_14, SV.of v_16, SV.of v_18, SV.of v_21, SV.of v_23, SV.of v_25, SV.of v_27] : List SV) (7 : Int) = some (SV.of v_27) from rfl)) rfl ?_
   refine wpR_v (G_load Tryd.underlying22 rfl rfl (hS.ro 2 rfl) (show getO ([SV.of v_12, SV.of v_14, SV.of v_16, SV.of v_18, SV.of v_21, SV.of v_23, SV.of v_25, SV.of v_27] : List SV) (7 : Int) = some (SV.of v_27) from rfl) (eVc (hS.twro hA_315 18 17 rfl rfl).sv)) rfl ?_
   refine wpR_v (OpV_len Tryd.underlying22 rfl (hS.twro hA_315 18 17 rfl rfl)) rfl ?_
   refine wpR_run 2 rfl ?_
   cases hb_434 : (decide (x_429 < (x_140.length : Int)))
   case true =>
    have h := if_t h hb_434
    try simp only [hb_434]
    refine wpR_run 2 rfl ?_
    refine wpR_gv (t := 234) rfl rfl (G_ix Tryd.underlying53 ti22 rfl rfl (hS.ro 2 rfl) (show getO ([SV.of v_12, SV.of v_14, SV.of v_16, SV.of v_18, SV.of v_21, SV.of v_23, SV.of v_25, SV.of v_27] : List SV) (7 : Int) = some (SV.of v_27) from rfl)) rfl ?_
    refine wpR_gv (t := 234) rfl rfl (G_load Tryd.underlying22 rfl rfl (hS.ro 2 rfl) (show getO ([SV.of v_12, SV.of v_14, SV.of v_16, SV.of v_18, SV.of v_21, SV.of v_23, SV.of v_25, SV.of v_27] : List SV) (7 : Int) = some (SV.of v_27) from rfl) (eVc (hS.twro hA_315 18 17 rfl rfl).sv)) rfl ?_
    refine wpR_run 1 rfl ?_
    obtain ⟨x_435, hx_435, h⟩ := obind_some h
    refine wpR_gv (t := 234) rfl rfl (G_ix Tryd.underlying22 ti5 rfl rfl (hS.twro hA_315 18 17 rfl rfl) hx_435) rfl ?_
    refine wpR_gv (t := 234) rfl rfl (G_load Tryd.underlying5 rfl rfl (hS.twro hA_315 18 17 rfl rfl) hx_435 rfl) rfl ?_
    refine wpR_run 1 rfl ?_
    refine wpR_gv (t := 234) rfl rfl (OpV_bin rfl rfl (b_iadd _ 60 7)) rfl ?_
    refine wpR_gv (t := 234) rfl rfl (OpV_conv rfl (cv_i_8 Tryd.underlying3 Tryd.underlying5 67)) rfl ?_
    refine wpR_gv (t := 234) rfl rfl (OpV_bin rfl rfl (b_neq8 _ x_435 (UInt8.ofInt 67))) rfl ?_
    refine wpR_run 1 rfl ?_
    cases hb_436 : (x_435 != (UInt8.ofInt 67))
    case true =>
     have h := if_t h hb_436
     try simp only [hb_436]
     refine wpR_run 35 rfl ?_
     refine wpR_nil (QE_then_n ?_)
     exact wpC_le _ (by exact ⟨rfl, rfl, rfl, rfl, rfl, rfl, rfl, rfl, rfl, rfl, trivial⟩) (hK_441 true _ _ ⟨rfl, hS⟩ h)
    case false =>
     have h := if_f h hb_436
     try simp only [hb_436]
     refine wpR_run 2 rfl ?_
     refine wpR_gv (t := 246) rfl rfl (G_ix Tryd.underlying53 ti22 rfl rfl (hS.ro 19 rfl) (show getO ([SV.of v_150, SV.of v_173, SV.of v_196, SV.of v_219, SV.of v_242, SV.of v_265, SV.of v_288, SV.of v_311] : List SV) (7 : Int) = some (SV.of v_311) from rfl)) rfl ?_
     refine wpR_gv (t := 246) rfl rfl (G_load Tryd.underlying22 rfl rfl (hS.ro 19 rfl) (show getO ([SV.of v_150, SV.of v_173, SV.of v_196, SV.of v_219, SV.of v_242, SV.of v_265, SV.of v_288, SV.of v_311] : List SV) (7 : Int) = some (SV.of v_311) from rfl) (eVc (hS.ro 18 rfl).sv)) rfl ?_
     refine wpR_run 1 rfl ?_
     obtain ⟨x_437, hx_437, h⟩ := obind_some h
     refine wpR_gv (t := 246) rfl rfl (G_ix Tryd.underlying22 ti5 rfl rfl (hS.ro 18 rfl) hx_437) rfl ?_
     refine wpR_gv (t := 246) rfl rfl (G_load Tryd.underlying5 rfl rfl (hS.ro 18 rfl) hx_437 rfl) rfl ?_
     refine wpR_run 1 rfl ?_
     refine wpR_gv (t := 246) rfl rfl (OpV_bin rfl rfl (b_iadd _ 60 7)) rfl ?_
     refine wpR_gv (t := 246) rfl rfl (OpV_conv rfl (cv_i_8 Tryd.underlying3 Tryd.underlying5 67)) rfl ?_
     refine wpR_gv (t := 246) rfl rfl (OpV_bin rfl rfl (b_neq8 _ x_437 (UInt8.ofInt 67))) rfl ?_
     refine wpR_run 3 rfl ?_
     cases hb_438 : (x_437 != (UInt8.ofInt 67))
     case true =>
      have h := if_t h hb_438
      try simp only [hb_438]
      refine wpR_run 21 rfl ?_
      refine wpR_nil (QE_then_n ?_)
      exact wpC_le _ (by exact ⟨rfl, rfl, rfl, rfl, rfl, rfl, rfl, rfl, rfl, rfl, trivial⟩) (hK_441 true _ _ ⟨rfl, hS⟩ h)
     case false =>
      have h := if_f h hb_438
      try simp only [hb_438]
      refine wpR_run 3 rfl ?_
      refine wpR_gv (t := 260) rfl rfl (G_ix Tryd.underlying53 ti22 rfl rfl (hS.ro 2 rfl) (show getO ([SV.of v_12, SV.of v_14, SV.of v_16, SV.of v_18, SV.of v_21, SV.of v_23, SV.of v_25, SV.of v_27] : List SV) (7 : Int) = some (SV.of v_27) from rfl)) rfl ?_
      refine wpR_gv (t := 260) rfl rfl (G_load Tryd.underlying22 rfl rfl (hS.ro 2 rfl) (show getO ([SV.of v_12, SV.of v_14, SV.of v_16, SV.of v_18, SV.of v_21, SV.of v_23, SV.of v_25, SV.of v_27] : List SV) (7 : Int) = some (SV.of v_27) from rfl) (eVc (hS.twro hA_315 18 17 rfl rfl).sv)) rfl ?_
      refine wpR_gv (t := 260) rfl rfl (OpV_len Tryd.underlying22 rfl (hS.twro hA_315 18 17 rfl rfl)) rfl ?_
      refine wpR_gv (t := 260) rfl rfl (OpV_bin rfl rfl ((cpl_f hb_434).to (b_igeq _ x_429 (x_140.length : Int)))) rfl ?_
      refine wpR_run 14 rfl ?_
      refine wpR_nil (QE_then_n ?_)
      exact wpC_le _ (by exact ⟨rfl, rfl, rfl, rfl, rfl, rfl, rfl, rfl, rfl, rfl, trivial⟩) (hK_441 false _ _ ⟨rfl, hS⟩ h)
   case false =>
    have h := if_f h hb_434
    try simp only [hb_434]
    refine wpR_run 29 rfl ?_
    refine wpR_gv (t := 260) rfl rfl (G_ix Tryd.underlying53 ti22 rfl rfl (hS.ro 2 rfl) (show getO ([SV.of v_12, SV.of v_14, SV.of v_16, SV.of v_18, SV.of v_21, SV.of v_23, SV.of v_25, SV.of v_27] : List SV) (7 : Int) = some (SV.of v_27) from rfl)) rfl ?_
    refine wpR_gv (t := 260) rfl rfl (G_load Tryd.underlying22 rfl rfl (hS.ro 2 rfl) (show getO ([SV.of v_12, SV.of v_14, SV.of v_16, SV.of v_18, SV.of v_21, SV.of v_23, SV.of v_25, SV.of v_27] : List SV) (7 : Int) = some (SV.of v_27) from rfl) (eVc (hS.twro hA_315 18 17 rfl rfl).sv)) rfl ?_
    refine wpR_gv (t := 260) rfl rfl (OpV_len Tryd.underlying22 rfl (hS.twro hA_315 18 17 rfl rfl)) rfl ?_
    refine wpR_gv (t := 260) rfl rfl (OpV_bin rfl rfl ((cpl_t hb_434).to (b_igeq _ x_429 (x_140.length : Int)))) rfl ?_
    refine wpR_run 3 rfl ?_
    refine wpR_gv (t := 268) rfl rfl (G_ix Tryd.underlying53 ti22 rfl rfl (hS.ro 19 rfl) (show getO ([SV.of v_150, SV.of v_173, SV.of v_196, SV.of v_219, SV.of v_242, SV.of v_265, SV.of v_288, SV.of v_311] : List SV) (7 : Int) = some (SV.of v_311) from rfl)) rfl ?_
    refine wpR_gv (t := 268) rfl rfl (G_load Tryd.underlying22 rfl rfl (hS.ro 19 rfl) (show getO ([SV.of v_150, SV.of v_173, SV.of v_196, SV.of v_219, SV.of v_242, SV.of v_265, SV.of v_288, SV.of v_311] : List SV) (7 : Int) = some (SV.of v_311) from rfl) (eVc (hS.ro 18 rfl).sv)) rfl ?_
    refine wpR_run 1 rfl ?_
    obtain ⟨x_439, hx_439, h⟩ := obind_some h
    refine wpR_gv (t := 268) rfl rfl (G_ix Tryd.underlying22 ti5 rfl rfl (hS.ro 18 rfl) hx_439) rfl ?_
    refine wpR_gv (t := 268) rfl rfl (G_load Tryd.underlying5 rfl rfl (hS.ro 18 rfl) hx_439 rfl) rfl ?_
    refine wpR_run 1 rfl ?_
    refine wpR_gv (t := 268) rfl rfl (OpV_bin rfl rfl (b_iadd _ 80 7)) rfl ?_
    refine wpR_gv (t := 268) rfl rfl (OpV_conv rfl (cv_i_8 Tryd.underlying3 Tryd.underlying5 87)) rfl ?_
    refine wpR_gv (t := 268) rfl rfl (OpV_bin rfl rfl (b_neq8 _ x_439 (UInt8.ofInt 87))) rfl ?_
    refine wpR_run 2 rfl ?_
    refine wpR_nil (QE_then_n ?_)
    exact wpC_le _ (by exact ⟨rfl, rfl, rfl, rfl, rfl, rfl, rfl, rfl, rfl, rfl, trivial⟩) (hK_441 (x_439 != (UInt8.ofInt 87)) _ _ ⟨rfl, hS⟩ h)
  rintro x_440 L w hJ h
  try dsimp only at hJ
  obtain ⟨rfl, hS⟩ := hJ
  unfold F.law31_CoseSpares_K9 at h
  refine wpC_cond rfl (fun hb_442 => ?_) (fun hb_442 => ?_)
  ·have h := if_t h hb_442
   refine wpC_seq (wpC_region (wpR_run 1 rfl ?_))
   refine wpR_nil (QE_then_n (wpC_ret (QE_blk_r ?_)))
   refine QE_then_r (QE_then_r ?_)
   have h := oinr_some h hk_430
   refine QE_blk_r ?_
   refine QE_blk_r ?_
   refine QE_then_r (QE_then_r (QE_blk_r ?_))
   refine QE_then_r ?_
   cases h
   exact QE_ret1 rfl rfl ⟨rfl, hS.pick [] (by decide) rfl⟩
  have h := if_f h hb_442
  refine wpC_skip (QE_blk_n ?_)
  refine QE_then_n (wpC_region (wpR_run 3 rfl ?_))
  refine wpR_nil ?_
  exact QE_rnd (wpN_le _ (by exact ⟨rfl, rfl, rfl, rfl, rfl, rfl, rfl, rfl, rfl, trivial⟩) (ih_431 (wI (x_429 + 1)) _ _ ⟨rfl, hS⟩ (oinl_some h hk_430)))
 have h := if_f h hb_433
 refine wpC_exit ?_
 refine QE_then_x (QE_then_x ?_)
 have h := oinr_some h hk_430
 refine QE_blk_x ?_
 refine QE_blk_n ?_
 refine QE_then_n (wpC_region (wpR_run 1 rfl ?_))
 refine wpR_v (OpV_bin rfl rfl (b_iadd _ 7 1)) rfl ?_
 refine wpR_run 1 rfl ?_
 refine wpR_nil (QE_rnd ?_)
 refine wpN_succ ?_
 refine wpC_seq (wpC_seq (wpC_region (wpR_run 2 rfl ?_)))
 refine wpR_v (show OpV _ _ _ _ _ (vI 8) _ from OpV_len Tryd.underlying53 rfl (hS.ro 2 rfl)) rfl ?_
 refine wpR_v (OpV_bin rfl rfl (b_ilss _ 8 8)) rfl ?_
 refine wpR_nil (QE_then_n (wpC_condF rfl ?_))
 refine wpC_exit ?_
 refine QE_then_x (QE_then_x (QE_blk_x ?_))
 refine QE_then_n (wpC_seq (wpC_region (wpR_run 1 rfl ?_)))
 obtain ⟨x_443, hx_443, h⟩ := obind_some h
 refine wpR_call (by kernel_rfl) rfl (c_cose_Claims _ a2 va2  (hT.now hS.fr) (ha2.now hS.fr).rp _ hx_443) rfl ?_
 rintro _ w ⟨v_444, v_446, rfl, hS1⟩
 have hS := hS.call hS1
 simp only [List.cons_append, List.nil_append] at hS
 refine wpR_run 3 rfl ?_
 refine wpR_x (OpX_alloc (cs := [.slice none 0 0, vS [], vB false, vS [], vB false, .slice none 0 0, vB false, vS [], vB false, vB false, vI 0, vB false, vI 0, vB false, vI 0]) tz29 rfl hS) rfl ?_
 rintro _ w ⟨b_448, rfl, hS⟩
 refine wpR_y (OpY_stB (i := 0) (us := [v_444, vS x_443.2.1, vB x_443.2.2.1, vS x_443.2.2.2.1, vB x_443.2.2.2.2.1, v_446, vB x_443.2.2.2.2.2.2.1, vS x_443.2.2.2.2.2.2.2.1, vB x_443.2.2.2.2.2.2.2.2.1, vB x_443.2.2.2.2.2.2.2.2.2.1, vI x_443.2.2.2.2.2.2.2.2.2.2.1, vB x_443.2.2.2.2.2.2.2.2.2.2.2.1, vI x_443.2.2.2.2.2.2.2.2.2.2.2.2.1, vB x_443.2.2.2.2.2.2.2.2.2.2.2.2.2.1, vI x_443.2.2.2.2.2.2.2.2.2.2.2.2.2.2.1]) rfl sz29 rfl rfl rfl ⟨(hS.ro 1 rfl).one, rfl, rfl, rfl, rfl, (hS.ro 2 rfl).one, rfl, rfl, rfl, rfl, rfl, rfl, rfl, rfl, rfl, trivial⟩ rfl hS) ?_
 intro w hS
 replace hS : St _ w0 w [OE.bx b_448 [v_444, vS x_443.2.1, vB x_443.2.2.1, vS x_443.2.2.2.1, vB x_443.2.2.2.2.1, v_446, vB x_443.2.2.2.2.2.2.1, vS x_443.2.2.2.2.2.2.2.1, vB x_443.2.2.2.2.2.2.2.2.1, vB x_443.2.2.2.2.2.2.2.2.2.1, vI x_443.2.2.2.2.2.2.2.2.2.2.1, vB x_443.2.2.2.2.2.2.2.2.2.2.2.1, vI x_443.2.2.2.2.2.2.2.2.2.2.2.2.1, vB x_443.2.2.2.2.2.2.2.2.2.2.2.2.2.1, vI x_443.2.2.2.2.2.2.2.2.2.2.2.2.2.2.1], own (eP eI (eP eS (eP eS (eP eB (eP eI eI))))) v_444 x_443.1, own eS v_446 x_443.2.2.2.2.2.1, own e8 v_4 x_3.1, own e8 v_8 x_7.1, own eV v_41 ([SV.of v_12, SV.of v_14, SV.of v_16, SV.of v_18, SV.of v_21, SV.of v_23, SV.of v_25, SV.of v_27] : List SV), twE e8 v_12 x_76 b_153, own e8 v_150 x_149, twE e8 v_14 x_84 b_176, own e8 v_173 x_172, twE e8 v_16 x_92 b_199, own e8 v_196 x_195, twE e8 v_18 x_100 b_222, own e8 v_219 x_218, twE e8 v_21 x_116 b_245, own e8 v_242 x_241, twE e8 v_23 x_124 b_268, own e8 v_265 x_264, twE e8 v_25 x_132 b_291, own e8 v_288 x_287, twE e8 v_27 x_140 b_314, own e8 v_311 x_310, own eV v_329 ([SV.of v_150, SV.of v_173, SV.of v_196, SV.of v_219, SV.of v_242, SV.of v_265, SV.of v_288, SV.of v_311] : List SV)] := hS
 obtain ⟨x_450, hx_450, h⟩ := olet_some h
 refine wpR_v (OpV_assign (v := vI x_450) (by rw [← hx_450]; rfl)) rfl ?_
 refine wpR_nil (QE_then_n (wpC_seq (wpC_region (wpR_run 1 rfl ?_))))
 obtain ⟨x_451, hx_451, h⟩ := obind_some h
 refine wpR_call (by kernel_rfl) rfl (c_cose_Claims _ a2 va2  (hT.now hS.fr) (ha2.now hS.fr).rp _ hx_451) rfl ?_
 rintro _ w ⟨v_452, v_454, rfl, hS1⟩
 have hS := hS.call hS1
 simp only [List.cons_append, List.nil_append] at hS
 refine wpR_run 3 rfl ?_
 refine wpR_x (OpX_alloc (cs := [.slice none 0 0, vS [], vB false, vS [], vB false, .slice none 0 0, vB false, vS [], vB false, vB false, vI 0, vB false, vI 0, vB false, vI 0]) tz29 rfl hS) rfl ?_
 rintro _ w ⟨b_456, rfl, hS⟩
 refine wpR_y (OpY_stB (i := 0) (us := [v_452, vS x_451.2.1, vB x_451.2.2.1, vS x_451.2.2.2.1, vB x_451.2.2.2.2.1, v_454, vB x_451.2.2.2.2.2.2.1, vS x_451.2.2.2.2.2.2.2.1, vB x_451.2.2.2.2.2.2.2.2.1, vB x_451.2.2.2.2.2.2.2.2.2.1, vI x_451.2.2.2.2.2.2.2.2.2.2.1, vB x_451.2.2.2.2.2.2.2.2.2.2.2.1, vI x_451.2.2.2.2.2.2.2.2.2.2.2.2.1, vB x_451.2.2.2.2.2.2.2.2.2.2.2.2.2.1, vI x_451.2.2.2.2.2.2.2.2.2.2.2.2.2.2.1]) rfl sz29 rfl rfl rfl ⟨(hS.ro 1 rfl).one, rfl, rfl, rfl, rfl, (hS.ro 2 rfl).one, rfl, rfl, rfl, rfl, rfl, rfl, rfl, rfl, rfl, trivial⟩ rfl hS) ?_
 intro w hS
 replace hS : St _ w0 w [OE.bx b_456 [v_452, vS x_451.2.1, vB x_451.2.2.1, vS x_451.2.2.2.1, vB x_451.2.2.2.2.1, v_454, vB x_451.2.2.2.2.2.2.1, vS x_451.2.2.2.2.2.2.2.1, vB x_451.2.2.2.2.2.2.2.2.1, vB x_451.2.2.2.2.2.2.2.2.2.1, vI x_451.2.2.2.2.2.2.2.2.2.2.1, vB x_451.2.2.2.2.2.2.2.2.2.2.2.1, vI x_451.2.2.2.2.2.2.2.2.2.2.2.2.1, vB x_451.2.2.2.2.2.2.2.2.2.2.2.2.2.1, vI x_451.2.2.2.2.2.2.2.2.2.2.2.2.2.2.1], own (eP eI (eP eS (eP eS (eP eB (eP eI eI))))) v_452 x_451.1, own eS v_454 x_451.2.2.2.2.2.1, OE.bx b_448 [v_444, vS x_443.2.1, vB x_443.2.2.1, vS x_443.2.2.2.1, vB x_443.2.2.2.2.1, v_446, vB x_443.2.2.2.2.2.2.1, vS x_443.2.2.2.2.2.2.2.1, vB x_443.2.2.2.2.2.2.2.2.1, vB x_443.2.2.2.2.2.2.2.2.2.1, vI x_443.2.2.2.2.2.2.2.2.2.2.1, vB x_443.2.2.2.2.2.2.2.2.2.2.2.1, vI x_443.2.2.2.2.2.2.2.2.2.2.2.2.1, vB x_443.2.2.2.2.2.2.2.2.2.2.2.2.2.1, vI x_443.2.2.2.2.2.2.2.2.2.2.2.2.2.2.1], own (eP eI (eP eS (eP eS (eP eB (eP eI eI))))) v_444 x_443.1, own eS v_446 x_443.2.2.2.2.2.1, own e8 v_4 x_3.1, own e8 v_8 x_7.1, own eV v_41 ([SV.of v_12, SV.of v_14, SV.of v_16, SV.of v_18, SV.of v_21, SV.of v_23, SV.of v_25, SV.of v_27] : List SV), twE e8 v_12 x_76 b_153, own e8 v_150 x_149, twE e8 v_14 x_84 b_176, own e8 v_173 x_172, twE e8 v_16 x_92 b_199, own e8 v_196 x_195, twE e8 v_18 x_100 b_222, own e8 v_219 x_218, twE e8 v_21 x_116 b_245, own e8 v_242 x_241, twE e8 v_23 x_124 b_268, own e8 v_265 x_264, twE e8 v_25 x_132 b_291, own e8 v_288 x_287, twE e8 v_27 x_140 b_314, own e8 v_311 x_310, own eV v_329 ([SV.of v_150, SV.of v_173, SV.of v_196, SV.of v_219, SV.of v_242, SV.of v_265, SV.of v_288, SV.of v_311] : List SV)] := hS
 obtain ⟨x_458, hx_458, h⟩ := olet_some h
 refine wpR_v (OpV_assign (v := vI x_458) (by rw [← hx_458]; rfl)) rfl ?_
 refine wpR_nil (QE_then_n (wpC_seq (wpC_region (wpR_x (OpX_lit0 (e := eS) Tryd.underlying25 ti9 hS) rfl ?_))))
 rintro v_459 w hS
 refine wpR_v (OpV_fieldB (k := 5) Tryd.underlying29 rfl rfl nz25 rfl) rfl ?_
 refine wpR_v (OpV_ldB Tryd.underlying25 rfl rfl (hS.bxc 1 rfl 5)) rfl ?_
 obtain ⟨x_461, hx_461, h⟩ := obind_some h
 refine wpR_x (G_append Tryd.underlying25 ti9 rfl rfl rfl hS (i := 0) rfl (hS.ro 3 rfl) hx_461) rfl ?_
 rintro v_462 w hS
 refine wpR_run 1 rfl ?_
 refine wpR_nil (QE_then_n (wpC_seq (wpC_seq (wpC_region (wpR_run 1 rfl ?_)))))
 refine wpR_nil (QE_then_n (wpC_block ?_))
 refine wpC_le [(0, va0), (1, va1), (2, va2), (7, slV v_4 e8.sz 0 x_3.2), (8, slV v_8 e8.sz 0 x_7.2), (34, pB b_448 0), (35, vI x_450), (36, pB b_456 0), (37, vI x_458), (38, v_462), (39, vI 0)] ⟨rfl, rfl, rfl, rfl, rfl, rfl, rfl, rfl, rfl, rfl, rfl, trivial⟩ ?_
 refine loop_ind (F.law31_CoseSpares_L25 a0 a1 a2 x_3 x_7 x_450 x_451 x_458 x_461) (fun (s : Int × List (List UInt8)) L w => L = [(0, va0), (1, va1), (2, va2), (7, slV v_4 e8.sz 0 x_3.2), (8, slV v_8 e8.sz 0 x_7.2), (34, pB b_448 0), (35, vI x_450), (36, pB b_456 0), (37, vI x_458), (38, v_462), (39, vI s.1)] ∧ St [] w0 w [own e8 v_4 x_3.1, own e8 v_8 x_7.1, OE.bx b_448 [v_444, vS x_443.2.1, vB x_443.2.2.1, vS x_443.2.2.2.1, vB x_443.2.2.2.2.1, v_446, vB x_443.2.2.2.2.2.2.1, vS x_443.2.2.2.2.2.2.2.1, vB x_443.2.2.2.2.2.2.2.2.1, vB x_443.2.2.2.2.2.2.2.2.2.1, vI x_443.2.2.2.2.2.2.2.2.2.2.1, vB x_443.2.2.2.2.2.2.2.2.2.2.2.1, vI x_443.2.2.2.2.2.2.2.2.2.2.2.2.1, vB x_443.2.2.2.2.2.2.2.2.2.2.2.2.2.1, vI x_443.2.2.2.2.2.2.2.2.2.2.2.2.2.2.1], own (eP eI (eP eS (eP eS (eP eB (eP eI eI))))) v_444 x_443.1, own eS v_446 s.2, OE.bx b_456 [v_452, vS x_451.2.1, vB x_451.2.2.1, vS x_451.2.2.2.1, vB x_451.2.2.2.2.1, v_454, vB x_451.2.2.2.2.2.2.1, vS x_451.2.2.2.2.2.2.2.1, vB x_451.2.2.2.2.2.2.2.2.1, vB x_451.2.2.2.2.2.2.2.2.2.1, vI x_451.2.2.2.2.2.2.2.2.2.2.1, vB x_451.2.2.2.2.2.2.2.2.2.2.2.1, vI x_451.2.2.2.2.2.2.2.2.2.2.2.2.1, vB x_451.2.2.2.2.2.2.2.2.2.2.2.2.2.1, vI x_451.2.2.2.2.2.2.2.2.2.2.2.2.2.2.1], own (eP eI (eP eS (eP eS (eP eB (eP eI eI))))) v_452 x_451.1, own eS v_454 x_451.2.2.2.2.2.1, own eS v_462 x_461]) ?_ (0, x_443.2.2.2.2.2.1) ⟨rfl, (hS.pick [7, 8, 4, 5, 6, 1, 2, 3, 0] (by decide) rfl)⟩ h
 rintro k_512 ⟨x_464, x_465⟩ L w q_468 hI ih_467 h hk_466
 try dsimp only at hI
 obtain ⟨rfl, hS⟩ := hI
 unfold F.law31_CoseSpares_L25 at h
 refine wpC_seq (wpC_seq (wpC_region (wpR_run 1 rfl ?_)))
 refine wpR_v (OpV_fieldB (k := 5) Tryd.underlying29 rfl rfl nz25 rfl) rfl ?_
 refine wpR_v (OpV_ldB Tryd.underlying25 rfl rfl (hS.bxc 2 rfl 5)) rfl ?_
 refine wpR_v (OpV_len Tryd.underlying25 rfl (hS.ro 4 rfl)) rfl ?_
 refine wpR_run 1 rfl ?_
 refine wpR_nil (QE_then_n ?_)
 refine wpC_cond rfl (fun hb_469 => ?_) (fun hb_469 => ?_)
 ·have h := if_t h hb_469
  refine wpC_skip (QE_then_n (wpC_seq (wpC_block ?_)))
  refine wpC_region (wpR_v (OpV_fieldB (k := 5) Tryd.underlying29 rfl rfl nz25 rfl) rfl ?_)
  refine wpR_v (OpV_ldB Tryd.underlying25 rfl rfl (hS.bxc 2 rfl 5)) rfl ?_
  refine wpR_run 1 rfl ?_
  obtain ⟨x_470, hx_470, h⟩ := obind_some h
  refine wpR_v (G_ix Tryd.underlying25 ti9 rfl rfl (hS.ro 4 rfl) hx_470) rfl ?_
  refine wpR_y (G_storeE (t := [115, 112, 111, 105, 108, 116]) ti9 rfl rfl hS (i := 4) rfl hx_470 rfl) ?_
  intro w hS
  obtain ⟨x_471, hx_471, h⟩ := olet_some h
  rw [hx_471] at hS
  refine wpR_nil (QE_blk_n ?_)
  refine QE_then_n (wpC_region (wpR_run 3 rfl ?_))
  refine wpR_nil ?_
  exact QE_rnd (wpN_le _ (by exact ⟨rfl, rfl, rfl, rfl, rfl, rfl, rfl, rfl, rfl, rfl, rfl, trivial⟩) (ih_467 (wI (x_464 + 1), x_471) _ _ ⟨rfl, hS⟩ (oinl_some h hk_466)))
 have h := if_f h hb_469
 refine wpC_exit ?_
 refine QE_then_x (QE_then_x ?_)
 have h := oinr_some h hk_466
 refine QE_blk_x ?_
 refine QE_then_n (wpC_seq (wpC_region (wpR_v (OpV_fieldB (k := 5) Tryd.underlying29 rfl rfl nz25 rfl) rfl ?_)))
 refine wpR_v (OpV_ldB Tryd.underlying25 rfl rfl (hS.bxc 2 rfl 5)) rfl ?_
 refine wpR_run 1 rfl ?_
 have hA_473 := (hS.ro 4 rfl).tw
 replace hS := hS.twin 4 rfl
 refine wpR_nil (QE_then_n (wpC_seq (wpC_seq (wpC_region (wpR_run 1 rfl ?_)))))
 refine wpR_nil (QE_then_n (wpC_block ?_))
 refine wpC_le [(0, va0), (1, va1), (2, va2), (7, slV v_4 e8.sz 0 x_3.2), (8, slV v_8 e8.sz 0 x_7.2), (34, pB b_448 0), (35, vI x_450), (36, pB b_456 0), (37, vI x_458), (38, v_462), (40, v_446), (41, vI 0)] ⟨rfl, rfl, rfl, rfl, rfl, rfl, rfl, rfl, rfl, rfl, rfl, rfl, trivial⟩ ?_
 refine loop_ind (F.law31_CoseSpares_L26 a0 a1 a2 x_3 x_7 x_450 x_451 x_458 x_461 x_465) (fun (s : List (List UInt8) × Int) L w => ∃ (v_475 : Value) (b_478 : Nat), L = [(0, va0), (1, va1), (2, va2), (7, slV v_4 e8.sz 0 x_3.2), (8, slV v_8 e8.sz 0 x_7.2), (34, pB b_448 0), (35, vI x_450), (36, pB b_456 0), (37, vI x_458), (38, v_462), (40, v_475), (41, vI s.2)] ∧ Tw v_446 x_465 v_475 s.1 b_478 ∧ St [] w0 w [own eS v_475 s.1, own e8 v_4 x_3.1, own e8 v_8 x_7.1, OE.bx b_448 [v_444, vS x_443.2.1, vB x_443.2.2.1, vS x_443.2.2.2.1, vB x_443.2.2.2.2.1, v_446, vB x_443.2.2.2.2.2.2.1, vS x_443.2.2.2.2.2.2.2.1, vB x_443.2.2.2.2.2.2.2.2.1, vB x_443.2.2.2.2.2.2.2.2.2.1, vI x_443.2.2.2.2.2.2.2.2.2.2.1, vB x_443.2.2.2.2.2.2.2.2.2.2.2.1, vI x_443.2.2.2.2.2.2.2.2.2.2.2.2.1, vB x_443.2.2.2.2.2.2.2.2.2.2.2.2.2.1, vI x_443.2.2.2.2.2.2.2.2.2.2.2.2.2.2.1], own (eP eI (eP eS (eP eS (eP eB (eP eI eI))))) v_444 x_443.1, twE eS v_446 x_465 b_478, OE.bx b_456 [v_452, vS x_451.2.1, vB x_451.2.2.1, vS x_451.2.2.2.1, vB x_451.2.2.2.2.1, v_454, vB x_451.2.2.2.2.2.2.1, vS x_451.2.2.2.2.2.2.2.1, vB x_451.2.2.2.2.2.2.2.2.1, vB x_451.2.2.2.2.2.2.2.2.2.1, vI x_451.2.2.2.2.2.2.2.2.2.2.1, vB x_451.2.2.2.2.2.2.2.2.2.2.2.1, vI x_451.2.2.2.2.2.2.2.2.2.2.2.2.1, vB x_451.2.2.2.2.2.2.2.2.2.2.2.2.2.1, vI x_451.2.2.2.2.2.2.2.2.2.2.2.2.2.2.1], own (eP eI (eP eS (eP eS (eP eB (eP eI eI))))) v_452 x_451.1, own eS v_454 x_451.2.2.2.2.2.1, own eS v_462 x_461]) ?_ (x_465, 0) ⟨v_446, 0, rfl, hA_473, (hS.pick [5, 1, 2, 3, 4, 0, 6, 7, 8, 9] (by decide) rfl)⟩ h
 rintro k_511 ⟨x_474, x_477⟩ L w q_482 hI ih_481 h hk_480
 try dsimp only at hI
 obtain ⟨v_475, b_478, rfl, hA_479, hS⟩ := hI
 unfold F.law31_CoseSpares_L26 at h
 refine wpC_seq (wpC_seq (wpC_region (wpR_run 2 rfl ?_)))
 refine wpR_nil (QE_then_n ?_)
 refine wpC_cond rfl (fun hb_483 => ?_) (fun hb_483 => ?_)
 ·have h := if_t h hb_483
  refine wpC_skip (QE_then_n (wpC_seq (wpC_block ?_)))
  refine wpC_region (wpR_run 1 rfl ?_)
  refine wpR_x (OpX_lit (e := eS) (l := ([[109, 111, 114, 101]] : List (List UInt8))) (vs := [vS [109, 111, 114, 101]]) Tryd.underlying25 ti9 rfl rfl rfl rfl (by decide) (by decide) hS) rfl ?_
  rintro v_484 w hS
  obtain ⟨x_486, hx_486, h⟩ := obind_some h
  refine wpR_x (G_append_tw Tryd.underlying25 ti9 rfl rfl rfl hS (i := 1) (j := 6) rfl rfl hA_479 (hS.ro 0 rfl) hx_486) rfl ?_
  rintro v_487 w ⟨b_488, hA_489, hS⟩
  refine wpR_run 1 rfl ?_
  refine wpR_nil (QE_blk_n ?_)
  refine QE_then_n (wpC_region (wpR_run 3 rfl ?_))
  refine wpR_nil ?_
  exact QE_rnd (wpN_le _ (by exact ⟨rfl, rfl, rfl, rfl, rfl, rfl, rfl, rfl, rfl, rfl, rfl, rfl, trivial⟩) (ih_481 (x_486, wI (x_477 + 1)) _ _ ⟨v_487, b_488, rfl, hA_489, (hS.pick [1, 2, 3, 4, 5, 6, 7, 8, 9, 10] (by decide) rfl)⟩ (oinl_some h hk_480)))
 have h := if_f h hb_483
 refine wpC_exit ?_
 refine QE_then_x (QE_then_x ?_)
 have h := oinr_some h hk_480
 refine QE_blk_x ?_
 refine QE_then_n (wpC_seq (wpC_seq (wpC_region (wpR_v (OpV_fieldB (k := 5) Tryd.underlying29 rfl rfl nz25 rfl) rfl ?_))))
 refine wpR_v (OpV_ldB Tryd.underlying25 rfl rfl (hS.bxc 6 rfl 5)) rfl ?_
 refine wpR_run 1 rfl ?_
 obtain ⟨x_491, hx_491, h⟩ := obind_some h
 refine wpR_call (by kernel_rfl) rfl (c_law31_sameTexts _ x_451.2.2.2.2.2.1 x_461 v_454 v_462  (hS.ro 8 rfl).rp (hS.ro 9 rfl).rp _ hx_491) rfl ?_
 rintro _ w ⟨rfl, hS1⟩
 have hS := hS.call hS1
 simp only [List.cons_append, List.nil_append] at hS
 refine wpR_run 1 rfl ?_
 refine wpR_nil (QE_then_n ?_)
 refine wpC_cond rfl (fun hb_492 => ?_) (fun hb_492 => ?_)
 ·have h := if_t h hb_492
  refine wpC_seq (wpC_region (wpR_run 1 rfl ?_))
  refine wpR_nil (QE_then_n (wpC_ret (QE_then_r ?_)))
  cases h
  exact QE_ret1 rfl rfl ⟨rfl, hS.pick [] (by decide) rfl⟩
 have h := if_f h hb_492
 refine wpC_skip (QE_then_n (wpC_seq (wpC_region (wpR_run 1 rfl ?_))))
 obtain ⟨x_493, hx_493, h⟩ := obind_some h
 refine wpR_call (by kernel_rfl) rfl (c_cose_Claims _ a2 va2  (hT.now hS.fr) (ha2.now hS.fr).rp _ hx_493) rfl ?_
 rintro _ w ⟨v_494, v_496, rfl, hS1⟩
 have hS := hS.call hS1
 simp only [List.cons_append, List.nil_append] at hS
 refine wpR_run 3 rfl ?_
 refine wpR_x (OpX_alloc (cs := [.slice none 0 0, vS [], vB false, vS [], vB false, .slice none 0 0, vB false, vS [], vB false, vB false, vI 0, vB false, vI 0, vB false, vI 0]) tz29 rfl hS) rfl ?_
 rintro _ w ⟨b_498, rfl, hS⟩
 refine wpR_y (OpY_stB (i := 0) (us := [v_494, vS x_493.2.1, vB x_493.2.2.1, vS x_493.2.2.2.1, vB x_493.2.2.2.2.1, v_496, vB x_493.2.2.2.2.2.2.1, vS x_493.2.2.2.2.2.2.2.1, vB x_493.2.2.2.2.2.2.2.2.1, vB x_493.2.2.2.2.2.2.2.2.2.1, vI x_493.2.2.2.2.2.2.2.2.2.2.1, vB x_493.2.2.2.2.2.2.2.2.2.2.2.1, vI x_493.2.2.2.2.2.2.2.2.2.2.2.2.1, vB x_493.2.2.2.2.2.2.2.2.2.2.2.2.2.1, vI x_493.2.2.2.2.2.2.2.2.2.2.2.2.2.2.1]) rfl sz29 rfl rfl rfl ⟨(hS.ro 1 rfl).one, rfl, rfl, rfl, rfl, (hS.ro 2 rfl).one, rfl, rfl, rfl, rfl, rfl, rfl, rfl, rfl, rfl, trivial⟩ rfl hS) ?_
 intro w hS
 replace hS : St _ w0 w [OE.bx b_498 [v_494, vS x_493.2.1, vB x_493.2.2.1, vS x_493.2.2.2.1, vB x_493.2.2.2.2.1, v_496, vB x_493.2.2.2.2.2.2.1, vS x_493.2.2.2.2.2.2.2.1, vB x_493.2.2.2.2.2.2.2.2.1, vB x_493.2.2.2.2.2.2.2.2.2.1, vI x_493.2.2.2.2.2.2.2.2.2.2.1, vB x_493.2.2.2.2.2.2.2.2.2.2.2.1, vI x_493.2.2.2.2.2.2.2.2.2.2.2.2.1, vB x_493.2.2.2.2.2.2.2.2.2.2.2.2.2.1, vI x_493.2.2.2.2.2.2.2.2.2.2.2.2.2.2.1], own (eP eI (eP eS (eP eS (eP eB (eP eI eI))))) v_494 x_493.1, own eS v_496 x_493.2.2.2.2.2.1, own eS v_475 x_474, own e8 v_4 x_3.1, own e8 v_8 x_7.1, OE.bx b_448 [v_444, vS x_443.2.1, vB x_443.2.2.1, vS x_443.2.2.2.1, vB x_443.2.2.2.2.1, v_446, vB x_443.2.2.2.2.2.2.1, vS x_443.2.2.2.2.2.2.2.1, vB x_443.2.2.2.2.2.2.2.2.1, vB x_443.2.2.2.2.2.2.2.2.2.1, vI x_443.2.2.2.2.2.2.2.2.2.2.1, vB x_443.2.2.2.2.2.2.2.2.2.2.2.1, vI x_443.2.2.2.2.2.2.2.2.2.2.2.2.1, vB x_443.2.2.2.2.2.2.2.2.2.2.2.2.2.1, vI x_443.2.2.2.2.2.2.2.2.2.2.2.2.2.2.1], own (eP eI (eP eS (eP eS (eP eB (eP eI eI))))) v_444 x_443.1, twE eS v_446 x_465 b_478, OE.bx b_456 [v_452, vS x_451.2.1, vB x_451.2.2.1, vS x_451.2.2.2.1, vB x_451.2.2.2.2.1, v_454, vB x_451.2.2.2.2.2.2.1, vS x_451.2.2.2.2.2.2.2.1, vB x_451.2.2.2.2.2.2.2.2.1, vB x_451.2.2.2.2.2.2.2.2.2.1, vI x_451.2.2.2.2.2.2.2.2.2.2.1, vB x_451.2.2.2.2.2.2.2.2.2.2.2.1, vI x_451.2.2.2.2.2.2.2.2.2.2.2.2.1, vB x_451.2.2.2.2.2.2.2.2.2.2.2.2.2.1, vI x_451.2.2.2.2.2.2.2.2.2.2.2.2.2.2.1], own (eP eI (eP eS (eP eS (eP eB (eP eI eI))))) v_452 x_451.1, own eS v_454 x_451.2.2.2.2.2.1, own eS v_462 x_461] := hS
 obtain ⟨x_500, hx_500, h⟩ := olet_some h
 refine wpR_v (OpV_assign (v := vI x_500) (by rw [← hx_500]; rfl)) rfl ?_
 refine wpR_nil (QE_then_n (wpC_seq (wpC_region (wpR_run 4 rfl ?_))))
 cases hb_501 : (x_450 == x_458)
 case true =>
  have h := if_t h hb_501
  try simp only [hb_501]
  refine wpR_run 5 rfl ?_
  cases hb_502 : (x_500 == x_458)
  case true =>
   have h := if_t h hb_502
   try simp only [hb_502]
   refine wpR_gv (t := 334) rfl rfl (OpV_fieldB (k := 5) Tryd.underlying29 rfl rfl nz25 rfl) rfl ?_
   refine wpR_gv (t := 334) rfl rfl (OpV_ldB Tryd.underlying25 rfl rfl (hS.bxc 9 rfl 5)) rfl ?_
   refine wpR_run 1 rfl ?_
   obtain ⟨x_503, hx_503, h⟩ := obind_some h
   refine wpR_gcall (t := 334) rfl rfl (by kernel_rfl) rfl (c_law31_sameTexts _ x_451.2.2.2.2.2.1 x_461 v_454 v_462  (hS.ro 11 rfl).rp (hS.ro 12 rfl).rp _ hx_503) rfl ?_
   rintro _ w ⟨rfl, hS1⟩
   have hS := hS.call hS1
   simp only [List.cons_append, List.nil_append] at hS
   refine wpR_run 2 rfl ?_
   cases hb_504 : x_503
   case true =>
    have h := if_t h hb_504
    try simp only [hb_504]
    refine wpR_gv (t := 340) rfl rfl (OpV_ldBs (us := [v_452, vS x_451.2.1, vB x_451.2.2.1, vS x_451.2.2.2.1, vB x_451.2.2.2.2.1, v_454, vB x_451.2.2.2.2.2.2.1, vS x_451.2.2.2.2.2.2.2.1, vB x_451.2.2.2.2.2.2.2.2.1, vB x_451.2.2.2.2.2.2.2.2.2.1, vI x_451.2.2.2.2.2.2.2.2.2.2.1, vB x_451.2.2.2.2.2.2.2.2.2.2.2.1, vI x_451.2.2.2.2.2.2.2.2.2.2.2.2.1, vB x_451.2.2.2.2.2.2.2.2.2.2.2.2.2.1, vI x_451.2.2.2.2.2.2.2.2.2.2.2.2.2.2.1]) Tryd.underlying29 rfl sz29 rfl (hS.bxs 9 rfl rfl)) rfl ?_
    refine wpR_gv (t := 340) rfl rfl (OpV_ldBs (us := [v_494, vS x_493.2.1, vB x_493.2.2.1, vS x_493.2.2.2.1, vB x_493.2.2.2.2.1, v_496, vB x_493.2.2.2.2.2.2.1, vS x_493.2.2.2.2.2.2.2.1, vB x_493.2.2.2.2.2.2.2.2.1, vB x_493.2.2.2.2.2.2.2.2.2.1, vI x_493.2.2.2.2.2.2.2.2.2.2.1, vB x_493.2.2.2.2.2.2.2.2.2.2.2.1, vI x_493.2.2.2.2.2.2.2.2.2.2.2.2.1, vB x_493.2.2.2.2.2.2.2.2.2.2.2.2.2.1, vI x_493.2.2.2.2.2.2.2.2.2.2.2.2.2.2.1]) Tryd.underlying29 rfl sz29 rfl (hS.bxs 0 rfl rfl)) rfl ?_
    obtain ⟨x_505, hx_505, h⟩ := obind_some h
    refine wpR_gcall (t := 340) rfl rfl (by kernel_rfl) rfl (c_law31_sameClaims _ x_451.1 x_451.2.1 x_451.2.2.1 x_451.2.2.2.1 x_451.2.2.2.2.1 x_451.2.2.2.2.2.1 x_451.2.2.2.2.2.2.1 x_451.2.2.2.2.2.2.2.1 x_451.2.2.2.2.2.2.2.2.1 x_451.2.2.2.2.2.2.2.2.2.1 x_451.2.2.2.2.2.2.2.2.2.2.1 x_451.2.2.2.2.2.2.2.2.2.2.2.1 x_451.2.2.2.2.2.2.2.2.2.2.2.2.1 x_451.2.2.2.2.2.2.2.2.2.2.2.2.2.1 x_451.2.2.2.2.2.2.2.2.2.2.2.2.2.2.1 x_493.1 x_493.2.1 x_493.2.2.1 x_493.2.2.2.1 x_493.2.2.2.2.1 x_493.2.2.2.2.2.1 x_493.2.2.2.2.2.2.1 x_493.2.2.2.2.2.2.2.1 x_493.2.2.2.2.2.2.2.2.1 x_493.2.2.2.2.2.2.2.2.2.1 x_493.2.2.2.2.2.2.2.2.2.2.1 x_493.2.2.2.2.2.2.2.2.2.2.2.1 x_493.2.2.2.2.2.2.2.2.2.2.2.2.1 x_493.2.2.2.2.2.2.2.2.2.2.2.2.2.1 x_493.2.2.2.2.2.2.2.2.2.2.2.2.2.2.1 v_452 v_454 v_494 v_496  (hS.ro 10 rfl).rp (hS.ro 11 rfl).rp (hS.ro 1 rfl).rp (hS.ro 2 rfl).rp _ hx_505) rfl ?_
    rintro _ w ⟨rfl, hS1⟩
    have hS := hS.call hS1
    simp only [List.cons_append, List.nil_append] at hS
    refine wpR_run 2 rfl ?_
    cases hb_506 : x_505
    case true =>
     have h := if_t h hb_506
     try simp only [hb_506]
     refine wpR_run 1 rfl ?_
     refine wpR_gv (t := 345) rfl rfl (OpV_len Tryd.underlying25 rfl (hS.ro 3 rfl)) rfl ?_
     refine wpR_gv (t := 345) rfl rfl (OpV_fieldB (k := 5) Tryd.underlying29 rfl rfl nz25 rfl) rfl ?_
     refine wpR_gv (t := 345) rfl rfl (OpV_ldB Tryd.underlying25 rfl rfl (hS.bxc 6 rfl 5)) rfl ?_
     refine wpR_gv (t := 345) rfl rfl (OpV_len Tryd.underlying25 rfl (hS.twro hA_479 3 8 rfl rfl)) rfl ?_
     refine wpR_run 4 rfl ?_
     cases hb_507 : ((x_474.length : Int) == (wI ((x_465.length : Int) + 70)))
     case true =>
      have h := if_t h hb_507
      try simp only [hb_507]
      refine wpR_run 2 rfl ?_
      obtain ⟨x_508, hx_508, h⟩ := obind_some h
      refine wpR_gcall (t := 354) rfl rfl (by kernel_rfl) rfl (c_law31_spared _ x_3.1 x_3.2 a0 v_4 va0  (hS.ro 4 rfl).rp hk_6 (ha0.now hS.fr).rp _ hx_508) rfl ?_
      rintro _ w ⟨rfl, hS1⟩
      have hS := hS.call hS1
      simp only [List.cons_append, List.nil_append] at hS
      refine wpR_run 2 rfl ?_
      cases hb_509 : x_508
      case true =>
       have h := if_t h hb_509
       try simp only [hb_509]
       refine wpR_run 2 rfl ?_
       obtain ⟨x_510, hx_510, h⟩ := obind_some h
       refine wpR_gcall (t := 359) rfl rfl (by kernel_rfl) rfl (c_law31_spared _ x_7.1 x_7.2 a1 v_8 va1  (hS.ro 5 rfl).rp hk_10 (ha1.now hS.fr).rp _ hx_510) rfl ?_
       rintro _ w ⟨rfl, hS1⟩
       have hS := hS.call hS1
       simp only [List.cons_append, List.nil_append] at hS
       refine wpR_run 2 rfl ?_
       refine wpR_nil (QE_then_n (wpC_ret ?_))
       cases h
       exact QE_ret1 rfl rfl ⟨rfl, hS.pick [] (by decide) rfl⟩
      case false =>
       have h := if_f h hb_509
       try simp only [hb_509]
       refine wpR_run 5 rfl ?_
       refine wpR_nil (QE_then_n (wpC_ret ?_))
       cases h
       exact QE_ret1 rfl rfl ⟨rfl, hS.pick [] (by decide) rfl⟩
     case false =>
      have h := if_f h hb_507
      try simp only [hb_507]
      refine wpR_run 10 rfl ?_
      refine wpR_nil (QE_then_n (wpC_ret ?_))
      cases h
      exact QE_ret1 rfl rfl ⟨rfl, hS.pick [] (by decide) rfl⟩
    case false =>
     have h := if_f h hb_506
     try simp only [hb_506]
     refine wpR_run 19 rfl ?_
     refine wpR_nil (QE_then_n (wpC_ret ?_))
     cases h
     exact QE_ret1 rfl rfl ⟨rfl, hS.pick [] (by decide) rfl⟩
   case false =>
    have h := if_f h hb_504
    try simp only [hb_504]
    refine wpR_run 24 rfl ?_
    refine wpR_nil (QE_then_n (wpC_ret ?_))
    cases h
    exact QE_ret1 rfl rfl ⟨rfl, hS.pick [] (by decide) rfl⟩
  case false =>
   have h := if_f h hb_502
   try simp only [hb_502]
   refine wpR_run 30 rfl ?_
   refine wpR_nil (QE_then_n (wpC_ret ?_))
   cases h
   exact QE_ret1 rfl rfl ⟨rfl, hS.pick [] (by decide) rfl⟩
 case false =>
  have h := if_f h hb_501
  try simp only [hb_501]
  refine wpR_run 35 rfl ?_
  refine wpR_nil (QE_then_n (wpC_ret ?_))
  cases h
  exact QE_ret1 rfl rfl ⟨rfl, hS.pick [] (by decide) rfl⟩
end Go.Proofs
