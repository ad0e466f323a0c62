import Derived.Test.YtldhmmipbogabaaGreatDoorTW0
import Derived.Test.YtldhmmipbogabaaGreatDoorGkFspki
set_option linter.unusedVariables false
set_option linter.unusedSimpArgs false
set_option linter.unusedVariables false
set_option maxRecDepth 4000
namespace Go.Proofs
open Go Go.RowKit Go.Gk
theorem c_spki_unused (w0 : World) (a0 : List (List UInt8)) (va0 : Value) (s0 : List SV) (ha0 : RP [] w0 eV va0 s0) (hl0 : AllRP [] w0 e8 s0 a0) (r : Bool)
  (h : F.spki_unused a0 = some r) : Calls Tryz.prog 166 #[va0] w0 (Ret fun v w => v = vB r ∧ St [] w0 w []) := by
 refine calls_at 19 Tryz.func166 rfl rfl rfl ?_
 have hS := St.start w0
 refine wpC_le [(0, va0)] ⟨rfl, trivial⟩ ?_
 unfold F.spki_unused at h
 refine wpC_seq (wpC_region (wpR_run 1 rfl ?_))
 refine wpR_nil (QE_then_n (wpC_seq (wpC_region (wpR_run 1 rfl ?_))))
 refine wpR_nil (QE_then_n (wpC_seq (wpC_seq (wpC_region (wpR_run 1 rfl ?_)))))
 refine wpR_v (L_len Tryz.underlying56 rfl (ha0.now hS.fr) hl0.len) rfl ?_
 refine wpR_run 1 rfl ?_
 refine wpR_nil (QE_then_n (wpC_block ?_))
 refine wpC_le [(3, vI 0), (6, va0), (7, vI (a0.length : Int)), (8, vI 0)] ⟨rfl, rfl, rfl, rfl, trivial⟩ ?_
 refine loop_ind (F.spki_unused_L1 a0) (fun (s : Int × Int) L w => L = [(3, vI s.1), (6, va0), (7, vI (a0.length : Int)), (8, vI s.2)] ∧ St [] w0 w []) ?_ (0, 0) ⟨rfl, hS⟩ h
 rintro k_10 ⟨x_1, x_2⟩ L w q_5 hI ih_4 h hk_3
 try dsimp only at hI
 obtain ⟨rfl, hS⟩ := hI
 unfold F.spki_unused_L1 at h
 refine wpC_seq (wpC_region (wpR_run 1 rfl ?_))
 refine wpR_nil (QE_then_n (wpC_seq ?_))
 refine wpC_cond rfl (fun hb_9 => ?_) (fun hb_9 => ?_)
 ·have h := if_t h hb_9
  refine wpC_skip (QE_then_n (wpC_seq (wpC_block ?_)))
  refine wpC_seq (wpC_region ?_)
  obtain ⟨x_6, hx_6, h⟩ := obind_some h
  obtain ⟨sv_7, hsv_7, hRsv_7⟩ := hl0.get hx_6
  refine wpR_v (G_ix Tryz.underlying56 ti25 rfl rfl (ha0.now hS.fr) hsv_7) rfl ?_
  refine wpR_v (G_load Tryz.underlying25 rfl rfl (ha0.now hS.fr) hsv_7 rfl) rfl ?_
  refine wpR_run 1 rfl ?_
  refine wpR_nil (QE_then_n (wpC_region (wpR_run 2 rfl ?_)))
  refine wpR_v (OpV_len Tryz.underlying25 rfl (hRsv_7.now hS.fr)) rfl ?_
  refine wpR_run 1 rfl ?_
  obtain ⟨x_8, hx_8, h⟩ := olet_some h
  refine wpR_v (OpV_assign (v := vI x_8) (by rw [← hx_8]; rfl)) rfl ?_
  refine wpR_nil (QE_blk_n ?_)
  refine QE_then_n (wpC_region (wpR_run 2 rfl ?_))
  refine wpR_nil ?_
  exact QE_rnd (wpN_le _ (by exact ⟨rfl, rfl, rfl, rfl, trivial⟩) (ih_4 (x_8, wI (x_2 + 1)) _ _ ⟨rfl, hS⟩ (oinl_some h hk_3)))
 have h := if_f h hb_9
 refine wpC_exit ?_
 refine QE_then_x (QE_then_x ?_)
 have h := oinr_some h hk_3
 refine QE_blk_x ?_
 refine QE_then_n (wpC_seq (wpC_region (wpR_run 3 rfl ?_)))
 refine wpR_nil (QE_then_n (wpC_ret ?_))
 cases h
 exact QE_ret1 rfl rfl ⟨rfl, hS⟩
theorem c_spki_good (w0 : World) (a0_0 : Int) (a0_1 : Int) (a0_2 : List UInt8) (a0_3 : List UInt8) (a0_4 : List UInt8) (a0_5 : List UInt8) (a0_6 : List UInt8) (va0_2 : Value) (va0_3 : Value) (va0_4 : Value) (va0_5 : Value) (va0_6 : Value) (ha0_2 : RP [] w0 e8 va0_2 a0_2) (ha0_3 : RP [] w0 e8 va0_3 a0_3) (ha0_4 : RP [] w0 e8 va0_4 a0_4) (ha0_5 : RP [] w0 e8 va0_5 a0_5) (ha0_6 : RP [] w0 e8 va0_6 a0_6) (r : Bool)
  (h : F.spki_good a0_0 a0_1 a0_2 a0_3 a0_4 a0_5 a0_6 = some r) : Calls Tryz.prog 78 #[.agg #[vI a0_0, vI a0_1, va0_2, va0_3, va0_4, va0_5, va0_6]] w0 (Ret fun v w => v = vB r ∧ St [] w0 w []) := by
 refine calls_at 111 Tryz.func78 rfl rfl rfl ?_
 have hS := St.start w0
 refine wpC_le [(0, .agg #[vI a0_0, vI a0_1, va0_2, va0_3, va0_4, va0_5, va0_6])] ⟨rfl, trivial⟩ ?_
 unfold F.spki_good at h
 refine wpC_seq (wpC_region (wpR_x (OpX_box (cs := [vI a0_0, vI a0_1, va0_2, va0_3, va0_4, va0_5, va0_6]) rfl rfl hS) rfl ?_))
 rintro _ w ⟨b_1, rfl, hS⟩
 refine wpR_run 1 rfl ?_
 refine wpR_nil (QE_then_n (wpC_seq (wpC_seq (wpC_region (wpR_v (OpV_fieldB (k := 0) Tryz.underlying27 rfl rfl nz23 rfl) rfl ?_)))))
 refine wpR_v (OpV_ldB Tryz.underlying23 rfl rfl (hS.bxc 0 rfl 0)) rfl ?_
 refine wpR_nil (QE_then_n (wpC_block ?_))
 refine wpC_seq (wpC_region (wpR_run 2 rfl ?_))
 refine wpR_nil (QE_then_n ?_)
 refine wpC_cond rfl (fun hb_24 => ?_) (fun hb_24 => ?_)
 ·have h := if_t h hb_24
  refine wpC_seq (wpC_region (wpR_v (OpV_fieldB (k := 1) Tryz.underlying27 rfl rfl nz24 rfl) rfl ?_))
  refine wpR_v (OpV_ldB Tryz.underlying24 rfl rfl (hS.bxc 0 rfl 1)) rfl ?_
  refine wpR_run 2 rfl ?_
  cases hb_3 : (a0_1 == 0)
  case true =>
   have h := if_t h hb_3
   try simp only [hb_3]
   refine wpR_gv (t := 14) rfl rfl (OpV_fieldB (k := 2) Tryz.underlying27 rfl rfl nz25 rfl) rfl ?_
   refine wpR_gv (t := 14) rfl rfl (OpV_ldB Tryz.underlying25 rfl rfl (hS.bxc 0 rfl 2)) rfl ?_
   refine wpR_gv (t := 14) rfl rfl (OpV_len Tryz.underlying25 rfl (ha0_2.now hS.fr)) rfl ?_
   refine wpR_run 3 rfl ?_
   cases hb_4 : (decide ((32 : Int) ≤ (a0_2.length : Int)))
   case true =>
    have h := if_t h hb_4
    try simp only [hb_4]
    refine wpR_gv (t := 20) rfl rfl (OpV_fieldB (k := 2) Tryz.underlying27 rfl rfl nz25 rfl) rfl ?_
    refine wpR_gv (t := 20) rfl rfl (OpV_ldB Tryz.underlying25 rfl rfl (hS.bxc 0 rfl 2)) rfl ?_
    refine wpR_gv (t := 20) rfl rfl (OpV_len Tryz.underlying25 rfl (ha0_2.now hS.fr)) rfl ?_
    refine wpR_run 3 rfl ?_
    cases hb_5 : (decide ((a0_2.length : Int) ≤ 4096))
    case true =>
     have h := if_t h hb_5
     try simp only [hb_5]
     refine wpR_gv (t := 26) rfl rfl (OpV_fieldB (k := 3) Tryz.underlying27 rfl rfl nz25 rfl) rfl ?_
     refine wpR_gv (t := 26) rfl rfl (OpV_ldB Tryz.underlying25 rfl rfl (hS.bxc 0 rfl 3)) rfl ?_
     refine wpR_gv (t := 26) rfl rfl (OpV_fieldB (k := 4) Tryz.underlying27 rfl rfl nz25 rfl) rfl ?_
     refine wpR_gv (t := 26) rfl rfl (OpV_ldB Tryz.underlying25 rfl rfl (hS.bxc 0 rfl 4)) rfl ?_
     refine wpR_gv (t := 26) rfl rfl (OpV_fieldB (k := 5) Tryz.underlying27 rfl rfl nz25 rfl) rfl ?_
     refine wpR_gv (t := 26) rfl rfl (OpV_ldB Tryz.underlying25 rfl rfl (hS.bxc 0 rfl 5)) rfl ?_
     refine wpR_gv (t := 26) rfl rfl (OpV_fieldB (k := 6) Tryz.underlying27 rfl rfl nz25 rfl) rfl ?_
     refine wpR_gv (t := 26) rfl rfl (OpV_ldB Tryz.underlying25 rfl rfl (hS.bxc 0 rfl 6)) rfl ?_
     refine wpR_gx (t := 26) rfl rfl (OpX_lit (e := eV) (l := ([SV.of va0_3, SV.of va0_4, SV.of va0_5, SV.of va0_6] : List SV)) (vs := [va0_3, va0_4, va0_5, va0_6]) Tryz.underlying56 ti25 rfl rfl rfl (fl_eVc (ha0_3.now hS.fr).sv (fl_eVc (ha0_4.now hS.fr).sv (fl_eVc (ha0_5.now hS.fr).sv (fl_eVc (ha0_6.now hS.fr).sv rfl)))) (by decide) (by decide) hS) rfl ?_
     rintro v_6 w hS
     obtain ⟨x_8, hx_8, h⟩ := obind_some h
     refine wpR_gcall (t := 26) rfl rfl (by kernel_rfl) rfl (c_spki_unused _ [a0_3, a0_4, a0_5, a0_6] v_6 [SV.of va0_3, SV.of va0_4, SV.of va0_5, SV.of va0_6] (hS.ro 0 rfl).rp ⟨(ha0_3.now hS.fr).svrp, (ha0_4.now hS.fr).svrp, (ha0_5.now hS.fr).svrp, (ha0_6.now hS.fr).svrp, trivial⟩ _ hx_8) rfl ?_
     rintro _ w ⟨rfl, hS1⟩
     have hS := hS.call hS1
     simp only [List.cons_append, List.nil_append] at hS
     refine wpR_run 2 rfl ?_
     refine wpR_nil (QE_then_n (wpC_ret (QE_blk_r ?_)))
     refine QE_then_r ?_
     cases h
     exact QE_ret1 rfl rfl ⟨rfl, hS.pick [] (by decide) rfl⟩
    case false =>
     have h := if_f h hb_5
     try simp only [hb_5]
     refine wpR_run 12 rfl ?_
     refine wpR_nil (QE_then_n (wpC_ret (QE_blk_r ?_)))
     refine QE_then_r ?_
     cases h
     exact QE_ret1 rfl rfl ⟨rfl, hS.pick [] (by decide) rfl⟩
   case false =>
    have h := if_f h hb_4
    try simp only [hb_4]
    refine wpR_run 18 rfl ?_
    refine wpR_nil (QE_then_n (wpC_ret (QE_blk_r ?_)))
    refine QE_then_r ?_
    cases h
    exact QE_ret1 rfl rfl ⟨rfl, hS.pick [] (by decide) rfl⟩
  case false =>
   have h := if_f h hb_3
   try simp only [hb_3]
   refine wpR_run 24 rfl ?_
   refine wpR_nil (QE_then_n (wpC_ret (QE_blk_r ?_)))
   refine QE_then_r ?_
   cases h
   exact QE_ret1 rfl rfl ⟨rfl, hS.pick [] (by decide) rfl⟩
 have h := if_f h hb_24
 refine wpC_seq (wpC_region (wpR_run 2 rfl ?_))
 refine wpR_nil (QE_then_n ?_)
 refine wpC_cond rfl (fun hb_23 => ?_) (fun hb_23 => ?_)
 ·have h := if_t h hb_23
  refine wpC_seq (wpC_region (wpR_v (OpV_fieldB (k := 1) Tryz.underlying27 rfl rfl nz24 rfl) rfl ?_))
  refine wpR_v (OpV_ldB Tryz.underlying24 rfl rfl (hS.bxc 0 rfl 1)) rfl ?_
  refine wpR_run 2 rfl ?_
  cases hb_9 : (a0_1 == 0)
  case true =>
   have h := if_t h hb_9
   try simp only [hb_9]
   refine wpR_gv (t := 43) rfl rfl (OpV_fieldB (k := 2) Tryz.underlying27 rfl rfl nz25 rfl) rfl ?_
   refine wpR_gv (t := 43) rfl rfl (OpV_ldB Tryz.underlying25 rfl rfl (hS.bxc 0 rfl 2)) rfl ?_
   refine wpR_gv (t := 43) rfl rfl (OpV_fieldB (k := 5) Tryz.underlying27 rfl rfl nz25 rfl) rfl ?_
   refine wpR_gv (t := 43) rfl rfl (OpV_ldB Tryz.underlying25 rfl rfl (hS.bxc 0 rfl 5)) rfl ?_
   refine wpR_gv (t := 43) rfl rfl (OpV_fieldB (k := 6) Tryz.underlying27 rfl rfl nz25 rfl) rfl ?_
   refine wpR_gv (t := 43) rfl rfl (OpV_ldB Tryz.underlying25 rfl rfl (hS.bxc 0 rfl 6)) rfl ?_
   refine wpR_gx (t := 43) rfl rfl (OpX_lit (e := eV) (l := ([SV.of va0_2, SV.of va0_5, SV.of va0_6] : List SV)) (vs := [va0_2, va0_5, va0_6]) Tryz.underlying56 ti25 rfl rfl rfl (fl_eVc (ha0_2.now hS.fr).sv (fl_eVc (ha0_5.now hS.fr).sv (fl_eVc (ha0_6.now hS.fr).sv rfl))) (by decide) (by decide) hS) rfl ?_
   rintro v_10 w hS
   obtain ⟨x_12, hx_12, h⟩ := obind_some h
   refine wpR_gcall (t := 43) rfl rfl (by kernel_rfl) rfl (c_spki_unused _ [a0_2, a0_5, a0_6] v_10 [SV.of va0_2, SV.of va0_5, SV.of va0_6] (hS.ro 0 rfl).rp ⟨(ha0_2.now hS.fr).svrp, (ha0_5.now hS.fr).svrp, (ha0_6.now hS.fr).svrp, trivial⟩ _ hx_12) rfl ?_
   rintro _ w ⟨rfl, hS1⟩
   have hS := hS.call hS1
   simp only [List.cons_append, List.nil_append] at hS
   refine wpR_run 2 rfl ?_
   cases hb_13 : x_12
   case true =>
    have h := if_t h hb_13
    try simp only [hb_13]
    refine wpR_gv (t := 53) rfl rfl (OpV_fieldB (k := 3) Tryz.underlying27 rfl rfl nz25 rfl) rfl ?_
    refine wpR_gv (t := 53) rfl rfl (OpV_ldB Tryz.underlying25 rfl rfl (hS.bxc 1 rfl 3)) rfl ?_
    refine wpR_gv (t := 53) rfl rfl (OpV_fieldB (k := 4) Tryz.underlying27 rfl rfl nz25 rfl) rfl ?_
    refine wpR_gv (t := 53) rfl rfl (OpV_ldB Tryz.underlying25 rfl rfl (hS.bxc 1 rfl 4)) rfl ?_
    cases h
   case false =>
    have h := if_f h hb_13
    try simp only [hb_13]
    refine wpR_run 8 rfl ?_
    refine wpR_nil (QE_then_n (wpC_ret (QE_blk_r ?_)))
    refine QE_then_r ?_
    cases h
    exact QE_ret1 rfl rfl ⟨rfl, hS.pick [] (by decide) rfl⟩
  case false =>
   have h := if_f h hb_9
   try simp only [hb_9]
   refine wpR_run 18 rfl ?_
   refine wpR_nil (QE_then_n (wpC_ret (QE_blk_r ?_)))
   refine QE_then_r ?_
   cases h
   exact QE_ret1 rfl rfl ⟨rfl, hS.pick [] (by decide) rfl⟩
 have h := if_f h hb_23
 refine wpC_seq (wpC_region (wpR_run 2 rfl ?_))
 refine wpR_nil (QE_then_n ?_)
 refine wpC_cond rfl (fun hb_22 => ?_) (fun hb_22 => ?_)
 ·have h := if_t h hb_22
  refine wpC_seq (wpC_region (wpR_v (OpV_fieldB (k := 1) Tryz.underlying27 rfl rfl nz24 rfl) rfl ?_))
  refine wpR_v (OpV_ldB Tryz.underlying24 rfl rfl (hS.bxc 0 rfl 1)) rfl ?_
  refine wpR_v (OpV_fieldB (k := 5) Tryz.underlying27 rfl rfl nz25 rfl) rfl ?_
  refine wpR_v (OpV_ldB Tryz.underlying25 rfl rfl (hS.bxc 0 rfl 5)) rfl ?_
  refine wpR_v (OpV_fieldB (k := 6) Tryz.underlying27 rfl rfl nz25 rfl) rfl ?_
  refine wpR_v (OpV_ldB Tryz.underlying25 rfl rfl (hS.bxc 0 rfl 6)) rfl ?_
  cases h
 have h := if_f h hb_22
 refine wpC_seq (wpC_region (wpR_run 2 rfl ?_))
 refine wpR_nil (QE_then_n ?_)
 refine wpC_cond rfl (fun hb_21 => ?_) (fun hb_21 => ?_)
 ·have h := if_t h hb_21
  refine wpC_seq ?_
  refine seq_join (r := r) (fun (g : Bool) L w => L = [(1, pB b_1 0), (102, vB g)] ∧ St [] w0 w [OE.bx b_1 [vI a0_0, vI a0_1, va0_2, va0_3, va0_4, va0_5, va0_6]]) (F.spki_good_K1) ?_ ?_
  rotate_left
  ·intro hK_19
   refine wpC_region (wpR_v (OpV_fieldB (k := 1) Tryz.underlying27 rfl rfl nz24 rfl) rfl ?_)
   refine wpR_v (OpV_ldB Tryz.underlying24 rfl rfl (hS.bxc 0 rfl 1)) rfl ?_
   refine wpR_run 2 rfl ?_
   cases hb_14 : (a0_1 != 3)
   case true =>
    have h := if_t h hb_14
    try simp only [hb_14]
    refine wpR_run 12 rfl ?_
    refine wpR_nil (QE_then_n ?_)
    exact wpC_le _ (by exact ⟨rfl, rfl, trivial⟩) (hK_19 true _ _ ⟨rfl, hS⟩ h)
   case false =>
    have h := if_f h hb_14
    try simp only [hb_14]
    refine wpR_gv (t := 90) rfl rfl (OpV_fieldB (k := 2) Tryz.underlying27 rfl rfl nz25 rfl) rfl ?_
    refine wpR_gv (t := 90) rfl rfl (OpV_ldB Tryz.underlying25 rfl rfl (hS.bxc 0 rfl 2)) rfl ?_
    refine wpR_gv (t := 90) rfl rfl (OpV_fieldB (k := 3) Tryz.underlying27 rfl rfl nz25 rfl) rfl ?_
    refine wpR_gv (t := 90) rfl rfl (OpV_ldB Tryz.underlying25 rfl rfl (hS.bxc 0 rfl 3)) rfl ?_
    refine wpR_gv (t := 90) rfl rfl (OpV_fieldB (k := 4) Tryz.underlying27 rfl rfl nz25 rfl) rfl ?_
    refine wpR_gv (t := 90) rfl rfl (OpV_ldB Tryz.underlying25 rfl rfl (hS.bxc 0 rfl 4)) rfl ?_
    refine wpR_gv (t := 90) rfl rfl (OpV_fieldB (k := 6) Tryz.underlying27 rfl rfl nz25 rfl) rfl ?_
    refine wpR_gv (t := 90) rfl rfl (OpV_ldB Tryz.underlying25 rfl rfl (hS.bxc 0 rfl 6)) rfl ?_
    refine wpR_gx (t := 90) rfl rfl (OpX_lit (e := eV) (l := ([SV.of va0_2, SV.of va0_3, SV.of va0_4, SV.of va0_6] : List SV)) (vs := [va0_2, va0_3, va0_4, va0_6]) Tryz.underlying56 ti25 rfl rfl rfl (fl_eVc (ha0_2.now hS.fr).sv (fl_eVc (ha0_3.now hS.fr).sv (fl_eVc (ha0_4.now hS.fr).sv (fl_eVc (ha0_6.now hS.fr).sv rfl)))) (by decide) (by decide) hS) rfl ?_
    rintro v_15 w hS
    obtain ⟨x_17, hx_17, h⟩ := obind_some h
    refine wpR_gcall (t := 90) rfl rfl (by kernel_rfl) rfl (c_spki_unused _ [a0_2, a0_3, a0_4, a0_6] v_15 [SV.of va0_2, SV.of va0_3, SV.of va0_4, SV.of va0_6] (hS.ro 0 rfl).rp ⟨(ha0_2.now hS.fr).svrp, (ha0_3.now hS.fr).svrp, (ha0_4.now hS.fr).svrp, (ha0_6.now hS.fr).svrp, trivial⟩ _ hx_17) rfl ?_
    rintro _ w ⟨rfl, hS1⟩
    have hS := hS.call hS1
    simp only [List.cons_append, List.nil_append] at hS
    refine wpR_run 2 rfl ?_
    refine wpR_nil (QE_then_n ?_)
    exact wpC_le _ (by exact ⟨rfl, rfl, trivial⟩) (hK_19 (!x_17) _ _ ⟨rfl, (hS.pick [1] (by decide) rfl)⟩ h)
  rintro x_18 L w hJ h
  try dsimp only at hJ
  obtain ⟨rfl, hS⟩ := hJ
  unfold F.spki_good_K1 at h
  refine wpC_cond rfl (fun hb_20 => ?_) (fun hb_20 => ?_)
  ·have h := if_t h hb_20
   refine wpC_seq (wpC_region (wpR_run 1 rfl ?_))
   refine wpR_nil (QE_then_n (wpC_ret (QE_then_r (QE_blk_r ?_))))
   refine QE_then_r ?_
   cases h
   exact QE_ret1 rfl rfl ⟨rfl, hS.pick [] (by decide) rfl⟩
  have h := if_f h hb_20
  refine wpC_skip (QE_then_n (wpC_seq (wpC_region (wpR_v (OpV_fieldB (k := 5) Tryz.underlying27 rfl rfl nz25 rfl) rfl ?_))))
  refine wpR_v (OpV_ldB Tryz.underlying25 rfl rfl (hS.bxc 0 rfl 5)) rfl ?_
  cases h
 have h := if_f h hb_21
 refine wpC_skip (QE_blk_n ?_)
 refine QE_then_n (wpC_seq (wpC_region (wpR_run 1 rfl ?_)))
 refine wpR_nil (QE_then_n (wpC_ret ?_))
 cases h
 exact QE_ret1 rfl rfl ⟨rfl, hS.pick [] (by decide) rfl⟩
theorem c_spki_Check (w0 : World) (a0_0 : Int) (a0_1 : Int) (a0_2 : List UInt8) (a0_3 : List UInt8) (a0_4 : List UInt8) (a0_5 : List UInt8) (a0_6 : List UInt8) (va0_2 : Value) (va0_3 : Value) (va0_4 : Value) (va0_5 : Value) (va0_6 : Value) (ha0_2 : RP [] w0 e8 va0_2 a0_2) (ha0_3 : RP [] w0 e8 va0_3 a0_3) (ha0_4 : RP [] w0 e8 va0_4 a0_4) (ha0_5 : RP [] w0 e8 va0_5 a0_5) (ha0_6 : RP [] w0 e8 va0_6 a0_6) (r : Int)
  (h : F.spki_Check a0_0 a0_1 a0_2 a0_3 a0_4 a0_5 a0_6 = some r) : Calls Tryz.prog 29 #[.agg #[vI a0_0, vI a0_1, va0_2, va0_3, va0_4, va0_5, va0_6]] w0 (Ret fun v w => v = vI r ∧ St [] w0 w []) := by
 refine calls_at 5 Tryz.func29 rfl rfl rfl ?_
 have hS := St.start w0
 refine wpC_le [(0, .agg #[vI a0_0, vI a0_1, va0_2, va0_3, va0_4, va0_5, va0_6])] ⟨rfl, trivial⟩ ?_
 unfold F.spki_Check at h
 refine wpC_seq (wpC_region (wpR_x (OpX_box (cs := [vI a0_0, vI a0_1, va0_2, va0_3, va0_4, va0_5, va0_6]) rfl rfl hS) rfl ?_))
 rintro _ w ⟨b_1, rfl, hS⟩
 refine wpR_run 1 rfl ?_
 refine wpR_nil (QE_then_n (wpC_seq (wpC_seq (wpC_region (wpR_v (OpV_ldBs (us := [vI a0_0, vI a0_1, va0_2, va0_3, va0_4, va0_5, va0_6]) Tryz.underlying27 rfl sz27 rfl (hS.bxs 0 rfl rfl)) rfl ?_)))))
 obtain ⟨x_3, hx_3, h⟩ := obind_some h
 refine wpR_call (by kernel_rfl) rfl (c_spki_good _ a0_0 a0_1 a0_2 a0_3 a0_4 a0_5 a0_6 va0_2 va0_3 va0_4 va0_5 va0_6  (ha0_2.now hS.fr).rp (ha0_3.now hS.fr).rp (ha0_4.now hS.fr).rp (ha0_5.now hS.fr).rp (ha0_6.now hS.fr).rp _ hx_3) rfl ?_
 rintro _ w ⟨rfl, hS1⟩
 have hS := hS.call hS1
 simp only [List.cons_append, List.nil_append] at hS
 refine wpR_nil (QE_then_n ?_)
 refine wpC_cond rfl (fun hb_4 => ?_) (fun hb_4 => ?_)
 ·have h := if_t h hb_4
  refine wpC_seq (wpC_region (wpR_run 1 rfl ?_))
  refine wpR_nil (QE_then_n (wpC_ret (QE_then_r ?_)))
  cases h
  exact QE_ret1 rfl rfl ⟨rfl, hS.pick [] (by decide) rfl⟩
 have h := if_f h hb_4
 refine wpC_skip (QE_then_n (wpC_seq (wpC_region (wpR_run 1 rfl ?_))))
 refine wpR_nil (QE_then_n (wpC_ret ?_))
 cases h
 exact QE_ret1 rfl rfl ⟨rfl, hS.pick [] (by decide) rfl⟩
end Go.Proofs
