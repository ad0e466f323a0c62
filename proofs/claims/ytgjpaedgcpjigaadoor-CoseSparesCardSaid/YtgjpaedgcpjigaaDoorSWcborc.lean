import Derived.Test.YtgjpaedgcpjigaaDoorSW0
import Derived.Test.YtgjpaedgcpjigaaDoorGkFcbor
import Derived.Test.YtgjpaedgcpjigaaDoorSWcborb
set_option linter.unusedVariables false
set_option linter.unusedSimpArgs false
set_option linter.unusedVariables false
set_option maxRecDepth 4000
namespace Go.Proofs
open Go Go.RowKit Go.Gk
theorem c_cbor_Member (w0 : World) (a0 : List (Int × UInt64 × (List UInt8) × Int)) (a1 : Int) (a2 : List (Int × UInt64 × (List UInt8) × Int)) (va0 : Value) (va2 : Value) (hT : TB [] w0) (ha0 : RP [] w0 (eP eI (eP e64 (eP eS eI))) va0 a0) (ha2 : RP [] w0 (eP eI (eP e64 (eP eS eI))) va2 a2) (r : Int)
  (h : F.cbor_Member a0 a1 a2 = some r) : Calls Tryd.prog 27 #[va0, vI a1, va2] w0 (Ret fun v w => v = vI r ∧ St [] w0 w []) := by
 refine calls_at 54 Tryd.func27 rfl rfl rfl ?_
 have hS := St.start w0
 refine wpC_le [(0, va0), (1, vI a1), (2, va2)] ⟨rfl, rfl, rfl, trivial⟩ ?_
 unfold F.cbor_Member at h
 refine wpC_seq (wpC_region (wpR_run 1 rfl ?_))
 refine wpR_nil (QE_then_n (wpC_seq ?_))
 refine seq_join (r := r) (fun (g : Bool) L w => L = [(0, va0), (1, vI a1), (2, va2), (29, vB g)] ∧ St [] w0 w []) (F.cbor_Member_K1 a0 a1 a2) ?_ ?_
 rotate_left
 ·intro hK_7
  refine wpC_region (wpR_run 3 rfl ?_)
  cases hb_1 : (decide (a1 < 0))
  case true =>
   have h := if_t h hb_1
   try simp only [hb_1]
   refine wpR_run 18 rfl ?_
   refine wpR_nil (QE_then_n ?_)
   exact wpC_le _ (by exact ⟨rfl, rfl, rfl, rfl, trivial⟩) (hK_7 true _ _ ⟨rfl, hS⟩ h)
  case false =>
   have h := if_f h hb_1
   try simp only [hb_1]
   refine wpR_run 2 rfl ?_
   refine wpR_gv (t := 11) rfl rfl (OpV_len Tryd.underlying37 rfl (ha0.now hS.fr)) rfl ?_
   refine wpR_run 3 rfl ?_
   cases hb_2 : (decide ((a0.length : Int) ≤ a1))
   case true =>
    have h := if_t h hb_2
    try simp only [hb_2]
    refine wpR_run 12 rfl ?_
    refine wpR_nil (QE_then_n ?_)
    exact wpC_le _ (by exact ⟨rfl, rfl, rfl, rfl, trivial⟩) (hK_7 true _ _ ⟨rfl, hS⟩ h)
   case false =>
    have h := if_f h hb_2
    try simp only [hb_2]
    refine wpR_run 2 rfl ?_
    obtain ⟨x_3, hx_3, h⟩ := obind_some h
    refine wpR_gv (t := 17) rfl rfl (G_ix Tryd.underlying37 ti42 rfl rfl (ha0.now hS.fr) hx_3) rfl ?_
    refine wpR_gv (t := 17) rfl rfl (OpV_fieldE (k := 0) Tryd.underlying42 rfl rfl nz3 rfl) rfl ?_
    refine wpR_gv (t := 17) rfl rfl (G_loadF Tryd.underlying3 rfl rfl (ha0.now hS.fr) hx_3 rfl rfl) rfl ?_
    refine wpR_run 3 rfl ?_
    cases hb_4 : (x_3.1 != 5)
    case true =>
     have h := if_t h hb_4
     try simp only [hb_4]
     refine wpR_run 4 rfl ?_
     refine wpR_nil (QE_then_n ?_)
     exact wpC_le _ (by exact ⟨rfl, rfl, rfl, rfl, trivial⟩) (hK_7 true _ _ ⟨rfl, hS⟩ h)
    case false =>
     have h := if_f h hb_4
     try simp only [hb_4]
     refine wpR_run 1 rfl ?_
     obtain ⟨x_5, hx_5, h⟩ := obind_some h
     refine wpR_gcall (t := 25) rfl rfl (by kernel_rfl) rfl (c_cbor_Shaped _ a0 va0  (hT.now hS.fr) (ha0.now hS.fr).rp _ hx_5) rfl ?_
     rintro _ w ⟨rfl, hS1⟩
     have hS := hS.call hS1
     simp only [List.cons_append, List.nil_append] at hS
     refine wpR_run 2 rfl ?_
     refine wpR_nil (QE_then_n ?_)
     exact wpC_le _ (by exact ⟨rfl, rfl, rfl, rfl, trivial⟩) (hK_7 (!x_5) _ _ ⟨rfl, hS⟩ h)
 rintro x_6 L w hJ h
 try dsimp only at hJ
 obtain ⟨rfl, hS⟩ := hJ
 unfold F.cbor_Member_K1 at h
 refine wpC_cond rfl (fun hb_21 => ?_) (fun hb_21 => ?_)
 ·have h := if_t h hb_21
  refine wpC_seq (wpC_region (wpR_run 1 rfl ?_))
  refine wpR_nil (QE_then_n (wpC_ret (QE_then_r ?_)))
  cases h
  exact QE_ret1 rfl rfl ⟨rfl, hS⟩
 have h := if_f h hb_21
 refine wpC_skip (QE_then_n (wpC_seq (wpC_region (wpR_run 3 rfl ?_))))
 refine wpR_nil (QE_then_n (wpC_seq (wpC_seq (wpC_region (wpR_run 2 rfl ?_)))))
 obtain ⟨x_8, hx_8, h⟩ := obind_some h
 refine wpR_v (G_ix Tryd.underlying37 ti42 rfl rfl (ha0.now hS.fr) hx_8) rfl ?_
 refine wpR_v (OpV_fieldE (k := 3) Tryd.underlying42 rfl rfl nz3 rfl) rfl ?_
 refine wpR_v (G_loadF Tryd.underlying3 rfl rfl (ha0.now hS.fr) hx_8 rfl rfl) rfl ?_
 refine wpR_v (OpV_bin rfl rfl (b_iquo _ x_8.2.2.2 2 (by decide))) rfl ?_
 refine wpR_run 1 rfl ?_
 refine wpR_nil (QE_then_n (wpC_block ?_))
 refine wpC_le [(0, va0), (2, va2), (7, vI (wI (a1 + 1))), (37, vI (wI (Int.tdiv x_8.2.2.2 2))), (38, vI 0)] ⟨rfl, rfl, rfl, rfl, rfl, trivial⟩ ?_
 refine loop_ind (F.cbor_Member_L1 a0 a2 x_8) (fun (s : Int × Int) L w => L = [(0, va0), (2, va2), (7, vI s.1), (37, vI (wI (Int.tdiv x_8.2.2.2 2))), (38, vI s.2)] ∧ St [] w0 w []) ?_ (wI (a1 + 1), 0) ⟨rfl, hS⟩ h
 rintro k_20 ⟨x_9, x_10⟩ L w q_13 hI ih_12 h hk_11
 try dsimp only at hI
 obtain ⟨rfl, hS⟩ := hI
 unfold F.cbor_Member_L1 at h
 refine wpC_seq (wpC_region (wpR_run 1 rfl ?_))
 refine wpR_nil (QE_then_n (wpC_seq ?_))
 refine wpC_cond rfl (fun hb_19 => ?_) (fun hb_19 => ?_)
 ·have h := if_t h hb_19
  refine wpC_skip (QE_then_n (wpC_seq (wpC_block ?_)))
  refine wpC_seq (wpC_region (wpR_run 2 rfl ?_))
  obtain ⟨x_14, hx_14, h⟩ := obind_some h
  refine wpR_call (by kernel_rfl) rfl (c_cbor_behind _ a0 x_9 va0  (ha0.now hS.fr).rp _ hx_14) rfl ?_
  rintro _ w ⟨rfl, hS1⟩
  have hS := hS.call hS1
  simp only [List.cons_append, List.nil_append] at hS
  refine wpR_run 1 rfl ?_
  refine wpR_nil (QE_then_n (wpC_seq (wpC_seq (wpC_region (wpR_run 3 rfl ?_)))))
  obtain ⟨x_15, hx_15, h⟩ := obind_some h
  refine wpR_v (G_sl Tryd.underlying37 ti42 rfl rfl rfl (ha0.now hS.fr) hx_15) rfl ?_
  refine wpR_run 1 rfl ?_
  obtain ⟨x_16, hx_16, h⟩ := obind_some h
  refine wpR_call (by kernel_rfl) rfl (c_cbor_same _ x_15 a2 (slV va0 (eP eI (eP e64 (eP eS eI))).sz ((x_9 : Int).toNat) ((x_14 : Int).toNat)) va2  ((ha0.g_sl hx_15).now hS.fr).rp (ha2.now hS.fr).rp _ hx_16) rfl ?_
  rintro _ w ⟨rfl, hS1⟩
  have hS := hS.call hS1
  simp only [List.cons_append, List.nil_append] at hS
  refine wpR_nil (QE_then_n ?_)
  refine wpC_cond rfl (fun hb_18 => ?_) (fun hb_18 => ?_)
  ·have h := if_t h hb_18
   refine wpC_seq (wpC_region (wpR_run 2 rfl ?_))
   refine wpR_nil (QE_then_n (wpC_ret (QE_then_r (QE_blk_r ?_))))
   refine QE_then_r (QE_then_r ?_)
   have h := oinr_some h hk_11
   refine QE_blk_r ?_
   refine QE_then_r ?_
   cases h
   exact QE_ret1 rfl rfl ⟨rfl, hS⟩
  have h := if_f h hb_18
  refine wpC_skip (QE_then_n (wpC_region (wpR_run 2 rfl ?_)))
  obtain ⟨x_17, hx_17, h⟩ := obind_some h
  refine wpR_call (by kernel_rfl) rfl (c_cbor_behind _ a0 x_14 va0  (ha0.now hS.fr).rp _ hx_17) rfl ?_
  rintro _ w ⟨rfl, hS1⟩
  have hS := hS.call hS1
  simp only [List.cons_append, List.nil_append] at hS
  refine wpR_run 1 rfl ?_
  refine wpR_nil (QE_blk_n ?_)
  refine QE_then_n (wpC_region (wpR_run 2 rfl ?_))
  refine wpR_nil ?_
  exact QE_rnd (wpN_le _ (by exact ⟨rfl, rfl, rfl, rfl, rfl, trivial⟩) (ih_12 (x_17, wI (x_10 + 1)) _ _ ⟨rfl, hS⟩ (oinl_some h hk_11)))
 have h := if_f h hb_19
 refine wpC_exit ?_
 refine QE_then_x (QE_then_x ?_)
 have h := oinr_some h hk_11
 refine QE_blk_x ?_
 refine QE_then_n (wpC_seq (wpC_region (wpR_run 1 rfl ?_)))
 refine wpR_nil (QE_then_n (wpC_ret ?_))
 cases h
 exact QE_ret1 rfl rfl ⟨rfl, hS⟩
theorem c_cbor_Behind (w0 : World) (a0 : List (Int × UInt64 × (List UInt8) × Int)) (a1 : Int) (va0 : Value) (hT : TB [] w0) (ha0 : RP [] w0 (eP eI (eP e64 (eP eS eI))) va0 a0) (r : Int)
  (h : F.cbor_Behind a0 a1 = some r) : Calls Tryd.prog 19 #[va0, vI a1] w0 (Ret fun v w => v = vI r ∧ St [] w0 w []) := by
 refine calls_at 21 Tryd.func19 rfl rfl rfl ?_
 have hS := St.start w0
 refine wpC_le [(0, va0), (1, vI a1)] ⟨rfl, rfl, trivial⟩ ?_
 unfold F.cbor_Behind at h
 refine wpC_seq (wpC_region (wpR_run 1 rfl ?_))
 refine wpR_nil (QE_then_n (wpC_seq ?_))
 refine seq_join (r := r) (fun (g : Bool) L w => L = [(0, va0), (1, vI a1), (17, vB g)] ∧ St [] w0 w []) (F.cbor_Behind_K1 a0 a1) ?_ ?_
 rotate_left
 ·intro hK_5
  refine wpC_region (wpR_run 3 rfl ?_)
  cases hb_1 : (decide (a1 < 0))
  case true =>
   have h := if_t h hb_1
   try simp only [hb_1]
   refine wpR_run 10 rfl ?_
   refine wpR_nil (QE_then_n ?_)
   exact wpC_le _ (by exact ⟨rfl, rfl, rfl, trivial⟩) (hK_5 true _ _ ⟨rfl, hS⟩ h)
  case false =>
   have h := if_f h hb_1
   try simp only [hb_1]
   refine wpR_run 2 rfl ?_
   refine wpR_gv (t := 7) rfl rfl (OpV_len Tryd.underlying37 rfl (ha0.now hS.fr)) rfl ?_
   refine wpR_run 3 rfl ?_
   cases hb_2 : (decide ((a0.length : Int) ≤ a1))
   case true =>
    have h := if_t h hb_2
    try simp only [hb_2]
    refine wpR_run 4 rfl ?_
    refine wpR_nil (QE_then_n ?_)
    exact wpC_le _ (by exact ⟨rfl, rfl, rfl, trivial⟩) (hK_5 true _ _ ⟨rfl, hS⟩ h)
   case false =>
    have h := if_f h hb_2
    try simp only [hb_2]
    refine wpR_run 1 rfl ?_
    obtain ⟨x_3, hx_3, h⟩ := obind_some h
    refine wpR_gcall (t := 13) rfl rfl (by kernel_rfl) rfl (c_cbor_Shaped _ a0 va0  (hT.now hS.fr) (ha0.now hS.fr).rp _ hx_3) rfl ?_
    rintro _ w ⟨rfl, hS1⟩
    have hS := hS.call hS1
    simp only [List.cons_append, List.nil_append] at hS
    refine wpR_run 2 rfl ?_
    refine wpR_nil (QE_then_n ?_)
    exact wpC_le _ (by exact ⟨rfl, rfl, rfl, trivial⟩) (hK_5 (!x_3) _ _ ⟨rfl, hS⟩ h)
 rintro x_4 L w hJ h
 try dsimp only at hJ
 obtain ⟨rfl, hS⟩ := hJ
 unfold F.cbor_Behind_K1 at h
 refine wpC_cond rfl (fun hb_7 => ?_) (fun hb_7 => ?_)
 ·have h := if_t h hb_7
  refine wpC_seq (wpC_region (wpR_run 1 rfl ?_))
  refine wpR_nil (QE_then_n (wpC_ret (QE_then_r ?_)))
  cases h
  exact QE_ret1 rfl rfl ⟨rfl, hS⟩
 have h := if_f h hb_7
 refine wpC_skip (QE_then_n (wpC_seq (wpC_region (wpR_run 2 rfl ?_))))
 obtain ⟨x_6, hx_6, h⟩ := obind_some h
 refine wpR_call (by kernel_rfl) rfl (c_cbor_behind _ a0 a1 va0  (ha0.now hS.fr).rp _ hx_6) rfl ?_
 rintro _ w ⟨rfl, hS1⟩
 have hS := hS.call hS1
 simp only [List.cons_append, List.nil_append] at hS
 refine wpR_run 1 rfl ?_
 refine wpR_nil (QE_then_n (wpC_ret ?_))
 cases h
 exact QE_ret1 rfl rfl ⟨rfl, hS⟩
end Go.Proofs
