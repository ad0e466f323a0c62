import Derived.Test.YtgjpaedgcpjigaaDoorSW0
import Derived.Test.YtgjpaedgcpjigaaDoorGkFcbor
import Derived.Test.YtgjpaedgcpjigaaDoorSWcbora
import Derived.Test.YtgjpaedgcpjigaaDoorSWlib
set_option linter.unusedVariables false
set_option linter.unusedSimpArgs false
set_option linter.unusedVariables false
set_option maxRecDepth 4000
namespace Go.Proofs
open Go Go.RowKit Go.Gk
theorem c_cbor_head (w0 : World) (a0 : List UInt8) (a1 : Int) (a2 : UInt64) (va0 : Value) (S : List Nat) (hS : St S w0 w0 [own e8 va0 a0]) (r : List UInt8)
  (h : F.cbor_head a0 a1 a2 = some r) : Calls Tryd.prog 57 #[va0, vI a1, v64 a2] w0 (Ret fun v w => ∃ u0 : Value, v = u0 ∧ St S w0 w [own e8 u0 r]) := by
 refine calls_at 73 Tryd.func57 rfl rfl rfl ?_
 refine wpC_le [(0, va0), (1, vI a1), (2, v64 a2)] ⟨rfl, rfl, rfl, trivial⟩ ?_
 unfold F.cbor_head at h
 refine wpC_seq (wpC_region (wpR_run 1 rfl ?_))
 refine wpR_nil (QE_then_n (wpC_seq (wpC_region (wpR_run 1 rfl ?_))))
 refine wpR_v (OpV_bin rfl rfl (b_ishl64 _ a1 5)) rfl ?_
 refine wpR_v (OpV_conv rfl (cv_i_8 Tryd.underlying3 Tryd.underlying5 (iShl a1 5))) rfl ?_
 refine wpR_run 1 rfl ?_
 refine wpR_nil (QE_then_n (wpC_seq (wpC_region (wpR_x (OpX_alloc (cs := [v8 0, v8 0, v8 0, v8 0, v8 0, v8 0, v8 0, v8 0]) tz126 rfl hS) rfl ?_))))
 rintro _ w ⟨b_2, rfl, hS⟩
 refine wpR_nil (QE_then_n (wpC_seq (wpC_seq (wpC_region (wpR_run 1 rfl ?_)))))
 refine wpR_nil (QE_then_n (wpC_block ?_))
 refine wpC_loop 100 ?_
 refine wpN_succ ?_
 refine wpC_seq (wpC_region (wpR_v (OpV_bin rfl rfl (b_ilss _ 0 8)) rfl ?_))
 refine wpR_nil (QE_then_n (wpC_seq (wpC_condT rfl ?_)))
 refine wpC_skip (QE_then_n (wpC_seq (wpC_block ?_)))
 refine wpC_seq (wpC_region (wpR_run 2 rfl ?_))
 refine wpR_nil (QE_then_n (wpC_region (wpR_run 3 rfl ?_)))
 refine wpR_v (OpV_bin rfl rfl (b_imul _ 8 0)) rfl ?_
 refine wpR_v (OpV_bin rfl rfl (b_isub _ 56 0)) rfl ?_
 refine wpR_v (OpV_bin rfl rfl (b_shr64_i _ a2 56 (by decide))) rfl ?_
 refine wpR_v (OpV_conv rfl (cv_64_8 Tryd.underlying40 Tryd.underlying5 (shr64 a2 56))) rfl ?_
 refine wpR_v (OpV_ixB Tryd.underlying126 sz5 rfl rfl (by decide) (by decide)) rfl ?_
 refine wpR_y (OpY_stB (i := 0) (us := [v8 ((shr64 a2 56).toUInt8)]) rfl sz5 rfl rfl rfl ⟨rfl, trivial⟩ rfl hS) ?_
 intro w hS
 replace hS : St _ w0 w [OE.bx b_2 [v8 ((shr64 a2 56).toUInt8), v8 0, v8 0, v8 0, v8 0, v8 0, v8 0, v8 0], own e8 va0 a0] := hS
 refine wpR_nil (QE_blk_n ?_)
 refine QE_then_n (wpC_region (wpR_v (OpV_bin rfl rfl (b_iadd _ 0 1)) rfl ?_))
 refine wpR_run 1 rfl ?_
 refine wpR_nil (QE_rnd ?_)
 refine wpN_succ ?_
 refine wpC_seq (wpC_region (wpR_v (OpV_bin rfl rfl (b_ilss _ 1 8)) rfl ?_))
 refine wpR_nil (QE_then_n (wpC_seq (wpC_condT rfl ?_)))
 refine wpC_skip (QE_then_n (wpC_seq (wpC_block ?_)))
 refine wpC_seq (wpC_region (wpR_run 2 rfl ?_))
 refine wpR_nil (QE_then_n (wpC_region (wpR_run 3 rfl ?_)))
 refine wpR_v (OpV_bin rfl rfl (b_imul _ 8 1)) rfl ?_
 refine wpR_v (OpV_bin rfl rfl (b_isub _ 56 8)) rfl ?_
 refine wpR_v (OpV_bin rfl rfl (b_shr64_i _ a2 48 (by decide))) rfl ?_
 refine wpR_v (OpV_conv rfl (cv_64_8 Tryd.underlying40 Tryd.underlying5 (shr64 a2 48))) rfl ?_
 refine wpR_v (OpV_ixB Tryd.underlying126 sz5 rfl rfl (by decide) (by decide)) rfl ?_
 refine wpR_y (OpY_stB (i := 0) (us := [v8 ((shr64 a2 48).toUInt8)]) rfl sz5 rfl rfl rfl ⟨rfl, trivial⟩ rfl hS) ?_
 intro w hS
 replace hS : St _ w0 w [OE.bx b_2 [v8 ((shr64 a2 56).toUInt8), v8 ((shr64 a2 48).toUInt8), v8 0, v8 0, v8 0, v8 0, v8 0, v8 0], own e8 va0 a0] := hS
 refine wpR_nil (QE_blk_n ?_)
 refine QE_then_n (wpC_region (wpR_v (OpV_bin rfl rfl (b_iadd _ 1 1)) rfl ?_))
 refine wpR_run 1 rfl ?_
 refine wpR_nil (QE_rnd ?_)
 refine wpN_succ ?_
 refine wpC_seq (wpC_region (wpR_v (OpV_bin rfl rfl (b_ilss _ 2 8)) rfl ?_))
 refine wpR_nil (QE_then_n (wpC_seq (wpC_condT rfl ?_)))
 refine wpC_skip (QE_then_n (wpC_seq (wpC_block ?_)))
 refine wpC_seq (wpC_region (wpR_run 2 rfl ?_))
 refine wpR_nil (QE_then_n (wpC_region (wpR_run 3 rfl ?_)))
 refine wpR_v (OpV_bin rfl rfl (b_imul _ 8 2)) rfl ?_
 refine wpR_v (OpV_bin rfl rfl (b_isub _ 56 16)) rfl ?_
 refine wpR_v (OpV_bin rfl rfl (b_shr64_i _ a2 40 (by decide))) rfl ?_
 refine wpR_v (OpV_conv rfl (cv_64_8 Tryd.underlying40 Tryd.underlying5 (shr64 a2 40))) rfl ?_
 refine wpR_v (OpV_ixB Tryd.underlying126 sz5 rfl rfl (by decide) (by decide)) rfl ?_
 refine wpR_y (OpY_stB (i := 0) (us := [v8 ((shr64 a2 40).toUInt8)]) rfl sz5 rfl rfl rfl ⟨rfl, trivial⟩ rfl hS) ?_
 intro w hS
 replace hS : St _ w0 w [OE.bx b_2 [v8 ((shr64 a2 56).toUInt8), v8 ((shr64 a2 48).toUInt8), v8 ((shr64 a2 40).toUInt8), v8 0, v8 0, v8 0, v8 0, v8 0], own e8 va0 a0] := hS
 refine wpR_nil (QE_blk_n ?_)
 refine QE_then_n (wpC_region (wpR_v (OpV_bin rfl rfl (b_iadd _ 2 1)) rfl ?_))
 refine wpR_run 1 rfl ?_
 refine wpR_nil (QE_rnd ?_)
 refine wpN_succ ?_
 refine wpC_seq (wpC_region (wpR_v (OpV_bin rfl rfl (b_ilss _ 3 8)) rfl ?_))
 refine wpR_nil (QE_then_n (wpC_seq (wpC_condT rfl ?_)))
 refine wpC_skip (QE_then_n (wpC_seq (wpC_block ?_)))
 refine wpC_seq (wpC_region (wpR_run 2 rfl ?_))
 refine wpR_nil (QE_then_n (wpC_region (wpR_run 3 rfl ?_)))
 refine wpR_v (OpV_bin rfl rfl (b_imul _ 8 3)) rfl ?_
 refine wpR_v (OpV_bin rfl rfl (b_isub _ 56 24)) rfl ?_
 refine wpR_v (OpV_bin rfl rfl (b_shr64_i _ a2 32 (by decide))) rfl ?_
 refine wpR_v (OpV_conv rfl (cv_64_8 Tryd.underlying40 Tryd.underlying5 (shr64 a2 32))) rfl ?_
 refine wpR_v (OpV_ixB Tryd.underlying126 sz5 rfl rfl (by decide) (by decide)) rfl ?_
 refine wpR_y (OpY_stB (i := 0) (us := [v8 ((shr64 a2 32).toUInt8)]) rfl sz5 rfl rfl rfl ⟨rfl, trivial⟩ rfl hS) ?_
 intro w hS
 replace hS : St _ w0 w [OE.bx b_2 [v8 ((shr64 a2 56).toUInt8), v8 ((shr64 a2 48).toUInt8), v8 ((shr64 a2 40).toUInt8), v8 ((shr64 a2 32).toUInt8), v8 0, v8 0, v8 0, v8 0], own e8 va0 a0] := hS
 refine wpR_nil (QE_blk_n ?_)
 refine QE_then_n (wpC_region (wpR_v (OpV_bin rfl rfl (b_iadd _ 3 1)) rfl ?_))
 refine wpR_run 1 rfl ?_
 refine wpR_nil (QE_rnd ?_)
 refine wpN_succ ?_
 refine wpC_seq (wpC_region (wpR_v (OpV_bin rfl rfl (b_ilss _ 4 8)) rfl ?_))
 refine wpR_nil (QE_then_n (wpC_seq (wpC_condT rfl ?_)))
 refine wpC_skip (QE_then_n (wpC_seq (wpC_block ?_)))
 refine wpC_seq (wpC_region (wpR_run 2 rfl ?_))
 refine wpR_nil (QE_then_n (wpC_region (wpR_run 3 rfl ?_)))
 refine wpR_v (OpV_bin rfl rfl (b_imul _ 8 4)) rfl ?_
 refine wpR_v (OpV_bin rfl rfl (b_isub _ 56 32)) rfl ?_
 refine wpR_v (OpV_bin rfl rfl (b_shr64_i _ a2 24 (by decide))) rfl ?_
 refine wpR_v (OpV_conv rfl (cv_64_8 Tryd.underlying40 Tryd.underlying5 (shr64 a2 24))) rfl ?_
 refine wpR_v (OpV_ixB Tryd.underlying126 sz5 rfl rfl (by decide) (by decide)) rfl ?_
 refine wpR_y (OpY_stB (i := 0) (us := [v8 ((shr64 a2 24).toUInt8)]) rfl sz5 rfl rfl rfl ⟨rfl, trivial⟩ rfl hS) ?_
 intro w hS
 replace hS : St _ w0 w [OE.bx b_2 [v8 ((shr64 a2 56).toUInt8), v8 ((shr64 a2 48).toUInt8), v8 ((shr64 a2 40).toUInt8), v8 ((shr64 a2 32).toUInt8), v8 ((shr64 a2 24).toUInt8), v8 0, v8 0, v8 0], own e8 va0 a0] := hS
 refine wpR_nil (QE_blk_n ?_)
 refine QE_then_n (wpC_region (wpR_v (OpV_bin rfl rfl (b_iadd _ 4 1)) rfl ?_))
 refine wpR_run 1 rfl ?_
 refine wpR_nil (QE_rnd ?_)
 refine wpN_succ ?_
 refine wpC_seq (wpC_region (wpR_v (OpV_bin rfl rfl (b_ilss _ 5 8)) rfl ?_))
 refine wpR_nil (QE_then_n (wpC_seq (wpC_condT rfl ?_)))
 refine wpC_skip (QE_then_n (wpC_seq (wpC_block ?_)))
 refine wpC_seq (wpC_region (wpR_run 2 rfl ?_))
 refine wpR_nil (QE_then_n (wpC_region (wpR_run 3 rfl ?_)))
 refine wpR_v (OpV_bin rfl rfl (b_imul _ 8 5)) rfl ?_
 refine wpR_v (OpV_bin rfl rfl (b_isub _ 56 40)) rfl ?_
 refine wpR_v (OpV_bin rfl rfl (b_shr64_i _ a2 16 (by decide))) rfl ?_
 refine wpR_v (OpV_conv rfl (cv_64_8 Tryd.underlying40 Tryd.underlying5 (shr64 a2 16))) rfl ?_
 refine wpR_v (OpV_ixB Tryd.underlying126 sz5 rfl rfl (by decide) (by decide)) rfl ?_
 refine wpR_y (OpY_stB (i := 0) (us := [v8 ((shr64 a2 16).toUInt8)]) rfl sz5 rfl rfl rfl ⟨rfl, trivial⟩ rfl hS) ?_
 intro w hS
 replace hS : St _ w0 w [OE.bx b_2 [v8 ((shr64 a2 56).toUInt8), v8 ((shr64 a2 48).toUInt8), v8 ((shr64 a2 40).toUInt8), v8 ((shr64 a2 32).toUInt8), v8 ((shr64 a2 24).toUInt8), v8 ((shr64 a2 16).toUInt8), v8 0, v8 0], own e8 va0 a0] := hS
 refine wpR_nil (QE_blk_n ?_)
 refine QE_then_n (wpC_region (wpR_v (OpV_bin rfl rfl (b_iadd _ 5 1)) rfl ?_))
 refine wpR_run 1 rfl ?_
 refine wpR_nil (QE_rnd ?_)
 refine wpN_succ ?_
 refine wpC_seq (wpC_region (wpR_v (OpV_bin rfl rfl (b_ilss _ 6 8)) rfl ?_))
 refine wpR_nil (QE_then_n (wpC_seq (wpC_condT rfl ?_)))
 refine wpC_skip (QE_then_n (wpC_seq (wpC_block ?_)))
 refine wpC_seq (wpC_region (wpR_run 2 rfl ?_))
 refine wpR_nil (QE_then_n (wpC_region (wpR_run 3 rfl ?_)))
 refine wpR_v (OpV_bin rfl rfl (b_imul _ 8 6)) rfl ?_
 refine wpR_v (OpV_bin rfl rfl (b_isub _ 56 48)) rfl ?_
 refine wpR_v (OpV_bin rfl rfl (b_shr64_i _ a2 8 (by decide))) rfl ?_
 refine wpR_v (OpV_conv rfl (cv_64_8 Tryd.underlying40 Tryd.underlying5 (shr64 a2 8))) rfl ?_
 refine wpR_v (OpV_ixB Tryd.underlying126 sz5 rfl rfl (by decide) (by decide)) rfl ?_
 refine wpR_y (OpY_stB (i := 0) (us := [v8 ((shr64 a2 8).toUInt8)]) rfl sz5 rfl rfl rfl ⟨rfl, trivial⟩ rfl hS) ?_
 intro w hS
 replace hS : St _ w0 w [OE.bx b_2 [v8 ((shr64 a2 56).toUInt8), v8 ((shr64 a2 48).toUInt8), v8 ((shr64 a2 40).toUInt8), v8 ((shr64 a2 32).toUInt8), v8 ((shr64 a2 24).toUInt8), v8 ((shr64 a2 16).toUInt8), v8 ((shr64 a2 8).toUInt8), v8 0], own e8 va0 a0] := hS
 refine wpR_nil (QE_blk_n ?_)
 refine QE_then_n (wpC_region (wpR_v (OpV_bin rfl rfl (b_iadd _ 6 1)) rfl ?_))
 refine wpR_run 1 rfl ?_
 refine wpR_nil (QE_rnd ?_)
 refine wpN_succ ?_
 refine wpC_seq (wpC_region (wpR_v (OpV_bin rfl rfl (b_ilss _ 7 8)) rfl ?_))
 refine wpR_nil (QE_then_n (wpC_seq (wpC_condT rfl ?_)))
 refine wpC_skip (QE_then_n (wpC_seq (wpC_block ?_)))
 refine wpC_seq (wpC_region (wpR_run 2 rfl ?_))
 refine wpR_nil (QE_then_n (wpC_region (wpR_run 3 rfl ?_)))
 refine wpR_v (OpV_bin rfl rfl (b_imul _ 8 7)) rfl ?_
 refine wpR_v (OpV_bin rfl rfl (b_isub _ 56 56)) rfl ?_
 refine wpR_v (OpV_bin rfl rfl (b_shr64_i _ a2 0 (by decide))) rfl ?_
 refine wpR_v (OpV_conv rfl (cv_64_8 Tryd.underlying40 Tryd.underlying5 (shr64 a2 0))) rfl ?_
 refine wpR_v (OpV_ixB Tryd.underlying126 sz5 rfl rfl (by decide) (by decide)) rfl ?_
 refine wpR_y (OpY_stB (i := 0) (us := [v8 ((shr64 a2 0).toUInt8)]) rfl sz5 rfl rfl rfl ⟨rfl, trivial⟩ rfl hS) ?_
 intro w hS
 replace hS : St _ w0 w [OE.bx b_2 [v8 ((shr64 a2 56).toUInt8), v8 ((shr64 a2 48).toUInt8), v8 ((shr64 a2 40).toUInt8), v8 ((shr64 a2 32).toUInt8), v8 ((shr64 a2 24).toUInt8), v8 ((shr64 a2 16).toUInt8), v8 ((shr64 a2 8).toUInt8), v8 ((shr64 a2 0).toUInt8)], own e8 va0 a0] := hS
 refine wpR_nil (QE_blk_n ?_)
 refine QE_then_n (wpC_region (wpR_v (OpV_bin rfl rfl (b_iadd _ 7 1)) rfl ?_))
 refine wpR_run 1 rfl ?_
 refine wpR_nil (QE_rnd ?_)
 refine wpN_succ ?_
 refine wpC_seq (wpC_region (wpR_v (OpV_bin rfl rfl (b_ilss _ 8 8)) rfl ?_))
 refine wpR_nil (QE_then_n (wpC_seq (wpC_condF rfl ?_)))
 refine wpC_exit ?_
 refine QE_then_x (QE_then_x (QE_blk_x ?_))
 refine QE_then_n (wpC_seq (wpC_region (wpR_run 1 rfl ?_)))
 obtain ⟨x_4, hx_4, h⟩ := obind_some h
 refine wpR_call (by kernel_rfl) rfl (c_cbor_width _ a2    _ hx_4) rfl ?_
 rintro _ w ⟨rfl, hS1⟩
 have hS := hS.call hS1
 simp only [List.cons_append, List.nil_append] at hS
 refine wpR_run 1 rfl ?_
 refine wpR_nil (QE_then_n (wpC_seq (wpC_region (wpR_run 1 rfl ?_))))
 refine wpR_nil (QE_then_n (wpC_block ?_))
 refine wpC_seq (wpC_region (wpR_run 2 rfl ?_))
 refine wpR_nil (QE_then_n ?_)
 refine wpC_cond rfl (fun hb_35 => ?_) (fun hb_35 => ?_)
 ·have h := if_t h hb_35
  refine wpC_seq (wpC_region (wpR_run 3 rfl ?_))
  refine wpR_v (OpV_conv rfl (cv_64_8 Tryd.underlying40 Tryd.underlying5 a2)) rfl ?_
  refine wpR_v (OpV_bin rfl rfl (b_or8 _ (UInt8.ofInt (iShl a1 5)) a2.toUInt8)) rfl ?_
  refine wpR_x (OpX_lit (e := e8) (l := [(UInt8.ofInt (iShl a1 5)) ||| a2.toUInt8]) (vs := [v8 ((UInt8.ofInt (iShl a1 5)) ||| a2.toUInt8)]) Tryd.underlying22 ti5 rfl rfl rfl rfl (by decide) (by decide) hS) rfl ?_
  rintro v_5 w hS
  obtain ⟨x_7, hx_7, h⟩ := obind_some h
  refine wpR_x (G_append Tryd.underlying22 ti5 rfl rfl rfl hS (i := 2) rfl (hS.ro 0 rfl) hx_7) rfl ?_
  rintro v_8 w hS
  refine wpR_run 1 rfl ?_
  refine wpR_nil (QE_then_n (wpC_ret (QE_blk_r ?_)))
  cases h
  exact QE_ret1 rfl rfl ⟨v_8, rfl, hS.pick [2] (by decide) rfl⟩
 have h := if_f h hb_35
 refine wpC_seq (wpC_region (wpR_run 2 rfl ?_))
 refine wpR_nil (QE_then_n ?_)
 refine wpC_cond rfl (fun hb_34 => ?_) (fun hb_34 => ?_)
 ·have h := if_t h hb_34
  refine wpC_seq (wpC_region (wpR_run 1 rfl ?_))
  refine wpR_v (OpV_bin rfl rfl (b_or8 _ (UInt8.ofInt (iShl a1 5)) 24)) rfl ?_
  obtain ⟨x_10, hx_10, h⟩ := olet_some h
  refine wpR_v (OpV_assign (v := v8 x_10) (by rw [← hx_10]; rfl)) rfl ?_
  refine wpR_nil (QE_then_n (wpC_seq (wpC_region (wpR_run 3 rfl ?_))))
  refine wpR_v (OpV_conv rfl (cv_64_8 Tryd.underlying40 Tryd.underlying5 a2)) rfl ?_
  refine wpR_x (OpX_lit (e := e8) (l := [x_10, a2.toUInt8]) (vs := [v8 x_10, v8 a2.toUInt8]) Tryd.underlying22 ti5 rfl rfl rfl rfl (by decide) (by decide) hS) rfl ?_
  rintro v_11 w hS
  obtain ⟨x_13, hx_13, h⟩ := obind_some h
  refine wpR_x (G_append Tryd.underlying22 ti5 rfl rfl rfl hS (i := 2) rfl (hS.ro 0 rfl) hx_13) rfl ?_
  rintro v_14 w hS
  refine wpR_run 1 rfl ?_
  refine wpR_nil (QE_then_n (wpC_ret (QE_blk_r ?_)))
  cases h
  exact QE_ret1 rfl rfl ⟨v_14, rfl, hS.pick [2] (by decide) rfl⟩
 have h := if_f h hb_34
 refine wpC_seq (wpC_seq (wpC_region (wpR_run 1 rfl ?_)))
 refine wpR_nil (QE_then_n (wpC_block ?_))
 refine wpC_le [(0, va0), (7, v8 (UInt8.ofInt (iShl a1 5))), (8, pB b_2 0), (10, vI x_4), (11, vI 1)] ⟨rfl, rfl, rfl, rfl, rfl, trivial⟩ ?_
 refine loop_ind (F.cbor_head_L1 a0 a2 x_4) (fun (s : UInt8 × Int) L w => L = [(0, va0), (7, v8 s.1), (8, pB b_2 0), (10, vI x_4), (11, vI s.2)] ∧ St S w0 w [own e8 va0 a0, OE.bx b_2 [v8 ((shr64 a2 56).toUInt8), v8 ((shr64 a2 48).toUInt8), v8 ((shr64 a2 40).toUInt8), v8 ((shr64 a2 32).toUInt8), v8 ((shr64 a2 24).toUInt8), v8 ((shr64 a2 16).toUInt8), v8 ((shr64 a2 8).toUInt8), v8 ((shr64 a2 0).toUInt8)]]) ?_ (UInt8.ofInt (iShl a1 5), 1) ⟨rfl, (hS.pick [1, 0] (by decide) rfl)⟩ h
 rintro k_33 ⟨x_16, x_17⟩ L w q_20 hI ih_19 h hk_18
 try dsimp only at hI
 obtain ⟨rfl, hS⟩ := hI
 unfold F.cbor_head_L1 at h
 refine wpC_seq (wpC_seq (wpC_region (wpR_run 3 rfl ?_)))
 refine wpR_nil (QE_then_n ?_)
 refine wpC_cond rfl (fun hb_32 => ?_) (fun hb_32 => ?_)
 ·have h := if_t h hb_32
  refine wpC_skip (QE_then_n (wpC_seq (wpC_block ?_)))
  refine wpC_region (wpR_run 1 rfl ?_)
  refine wpR_v (OpV_bin rfl rfl (b_add8 _ x_16 1)) rfl ?_
  refine wpR_run 1 rfl ?_
  refine wpR_nil (QE_blk_n ?_)
  refine QE_then_n (wpC_region (wpR_run 1 rfl ?_))
  refine wpR_v (OpV_bin rfl rfl (b_imul _ x_17 2)) rfl ?_
  refine wpR_run 1 rfl ?_
  refine wpR_nil ?_
  exact QE_rnd (wpN_le _ (by exact ⟨rfl, rfl, rfl, rfl, rfl, trivial⟩) (ih_19 (x_16 + 1, wI (x_17 * 2)) _ _ ⟨rfl, hS⟩ (oinl_some h hk_18)))
 have h := if_f h hb_32
 refine wpC_exit ?_
 refine QE_then_x (QE_then_x ?_)
 have h := oinr_some h hk_18
 refine QE_blk_x ?_
 refine QE_then_n (wpC_seq (wpC_region (wpR_run 2 rfl ?_)))
 obtain ⟨x_21, hx_21, h⟩ := obind_some h
 refine wpR_x (G_make (e := e8) Tryd.underlying22 ti5 rfl rfl rfl hS hx_21) rfl ?_
 rintro v_22 w hS
 refine wpR_run 1 rfl ?_
 refine wpR_nil (QE_then_n (wpC_seq (wpC_region (wpR_run 2 rfl ?_))))
 refine wpR_v (OpV_bin rfl rfl (b_or8 _ x_16 24)) rfl ?_
 obtain ⟨x_24, hx_24, h⟩ := obind_some h
 refine wpR_v (G_ix Tryd.underlying22 ti5 rfl rfl (hS.ro 0 rfl) hx_24) rfl ?_
 refine wpR_y (G_storeE (t := (x_16 ||| 24)) ti5 rfl rfl hS (i := 0) rfl hx_24 rfl) ?_
 intro w hS
 obtain ⟨x_25, hx_25, h⟩ := olet_some h
 rw [hx_25] at hS
 refine wpR_nil (QE_then_n (wpC_seq ?_))
 refine wpC_regionS (fun w' => St S w0 w' [own e8 v_22 x_25, own e8 va0 a0, OE.bx b_2 [v8 ((shr64 a2 56).toUInt8), v8 ((shr64 a2 48).toUInt8), v8 ((shr64 a2 40).toUInt8), v8 ((shr64 a2 32).toUInt8), v8 ((shr64 a2 24).toUInt8), v8 ((shr64 a2 16).toUInt8), v8 ((shr64 a2 8).toUInt8), v8 ((shr64 a2 0).toUInt8)]]) (fun i => !([5].contains i)) hmix (fun _ _ _ hf => hf.2) (fun _ _ hf => hf) (by kernel_rfl) ?_
 have hS := hS.drew
 show lxE _ _ _ _ _ _ _ [0, 1, 2, 3, 4, 5] _ _
 refine lxE_v hS rfl rfl (fun w hF => OpV_move rfl) rfl ?_
 obtain ⟨x_26, hx_26, h⟩ := obind_some h
 refine lxE_v hS rfl rfl (fun w hF => G_sll Tryd.underlying22 ti5 rfl rfl (hF.ro 0 rfl) hx_26) rfl ?_
 refine lxE_v hS rfl rfl (fun w hF => OpV_move rfl) rfl ?_
 refine lxE_v hS rfl rfl (fun w hF => OpV_bin rfl rfl (b_isub _ 8 x_4)) rfl ?_
 obtain ⟨x_27, hx_27, h⟩ := obind_some h
 refine lxE_v hS rfl rfl (fun w hF => A_sll (e := e8) (l := ([(shr64 a2 56).toUInt8, (shr64 a2 48).toUInt8, (shr64 a2 40).toUInt8, (shr64 a2 32).toUInt8, (shr64 a2 24).toUInt8, (shr64 a2 16).toUInt8, (shr64 a2 8).toUInt8, (shr64 a2 0).toUInt8] : List UInt8)) Tryd.underlying126 ti5 rfl rfl rfl hx_27) rfl ?_
 refine lxE_x hS rfl rfl (OpX_copy (e := e8) Tryd.underlying22 ti5 rfl rfl rfl hS (i := 0) rfl ((hS.bxro 2 rfl rfl).g_sll hx_27) (drO_some hx_26).1.2 (Nat.le_refl _)) rfl ?_
 rintro v_q w ⟨hv_q, hS⟩
 subst v_q
 obtain ⟨x_28, hx_28, h⟩ := olet_some h
 rw [hx_28] at hS
 refine lxE_nil trivial ?_
 refine QE_then_n (wpC_seq (wpC_region (wpR_run 2 rfl ?_)))
 obtain ⟨x_29, hx_29, h⟩ := obind_some h
 refine wpR_x (G_append Tryd.underlying22 ti5 rfl rfl rfl hS (i := 1) rfl (hS.ro 0 rfl) hx_29) rfl ?_
 rintro v_30 w hS
 refine wpR_run 1 rfl ?_
 refine wpR_nil (QE_then_n (wpC_ret (QE_blk_r ?_)))
 cases h
 exact QE_ret1 rfl rfl ⟨v_30, rfl, hS.pick [1] (by decide) rfl⟩
theorem c_cbor_write_s (rc : (List UInt8) → (List (Int × UInt64 × (List UInt8) × Int)) → Int → Int → Option (List UInt8 × Int)) (hrc : ∀ (w0 : World) (a0 : List UInt8) (a1 : List (Int × UInt64 × (List UInt8) × Int)) (a2 : Int) (a3 : Int) (va0 : Value) (va1 : Value) (S : List Nat) (hS : St S w0 w0 [own e8 va0 a0]) (hT : TB S w0) (ha1 : RP S w0 (eP eI (eP e64 (eP eS eI))) va1 a1) (r : List UInt8 × Int), rc a0 a1 a2 a3 = some r → Calls Tryd.prog 43 #[va0, va1, vI a2, vI a3] w0 (Ret fun v w => ∃ u0 : Value, v = .tuple #[u0, vI r.2] ∧ St S w0 w [own e8 u0 r.1])) (w0 : World) (a0 : List UInt8) (a1 : List (Int × UInt64 × (List UInt8) × Int)) (a2 : Int) (a3 : Int) (va0 : Value) (va1 : Value) (S : List Nat) (hS : St S w0 w0 [own e8 va0 a0]) (hT : TB S w0) (ha1 : RP S w0 (eP eI (eP e64 (eP eS eI))) va1 a1) (r : List UInt8 × Int)
  (h : F.cbor_write_s rc a0 a1 a2 a3 = some r) : Calls Tryd.prog 43 #[va0, va1, vI a2, vI a3] w0 (Ret fun v w => ∃ u0 : Value, v = .tuple #[u0, vI r.2] ∧ St S w0 w [own e8 u0 r.1]) := by
 refine calls_at 192 Tryd.func43 rfl rfl rfl ?_
 refine wpC_le [(0, va0), (1, va1), (2, vI a2), (3, vI a3)] ⟨rfl, rfl, rfl, rfl, trivial⟩ ?_
 unfold F.cbor_write_s at h
 refine wpC_seq (wpC_region (wpR_run 2 rfl ?_))
 refine wpR_nil (QE_then_n (wpC_seq (wpC_seq (wpC_region (wpR_run 2 rfl ?_)))))
 refine wpR_v (OpV_len Tryd.underlying37 rfl (ha1.now hS.fr)) rfl ?_
 refine wpR_run 1 rfl ?_
 refine wpR_nil (QE_then_n ?_)
 refine wpC_cond rfl (fun hb_106 => ?_) (fun hb_106 => ?_)
 ·have h := if_t h hb_106
  refine wpC_seq (wpC_region (wpR_run 2 rfl ?_))
  refine wpR_nil (QE_then_n (wpC_ret (QE_then_r ?_)))
  cases h
  exact QE_ret2 rfl rfl rfl ⟨.slice none 0 0, rfl, (hS.nil e8).pick [0] (by decide) rfl⟩
 have h := if_f h hb_106
 refine wpC_skip (QE_then_n (wpC_seq (wpC_region (wpR_run 2 rfl ?_))))
 obtain ⟨x_2, hx_2, h⟩ := obind_some h
 refine wpR_v (G_ix Tryd.underlying37 ti42 rfl rfl (ha1.now hS.fr) hx_2) rfl ?_
 refine wpR_v (G_loadW Tryd.underlying42 rfl sz42 rfl (ha1.now hS.fr) hx_2) rfl ?_
 refine wpR_x (OpX_alloc (cs := [vI 0, v64 0, vS [], vI 0]) tz42 rfl hS) rfl ?_
 rintro _ w ⟨b_3, rfl, hS⟩
 refine wpR_y (OpY_stB (i := 0) (us := [vI x_2.1, v64 x_2.2.1, vS x_2.2.2.1, vI x_2.2.2.2]) rfl sz42 rfl rfl rfl ⟨rfl, rfl, rfl, rfl, trivial⟩ rfl hS) ?_
 intro w hS
 replace hS : St _ w0 w [OE.bx b_3 [vI x_2.1, v64 x_2.2.1, vS x_2.2.2.1, vI x_2.2.2.2], own e8 va0 a0] := hS
 refine wpR_nil (QE_then_n ?_)
 refine seq_join (r := r) (fun (g : Bool × Bool × Bool) L w => L = [(0, va0), (1, va1), (2, vI a2), (3, vI a3), (10, pB b_3 0), (11, vB g.1), (12, vB g.2.1), (13, vB g.2.2)] ∧ St S w0 w [own e8 va0 a0, OE.bx b_3 [vI x_2.1, v64 x_2.2.1, vS x_2.2.2.1, vI x_2.2.2.2]]) (F.cbor_write_s_K1 x_2 a3 a0 a2 a1 rc) ?_ ?_
 rotate_left
 ·intro hK_19
  refine wpC_regionT (fun w' => St S w0 w' [OE.bx b_3 [vI x_2.1, v64 x_2.2.1, vS x_2.2.2.1, vI x_2.2.2.2], own e8 va0 a0]) (fun _ => true) hmix (fun _ _ _ hf => hf.2) (fun _ _ hf => hf) (by kernel_rfl) ?_
  have hS := hS.drew
  show lxE _ _ _ _ _ _ _ [0, 1, 2, 3, 4, 5, 6, 7, 8, 9, 10, 11, 12, 13, 14, 15, 16, 17, 18, 19, 20, 21, 22, 23, 24, 25, 26] _ _
  refine lxE_v hS rfl rfl (fun w hF => OpV_fieldB (k := 0) Tryd.underlying42 rfl rfl nz3 rfl) rfl ?_
  refine lxE_v hS rfl rfl (fun w hF => OpV_ldB Tryd.underlying3 rfl rfl (hF.bxc 0 rfl 0)) rfl ?_
  refine lxE_v hS rfl rfl (fun w hF => OpV_bin rfl rfl (b_ieql _ x_2.1 2)) rfl ?_
  refine lxE_v hS rfl rfl (fun w hF => OpV_move rfl) rfl ?_
  cases hb_5 : (x_2.1 == 2)
  case true =>
   have h := if_t h hb_5
   try simp only [hb_5]
   refine lxE_gskip (b := true) (t := 30) hS rfl rfl rfl rfl rfl rfl ?_
   refine lxE_gskip (b := true) (t := 30) hS rfl rfl rfl rfl rfl rfl ?_
   refine lxE_gskip (b := true) (t := 30) hS rfl rfl rfl rfl rfl rfl ?_
   refine lxE_v hS rfl rfl (fun w hF => OpV_pickT rfl rfl) rfl ?_
   refine lxE_v hS rfl rfl (fun w hF => OpV_fieldB (k := 0) Tryd.underlying42 rfl rfl nz3 rfl) rfl ?_
   refine lxE_v hS rfl rfl (fun w hF => OpV_ldB Tryd.underlying3 rfl rfl (hF.bxc 0 rfl 0)) rfl ?_
   refine lxE_v hS rfl rfl (fun w hF => OpV_bin rfl rfl (b_ilss _ x_2.1 2)) rfl ?_
   refine lxE_v hS rfl rfl (fun w hF => OpV_move rfl) rfl ?_
   cases hb_6 : (decide (x_2.1 < 2))
   case true =>
    have h := if_t h hb_6
    try simp only [hb_6]
    refine lxE_gskip (b := true) (t := 38) hS rfl rfl rfl rfl rfl rfl ?_
    refine lxE_gskip (b := true) (t := 38) hS rfl rfl rfl rfl rfl rfl ?_
    refine lxE_gskip (b := true) (t := 38) hS rfl rfl rfl rfl rfl rfl ?_
    refine lxE_v hS rfl rfl (fun w hF => OpV_pickT rfl rfl) rfl ?_
    refine lxE_v hS rfl rfl (fun w hF => OpV_fieldB (k := 0) Tryd.underlying42 rfl rfl nz3 rfl) rfl ?_
    refine lxE_v hS rfl rfl (fun w hF => OpV_ldB Tryd.underlying3 rfl rfl (hF.bxc 0 rfl 0)) rfl ?_
    refine lxE_v hS rfl rfl (fun w hF => OpV_bin rfl rfl (b_igeq _ x_2.1 4)) rfl ?_
    refine lxE_v hS rfl rfl (fun w hF => OpV_move rfl) rfl ?_
    cases hb_7 : (decide ((4 : Int) ≤ x_2.1))
    case true =>
     have h := if_t h hb_7
     try simp only [hb_7]
     refine lxE_gv (t := 46) hS rfl rfl rfl rfl (fun w hF => OpV_fieldB (k := 0) Tryd.underlying42 rfl rfl nz3 rfl) rfl ?_
     refine lxE_gv (t := 46) hS rfl rfl rfl rfl (fun w hF => OpV_ldB Tryd.underlying3 rfl rfl (hF.bxc 0 rfl 0)) rfl ?_
     refine lxE_gv (t := 46) hS rfl rfl rfl rfl (fun w hF => OpV_bin rfl rfl (b_ileq _ x_2.1 6)) rfl ?_
     refine lxE_v hS rfl rfl (fun w hF => OpV_pickT rfl rfl) rfl ?_
     refine lxE_v hS rfl rfl (fun w hF => OpV_assign rfl) rfl ?_
     refine lxE_v hS rfl rfl (fun w hF => OpV_assign rfl) rfl ?_
     refine lxE_v hS rfl rfl (fun w hF => OpV_assign rfl) rfl ?_
     refine lxE_nil hS ?_
     refine QE_then_n ?_
     exact wpC_le _ (by exact ⟨rfl, rfl, rfl, rfl, rfl, rfl, rfl, rfl, trivial⟩) (hK_19 (true, true, decide (x_2.1 ≤ 6)) _ _ ⟨rfl, (hS.pick [1, 0] (by decide) rfl)⟩ h)
    case false =>
     have h := if_f h hb_7
     try simp only [hb_7]
     refine lxE_gskip (b := false) (t := 46) hS rfl rfl rfl rfl rfl rfl ?_
     refine lxE_gskip (b := false) (t := 46) hS rfl rfl rfl rfl rfl rfl ?_
     refine lxE_gskip (b := false) (t := 46) hS rfl rfl rfl rfl rfl rfl ?_
     refine lxE_v hS rfl rfl (fun w hF => OpV_pickF rfl rfl) rfl ?_
     refine lxE_v hS rfl rfl (fun w hF => OpV_assign rfl) rfl ?_
     refine lxE_v hS rfl rfl (fun w hF => OpV_assign rfl) rfl ?_
     refine lxE_v hS rfl rfl (fun w hF => OpV_assign rfl) rfl ?_
     refine lxE_nil hS ?_
     refine QE_then_n ?_
     exact wpC_le _ (by exact ⟨rfl, rfl, rfl, rfl, rfl, rfl, rfl, rfl, trivial⟩) (hK_19 (true, true, false) _ _ ⟨rfl, (hS.pick [1, 0] (by decide) rfl)⟩ h)
   case false =>
    have h := if_f h hb_6
    try simp only [hb_6]
    refine lxE_gv (t := 38) hS rfl rfl rfl rfl (fun w hF => OpV_fieldB (k := 0) Tryd.underlying42 rfl rfl nz3 rfl) rfl ?_
    refine lxE_gv (t := 38) hS rfl rfl rfl rfl (fun w hF => OpV_ldB Tryd.underlying3 rfl rfl (hF.bxc 0 rfl 0)) rfl ?_
    refine lxE_gv (t := 38) hS rfl rfl rfl rfl (fun w hF => OpV_bin rfl rfl (b_igtr _ x_2.1 5)) rfl ?_
    refine lxE_v hS rfl rfl (fun w hF => OpV_pickF rfl rfl) rfl ?_
    refine lxE_v hS rfl rfl (fun w hF => OpV_fieldB (k := 0) Tryd.underlying42 rfl rfl nz3 rfl) rfl ?_
    refine lxE_v hS rfl rfl (fun w hF => OpV_ldB Tryd.underlying3 rfl rfl (hF.bxc 0 rfl 0)) rfl ?_
    refine lxE_v hS rfl rfl (fun w hF => OpV_bin rfl rfl (b_igeq _ x_2.1 4)) rfl ?_
    refine lxE_v hS rfl rfl (fun w hF => OpV_move rfl) rfl ?_
    cases hb_8 : (decide ((4 : Int) ≤ x_2.1))
    case true =>
     have h := if_t h hb_8
     try simp only [hb_8]
     refine lxE_gv (t := 46) hS rfl rfl rfl rfl (fun w hF => OpV_fieldB (k := 0) Tryd.underlying42 rfl rfl nz3 rfl) rfl ?_
     refine lxE_gv (t := 46) hS rfl rfl rfl rfl (fun w hF => OpV_ldB Tryd.underlying3 rfl rfl (hF.bxc 0 rfl 0)) rfl ?_
     refine lxE_gv (t := 46) hS rfl rfl rfl rfl (fun w hF => OpV_bin rfl rfl (b_ileq _ x_2.1 6)) rfl ?_
     refine lxE_v hS rfl rfl (fun w hF => OpV_pickT rfl rfl) rfl ?_
     refine lxE_v hS rfl rfl (fun w hF => OpV_assign rfl) rfl ?_
     obtain ⟨x_9, hx_9, h⟩ := olet_some h
     refine lxE_v hS rfl rfl (fun w hF => OpV_assign (v := vB x_9) (by rw [← hx_9]; rfl)) rfl ?_
     refine lxE_v hS rfl rfl (fun w hF => OpV_assign rfl) rfl ?_
     refine lxE_nil hS ?_
     refine QE_then_n ?_
     exact wpC_le _ (by exact ⟨rfl, rfl, rfl, rfl, rfl, rfl, rfl, rfl, trivial⟩) (hK_19 (true, x_9, decide (x_2.1 ≤ 6)) _ _ ⟨rfl, (hS.pick [1, 0] (by decide) rfl)⟩ h)
    case false =>
     have h := if_f h hb_8
     try simp only [hb_8]
     refine lxE_gskip (b := false) (t := 46) hS rfl rfl rfl rfl rfl rfl ?_
     refine lxE_gskip (b := false) (t := 46) hS rfl rfl rfl rfl rfl rfl ?_
     refine lxE_gskip (b := false) (t := 46) hS rfl rfl rfl rfl rfl rfl ?_
     refine lxE_v hS rfl rfl (fun w hF => OpV_pickF rfl rfl) rfl ?_
     refine lxE_v hS rfl rfl (fun w hF => OpV_assign rfl) rfl ?_
     obtain ⟨x_10, hx_10, h⟩ := olet_some h
     refine lxE_v hS rfl rfl (fun w hF => OpV_assign (v := vB x_10) (by rw [← hx_10]; rfl)) rfl ?_
     refine lxE_v hS rfl rfl (fun w hF => OpV_assign rfl) rfl ?_
     refine lxE_nil hS ?_
     refine QE_then_n ?_
     exact wpC_le _ (by exact ⟨rfl, rfl, rfl, rfl, rfl, rfl, rfl, rfl, trivial⟩) (hK_19 (true, x_10, false) _ _ ⟨rfl, (hS.pick [1, 0] (by decide) rfl)⟩ h)
  case false =>
   have h := if_f h hb_5
   try simp only [hb_5]
   refine lxE_gv (t := 30) hS rfl rfl rfl rfl (fun w hF => OpV_fieldB (k := 0) Tryd.underlying42 rfl rfl nz3 rfl) rfl ?_
   refine lxE_gv (t := 30) hS rfl rfl rfl rfl (fun w hF => OpV_ldB Tryd.underlying3 rfl rfl (hF.bxc 0 rfl 0)) rfl ?_
   refine lxE_gv (t := 30) hS rfl rfl rfl rfl (fun w hF => OpV_bin rfl rfl (b_ieql _ x_2.1 3)) rfl ?_
   refine lxE_v hS rfl rfl (fun w hF => OpV_pickF rfl rfl) rfl ?_
   refine lxE_v hS rfl rfl (fun w hF => OpV_fieldB (k := 0) Tryd.underlying42 rfl rfl nz3 rfl) rfl ?_
   refine lxE_v hS rfl rfl (fun w hF => OpV_ldB Tryd.underlying3 rfl rfl (hF.bxc 0 rfl 0)) rfl ?_
   refine lxE_v hS rfl rfl (fun w hF => OpV_bin rfl rfl (b_ilss _ x_2.1 2)) rfl ?_
   refine lxE_v hS rfl rfl (fun w hF => OpV_move rfl) rfl ?_
   cases hb_11 : (decide (x_2.1 < 2))
   case true =>
    have h := if_t h hb_11
    try simp only [hb_11]
    refine lxE_gskip (b := true) (t := 38) hS rfl rfl rfl rfl rfl rfl ?_
    refine lxE_gskip (b := true) (t := 38) hS rfl rfl rfl rfl rfl rfl ?_
    refine lxE_gskip (b := true) (t := 38) hS rfl rfl rfl rfl rfl rfl ?_
    refine lxE_v hS rfl rfl (fun w hF => OpV_pickT rfl rfl) rfl ?_
    refine lxE_v hS rfl rfl (fun w hF => OpV_fieldB (k := 0) Tryd.underlying42 rfl rfl nz3 rfl) rfl ?_
    refine lxE_v hS rfl rfl (fun w hF => OpV_ldB Tryd.underlying3 rfl rfl (hF.bxc 0 rfl 0)) rfl ?_
    refine lxE_v hS rfl rfl (fun w hF => OpV_bin rfl rfl (b_igeq _ x_2.1 4)) rfl ?_
    refine lxE_v hS rfl rfl (fun w hF => OpV_move rfl) rfl ?_
    cases hb_12 : (decide ((4 : Int) ≤ x_2.1))
    case true =>
     have h := if_t h hb_12
     try simp only [hb_12]
     refine lxE_gv (t := 46) hS rfl rfl rfl rfl (fun w hF => OpV_fieldB (k := 0) Tryd.underlying42 rfl rfl nz3 rfl) rfl ?_
     refine lxE_gv (t := 46) hS rfl rfl rfl rfl (fun w hF => OpV_ldB Tryd.underlying3 rfl rfl (hF.bxc 0 rfl 0)) rfl ?_
     refine lxE_gv (t := 46) hS rfl rfl rfl rfl (fun w hF => OpV_bin rfl rfl (b_ileq _ x_2.1 6)) rfl ?_
     refine lxE_v hS rfl rfl (fun w hF => OpV_pickT rfl rfl) rfl ?_
     refine lxE_v hS rfl rfl (fun w hF => OpV_assign rfl) rfl ?_
     refine lxE_v hS rfl rfl (fun w hF => OpV_assign rfl) rfl ?_
     refine lxE_v hS rfl rfl (fun w hF => OpV_assign rfl) rfl ?_
     refine lxE_nil hS ?_
     refine QE_then_n ?_
     exact wpC_le _ (by exact ⟨rfl, rfl, rfl, rfl, rfl, rfl, rfl, rfl, trivial⟩) (hK_19 (x_2.1 == 3, true, decide (x_2.1 ≤ 6)) _ _ ⟨rfl, (hS.pick [1, 0] (by decide) rfl)⟩ h)
    case false =>
     have h := if_f h hb_12
     try simp only [hb_12]
     refine lxE_gskip (b := false) (t := 46) hS rfl rfl rfl rfl rfl rfl ?_
     refine lxE_gskip (b := false) (t := 46) hS rfl rfl rfl rfl rfl rfl ?_
     refine lxE_gskip (b := false) (t := 46) hS rfl rfl rfl rfl rfl rfl ?_
     refine lxE_v hS rfl rfl (fun w hF => OpV_pickF rfl rfl) rfl ?_
     refine lxE_v hS rfl rfl (fun w hF => OpV_assign rfl) rfl ?_
     refine lxE_v hS rfl rfl (fun w hF => OpV_assign rfl) rfl ?_
     refine lxE_v hS rfl rfl (fun w hF => OpV_assign rfl) rfl ?_
     refine lxE_nil hS ?_
     refine QE_then_n ?_
     exact wpC_le _ (by exact ⟨rfl, rfl, rfl, rfl, rfl, rfl, rfl, rfl, trivial⟩) (hK_19 (x_2.1 == 3, true, false) _ _ ⟨rfl, (hS.pick [1, 0] (by decide) rfl)⟩ h)
   case false =>
    have h := if_f h hb_11
    try simp only [hb_11]
    refine lxE_gv (t := 38) hS rfl rfl rfl rfl (fun w hF => OpV_fieldB (k := 0) Tryd.underlying42 rfl rfl nz3 rfl) rfl ?_
    refine lxE_gv (t := 38) hS rfl rfl rfl rfl (fun w hF => OpV_ldB Tryd.underlying3 rfl rfl (hF.bxc 0 rfl 0)) rfl ?_
    refine lxE_gv (t := 38) hS rfl rfl rfl rfl (fun w hF => OpV_bin rfl rfl (b_igtr _ x_2.1 5)) rfl ?_
    refine lxE_v hS rfl rfl (fun w hF => OpV_pickF rfl rfl) rfl ?_
    refine lxE_v hS rfl rfl (fun w hF => OpV_fieldB (k := 0) Tryd.underlying42 rfl rfl nz3 rfl) rfl ?_
    refine lxE_v hS rfl rfl (fun w hF => OpV_ldB Tryd.underlying3 rfl rfl (hF.bxc 0 rfl 0)) rfl ?_
    refine lxE_v hS rfl rfl (fun w hF => OpV_bin rfl rfl (b_igeq _ x_2.1 4)) rfl ?_
    refine lxE_v hS rfl rfl (fun w hF => OpV_move rfl) rfl ?_
    cases hb_13 : (decide ((4 : Int) ≤ x_2.1))
    case true =>
     have h := if_t h hb_13
     try simp only [hb_13]
     refine lxE_gv (t := 46) hS rfl rfl rfl rfl (fun w hF => OpV_fieldB (k := 0) Tryd.underlying42 rfl rfl nz3 rfl) rfl ?_
     refine lxE_gv (t := 46) hS rfl rfl rfl rfl (fun w hF => OpV_ldB Tryd.underlying3 rfl rfl (hF.bxc 0 rfl 0)) rfl ?_
     refine lxE_gv (t := 46) hS rfl rfl rfl rfl (fun w hF => OpV_bin rfl rfl (b_ileq _ x_2.1 6)) rfl ?_
     refine lxE_v hS rfl rfl (fun w hF => OpV_pickT rfl rfl) rfl ?_
     refine lxE_v hS rfl rfl (fun w hF => OpV_assign rfl) rfl ?_
     obtain ⟨x_14, hx_14, h⟩ := olet_some h
     refine lxE_v hS rfl rfl (fun w hF => OpV_assign (v := vB x_14) (by rw [← hx_14]; rfl)) rfl ?_
     refine lxE_v hS rfl rfl (fun w hF => OpV_assign rfl) rfl ?_
     refine lxE_nil hS ?_
     refine QE_then_n ?_
     exact wpC_le _ (by exact ⟨rfl, rfl, rfl, rfl, rfl, rfl, rfl, rfl, trivial⟩) (hK_19 (x_2.1 == 3, x_14, decide (x_2.1 ≤ 6)) _ _ ⟨rfl, (hS.pick [1, 0] (by decide) rfl)⟩ h)
    case false =>
     have h := if_f h hb_13
     try simp only [hb_13]
     refine lxE_gskip (b := false) (t := 46) hS rfl rfl rfl rfl rfl rfl ?_
     refine lxE_gskip (b := false) (t := 46) hS rfl rfl rfl rfl rfl rfl ?_
     refine lxE_gskip (b := false) (t := 46) hS rfl rfl rfl rfl rfl rfl ?_
     refine lxE_v hS rfl rfl (fun w hF => OpV_pickF rfl rfl) rfl ?_
     refine lxE_v hS rfl rfl (fun w hF => OpV_assign rfl) rfl ?_
     obtain ⟨x_15, hx_15, h⟩ := olet_some h
     refine lxE_v hS rfl rfl (fun w hF => OpV_assign (v := vB x_15) (by rw [← hx_15]; rfl)) rfl ?_
     refine lxE_v hS rfl rfl (fun w hF => OpV_assign rfl) rfl ?_
     refine lxE_nil hS ?_
     refine QE_then_n ?_
     exact wpC_le _ (by exact ⟨rfl, rfl, rfl, rfl, rfl, rfl, rfl, rfl, trivial⟩) (hK_19 (x_2.1 == 3, x_15, false) _ _ ⟨rfl, (hS.pick [1, 0] (by decide) rfl)⟩ h)
 rintro ⟨x_16, x_17, x_18⟩ L w hJ h
 try dsimp only at hJ
 obtain ⟨rfl, hS⟩ := hJ
 unfold F.cbor_write_s_K1 at h
 refine wpC_seq ?_
 refine seq_join (r := r) (fun (g : Bool) L w => L = [(0, va0), (1, va1), (2, vI a2), (3, vI a3), (10, pB b_3 0), (13, vB x_18), (90, vB g)] ∧ St S w0 w [own e8 va0 a0, OE.bx b_3 [vI x_2.1, v64 x_2.2.1, vS x_2.2.2.1, vI x_2.2.2.2]]) (F.cbor_write_s_K2 x_2 a3 x_18 a0 a2 a1 rc) ?_ ?_
 rotate_left
 ·intro hK_37
  refine wpC_region (wpR_v (OpV_fieldB (k := 0) Tryd.underlying42 rfl rfl nz3 rfl) rfl ?_)
  refine wpR_v (OpV_ldB Tryd.underlying3 rfl rfl (hS.bxc 1 rfl 0)) rfl ?_
  refine wpR_run 2 rfl ?_
  cases hb_20 : (decide (x_2.1 < 0))
  case true =>
   have h := if_t h hb_20
   try simp only [hb_20]
   refine wpR_run 36 rfl ?_
   refine wpR_nil (QE_then_n ?_)
   exact wpC_le _ (by exact ⟨rfl, rfl, rfl, rfl, rfl, rfl, rfl, trivial⟩) (hK_37 true _ _ ⟨rfl, hS⟩ h)
  case false =>
   have h := if_f h hb_20
   try simp only [hb_20]
   refine wpR_gv (t := 54) rfl rfl (OpV_fieldB (k := 0) Tryd.underlying42 rfl rfl nz3 rfl) rfl ?_
   refine wpR_gv (t := 54) rfl rfl (OpV_ldB Tryd.underlying3 rfl rfl (hS.bxc 1 rfl 0)) rfl ?_
   refine wpR_run 3 rfl ?_
   cases hb_21 : (decide ((7 : Int) < x_2.1))
   case true =>
    have h := if_t h hb_21
    try simp only [hb_21]
    refine wpR_run 31 rfl ?_
    refine wpR_nil (QE_then_n ?_)
    exact wpC_le _ (by exact ⟨rfl, rfl, rfl, rfl, rfl, rfl, rfl, trivial⟩) (hK_37 true _ _ ⟨rfl, hS⟩ h)
   case false =>
    have h := if_f h hb_21
    try simp only [hb_21]
    refine wpR_run 3 rfl ?_
    cases hb_22 : (!x_16)
    case true =>
     have h := if_t h hb_22
     try simp only [hb_22]
     refine wpR_gv (t := 62) rfl rfl (OpV_fieldB (k := 2) Tryd.underlying42 rfl rfl nz9 rfl) rfl ?_
     refine wpR_gv (t := 62) rfl rfl (OpV_ldB Tryd.underlying9 rfl rfl (hS.bxc 1 rfl 2)) rfl ?_
     refine wpR_gv (t := 62) rfl rfl (OpV_bin rfl rfl (b_sneq _ x_2.2.2.1 [])) rfl ?_
     refine wpR_run 3 rfl ?_
     cases hb_23 : (x_2.2.2.1 != [])
     case true =>
      have h := if_t h hb_23
      try simp only [hb_23]
      refine wpR_run 22 rfl ?_
      refine wpR_nil (QE_then_n ?_)
      exact wpC_le _ (by exact ⟨rfl, rfl, rfl, rfl, rfl, rfl, rfl, trivial⟩) (hK_37 true _ _ ⟨rfl, hS⟩ h)
     case false =>
      have h := if_f h hb_23
      try simp only [hb_23]
      refine wpR_run 3 rfl ?_
      cases hb_24 : (!x_17)
      case true =>
       have h := if_t h hb_24
       try simp only [hb_24]
       refine wpR_gv (t := 71) rfl rfl (OpV_fieldB (k := 1) Tryd.underlying42 rfl rfl nz40 rfl) rfl ?_
       refine wpR_gv (t := 71) rfl rfl (OpV_ldB Tryd.underlying40 rfl rfl (hS.bxc 1 rfl 1)) rfl ?_
       refine wpR_gv (t := 71) rfl rfl (OpV_bin rfl rfl (b_neq64 _ x_2.2.1 0)) rfl ?_
       refine wpR_run 3 rfl ?_
       cases hb_25 : (x_2.2.1 != 0)
       case true =>
        have h := if_t h hb_25
        try simp only [hb_25]
        refine wpR_run 13 rfl ?_
        refine wpR_nil (QE_then_n ?_)
        exact wpC_le _ (by exact ⟨rfl, rfl, rfl, rfl, rfl, rfl, rfl, trivial⟩) (hK_37 true _ _ ⟨rfl, hS⟩ h)
       case false =>
        have h := if_f h hb_25
        try simp only [hb_25]
        refine wpR_run 3 rfl ?_
        cases hb_26 : (!x_18)
        case true =>
         have h := if_t h hb_26
         try simp only [hb_26]
         refine wpR_gv (t := 80) rfl rfl (OpV_fieldB (k := 3) Tryd.underlying42 rfl rfl nz3 rfl) rfl ?_
         refine wpR_gv (t := 80) rfl rfl (OpV_ldB Tryd.underlying3 rfl rfl (hS.bxc 1 rfl 3)) rfl ?_
         refine wpR_run 4 rfl ?_
         cases hb_27 : (x_2.2.2.2 != 0)
         case true =>
          have h := if_t h hb_27
          try simp only [hb_27]
          refine wpR_run 4 rfl ?_
          refine wpR_nil (QE_then_n ?_)
          exact wpC_le _ (by exact ⟨rfl, rfl, rfl, rfl, rfl, rfl, rfl, trivial⟩) (hK_37 true _ _ ⟨rfl, hS⟩ h)
         case false =>
          have h := if_f h hb_27
          try simp only [hb_27]
          refine wpR_gv (t := 86) rfl rfl (OpV_fieldB (k := 3) Tryd.underlying42 rfl rfl nz3 rfl) rfl ?_
          refine wpR_gv (t := 86) rfl rfl (OpV_ldB Tryd.underlying3 rfl rfl (hS.bxc 1 rfl 3)) rfl ?_
          refine wpR_run 2 rfl ?_
          refine wpR_nil (QE_then_n ?_)
          exact wpC_le _ (by exact ⟨rfl, rfl, rfl, rfl, rfl, rfl, rfl, trivial⟩) (hK_37 (decide (x_2.2.2.2 < 0)) _ _ ⟨rfl, hS⟩ h)
        case false =>
         have h := if_f h hb_26
         try simp only [hb_26]
         refine wpR_run 6 rfl ?_
         refine wpR_gv (t := 86) rfl rfl (OpV_fieldB (k := 3) Tryd.underlying42 rfl rfl nz3 rfl) rfl ?_
         refine wpR_gv (t := 86) rfl rfl (OpV_ldB Tryd.underlying3 rfl rfl (hS.bxc 1 rfl 3)) rfl ?_
         refine wpR_run 2 rfl ?_
         refine wpR_nil (QE_then_n ?_)
         exact wpC_le _ (by exact ⟨rfl, rfl, rfl, rfl, rfl, rfl, rfl, trivial⟩) (hK_37 (decide (x_2.2.2.2 < 0)) _ _ ⟨rfl, hS⟩ h)
      case false =>
       have h := if_f h hb_24
       try simp only [hb_24]
       refine wpR_run 9 rfl ?_
       cases hb_28 : (!x_18)
       case true =>
        have h := if_t h hb_28
        try simp only [hb_28]
        refine wpR_gv (t := 80) rfl rfl (OpV_fieldB (k := 3) Tryd.underlying42 rfl rfl nz3 rfl) rfl ?_
        refine wpR_gv (t := 80) rfl rfl (OpV_ldB Tryd.underlying3 rfl rfl (hS.bxc 1 rfl 3)) rfl ?_
        refine wpR_run 4 rfl ?_
        cases hb_29 : (x_2.2.2.2 != 0)
        case true =>
         have h := if_t h hb_29
         try simp only [hb_29]
         refine wpR_run 4 rfl ?_
         refine wpR_nil (QE_then_n ?_)
         exact wpC_le _ (by exact ⟨rfl, rfl, rfl, rfl, rfl, rfl, rfl, trivial⟩) (hK_37 true _ _ ⟨rfl, hS⟩ h)
        case false =>
         have h := if_f h hb_29
         try simp only [hb_29]
         refine wpR_gv (t := 86) rfl rfl (OpV_fieldB (k := 3) Tryd.underlying42 rfl rfl nz3 rfl) rfl ?_
         refine wpR_gv (t := 86) rfl rfl (OpV_ldB Tryd.underlying3 rfl rfl (hS.bxc 1 rfl 3)) rfl ?_
         refine wpR_run 2 rfl ?_
         refine wpR_nil (QE_then_n ?_)
         exact wpC_le _ (by exact ⟨rfl, rfl, rfl, rfl, rfl, rfl, rfl, trivial⟩) (hK_37 (decide (x_2.2.2.2 < 0)) _ _ ⟨rfl, hS⟩ h)
       case false =>
        have h := if_f h hb_28
        try simp only [hb_28]
        refine wpR_run 6 rfl ?_
        refine wpR_gv (t := 86) rfl rfl (OpV_fieldB (k := 3) Tryd.underlying42 rfl rfl nz3 rfl) rfl ?_
        refine wpR_gv (t := 86) rfl rfl (OpV_ldB Tryd.underlying3 rfl rfl (hS.bxc 1 rfl 3)) rfl ?_
        refine wpR_run 2 rfl ?_
        refine wpR_nil (QE_then_n ?_)
        exact wpC_le _ (by exact ⟨rfl, rfl, rfl, rfl, rfl, rfl, rfl, trivial⟩) (hK_37 (decide (x_2.2.2.2 < 0)) _ _ ⟨rfl, hS⟩ h)
    case false =>
     have h := if_f h hb_22
     try simp only [hb_22]
     refine wpR_run 9 rfl ?_
     cases hb_30 : (!x_17)
     case true =>
      have h := if_t h hb_30
      try simp only [hb_30]
      refine wpR_gv (t := 71) rfl rfl (OpV_fieldB (k := 1) Tryd.underlying42 rfl rfl nz40 rfl) rfl ?_
      refine wpR_gv (t := 71) rfl rfl (OpV_ldB Tryd.underlying40 rfl rfl (hS.bxc 1 rfl 1)) rfl ?_
      refine wpR_gv (t := 71) rfl rfl (OpV_bin rfl rfl (b_neq64 _ x_2.2.1 0)) rfl ?_
      refine wpR_run 3 rfl ?_
      cases hb_31 : (x_2.2.1 != 0)
      case true =>
       have h := if_t h hb_31
       try simp only [hb_31]
       refine wpR_run 13 rfl ?_
       refine wpR_nil (QE_then_n ?_)
       exact wpC_le _ (by exact ⟨rfl, rfl, rfl, rfl, rfl, rfl, rfl, trivial⟩) (hK_37 true _ _ ⟨rfl, hS⟩ h)
      case false =>
       have h := if_f h hb_31
       try simp only [hb_31]
       refine wpR_run 3 rfl ?_
       cases hb_32 : (!x_18)
       case true =>
        have h := if_t h hb_32
        try simp only [hb_32]
        refine wpR_gv (t := 80) rfl rfl (OpV_fieldB (k := 3) Tryd.underlying42 rfl rfl nz3 rfl) rfl ?_
        refine wpR_gv (t := 80) rfl rfl (OpV_ldB Tryd.underlying3 rfl rfl (hS.bxc 1 rfl 3)) rfl ?_
        refine wpR_run 4 rfl ?_
        cases hb_33 : (x_2.2.2.2 != 0)
        case true =>
         have h := if_t h hb_33
         try simp only [hb_33]
         refine wpR_run 4 rfl ?_
         refine wpR_nil (QE_then_n ?_)
         exact wpC_le _ (by exact ⟨rfl, rfl, rfl, rfl, rfl, rfl, rfl, trivial⟩) (hK_37 true _ _ ⟨rfl, hS⟩ h)
        case false =>
         have h := if_f h hb_33
         try simp only [hb_33]
         refine wpR_gv (t := 86) rfl rfl (OpV_fieldB (k := 3) Tryd.underlying42 rfl rfl nz3 rfl) rfl ?_
         refine wpR_gv (t := 86) rfl rfl (OpV_ldB Tryd.underlying3 rfl rfl (hS.bxc 1 rfl 3)) rfl ?_
         refine wpR_run 2 rfl ?_
         refine wpR_nil (QE_then_n ?_)
         exact wpC_le _ (by exact ⟨rfl, rfl, rfl, rfl, rfl, rfl, rfl, trivial⟩) (hK_37 (decide (x_2.2.2.2 < 0)) _ _ ⟨rfl, hS⟩ h)
       case false =>
        have h := if_f h hb_32
        try simp only [hb_32]
        refine wpR_run 6 rfl ?_
        refine wpR_gv (t := 86) rfl rfl (OpV_fieldB (k := 3) Tryd.underlying42 rfl rfl nz3 rfl) rfl ?_
        refine wpR_gv (t := 86) rfl rfl (OpV_ldB Tryd.underlying3 rfl rfl (hS.bxc 1 rfl 3)) rfl ?_
        refine wpR_run 2 rfl ?_
        refine wpR_nil (QE_then_n ?_)
        exact wpC_le _ (by exact ⟨rfl, rfl, rfl, rfl, rfl, rfl, rfl, trivial⟩) (hK_37 (decide (x_2.2.2.2 < 0)) _ _ ⟨rfl, hS⟩ h)
     case false =>
      have h := if_f h hb_30
      try simp only [hb_30]
      refine wpR_run 9 rfl ?_
      cases hb_34 : (!x_18)
      case true =>
       have h := if_t h hb_34
       try simp only [hb_34]
       refine wpR_gv (t := 80) rfl rfl (OpV_fieldB (k := 3) Tryd.underlying42 rfl rfl nz3 rfl) rfl ?_
       refine wpR_gv (t := 80) rfl rfl (OpV_ldB Tryd.underlying3 rfl rfl (hS.bxc 1 rfl 3)) rfl ?_
       refine wpR_run 4 rfl ?_
       cases hb_35 : (x_2.2.2.2 != 0)
       case true =>
        have h := if_t h hb_35
        try simp only [hb_35]
        refine wpR_run 4 rfl ?_
        refine wpR_nil (QE_then_n ?_)
        exact wpC_le _ (by exact ⟨rfl, rfl, rfl, rfl, rfl, rfl, rfl, trivial⟩) (hK_37 true _ _ ⟨rfl, hS⟩ h)
       case false =>
        have h := if_f h hb_35
        try simp only [hb_35]
        refine wpR_gv (t := 86) rfl rfl (OpV_fieldB (k := 3) Tryd.underlying42 rfl rfl nz3 rfl) rfl ?_
        refine wpR_gv (t := 86) rfl rfl (OpV_ldB Tryd.underlying3 rfl rfl (hS.bxc 1 rfl 3)) rfl ?_
        refine wpR_run 2 rfl ?_
        refine wpR_nil (QE_then_n ?_)
        exact wpC_le _ (by exact ⟨rfl, rfl, rfl, rfl, rfl, rfl, rfl, trivial⟩) (hK_37 (decide (x_2.2.2.2 < 0)) _ _ ⟨rfl, hS⟩ h)
      case false =>
       have h := if_f h hb_34
       try simp only [hb_34]
       refine wpR_run 6 rfl ?_
       refine wpR_gv (t := 86) rfl rfl (OpV_fieldB (k := 3) Tryd.underlying42 rfl rfl nz3 rfl) rfl ?_
       refine wpR_gv (t := 86) rfl rfl (OpV_ldB Tryd.underlying3 rfl rfl (hS.bxc 1 rfl 3)) rfl ?_
       refine wpR_run 2 rfl ?_
       refine wpR_nil (QE_then_n ?_)
       exact wpC_le _ (by exact ⟨rfl, rfl, rfl, rfl, rfl, rfl, rfl, trivial⟩) (hK_37 (decide (x_2.2.2.2 < 0)) _ _ ⟨rfl, hS⟩ h)
 rintro x_36 L w hJ h
 try dsimp only at hJ
 obtain ⟨rfl, hS⟩ := hJ
 unfold F.cbor_write_s_K2 at h
 refine wpC_cond rfl (fun hb_105 => ?_) (fun hb_105 => ?_)
 ·have h := if_t h hb_105
  refine wpC_seq (wpC_region (wpR_run 2 rfl ?_))
  refine wpR_nil (QE_then_n (wpC_ret (QE_then_r ?_)))
  cases h
  exact QE_ret2 rfl rfl rfl ⟨.slice none 0 0, rfl, (hS.nil e8).pick [0] (by decide) rfl⟩
 have h := if_f h hb_105
 refine wpC_skip (QE_then_n (wpC_seq (wpC_region (wpR_v (OpV_fieldB (k := 1) Tryd.underlying42 rfl rfl nz40 rfl) rfl ?_))))
 refine wpR_v (OpV_ldB Tryd.underlying40 rfl rfl (hS.bxc 1 rfl 1)) rfl ?_
 refine wpR_run 1 rfl ?_
 refine wpR_nil (QE_then_n ?_)
 refine seq_join (r := r) (fun (g : UInt64) L w => L = [(0, va0), (1, va1), (2, vI a2), (3, vI a3), (10, pB b_3 0), (13, vB x_18), (14, v64 g)] ∧ St S w0 w [own e8 va0 a0, OE.bx b_3 [vI x_2.1, v64 x_2.2.1, vS x_2.2.2.1, vI x_2.2.2.2]]) (F.cbor_write_s_K3 a3 x_18 a0 a2 x_2 a1 rc) ?_ ?_
 rotate_left
 ·intro hK_56
  refine wpC_seq (wpC_region (wpR_v (OpV_fieldB (k := 0) Tryd.underlying42 rfl rfl nz3 rfl) rfl ?_))
  refine wpR_v (OpV_ldB Tryd.underlying3 rfl rfl (hS.bxc 1 rfl 0)) rfl ?_
  refine wpR_nil (QE_then_n (wpC_block ?_))
  refine wpC_seq (wpC_block ?_)
  refine wpC_seq (wpC_block ?_)
  refine wpC_seq (wpC_block ?_)
  refine seq_join (r := r) (fun (g : Unit) L w => L = [(0, va0), (1, va1), (2, vI a2), (3, vI a3), (10, pB b_3 0), (13, vB x_18)] ∧ St S w0 w [own e8 va0 a0, OE.bx b_3 [vI x_2.1, v64 x_2.2.1, vS x_2.2.2.1, vI x_2.2.2.2]]) (F.cbor_write_s_K8 x_2 a3 x_18 a0 a2 a1 rc) ?_ ?_
  rotate_left
  ·intro hK_53
   refine wpC_block ?_
   refine wpC_seq (wpC_block ?_)
   refine wpC_seq (wpC_block ?_)
   refine wpC_seq (wpC_seq (wpC_seq (wpC_region (wpR_run 2 rfl ?_))))
   refine wpR_nil (QE_then_n ?_)
   refine wpC_cond rfl (fun hb_52 => ?_) (fun hb_52 => ?_)
   ·have h := if_t h hb_52
    refine wpC_exit ?_
    refine QE_then_x (QE_then_x (QE_blk_x ?_))
    refine QE_then_n (wpC_seq ?_)
    refine seq_join (r := r) (fun (g : Bool) L w => L = [(0, va0), (1, va1), (2, vI a2), (3, vI a3), (10, pB b_3 0), (13, vB x_18), (14, v64 x_2.2.1), (112, vB g)] ∧ St S w0 w [own e8 va0 a0, OE.bx b_3 [vI x_2.1, v64 x_2.2.1, vS x_2.2.2.1, vI x_2.2.2.2]]) (F.cbor_write_s_K9 x_2 a3 x_18 a0 a2 a1 rc) ?_ ?_
    rotate_left
    ·intro hK_40
     refine wpC_region (wpR_run 1 rfl ?_)
     refine wpR_v (OpV_bin rfl rfl (b_lss64 _ x_2.2.1 20)) rfl ?_
     refine wpR_run 1 rfl ?_
     cases hb_38 : (decide (x_2.2.1 < 20))
     case true =>
      have h := if_t h hb_38
      try simp only [hb_38]
      refine wpR_run 3 rfl ?_
      refine wpR_nil (QE_then_n ?_)
      exact wpC_le _ (by exact ⟨rfl, rfl, rfl, rfl, rfl, rfl, rfl, rfl, trivial⟩) (hK_40 true _ _ ⟨rfl, hS⟩ h)
     case false =>
      have h := if_f h hb_38
      try simp only [hb_38]
      refine wpR_run 1 rfl ?_
      refine wpR_gv (t := 109) rfl rfl (OpV_bin rfl rfl (b_gtr64 _ x_2.2.1 22)) rfl ?_
      refine wpR_run 1 rfl ?_
      refine wpR_nil (QE_then_n ?_)
      exact wpC_le _ (by exact ⟨rfl, rfl, rfl, rfl, rfl, rfl, rfl, rfl, trivial⟩) (hK_40 (decide ((22 : UInt64) < x_2.2.1)) _ _ ⟨rfl, hS⟩ h)
    rintro x_39 L w hJ h
    try dsimp only at hJ
    obtain ⟨rfl, hS⟩ := hJ
    unfold F.cbor_write_s_K9 at h
    refine wpC_cond rfl (fun hb_41 => ?_) (fun hb_41 => ?_)
    ·have h := if_t h hb_41
     refine wpC_seq (wpC_region (wpR_run 2 rfl ?_))
     refine wpR_nil (QE_then_n (wpC_ret (QE_then_r (QE_blk_r ?_))))
     refine QE_then_r (QE_blk_r ?_)
     refine QE_then_r (QE_blk_r ?_)
     refine QE_then_r (QE_blk_r ?_)
     refine QE_then_r (QE_blk_r ?_)
     refine QE_then_r (QE_blk_r ?_)
     refine QE_then_r ?_
     cases h
     exact QE_ret2 rfl rfl rfl ⟨.slice none 0 0, rfl, (hS.nil e8).pick [0] (by decide) rfl⟩
    have h := if_f h hb_41
    refine wpC_skip (QE_then_n (wpC_exit ?_))
    refine QE_blk_o rfl ?_
    refine QE_then_x (QE_blk_o rfl ?_)
    refine QE_then_x (QE_blk_o rfl ?_)
    refine QE_then_x (QE_blk_o rfl ?_)
    refine QE_then_x (QE_blk_o rfl ?_)
    refine QE_then_x (QE_blk_x ?_)
    refine QE_then_n ?_
    exact wpC_le _ (by exact ⟨rfl, rfl, rfl, rfl, rfl, rfl, rfl, trivial⟩) (hK_56 x_2.2.1 _ _ ⟨rfl, hS⟩ h)
   have h := if_f h hb_52
   refine wpC_skip (QE_then_n (wpC_seq (wpC_seq (wpC_region (wpR_run 2 rfl ?_)))))
   refine wpR_nil (QE_then_n ?_)
   refine wpC_cond rfl (fun hb_51 => ?_) (fun hb_51 => ?_)
   ·have h := if_t h hb_51
    refine wpC_exit ?_
    refine QE_then_x (QE_then_x (QE_blk_o rfl ?_))
    refine QE_then_x (QE_blk_x ?_)
    refine QE_then_n (wpC_seq (wpC_region (wpR_v (OpV_fieldB (k := 2) Tryd.underlying42 rfl rfl nz9 rfl) rfl ?_)))
    refine wpR_v (OpV_ldB Tryd.underlying9 rfl rfl (hS.bxc 1 rfl 2)) rfl ?_
    obtain ⟨x_42, hx_42, h⟩ := obind_some h
    refine wpR_call (by kernel_rfl) rfl (c_unicode_utf8_ValidString _ x_2.2.2.1   (hT.now hS.fr) _ hx_42) rfl ?_
    rintro _ w ⟨rfl, hS1⟩
    have hS := hS.call hS1
    simp only [List.cons_append, List.nil_append] at hS
    refine wpR_run 1 rfl ?_
    refine wpR_nil (QE_then_n ?_)
    refine wpC_cond rfl (fun hb_43 => ?_) (fun hb_43 => ?_)
    ·have h := if_t h hb_43
     refine wpC_seq (wpC_region (wpR_run 2 rfl ?_))
     refine wpR_nil (QE_then_n (wpC_ret (QE_blk_r ?_)))
     refine QE_then_r (QE_blk_r ?_)
     refine QE_then_r (QE_blk_r ?_)
     refine QE_then_r (QE_blk_r ?_)
     refine QE_then_r (QE_blk_r ?_)
     refine QE_then_r ?_
     cases h
     exact QE_ret2 rfl rfl rfl ⟨.slice none 0 0, rfl, (hS.nil e8).pick [0] (by decide) rfl⟩
    have h := if_f h hb_43
    refine wpC_skip (QE_blk_n ?_)
    refine QE_then_n ?_
    exact wpC_le _ (by exact ⟨rfl, rfl, rfl, rfl, rfl, rfl, trivial⟩) (hK_53 () _ _ ⟨rfl, hS⟩ h)
   have h := if_f h hb_51
   refine wpC_skip (QE_then_n (wpC_seq (wpC_seq (wpC_region (wpR_run 2 rfl ?_)))))
   refine wpR_nil (QE_then_n ?_)
   refine wpC_cond rfl (fun hb_50 => ?_) (fun hb_50 => ?_)
   ·have h := if_t h hb_50
    refine wpC_exit ?_
    refine QE_then_x (QE_then_x (QE_blk_o rfl ?_))
    refine QE_then_x (QE_blk_o rfl ?_)
    refine QE_then_x (QE_blk_x ?_)
    refine QE_then_n ?_
    exact wpC_le _ (by exact ⟨rfl, rfl, rfl, rfl, rfl, rfl, trivial⟩) (hK_53 () _ _ ⟨rfl, hS⟩ h)
   have h := if_f h hb_50
   refine wpC_skip (QE_then_n (wpC_seq (wpC_seq (wpC_region (wpR_run 2 rfl ?_)))))
   refine wpR_nil (QE_then_n ?_)
   refine wpC_cond rfl (fun hb_49 => ?_) (fun hb_49 => ?_)
   ·have h := if_t h hb_49
    refine wpC_exit ?_
    refine QE_then_x (QE_then_x (QE_blk_o rfl ?_))
    refine QE_then_x (QE_blk_o rfl ?_)
    refine QE_then_x (QE_blk_o rfl ?_)
    refine QE_then_x (QE_blk_x ?_)
    refine QE_then_n (wpC_seq (wpC_region (wpR_v (OpV_fieldB (k := 3) Tryd.underlying42 rfl rfl nz3 rfl) rfl ?_)))
    refine wpR_v (OpV_ldB Tryd.underlying3 rfl rfl (hS.bxc 1 rfl 3)) rfl ?_
    refine wpR_v (OpV_conv rfl (cv_i_64 Tryd.underlying3 Tryd.underlying40 x_2.2.2.2)) rfl ?_
    refine wpR_run 1 rfl ?_
    refine wpR_nil (QE_then_n (wpC_exit ?_))
    refine QE_blk_o rfl ?_
    refine QE_then_x (QE_blk_o rfl ?_)
    refine QE_then_x (QE_blk_x ?_)
    refine QE_then_n ?_
    exact wpC_le _ (by exact ⟨rfl, rfl, rfl, rfl, rfl, rfl, rfl, trivial⟩) (hK_56 (UInt64.ofInt x_2.2.2.2) _ _ ⟨rfl, hS⟩ h)
   have h := if_f h hb_49
   refine wpC_skip (QE_then_n (wpC_seq (wpC_seq (wpC_region (wpR_run 2 rfl ?_)))))
   refine wpR_nil (QE_then_n ?_)
   refine wpC_cond rfl (fun hb_48 => ?_) (fun hb_48 => ?_)
   ·have h := if_t h hb_48
    refine wpC_exit ?_
    refine QE_then_x (QE_then_x (QE_blk_o rfl ?_))
    refine QE_then_x (QE_blk_o rfl ?_)
    refine QE_then_x (QE_blk_o rfl ?_)
    refine QE_then_x (QE_blk_o rfl ?_)
    refine QE_then_x (QE_blk_x ?_)
    refine QE_then_n (wpC_seq (wpC_seq (wpC_seq (wpC_region (wpR_v (OpV_fieldB (k := 3) Tryd.underlying42 rfl rfl nz3 rfl) rfl ?_)))))
    refine wpR_v (OpV_ldB Tryd.underlying3 rfl rfl (hS.bxc 1 rfl 3)) rfl ?_
    refine wpR_v (OpV_bin rfl rfl (b_irem _ x_2.2.2.2 2 (by decide))) rfl ?_
    refine wpR_run 1 rfl ?_
    refine wpR_nil (QE_then_n ?_)
    refine wpC_cond rfl (fun hb_45 => ?_) (fun hb_45 => ?_)
    ·have h := if_t h hb_45
     refine wpC_seq (wpC_region (wpR_run 2 rfl ?_))
     refine wpR_nil (QE_then_n (wpC_ret (QE_then_r (QE_then_r (QE_blk_r ?_)))))
     refine QE_then_r (QE_blk_r ?_)
     refine QE_then_r ?_
     cases h
     exact QE_ret2 rfl rfl rfl ⟨.slice none 0 0, rfl, (hS.nil e8).pick [0] (by decide) rfl⟩
    have h := if_f h hb_45
    refine wpC_skip (QE_then_n (wpC_region (wpR_v (OpV_fieldB (k := 3) Tryd.underlying42 rfl rfl nz3 rfl) rfl ?_)))
    refine wpR_v (OpV_ldB Tryd.underlying3 rfl rfl (hS.bxc 1 rfl 3)) rfl ?_
    refine wpR_v (OpV_bin rfl rfl (b_iquo _ x_2.2.2.2 2 (by decide))) rfl ?_
    refine wpR_v (OpV_conv rfl (cv_i_64 Tryd.underlying3 Tryd.underlying40 (wI (Int.tdiv x_2.2.2.2 2)))) rfl ?_
    obtain ⟨x_44, hx_44, h⟩ := olet_some h
    refine wpR_v (OpV_assign (v := v64 x_44) (by rw [← hx_44]; rfl)) rfl ?_
    refine wpR_nil (QE_then_n (wpC_exit ?_))
    refine QE_blk_o rfl ?_
    refine QE_then_x (QE_blk_x ?_)
    refine QE_then_n ?_
    exact wpC_le _ (by exact ⟨rfl, rfl, rfl, rfl, rfl, rfl, rfl, trivial⟩) (hK_56 x_44 _ _ ⟨rfl, hS⟩ h)
   have h := if_f h hb_48
   refine wpC_skip (QE_then_n (wpC_seq (wpC_region (wpR_run 2 rfl ?_))))
   refine wpR_nil (QE_then_n ?_)
   refine wpC_cond rfl (fun hb_47 => ?_) (fun hb_47 => ?_)
   ·have h := if_t h hb_47
    refine wpC_exit ?_
    refine QE_then_x (QE_blk_o rfl ?_)
    refine QE_then_x (QE_blk_o rfl ?_)
    refine QE_then_x (QE_blk_o rfl ?_)
    refine QE_then_x (QE_blk_o rfl ?_)
    refine QE_then_x (QE_blk_o rfl ?_)
    refine QE_then_x (QE_blk_x ?_)
    refine QE_then_n (wpC_seq (wpC_seq (wpC_region (wpR_v (OpV_fieldB (k := 3) Tryd.underlying42 rfl rfl nz3 rfl) rfl ?_))))
    refine wpR_v (OpV_ldB Tryd.underlying3 rfl rfl (hS.bxc 1 rfl 3)) rfl ?_
    refine wpR_run 1 rfl ?_
    refine wpR_nil (QE_then_n ?_)
    refine wpC_cond rfl (fun hb_46 => ?_) (fun hb_46 => ?_)
    ·have h := if_t h hb_46
     refine wpC_seq (wpC_region (wpR_run 2 rfl ?_))
     refine wpR_nil (QE_then_n (wpC_ret (QE_then_r (QE_blk_r ?_))))
     refine QE_then_r ?_
     cases h
     exact QE_ret2 rfl rfl rfl ⟨.slice none 0 0, rfl, (hS.nil e8).pick [0] (by decide) rfl⟩
    have h := if_f h hb_46
    refine wpC_skip (QE_then_n (wpC_exit ?_))
    refine QE_blk_x ?_
    refine QE_then_n ?_
    exact wpC_le _ (by exact ⟨rfl, rfl, rfl, rfl, rfl, rfl, rfl, trivial⟩) (hK_56 x_2.2.1 _ _ ⟨rfl, hS⟩ h)
   have h := if_f h hb_47
   refine wpC_skip (QE_then_n (wpC_exit ?_))
   refine QE_blk_o rfl ?_
   refine QE_then_x (QE_blk_o rfl ?_)
   refine QE_then_x (QE_blk_o rfl ?_)
   refine QE_then_x (QE_blk_o rfl ?_)
   refine QE_then_x (QE_blk_o rfl ?_)
   refine QE_then_x (QE_blk_o rfl ?_)
   refine QE_then_x (QE_blk_x ?_)
   refine QE_then_n ?_
   exact wpC_le _ (by exact ⟨rfl, rfl, rfl, rfl, rfl, rfl, rfl, trivial⟩) (hK_56 x_2.2.1 _ _ ⟨rfl, hS⟩ h)
  rintro _g L w hJ h
  try dsimp only at hJ
  obtain ⟨rfl, hS⟩ := hJ
  unfold F.cbor_write_s_K8 at h
  refine wpC_seq (wpC_region (wpR_v (OpV_fieldB (k := 2) Tryd.underlying42 rfl rfl nz9 rfl) rfl ?_))
  refine wpR_v (OpV_ldB Tryd.underlying9 rfl rfl (hS.bxc 1 rfl 2)) rfl ?_
  refine wpR_v (OpV_lenS Tryd.underlying9 rfl) rfl ?_
  refine wpR_v (OpV_conv rfl (cv_i_64 Tryd.underlying3 Tryd.underlying40 (x_2.2.2.1.length : Int))) rfl ?_
  obtain ⟨x_54, hx_54, h⟩ := olet_some h
  refine wpR_v (OpV_assign (v := v64 x_54) (by rw [← hx_54]; rfl)) rfl ?_
  refine wpR_nil (QE_then_n (wpC_exit ?_))
  refine QE_blk_o rfl ?_
  refine QE_then_x (QE_blk_o rfl ?_)
  refine QE_then_x (QE_blk_o rfl ?_)
  refine QE_then_x (QE_blk_x ?_)
  refine QE_then_n ?_
  exact wpC_le _ (by exact ⟨rfl, rfl, rfl, rfl, rfl, rfl, rfl, trivial⟩) (hK_56 x_54 _ _ ⟨rfl, hS⟩ h)
 rintro x_55 L w hJ h
 try dsimp only at hJ
 obtain ⟨rfl, hS⟩ := hJ
 unfold F.cbor_write_s_K3 at h
 refine wpC_seq ?_
 refine seq_join (r := r) (fun (g : Bool) L w => L = [(0, va0), (1, va1), (2, vI a2), (3, vI a3), (10, pB b_3 0), (14, v64 x_55), (139, vB g)] ∧ St S w0 w [own e8 va0 a0, OE.bx b_3 [vI x_2.1, v64 x_2.2.1, vS x_2.2.2.1, vI x_2.2.2.2]]) (F.cbor_write_s_K4 a0 a2 x_2 x_55 a1 a3 rc) ?_ ?_
 rotate_left
 ·intro hK_59
  refine wpC_region (wpR_run 2 rfl ?_)
  cases hb_57 : x_18
  case true =>
   have h := if_t h hb_57
   try simp only [hb_57]
   refine wpR_run 3 rfl ?_
   refine wpR_nil (QE_then_n ?_)
   exact wpC_le _ (by exact ⟨rfl, rfl, rfl, rfl, rfl, rfl, rfl, trivial⟩) (hK_59 (a3 == 32) _ _ ⟨rfl, hS⟩ h)
  case false =>
   have h := if_f h hb_57
   try simp only [hb_57]
   refine wpR_run 3 rfl ?_
   refine wpR_nil (QE_then_n ?_)
   exact wpC_le _ (by exact ⟨rfl, rfl, rfl, rfl, rfl, rfl, rfl, trivial⟩) (hK_59 false _ _ ⟨rfl, hS⟩ h)
 rintro x_58 L w hJ h
 try dsimp only at hJ
 obtain ⟨rfl, hS⟩ := hJ
 unfold F.cbor_write_s_K4 at h
 refine wpC_cond rfl (fun hb_104 => ?_) (fun hb_104 => ?_)
 ·have h := if_t h hb_104
  refine wpC_seq (wpC_region (wpR_run 2 rfl ?_))
  refine wpR_nil (QE_then_n (wpC_ret (QE_then_r ?_)))
  cases h
  exact QE_ret2 rfl rfl rfl ⟨.slice none 0 0, rfl, (hS.nil e8).pick [0] (by decide) rfl⟩
 have h := if_f h hb_104
 refine wpC_skip (QE_then_n (wpC_seq ?_))
 have hsh0 := (hS.ro 0 rfl).shp
 refine wpC_regionT (fun w' => St S w0 w' [OE.bx b_3 [vI x_2.1, v64 x_2.2.1, vS x_2.2.2.1, vI x_2.2.2.2]]) (fun i => !([4, 7].contains i)) hmix (fun _ _ _ hf => hf.2) (fun _ _ hf => hf) (by kernel_rfl) ?_
 have hS := hS.drew
 show lxE _ _ _ _ _ _ _ [0, 1, 2, 3, 4, 5, 6, 7, 8] _ _
 refine lxE_v (hS.pick [1] (by decide) rfl) rfl rfl (fun w hF => OpV_move rfl) rfl ?_
 refine lxE_v (hS.pick [1] (by decide) rfl) rfl rfl (fun w hF => OpV_fieldB (k := 0) Tryd.underlying42 rfl rfl nz3 rfl) rfl ?_
 refine lxE_v (hS.pick [1] (by decide) rfl) rfl rfl (fun w hF => OpV_ldB Tryd.underlying3 rfl rfl (hF.bxc 0 rfl 0)) rfl ?_
 refine lxE_v (hS.pick [1] (by decide) rfl) rfl rfl (fun w hF => OpV_move rfl) rfl ?_
 have hG := hS.pick (os' := [own e8 va0 a0] ++ [OE.bx b_3 [vI x_2.1, v64 x_2.2.1, vS x_2.2.2.1, vI x_2.2.2.2]]) [0, 1] (by decide) rfl
 obtain ⟨x_60, hx_60, h⟩ := obind_some h
 refine lxE_call (hS.pick [1] (by decide) rfl) rfl rfl (by kernel_rfl) rfl (c_cbor_head _ a0 x_2.1 x_55 va0  _ hG.give  _ hx_60) rfl ?_
 rintro v_61 w ⟨v_61q, hqv_61, hS1⟩
 rw [← hqv_61] at hS1
 have hS := hG.back hS1
 simp only [List.cons_append, List.nil_append] at hS
 refine lxE_v (hS.pick [1] (by decide) rfl) rfl rfl (fun w hF => OpV_fieldB (k := 2) Tryd.underlying42 rfl rfl nz9 rfl) rfl ?_
 refine lxE_v (hS.pick [1] (by decide) rfl) rfl rfl (fun w hF => OpV_ldB Tryd.underlying9 rfl rfl (hF.bxc 0 rfl 2)) rfl ?_
 obtain ⟨x_63, hx_63, h⟩ := obind_some h
 refine lxE_x (hS.pick [1] (by decide) rfl) rfl rfl (G_appendS Tryd.underlying22 Tryd.underlying9 ti5 rfl rfl hS (i := 0) rfl hx_63) rfl ?_
 rintro v_64 w hS
 refine lxE_v (hS.pick [1] (by decide) rfl) rfl rfl (fun w hF => OpV_assign rfl) rfl ?_
 refine lxE_nil (hS.pick [1] (by decide) rfl) ?_
 refine QE_then_n (wpC_seq (wpC_region (wpR_run 3 rfl ?_)))
 refine wpR_nil (QE_then_n (wpC_seq (wpC_region (wpR_run 1 rfl ?_))))
 refine wpR_nil (QE_then_n (wpC_seq (wpC_seq (wpC_region (wpR_v (OpV_fieldB (k := 3) Tryd.underlying42 rfl rfl nz3 rfl) rfl ?_)))))
 refine wpR_v (OpV_ldB Tryd.underlying3 rfl rfl (hS.bxc 1 rfl 3)) rfl ?_
 refine wpR_run 1 rfl ?_
 refine wpR_nil (QE_then_n (wpC_block ?_))
 refine wpC_le [(0, v_64), (1, va1), (2, vI (wI (a2 + 1))), (3, vI a3), (10, pB b_3 0), (15, .slice none 0 0), (151, vI x_2.2.2.2), (152, vI 0)] ⟨rfl, rfl, rfl, rfl, rfl, rfl, rfl, rfl, trivial⟩ ?_
 refine loop_ind (F.cbor_write_s_L1 a1 a3 rc x_2) (fun (s : List UInt8 × Int × List UInt8 × Int) L w => ∃ (v_67 : Value) (v_71 : Value), L = [(0, v_67), (1, va1), (2, vI s.2.1), (3, vI a3), (10, pB b_3 0), (15, v_71), (151, vI x_2.2.2.2), (152, vI s.2.2.2)] ∧ St S w0 w [own e8 v_67 s.1, own e8 v_71 s.2.2.1, OE.bx b_3 [vI x_2.1, v64 x_2.2.1, vS x_2.2.2.1, vI x_2.2.2.2]]) ?_ (x_63, wI (a2 + 1), [], 0) ⟨v_64, .slice none 0 0, rfl, ((hS.nil e8).pick [1, 0, 2] (by decide) rfl)⟩ h
 rintro k_103 ⟨x_66, x_69, x_70, x_73⟩ L w q_76 hI ih_75 h hk_74
 try dsimp only at hI
 obtain ⟨v_67, v_71, rfl, hS⟩ := hI
 unfold F.cbor_write_s_L1 at h
 refine wpC_seq (wpC_region (wpR_run 1 rfl ?_))
 refine wpR_nil (QE_then_n (wpC_seq ?_))
 refine wpC_cond rfl (fun hb_102 => ?_) (fun hb_102 => ?_)
 ·have h := if_t h hb_102
  refine wpC_skip (QE_then_n ?_)
  refine seq_join (r := q_76) (fun (g : List UInt8 × Int × List UInt8) L w => ∃ (v_95 : Value) (v_99 : Value), L = [(0, v_95), (1, va1), (2, vI g.2.1), (3, vI a3), (10, pB b_3 0), (15, v_99), (151, vI x_2.2.2.2), (152, vI x_73)] ∧ St S w0 w [own e8 v_95 g.1, own e8 v_99 g.2.2, OE.bx b_3 [vI x_2.1, v64 x_2.2.1, vS x_2.2.2.1, vI x_2.2.2.2]]) (F.cbor_write_s_K5 x_73) ?_ ?_
  rotate_left
  ·intro hK_101
   refine wpC_block ?_
   refine wpC_seq (wpC_region (wpR_run 2 rfl ?_))
   refine wpR_nil (QE_then_n (wpC_seq (wpC_region (wpR_run 1 rfl ?_))))
   refine wpR_v (OpV_len Tryd.underlying22 rfl (hS.ro 0 rfl)) rfl ?_
   refine wpR_run 1 rfl ?_
   refine wpR_nil (QE_then_n (wpC_seq (wpC_seq (wpC_region (wpR_run 5 rfl ?_)))))
   have hG := hS.pick (os' := [own e8 v_67 x_66] ++ [own e8 v_71 x_70, OE.bx b_3 [vI x_2.1, v64 x_2.2.1, vS x_2.2.2.1, vI x_2.2.2.2]]) [0, 1, 2] (by decide) rfl
   obtain ⟨x_77, hx_77, h⟩ := obind_some h
   refine wpR_call (by kernel_rfl) rfl (hrc _ x_66 a1 x_69 (wI (a3 + 1)) v_67 va1  _ hG.give (hT.give hG) (ha1.give (Nat.le_of_ble_eq_true rfl) hG) _ hx_77) rfl ?_
   rintro _ w ⟨v_78, rfl, hS1⟩
   have hS := hG.back hS1
   simp only [List.cons_append, List.nil_append] at hS
   refine wpR_run 5 rfl ?_
   refine wpR_nil (QE_then_n (wpC_seq (wpC_region (wpR_run 2 rfl ?_))))
   refine wpR_nil (QE_then_n ?_)
   refine wpC_cond rfl (fun hb_93 => ?_) (fun hb_93 => ?_)
   ·have h := if_t h hb_93
    refine wpC_seq (wpC_region (wpR_run 2 rfl ?_))
    refine wpR_nil (QE_then_n (wpC_ret (QE_then_r (QE_blk_r ?_))))
    refine QE_then_r (QE_then_r ?_)
    have h := oinr_some h hk_74
    refine QE_blk_r ?_
    refine QE_then_r ?_
    cases h
    exact QE_ret2 rfl rfl rfl ⟨.slice none 0 0, rfl, (hS.nil e8).pick [0] (by decide) rfl⟩
   have h := if_f h hb_93
   refine wpC_skip (QE_then_n ?_)
   refine seq_join (r := q_76) (fun (g : Bool) L w => L = [(0, v_78), (1, va1), (2, vI x_77.2), (3, vI a3), (10, pB b_3 0), (15, v_71), (16, vI x_73), (17, vI (x_66.length : Int)), (151, vI x_2.2.2.2), (152, vI x_73), (175, vB g)] ∧ St S w0 w [own e8 v_78 x_77.1, OE.bx b_3 [vI x_2.1, v64 x_2.2.1, vS x_2.2.2.1, vI x_2.2.2.2], own e8 v_71 x_70]) (F.cbor_write_s_K6 x_66 x_70 x_73 x_77) ?_ ?_
   rotate_left
   ·intro hK_82
    refine wpC_region (wpR_v (OpV_fieldB (k := 0) Tryd.underlying42 rfl rfl nz3 rfl) rfl ?_)
    refine wpR_v (OpV_ldB Tryd.underlying3 rfl rfl (hS.bxc 2 rfl 0)) rfl ?_
    refine wpR_run 2 rfl ?_
    cases hb_80 : (x_2.1 == 5)
    case true =>
     have h := if_t h hb_80
     try simp only [hb_80]
     refine wpR_run 1 rfl ?_
     refine wpR_gv (t := 171) rfl rfl (OpV_bin rfl rfl (b_irem _ x_73 2 (by decide))) rfl ?_
     refine wpR_run 2 rfl ?_
     refine wpR_nil (QE_then_n ?_)
     exact wpC_le _ (by exact ⟨rfl, rfl, rfl, rfl, rfl, rfl, rfl, rfl, rfl, rfl, rfl, trivial⟩) (hK_82 ((Int.tmod x_73 2) == 0) _ _ ⟨rfl, (hS.pick [0, 2, 1] (by decide) rfl)⟩ h)
    case false =>
     have h := if_f h hb_80
     try simp only [hb_80]
     refine wpR_run 4 rfl ?_
     refine wpR_nil (QE_then_n ?_)
     exact wpC_le _ (by exact ⟨rfl, rfl, rfl, rfl, rfl, rfl, rfl, rfl, rfl, rfl, rfl, trivial⟩) (hK_82 false _ _ ⟨rfl, (hS.pick [0, 2, 1] (by decide) rfl)⟩ h)
   rintro x_81 L w hJ h
   try dsimp only at hJ
   obtain ⟨rfl, hS⟩ := hJ
   unfold F.cbor_write_s_K6 at h
   refine wpC_cond rfl (fun hb_92 => ?_) (fun hb_92 => ?_)
   ·have h := if_t h hb_92
    refine wpC_seq (wpC_region (wpR_run 2 rfl ?_))
    obtain ⟨x_83, hx_83, h⟩ := obind_some h
    refine wpR_v (G_sll Tryd.underlying22 ti5 rfl rfl (hS.ro 0 rfl) hx_83) rfl ?_
    refine wpR_run 1 rfl ?_
    refine wpR_nil (QE_then_n (wpC_seq ?_))
    refine seq_join (r := q_76) (fun (g : Bool) L w => L = [(0, v_78), (1, va1), (2, vI x_77.2), (3, vI a3), (10, pB b_3 0), (18, slV v_78 e8.sz (((x_66.length : Int) : Int).toNat) x_77.1.length), (151, vI x_2.2.2.2), (152, vI x_73), (186, vB g)] ∧ St S w0 w [own e8 v_78 x_77.1, OE.bx b_3 [vI x_2.1, v64 x_2.2.1, vS x_2.2.2.1, vI x_2.2.2.2]]) (F.cbor_write_s_K7 x_77 x_83 x_73) ?_ ?_
    rotate_left
    ·intro hK_87
     refine wpC_region (wpR_run 3 rfl ?_)
     cases hb_84 : (decide ((0 : Int) < x_73))
     case true =>
      have h := if_t h hb_84
      try simp only [hb_84]
      refine wpR_run 2 rfl ?_
      obtain ⟨x_85, hx_85, h⟩ := obind_some h
      refine wpR_gcall (t := 181) rfl rfl (by kernel_rfl) rfl (c_slices_Compare_byte_byte _ x_70 x_83 v_71 (slV v_78 e8.sz (((x_66.length : Int) : Int).toNat) x_77.1.length)  (hS.ro 2 rfl).rp ((hS.ro 0 rfl).g_sll hx_83).rp _ hx_85) rfl ?_
      rintro _ w ⟨rfl, hS1⟩
      have hS := hS.call hS1
      simp only [List.cons_append, List.nil_append] at hS
      refine wpR_run 2 rfl ?_
      refine wpR_nil (QE_then_n ?_)
      exact wpC_le _ (by exact ⟨rfl, rfl, rfl, rfl, rfl, rfl, rfl, rfl, rfl, trivial⟩) (hK_87 (decide ((0 : Int) ≤ x_85)) _ _ ⟨rfl, (hS.pick [0, 1] (by decide) rfl)⟩ h)
     case false =>
      have h := if_f h hb_84
      try simp only [hb_84]
      refine wpR_run 5 rfl ?_
      refine wpR_nil (QE_then_n ?_)
      exact wpC_le _ (by exact ⟨rfl, rfl, rfl, rfl, rfl, rfl, rfl, rfl, rfl, trivial⟩) (hK_87 false _ _ ⟨rfl, (hS.pick [0, 1] (by decide) rfl)⟩ h)
    rintro x_86 L w hJ h
    try dsimp only at hJ
    obtain ⟨rfl, hS⟩ := hJ
    unfold F.cbor_write_s_K7 at h
    refine wpC_cond rfl (fun hb_91 => ?_) (fun hb_91 => ?_)
    ·have h := if_t h hb_91
     refine wpC_seq (wpC_region (wpR_run 2 rfl ?_))
     refine wpR_nil (QE_then_n (wpC_ret (QE_then_r (QE_blk_r ?_))))
     refine QE_then_r (QE_then_r ?_)
     have h := oinr_some h hk_74
     refine QE_blk_r ?_
     refine QE_then_r ?_
     cases h
     exact QE_ret2 rfl rfl rfl ⟨.slice none 0 0, rfl, (hS.nil e8).pick [0] (by decide) rfl⟩
    have h := if_f h hb_91
    refine wpC_skip (QE_then_n (wpC_region (wpR_run 1 rfl ?_)))
    obtain ⟨x_88, hx_88, h⟩ := obind_some h
    refine wpR_call (by kernel_rfl) rfl (c_slices_Clone_byte_byte _ x_83 (slV v_78 e8.sz (((x_66.length : Int) : Int).toNat) x_77.1.length)  ((hS.ro 0 rfl).g_sll hx_83).rp _ hx_88) rfl ?_
    rintro v_89 w hS1
    have hS := hS.call hS1
    simp only [List.cons_append, List.nil_append] at hS
    refine wpR_run 1 rfl ?_
    refine wpR_nil (QE_blk_n ?_)
    refine QE_then_n ?_
    exact wpC_le _ (by exact ⟨rfl, rfl, rfl, rfl, rfl, rfl, rfl, rfl, trivial⟩) (hK_101 (x_77.1, x_77.2, x_88) _ _ ⟨v_78, v_89, rfl, (hS.pick [1, 0, 2] (by decide) rfl)⟩ h)
   have h := if_f h hb_92
   refine wpC_skip (QE_blk_n ?_)
   refine QE_then_n ?_
   exact wpC_le _ (by exact ⟨rfl, rfl, rfl, rfl, rfl, rfl, rfl, rfl, trivial⟩) (hK_101 (x_77.1, x_77.2, x_70) _ _ ⟨v_78, v_71, rfl, (hS.pick [0, 2, 1] (by decide) rfl)⟩ h)
  rintro ⟨x_94, x_97, x_98⟩ L w hJ h
  try dsimp only at hJ
  obtain ⟨v_95, v_99, rfl, hS⟩ := hJ
  unfold F.cbor_write_s_K5 at h
  refine wpC_region (wpR_run 2 rfl ?_)
  refine wpR_nil ?_
  exact QE_rnd (wpN_le _ (by exact ⟨rfl, rfl, rfl, rfl, rfl, rfl, rfl, rfl, trivial⟩) (ih_75 (x_94, x_97, x_98, wI (x_73 + 1)) _ _ ⟨v_95, v_99, rfl, hS⟩ (oinl_some h hk_74)))
 have h := if_f h hb_102
 refine wpC_exit ?_
 refine QE_then_x (QE_then_x ?_)
 have h := oinr_some h hk_74
 refine QE_blk_x ?_
 refine QE_then_n (wpC_seq (wpC_region (wpR_run 4 rfl ?_)))
 refine wpR_nil (QE_then_n (wpC_ret ?_))
 cases h
 exact QE_ret2 rfl rfl rfl ⟨v_67, rfl, hS.pick [0] (by decide) rfl⟩
theorem c_cbor_write_n (n : Nat) : ∀ (w0 : World) (a0 : List UInt8) (a1 : List (Int × UInt64 × (List UInt8) × Int)) (a2 : Int) (a3 : Int) (va0 : Value) (va1 : Value) (S : List Nat) (hS : St S w0 w0 [own e8 va0 a0]) (hT : TB S w0) (ha1 : RP S w0 (eP eI (eP e64 (eP eS eI))) va1 a1) (r : List UInt8 × Int), F.cbor_write_n n a0 a1 a2 a3 = some r → Calls Tryd.prog 43 #[va0, va1, vI a2, vI a3] w0 (Ret fun v w => ∃ u0 : Value, v = .tuple #[u0, vI r.2] ∧ St S w0 w [own e8 u0 r.1]) := by
 induction n with
 | zero => intros; rename_i h; exact absurd h (by simp [F.cbor_write_n])
 | succ n ih => exact c_cbor_write_s (F.cbor_write_n n) ih
theorem c_cbor_write (w0 : World) (a0 : List UInt8) (a1 : List (Int × UInt64 × (List UInt8) × Int)) (a2 : Int) (a3 : Int) (va0 : Value) (va1 : Value) (S : List Nat) (hS : St S w0 w0 [own e8 va0 a0]) (hT : TB S w0) (ha1 : RP S w0 (eP eI (eP e64 (eP eS eI))) va1 a1) (r : List UInt8 × Int) (h : F.cbor_write a0 a1 a2 a3 = some r) : Calls Tryd.prog 43 #[va0, va1, vI a2, vI a3] w0 (Ret fun v w => ∃ u0 : Value, v = .tuple #[u0, vI r.2] ∧ St S w0 w [own e8 u0 r.1]) := c_cbor_write_n 64 w0 a0 a1 a2 a3 va0 va1 S hS hT ha1 r h
theorem c_cbor_Shaped (w0 : World) (a0 : List (Int × UInt64 × (List UInt8) × Int)) (va0 : Value) (hT : TB [] w0) (ha0 : RP [] w0 (eP eI (eP e64 (eP eS eI))) va0 a0) (r : Bool)
  (h : F.cbor_Shaped a0 = some r) : Calls Tryd.prog 38 #[va0] w0 (Ret fun v w => v = vB r ∧ St [] w0 w []) := by
 refine calls_at 18 Tryd.func38 rfl rfl rfl ?_
 have hS := St.start w0
 refine wpC_le [(0, va0)] ⟨rfl, trivial⟩ ?_
 unfold F.cbor_Shaped at h
 refine wpC_seq (wpC_region (wpR_run 1 rfl ?_))
 refine wpR_nil (QE_then_n (wpC_seq (wpC_region (wpR_run 1 rfl ?_))))
 replace hS := hS.nil e8
 have hG := hS.pick (os' := [own e8 (.slice none 0 0) []] ++ []) [0] (by decide) rfl
 obtain ⟨x_2, hx_2, h⟩ := obind_some h
 refine wpR_call (by kernel_rfl) rfl (c_cbor_write _ [] a0 0 0 (.slice none 0 0) va0  _ hG.give (hT.give hG) (ha0.give (Nat.le_of_ble_eq_true rfl) hG) _ hx_2) rfl ?_
 rintro _ w ⟨v_3, rfl, hS1⟩
 have hS := hG.back hS1
 simp only [List.cons_append, List.nil_append] at hS
 refine wpR_run 5 rfl ?_
 refine wpR_nil (QE_then_n (wpC_seq (wpC_region (wpR_run 2 rfl ?_))))
 refine wpR_v (OpV_len Tryd.underlying37 rfl (ha0.now hS.fr)) rfl ?_
 refine wpR_run 2 rfl ?_
 cases hb_5 : (x_2.2 == (a0.length : Int))
 case true =>
  have h := if_t h hb_5
  try simp only [hb_5]
  refine wpR_run 4 rfl ?_
  refine wpR_nil (QE_then_n (wpC_ret ?_))
  cases h
  exact QE_ret1 rfl rfl ⟨rfl, hS.pick [] (by decide) rfl⟩
 case false =>
  have h := if_f h hb_5
  try simp only [hb_5]
  refine wpR_run 4 rfl ?_
  refine wpR_nil (QE_then_n (wpC_ret ?_))
  cases h
  exact QE_ret1 rfl rfl ⟨rfl, hS.pick [] (by decide) rfl⟩
theorem c_cbor_behind (w0 : World) (a0 : List (Int × UInt64 × (List UInt8) × Int)) (a1 : Int) (va0 : Value) (ha0 : RP [] w0 (eP eI (eP e64 (eP eS eI))) va0 a0) (r : Int)
  (h : F.cbor_behind a0 a1 = some r) : Calls Tryd.prog 39 #[va0, vI a1] w0 (Ret fun v w => v = vI r ∧ St [] w0 w []) := by
 refine calls_at 19 Tryd.func39 rfl rfl rfl ?_
 have hS := St.start w0
 refine wpC_le [(0, va0), (1, vI a1)] ⟨rfl, rfl, trivial⟩ ?_
 unfold F.cbor_behind at h
 refine wpC_seq (wpC_region (wpR_run 1 rfl ?_))
 refine wpR_nil (QE_then_n (wpC_seq (wpC_seq (wpC_region (wpR_run 1 rfl ?_)))))
 refine wpR_nil (QE_then_n (wpC_block ?_))
 refine wpC_le [(0, va0), (1, vI a1), (5, vI 1)] ⟨rfl, rfl, rfl, trivial⟩ ?_
 refine loop_ind (F.cbor_behind_L1 a0) (fun (s : Int × Int) L w => L = [(0, va0), (1, vI s.1), (5, vI s.2)] ∧ St [] w0 w []) ?_ (a1, 1) ⟨rfl, hS⟩ h
 rintro k_9 ⟨x_1, x_2⟩ L w q_5 hI ih_4 h hk_3
 try dsimp only at hI
 obtain ⟨rfl, hS⟩ := hI
 unfold F.cbor_behind_L1 at h
 refine wpC_seq (wpC_seq (wpC_region (wpR_run 2 rfl ?_)))
 refine wpR_nil (QE_then_n ?_)
 refine wpC_cond rfl (fun hb_8 => ?_) (fun hb_8 => ?_)
 ·have h := if_t h hb_8
  refine wpC_skip (QE_then_n (wpC_seq (wpC_block ?_)))
  refine wpC_region (wpR_run 3 rfl ?_)
  obtain ⟨x_6, hx_6, h⟩ := obind_some h
  refine wpR_v (G_ix Tryd.underlying37 ti42 rfl rfl (ha0.now hS.fr) hx_6) rfl ?_
  refine wpR_v (OpV_fieldE (k := 3) Tryd.underlying42 rfl rfl nz3 rfl) rfl ?_
  refine wpR_v (G_loadF Tryd.underlying3 rfl rfl (ha0.now hS.fr) hx_6 rfl rfl) rfl ?_
  refine wpR_run 2 rfl ?_
  obtain ⟨x_7, hx_7, h⟩ := olet_some h
  refine wpR_v (OpV_assign (v := vI x_7) (by rw [← hx_7]; rfl)) rfl ?_
  refine wpR_nil (QE_blk_n ?_)
  refine QE_then_n (wpC_region (wpR_run 3 rfl ?_))
  refine wpR_nil ?_
  exact QE_rnd (wpN_le _ (by exact ⟨rfl, rfl, rfl, trivial⟩) (ih_4 (wI (x_1 + 1), x_7) _ _ ⟨rfl, hS⟩ (oinl_some h hk_3)))
 have h := if_f h hb_8
 refine wpC_exit ?_
 refine QE_then_x (QE_then_x ?_)
 have h := oinr_some h hk_3
 refine QE_blk_x ?_
 refine QE_then_n (wpC_seq (wpC_region (wpR_run 2 rfl ?_)))
 refine wpR_nil (QE_then_n (wpC_ret ?_))
 cases h
 exact QE_ret1 rfl rfl ⟨rfl, hS⟩
theorem c_cbor_same (w0 : World) (a0 : List (Int × UInt64 × (List UInt8) × Int)) (a1 : List (Int × UInt64 × (List UInt8) × Int)) (va0 : Value) (va1 : Value) (ha0 : RP [] w0 (eP eI (eP e64 (eP eS eI))) va0 a0) (ha1 : RP [] w0 (eP eI (eP e64 (eP eS eI))) va1 a1) (r : Bool)
  (h : F.cbor_same a0 a1 = some r) : Calls Tryd.prog 44 #[va0, va1] w0 (Ret fun v w => v = vB r ∧ St [] w0 w []) := by
 refine calls_at 29 Tryd.func44 rfl rfl rfl ?_
 have hS := St.start w0
 refine wpC_le [(0, va0), (1, va1)] ⟨rfl, rfl, trivial⟩ ?_
 unfold F.cbor_same at h
 refine wpC_seq (wpC_region (wpR_run 1 rfl ?_))
 refine wpR_nil (QE_then_n (wpC_seq (wpC_seq (wpC_region (wpR_run 1 rfl ?_)))))
 refine wpR_v (OpV_len Tryd.underlying37 rfl (ha0.now hS.fr)) rfl ?_
 refine wpR_run 1 rfl ?_
 refine wpR_v (OpV_len Tryd.underlying37 rfl (ha1.now hS.fr)) rfl ?_
 refine wpR_v (OpV_min rfl rfl) rfl ?_
 refine wpR_run 1 rfl ?_
 refine wpR_nil (QE_then_n (wpC_block ?_))
 refine wpC_le [(0, va0), (1, va1), (10, vI (min (a0.length : Int) (a1.length : Int))), (11, vI 0)] ⟨rfl, rfl, rfl, rfl, trivial⟩ ?_
 refine loop_ind (F.cbor_same_L1 a0 a1) (fun (s : Int) L w => L = [(0, va0), (1, va1), (10, vI (min (a0.length : Int) (a1.length : Int))), (11, vI s)] ∧ St [] w0 w []) ?_ 0 ⟨rfl, hS⟩ h
 rintro k_9 x_1 L w q_4 hI ih_3 h hk_2
 try dsimp only at hI
 obtain ⟨rfl, hS⟩ := hI
 unfold F.cbor_same_L1 at h
 refine wpC_seq (wpC_region (wpR_run 1 rfl ?_))
 refine wpR_nil (QE_then_n (wpC_seq ?_))
 refine wpC_cond rfl (fun hb_8 => ?_) (fun hb_8 => ?_)
 ·have h := if_t h hb_8
  refine wpC_skip (QE_then_n (wpC_seq (wpC_block ?_)))
  refine wpC_seq (wpC_region (wpR_run 2 rfl ?_))
  refine wpR_nil (QE_then_n (wpC_seq ?_))
  refine wpC_regionT (fun w' => St [] w0 w' []) (fun _ => true) hmix (fun _ _ _ hf => hf.2) (fun _ _ hf => hf) (by kernel_rfl) ?_
  have hS := hS.drew
  show lxE _ _ _ _ _ _ _ [0, 1, 2, 3, 4, 5, 6, 7, 8] _ _
  refine lxE_v hS rfl rfl (fun w hF => OpV_move rfl) rfl ?_
  refine lxE_v hS rfl rfl (fun w hF => OpV_move rfl) rfl ?_
  obtain ⟨x_5, hx_5, h⟩ := obind_some h
  refine lxE_v hS rfl rfl (fun w hF => G_ix Tryd.underlying37 ti42 rfl rfl (ha0.now hF.fr) hx_5) rfl ?_
  refine lxE_v hS rfl rfl (fun w hF => G_loadW Tryd.underlying42 rfl sz42 rfl (ha0.now hF.fr) hx_5) rfl ?_
  refine lxE_v hS rfl rfl (fun w hF => OpV_move rfl) rfl ?_
  refine lxE_v hS rfl rfl (fun w hF => OpV_move rfl) rfl ?_
  obtain ⟨x_6, hx_6, h⟩ := obind_some h
  refine lxE_v hS rfl rfl (fun w hF => G_ix Tryd.underlying37 ti42 rfl rfl (ha1.now hF.fr) hx_6) rfl ?_
  refine lxE_v hS rfl rfl (fun w hF => G_loadW Tryd.underlying42 rfl sz42 rfl (ha1.now hF.fr) hx_6) rfl ?_
  refine lxE_v hS rfl rfl (fun w hF => OpV_bin rfl rfl (agx (b' := x_5 != x_6) (b_agne Tryd.underlying42 sh42 eg42 (eqf_i rfl Tryd.underlying3 rfl rfl (eqf_64 rfl Tryd.underlying40 rfl rfl (eqf_s rfl Tryd.underlying9 rfl rfl (eqf_i rfl Tryd.underlying3 rfl rfl eqf_nil))))) (by simp only [Bool.and_true]; rfl))) rfl ?_
  refine lxE_nil hS ?_
  refine QE_then_n ?_
  refine wpC_cond rfl (fun hb_7 => ?_) (fun hb_7 => ?_)
  ·have h := if_t h hb_7
   refine wpC_seq (wpC_region (wpR_run 1 rfl ?_))
   refine wpR_nil (QE_then_n (wpC_ret (QE_blk_r ?_)))
   refine QE_then_r (QE_then_r ?_)
   have h := oinr_some h hk_2
   refine QE_blk_r ?_
   refine QE_then_r ?_
   cases h
   exact QE_ret1 rfl rfl ⟨rfl, hS⟩
  have h := if_f h hb_7
  refine wpC_skip (QE_blk_n ?_)
  refine QE_then_n (wpC_region (wpR_run 2 rfl ?_))
  refine wpR_nil ?_
  exact QE_rnd (wpN_le _ (by exact ⟨rfl, rfl, rfl, rfl, trivial⟩) (ih_3 (wI (x_1 + 1)) _ _ ⟨rfl, hS⟩ (oinl_some h hk_2)))
 have h := if_f h hb_8
 refine wpC_exit ?_
 refine QE_then_x (QE_then_x ?_)
 have h := oinr_some h hk_2
 refine QE_blk_x ?_
 refine QE_then_n (wpC_seq (wpC_region (wpR_run 1 rfl ?_)))
 refine wpR_v (OpV_len Tryd.underlying37 rfl (ha0.now hS.fr)) rfl ?_
 refine wpR_run 1 rfl ?_
 refine wpR_v (OpV_len Tryd.underlying37 rfl (ha1.now hS.fr)) rfl ?_
 refine wpR_run 2 rfl ?_
 refine wpR_nil (QE_then_n (wpC_ret ?_))
 cases h
 exact QE_ret1 rfl rfl ⟨rfl, hS⟩
end Go.Proofs
