import Derived.Test.YtgjpaedgcpjigaaDoorSW0
import Derived.Test.YtgjpaedgcpjigaaDoorGkFcbor
import Derived.Test.YtgjpaedgcpjigaaDoorSWlib
set_option linter.unusedVariables false
set_option linter.unusedSimpArgs false
set_option linter.unusedVariables false
set_option maxRecDepth 4000
namespace Go.Proofs
open Go Go.RowKit Go.Gk
theorem c_cbor_width (w0 : World) (a0 : UInt64)   (r : Int)
  (h : F.cbor_width a0 = some r) : Calls Tryd.prog 68 #[v64 a0] w0 (Ret fun v w => v = vI r ∧ St [] w0 w []) := by
 refine calls_at 15 Tryd.func68 rfl rfl rfl ?_
 have hS := St.start w0
 refine wpC_le [(0, v64 a0)] ⟨rfl, trivial⟩ ?_
 unfold F.cbor_width at h
 refine wpC_seq (wpC_region (wpR_run 1 rfl ?_))
 refine wpR_nil (QE_then_n (wpC_seq (wpC_block ?_)))
 refine wpC_seq (wpC_region (wpR_run 1 rfl ?_))
 refine wpR_v (OpV_bin rfl rfl (b_lss64 _ a0 24)) rfl ?_
 refine wpR_run 1 rfl ?_
 refine wpR_nil (QE_then_n ?_)
 refine wpC_cond rfl (fun hb_4 => ?_) (fun hb_4 => ?_)
 ·have h := if_t h hb_4
  refine wpC_seq (wpC_region (wpR_run 1 rfl ?_))
  refine wpR_nil (QE_then_n (wpC_ret (QE_blk_r ?_)))
  refine QE_then_r ?_
  cases h
  exact QE_ret1 rfl rfl ⟨rfl, hS⟩
 have h := if_f h hb_4
 refine wpC_seq (wpC_region (wpR_run 1 rfl ?_))
 refine wpR_v (OpV_bin rfl rfl (b_lss64 _ a0 256)) rfl ?_
 refine wpR_run 1 rfl ?_
 refine wpR_nil (QE_then_n ?_)
 refine wpC_cond rfl (fun hb_3 => ?_) (fun hb_3 => ?_)
 ·have h := if_t h hb_3
  refine wpC_seq (wpC_region (wpR_run 1 rfl ?_))
  refine wpR_nil (QE_then_n (wpC_ret (QE_blk_r ?_)))
  refine QE_then_r ?_
  cases h
  exact QE_ret1 rfl rfl ⟨rfl, hS⟩
 have h := if_f h hb_3
 refine wpC_seq (wpC_region (wpR_run 1 rfl ?_))
 refine wpR_v (OpV_bin rfl rfl (b_lss64 _ a0 65536)) rfl ?_
 refine wpR_run 1 rfl ?_
 refine wpR_nil (QE_then_n ?_)
 refine wpC_cond rfl (fun hb_2 => ?_) (fun hb_2 => ?_)
 ·have h := if_t h hb_2
  refine wpC_seq (wpC_region (wpR_run 1 rfl ?_))
  refine wpR_nil (QE_then_n (wpC_ret (QE_blk_r ?_)))
  refine QE_then_r ?_
  cases h
  exact QE_ret1 rfl rfl ⟨rfl, hS⟩
 have h := if_f h hb_2
 refine wpC_seq (wpC_region (wpR_run 1 rfl ?_))
 refine wpR_v (OpV_bin rfl rfl (b_lss64 _ a0 4294967296)) rfl ?_
 refine wpR_run 1 rfl ?_
 refine wpR_nil (QE_then_n ?_)
 refine wpC_cond rfl (fun hb_1 => ?_) (fun hb_1 => ?_)
 ·have h := if_t h hb_1
  refine wpC_seq (wpC_region (wpR_run 1 rfl ?_))
  refine wpR_nil (QE_then_n (wpC_ret (QE_blk_r ?_)))
  refine QE_then_r ?_
  cases h
  exact QE_ret1 rfl rfl ⟨rfl, hS⟩
 have h := if_f h hb_1
 refine wpC_skip (QE_blk_n ?_)
 refine QE_then_n (wpC_seq (wpC_region (wpR_run 1 rfl ?_)))
 refine wpR_nil (QE_then_n (wpC_ret ?_))
 cases h
 exact QE_ret1 rfl rfl ⟨rfl, hS⟩
theorem c_cbor_reader_argument (w0 : World) (a0_0 : List UInt8) (a0_1 : Int) (a0_2 : List (Int × UInt64 × (List UInt8) × Int)) (a0_3 : List (Int × Int × UInt64 × Bool × Int × Option (Nat × Nat))) (va0_0 : Value) (va0_2 : Value) (va0_3 : Value) (ba0 : Nat) (S : List Nat) (hS : St S w0 w0 [OE.bx ba0 [va0_0, vI a0_1, va0_2, va0_3], own (eP eI (eP e64 (eP eS eI))) va0_2 a0_2, own (eP eI (eP eI (eP e64 (eP eB (eP eI (eW va0_0)))))) va0_3 a0_3]) (ha0_0 : RP S w0 e8 va0_0 a0_0) (r : Int × UInt64 × Option (Int × Int) × Int × List (Int × UInt64 × (List UInt8) × Int) × List (Int × Int × UInt64 × Bool × Int × Option (Nat × Nat)))
  (h : F.cbor_reader_argument a0_0 a0_1 a0_2 a0_3 = some r) : Calls Tryd.prog 52 #[pB ba0 0] w0 (Ret fun v w => ∃ u2 u0_2 u0_3 : Value, v = .tuple #[vI r.1, v64 r.2.1, u2] ∧ oval u2 (r.2.2.1.map (fun c => [vI c.1, vI c.2])) ∧ St S w0 w (oent u2 (r.2.2.1.map (fun c => [vI c.1, vI c.2])) ++ [OE.bx ba0 [va0_0, vI r.2.2.2.1, u0_2, u0_3], own (eP eI (eP e64 (eP eS eI))) u0_2 r.2.2.2.2.1, own (eP eI (eP eI (eP e64 (eP eB (eP eI (eW va0_0)))))) u0_3 r.2.2.2.2.2])) := by
 refine calls_at 132 Tryd.func52 rfl rfl rfl ?_
 refine wpC_le [(0, pB ba0 0)] ⟨rfl, trivial⟩ ?_
 unfold F.cbor_reader_argument at h
 refine wpC_seq (wpC_region (wpR_run 3 rfl ?_))
 refine wpR_nil (QE_then_n (wpC_seq (wpC_region (wpR_run 1 rfl ?_))))
 refine wpR_v (OpV_nilB rfl) rfl ?_
 refine wpR_v (OpV_fieldB (k := 1) Tryd.underlying72 rfl rfl nz3 rfl) rfl ?_
 refine wpR_v (OpV_ldB Tryd.underlying3 rfl rfl (hS.bxc 0 rfl 1)) rfl ?_
 refine wpR_run 1 rfl ?_
 refine wpR_nil (QE_then_n (wpC_seq (wpC_seq (wpC_region (wpR_run 2 rfl ?_)))))
 refine wpR_v (OpV_nilB rfl) rfl ?_
 refine wpR_v (OpV_fieldB (k := 0) Tryd.underlying72 rfl rfl nz22 rfl) rfl ?_
 refine wpR_v (OpV_ldB Tryd.underlying22 rfl rfl (hS.bxc 0 rfl 0)) rfl ?_
 refine wpR_v (OpV_len Tryd.underlying22 rfl (ha0_0.now hS.fr)) rfl ?_
 refine wpR_run 1 rfl ?_
 refine wpR_nil (QE_then_n ?_)
 refine wpC_cond rfl (fun hb_37 => ?_) (fun hb_37 => ?_)
 ·have h := if_t h hb_37
  refine wpC_seq (wpC_region (wpR_run 1 rfl ?_))
  refine wpR_v (OpV_build (vs := [(0, vI 220, [vI 220]), (1, vI a0_1, [vI a0_1])]) (cells := [vI 220, vI a0_1]) rfl lay76 ⟨rfl, rfl, trivial⟩ rfl) rfl ?_
  refine wpR_x (OpX_box (cs := [vI 220, vI a0_1]) rfl rfl hS) rfl ?_
  rintro _ w ⟨b_4, rfl, hS⟩
  refine wpR_run 3 rfl ?_
  refine wpR_nil (QE_then_n (wpC_ret (QE_then_r ?_)))
  cases h
  exact QE_ret3 rfl rfl rfl rfl ⟨pB b_4 0, va0_2, va0_3, rfl, ⟨_, rfl⟩, hS.pick [0, 1, 2, 3] (by decide) rfl⟩
 have h := if_f h hb_37
 refine wpC_skip (QE_then_n (wpC_seq (wpC_region (wpR_run 1 rfl ?_))))
 refine wpR_v (OpV_nilB rfl) rfl ?_
 refine wpR_v (OpV_fieldB (k := 0) Tryd.underlying72 rfl rfl nz22 rfl) rfl ?_
 refine wpR_v (OpV_ldB Tryd.underlying22 rfl rfl (hS.bxc 0 rfl 0)) rfl ?_
 refine wpR_run 1 rfl ?_
 obtain ⟨x_6, hx_6, h⟩ := obind_some h
 refine wpR_v (G_ix Tryd.underlying22 ti5 rfl rfl (ha0_0.now hS.fr) hx_6) rfl ?_
 refine wpR_v (G_load Tryd.underlying5 rfl rfl (ha0_0.now hS.fr) hx_6 rfl) rfl ?_
 refine wpR_run 1 rfl ?_
 refine wpR_nil (QE_then_n (wpC_seq (wpC_region (wpR_run 1 rfl ?_))))
 refine wpR_v (OpV_bin rfl rfl (b_shr8_64 _ x_6 5)) rfl ?_
 refine wpR_v (OpV_conv rfl (cv_8_i Tryd.underlying5 Tryd.underlying3 (shr8 x_6 5))) rfl ?_
 refine wpR_run 1 rfl ?_
 refine wpR_v (OpV_bin rfl rfl (b_and8 _ x_6 31)) rfl ?_
 refine wpR_v (OpV_conv rfl (cv_8_i Tryd.underlying5 Tryd.underlying3 (x_6 &&& 31))) rfl ?_
 obtain ⟨x_7, hx_7, h⟩ := olet_some h
 refine wpR_v (OpV_assign (v := vI x_7) (by rw [← hx_7]; rfl)) rfl ?_
 obtain ⟨x_8, hx_8, h⟩ := olet_some h
 refine wpR_v (OpV_assign (v := vI x_8) (by rw [← hx_8]; rfl)) rfl ?_
 refine wpR_nil (QE_then_n (wpC_seq ?_))
 refine seq_join (r := r) (fun (g : Bool) L w => L = [(0, pB ba0 0), (2, vI x_7), (3, v64 0), (5, vI a0_1), (7, vI x_8), (51, vB g)] ∧ St S w0 w [OE.bx ba0 [va0_0, vI a0_1, va0_2, va0_3], own (eP eI (eP e64 (eP eS eI))) va0_2 a0_2, own (eP eI (eP eI (eP e64 (eP eB (eP eI (eW va0_0)))))) va0_3 a0_3]) (F.cbor_reader_argument_K1 a0_0 a0_1 a0_2 a0_3 x_7 x_8) ?_ ?_
 rotate_left
 ·intro hK_13
  refine wpC_region (wpR_run 3 rfl ?_)
  cases hb_9 : (decide ((27 : Int) < x_8))
  case true =>
   have h := if_t h hb_9
   try simp only [hb_9]
   refine wpR_run 11 rfl ?_
   refine wpR_nil (QE_then_n ?_)
   exact wpC_le _ (by exact ⟨rfl, rfl, rfl, rfl, rfl, rfl, trivial⟩) (hK_13 true _ _ ⟨rfl, hS⟩ h)
  case false =>
   have h := if_f h hb_9
   try simp only [hb_9]
   refine wpR_run 3 rfl ?_
   cases hb_10 : (x_7 == 7)
   case true =>
    have h := if_t h hb_10
    try simp only [hb_10]
    refine wpR_run 3 rfl ?_
    cases hb_11 : (decide (x_8 < 20))
    case true =>
     have h := if_t h hb_11
     try simp only [hb_11]
     refine wpR_run 5 rfl ?_
     refine wpR_nil (QE_then_n ?_)
     exact wpC_le _ (by exact ⟨rfl, rfl, rfl, rfl, rfl, rfl, trivial⟩) (hK_13 true _ _ ⟨rfl, hS⟩ h)
    case false =>
     have h := if_f h hb_11
     try simp only [hb_11]
     refine wpR_run 5 rfl ?_
     refine wpR_nil (QE_then_n ?_)
     exact wpC_le _ (by exact ⟨rfl, rfl, rfl, rfl, rfl, rfl, trivial⟩) (hK_13 (decide ((22 : Int) < x_8)) _ _ ⟨rfl, hS⟩ h)
   case false =>
    have h := if_f h hb_10
    try simp only [hb_10]
    refine wpR_run 8 rfl ?_
    refine wpR_nil (QE_then_n ?_)
    exact wpC_le _ (by exact ⟨rfl, rfl, rfl, rfl, rfl, rfl, trivial⟩) (hK_13 false _ _ ⟨rfl, hS⟩ h)
 rintro x_12 L w hJ h
 try dsimp only at hJ
 obtain ⟨rfl, hS⟩ := hJ
 unfold F.cbor_reader_argument_K1 at h
 refine wpC_cond rfl (fun hb_36 => ?_) (fun hb_36 => ?_)
 ·have h := if_t h hb_36
  refine wpC_seq (wpC_region (wpR_run 1 rfl ?_))
  refine wpR_v (OpV_build (vs := [(0, vI 220, [vI 220]), (1, vI a0_1, [vI a0_1])]) (cells := [vI 220, vI a0_1]) rfl lay76 ⟨rfl, rfl, trivial⟩ rfl) rfl ?_
  refine wpR_x (OpX_box (cs := [vI 220, vI a0_1]) rfl rfl hS) rfl ?_
  rintro _ w ⟨b_14, rfl, hS⟩
  refine wpR_run 3 rfl ?_
  refine wpR_nil (QE_then_n (wpC_ret (QE_then_r ?_)))
  cases h
  exact QE_ret3 rfl rfl rfl rfl ⟨pB b_14 0, va0_2, va0_3, rfl, ⟨_, rfl⟩, hS.pick [0, 1, 2, 3] (by decide) rfl⟩
 have h := if_f h hb_36
 refine wpC_skip (QE_then_n (wpC_seq (wpC_region (wpR_run 1 rfl ?_))))
 refine wpR_v (OpV_nilB rfl) rfl ?_
 refine wpR_v (OpV_fieldB (k := 1) Tryd.underlying72 rfl rfl nz3 rfl) rfl ?_
 refine wpR_v (OpV_ldB Tryd.underlying3 rfl rfl (hS.bxc 0 rfl 1)) rfl ?_
 refine wpR_run 1 rfl ?_
 refine wpR_v (OpV_nilB rfl) rfl ?_
 refine wpR_v (OpV_fieldB (k := 1) Tryd.underlying72 rfl rfl nz3 rfl) rfl ?_
 refine wpR_y (OpY_stB (i := 0) (us := [vI (wI (a0_1 + 1))]) rfl sz3 rfl rfl rfl ⟨rfl, trivial⟩ rfl hS) ?_
 intro w hS
 replace hS : St _ w0 w [OE.bx ba0 [va0_0, vI (wI (a0_1 + 1)), va0_2, va0_3], own (eP eI (eP e64 (eP eS eI))) va0_2 a0_2, own (eP eI (eP eI (eP e64 (eP eB (eP eI (eW va0_0)))))) va0_3 a0_3] := hS
 refine wpR_nil (QE_then_n (wpC_seq (wpC_seq (wpC_region (wpR_run 2 rfl ?_)))))
 refine wpR_nil (QE_then_n ?_)
 refine wpC_cond rfl (fun hb_35 => ?_) (fun hb_35 => ?_)
 ·have h := if_t h hb_35
  refine wpC_seq (wpC_region (wpR_run 2 rfl ?_))
  refine wpR_v (OpV_conv rfl (cv_i_64 Tryd.underlying3 Tryd.underlying40 x_8)) rfl ?_
  refine wpR_run 3 rfl ?_
  refine wpR_nil (QE_then_n (wpC_ret (QE_then_r ?_)))
  cases h
  exact QE_ret3 rfl rfl rfl rfl ⟨.pointer none, va0_2, va0_3, rfl, rfl, hS.pick [0, 1, 2] (by decide) rfl⟩
 have h := if_f h hb_35
 refine wpC_skip (QE_then_n (wpC_seq (wpC_region (wpR_run 2 rfl ?_))))
 obtain ⟨hg_16, h⟩ := grd_some h
 refine wpR_v (OpV_bin rfl rfl (b_ishl _ 1 (wI (x_8 - 24)) hg_16)) rfl ?_
 obtain ⟨x_17, hx_17, h⟩ := olet_some h
 refine wpR_v (OpV_assign (v := vI x_17) (by rw [← hx_17]; rfl)) rfl ?_
 refine wpR_nil (QE_then_n (wpC_seq (wpC_seq ?_)))
 refine wpC_regionT (fun w' => St S w0 w' [OE.bx ba0 [va0_0, vI (wI (a0_1 + 1)), va0_2, va0_3], own (eP eI (eP e64 (eP eS eI))) va0_2 a0_2, own (eP eI (eP eI (eP e64 (eP eB (eP eI (eW va0_0)))))) va0_3 a0_3]) (fun _ => true) hmix (fun _ _ _ hf => hf.2) (fun _ _ hf => hf) (by kernel_rfl) ?_
 have hS := hS.drew
 show lxE _ _ _ _ _ _ _ [0, 1, 2, 3, 4, 5, 6, 7, 8, 9, 10, 11] _ _
 refine lxE_v hS rfl rfl (fun w hF => OpV_move rfl) rfl ?_
 refine lxE_v hS rfl rfl (fun w hF => OpV_nilB rfl) rfl ?_
 refine lxE_v hS rfl rfl (fun w hF => OpV_fieldB (k := 0) Tryd.underlying72 rfl rfl nz22 rfl) rfl ?_
 refine lxE_v hS rfl rfl (fun w hF => OpV_ldB Tryd.underlying22 rfl rfl (hF.bxc 0 rfl 0)) rfl ?_
 refine lxE_v hS rfl rfl (fun w hF => OpV_len Tryd.underlying22 rfl (ha0_0.now hF.fr)) rfl ?_
 refine lxE_v hS rfl rfl (fun w hF => OpV_move rfl) rfl ?_
 refine lxE_v hS rfl rfl (fun w hF => OpV_nilB rfl) rfl ?_
 refine lxE_v hS rfl rfl (fun w hF => OpV_fieldB (k := 1) Tryd.underlying72 rfl rfl nz3 rfl) rfl ?_
 refine lxE_v hS rfl rfl (fun w hF => OpV_ldB Tryd.underlying3 rfl rfl (hF.bxc 0 rfl 1)) rfl ?_
 refine lxE_v hS rfl rfl (fun w hF => OpV_bin rfl rfl (b_isub _ (a0_0.length : Int) (wI (a0_1 + 1)))) rfl ?_
 refine lxE_v hS rfl rfl (fun w hF => OpV_move rfl) rfl ?_
 refine lxE_v hS rfl rfl (fun w hF => OpV_bin rfl rfl (b_ilss _ (wI ((a0_0.length : Int) - (wI (a0_1 + 1)))) x_17)) rfl ?_
 refine lxE_nil hS ?_
 refine QE_then_n ?_
 refine wpC_cond rfl (fun hb_34 => ?_) (fun hb_34 => ?_)
 ·have h := if_t h hb_34
  refine wpC_seq ?_
  refine wpC_regionT (fun w' => St S w0 w' [OE.bx ba0 [va0_0, vI (wI (a0_1 + 1)), va0_2, va0_3], own (eP eI (eP e64 (eP eS eI))) va0_2 a0_2, own (eP eI (eP eI (eP e64 (eP eB (eP eI (eW va0_0)))))) va0_3 a0_3]) (fun i => !([6].contains i)) hmix (fun _ _ _ hf => hf.2) (fun _ _ hf => hf) (by kernel_rfl) ?_
  have hS := hS.drew
  show lxE _ _ _ _ _ _ _ [0, 1, 2, 3, 4, 5, 6, 7, 8, 9] _ _
  refine lxE_v hS rfl rfl (fun w hF => OpV_move rfl) rfl ?_
  refine lxE_v hS rfl rfl (fun w hF => OpV_nilB rfl) rfl ?_
  refine lxE_v hS rfl rfl (fun w hF => OpV_fieldB (k := 0) Tryd.underlying72 rfl rfl nz22 rfl) rfl ?_
  refine lxE_v hS rfl rfl (fun w hF => OpV_ldB Tryd.underlying22 rfl rfl (hF.bxc 0 rfl 0)) rfl ?_
  refine lxE_v hS rfl rfl (fun w hF => OpV_len Tryd.underlying22 rfl (ha0_0.now hF.fr)) rfl ?_
  refine lxE_v hS rfl rfl (fun w hF => OpV_build (vs := [(0, vI 220, [vI 220]), (1, vI (a0_0.length : Int), [vI (a0_0.length : Int)])]) (cells := [vI 220, vI (a0_0.length : Int)]) rfl lay76 ⟨rfl, rfl, trivial⟩ rfl) rfl ?_
  refine lxE_x hS rfl rfl (OpX_box (cs := [vI 220, vI (a0_0.length : Int)]) rfl rfl hS) rfl ?_
  rintro _ w ⟨b_18, rfl, hS⟩
  refine lxE_v (hS.pick [1, 2, 3] (by decide) rfl) rfl rfl (fun w hF => OpV_assign rfl) rfl ?_
  refine lxE_v (hS.pick [1, 2, 3] (by decide) rfl) rfl rfl (fun w hF => OpV_assign rfl) rfl ?_
  refine lxE_v (hS.pick [1, 2, 3] (by decide) rfl) rfl rfl (fun w hF => OpV_assign rfl) rfl ?_
  refine lxE_nil (hS.pick [1, 2, 3] (by decide) rfl) ?_
  refine QE_then_n (wpC_ret (QE_then_r ?_))
  cases h
  exact QE_ret3 rfl rfl rfl rfl ⟨pB b_18 0, va0_2, va0_3, rfl, ⟨_, rfl⟩, hS.pick [0, 1, 2, 3] (by decide) rfl⟩
 have h := if_f h hb_34
 refine wpC_skip (QE_then_n (wpC_seq (wpC_seq ?_)))
 refine wpC_regionT (fun w' => St S w0 w' [OE.bx ba0 [va0_0, vI (wI (a0_1 + 1)), va0_2, va0_3], own (eP eI (eP e64 (eP eS eI))) va0_2 a0_2, own (eP eI (eP eI (eP e64 (eP eB (eP eI (eW va0_0)))))) va0_3 a0_3]) (fun _ => true) hmix (fun _ _ _ hf => hf.2) (fun _ _ hf => hf) (by kernel_rfl) ?_
 have hS := hS.drew
 show lxE _ _ _ _ _ _ _ [0, 1, 2, 3, 4, 5, 6, 7, 8, 9, 10, 11, 12, 13, 14, 15, 16] _ _
 refine lxE_v hS rfl rfl (fun w hF => OpV_move rfl) rfl ?_
 refine lxE_v hS rfl rfl (fun w hF => OpV_nilB rfl) rfl ?_
 refine lxE_v hS rfl rfl (fun w hF => OpV_fieldB (k := 0) Tryd.underlying72 rfl rfl nz22 rfl) rfl ?_
 refine lxE_v hS rfl rfl (fun w hF => OpV_ldB Tryd.underlying22 rfl rfl (hF.bxc 0 rfl 0)) rfl ?_
 refine lxE_v hS rfl rfl (fun w hF => OpV_move rfl) rfl ?_
 refine lxE_v hS rfl rfl (fun w hF => OpV_nilB rfl) rfl ?_
 refine lxE_v hS rfl rfl (fun w hF => OpV_fieldB (k := 1) Tryd.underlying72 rfl rfl nz3 rfl) rfl ?_
 refine lxE_v hS rfl rfl (fun w hF => OpV_ldB Tryd.underlying3 rfl rfl (hF.bxc 0 rfl 1)) rfl ?_
 refine lxE_v hS rfl rfl (fun w hF => OpV_move rfl) rfl ?_
 refine lxE_v hS rfl rfl (fun w hF => OpV_nilB rfl) rfl ?_
 refine lxE_v hS rfl rfl (fun w hF => OpV_fieldB (k := 1) Tryd.underlying72 rfl rfl nz3 rfl) rfl ?_
 refine lxE_v hS rfl rfl (fun w hF => OpV_ldB Tryd.underlying3 rfl rfl (hF.bxc 0 rfl 1)) rfl ?_
 refine lxE_v hS rfl rfl (fun w hF => OpV_move rfl) rfl ?_
 refine lxE_v hS rfl rfl (fun w hF => OpV_bin rfl rfl (b_iadd _ (wI (a0_1 + 1)) x_17)) rfl ?_
 obtain ⟨x_20, hx_20, h⟩ := obind_some h
 refine lxE_v hS rfl rfl (fun w hF => W_sl Tryd.underlying22 ti5 rfl rfl rfl (ha0_0.now hF.fr) hx_20) rfl ?_
 refine lxE_v hS rfl rfl (fun w hF => OpV_len Tryd.underlying22 rfl ((ha0_0.W_sl hx_20).now hF.fr)) rfl ?_
 refine lxE_v hS rfl rfl (fun w hF => OpV_move rfl) rfl ?_
 refine lxE_nil hS ?_
 refine QE_then_n (wpC_block ?_)
 refine wpC_le [(0, pB ba0 0), (2, vI x_7), (3, v64 0), (5, vI a0_1), (8, vI x_17), (103, eWv va0_0 (some ((wI (a0_1 + 1) : Int).toNat, (wI ((wI (a0_1 + 1)) + x_17) : Int).toNat))), (104, vI (x_20.length : Int)), (105, vI 0)] ⟨rfl, rfl, rfl, rfl, rfl, rfl, rfl, rfl, trivial⟩ ?_
 refine loop_ind (F.cbor_reader_argument_L1 a0_1 a0_2 a0_3 x_7 x_17 x_20) (fun (s : UInt64 × Int) L w => L = [(0, pB ba0 0), (2, vI x_7), (3, v64 s.1), (5, vI a0_1), (8, vI x_17), (103, eWv va0_0 (some ((wI (a0_1 + 1) : Int).toNat, (wI ((wI (a0_1 + 1)) + x_17) : Int).toNat))), (104, vI (x_20.length : Int)), (105, vI s.2)] ∧ St S w0 w [OE.bx ba0 [va0_0, vI (wI (a0_1 + 1)), va0_2, va0_3], own (eP eI (eP e64 (eP eS eI))) va0_2 a0_2, own (eP eI (eP eI (eP e64 (eP eB (eP eI (eW va0_0)))))) va0_3 a0_3]) ?_ (0, 0) ⟨rfl, hS⟩ h
 rintro k_33 ⟨x_21, x_22⟩ L w q_25 hI ih_24 h hk_23
 try dsimp only at hI
 obtain ⟨rfl, hS⟩ := hI
 unfold F.cbor_reader_argument_L1 at h
 refine wpC_seq (wpC_region (wpR_run 1 rfl ?_))
 refine wpR_nil (QE_then_n (wpC_seq ?_))
 refine wpC_cond rfl (fun hb_32 => ?_) (fun hb_32 => ?_)
 ·have h := if_t h hb_32
  refine wpC_skip (QE_then_n (wpC_seq (wpC_block ?_)))
  refine wpC_seq (wpC_region ?_)
  obtain ⟨x_26, hx_26, h⟩ := obind_some h
  refine wpR_v (G_ix Tryd.underlying22 ti5 rfl rfl ((ha0_0.W_sl hx_20).now hS.fr) hx_26) rfl ?_
  refine wpR_v (G_load Tryd.underlying5 rfl rfl ((ha0_0.W_sl hx_20).now hS.fr) hx_26 rfl) rfl ?_
  refine wpR_run 1 rfl ?_
  refine wpR_nil (QE_then_n (wpC_region (wpR_run 1 rfl ?_)))
  refine wpR_v (OpV_bin rfl rfl (b_shl64_64 _ x_21 8)) rfl ?_
  refine wpR_run 1 rfl ?_
  refine wpR_v (OpV_conv rfl (cv_8_64 Tryd.underlying5 Tryd.underlying40 x_26)) rfl ?_
  refine wpR_v (OpV_bin rfl rfl (b_or64 _ (shl64 x_21 8) x_26.toUInt64)) rfl ?_
  obtain ⟨x_27, hx_27, h⟩ := olet_some h
  refine wpR_v (OpV_assign (v := v64 x_27) (by rw [← hx_27]; rfl)) rfl ?_
  refine wpR_nil (QE_blk_n ?_)
  refine QE_then_n (wpC_region (wpR_run 2 rfl ?_))
  refine wpR_nil ?_
  exact QE_rnd (wpN_le _ (by exact ⟨rfl, rfl, rfl, rfl, rfl, rfl, rfl, rfl, trivial⟩) (ih_24 (x_27, wI (x_22 + 1)) _ _ ⟨rfl, hS⟩ (oinl_some h hk_23)))
 have h := if_f h hb_32
 refine wpC_exit ?_
 refine QE_then_x (QE_then_x ?_)
 have h := oinr_some h hk_23
 refine QE_blk_x ?_
 refine QE_then_n (wpC_seq (wpC_region (wpR_run 1 rfl ?_)))
 refine wpR_v (OpV_nilB rfl) rfl ?_
 refine wpR_v (OpV_fieldB (k := 1) Tryd.underlying72 rfl rfl nz3 rfl) rfl ?_
 refine wpR_v (OpV_ldB Tryd.underlying3 rfl rfl (hS.bxc 0 rfl 1)) rfl ?_
 refine wpR_run 2 rfl ?_
 refine wpR_v (OpV_nilB rfl) rfl ?_
 refine wpR_v (OpV_fieldB (k := 1) Tryd.underlying72 rfl rfl nz3 rfl) rfl ?_
 refine wpR_y (OpY_stB (i := 0) (us := [vI (wI ((wI (a0_1 + 1)) + x_17))]) rfl sz3 rfl rfl rfl ⟨rfl, trivial⟩ rfl hS) ?_
 intro w hS
 replace hS : St _ w0 w [OE.bx ba0 [va0_0, vI (wI ((wI (a0_1 + 1)) + x_17)), va0_2, va0_3], own (eP eI (eP e64 (eP eS eI))) va0_2 a0_2, own (eP eI (eP eI (eP e64 (eP eB (eP eI (eW va0_0)))))) va0_3 a0_3] := hS
 refine wpR_nil (QE_then_n (wpC_seq (wpC_seq (wpC_region (wpR_run 1 rfl ?_)))))
 obtain ⟨x_28, hx_28, h⟩ := obind_some h
 refine wpR_call (by kernel_rfl) rfl (c_cbor_width _ x_21    _ hx_28) rfl ?_
 rintro _ w ⟨rfl, hS1⟩
 have hS := hS.call hS1
 simp only [List.cons_append, List.nil_append] at hS
 refine wpR_run 2 rfl ?_
 refine wpR_nil (QE_then_n ?_)
 refine wpC_cond rfl (fun hb_31 => ?_) (fun hb_31 => ?_)
 ·have h := if_t h hb_31
  refine wpC_seq (wpC_region (wpR_run 1 rfl ?_))
  refine wpR_v (OpV_build (vs := [(0, vI 220, [vI 220]), (1, vI a0_1, [vI a0_1])]) (cells := [vI 220, vI a0_1]) rfl lay76 ⟨rfl, rfl, trivial⟩ rfl) rfl ?_
  refine wpR_x (OpX_box (cs := [vI 220, vI a0_1]) rfl rfl hS) rfl ?_
  rintro _ w ⟨b_29, rfl, hS⟩
  refine wpR_run 3 rfl ?_
  refine wpR_nil (QE_then_n (wpC_ret (QE_then_r ?_)))
  cases h
  exact QE_ret3 rfl rfl rfl rfl ⟨pB b_29 0, va0_2, va0_3, rfl, ⟨_, rfl⟩, hS.pick [0, 1, 2, 3] (by decide) rfl⟩
 have h := if_f h hb_31
 refine wpC_skip (QE_then_n (wpC_seq (wpC_region (wpR_run 5 rfl ?_))))
 refine wpR_nil (QE_then_n (wpC_ret ?_))
 cases h
 exact QE_ret3 rfl rfl rfl rfl ⟨.pointer none, va0_2, va0_3, rfl, rfl, hS.pick [0, 1, 2] (by decide) rfl⟩
theorem c_cbor_reader_done (w0 : World) (a0_0 : List UInt8) (a0_1 : Int) (a0_2 : List (Int × UInt64 × (List UInt8) × Int)) (a0_3 : List (Int × Int × UInt64 × Bool × Int × Option (Nat × Nat))) (va0_0 : Value) (va0_2 : Value) (va0_3 : Value) (ba0 : Nat) (S : List Nat) (hS : St S w0 w0 [OE.bx ba0 [va0_0, vI a0_1, va0_2, va0_3], own (eP eI (eP e64 (eP eS eI))) va0_2 a0_2, own (eP eI (eP eI (eP e64 (eP eB (eP eI (eW va0_0)))))) va0_3 a0_3]) (ha0_0 : RP S w0 e8 va0_0 a0_0) (r : Option (Int × Int) × Int × List (Int × UInt64 × (List UInt8) × Int) × List (Int × Int × UInt64 × Bool × Int × Option (Nat × Nat)))
  (h : F.cbor_reader_done a0_0 a0_1 a0_2 a0_3 = some r) : Calls Tryd.prog 37 #[pB ba0 0] w0 (Ret fun v w => ∃ u0 u0_2 u0_3 : Value, v = u0 ∧ oval u0 (r.1.map (fun c => [vI c.1, vI c.2])) ∧ St S w0 w (oent u0 (r.1.map (fun c => [vI c.1, vI c.2])) ++ [OE.bx ba0 [va0_0, vI r.2.1, u0_2, u0_3], own (eP eI (eP e64 (eP eS eI))) u0_2 r.2.2.1, own (eP eI (eP eI (eP e64 (eP eB (eP eI (eW va0_0)))))) u0_3 r.2.2.2])) := by
 refine calls_at 111 Tryd.func37 rfl rfl rfl ?_
 refine wpC_le [(0, pB ba0 0)] ⟨rfl, trivial⟩ ?_
 unfold F.cbor_reader_done at h
 refine wpC_seq (wpC_region (wpR_run 1 rfl ?_))
 refine wpR_nil (QE_then_n (wpC_seq (wpC_seq (wpC_region (wpR_run 1 rfl ?_)))))
 refine wpR_v (OpV_nilB rfl) rfl ?_
 refine wpR_v (OpV_fieldB (k := 3) Tryd.underlying72 rfl rfl nz70 rfl) rfl ?_
 refine wpR_v (OpV_ldB Tryd.underlying70 rfl rfl (hS.bxc 0 rfl 3)) rfl ?_
 refine wpR_v (OpV_len Tryd.underlying70 rfl (hS.ro 2 rfl)) rfl ?_
 refine wpR_run 1 rfl ?_
 refine wpR_nil (QE_then_n ?_)
 refine wpC_cond rfl (fun hb_30 => ?_) (fun hb_30 => ?_)
 ·have h := if_t h hb_30
  refine wpC_seq (wpC_region (wpR_run 1 rfl ?_))
  refine wpR_nil (QE_then_n (wpC_ret (QE_then_r ?_)))
  cases h
  exact QE_ret1 rfl rfl ⟨.pointer none, va0_2, va0_3, rfl, rfl, hS.pick [0, 1, 2] (by decide) rfl⟩
 have h := if_f h hb_30
 refine wpC_skip (QE_then_n (wpC_seq ?_))
 refine wpC_regionT (fun w' => St S w0 w' [OE.bx ba0 [va0_0, vI a0_1, va0_2, va0_3], own (eP eI (eP e64 (eP eS eI))) va0_2 a0_2, own (eP eI (eP eI (eP e64 (eP eB (eP eI (eW va0_0)))))) va0_3 a0_3]) (fun _ => true) hmix (fun _ _ _ hf => hf.2) (fun _ _ hf => hf) (by kernel_rfl) ?_
 have hS := hS.drew
 show lxE _ _ _ _ _ _ _ [0, 1, 2, 3, 4, 5, 6, 7, 8, 9, 10, 11] _ _
 refine lxE_v hS rfl rfl (fun w hF => OpV_move rfl) rfl ?_
 refine lxE_v hS rfl rfl (fun w hF => OpV_nilB rfl) rfl ?_
 refine lxE_v hS rfl rfl (fun w hF => OpV_fieldB (k := 3) Tryd.underlying72 rfl rfl nz70 rfl) rfl ?_
 refine lxE_v hS rfl rfl (fun w hF => OpV_ldB Tryd.underlying70 rfl rfl (hF.bxc 0 rfl 3)) rfl ?_
 refine lxE_v hS rfl rfl (fun w hF => OpV_move rfl) rfl ?_
 refine lxE_v hS rfl rfl (fun w hF => OpV_nilB rfl) rfl ?_
 refine lxE_v hS rfl rfl (fun w hF => OpV_fieldB (k := 3) Tryd.underlying72 rfl rfl nz70 rfl) rfl ?_
 refine lxE_v hS rfl rfl (fun w hF => OpV_ldB Tryd.underlying70 rfl rfl (hF.bxc 0 rfl 3)) rfl ?_
 refine lxE_v hS rfl rfl (fun w hF => OpV_len Tryd.underlying70 rfl (hF.ro 2 rfl)) rfl ?_
 refine lxE_v hS rfl rfl (fun w hF => OpV_bin rfl rfl (b_isub _ (a0_3.length : Int) 1)) rfl ?_
 obtain ⟨x_4, hx_4, h⟩ := obind_some h
 refine lxE_v hS rfl rfl (fun w hF => G_ix Tryd.underlying70 ti78 rfl rfl (hF.ro 2 rfl) hx_4) rfl ?_
 refine lxE_v hS rfl rfl (fun w hF => OpV_assign rfl) rfl ?_
 refine lxE_nil hS ?_
 refine QE_then_n (wpC_seq ?_)
 refine wpC_regionS (fun w' => St S w0 w' [OE.bx ba0 [va0_0, vI a0_1, va0_2, va0_3], own (eP eI (eP e64 (eP eS eI))) va0_2 a0_2, own (eP eI (eP eI (eP e64 (eP eB (eP eI (eW va0_0)))))) va0_3 a0_3]) (fun i => !([14].contains i)) hmix (fun _ _ _ hf => hf.2) (fun _ _ hf => hf) (by kernel_rfl) ?_
 have hS := hS.drew
 show lxE _ _ _ _ _ _ _ [0, 1, 2, 3, 4, 5, 6, 7, 8, 9, 10, 11, 12, 13, 14] _ _
 refine lxE_v hS rfl rfl (fun w hF => OpV_move rfl) rfl ?_
 refine lxE_v hS rfl rfl (fun w hF => OpV_nilB rfl) rfl ?_
 refine lxE_v hS rfl rfl (fun w hF => OpV_fieldB (k := 2) Tryd.underlying72 rfl rfl nz37 rfl) rfl ?_
 refine lxE_v hS rfl rfl (fun w hF => OpV_ldB Tryd.underlying37 rfl rfl (hF.bxc 0 rfl 2)) rfl ?_
 refine lxE_v hS rfl rfl (fun w hF => OpV_move rfl) rfl ?_
 refine lxE_v hS rfl rfl (fun w hF => OpV_nilP rfl) rfl ?_
 refine lxE_v hS rfl rfl (fun w hF => OpV_fieldE (k := 0) Tryd.underlying78 rfl rfl nz3 rfl) rfl ?_
 refine lxE_v hS rfl rfl (fun w hF => G_loadF Tryd.underlying3 rfl rfl (hF.ro 2 rfl) hx_4 rfl rfl) rfl ?_
 obtain ⟨x_5, hx_5, h⟩ := obind_some h
 refine lxE_v hS rfl rfl (fun w hF => G_ix Tryd.underlying37 ti42 rfl rfl (hF.ro 1 rfl) hx_5) rfl ?_
 refine lxE_v hS rfl rfl (fun w hF => OpV_fieldE (k := 3) Tryd.underlying42 rfl rfl nz3 rfl) rfl ?_
 refine lxE_v hS rfl rfl (fun w hF => G_loadF Tryd.underlying3 rfl rfl (hF.ro 1 rfl) hx_5 rfl rfl) rfl ?_
 refine lxE_v hS rfl rfl (fun w hF => OpV_bin rfl rfl (b_iadd _ x_5.2.2.2 1)) rfl ?_
 obtain ⟨x_6, hx_6, h⟩ := obind_some h
 refine lxE_v hS rfl rfl (fun w hF => G_ix Tryd.underlying37 ti42 rfl rfl (hF.ro 1 rfl) hx_6) rfl ?_
 refine lxE_v hS rfl rfl (fun w hF => OpV_fieldE (k := 3) Tryd.underlying42 rfl rfl nz3 rfl) rfl ?_
 refine lxE_y hS rfl rfl (OpY_storeF (t := (x_6.1, x_6.2.1, x_6.2.2.1, wI (x_5.2.2.2 + 1))) (us := [vI (wI (x_5.2.2.2 + 1))]) sz3 rfl rfl rfl hS (i := 1) rfl hx_6 rfl rfl) ?_
 intro w hS
 obtain ⟨x_7, hx_7, h⟩ := olet_some h
 rw [hx_7] at hS
 refine lxE_nil trivial ?_
 refine QE_then_n ?_
 refine seq_join (r := r) (fun (g : (List (Int × Int × UInt64 × Bool × Int × Option (Nat × Nat)))) L w => L = [] ∧ St S w0 w [OE.bx ba0 [va0_0, vI a0_1, va0_2, va0_3], own (eP eI (eP e64 (eP eS eI))) va0_2 x_7, own (eP eI (eP eI (eP e64 (eP eB (eP eI (eW va0_0)))))) va0_3 g]) (F.cbor_reader_done_K1 a0_1 x_7) ?_ ?_
 rotate_left
 ·intro hK_29
  refine wpC_block ?_
  refine wpC_seq (wpC_region (wpR_run 1 rfl ?_))
  refine wpR_v (OpV_nilP rfl) rfl ?_
  refine wpR_v (OpV_fieldE (k := 1) Tryd.underlying78 rfl rfl nz3 rfl) rfl ?_
  refine wpR_v (G_loadF Tryd.underlying3 rfl rfl (hS.ro 2 rfl) hx_4 rfl rfl) rfl ?_
  refine wpR_run 2 rfl ?_
  refine wpR_nil (QE_then_n ?_)
  refine wpC_cond rfl (fun hb_27 => ?_) (fun hb_27 => ?_)
  ·have h := if_t h hb_27
   refine wpC_region (wpR_run 1 rfl ?_)
   refine wpR_v (OpV_nilP rfl) rfl ?_
   refine wpR_v (OpV_fieldE (k := 2) Tryd.underlying78 rfl rfl nz40 rfl) rfl ?_
   refine wpR_v (G_loadF Tryd.underlying40 rfl rfl (hS.ro 2 rfl) hx_4 rfl rfl) rfl ?_
   refine wpR_v (OpV_bin rfl rfl (b_sub64 _ x_4.2.2.1 1)) rfl ?_
   refine wpR_v (OpV_nilP rfl) rfl ?_
   refine wpR_v (OpV_fieldE (k := 2) Tryd.underlying78 rfl rfl nz40 rfl) rfl ?_
   refine wpR_y (OpY_storeF (t := (x_4.1, x_4.2.1, x_4.2.2.1 - 1, x_4.2.2.2.1, x_4.2.2.2.2.1, x_4.2.2.2.2.2)) (us := [v64 (x_4.2.2.1 - 1)]) sz40 rfl rfl rfl hS (i := 2) rfl hx_4 rfl rfl) ?_
   intro w hS
   obtain ⟨x_8, hx_8, h⟩ := olet_some h
   rw [hx_8] at hS
   refine wpR_nil (QE_blk_n ?_)
   refine QE_then_n ?_
   exact wpC_le _ (by exact trivial) (hK_29 x_8 _ _ ⟨rfl, hS⟩ h)
  have h := if_f h hb_27
  refine wpC_seq (wpC_region (wpR_run 1 rfl ?_))
  refine wpR_v (OpV_nilP rfl) rfl ?_
  refine wpR_v (OpV_fieldE (k := 3) Tryd.underlying78 rfl rfl nz4 rfl) rfl ?_
  refine wpR_v (G_loadF Tryd.underlying4 rfl rfl (hS.ro 2 rfl) hx_4 rfl rfl) rfl ?_
  refine wpR_run 1 rfl ?_
  refine wpR_nil (QE_then_n ?_)
  refine wpC_cond rfl (fun hb_26 => ?_) (fun hb_26 => ?_)
  ·have h := if_t h hb_26
   refine wpC_seq (wpC_region (wpR_run 1 rfl ?_))
   refine wpR_v (OpV_nilP rfl) rfl ?_
   refine wpR_v (OpV_fieldE (k := 2) Tryd.underlying78 rfl rfl nz40 rfl) rfl ?_
   refine wpR_v (G_loadF Tryd.underlying40 rfl rfl (hS.ro 2 rfl) hx_4 rfl rfl) rfl ?_
   refine wpR_v (OpV_bin rfl rfl (b_sub64 _ x_4.2.2.1 1)) rfl ?_
   refine wpR_v (OpV_nilP rfl) rfl ?_
   refine wpR_v (OpV_fieldE (k := 2) Tryd.underlying78 rfl rfl nz40 rfl) rfl ?_
   refine wpR_y (OpY_storeF (t := (x_4.1, x_4.2.1, x_4.2.2.1 - 1, x_4.2.2.2.1, x_4.2.2.2.2.1, x_4.2.2.2.2.2)) (us := [v64 (x_4.2.2.1 - 1)]) sz40 rfl rfl rfl hS (i := 2) rfl hx_4 rfl rfl) ?_
   intro w hS
   obtain ⟨x_9, hx_9, h⟩ := olet_some h
   rw [hx_9] at hS
   refine wpR_nil (QE_then_n (wpC_region (wpR_run 3 rfl ?_)))
   refine wpR_v (OpV_nilB rfl) rfl ?_
   refine wpR_v (OpV_fieldB (k := 1) Tryd.underlying72 rfl rfl nz3 rfl) rfl ?_
   refine wpR_v (OpV_ldB Tryd.underlying3 rfl rfl (hS.bxc 0 rfl 1)) rfl ?_
   refine wpR_v (OpV_nilP rfl) rfl ?_
   refine wpR_v (OpV_fieldE (k := 3) Tryd.underlying78 rfl rfl nz4 rfl) rfl ?_
   refine wpR_y (OpY_storeF (t := (x_4.1, x_4.2.1, x_4.2.2.1 - 1, false, x_4.2.2.2.2.1, x_4.2.2.2.2.2)) (us := [vB false]) sz4 rfl rfl rfl hS (i := 2) rfl (getO_set hx_9 hx_4) rfl rfl) ?_
   intro w hS
   obtain ⟨x_10, hx_10, h⟩ := olet_some h
   rw [hx_10] at hS
   refine wpR_v (OpV_nilP rfl) rfl ?_
   refine wpR_v (OpV_fieldE (k := 4) Tryd.underlying78 rfl rfl nz3 rfl) rfl ?_
   refine wpR_y (OpY_storeF (t := (x_4.1, x_4.2.1, x_4.2.2.1 - 1, false, a0_1, x_4.2.2.2.2.2)) (us := [vI a0_1]) sz3 rfl rfl rfl hS (i := 2) rfl (getO_set hx_10 (getO_set hx_9 hx_4)) rfl rfl) ?_
   intro w hS
   obtain ⟨x_11, hx_11, h⟩ := olet_some h
   rw [hx_11] at hS
   refine wpR_nil (QE_blk_n ?_)
   refine QE_then_n ?_
   exact wpC_le _ (by exact trivial) (hK_29 x_11 _ _ ⟨rfl, hS⟩ h)
  have h := if_f h hb_26
  refine wpC_seq ?_
  refine wpC_regionT (fun w' => St S w0 w' [OE.bx ba0 [va0_0, vI a0_1, va0_2, va0_3], own (eP eI (eP e64 (eP eS eI))) va0_2 x_7, own (eP eI (eP eI (eP e64 (eP eB (eP eI (eW va0_0)))))) va0_3 a0_3]) (fun _ => true) hmix (fun _ _ _ hf => hf.2) (fun _ _ hf => hf) (by kernel_rfl) ?_
  have hS := hS.drew
  show lxE _ _ _ _ _ _ _ [0, 1, 2, 3, 4, 5, 6, 7, 8, 9, 10, 11, 12, 13] _ _
  refine lxE_v hS rfl rfl (fun w hF => OpV_move rfl) rfl ?_
  refine lxE_v hS rfl rfl (fun w hF => OpV_nilB rfl) rfl ?_
  refine lxE_v hS rfl rfl (fun w hF => OpV_fieldB (k := 0) Tryd.underlying72 rfl rfl nz22 rfl) rfl ?_
  refine lxE_v hS rfl rfl (fun w hF => OpV_ldB Tryd.underlying22 rfl rfl (hF.bxc 0 rfl 0)) rfl ?_
  refine lxE_v hS rfl rfl (fun w hF => OpV_move rfl) rfl ?_
  refine lxE_v hS rfl rfl (fun w hF => OpV_nilP rfl) rfl ?_
  refine lxE_v hS rfl rfl (fun w hF => OpV_fieldE (k := 4) Tryd.underlying78 rfl rfl nz3 rfl) rfl ?_
  refine lxE_v hS rfl rfl (fun w hF => G_loadF Tryd.underlying3 rfl rfl (hF.ro 2 rfl) hx_4 rfl rfl) rfl ?_
  refine lxE_v hS rfl rfl (fun w hF => OpV_move rfl) rfl ?_
  refine lxE_v hS rfl rfl (fun w hF => OpV_nilB rfl) rfl ?_
  refine lxE_v hS rfl rfl (fun w hF => OpV_fieldB (k := 1) Tryd.underlying72 rfl rfl nz3 rfl) rfl ?_
  refine lxE_v hS rfl rfl (fun w hF => OpV_ldB Tryd.underlying3 rfl rfl (hF.bxc 0 rfl 1)) rfl ?_
  obtain ⟨x_12, hx_12, h⟩ := obind_some h
  refine lxE_v hS rfl rfl (fun w hF => W_sl Tryd.underlying22 ti5 rfl rfl rfl (ha0_0.now hF.fr) hx_12) rfl ?_
  refine lxE_v hS rfl rfl (fun w hF => OpV_assign rfl) rfl ?_
  refine lxE_nil hS ?_
  refine QE_then_n (wpC_seq ?_)
  refine seq_join (r := r) (fun (g : Bool) L w => L = [(3, pP (ixA va0_3 (eP eI (eP eI (eP e64 (eP eB (eP eI (eW va0_0)))))).sz (wI ((a0_3.length : Int) - 1)).toNat)), (4, eWv va0_0 (some ((x_4.2.2.2.2.1 : Int).toNat, (a0_1 : Int).toNat))), (62, vB g)] ∧ St S w0 w [own (eP eI (eP eI (eP e64 (eP eB (eP eI (eW va0_0)))))) va0_3 a0_3, OE.bx ba0 [va0_0, vI a0_1, va0_2, va0_3], own (eP eI (eP e64 (eP eS eI))) va0_2 x_7]) (F.cbor_reader_done_K2 a0_1 a0_3 x_4 x_7) ?_ ?_
  rotate_left
  ·intro hK_20
   refine wpC_region (wpR_run 1 rfl ?_)
   refine wpR_v (OpV_nilP rfl) rfl ?_
   refine wpR_v (OpV_fieldE (k := 5) Tryd.underlying78 rfl rfl nz22 rfl) rfl ?_
   refine wpR_v (G_loadF Tryd.underlying22 rfl rfl (hS.ro 2 rfl) hx_4 rfl rfl) rfl ?_
   obtain ⟨hg_13, h⟩ := grd_some h
   refine wpR_v (OpV_bin rfl rfl (ha0_0.eWne Tryd.underlying22 x_4.2.2.2.2.2 hg_13)) rfl ?_
   refine wpR_run 1 rfl ?_
   cases hb_14 : x_4.2.2.2.2.2.isSome
   case true =>
    have h := if_t h hb_14
    try simp only [hb_14]
    refine wpR_run 1 rfl ?_
    refine wpR_gv (t := 54) rfl rfl (OpV_nilP rfl) rfl ?_
    refine wpR_gv (t := 54) rfl rfl (OpV_fieldE (k := 5) Tryd.underlying78 rfl rfl nz22 rfl) rfl ?_
    refine wpR_gv (t := 54) rfl rfl (G_loadF Tryd.underlying22 rfl rfl (hS.ro 2 rfl) hx_4 rfl rfl) rfl ?_
    refine wpR_run 1 rfl ?_
    obtain ⟨x_16, hc_15, h⟩ := obind_some h
    obtain ⟨hg_17, h⟩ := grd_some h
    obtain ⟨x_18, hx_18, h⟩ := obind_some h
    refine wpR_gcall (t := 54) rfl rfl (by kernel_rfl) rfl (c_slices_Compare_byte_byte _ (vwL a0_0 x_16) x_12 (eWv va0_0 x_4.2.2.2.2.2) (eWv va0_0 (some ((x_4.2.2.2.2.1 : Int).toNat, (a0_1 : Int).toNat)))  ((ha0_0.eW hc_15 hg_17.1 hg_17.2).now hS.fr).rp ((ha0_0.W_sl hx_12).now hS.fr).rp _ hx_18) rfl ?_
    rintro _ w ⟨rfl, hS1⟩
    have hS := hS.call hS1
    simp only [List.cons_append, List.nil_append] at hS
    refine wpR_run 2 rfl ?_
    refine wpR_nil (QE_then_n ?_)
    exact wpC_le _ (by exact ⟨rfl, rfl, rfl, trivial⟩) (hK_20 (decide ((0 : Int) ≤ x_18)) _ _ ⟨rfl, (hS.pick [2, 0, 1] (by decide) rfl)⟩ h)
   case false =>
    have h := if_f h hb_14
    try simp only [hb_14]
    refine wpR_run 8 rfl ?_
    refine wpR_nil (QE_then_n ?_)
    exact wpC_le _ (by exact ⟨rfl, rfl, rfl, trivial⟩) (hK_20 false _ _ ⟨rfl, (hS.pick [2, 0, 1] (by decide) rfl)⟩ h)
  rintro x_19 L w hJ h
  try dsimp only at hJ
  obtain ⟨rfl, hS⟩ := hJ
  unfold F.cbor_reader_done_K2 at h
  refine wpC_cond rfl (fun hb_25 => ?_) (fun hb_25 => ?_)
  ·have h := if_t h hb_25
   refine wpC_seq (wpC_region (wpR_run 1 rfl ?_))
   refine wpR_v (OpV_nilP rfl) rfl ?_
   refine wpR_v (OpV_fieldE (k := 4) Tryd.underlying78 rfl rfl nz3 rfl) rfl ?_
   refine wpR_v (G_loadF Tryd.underlying3 rfl rfl (hS.ro 0 rfl) hx_4 rfl rfl) rfl ?_
   refine wpR_v (OpV_build (vs := [(0, vI 220, [vI 220]), (1, vI x_4.2.2.2.2.1, [vI x_4.2.2.2.2.1])]) (cells := [vI 220, vI x_4.2.2.2.2.1]) rfl lay76 ⟨rfl, rfl, trivial⟩ rfl) rfl ?_
   refine wpR_x (OpX_box (cs := [vI 220, vI x_4.2.2.2.2.1]) rfl rfl hS) rfl ?_
   rintro _ w ⟨b_21, rfl, hS⟩
   refine wpR_run 1 rfl ?_
   refine wpR_nil (QE_then_n (wpC_ret (QE_then_r (QE_blk_r ?_))))
   refine QE_then_r ?_
   cases h
   exact QE_ret1 rfl rfl ⟨pB b_21 0, va0_2, va0_3, rfl, ⟨_, rfl⟩, hS.pick [0, 2, 3, 1] (by decide) rfl⟩
  have h := if_f h hb_25
  refine wpC_skip (QE_then_n (wpC_region (wpR_run 3 rfl ?_)))
  refine wpR_v (OpV_nilP rfl) rfl ?_
  refine wpR_v (OpV_fieldE (k := 5) Tryd.underlying78 rfl rfl nz22 rfl) rfl ?_
  refine wpR_y (OpY_storeF (t := (x_4.1, x_4.2.1, x_4.2.2.1, x_4.2.2.2.1, x_4.2.2.2.2.1, (some ((x_4.2.2.2.2.1 : Int).toNat, (a0_1 : Int).toNat)))) (us := [eWv va0_0 (some ((x_4.2.2.2.2.1 : Int).toNat, (a0_1 : Int).toNat))]) sz22 rfl rfl (eWv_cells _ _) hS (i := 0) rfl hx_4 rfl rfl) ?_
  intro w hS
  obtain ⟨x_23, hx_23, h⟩ := olet_some h
  rw [hx_23] at hS
  refine wpR_v (OpV_nilP rfl) rfl ?_
  refine wpR_v (OpV_fieldE (k := 3) Tryd.underlying78 rfl rfl nz4 rfl) rfl ?_
  refine wpR_y (OpY_storeF (t := (x_4.1, x_4.2.1, x_4.2.2.1, true, x_4.2.2.2.2.1, (some ((x_4.2.2.2.2.1 : Int).toNat, (a0_1 : Int).toNat)))) (us := [vB true]) sz4 rfl rfl rfl hS (i := 0) rfl (getO_set hx_23 hx_4) rfl rfl) ?_
  intro w hS
  obtain ⟨x_24, hx_24, h⟩ := olet_some h
  rw [hx_24] at hS
  refine wpR_nil (QE_blk_n ?_)
  refine QE_then_n ?_
  exact wpC_le _ (by exact trivial) (hK_29 x_24 _ _ ⟨rfl, (hS.pick [1, 2, 0] (by decide) rfl)⟩ h)
 rintro x_28 L w hJ h
 try dsimp only at hJ
 obtain ⟨rfl, hS⟩ := hJ
 unfold F.cbor_reader_done_K1 at h
 refine wpC_seq (wpC_region (wpR_run 1 rfl ?_))
 refine wpR_nil (QE_then_n (wpC_ret ?_))
 cases h
 exact QE_ret1 rfl rfl ⟨.pointer none, va0_2, va0_3, rfl, rfl, hS.pick [0, 1, 2] (by decide) rfl⟩
theorem c_cbor_reader_item (w0 : World) (a0_0 : List UInt8) (a0_1 : Int) (a0_2 : List (Int × UInt64 × (List UInt8) × Int)) (a0_3 : List (Int × Int × UInt64 × Bool × Int × Option (Nat × Nat))) (va0_0 : Value) (va0_2 : Value) (va0_3 : Value) (ba0 : Nat) (S : List Nat) (hS : St S w0 w0 [OE.bx ba0 [va0_0, vI a0_1, va0_2, va0_3], own (eP eI (eP e64 (eP eS eI))) va0_2 a0_2, own (eP eI (eP eI (eP e64 (eP eB (eP eI (eW va0_0)))))) va0_3 a0_3]) (hT : TB S w0) (ha0_0 : RP S w0 e8 va0_0 a0_0) (r : Option (Int × Int) × Int × List (Int × UInt64 × (List UInt8) × Int) × List (Int × Int × UInt64 × Bool × Int × Option (Nat × Nat)))
  (h : F.cbor_reader_item a0_0 a0_1 a0_2 a0_3 = some r) : Calls Tryd.prog 36 #[pB ba0 0] w0 (Ret fun v w => ∃ u0 u0_2 u0_3 : Value, v = u0 ∧ oval u0 (r.1.map (fun c => [vI c.1, vI c.2])) ∧ St S w0 w (oent u0 (r.1.map (fun c => [vI c.1, vI c.2])) ++ [OE.bx ba0 [va0_0, vI r.2.1, u0_2, u0_3], own (eP eI (eP e64 (eP eS eI))) u0_2 r.2.2.1, own (eP eI (eP eI (eP e64 (eP eB (eP eI (eW va0_0)))))) u0_3 r.2.2.2])) := by
 refine calls_at 150 Tryd.func36 rfl rfl rfl ?_
 refine wpC_le [(0, pB ba0 0)] ⟨rfl, trivial⟩ ?_
 unfold F.cbor_reader_item at h
 refine wpC_seq (wpC_region (wpR_run 1 rfl ?_))
 refine wpR_nil (QE_then_n (wpC_seq (wpC_region (wpR_run 1 rfl ?_))))
 refine wpR_v (OpV_nilB rfl) rfl ?_
 refine wpR_v (OpV_fieldB (k := 1) Tryd.underlying72 rfl rfl nz3 rfl) rfl ?_
 refine wpR_v (OpV_ldB Tryd.underlying3 rfl rfl (hS.bxc 0 rfl 1)) rfl ?_
 refine wpR_run 1 rfl ?_
 refine wpR_nil (QE_then_n (wpC_seq (wpC_region (wpR_run 1 rfl ?_))))
 have hG := hS.pick (os' := [OE.bx ba0 [va0_0, vI a0_1, va0_2, va0_3], own (eP eI (eP e64 (eP eS eI))) va0_2 a0_2, own (eP eI (eP eI (eP e64 (eP eB (eP eI (eW va0_0)))))) va0_3 a0_3] ++ []) [0, 1, 2] (by decide) rfl
 obtain ⟨x_4, hx_4, h⟩ := obind_some h
 refine wpR_call (by kernel_rfl) rfl (c_cbor_reader_argument _ a0_0 a0_1 a0_2 a0_3 va0_0 va0_2 va0_3 ba0 _ hG.give (ha0_0.give (Nat.le_of_ble_eq_true rfl) hG) _ hx_4) rfl ?_
 rintro _ w ⟨u_5, v_7, v_9, rfl, hO_6, hS1⟩
 cases hc_11 : x_4.2.2.1 with
 | none =>
  have h := ocase_n h hc_11
  rw [hc_11] at hO_6 hS1
  simp only [Option.map_none, oval] at hO_6
  subst hO_6
  simp only [Option.map_none, oent, List.nil_append] at hS1
  have hS := hG.back hS1
  simp only [List.cons_append, List.nil_append] at hS
  refine wpR_run 7 rfl ?_
  refine wpR_nil (QE_then_n (wpC_seq (wpC_seq (wpC_region (wpR_run 1 rfl ?_)))))
  refine wpR_v (OpV_bin rfl rfl (b_pnnN Tryd.underlying73)) rfl ?_
  refine wpR_nil (QE_then_n (wpC_condF rfl ?_))
  refine wpC_skip (QE_then_n (wpC_seq (wpC_region (wpR_run 1 rfl ?_))))
  refine wpR_v (OpV_build (vs := [(0, vI x_4.1, [vI x_4.1])]) (cells := [vI x_4.1, v64 0, vS [], vI 0]) rfl lay42 ⟨rfl, trivial⟩ rfl) rfl ?_
  refine wpR_x (OpX_alloc (cs := [vI 0, v64 0, vS [], vI 0]) tz42 rfl hS) rfl ?_
  rintro _ w ⟨b_15, rfl, hS⟩
  refine wpR_y (OpY_stB (i := 0) (us := [vI x_4.1, v64 0, vS [], vI 0]) rfl sz42 rfl rfl rfl ⟨rfl, rfl, rfl, rfl, trivial⟩ rfl hS) ?_
  intro w hS
  replace hS : St _ w0 w [OE.bx b_15 [vI x_4.1, v64 0, vS [], vI 0], OE.bx ba0 [va0_0, vI x_4.2.2.2.1, v_7, v_9], own (eP eI (eP e64 (eP eS eI))) v_7 x_4.2.2.2.2.1, own (eP eI (eP eI (eP e64 (eP eB (eP eI (eW va0_0)))))) v_9 x_4.2.2.2.2.2] := hS
  refine wpR_nil (QE_then_n ?_)
  refine seq_join (r := r) (fun (g : Int × UInt64 × List UInt8) L w => L = [(0, pB ba0 0), (7, pB b_15 0)] ∧ St S w0 w [OE.bx ba0 [va0_0, vI g.1, v_7, v_9], own (eP eI (eP e64 (eP eS eI))) v_7 x_4.2.2.2.2.1, own (eP eI (eP eI (eP e64 (eP eB (eP eI (eW va0_0)))))) v_9 x_4.2.2.2.2.2, OE.bx b_15 [vI x_4.1, v64 g.2.1, vS g.2.2, vI 0]]) (F.cbor_reader_item_K1 a0_0 x_4) ?_ ?_
  rotate_left
  ·intro hK_59
   refine wpC_seq (wpC_region (wpR_run 1 rfl ?_))
   refine wpR_nil (QE_then_n (wpC_block ?_))
   refine seq_join (r := r) (fun (g : Bool) L w => L = [(0, pB ba0 0), (3, vI a0_1), (4, vI x_4.1), (5, v64 x_4.2.1), (7, pB b_15 0), (24, vI x_4.1), (71, vB g)] ∧ St S w0 w [OE.bx ba0 [va0_0, vI x_4.2.2.2.1, v_7, v_9], own (eP eI (eP e64 (eP eS eI))) v_7 x_4.2.2.2.2.1, own (eP eI (eP eI (eP e64 (eP eB (eP eI (eW va0_0)))))) v_9 x_4.2.2.2.2.2, OE.bx b_15 [vI x_4.1, v64 0, vS [], vI 0]]) (F.cbor_reader_item_K2 x_4 a0_0 a0_1) ?_ ?_
   rotate_left
   ·intro hK_20
    refine wpC_seq (wpC_region (wpR_run 2 rfl ?_))
    refine wpR_nil (QE_then_n ?_)
    refine wpC_cond rfl (fun hb_18 => ?_) (fun hb_18 => ?_)
    ·have h := if_t h hb_18
     refine wpC_skip (QE_then_n ?_)
     exact wpC_le _ (by exact ⟨rfl, rfl, rfl, rfl, rfl, rfl, rfl, trivial⟩) (hK_20 (x_4.1 == 0) _ _ ⟨rfl, (hS.pick [1, 2, 3, 0] (by decide) rfl)⟩ h)
    have h := if_f h hb_18
    refine wpC_seq (wpC_region (wpR_run 2 rfl ?_))
    refine wpR_nil (QE_then_n ?_)
    refine wpC_cond rfl (fun hb_17 => ?_) (fun hb_17 => ?_)
    ·have h := if_t h hb_17
     refine wpC_skip (QE_then_n ?_)
     exact wpC_le _ (by exact ⟨rfl, rfl, rfl, rfl, rfl, rfl, rfl, trivial⟩) (hK_20 (x_4.1 == 1) _ _ ⟨rfl, (hS.pick [1, 2, 3, 0] (by decide) rfl)⟩ h)
    have h := if_f h hb_17
    refine wpC_region (wpR_run 2 rfl ?_)
    refine wpR_nil (QE_then_n ?_)
    exact wpC_le _ (by exact ⟨rfl, rfl, rfl, rfl, rfl, rfl, rfl, trivial⟩) (hK_20 (x_4.1 == 7) _ _ ⟨rfl, (hS.pick [1, 2, 3, 0] (by decide) rfl)⟩ h)
   rintro x_19 L w hJ h
   try dsimp only at hJ
   obtain ⟨rfl, hS⟩ := hJ
   unfold F.cbor_reader_item_K2 at h
   refine wpC_cond rfl (fun hb_55 => ?_) (fun hb_55 => ?_)
   ·have h := if_t h hb_55
    refine wpC_region (wpR_run 1 rfl ?_)
    refine wpR_v (OpV_fieldB (k := 1) Tryd.underlying42 rfl rfl nz40 rfl) rfl ?_
    refine wpR_y (OpY_stB (i := 3) (us := [v64 x_4.2.1]) rfl sz40 rfl rfl rfl ⟨rfl, trivial⟩ rfl hS) ?_
    intro w hS
    replace hS : St _ w0 w [OE.bx ba0 [va0_0, vI x_4.2.2.2.1, v_7, v_9], own (eP eI (eP e64 (eP eS eI))) v_7 x_4.2.2.2.2.1, own (eP eI (eP eI (eP e64 (eP eB (eP eI (eW va0_0)))))) v_9 x_4.2.2.2.2.2, OE.bx b_15 [vI x_4.1, v64 x_4.2.1, vS [], vI 0]] := hS
    refine wpR_nil (QE_blk_n ?_)
    refine QE_then_n ?_
    exact wpC_le _ (by exact ⟨rfl, rfl, trivial⟩) (hK_59 (x_4.2.2.2.1, x_4.2.1, []) _ _ ⟨rfl, hS⟩ h)
   have h := if_f h hb_55
   refine seq_join (r := r) (fun (g : Bool) L w => L = [(0, pB ba0 0), (3, vI a0_1), (4, vI x_4.1), (5, v64 x_4.2.1), (7, pB b_15 0), (77, vB g)] ∧ St S w0 w [OE.bx ba0 [va0_0, vI x_4.2.2.2.1, v_7, v_9], own (eP eI (eP e64 (eP eS eI))) v_7 x_4.2.2.2.2.1, own (eP eI (eP eI (eP e64 (eP eB (eP eI (eW va0_0)))))) v_9 x_4.2.2.2.2.2, OE.bx b_15 [vI x_4.1, v64 0, vS [], vI 0]]) (F.cbor_reader_item_K3 a0_0 a0_1 x_4) ?_ ?_
   rotate_left
   ·intro hK_23
    refine wpC_seq (wpC_region (wpR_run 2 rfl ?_))
    refine wpR_nil (QE_then_n ?_)
    refine wpC_cond rfl (fun hb_21 => ?_) (fun hb_21 => ?_)
    ·have h := if_t h hb_21
     refine wpC_skip (QE_then_n ?_)
     exact wpC_le _ (by exact ⟨rfl, rfl, rfl, rfl, rfl, rfl, trivial⟩) (hK_23 (x_4.1 == 2) _ _ ⟨rfl, hS⟩ h)
    have h := if_f h hb_21
    refine wpC_region (wpR_run 2 rfl ?_)
    refine wpR_nil (QE_then_n ?_)
    exact wpC_le _ (by exact ⟨rfl, rfl, rfl, rfl, rfl, rfl, trivial⟩) (hK_23 (x_4.1 == 3) _ _ ⟨rfl, hS⟩ h)
   rintro x_22 L w hJ h
   try dsimp only at hJ
   obtain ⟨rfl, hS⟩ := hJ
   unfold F.cbor_reader_item_K3 at h
   refine wpC_cond rfl (fun hb_54 => ?_) (fun hb_54 => ?_)
   ·have h := if_t h hb_54
    refine wpC_seq (wpC_seq ?_)
    refine wpC_regionT (fun w' => St S w0 w' [OE.bx ba0 [va0_0, vI x_4.2.2.2.1, v_7, v_9], own (eP eI (eP e64 (eP eS eI))) v_7 x_4.2.2.2.2.1, own (eP eI (eP eI (eP e64 (eP eB (eP eI (eW va0_0)))))) v_9 x_4.2.2.2.2.2, OE.bx b_15 [vI x_4.1, v64 0, vS [], vI 0]]) (fun _ => true) hmix (fun _ _ _ hf => hf.2) (fun _ _ hf => hf) (by kernel_rfl) ?_
    have hS := hS.drew
    show lxE _ _ _ _ _ _ _ [0, 1, 2, 3, 4, 5, 6, 7, 8, 9, 10, 11, 12] _ _
    refine lxE_v hS rfl rfl (fun w hF => OpV_move rfl) rfl ?_
    refine lxE_v hS rfl rfl (fun w hF => OpV_move rfl) rfl ?_
    refine lxE_v hS rfl rfl (fun w hF => OpV_nilB rfl) rfl ?_
    refine lxE_v hS rfl rfl (fun w hF => OpV_fieldB (k := 0) Tryd.underlying72 rfl rfl nz22 rfl) rfl ?_
    refine lxE_v hS rfl rfl (fun w hF => OpV_ldB Tryd.underlying22 rfl rfl (hF.bxc 0 rfl 0)) rfl ?_
    refine lxE_v hS rfl rfl (fun w hF => OpV_len Tryd.underlying22 rfl (ha0_0.now hF.fr)) rfl ?_
    refine lxE_v hS rfl rfl (fun w hF => OpV_move rfl) rfl ?_
    refine lxE_v hS rfl rfl (fun w hF => OpV_nilB rfl) rfl ?_
    refine lxE_v hS rfl rfl (fun w hF => OpV_fieldB (k := 1) Tryd.underlying72 rfl rfl nz3 rfl) rfl ?_
    refine lxE_v hS rfl rfl (fun w hF => OpV_ldB Tryd.underlying3 rfl rfl (hF.bxc 0 rfl 1)) rfl ?_
    refine lxE_v hS rfl rfl (fun w hF => OpV_bin rfl rfl (b_isub _ (a0_0.length : Int) x_4.2.2.2.1)) rfl ?_
    refine lxE_v hS rfl rfl (fun w hF => OpV_conv rfl (cv_i_64 Tryd.underlying3 Tryd.underlying40 (wI ((a0_0.length : Int) - x_4.2.2.2.1)))) rfl ?_
    refine lxE_v hS rfl rfl (fun w hF => OpV_bin rfl rfl (b_gtr64 _ x_4.2.1 (UInt64.ofInt (wI ((a0_0.length : Int) - x_4.2.2.2.1))))) rfl ?_
    refine lxE_nil hS ?_
    refine QE_then_n ?_
    refine wpC_cond rfl (fun hb_34 => ?_) (fun hb_34 => ?_)
    ·have h := if_t h hb_34
     refine wpC_seq (wpC_region (wpR_run 1 rfl ?_))
     refine wpR_v (OpV_nilB rfl) rfl ?_
     refine wpR_v (OpV_fieldB (k := 0) Tryd.underlying72 rfl rfl nz22 rfl) rfl ?_
     refine wpR_v (OpV_ldB Tryd.underlying22 rfl rfl (hS.bxc 0 rfl 0)) rfl ?_
     refine wpR_v (OpV_len Tryd.underlying22 rfl (ha0_0.now hS.fr)) rfl ?_
     refine wpR_v (OpV_build (vs := [(0, vI 220, [vI 220]), (1, vI (a0_0.length : Int), [vI (a0_0.length : Int)])]) (cells := [vI 220, vI (a0_0.length : Int)]) rfl lay76 ⟨rfl, rfl, trivial⟩ rfl) rfl ?_
     refine wpR_x (OpX_box (cs := [vI 220, vI (a0_0.length : Int)]) rfl rfl hS) rfl ?_
     rintro _ w ⟨b_24, rfl, hS⟩
     refine wpR_run 1 rfl ?_
     refine wpR_nil (QE_then_n (wpC_ret (QE_then_r (QE_blk_r ?_))))
     refine QE_then_r ?_
     cases h
     exact QE_ret1 rfl rfl ⟨pB b_24 0, v_7, v_9, rfl, ⟨_, rfl⟩, hS.pick [0, 1, 2, 3] (by decide) rfl⟩
    have h := if_f h hb_34
    refine wpC_skip (QE_then_n (wpC_seq ?_))
    refine wpC_regionS (fun w' => St S w0 w' [OE.bx ba0 [va0_0, vI x_4.2.2.2.1, v_7, v_9], own (eP eI (eP e64 (eP eS eI))) v_7 x_4.2.2.2.2.1, own (eP eI (eP eI (eP e64 (eP eB (eP eI (eW va0_0)))))) v_9 x_4.2.2.2.2.2, OE.bx b_15 [vI x_4.1, v64 0, vS [], vI 0]]) (fun i => !([18].contains i)) hmix (fun _ _ _ hf => hf.2) (fun _ _ hf => hf) (by kernel_rfl) ?_
    have hS := hS.drew
    show lxE _ _ _ _ _ _ _ [0, 1, 2, 3, 4, 5, 6, 7, 8, 9, 10, 11, 12, 13, 14, 15, 16, 17, 18] _ _
    refine lxE_v hS rfl rfl (fun w hF => OpV_move rfl) rfl ?_
    refine lxE_v hS rfl rfl (fun w hF => OpV_nilB rfl) rfl ?_
    refine lxE_v hS rfl rfl (fun w hF => OpV_fieldB (k := 0) Tryd.underlying72 rfl rfl nz22 rfl) rfl ?_
    refine lxE_v hS rfl rfl (fun w hF => OpV_ldB Tryd.underlying22 rfl rfl (hF.bxc 0 rfl 0)) rfl ?_
    refine lxE_v hS rfl rfl (fun w hF => OpV_move rfl) rfl ?_
    refine lxE_v hS rfl rfl (fun w hF => OpV_nilB rfl) rfl ?_
    refine lxE_v hS rfl rfl (fun w hF => OpV_fieldB (k := 1) Tryd.underlying72 rfl rfl nz3 rfl) rfl ?_
    refine lxE_v hS rfl rfl (fun w hF => OpV_ldB Tryd.underlying3 rfl rfl (hF.bxc 0 rfl 1)) rfl ?_
    refine lxE_v hS rfl rfl (fun w hF => OpV_move rfl) rfl ?_
    refine lxE_v hS rfl rfl (fun w hF => OpV_nilB rfl) rfl ?_
    refine lxE_v hS rfl rfl (fun w hF => OpV_fieldB (k := 1) Tryd.underlying72 rfl rfl nz3 rfl) rfl ?_
    refine lxE_v hS rfl rfl (fun w hF => OpV_ldB Tryd.underlying3 rfl rfl (hF.bxc 0 rfl 1)) rfl ?_
    refine lxE_v hS rfl rfl (fun w hF => OpV_move rfl) rfl ?_
    refine lxE_v hS rfl rfl (fun w hF => OpV_conv rfl (cv_64_i Tryd.underlying40 Tryd.underlying3 x_4.2.1)) rfl ?_
    refine lxE_v hS rfl rfl (fun w hF => OpV_bin rfl rfl (b_iadd _ x_4.2.2.2.1 (wI (x_4.2.1.toNat : Int)))) rfl ?_
    obtain ⟨x_26, hx_26, h⟩ := obind_some h
    refine lxE_v hS rfl rfl (fun w hF => W_sl Tryd.underlying22 ti5 rfl rfl rfl (ha0_0.now hF.fr) hx_26) rfl ?_
    refine lxE_v hS rfl rfl (fun w hF => OpV_str Tryd.underlying22 Tryd.underlying5 Tryd.underlying9 rfl ((ha0_0.W_sl hx_26).now hF.fr)) rfl ?_
    refine lxE_v hS rfl rfl (fun w hF => OpV_fieldB (k := 2) Tryd.underlying42 rfl rfl nz9 rfl) rfl ?_
    refine lxE_y hS rfl rfl (OpY_stB (i := 3) (us := [vS x_26]) rfl sz9 rfl rfl rfl ⟨rfl, trivial⟩ rfl hS) ?_
    intro w hS
    replace hS : St _ w0 w [OE.bx ba0 [va0_0, vI x_4.2.2.2.1, v_7, v_9], own (eP eI (eP e64 (eP eS eI))) v_7 x_4.2.2.2.2.1, own (eP eI (eP eI (eP e64 (eP eB (eP eI (eW va0_0)))))) v_9 x_4.2.2.2.2.2, OE.bx b_15 [vI x_4.1, v64 0, vS x_26, vI 0]] := hS
    refine lxE_nil trivial ?_
    refine QE_then_n (wpC_seq (wpC_region (wpR_run 1 rfl ?_)))
    refine wpR_v (OpV_nilB rfl) rfl ?_
    refine wpR_v (OpV_fieldB (k := 1) Tryd.underlying72 rfl rfl nz3 rfl) rfl ?_
    refine wpR_v (OpV_ldB Tryd.underlying3 rfl rfl (hS.bxc 0 rfl 1)) rfl ?_
    refine wpR_run 1 rfl ?_
    refine wpR_v (OpV_conv rfl (cv_64_i Tryd.underlying40 Tryd.underlying3 x_4.2.1)) rfl ?_
    refine wpR_run 1 rfl ?_
    refine wpR_v (OpV_nilB rfl) rfl ?_
    refine wpR_v (OpV_fieldB (k := 1) Tryd.underlying72 rfl rfl nz3 rfl) rfl ?_
    refine wpR_y (OpY_stB (i := 0) (us := [vI (wI (x_4.2.2.2.1 + (wI (x_4.2.1.toNat : Int))))]) rfl sz3 rfl rfl rfl ⟨rfl, trivial⟩ rfl hS) ?_
    intro w hS
    replace hS : St _ w0 w [OE.bx ba0 [va0_0, vI (wI (x_4.2.2.2.1 + (wI (x_4.2.1.toNat : Int)))), v_7, v_9], own (eP eI (eP e64 (eP eS eI))) v_7 x_4.2.2.2.2.1, own (eP eI (eP eI (eP e64 (eP eB (eP eI (eW va0_0)))))) v_9 x_4.2.2.2.2.2, OE.bx b_15 [vI x_4.1, v64 0, vS x_26, vI 0]] := hS
    refine wpR_nil (QE_then_n ?_)
    refine seq_join (r := r) (fun (g : Bool) L w => L = [(0, pB ba0 0), (3, vI a0_1), (7, pB b_15 0), (134, vB g)] ∧ St S w0 w [OE.bx ba0 [va0_0, vI (wI (x_4.2.2.2.1 + (wI (x_4.2.1.toNat : Int)))), v_7, v_9], own (eP eI (eP e64 (eP eS eI))) v_7 x_4.2.2.2.2.1, own (eP eI (eP eI (eP e64 (eP eB (eP eI (eW va0_0)))))) v_9 x_4.2.2.2.2.2, OE.bx b_15 [vI x_4.1, v64 0, vS x_26, vI 0]]) (F.cbor_reader_item_K4 a0_1 x_4 x_26 a0_0) ?_ ?_
    rotate_left
    ·intro hK_30
     refine wpC_region (wpR_run 3 rfl ?_)
     cases hb_27 : (x_4.1 == 3)
     case true =>
      have h := if_t h hb_27
      try simp only [hb_27]
      refine wpR_gv (t := 129) rfl rfl (OpV_fieldB (k := 2) Tryd.underlying42 rfl rfl nz9 rfl) rfl ?_
      refine wpR_gv (t := 129) rfl rfl (OpV_ldB Tryd.underlying9 rfl rfl (hS.bxc 3 rfl 2)) rfl ?_
      obtain ⟨x_28, hx_28, h⟩ := obind_some h
      refine wpR_gcall (t := 129) rfl rfl (by kernel_rfl) rfl (c_unicode_utf8_ValidString _ x_26   (hT.now hS.fr) _ hx_28) rfl ?_
      rintro _ w ⟨rfl, hS1⟩
      have hS := hS.call hS1
      simp only [List.cons_append, List.nil_append] at hS
      refine wpR_run 2 rfl ?_
      refine wpR_nil (QE_then_n ?_)
      exact wpC_le _ (by exact ⟨rfl, rfl, rfl, rfl, trivial⟩) (hK_30 (!x_28) _ _ ⟨rfl, hS⟩ h)
     case false =>
      have h := if_f h hb_27
      try simp only [hb_27]
      refine wpR_run 5 rfl ?_
      refine wpR_nil (QE_then_n ?_)
      exact wpC_le _ (by exact ⟨rfl, rfl, rfl, rfl, trivial⟩) (hK_30 false _ _ ⟨rfl, hS⟩ h)
    rintro x_29 L w hJ h
    try dsimp only at hJ
    obtain ⟨rfl, hS⟩ := hJ
    unfold F.cbor_reader_item_K4 at h
    refine wpC_cond rfl (fun hb_33 => ?_) (fun hb_33 => ?_)
    ·have h := if_t h hb_33
     refine wpC_seq (wpC_region (wpR_run 1 rfl ?_))
     refine wpR_v (OpV_build (vs := [(0, vI 32, [vI 32]), (1, vI a0_1, [vI a0_1])]) (cells := [vI 32, vI a0_1]) rfl lay76 ⟨rfl, rfl, trivial⟩ rfl) rfl ?_
     refine wpR_x (OpX_box (cs := [vI 32, vI a0_1]) rfl rfl hS) rfl ?_
     rintro _ w ⟨b_31, rfl, hS⟩
     refine wpR_run 1 rfl ?_
     refine wpR_nil (QE_then_n (wpC_ret (QE_blk_r ?_)))
     refine QE_then_r ?_
     cases h
     exact QE_ret1 rfl rfl ⟨pB b_31 0, v_7, v_9, rfl, ⟨_, rfl⟩, hS.pick [0, 1, 2, 3] (by decide) rfl⟩
    have h := if_f h hb_33
    refine wpC_skip (QE_blk_n ?_)
    refine QE_then_n ?_
    exact wpC_le _ (by exact ⟨rfl, rfl, trivial⟩) (hK_59 (wI (x_4.2.2.2.1 + (wI (x_4.2.1.toNat : Int))), 0, x_26) _ _ ⟨rfl, hS⟩ h)
   have h := if_f h hb_54
   refine wpC_seq (wpC_seq (wpC_region (wpR_run 1 rfl ?_)))
   refine wpR_v (OpV_nilB rfl) rfl ?_
   refine wpR_v (OpV_fieldB (k := 3) Tryd.underlying72 rfl rfl nz70 rfl) rfl ?_
   refine wpR_v (OpV_ldB Tryd.underlying70 rfl rfl (hS.bxc 0 rfl 3)) rfl ?_
   refine wpR_v (OpV_len Tryd.underlying70 rfl (hS.ro 2 rfl)) rfl ?_
   refine wpR_run 1 rfl ?_
   refine wpR_nil (QE_then_n ?_)
   refine wpC_cond rfl (fun hb_53 => ?_) (fun hb_53 => ?_)
   ·have h := if_t h hb_53
    refine wpC_seq (wpC_region (wpR_run 1 rfl ?_))
    refine wpR_v (OpV_build (vs := [(0, vI 11, [vI 11]), (1, vI a0_1, [vI a0_1])]) (cells := [vI 11, vI a0_1]) rfl lay76 ⟨rfl, rfl, trivial⟩ rfl) rfl ?_
    refine wpR_x (OpX_box (cs := [vI 11, vI a0_1]) rfl rfl hS) rfl ?_
    rintro _ w ⟨b_35, rfl, hS⟩
    refine wpR_run 1 rfl ?_
    refine wpR_nil (QE_then_n (wpC_ret (QE_then_r (QE_blk_r ?_))))
    refine QE_then_r ?_
    cases h
    exact QE_ret1 rfl rfl ⟨pB b_35 0, v_7, v_9, rfl, ⟨_, rfl⟩, hS.pick [0, 1, 2, 3] (by decide) rfl⟩
   have h := if_f h hb_53
   refine wpC_skip (QE_then_n (wpC_seq ?_))
   refine wpC_regionS (fun w' => St S w0 w' [OE.bx ba0 [va0_0, vI x_4.2.2.2.1, v_7, v_9], own (eP eI (eP e64 (eP eS eI))) v_7 x_4.2.2.2.2.1, own (eP eI (eP eI (eP e64 (eP eB (eP eI (eW va0_0)))))) v_9 x_4.2.2.2.2.2, OE.bx b_15 [vI x_4.1, v64 0, vS [], vI 0]]) (fun i => !([12, 13].contains i)) hmix (fun _ _ _ hf => hf.2) (fun _ _ hf => hf) (by kernel_rfl) ?_
   have hS := hS.drew
   show lxE _ _ _ _ _ _ _ [0, 1, 2, 3, 4, 5, 6, 7, 8, 9, 10, 11, 12, 13] _ _
   refine lxE_v hS rfl rfl (fun w hF => OpV_move rfl) rfl ?_
   refine lxE_v hS rfl rfl (fun w hF => OpV_nilB rfl) rfl ?_
   refine lxE_v hS rfl rfl (fun w hF => OpV_fieldB (k := 2) Tryd.underlying72 rfl rfl nz37 rfl) rfl ?_
   refine lxE_v hS rfl rfl (fun w hF => OpV_ldB Tryd.underlying37 rfl rfl (hF.bxc 0 rfl 2)) rfl ?_
   refine lxE_v hS rfl rfl (fun w hF => OpV_len Tryd.underlying37 rfl (hF.ro 1 rfl)) rfl ?_
   refine lxE_v hS rfl rfl (fun w hF => OpV_move rfl) rfl ?_
   refine lxE_v hS rfl rfl (fun w hF => OpV_move rfl) rfl ?_
   refine lxE_v hS rfl rfl (fun w hF => OpV_move rfl) rfl ?_
   refine lxE_v hS rfl rfl (fun w hF => OpV_nilB rfl) rfl ?_
   refine lxE_v hS rfl rfl (fun w hF => OpV_fieldB (k := 1) Tryd.underlying72 rfl rfl nz3 rfl) rfl ?_
   refine lxE_v hS rfl rfl (fun w hF => OpV_ldB Tryd.underlying3 rfl rfl (hF.bxc 0 rfl 1)) rfl ?_
   refine lxE_v hS rfl rfl (fun w hF => OpV_build (vs := [(0, vI (x_4.2.2.2.2.1.length : Int), [vI (x_4.2.2.2.2.1.length : Int)]), (1, vI x_4.1, [vI x_4.1]), (2, v64 x_4.2.1, [v64 x_4.2.1]), (4, vI x_4.2.2.2.1, [vI x_4.2.2.2.1])]) (cells := [vI (x_4.2.2.2.2.1.length : Int), vI x_4.1, v64 x_4.2.1, vB false, vI x_4.2.2.2.1, .slice none 0 0]) rfl lay78 ⟨rfl, rfl, rfl, rfl, trivial⟩ rfl) rfl ?_
   refine lxE_x hS rfl rfl (OpX_alloc (cs := [vI 0, vI 0, v64 0, vB false, vI 0, .slice none 0 0]) tz78 rfl hS) rfl ?_
   rintro _ w ⟨b_37, rfl, hS⟩
   refine lxE_y (hS.pick [1, 2, 3, 4] (by decide) rfl) rfl rfl (OpY_stB (i := 0) (us := [vI (x_4.2.2.2.2.1.length : Int), vI x_4.1, v64 x_4.2.1, vB false, vI x_4.2.2.2.1, .slice none 0 0]) rfl sz78 rfl rfl rfl ⟨rfl, rfl, rfl, rfl, rfl, rfl, trivial⟩ rfl hS) ?_
   intro w hS
   replace hS : St _ w0 w [OE.bx b_37 [vI (x_4.2.2.2.2.1.length : Int), vI x_4.1, v64 x_4.2.1, vB false, vI x_4.2.2.2.1, .slice none 0 0], OE.bx ba0 [va0_0, vI x_4.2.2.2.1, v_7, v_9], own (eP eI (eP e64 (eP eS eI))) v_7 x_4.2.2.2.2.1, own (eP eI (eP eI (eP e64 (eP eB (eP eI (eW va0_0)))))) v_9 x_4.2.2.2.2.2, OE.bx b_15 [vI x_4.1, v64 0, vS [], vI 0]] := hS
   refine lxE_nil trivial ?_
   refine QE_then_n ?_
   refine seq_join (r := r) (fun (g : UInt64 × UInt64) L w => L = [(0, pB ba0 0), (7, pB b_15 0), (8, pB b_37 0)] ∧ St S w0 w [OE.bx ba0 [va0_0, vI x_4.2.2.2.1, v_7, v_9], own (eP eI (eP e64 (eP eS eI))) v_7 x_4.2.2.2.2.1, own (eP eI (eP eI (eP e64 (eP eB (eP eI (eW va0_0)))))) v_9 x_4.2.2.2.2.2, OE.bx b_15 [vI x_4.1, v64 g.1, vS [], vI 0], OE.bx b_37 [vI (x_4.2.2.2.2.1.length : Int), vI x_4.1, v64 g.2, vB false, vI x_4.2.2.2.1, .slice none 0 0]]) (F.cbor_reader_item_K5 x_4) ?_ ?_
   rotate_left
   ·intro hK_42
    refine wpC_seq (wpC_region (wpR_run 2 rfl ?_))
    refine wpR_nil (QE_then_n ?_)
    refine wpC_cond rfl (fun hb_39 => ?_) (fun hb_39 => ?_)
    ·have h := if_t h hb_39
     refine wpC_region (wpR_run 1 rfl ?_)
     refine wpR_v (OpV_fieldB (k := 1) Tryd.underlying42 rfl rfl nz40 rfl) rfl ?_
     refine wpR_y (OpY_stB (i := 4) (us := [v64 x_4.2.1]) rfl sz40 rfl rfl rfl ⟨rfl, trivial⟩ rfl hS) ?_
     intro w hS
     replace hS : St _ w0 w [OE.bx b_37 [vI (x_4.2.2.2.2.1.length : Int), vI x_4.1, v64 x_4.2.1, vB false, vI x_4.2.2.2.1, .slice none 0 0], OE.bx ba0 [va0_0, vI x_4.2.2.2.1, v_7, v_9], own (eP eI (eP e64 (eP eS eI))) v_7 x_4.2.2.2.2.1, own (eP eI (eP eI (eP e64 (eP eB (eP eI (eW va0_0)))))) v_9 x_4.2.2.2.2.2, OE.bx b_15 [vI x_4.1, v64 x_4.2.1, vS [], vI 0]] := hS
     refine wpR_v (OpV_fieldB (k := 2) Tryd.underlying78 rfl rfl nz40 rfl) rfl ?_
     refine wpR_y (OpY_stB (i := 0) (us := [v64 1]) rfl sz40 rfl rfl rfl ⟨rfl, trivial⟩ rfl hS) ?_
     intro w hS
     replace hS : St _ w0 w [OE.bx b_37 [vI (x_4.2.2.2.2.1.length : Int), vI x_4.1, v64 1, vB false, vI x_4.2.2.2.1, .slice none 0 0], OE.bx ba0 [va0_0, vI x_4.2.2.2.1, v_7, v_9], own (eP eI (eP e64 (eP eS eI))) v_7 x_4.2.2.2.2.1, own (eP eI (eP eI (eP e64 (eP eB (eP eI (eW va0_0)))))) v_9 x_4.2.2.2.2.2, OE.bx b_15 [vI x_4.1, v64 x_4.2.1, vS [], vI 0]] := hS
     refine wpR_nil (QE_then_n ?_)
     exact wpC_le _ (by exact ⟨rfl, rfl, rfl, trivial⟩) (hK_42 (x_4.2.1, 1) _ _ ⟨rfl, (hS.pick [1, 2, 3, 4, 0] (by decide) rfl)⟩ h)
    have h := if_f h hb_39
    refine wpC_skip (QE_then_n ?_)
    exact wpC_le _ (by exact ⟨rfl, rfl, rfl, trivial⟩) (hK_42 (0, x_4.2.1) _ _ ⟨rfl, (hS.pick [1, 2, 3, 4, 0] (by decide) rfl)⟩ h)
   rintro ⟨x_40, x_41⟩ L w hJ h
   try dsimp only at hJ
   obtain ⟨rfl, hS⟩ := hJ
   unfold F.cbor_reader_item_K5 at h
   refine wpC_seq ?_
   have hsh1 := (hS.ro 1 rfl).shp
   refine wpC_regionS (fun w' => St S w0 w' [OE.bx ba0 [va0_0, vI x_4.2.2.2.1, v_7, v_9], own (eP eI (eP eI (eP e64 (eP eB (eP eI (eW va0_0)))))) v_9 x_4.2.2.2.2.2, OE.bx b_15 [vI x_4.1, v64 x_40, vS [], vI 0], OE.bx b_37 [vI (x_4.2.2.2.2.1.length : Int), vI x_4.1, v64 x_41, vB false, vI x_4.2.2.2.1, .slice none 0 0]]) (fun i => !([6, 7, 10].contains i)) hmix (fun _ _ _ hf => hf.2) (fun _ _ hf => hf) (by kernel_rfl) ?_
   have hS := hS.drew
   show lxE _ _ _ _ _ _ _ [0, 1, 2, 3, 4, 5, 6, 7, 8, 9, 10] _ _
   refine lxE_v (hS.pick [0, 2, 3, 4] (by decide) rfl) rfl rfl (fun w hF => OpV_move rfl) rfl ?_
   refine lxE_v (hS.pick [0, 2, 3, 4] (by decide) rfl) rfl rfl (fun w hF => OpV_move rfl) rfl ?_
   refine lxE_v (hS.pick [0, 2, 3, 4] (by decide) rfl) rfl rfl (fun w hF => OpV_nilB rfl) rfl ?_
   refine lxE_v (hS.pick [0, 2, 3, 4] (by decide) rfl) rfl rfl (fun w hF => OpV_fieldB (k := 2) Tryd.underlying72 rfl rfl nz37 rfl) rfl ?_
   refine lxE_v (hS.pick [0, 2, 3, 4] (by decide) rfl) rfl rfl (fun w hF => OpV_ldB Tryd.underlying37 rfl rfl (hF.bxc 0 rfl 2)) rfl ?_
   refine lxE_v (hS.pick [0, 2, 3, 4] (by decide) rfl) rfl rfl (fun w hF => OpV_ldBs (us := [vI x_4.1, v64 x_40, vS [], vI 0]) Tryd.underlying42 rfl sz42 rfl (hF.bxs 2 rfl rfl)) rfl ?_
   refine lxE_x (hS.pick [0, 2, 3, 4] (by decide) rfl) rfl rfl (OpX_litE (e := (eP eI (eP e64 (eP eS eI)))) (l := ([(x_4.1, x_40, [], 0)] : List (Int × UInt64 × (List UInt8) × Int))) (vs := [(0, .agg #[vI x_4.1, v64 x_40, vS [], vI 0], [vI x_4.1, v64 x_40, vS [], vI 0])]) Tryd.underlying37 ti42 rfl ⟨rfl, trivial⟩ rfl rfl (Nat.le_of_ble_eq_true rfl) (Nat.le_of_ble_eq_true rfl) hS) rfl ?_
   rintro v_43 w hS
   obtain ⟨x_45, hx_45, h⟩ := obind_some h
   refine lxE_x (hS.pick [1, 3, 4, 5] (by decide) rfl) rfl rfl (G_append Tryd.underlying37 ti42 rfl rfl rfl hS (i := 2) rfl (hS.ro 0 rfl) hx_45) rfl ?_
   rintro v_46 w hS
   refine lxE_v (hS.pick [1, 3, 4, 5] (by decide) rfl) rfl rfl (fun w hF => OpV_nilB rfl) rfl ?_
   refine lxE_v (hS.pick [1, 3, 4, 5] (by decide) rfl) rfl rfl (fun w hF => OpV_fieldB (k := 2) Tryd.underlying72 rfl rfl nz37 rfl) rfl ?_
   refine lxE_y (hS.pick [1, 3, 4, 5] (by decide) rfl) rfl rfl (OpY_stB (i := 1) (us := [v_46]) rfl sz37 rfl rfl (cells_one (hS.ro 2 rfl).one) ⟨(hS.ro 2 rfl).one, trivial⟩ rfl hS) ?_
   intro w hS
   replace hS : St _ w0 w [own (eP eI (eP e64 (eP eS eI))) v_43 ([(x_4.1, x_40, [], 0)] : List (Int × UInt64 × (List UInt8) × Int)), OE.bx ba0 [va0_0, vI x_4.2.2.2.1, v_46, v_9], own (eP eI (eP e64 (eP eS eI))) v_46 x_45, own (eP eI (eP eI (eP e64 (eP eB (eP eI (eW va0_0)))))) v_9 x_4.2.2.2.2.2, OE.bx b_15 [vI x_4.1, v64 x_40, vS [], vI 0], OE.bx b_37 [vI (x_4.2.2.2.2.1.length : Int), vI x_4.1, v64 x_41, vB false, vI x_4.2.2.2.1, .slice none 0 0]] := hS
   refine lxE_nil trivial ?_
   refine QE_then_n (wpC_seq ?_)
   have hsh3 := (hS.ro 3 rfl).shp
   refine wpC_regionS (fun w' => St S w0 w' [own (eP eI (eP e64 (eP eS eI))) v_43 ([(x_4.1, x_40, [], 0)] : List (Int × UInt64 × (List UInt8) × Int)), OE.bx ba0 [va0_0, vI x_4.2.2.2.1, v_46, v_9], own (eP eI (eP e64 (eP eS eI))) v_46 x_45, OE.bx b_15 [vI x_4.1, v64 x_40, vS [], vI 0], OE.bx b_37 [vI (x_4.2.2.2.2.1.length : Int), vI x_4.1, v64 x_41, vB false, vI x_4.2.2.2.1, .slice none 0 0]]) (fun i => !([6, 7, 10].contains i)) hmix (fun _ _ _ hf => hf.2) (fun _ _ hf => hf) (by kernel_rfl) ?_
   have hS := hS.drew
   show lxE _ _ _ _ _ _ _ [0, 1, 2, 3, 4, 5, 6, 7, 8, 9, 10] _ _
   refine lxE_v (hS.pick [0, 1, 2, 4, 5] (by decide) rfl) rfl rfl (fun w hF => OpV_move rfl) rfl ?_
   refine lxE_v (hS.pick [0, 1, 2, 4, 5] (by decide) rfl) rfl rfl (fun w hF => OpV_move rfl) rfl ?_
   refine lxE_v (hS.pick [0, 1, 2, 4, 5] (by decide) rfl) rfl rfl (fun w hF => OpV_nilB rfl) rfl ?_
   refine lxE_v (hS.pick [0, 1, 2, 4, 5] (by decide) rfl) rfl rfl (fun w hF => OpV_fieldB (k := 3) Tryd.underlying72 rfl rfl nz70 rfl) rfl ?_
   refine lxE_v (hS.pick [0, 1, 2, 4, 5] (by decide) rfl) rfl rfl (fun w hF => OpV_ldB Tryd.underlying70 rfl rfl (hF.bxc 1 rfl 3)) rfl ?_
   refine lxE_v (hS.pick [0, 1, 2, 4, 5] (by decide) rfl) rfl rfl (fun w hF => OpV_ldBs (us := [vI (x_4.2.2.2.2.1.length : Int), vI x_4.1, v64 x_41, vB false, vI x_4.2.2.2.1, .slice none 0 0]) Tryd.underlying78 rfl sz78 rfl (hF.bxs 4 rfl rfl)) rfl ?_
   refine lxE_x (hS.pick [0, 1, 2, 4, 5] (by decide) rfl) rfl rfl (OpX_litE (e := (eP eI (eP eI (eP e64 (eP eB (eP eI (eW va0_0))))))) (l := ([((x_4.2.2.2.2.1.length : Int), x_4.1, x_41, false, x_4.2.2.2.1, none)] : List (Int × Int × UInt64 × Bool × Int × Option (Nat × Nat)))) (vs := [(0, .agg #[vI (x_4.2.2.2.2.1.length : Int), vI x_4.1, v64 x_41, vB false, vI x_4.2.2.2.1, .slice none 0 0], [vI (x_4.2.2.2.2.1.length : Int), vI x_4.1, v64 x_41, vB false, vI x_4.2.2.2.1, .slice none 0 0])]) Tryd.underlying70 ti78 rfl ⟨rfl, trivial⟩ rfl rfl (Nat.le_of_ble_eq_true rfl) (Nat.le_of_ble_eq_true rfl) hS) rfl ?_
   rintro v_48 w hS
   obtain ⟨x_50, hx_50, h⟩ := obind_some h
   refine lxE_x (hS.pick [1, 2, 3, 5, 6] (by decide) rfl) rfl rfl (G_append Tryd.underlying70 ti78 rfl rfl rfl hS (i := 4) rfl (hS.ro 0 rfl) hx_50) rfl ?_
   rintro v_51 w hS
   refine lxE_v (hS.pick [1, 2, 3, 5, 6] (by decide) rfl) rfl rfl (fun w hF => OpV_nilB rfl) rfl ?_
   refine lxE_v (hS.pick [1, 2, 3, 5, 6] (by decide) rfl) rfl rfl (fun w hF => OpV_fieldB (k := 3) Tryd.underlying72 rfl rfl nz70 rfl) rfl ?_
   refine lxE_y (hS.pick [1, 2, 3, 5, 6] (by decide) rfl) rfl rfl (OpY_stB (i := 2) (us := [v_51]) rfl sz70 rfl rfl (cells_one (hS.ro 4 rfl).one) ⟨(hS.ro 4 rfl).one, trivial⟩ rfl hS) ?_
   intro w hS
   replace hS : St _ w0 w [own (eP eI (eP eI (eP e64 (eP eB (eP eI (eW va0_0)))))) v_48 ([((x_4.2.2.2.2.1.length : Int), x_4.1, x_41, false, x_4.2.2.2.1, none)] : List (Int × Int × UInt64 × Bool × Int × Option (Nat × Nat))), own (eP eI (eP e64 (eP eS eI))) v_43 ([(x_4.1, x_40, [], 0)] : List (Int × UInt64 × (List UInt8) × Int)), OE.bx ba0 [va0_0, vI x_4.2.2.2.1, v_46, v_51], own (eP eI (eP e64 (eP eS eI))) v_46 x_45, own (eP eI (eP eI (eP e64 (eP eB (eP eI (eW va0_0)))))) v_51 x_50, OE.bx b_15 [vI x_4.1, v64 x_40, vS [], vI 0], OE.bx b_37 [vI (x_4.2.2.2.2.1.length : Int), vI x_4.1, v64 x_41, vB false, vI x_4.2.2.2.1, .slice none 0 0]] := hS
   refine lxE_nil trivial ?_
   refine QE_then_n (wpC_seq (wpC_region (wpR_run 1 rfl ?_)))
   refine wpR_nil (QE_then_n (wpC_ret (QE_blk_r ?_)))
   refine QE_then_r ?_
   cases h
   exact QE_ret1 rfl rfl ⟨.pointer none, v_46, v_51, rfl, rfl, hS.pick [2, 3, 4] (by decide) rfl⟩
  rintro ⟨x_56, x_57, x_58⟩ L w hJ h
  try dsimp only at hJ
  obtain ⟨rfl, hS⟩ := hJ
  unfold F.cbor_reader_item_K1 at h
  refine wpC_seq ?_
  have hsh1 := (hS.ro 1 rfl).shp
  refine wpC_regionS (fun w' => St S w0 w' [OE.bx ba0 [va0_0, vI x_56, v_7, v_9], own (eP eI (eP eI (eP e64 (eP eB (eP eI (eW va0_0)))))) v_9 x_4.2.2.2.2.2, OE.bx b_15 [vI x_4.1, v64 x_57, vS x_58, vI 0]]) (fun i => !([6, 7, 10].contains i)) hmix (fun _ _ _ hf => hf.2) (fun _ _ hf => hf) (by kernel_rfl) ?_
  have hS := hS.drew
  show lxE _ _ _ _ _ _ _ [0, 1, 2, 3, 4, 5, 6, 7, 8, 9, 10] _ _
  refine lxE_v (hS.pick [0, 2, 3] (by decide) rfl) rfl rfl (fun w hF => OpV_move rfl) rfl ?_
  refine lxE_v (hS.pick [0, 2, 3] (by decide) rfl) rfl rfl (fun w hF => OpV_move rfl) rfl ?_
  refine lxE_v (hS.pick [0, 2, 3] (by decide) rfl) rfl rfl (fun w hF => OpV_nilB rfl) rfl ?_
  refine lxE_v (hS.pick [0, 2, 3] (by decide) rfl) rfl rfl (fun w hF => OpV_fieldB (k := 2) Tryd.underlying72 rfl rfl nz37 rfl) rfl ?_
  refine lxE_v (hS.pick [0, 2, 3] (by decide) rfl) rfl rfl (fun w hF => OpV_ldB Tryd.underlying37 rfl rfl (hF.bxc 0 rfl 2)) rfl ?_
  refine lxE_v (hS.pick [0, 2, 3] (by decide) rfl) rfl rfl (fun w hF => OpV_ldBs (us := [vI x_4.1, v64 x_57, vS x_58, vI 0]) Tryd.underlying42 rfl sz42 rfl (hF.bxs 2 rfl rfl)) rfl ?_
  refine lxE_x (hS.pick [0, 2, 3] (by decide) rfl) rfl rfl (OpX_litE (e := (eP eI (eP e64 (eP eS eI)))) (l := ([(x_4.1, x_57, x_58, 0)] : List (Int × UInt64 × (List UInt8) × Int))) (vs := [(0, .agg #[vI x_4.1, v64 x_57, vS x_58, vI 0], [vI x_4.1, v64 x_57, vS x_58, vI 0])]) Tryd.underlying37 ti42 rfl ⟨rfl, trivial⟩ rfl rfl (Nat.le_of_ble_eq_true rfl) (Nat.le_of_ble_eq_true rfl) hS) rfl ?_
  rintro v_60 w hS
  obtain ⟨x_62, hx_62, h⟩ := obind_some h
  refine lxE_x (hS.pick [1, 3, 4] (by decide) rfl) rfl rfl (G_append Tryd.underlying37 ti42 rfl rfl rfl hS (i := 2) rfl (hS.ro 0 rfl) hx_62) rfl ?_
  rintro v_63 w hS
  refine lxE_v (hS.pick [1, 3, 4] (by decide) rfl) rfl rfl (fun w hF => OpV_nilB rfl) rfl ?_
  refine lxE_v (hS.pick [1, 3, 4] (by decide) rfl) rfl rfl (fun w hF => OpV_fieldB (k := 2) Tryd.underlying72 rfl rfl nz37 rfl) rfl ?_
  refine lxE_y (hS.pick [1, 3, 4] (by decide) rfl) rfl rfl (OpY_stB (i := 1) (us := [v_63]) rfl sz37 rfl rfl (cells_one (hS.ro 2 rfl).one) ⟨(hS.ro 2 rfl).one, trivial⟩ rfl hS) ?_
  intro w hS
  replace hS : St _ w0 w [own (eP eI (eP e64 (eP eS eI))) v_60 ([(x_4.1, x_57, x_58, 0)] : List (Int × UInt64 × (List UInt8) × Int)), OE.bx ba0 [va0_0, vI x_56, v_63, v_9], own (eP eI (eP e64 (eP eS eI))) v_63 x_62, own (eP eI (eP eI (eP e64 (eP eB (eP eI (eW va0_0)))))) v_9 x_4.2.2.2.2.2, OE.bx b_15 [vI x_4.1, v64 x_57, vS x_58, vI 0]] := hS
  refine lxE_nil trivial ?_
  refine QE_then_n (wpC_seq (wpC_region (wpR_run 1 rfl ?_)))
  have hG := hS.pick (os' := [OE.bx ba0 [va0_0, vI x_56, v_63, v_9], own (eP eI (eP e64 (eP eS eI))) v_63 x_62, own (eP eI (eP eI (eP e64 (eP eB (eP eI (eW va0_0)))))) v_9 x_4.2.2.2.2.2] ++ [own (eP eI (eP e64 (eP eS eI))) v_60 ([(x_4.1, x_57, x_58, 0)] : List (Int × UInt64 × (List UInt8) × Int)), OE.bx b_15 [vI x_4.1, v64 x_57, vS x_58, vI 0]]) [1, 2, 3, 0, 4] (by decide) rfl
  obtain ⟨x_65, hx_65, h⟩ := obind_some h
  refine wpR_call (by kernel_rfl) rfl (c_cbor_reader_done _ a0_0 x_56 x_62 x_4.2.2.2.2.2 va0_0 v_63 v_9 ba0 _ hG.give (ha0_0.give (Nat.le_of_ble_eq_true rfl) hG) _ hx_65) rfl ?_
  rintro _ w ⟨u_66, v_68, v_70, rfl, hO_67, hS1⟩
  cases hc_72 : x_65.1 with
  | none =>
   have h := ocase_n h hc_72
   rw [hc_72] at hO_67 hS1
   simp only [Option.map_none, oval] at hO_67
   subst hO_67
   simp only [Option.map_none, oent, List.nil_append] at hS1
   have hS := hG.back hS1
   simp only [List.cons_append, List.nil_append] at hS
   refine wpR_run 1 rfl ?_
   refine wpR_nil (QE_then_n (wpC_ret ?_))
   cases h
   exact QE_ret1 rfl rfl ⟨.pointer none, v_68, v_70, rfl, rfl, hS.pick [0, 1, 2] (by decide) rfl⟩
  | some x_73 =>
   have h := ocase_s h hc_72
   rw [hc_72] at hO_67 hS1
   simp only [Option.map_some, oval] at hO_67
   obtain ⟨b_74, rfl⟩ := hO_67
   simp only [Option.map_some, oent, List.singleton_append, List.cons_append, List.nil_append] at hS1
   have hS := hG.back hS1
   simp only [List.cons_append, List.nil_append] at hS
   refine wpR_run 1 rfl ?_
   refine wpR_nil (QE_then_n (wpC_ret ?_))
   cases h
   exact QE_ret1 rfl rfl ⟨pB b_74 0, v_68, v_70, rfl, ⟨_, rfl⟩, hS.pick [0, 1, 2, 3] (by decide) rfl⟩
 | some x_12 =>
  have h := ocase_s h hc_11
  rw [hc_11] at hO_6 hS1
  simp only [Option.map_some, oval] at hO_6
  obtain ⟨b_13, rfl⟩ := hO_6
  simp only [Option.map_some, oent, List.singleton_append, List.cons_append, List.nil_append] at hS1
  have hS := hG.back hS1
  simp only [List.cons_append, List.nil_append] at hS
  refine wpR_run 7 rfl ?_
  refine wpR_nil (QE_then_n (wpC_seq (wpC_seq (wpC_region (wpR_run 1 rfl ?_)))))
  refine wpR_v (OpV_bin rfl rfl (b_pneN Tryd.underlying73 b_13 0)) rfl ?_
  refine wpR_nil (QE_then_n (wpC_condT rfl ?_))
  refine wpC_seq (wpC_region (wpR_run 2 rfl ?_))
  refine wpR_nil (QE_then_n (wpC_ret (QE_then_r ?_)))
  cases h
  exact QE_ret1 rfl rfl ⟨pB b_13 0, v_7, v_9, rfl, ⟨_, rfl⟩, hS.pick [0, 1, 2, 3] (by decide) rfl⟩
theorem c_cbor_Parse (w0 : World) (a0 : List UInt8) (va0 : Value) (hT : TB [] w0) (ha0 : RP [] w0 e8 va0 a0) (r : List (Int × UInt64 × (List UInt8) × Int) × Int × Int)
  (h : F.cbor_Parse a0 = some r) : Calls Tryd.prog 15 #[va0] w0 (Ret fun v w => ∃ u0 : Value, v = .tuple #[u0, vI r.2.1, vI r.2.2] ∧ St [] w0 w [own (eP eI (eP e64 (eP eS eI))) u0 r.1]) := by
 refine calls_at 95 Tryd.func15 rfl rfl rfl ?_
 have hS := St.start w0
 refine wpC_le [(0, va0)] ⟨rfl, trivial⟩ ?_
 unfold F.cbor_Parse at h
 refine wpC_seq (wpC_region (wpR_run 3 rfl ?_))
 refine wpR_nil (QE_then_n (wpC_seq (wpC_seq (wpC_region (wpR_run 1 rfl ?_)))))
 refine wpR_v (OpV_len Tryd.underlying22 rfl (ha0.now hS.fr)) rfl ?_
 refine wpR_run 1 rfl ?_
 refine wpR_nil (QE_then_n ?_)
 refine wpC_cond rfl (fun hb_55 => ?_) (fun hb_55 => ?_)
 ·have h := if_t h hb_55
  refine wpC_seq (wpC_region (wpR_run 3 rfl ?_))
  refine wpR_nil (QE_then_n (wpC_ret (QE_then_r ?_)))
  cases h
  exact QE_ret3 rfl rfl rfl rfl ⟨.slice none 0 0, rfl, (hS.nil (eP eI (eP e64 (eP eS eI)))).pick [0] (by decide) rfl⟩
 have h := if_f h hb_55
 refine wpC_skip (QE_then_n (wpC_seq (wpC_region (wpR_run 1 rfl ?_))))
 refine wpR_v (OpV_build (vs := [(0, va0, [va0])]) (cells := [va0, vI 0, .slice none 0 0, .slice none 0 0]) rfl lay72 ⟨(cells_one (ha0.now hS.fr).one), trivial⟩ rfl) rfl ?_
 refine wpR_x (OpX_box (cs := [va0, vI 0, .slice none 0 0, .slice none 0 0]) rfl rfl hS) rfl ?_
 rintro _ w ⟨b_1, rfl, hS⟩
 refine wpR_run 1 rfl ?_
 refine wpR_nil (QE_then_n (wpC_seq (wpC_block ?_)))
 refine wpC_le [(0, va0), (5, pB b_1 0)] ⟨rfl, rfl, trivial⟩ ?_
 refine loop_ind (F.cbor_Parse_L1 a0) (fun (s : Int × (List (Int × UInt64 × (List UInt8) × Int)) × (List (Int × Int × UInt64 × Bool × Int × Option (Nat × Nat)))) L w => ∃ (v_5 : Value) (v_8 : Value), L = [(0, va0), (5, pB b_1 0)] ∧ St [] w0 w [own (eP eI (eP e64 (eP eS eI))) v_5 s.2.1, own (eP eI (eP eI (eP e64 (eP eB (eP eI (eW va0)))))) v_8 s.2.2, OE.bx b_1 [va0, vI s.1, v_5, v_8]]) ?_ (0, [], []) ⟨.slice none 0 0, .slice none 0 0, rfl, (((hS.nil (eP eI (eP e64 (eP eS eI)))).nil (eP eI (eP eI (eP e64 (eP eB (eP eI (eW va0))))))).pick [1, 0, 2] (by decide) rfl)⟩ h
 rintro k_54 ⟨x_3, x_4, x_7⟩ L w q_12 hI ih_11 h hk_10
 try dsimp only at hI
 obtain ⟨v_5, v_8, rfl, hS⟩ := hI
 unfold F.cbor_Parse_L1 at h
 refine wpC_block ?_
 refine wpC_seq (wpC_seq (wpC_region (wpR_run 1 rfl ?_)))
 have hG := hS.pick (os' := [OE.bx b_1 [va0, vI x_3, v_5, v_8], own (eP eI (eP e64 (eP eS eI))) v_5 x_4, own (eP eI (eP eI (eP e64 (eP eB (eP eI (eW va0)))))) v_8 x_7] ++ []) [2, 0, 1] (by decide) rfl
 obtain ⟨x_13, hx_13, h⟩ := obind_some h
 refine wpR_call (by kernel_rfl) rfl (c_cbor_reader_item _ a0 x_3 x_4 x_7 va0 v_5 v_8 b_1 _ hG.give (hT.give hG) (ha0.give (Nat.le_of_ble_eq_true rfl) hG) _ hx_13) rfl ?_
 rintro _ w ⟨u_14, v_16, v_18, rfl, hO_15, hS1⟩
 cases hc_20 : x_13.1 with
 | none =>
  have h := ocase_n h hc_20
  rw [hc_20] at hO_15 hS1
  simp only [Option.map_none, oval] at hO_15
  subst hO_15
  simp only [Option.map_none, oent, List.nil_append] at hS1
  have hS := hG.back hS1
  simp only [List.cons_append, List.nil_append] at hS
  refine wpR_run 1 rfl ?_
  refine wpR_nil (QE_then_n (wpC_seq (wpC_region (wpR_run 1 rfl ?_))))
  refine wpR_v (OpV_bin rfl rfl (b_pnnN Tryd.underlying73)) rfl ?_
  refine wpR_nil (QE_then_n (wpC_condF rfl ?_))
  refine wpC_skip (QE_then_n (wpC_seq (wpC_block ?_)))
  refine wpC_le [(0, va0), (5, pB b_1 0)] ⟨rfl, rfl, trivial⟩ ?_
  refine loop_ind (F.cbor_Parse_L2 a0) (fun (s : Int × (List (Int × UInt64 × (List UInt8) × Int)) × (List (Int × Int × UInt64 × Bool × Int × Option (Nat × Nat)))) L w => ∃ (v_26 : Value) (v_29 : Value), L = [(0, va0), (5, pB b_1 0)] ∧ St [] w0 w [own (eP eI (eP e64 (eP eS eI))) v_26 s.2.1, own (eP eI (eP eI (eP e64 (eP eB (eP eI (eW va0)))))) v_29 s.2.2, OE.bx b_1 [va0, vI s.1, v_26, v_29]]) ?_ (x_13.2.1, x_13.2.2.1, x_13.2.2.2) ⟨v_16, v_18, rfl, (hS.pick [1, 2, 0] (by decide) rfl)⟩ h
  rintro k_53 ⟨x_24, x_25, x_28⟩ L w q_33 hI ih_32 h hk_31
  try dsimp only at hI
  obtain ⟨v_26, v_29, rfl, hS⟩ := hI
  unfold F.cbor_Parse_L2 at h
  refine wpC_seq ?_
  refine seq_join (r := q_33) (fun (g : Bool) L w => L = [(0, va0), (5, pB b_1 0), (47, vB g)] ∧ St [] w0 w [OE.bx b_1 [va0, vI x_24, v_26, v_29], own (eP eI (eP e64 (eP eS eI))) v_26 x_25, own (eP eI (eP eI (eP e64 (eP eB (eP eI (eW va0)))))) v_29 x_28]) (F.cbor_Parse_K1 a0 x_24 x_25 x_28) ?_ ?_
  rotate_left
  ·intro hK_37
   refine wpC_regionT (fun w' => St [] w0 w' [own (eP eI (eP e64 (eP eS eI))) v_26 x_25, own (eP eI (eP eI (eP e64 (eP eB (eP eI (eW va0)))))) v_29 x_28, OE.bx b_1 [va0, vI x_24, v_26, v_29]]) (fun _ => true) hmix (fun _ _ _ hf => hf.2) (fun _ _ hf => hf) (by kernel_rfl) ?_
   have hS := hS.drew
   show lxE _ _ _ _ _ _ _ [0, 1, 2, 3, 4, 5, 6, 7, 8, 9, 10, 11, 12, 13, 14, 15, 16, 17, 18, 19, 20, 21] _ _
   refine lxE_v hS rfl rfl (fun w hF => OpV_move rfl) rfl ?_
   refine lxE_v hS rfl rfl (fun w hF => OpV_nilB rfl) rfl ?_
   refine lxE_v hS rfl rfl (fun w hF => OpV_fieldB (k := 3) Tryd.underlying72 rfl rfl nz70 rfl) rfl ?_
   refine lxE_v hS rfl rfl (fun w hF => OpV_ldB Tryd.underlying70 rfl rfl (hF.bxc 2 rfl 3)) rfl ?_
   refine lxE_v hS rfl rfl (fun w hF => OpV_len Tryd.underlying70 rfl (hF.ro 1 rfl)) rfl ?_
   refine lxE_v hS rfl rfl (fun w hF => OpV_bin rfl rfl (b_igtr _ (x_28.length : Int) 0)) rfl ?_
   refine lxE_v hS rfl rfl (fun w hF => OpV_move rfl) rfl ?_
   cases hb_34 : (decide ((0 : Int) < (x_28.length : Int)))
   case true =>
    have h := if_t h hb_34
    try simp only [hb_34]
    refine lxE_gv (t := 32) hS rfl rfl rfl rfl (fun w hF => OpV_move rfl) rfl ?_
    refine lxE_gv (t := 32) hS rfl rfl rfl rfl (fun w hF => OpV_nilB rfl) rfl ?_
    refine lxE_gv (t := 32) hS rfl rfl rfl rfl (fun w hF => OpV_fieldB (k := 3) Tryd.underlying72 rfl rfl nz70 rfl) rfl ?_
    refine lxE_gv (t := 32) hS rfl rfl rfl rfl (fun w hF => OpV_ldB Tryd.underlying70 rfl rfl (hF.bxc 2 rfl 3)) rfl ?_
    refine lxE_gv (t := 32) hS rfl rfl rfl rfl (fun w hF => OpV_move rfl) rfl ?_
    refine lxE_gv (t := 32) hS rfl rfl rfl rfl (fun w hF => OpV_nilB rfl) rfl ?_
    refine lxE_gv (t := 32) hS rfl rfl rfl rfl (fun w hF => OpV_fieldB (k := 3) Tryd.underlying72 rfl rfl nz70 rfl) rfl ?_
    refine lxE_gv (t := 32) hS rfl rfl rfl rfl (fun w hF => OpV_ldB Tryd.underlying70 rfl rfl (hF.bxc 2 rfl 3)) rfl ?_
    refine lxE_gv (t := 32) hS rfl rfl rfl rfl (fun w hF => OpV_len Tryd.underlying70 rfl (hF.ro 1 rfl)) rfl ?_
    refine lxE_gv (t := 32) hS rfl rfl rfl rfl (fun w hF => OpV_bin rfl rfl (b_isub _ (x_28.length : Int) 1)) rfl ?_
    obtain ⟨x_35, hx_35, h⟩ := obind_some h
    refine lxE_gv (t := 32) hS rfl rfl rfl rfl (fun w hF => G_ix Tryd.underlying70 ti78 rfl rfl (hF.ro 1 rfl) hx_35) rfl ?_
    refine lxE_gv (t := 32) hS rfl rfl rfl rfl (fun w hF => OpV_fieldE (k := 2) Tryd.underlying78 rfl rfl nz40 rfl) rfl ?_
    refine lxE_gv (t := 32) hS rfl rfl rfl rfl (fun w hF => G_loadF Tryd.underlying40 rfl rfl (hF.ro 1 rfl) hx_35 rfl rfl) rfl ?_
    refine lxE_gv (t := 32) hS rfl rfl rfl rfl (fun w hF => OpV_bin rfl rfl (b_eql64 _ x_35.2.2.1 0)) rfl ?_
    refine lxE_v hS rfl rfl (fun w hF => OpV_pickT rfl rfl) rfl ?_
    refine lxE_nil hS ?_
    refine QE_then_n ?_
    exact wpC_le _ (by exact ⟨rfl, rfl, rfl, trivial⟩) (hK_37 (x_35.2.2.1 == 0) _ _ ⟨rfl, (hS.pick [2, 0, 1] (by decide) rfl)⟩ h)
   case false =>
    have h := if_f h hb_34
    try simp only [hb_34]
    refine lxE_gskip (b := false) (t := 32) hS rfl rfl rfl rfl rfl rfl ?_
    refine lxE_gskip (b := false) (t := 32) hS rfl rfl rfl rfl rfl rfl ?_
    refine lxE_gskip (b := false) (t := 32) hS rfl rfl rfl rfl rfl rfl ?_
    refine lxE_gskip (b := false) (t := 32) hS rfl rfl rfl rfl rfl rfl ?_
    refine lxE_gskip (b := false) (t := 32) hS rfl rfl rfl rfl rfl rfl ?_
    refine lxE_gskip (b := false) (t := 32) hS rfl rfl rfl rfl rfl rfl ?_
    refine lxE_gskip (b := false) (t := 32) hS rfl rfl rfl rfl rfl rfl ?_
    refine lxE_gskip (b := false) (t := 32) hS rfl rfl rfl rfl rfl rfl ?_
    refine lxE_gskip (b := false) (t := 32) hS rfl rfl rfl rfl rfl rfl ?_
    refine lxE_gskip (b := false) (t := 32) hS rfl rfl rfl rfl rfl rfl ?_
    refine lxE_gskip (b := false) (t := 32) hS rfl rfl rfl rfl rfl rfl ?_
    refine lxE_gskip (b := false) (t := 32) hS rfl rfl rfl rfl rfl rfl ?_
    refine lxE_gskip (b := false) (t := 32) hS rfl rfl rfl rfl rfl rfl ?_
    refine lxE_gskip (b := false) (t := 32) hS rfl rfl rfl rfl rfl rfl ?_
    refine lxE_v hS rfl rfl (fun w hF => OpV_pickF rfl rfl) rfl ?_
    refine lxE_nil hS ?_
    refine QE_then_n ?_
    exact wpC_le _ (by exact ⟨rfl, rfl, rfl, trivial⟩) (hK_37 false _ _ ⟨rfl, (hS.pick [2, 0, 1] (by decide) rfl)⟩ h)
  rintro x_36 L w hJ h
  try dsimp only at hJ
  obtain ⟨rfl, hS⟩ := hJ
  unfold F.cbor_Parse_K1 at h
  refine wpC_cond rfl (fun hb_52 => ?_) (fun hb_52 => ?_)
  ·have h := if_t h hb_52
   refine wpC_skip (QE_then_n (wpC_block ?_))
   refine wpC_seq ?_
   refine wpC_regionS (fun w' => St [] w0 w' [OE.bx b_1 [va0, vI x_24, v_26, v_29], own (eP eI (eP e64 (eP eS eI))) v_26 x_25, own (eP eI (eP eI (eP e64 (eP eB (eP eI (eW va0)))))) v_29 x_28]) (fun i => !([14].contains i)) hmix (fun _ _ _ hf => hf.2) (fun _ _ hf => hf) (by kernel_rfl) ?_
   have hS := hS.drew
   show lxE _ _ _ _ _ _ _ [0, 1, 2, 3, 4, 5, 6, 7, 8, 9, 10, 11, 12, 13, 14] _ _
   refine lxE_v hS rfl rfl (fun w hF => OpV_move rfl) rfl ?_
   refine lxE_v hS rfl rfl (fun w hF => OpV_move rfl) rfl ?_
   refine lxE_v hS rfl rfl (fun w hF => OpV_nilB rfl) rfl ?_
   refine lxE_v hS rfl rfl (fun w hF => OpV_fieldB (k := 3) Tryd.underlying72 rfl rfl nz70 rfl) rfl ?_
   refine lxE_v hS rfl rfl (fun w hF => OpV_ldB Tryd.underlying70 rfl rfl (hF.bxc 0 rfl 3)) rfl ?_
   refine lxE_v hS rfl rfl (fun w hF => OpV_move rfl) rfl ?_
   refine lxE_v hS rfl rfl (fun w hF => OpV_nilB rfl) rfl ?_
   refine lxE_v hS rfl rfl (fun w hF => OpV_fieldB (k := 3) Tryd.underlying72 rfl rfl nz70 rfl) rfl ?_
   refine lxE_v hS rfl rfl (fun w hF => OpV_ldB Tryd.underlying70 rfl rfl (hF.bxc 0 rfl 3)) rfl ?_
   refine lxE_v hS rfl rfl (fun w hF => OpV_len Tryd.underlying70 rfl (hF.ro 2 rfl)) rfl ?_
   refine lxE_v hS rfl rfl (fun w hF => OpV_bin rfl rfl (b_isub _ (x_28.length : Int) 1)) rfl ?_
   obtain ⟨hg_38, h⟩ := grd_some h
   refine lxE_v hS rfl rfl (fun w hF => G_slh Tryd.underlying70 ti78 rfl rfl (hF.ro 2 rfl) (tkO_of hg_38)) rfl ?_
   refine lxE_v hS rfl rfl (fun w hF => OpV_nilB rfl) rfl ?_
   refine lxE_v hS rfl rfl (fun w hF => OpV_fieldB (k := 3) Tryd.underlying72 rfl rfl nz70 rfl) rfl ?_
   refine lxE_y hS rfl rfl (OpY_stB (i := 0) (us := [slV v_29 (eP eI (eP eI (eP e64 (eP eB (eP eI (eW va0)))))).sz 0 ((wI ((x_28.length : Int) - 1) : Int).toNat)]) rfl sz70 rfl rfl (cells_one ((hS.ro 2 rfl).tk hg_38.2).one) ⟨((hS.ro 2 rfl).tk hg_38.2).one, trivial⟩ rfl hS) ?_
   intro w hS
   replace hS : St _ w0 w [OE.bx b_1 [va0, vI x_24, v_26, slV v_29 (eP eI (eP eI (eP e64 (eP eB (eP eI (eW va0)))))).sz 0 ((wI ((x_28.length : Int) - 1) : Int).toNat)], own (eP eI (eP e64 (eP eS eI))) v_26 x_25, own (eP eI (eP eI (eP e64 (eP eB (eP eI (eW va0)))))) v_29 x_28] := hS
   refine lxE_nil trivial ?_
   refine QE_then_n (wpC_seq (wpC_region (wpR_run 1 rfl ?_)))
   replace hS := hS.trunc (i := 2) rfl hg_38.2
   have hG := hS.pick (os' := [OE.bx b_1 [va0, vI x_24, v_26, slV v_29 (eP eI (eP eI (eP e64 (eP eB (eP eI (eW va0)))))).sz 0 ((wI ((x_28.length : Int) - 1) : Int).toNat)], own (eP eI (eP e64 (eP eS eI))) v_26 x_25, own (eP eI (eP eI (eP e64 (eP eB (eP eI (eW va0)))))) (slV v_29 (eP eI (eP eI (eP e64 (eP eB (eP eI (eW va0)))))).sz 0 ((wI ((x_28.length : Int) - 1) : Int).toNat)) (x_28.take ((wI ((x_28.length : Int) - 1) : Int).toNat))] ++ []) [0, 1, 2] (by decide) rfl
   obtain ⟨x_39, hx_39, h⟩ := obind_some h
   refine wpR_call (by kernel_rfl) rfl (c_cbor_reader_done _ a0 x_24 x_25 (x_28.take ((wI ((x_28.length : Int) - 1) : Int).toNat)) va0 v_26 (slV v_29 (eP eI (eP eI (eP e64 (eP eB (eP eI (eW va0)))))).sz 0 ((wI ((x_28.length : Int) - 1) : Int).toNat)) b_1 _ hG.give (ha0.give (Nat.le_of_ble_eq_true rfl) hG) _ hx_39) rfl ?_
   rintro _ w ⟨u_40, v_42, v_44, rfl, hO_41, hS1⟩
   cases hc_46 : x_39.1 with
   | none =>
    have h := ocase_n h hc_46
    rw [hc_46] at hO_41 hS1
    simp only [Option.map_none, oval] at hO_41
    subst hO_41
    simp only [Option.map_none, oent, List.nil_append] at hS1
    have hS := hG.back hS1
    simp only [List.cons_append, List.nil_append] at hS
    refine wpR_run 1 rfl ?_
    refine wpR_nil (QE_then_n (wpC_seq (wpC_region (wpR_run 1 rfl ?_))))
    refine wpR_v (OpV_bin rfl rfl (b_pnnN Tryd.underlying73)) rfl ?_
    refine wpR_nil (QE_then_n (wpC_condF rfl ?_))
    refine wpC_skip (QE_blk_n ?_)
    exact QE_rnd (wpN_le _ (by exact ⟨rfl, rfl, trivial⟩) (ih_32 (x_39.2.1, x_39.2.2.1, x_39.2.2.2) _ _ ⟨v_42, v_44, rfl, (hS.pick [1, 2, 0] (by decide) rfl)⟩ (oinl_some h hk_31)))
   | some x_47 =>
    have h := ocase_s h hc_46
    rw [hc_46] at hO_41 hS1
    simp only [Option.map_some, oval] at hO_41
    obtain ⟨b_48, rfl⟩ := hO_41
    simp only [Option.map_some, oent, List.singleton_append, List.cons_append, List.nil_append] at hS1
    have hS := hG.back hS1
    simp only [List.cons_append, List.nil_append] at hS
    refine wpR_run 1 rfl ?_
    refine wpR_nil (QE_then_n (wpC_seq (wpC_region (wpR_run 1 rfl ?_))))
    refine wpR_v (OpV_bin rfl rfl (b_pneN Tryd.underlying73 b_48 0)) rfl ?_
    refine wpR_nil (QE_then_n (wpC_condT rfl ?_))
    refine wpC_seq ?_
    refine wpC_regionT (fun w' => St [] w0 w' [OE.bx b_48 [vI x_47.1, vI x_47.2], OE.bx b_1 [va0, vI x_39.2.1, v_42, v_44], own (eP eI (eP e64 (eP eS eI))) v_42 x_39.2.2.1, own (eP eI (eP eI (eP e64 (eP eB (eP eI (eW va0)))))) v_44 x_39.2.2.2]) (fun _ => true) hmix (fun _ _ _ hf => hf.2) (fun _ _ hf => hf) (by kernel_rfl) ?_
    have hS := hS.drew
    show lxE _ _ _ _ _ _ _ [0, 1, 2, 3, 4, 5, 6, 7, 8, 9, 10] _ _
    refine lxE_v hS rfl rfl (fun w hF => OpV_move rfl) rfl ?_
    refine lxE_v hS rfl rfl (fun w hF => OpV_nilB rfl) rfl ?_
    refine lxE_v hS rfl rfl (fun w hF => OpV_fieldB (k := 0) Tryd.underlying76 rfl rfl nz30 rfl) rfl ?_
    refine lxE_v hS rfl rfl (fun w hF => OpV_ldB Tryd.underlying30 rfl rfl (hF.bxc 0 rfl 0)) rfl ?_
    refine lxE_v hS rfl rfl (fun w hF => OpV_move rfl) rfl ?_
    refine lxE_v hS rfl rfl (fun w hF => OpV_nilB rfl) rfl ?_
    refine lxE_v hS rfl rfl (fun w hF => OpV_fieldB (k := 1) Tryd.underlying76 rfl rfl nz3 rfl) rfl ?_
    refine lxE_v hS rfl rfl (fun w hF => OpV_ldB Tryd.underlying3 rfl rfl (hF.bxc 0 rfl 1)) rfl ?_
    refine lxE_v hS rfl rfl (fun w hF => OpV_assign rfl) rfl ?_
    refine lxE_v hS rfl rfl (fun w hF => OpV_assign rfl) rfl ?_
    refine lxE_v hS rfl rfl (fun w hF => OpV_assign rfl) rfl ?_
    refine lxE_nil hS ?_
    refine QE_then_n (wpC_ret (QE_blk_r ?_))
    refine QE_then_r ?_
    have h := oinr_some h hk_31
    refine QE_blk_r ?_
    refine QE_then_r (QE_blk_r ?_)
    refine QE_then_r ?_
    have h := oinr_some h hk_10
    refine QE_blk_r ?_
    refine QE_then_r ?_
    cases h
    exact QE_ret3 rfl rfl rfl rfl ⟨.slice none 0 0, rfl, (hS.nil (eP eI (eP e64 (eP eS eI)))).pick [0] (by decide) rfl⟩
  have h := if_f h hb_52
  refine wpC_exit ?_
  refine QE_then_x (QE_then_x ?_)
  have h := oinr_some h hk_31
  refine QE_blk_x ?_
  refine QE_then_n (wpC_seq (wpC_region (wpR_run 1 rfl ?_)))
  refine wpR_v (OpV_nilB rfl) rfl ?_
  refine wpR_v (OpV_fieldB (k := 3) Tryd.underlying72 rfl rfl nz70 rfl) rfl ?_
  refine wpR_v (OpV_ldB Tryd.underlying70 rfl rfl (hS.bxc 0 rfl 3)) rfl ?_
  refine wpR_v (OpV_len Tryd.underlying70 rfl (hS.ro 2 rfl)) rfl ?_
  refine wpR_run 1 rfl ?_
  refine wpR_nil (QE_then_n ?_)
  refine wpC_cond rfl (fun hb_51 => ?_) (fun hb_51 => ?_)
  ·have h := if_t h hb_51
   refine wpC_exit ?_
   refine QE_blk_o rfl ?_
   refine QE_then_x ?_
   have h := oinr_some h hk_10
   refine QE_blk_x ?_
   refine QE_then_n (wpC_seq (wpC_seq (wpC_region (wpR_run 1 rfl ?_))))
   refine wpR_v (OpV_nilB rfl) rfl ?_
   refine wpR_v (OpV_fieldB (k := 1) Tryd.underlying72 rfl rfl nz3 rfl) rfl ?_
   refine wpR_v (OpV_ldB Tryd.underlying3 rfl rfl (hS.bxc 0 rfl 1)) rfl ?_
   refine wpR_run 1 rfl ?_
   refine wpR_v (OpV_len Tryd.underlying22 rfl (ha0.now hS.fr)) rfl ?_
   refine wpR_run 1 rfl ?_
   refine wpR_nil (QE_then_n ?_)
   refine wpC_cond rfl (fun hb_50 => ?_) (fun hb_50 => ?_)
   ·have h := if_t h hb_50
    refine wpC_seq ?_
    refine wpC_regionT (fun w' => St [] w0 w' [OE.bx b_1 [va0, vI x_24, v_26, v_29], own (eP eI (eP e64 (eP eS eI))) v_26 x_25, own (eP eI (eP eI (eP e64 (eP eB (eP eI (eW va0)))))) v_29 x_28]) (fun _ => true) hmix (fun _ _ _ hf => hf.2) (fun _ _ hf => hf) (by kernel_rfl) ?_
    have hS := hS.drew
    show lxE _ _ _ _ _ _ _ [0, 1, 2, 3, 4, 5, 6] _ _
    refine lxE_v hS rfl rfl (fun w hF => OpV_move rfl) rfl ?_
    refine lxE_v hS rfl rfl (fun w hF => OpV_nilB rfl) rfl ?_
    refine lxE_v hS rfl rfl (fun w hF => OpV_fieldB (k := 1) Tryd.underlying72 rfl rfl nz3 rfl) rfl ?_
    refine lxE_v hS rfl rfl (fun w hF => OpV_ldB Tryd.underlying3 rfl rfl (hF.bxc 0 rfl 1)) rfl ?_
    refine lxE_v hS rfl rfl (fun w hF => OpV_assign rfl) rfl ?_
    refine lxE_v hS rfl rfl (fun w hF => OpV_assign rfl) rfl ?_
    refine lxE_v hS rfl rfl (fun w hF => OpV_assign rfl) rfl ?_
    refine lxE_nil hS ?_
    refine QE_then_n (wpC_ret (QE_then_r ?_))
    cases h
    exact QE_ret3 rfl rfl rfl rfl ⟨.slice none 0 0, rfl, (hS.nil (eP eI (eP e64 (eP eS eI)))).pick [0] (by decide) rfl⟩
   have h := if_f h hb_50
   refine wpC_skip (QE_then_n (wpC_seq (wpC_region (wpR_run 1 rfl ?_))))
   refine wpR_v (OpV_nilB rfl) rfl ?_
   refine wpR_v (OpV_fieldB (k := 2) Tryd.underlying72 rfl rfl nz37 rfl) rfl ?_
   refine wpR_v (OpV_ldB Tryd.underlying37 rfl rfl (hS.bxc 0 rfl 2)) rfl ?_
   refine wpR_run 3 rfl ?_
   refine wpR_nil (QE_then_n (wpC_ret ?_))
   cases h
   exact QE_ret3 rfl rfl rfl rfl ⟨v_26, rfl, hS.pick [1] (by decide) rfl⟩
  have h := if_f h hb_51
  refine wpC_skip (QE_blk_n ?_)
  exact QE_rnd (wpN_le _ (by exact ⟨rfl, rfl, trivial⟩) (ih_11 (x_24, x_25, x_28) _ _ ⟨v_26, v_29, rfl, (hS.pick [1, 2, 0] (by decide) rfl)⟩ (oinl_some h hk_10)))
 | some x_21 =>
  have h := ocase_s h hc_20
  rw [hc_20] at hO_15 hS1
  simp only [Option.map_some, oval] at hO_15
  obtain ⟨b_22, rfl⟩ := hO_15
  simp only [Option.map_some, oent, List.singleton_append, List.cons_append, List.nil_append] at hS1
  have hS := hG.back hS1
  simp only [List.cons_append, List.nil_append] at hS
  refine wpR_run 1 rfl ?_
  refine wpR_nil (QE_then_n (wpC_seq (wpC_region (wpR_run 1 rfl ?_))))
  refine wpR_v (OpV_bin rfl rfl (b_pneN Tryd.underlying73 b_22 0)) rfl ?_
  refine wpR_nil (QE_then_n (wpC_condT rfl ?_))
  refine wpC_seq ?_
  refine wpC_regionT (fun w' => St [] w0 w' [OE.bx b_22 [vI x_21.1, vI x_21.2], OE.bx b_1 [va0, vI x_13.2.1, v_16, v_18], own (eP eI (eP e64 (eP eS eI))) v_16 x_13.2.2.1, own (eP eI (eP eI (eP e64 (eP eB (eP eI (eW va0)))))) v_18 x_13.2.2.2]) (fun _ => true) hmix (fun _ _ _ hf => hf.2) (fun _ _ hf => hf) (by kernel_rfl) ?_
  have hS := hS.drew
  show lxE _ _ _ _ _ _ _ [0, 1, 2, 3, 4, 5, 6, 7, 8, 9, 10] _ _
  refine lxE_v hS rfl rfl (fun w hF => OpV_move rfl) rfl ?_
  refine lxE_v hS rfl rfl (fun w hF => OpV_nilB rfl) rfl ?_
  refine lxE_v hS rfl rfl (fun w hF => OpV_fieldB (k := 0) Tryd.underlying76 rfl rfl nz30 rfl) rfl ?_
  refine lxE_v hS rfl rfl (fun w hF => OpV_ldB Tryd.underlying30 rfl rfl (hF.bxc 0 rfl 0)) rfl ?_
  refine lxE_v hS rfl rfl (fun w hF => OpV_move rfl) rfl ?_
  refine lxE_v hS rfl rfl (fun w hF => OpV_nilB rfl) rfl ?_
  refine lxE_v hS rfl rfl (fun w hF => OpV_fieldB (k := 1) Tryd.underlying76 rfl rfl nz3 rfl) rfl ?_
  refine lxE_v hS rfl rfl (fun w hF => OpV_ldB Tryd.underlying3 rfl rfl (hF.bxc 0 rfl 1)) rfl ?_
  refine lxE_v hS rfl rfl (fun w hF => OpV_assign rfl) rfl ?_
  refine lxE_v hS rfl rfl (fun w hF => OpV_assign rfl) rfl ?_
  refine lxE_v hS rfl rfl (fun w hF => OpV_assign rfl) rfl ?_
  refine lxE_nil hS ?_
  refine QE_then_n (wpC_ret (QE_then_r (QE_blk_r ?_)))
  refine QE_then_r ?_
  have h := oinr_some h hk_10
  refine QE_blk_r ?_
  refine QE_then_r ?_
  cases h
  exact QE_ret3 rfl rfl rfl rfl ⟨.slice none 0 0, rfl, (hS.nil (eP eI (eP e64 (eP eS eI)))).pick [0] (by decide) rfl⟩
end Go.Proofs
