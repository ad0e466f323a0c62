import Derived.Test.YtgjpaedgcpjigaaDoorYW0
import Derived.Test.YtgjpaedgcpjigaaDoorGkFref31
import Derived.Test.YtgjpaedgcpjigaaDoorYWref30d
set_option linter.unusedVariables false
set_option linter.unusedSimpArgs false
set_option linter.unusedVariables false
set_option maxRecDepth 4000
namespace Go.Proofs
open Go Go.RowKit Go.Gk
theorem c_ref31_value (w0 : World) (a0 : List (Int × UInt64 × (List UInt8) × Int)) (a1 : Int) (a2 : UInt64) (va0 : Value) (ha0 : RP [] w0 (eP eI (eP e64 (eP eS eI))) va0 a0) (r : Int)
  (h : F.ref31_value a0 a1 a2 = some r) : Calls Tryd.prog 48 #[va0, vI a1, v64 a2] w0 (Ret fun v w => v = vI r ∧ St [] w0 w []) := by
 refine calls_at 13 Tryd.func48 rfl rfl rfl ?_
 have hS := St.start w0
 refine wpC_le [(0, va0), (1, vI a1), (2, v64 a2)] ⟨rfl, rfl, rfl, trivial⟩ ?_
 unfold F.ref31_value at h
 refine wpC_seq (wpC_region (wpR_v (OpV_assign rfl) rfl (wpR_nil (QE_then_n (wpC_seq (wpC_region ?_))))))
 refine wpR_v (OpV_move rfl) rfl (wpR_v (OpV_move rfl) rfl (wpR_v (OpV_move rfl) rfl (wpR_v (OpV_build (vs := [(1, v64 a2, [v64 a2])]) (cells := [vI 0, v64 a2, vS [], vI 0]) rfl lay42 ⟨rfl, trivial⟩ rfl) rfl ?_)))
 refine wpR_x (OpX_litE (e := (eP eI (eP e64 (eP eS eI)))) (l := ([(0, a2, [], 0)] : List (Int × UInt64 × (List UInt8) × Int))) (vs := [(0, .agg #[vI 0, v64 a2, vS [], vI 0], [vI 0, v64 a2, vS [], vI 0])]) Tryd.underlying37 ti42 rfl ⟨rfl, trivial⟩ rfl rfl (Nat.le_of_ble_eq_true rfl) (Nat.le_of_ble_eq_true rfl) hS) rfl ?_
 rintro v_1 w hS
 obtain ⟨x_3, hx_3, h⟩ := obind_some h
 refine wpR_call (by kernel_rfl) rfl (c_ref30_Member _ a0 a1 ([(0, a2, [], 0)] : List (Int × UInt64 × (List UInt8) × Int)) va0 v_1  (ha0.now hS.fr).rp (hS.ro 0 rfl).rp _ hx_3) rfl ?_
 rintro _ w ⟨rfl, hS1⟩
 have hS := hS.call hS1
 simp only [List.cons_append, List.nil_append] at hS
 refine wpR_v (OpV_assign rfl) rfl (wpR_nil (QE_then_n (wpC_ret ?_)))
 cases h
 exact QE_ret1 rfl rfl ⟨rfl, hS.pick [] (by decide) rfl⟩
theorem c_ref31_kid (w0 : World) (a0 : List (Int × UInt64 × (List UInt8) × Int)) (a1 : Int) (va0 : Value) (ha0 : RP [] w0 (eP eI (eP e64 (eP eS eI))) va0 a0) (r : List UInt8 × Bool × Bool)
  (h : F.ref31_kid a0 a1 = some r) : Calls Tryd.prog 65 #[va0, vI a1] w0 (Ret fun v w => v = .tuple #[vS r.1, vB r.2.1, vB r.2.2] ∧ St [] w0 w []) := by
 refine calls_at 24 Tryd.func65 rfl rfl rfl ?_
 have hS := St.start w0
 refine wpC_le [(0, va0), (1, vI a1)] ⟨rfl, rfl, trivial⟩ ?_
 unfold F.ref31_kid at h
 refine wpC_seq (wpC_region (wpR_v (OpV_assign rfl) rfl (wpR_v (OpV_assign rfl) rfl (wpR_v (OpV_assign rfl) rfl (wpR_nil (QE_then_n ?_))))))
 refine wpC_seq (wpC_region (wpR_v (OpV_move rfl) rfl (wpR_v (OpV_move rfl) rfl ?_)))
 obtain ⟨x_1, hx_1, h⟩ := obind_some h
 refine wpR_call (by kernel_rfl) rfl (c_ref31_value _ a0 a1 4 va0  (ha0.now hS.fr).rp _ hx_1) rfl ?_
 rintro _ w ⟨rfl, hS1⟩
 have hS := hS.call hS1
 simp only [List.cons_append, List.nil_append] at hS
 refine wpR_v (OpV_assign rfl) rfl (wpR_nil (QE_then_n (wpC_seq (wpC_seq (wpC_region (wpR_v (OpV_move rfl) rfl ?_))))))
 refine wpR_v (OpV_bin rfl rfl (b_ilss _ x_1 0)) rfl ?_
 refine wpR_nil (QE_then_n ?_)
 refine wpC_cond rfl (fun hb_4 => ?_) (fun hb_4 => ?_)
 ·have h := if_t h hb_4
  refine wpC_seq (wpC_region (wpR_v (OpV_assign rfl) rfl (wpR_v (OpV_assign rfl) rfl (wpR_v (OpV_assign rfl) rfl (wpR_nil (QE_then_n ?_))))))
  refine wpC_ret (QE_then_r ?_)
  cases h
  exact QE_ret3 rfl rfl rfl rfl ⟨rfl, hS⟩
 ·have h := if_f h hb_4
  refine wpC_skip (QE_then_n (wpC_seq ?_))
  refine wpC_regionT (fun w' => St [] w0 w' []) (fun _ => true) hmix (fun _ _ _ hf => hf.2) (fun _ _ hf => hf) (by kernel_rfl) ?_
  have hS := hS.drew
  show lxE _ _ _ _ _ _ _ [0, 1, 2, 3, 4, 5, 6, 7, 8, 9, 10, 11, 12, 13] _ _
  refine lxE_v hS rfl rfl (fun w hF => OpV_move rfl) rfl ?_
  refine lxE_v hS rfl rfl (fun w hF => OpV_move rfl) rfl ?_
  obtain ⟨x_2, hx_2, h⟩ := obind_some h
  refine lxE_v hS rfl rfl (fun w hF => G_ix Tryd.underlying37 ti42 rfl rfl (ha0.now hF.fr) hx_2) rfl ?_
  refine lxE_v hS rfl rfl (fun w hF => OpV_fieldE (k := 2) Tryd.underlying42 rfl rfl nz9 rfl) rfl ?_
  refine lxE_v hS rfl rfl (fun w hF => G_loadF Tryd.underlying9 rfl rfl (ha0.now hF.fr) hx_2 rfl rfl) rfl ?_
  refine lxE_v hS rfl rfl (fun w hF => OpV_move rfl) rfl ?_
  refine lxE_v hS rfl rfl (fun w hF => OpV_move rfl) rfl ?_
  obtain ⟨x_3, hx_3, h⟩ := obind_some h
  refine lxE_v hS rfl rfl (fun w hF => G_ix Tryd.underlying37 ti42 rfl rfl (ha0.now hF.fr) hx_3) rfl ?_
  refine lxE_v hS rfl rfl (fun w hF => OpV_fieldE (k := 0) Tryd.underlying42 rfl rfl nz3 rfl) rfl ?_
  refine lxE_v hS rfl rfl (fun w hF => G_loadF Tryd.underlying3 rfl rfl (ha0.now hF.fr) hx_3 rfl rfl) rfl ?_
  refine lxE_v hS rfl rfl (fun w hF => OpV_bin rfl rfl (b_ieql _ x_3.1 2)) rfl ?_
  refine lxE_v hS rfl rfl (fun w hF => OpV_assign rfl) rfl ?_
  refine lxE_v hS rfl rfl (fun w hF => OpV_assign rfl) rfl ?_
  refine lxE_v hS rfl rfl (fun w hF => OpV_assign rfl) rfl ?_
  refine lxE_nil hS ?_
  refine QE_then_n (wpC_ret ?_)
  cases h
  exact QE_ret3 rfl rfl rfl rfl ⟨rfl, hS⟩
theorem c_ref31_alg (w0 : World) (a0_0 : Int) (a0_1 : UInt64) (a0_2 : List UInt8) (a0_3 : Int)   (r : Int)
  (h : F.ref31_alg a0_0 a0_1 a0_2 a0_3 = some r) : Calls Tryd.prog 66 #[.agg #[vI a0_0, v64 a0_1, vS a0_2, vI a0_3]] w0 (Ret fun v w => v = vI r ∧ St [] w0 w []) := by
 refine calls_at 32 Tryd.func66 rfl rfl rfl ?_
 have hS := St.start w0
 refine wpC_le [(0, .agg #[vI a0_0, v64 a0_1, vS a0_2, vI a0_3])] ⟨rfl, trivial⟩ ?_
 unfold F.ref31_alg at h
 refine wpC_seq (wpC_region (wpR_x (OpX_box (cs := [vI a0_0, v64 a0_1, vS a0_2, vI a0_3]) rfl rfl hS) rfl ?_))
 rintro _ w ⟨b_1, rfl, hS⟩
 refine wpR_v (OpV_assign rfl) rfl (wpR_nil (QE_then_n (wpC_seq (wpC_seq (wpC_region (wpR_v (OpV_fieldB (k := 0) Tryd.underlying42 rfl rfl nz3 rfl) rfl ?_))))))
 refine wpR_v (OpV_ldB Tryd.underlying3 rfl rfl (hS.bxc 0 rfl 0)) rfl ?_
 refine wpR_v (OpV_bin rfl rfl (b_ineq _ a0_0 1)) rfl ?_
 refine wpR_nil (QE_then_n ?_)
 refine wpC_cond rfl (fun hb_16 => ?_) (fun hb_16 => ?_)
 ·have h := if_t h hb_16
  refine wpC_seq (wpC_region (wpR_v (OpV_assign rfl) rfl (wpR_nil (QE_then_n (wpC_ret (QE_then_r ?_))))))
  cases h
  exact QE_ret1 rfl rfl ⟨rfl, hS.pick [] (by decide) rfl⟩
 ·have h := if_f h hb_16
  refine wpC_skip (QE_then_n (wpC_seq (wpC_seq (wpC_region (wpR_v (OpV_fieldB (k := 1) Tryd.underlying42 rfl rfl nz40 rfl) rfl ?_)))))
  refine wpR_v (OpV_ldB Tryd.underlying40 rfl rfl (hS.bxc 0 rfl 1)) rfl ?_
  refine wpR_nil (QE_then_n (wpC_block ?_))
  refine wpC_seq (wpC_region (wpR_v (OpV_bin rfl rfl (b_eql64 _ a0_1 6)) rfl ?_))
  refine wpR_v (OpV_assign rfl) rfl (wpR_nil (QE_then_n ?_))
  refine wpC_cond rfl (fun hb_15 => ?_) (fun hb_15 => ?_)
  ·have h := if_t h hb_15
   refine wpC_seq (wpC_region (wpR_v (OpV_assign rfl) rfl (wpR_nil (QE_then_n (wpC_ret (QE_blk_r ?_))))))
   refine QE_then_r ?_
   cases h
   exact QE_ret1 rfl rfl ⟨rfl, hS.pick [] (by decide) rfl⟩
  ·have h := if_f h hb_15
   refine wpC_seq (wpC_region (wpR_v (OpV_bin rfl rfl (b_eql64 _ a0_1 34)) rfl ?_))
   refine wpR_v (OpV_assign rfl) rfl (wpR_nil (QE_then_n ?_))
   refine wpC_cond rfl (fun hb_14 => ?_) (fun hb_14 => ?_)
   ·have h := if_t h hb_14
    refine wpC_seq (wpC_region (wpR_v (OpV_assign rfl) rfl (wpR_nil (QE_then_n (wpC_ret (QE_blk_r ?_))))))
    refine QE_then_r ?_
    cases h
    exact QE_ret1 rfl rfl ⟨rfl, hS.pick [] (by decide) rfl⟩
   ·have h := if_f h hb_14
    refine wpC_seq (wpC_region (wpR_v (OpV_bin rfl rfl (b_eql64 _ a0_1 7)) rfl ?_))
    refine wpR_v (OpV_assign rfl) rfl (wpR_nil (QE_then_n ?_))
    refine wpC_cond rfl (fun hb_13 => ?_) (fun hb_13 => ?_)
    ·have h := if_t h hb_13
     refine wpC_seq (wpC_region (wpR_v (OpV_assign rfl) rfl (wpR_nil (QE_then_n (wpC_ret (QE_blk_r ?_))))))
     refine QE_then_r ?_
     cases h
     exact QE_ret1 rfl rfl ⟨rfl, hS.pick [] (by decide) rfl⟩
    ·have h := if_f h hb_13
     refine seq_join (r := r) (fun (g : Bool) L w => L = [(1, pB b_1 0), (7, v64 a0_1), (14, vB g)] ∧ St [] w0 w [OE.bx b_1 [vI a0_0, v64 a0_1, vS a0_2, vI a0_3]]) (F.ref31_alg_K1 a0_1) ?_ ?_
     ·rintro x_5 L w hJ h
      try dsimp only at hJ
      obtain ⟨rfl, hS⟩ := hJ
      unfold F.ref31_alg_K1 at h
      refine wpC_cond rfl (fun hb_12 => ?_) (fun hb_12 => ?_)
      ·have h := if_t h hb_12
       refine wpC_seq (wpC_region (wpR_v (OpV_fieldB (k := 1) Tryd.underlying42 rfl rfl nz40 rfl) rfl ?_))
       refine wpR_v (OpV_ldB Tryd.underlying40 rfl rfl (hS.bxc 0 rfl 1)) rfl ?_
       refine wpR_v (OpV_conv rfl (cv_64_i Tryd.underlying40 Tryd.underlying3 a0_1)) rfl ?_
       refine wpR_v (OpV_bin rfl rfl (b_iadd _ 7 (wI (a0_1.toNat : Int)))) rfl ?_
       refine wpR_v (OpV_bin rfl rfl (b_isub _ (wI (7 + (wI (a0_1.toNat : Int)))) 36)) rfl ?_
       refine wpR_v (OpV_assign rfl) rfl (wpR_nil (QE_then_n (wpC_ret (QE_blk_r ?_))))
       refine QE_then_r ?_
       cases h
       exact QE_ret1 rfl rfl ⟨rfl, hS.pick [] (by decide) rfl⟩
      ·have h := if_f h hb_12
       refine seq_join (r := r) (fun (g : Bool) L w => L = [(1, pB b_1 0), (23, vB g)] ∧ St [] w0 w [OE.bx b_1 [vI a0_0, v64 a0_1, vS a0_2, vI a0_3]]) (F.ref31_alg_K2 a0_1) ?_ ?_
       ·rintro x_9 L w hJ h
        try dsimp only at hJ
        obtain ⟨rfl, hS⟩ := hJ
        unfold F.ref31_alg_K2 at h
        refine wpC_cond rfl (fun hb_11 => ?_) (fun hb_11 => ?_)
        ·have h := if_t h hb_11
         refine wpC_seq (wpC_region (wpR_v (OpV_fieldB (k := 1) Tryd.underlying42 rfl rfl nz40 rfl) rfl ?_))
         refine wpR_v (OpV_ldB Tryd.underlying40 rfl rfl (hS.bxc 0 rfl 1)) rfl ?_
         refine wpR_v (OpV_conv rfl (cv_64_i Tryd.underlying40 Tryd.underlying3 a0_1)) rfl ?_
         refine wpR_v (OpV_bin rfl rfl (b_iadd _ 4 (wI (a0_1.toNat : Int)))) rfl ?_
         refine wpR_v (OpV_bin rfl rfl (b_isub _ (wI (4 + (wI (a0_1.toNat : Int)))) 256)) rfl ?_
         refine wpR_v (OpV_assign rfl) rfl (wpR_nil (QE_then_n (wpC_ret (QE_blk_r ?_))))
         refine QE_then_r ?_
         cases h
         exact QE_ret1 rfl rfl ⟨rfl, hS.pick [] (by decide) rfl⟩
        ·have h := if_f h hb_11
         refine wpC_skip (QE_blk_n ?_)
         refine QE_then_n (wpC_seq (wpC_region (wpR_v (OpV_assign rfl) rfl (wpR_nil (QE_then_n (wpC_ret ?_))))))
         cases h
         exact QE_ret1 rfl rfl ⟨rfl, hS.pick [] (by decide) rfl⟩
       ·intro hK_10
        refine wpC_seq (wpC_region (wpR_v (OpV_bin rfl rfl (b_eql64 _ a0_1 256)) rfl ?_))
        refine wpR_v (OpV_assign rfl) rfl (wpR_nil (QE_then_n ?_))
        refine wpC_cond rfl (fun hb_8 => ?_) (fun hb_8 => ?_)
        ·have h := if_t h hb_8
         refine wpC_skip (QE_then_n ?_)
         exact wpC_le _ (by exact ⟨rfl, rfl, trivial⟩) (hK_10 (a0_1 == 256) _ _ ⟨rfl, hS⟩ h)
        ·have h := if_f h hb_8
         refine wpC_seq (wpC_region (wpR_v (OpV_bin rfl rfl (b_eql64 _ a0_1 257)) rfl ?_))
         refine wpR_v (OpV_assign rfl) rfl (wpR_nil (QE_then_n ?_))
         refine wpC_cond rfl (fun hb_7 => ?_) (fun hb_7 => ?_)
         ·have h := if_t h hb_7
          refine wpC_skip (QE_then_n ?_)
          exact wpC_le _ (by exact ⟨rfl, rfl, trivial⟩) (hK_10 (a0_1 == 257) _ _ ⟨rfl, hS⟩ h)
         ·have h := if_f h hb_7
          refine wpC_region (wpR_v (OpV_bin rfl rfl (b_eql64 _ a0_1 258)) rfl ?_)
          refine wpR_v (OpV_assign rfl) rfl (wpR_nil (QE_then_n ?_))
          exact wpC_le _ (by exact ⟨rfl, rfl, trivial⟩) (hK_10 (a0_1 == 258) _ _ ⟨rfl, hS⟩ h)
     ·intro hK_6
      refine wpC_seq (wpC_region (wpR_v (OpV_bin rfl rfl (b_eql64 _ a0_1 36)) rfl ?_))
      refine wpR_v (OpV_assign rfl) rfl (wpR_nil (QE_then_n ?_))
      refine wpC_cond rfl (fun hb_4 => ?_) (fun hb_4 => ?_)
      ·have h := if_t h hb_4
       refine wpC_skip (QE_then_n ?_)
       exact wpC_le _ (by exact ⟨rfl, rfl, rfl, trivial⟩) (hK_6 (a0_1 == 36) _ _ ⟨rfl, hS⟩ h)
      ·have h := if_f h hb_4
       refine wpC_seq (wpC_region (wpR_v (OpV_bin rfl rfl (b_eql64 _ a0_1 37)) rfl ?_))
       refine wpR_v (OpV_assign rfl) rfl (wpR_nil (QE_then_n ?_))
       refine wpC_cond rfl (fun hb_3 => ?_) (fun hb_3 => ?_)
       ·have h := if_t h hb_3
        refine wpC_skip (QE_then_n ?_)
        exact wpC_le _ (by exact ⟨rfl, rfl, rfl, trivial⟩) (hK_6 (a0_1 == 37) _ _ ⟨rfl, hS⟩ h)
       ·have h := if_f h hb_3
        refine wpC_region (wpR_v (OpV_bin rfl rfl (b_eql64 _ a0_1 38)) rfl ?_)
        refine wpR_v (OpV_assign rfl) rfl (wpR_nil (QE_then_n ?_))
        exact wpC_le _ (by exact ⟨rfl, rfl, rfl, trivial⟩) (hK_6 (a0_1 == 38) _ _ ⟨rfl, hS⟩ h)
theorem c_ref31_split (w0 : World) (a0 : List (Int × UInt64 × (List UInt8) × Int)) (va0 : Value) (ha0 : RP [] w0 (eP eI (eP e64 (eP eS eI))) va0 a0) (r : List UInt8 × List UInt8 × List UInt8 × List UInt8 × Int × Int)
  (h : F.ref31_split a0 = some r) : Calls Tryd.prog 49 #[va0] w0 (Ret fun v w => v = .tuple #[.agg #[vS r.1, vS r.2.1, vS r.2.2.1, vS r.2.2.2.1, vI r.2.2.2.2.1], vI r.2.2.2.2.2] ∧ St [] w0 w []) := by
 refine calls_at 183 Tryd.func49 rfl rfl rfl ?_
 have hS := St.start w0
 refine wpC_le [(0, va0)] ⟨rfl, trivial⟩ ?_
 unfold F.ref31_split at h
 refine wpC_seq (wpC_region (wpR_x (OpX_alloc (cs := [vS [], vS [], vS [], vS [], vI 0]) tz98 rfl hS) rfl ?_))
 rintro _ w ⟨b_1, rfl, hS⟩
 refine wpR_v (OpV_assign rfl) rfl (wpR_nil (QE_then_n (wpC_seq (wpC_region (wpR_v (OpV_assign rfl) rfl (wpR_nil ?_))))))
 refine QE_then_n ?_
 refine seq_join (r := r) (fun (g : Int) L w => L = [(0, va0), (2, pB b_1 0), (4, vI g)] ∧ St [] w0 w [OE.bx b_1 [vS [], vS [], vS [], vS [], vI 0]]) (F.ref31_split_K1 a0) ?_ ?_
 ·rintro x_9 L w hJ h
  try dsimp only at hJ
  obtain ⟨rfl, hS⟩ := hJ
  unfold F.ref31_split_K1 at h
  refine wpC_seq ?_
  refine seq_join (r := r) (fun (g : Bool) L w => L = [(0, va0), (2, pB b_1 0), (4, vI x_9), (62, vB g)] ∧ St [] w0 w [OE.bx b_1 [vS [], vS [], vS [], vS [], vI 0]]) (F.ref31_split_K2 a0 x_9) ?_ ?_
  ·rintro x_18 L w hJ h
   try dsimp only at hJ
   obtain ⟨rfl, hS⟩ := hJ
   unfold F.ref31_split_K2 at h
   refine wpC_cond rfl (fun hb_64 => ?_) (fun hb_64 => ?_)
   ·have h := if_t h hb_64
    refine wpC_seq (wpC_region (wpR_v (OpV_build (vs := []) (cells := [vS [], vS [], vS [], vS [], vI 0]) rfl lay98 trivial rfl) rfl ?_))
    refine wpR_y (OpY_stB (i := 0) (us := [vS [], vS [], vS [], vS [], vI 0]) rfl sz98 rfl rfl rfl ⟨rfl, rfl, rfl, rfl, rfl, trivial⟩ rfl hS) ?_
    intro w hS
    replace hS : St _ w0 w [OE.bx b_1 [vS [], vS [], vS [], vS [], vI 0]] := hS
    refine wpR_v (OpV_assign rfl) rfl (wpR_nil (QE_then_n (wpC_ret (QE_then_r ?_))))
    cases h
    exact QE_rv2 rfl ⟨_, rfl, run_ldAgg (us := [vS [], vS [], vS [], vS [], vI 0]) Tryd.underlying98 rfl sz98 (hS.bxs 0 rfl rfl)⟩ rfl ⟨rfl, hS.pick [] (by decide) rfl⟩
   ·have h := if_f h hb_64
    refine wpC_skip (QE_then_n (wpC_seq (wpC_region (wpR_v (OpV_move rfl) rfl (wpR_v (OpV_move rfl) rfl (wpR_v (OpV_bin rfl rfl (b_iadd _ x_9 2)) rfl ?_))))))
    obtain ⟨x_20, hx_20, h⟩ := obind_some h
    refine wpR_call (by kernel_rfl) rfl (c_ref30_Behind _ a0 (wI (x_9 + 2)) va0  (ha0.now hS.fr).rp _ hx_20) rfl ?_
    rintro _ w ⟨rfl, hS1⟩
    have hS := hS.call hS1
    simp only [List.cons_append, List.nil_append] at hS
    refine wpR_v (OpV_assign rfl) rfl (wpR_nil (QE_then_n (wpC_seq ?_)))
    refine seq_join (r := r) (fun (g : Bool) L w => L = [(0, va0), (2, pB b_1 0), (4, vI x_9), (5, vI x_20), (82, vB g)] ∧ St [] w0 w [OE.bx b_1 [vS [], vS [], vS [], vS [], vI 0]]) (F.ref31_split_K3 a0 x_9 x_20) ?_ ?_
    ·rintro x_24 L w hJ h
     try dsimp only at hJ
     obtain ⟨rfl, hS⟩ := hJ
     unfold F.ref31_split_K3 at h
     refine wpC_cond rfl (fun hb_63 => ?_) (fun hb_63 => ?_)
     ·have h := if_t h hb_63
      refine wpC_seq (wpC_region (wpR_v (OpV_build (vs := []) (cells := [vS [], vS [], vS [], vS [], vI 0]) rfl lay98 trivial rfl) rfl ?_))
      refine wpR_y (OpY_stB (i := 0) (us := [vS [], vS [], vS [], vS [], vI 0]) rfl sz98 rfl rfl rfl ⟨rfl, rfl, rfl, rfl, rfl, trivial⟩ rfl hS) ?_
      intro w hS
      replace hS : St _ w0 w [OE.bx b_1 [vS [], vS [], vS [], vS [], vI 0]] := hS
      refine wpR_v (OpV_assign rfl) rfl (wpR_nil (QE_then_n (wpC_ret (QE_then_r ?_))))
      cases h
      exact QE_rv2 rfl ⟨_, rfl, run_ldAgg (us := [vS [], vS [], vS [], vS [], vI 0]) Tryd.underlying98 rfl sz98 (hS.bxs 0 rfl rfl)⟩ rfl ⟨rfl, hS.pick [] (by decide) rfl⟩
     ·have h := if_f h hb_63
      refine wpC_skip (QE_then_n (wpC_seq ?_))
      refine wpC_regionS (fun w' => St [] w0 w' [OE.bx b_1 [vS [], vS [], vS [], vS [], vI 0]]) (fun i => !([18, 19].contains i)) hmix (fun _ _ _ hf => hf.2) (fun _ _ hf => hf) (by kernel_rfl) ?_
      have hS := hS.drew
      show lxE _ _ _ _ _ _ _ [0, 1, 2, 3, 4, 5, 6, 7, 8, 9, 10, 11, 12, 13, 14, 15, 16, 17, 18, 19] _ _
      refine lxE_v hS rfl rfl (fun w hF => OpV_move rfl) rfl ?_
      refine lxE_v hS rfl rfl (fun w hF => OpV_move rfl) rfl ?_
      refine lxE_v hS rfl rfl (fun w hF => OpV_bin rfl rfl (b_iadd _ x_9 1)) rfl ?_
      obtain ⟨x_26, hx_26, h⟩ := obind_some h
      refine lxE_v hS rfl rfl (fun w hF => G_ix Tryd.underlying37 ti42 rfl rfl (ha0.now hF.fr) hx_26) rfl ?_
      refine lxE_v hS rfl rfl (fun w hF => OpV_fieldE (k := 2) Tryd.underlying42 rfl rfl nz9 rfl) rfl ?_
      refine lxE_v hS rfl rfl (fun w hF => G_loadF Tryd.underlying9 rfl rfl (ha0.now hF.fr) hx_26 rfl rfl) rfl ?_
      refine lxE_v hS rfl rfl (fun w hF => OpV_move rfl) rfl ?_
      refine lxE_v hS rfl rfl (fun w hF => OpV_move rfl) rfl ?_
      obtain ⟨x_27, hx_27, h⟩ := obind_some h
      refine lxE_v hS rfl rfl (fun w hF => G_ix Tryd.underlying37 ti42 rfl rfl (ha0.now hF.fr) hx_27) rfl ?_
      refine lxE_v hS rfl rfl (fun w hF => OpV_fieldE (k := 2) Tryd.underlying42 rfl rfl nz9 rfl) rfl ?_
      refine lxE_v hS rfl rfl (fun w hF => G_loadF Tryd.underlying9 rfl rfl (ha0.now hF.fr) hx_27 rfl rfl) rfl ?_
      refine lxE_v hS rfl rfl (fun w hF => OpV_move rfl) rfl ?_
      refine lxE_v hS rfl rfl (fun w hF => OpV_move rfl) rfl ?_
      refine lxE_v hS rfl rfl (fun w hF => OpV_bin rfl rfl (b_iadd _ x_20 1)) rfl ?_
      obtain ⟨x_28, hx_28, h⟩ := obind_some h
      refine lxE_v hS rfl rfl (fun w hF => G_ix Tryd.underlying37 ti42 rfl rfl (ha0.now hF.fr) hx_28) rfl ?_
      refine lxE_v hS rfl rfl (fun w hF => OpV_fieldE (k := 2) Tryd.underlying42 rfl rfl nz9 rfl) rfl ?_
      refine lxE_v hS rfl rfl (fun w hF => G_loadF Tryd.underlying9 rfl rfl (ha0.now hF.fr) hx_28 rfl rfl) rfl ?_
      refine lxE_v hS rfl rfl (fun w hF => OpV_build (vs := [(0, vS x_26.2.2.1, [vS x_26.2.2.1]), (2, vS x_27.2.2.1, [vS x_27.2.2.1]), (3, vS x_28.2.2.1, [vS x_28.2.2.1])]) (cells := [vS x_26.2.2.1, vS [], vS x_27.2.2.1, vS x_28.2.2.1, vI 0]) rfl lay98 ⟨rfl, rfl, rfl, trivial⟩ rfl) rfl ?_
      refine lxE_x hS rfl rfl (OpX_alloc (cs := [vS [], vS [], vS [], vS [], vI 0]) tz98 rfl hS) rfl ?_
      rintro _ w ⟨b_29, rfl, hS⟩
      refine lxE_y (hS.pick [1] (by decide) rfl) rfl rfl (OpY_stB (i := 0) (us := [vS x_26.2.2.1, vS [], vS x_27.2.2.1, vS x_28.2.2.1, vI 0]) rfl sz98 rfl rfl rfl ⟨rfl, rfl, rfl, rfl, rfl, trivial⟩ rfl hS) ?_
      intro w hS
      replace hS : St _ w0 w [OE.bx b_29 [vS x_26.2.2.1, vS [], vS x_27.2.2.1, vS x_28.2.2.1, vI 0], OE.bx b_1 [vS [], vS [], vS [], vS [], vI 0]] := hS
      refine lxE_nil trivial ?_
      refine QE_then_n (wpC_seq (wpC_region (wpR_v (OpV_fieldB (k := 0) Tryd.underlying98 rfl rfl nz9 rfl) rfl ?_)))
      refine wpR_v (OpV_ldB Tryd.underlying9 rfl rfl (hS.bxc 0 rfl 0)) rfl ?_
      refine wpR_x (OpX_bytes Tryd.underlying9 Tryd.underlying22 Tryd.underlying5 rfl hS) rfl ?_
      rintro v_31 w hS
      obtain ⟨x_33, hx_33, h⟩ := obind_some h
      refine wpR_call (by kernel_rfl) rfl (c_ref30_Parse _ x_26.2.2.1 v_31  (hS.rro 0 rfl).rp _ hx_33) rfl ?_
      rintro _ w ⟨v_34, rfl, hS1⟩
      have hS := hS.call hS1
      simp only [List.cons_append, List.nil_append] at hS
      refine wpR_v (OpV_move rfl) rfl (wpR_v (OpV_extract rfl rfl) rfl ?_)
      refine wpR_v (OpV_extract rfl rfl) rfl ?_
      refine wpR_v (OpV_extract rfl rfl) rfl ?_
      refine wpR_v (OpV_assign rfl) rfl (wpR_v (OpV_assign rfl) rfl (wpR_v (OpV_assign rfl) rfl (wpR_nil (QE_then_n (wpC_seq (wpC_seq ?_))))))
      refine wpC_region (wpR_v (OpV_move rfl) rfl (wpR_v (OpV_bin rfl rfl (b_ineq _ x_33.2.1 0)) rfl ?_))
      refine wpR_nil (QE_then_n ?_)
      refine wpC_cond rfl (fun hb_62 => ?_) (fun hb_62 => ?_)
      ·have h := if_t h hb_62
       refine wpC_seq (wpC_region (wpR_v (OpV_build (vs := []) (cells := [vS [], vS [], vS [], vS [], vI 0]) rfl lay98 trivial rfl) rfl ?_))
       refine wpR_v (OpV_move rfl) rfl (wpR_y (OpY_stB (i := 3) (us := [vS [], vS [], vS [], vS [], vI 0]) rfl sz98 rfl rfl rfl ⟨rfl, rfl, rfl, rfl, rfl, trivial⟩ rfl hS) ?_)
       intro w hS
       replace hS : St _ w0 w [own (eP eI (eP e64 (eP eS eI))) v_34 x_33.1, red e8 v_31 x_26.2.2.1, OE.bx b_29 [vS x_26.2.2.1, vS [], vS x_27.2.2.1, vS x_28.2.2.1, vI 0], OE.bx b_1 [vS [], vS [], vS [], vS [], vI 0]] := hS
       refine wpR_v (OpV_assign rfl) rfl (wpR_nil (QE_then_n (wpC_ret (QE_then_r ?_))))
       cases h
       exact QE_rv2 rfl ⟨_, rfl, run_ldAgg (us := [vS [], vS [], vS [], vS [], vI 0]) Tryd.underlying98 rfl sz98 (hS.bxs 3 rfl rfl)⟩ rfl ⟨rfl, hS.pick [] (by decide) rfl⟩
      ·have h := if_f h hb_62
       refine wpC_skip (QE_then_n (wpC_seq (wpC_region (wpR_v (OpV_move rfl) rfl ?_))))
       obtain ⟨x_36, hx_36, h⟩ := obind_some h
       refine wpR_call (by kernel_rfl) rfl (c_ref31_value _ x_33.1 0 1 v_34  (hS.ro 0 rfl).rp _ hx_36) rfl ?_
       rintro _ w ⟨rfl, hS1⟩
       have hS := hS.call hS1
       simp only [List.cons_append, List.nil_append] at hS
       refine wpR_v (OpV_assign rfl) rfl (wpR_nil (QE_then_n (wpC_seq (wpC_region (wpR_v (OpV_move rfl) rfl ?_)))))
       obtain ⟨x_37, hx_37, h⟩ := obind_some h
       refine wpR_call (by kernel_rfl) rfl (c_ref31_kid _ x_33.1 0 v_34  (hS.ro 0 rfl).rp _ hx_37) rfl ?_
       rintro _ w ⟨rfl, hS1⟩
       have hS := hS.call hS1
       simp only [List.cons_append, List.nil_append] at hS
       refine wpR_v (OpV_move rfl) rfl (wpR_v (OpV_extract rfl rfl) rfl ?_)
       refine wpR_v (OpV_extract rfl rfl) rfl ?_
       refine wpR_v (OpV_extract rfl rfl) rfl ?_
       refine wpR_v (OpV_assign rfl) rfl (wpR_v (OpV_assign rfl) rfl (wpR_v (OpV_assign rfl) rfl (wpR_nil (QE_then_n (wpC_seq (wpC_region ?_))))))
       refine wpR_v (OpV_assign rfl) rfl (wpR_nil (QE_then_n ?_))
       refine seq_join (r := r) (fun (g : Int) L w => L = [(0, va0), (2, pB b_1 0), (4, vI x_9), (6, pB b_29 0), (7, v_34), (10, vI x_36), (11, vS x_37.1), (12, vB x_37.2.1), (13, vB x_37.2.2), (14, vI g)] ∧ St [] w0 w [OE.bx b_1 [vS [], vS [], vS [], vS [], vI 0], OE.bx b_29 [vS x_26.2.2.1, vS [], vS x_27.2.2.1, vS x_28.2.2.1, vI 0], own (eP eI (eP e64 (eP eS eI))) v_34 x_33.1]) (F.ref31_split_K4 x_33 x_36 x_37 a0 x_9 x_26 x_27 x_28) ?_ ?_
       ·rintro x_39 L w hJ h
        try dsimp only at hJ
        obtain ⟨rfl, hS⟩ := hJ
        unfold F.ref31_split_K4 at h
        refine wpC_seq ?_
        refine seq_join (r := r) (fun (g : Bool) L w => L = [(0, va0), (2, pB b_1 0), (4, vI x_9), (6, pB b_29 0), (7, v_34), (10, vI x_36), (11, vS x_37.1), (12, vB x_37.2.1), (137, vB g)] ∧ St [] w0 w [OE.bx b_1 [vS [], vS [], vS [], vS [], vI 0], OE.bx b_29 [vS x_26.2.2.1, vS [], vS x_27.2.2.1, vS x_28.2.2.1, vI 0], own (eP eI (eP e64 (eP eS eI))) v_34 x_33.1]) (F.ref31_split_K5 a0 x_9 x_37 x_26 x_27 x_28 x_33 x_36) ?_ ?_
        ·rintro x_44 L w hJ h
         try dsimp only at hJ
         obtain ⟨rfl, hS⟩ := hJ
         unfold F.ref31_split_K5 at h
         refine wpC_cond rfl (fun hb_61 => ?_) (fun hb_61 => ?_)
         ·have h := if_t h hb_61
          refine wpC_seq (wpC_region (wpR_v (OpV_build (vs := []) (cells := [vS [], vS [], vS [], vS [], vI 0]) rfl lay98 trivial rfl) rfl ?_))
          refine wpR_y (OpY_stB (i := 0) (us := [vS [], vS [], vS [], vS [], vI 0]) rfl sz98 rfl rfl rfl ⟨rfl, rfl, rfl, rfl, rfl, trivial⟩ rfl hS) ?_
          intro w hS
          replace hS : St _ w0 w [OE.bx b_1 [vS [], vS [], vS [], vS [], vI 0], OE.bx b_29 [vS x_26.2.2.1, vS [], vS x_27.2.2.1, vS x_28.2.2.1, vI 0], own (eP eI (eP e64 (eP eS eI))) v_34 x_33.1] := hS
          refine wpR_v (OpV_assign rfl) rfl (wpR_nil (QE_then_n (wpC_ret (QE_then_r ?_))))
          cases h
          exact QE_rv2 rfl ⟨_, rfl, run_ldAgg (us := [vS [], vS [], vS [], vS [], vI 0]) Tryd.underlying98 rfl sz98 (hS.bxs 0 rfl rfl)⟩ rfl ⟨rfl, hS.pick [] (by decide) rfl⟩
         ·have h := if_f h hb_61
          refine wpC_skip (QE_then_n (wpC_seq (wpC_region (wpR_v (OpV_move rfl) rfl (wpR_v (OpV_move rfl) rfl (wpR_v (OpV_bin rfl rfl (b_iadd _ x_9 2)) rfl ?_))))))
          obtain ⟨x_46, hx_46, h⟩ := obind_some h
          refine wpR_call (by kernel_rfl) rfl (c_ref31_kid _ a0 (wI (x_9 + 2)) va0  (ha0.now hS.fr).rp _ hx_46) rfl ?_
          rintro _ w ⟨rfl, hS1⟩
          have hS := hS.call hS1
          simp only [List.cons_append, List.nil_append] at hS
          refine wpR_v (OpV_move rfl) rfl (wpR_v (OpV_extract rfl rfl) rfl ?_)
          refine wpR_v (OpV_extract rfl rfl) rfl ?_
          refine wpR_v (OpV_extract rfl rfl) rfl ?_
          refine wpR_v (OpV_assign rfl) rfl (wpR_v (OpV_assign rfl) rfl (wpR_v (OpV_assign rfl) rfl (wpR_nil (QE_then_n (wpC_seq (wpC_region ?_))))))
          refine wpR_v (OpV_assign rfl) rfl (wpR_nil (QE_then_n ?_))
          refine seq_join (r := r) (fun (g : Int) L w => L = [(0, va0), (2, pB b_1 0), (4, vI x_9), (6, pB b_29 0), (7, v_34), (10, vI x_36), (11, vS x_37.1), (12, vB x_37.2.1), (15, vS x_46.1), (16, vB x_46.2.1), (17, vB x_46.2.2), (18, vI g)] ∧ St [] w0 w [OE.bx b_1 [vS [], vS [], vS [], vS [], vI 0], OE.bx b_29 [vS x_26.2.2.1, vS [], vS x_27.2.2.1, vS x_28.2.2.1, vI 0], own (eP eI (eP e64 (eP eS eI))) v_34 x_33.1]) (F.ref31_split_K6 a0 x_9 x_37 x_46 x_26 x_27 x_28 x_33 x_36) ?_ ?_
          ·rintro x_48 L w hJ h
           try dsimp only at hJ
           obtain ⟨rfl, hS⟩ := hJ
           unfold F.ref31_split_K6 at h
           refine wpC_seq ?_
           refine seq_join (r := r) (fun (g : Bool) L w => L = [(2, pB b_1 0), (6, pB b_29 0), (7, v_34), (10, vI x_36), (11, vS x_37.1), (15, vS x_46.1), (166, vB g)] ∧ St [] w0 w [OE.bx b_1 [vS [], vS [], vS [], vS [], vI 0], OE.bx b_29 [vS x_26.2.2.1, vS [], vS x_27.2.2.1, vS x_28.2.2.1, vI 0], own (eP eI (eP e64 (eP eS eI))) v_34 x_33.1]) (F.ref31_split_K7 x_26 x_27 x_28 x_33 x_36 x_37 x_46) ?_ ?_
           ·rintro x_54 L w hJ h
            try dsimp only at hJ
            obtain ⟨rfl, hS⟩ := hJ
            unfold F.ref31_split_K7 at h
            refine wpC_cond rfl (fun hb_60 => ?_) (fun hb_60 => ?_)
            ·have h := if_t h hb_60
             refine wpC_seq (wpC_region (wpR_v (OpV_build (vs := []) (cells := [vS [], vS [], vS [], vS [], vI 0]) rfl lay98 trivial rfl) rfl ?_))
             refine wpR_y (OpY_stB (i := 0) (us := [vS [], vS [], vS [], vS [], vI 0]) rfl sz98 rfl rfl rfl ⟨rfl, rfl, rfl, rfl, rfl, trivial⟩ rfl hS) ?_
             intro w hS
             replace hS : St _ w0 w [OE.bx b_1 [vS [], vS [], vS [], vS [], vI 0], OE.bx b_29 [vS x_26.2.2.1, vS [], vS x_27.2.2.1, vS x_28.2.2.1, vI 0], own (eP eI (eP e64 (eP eS eI))) v_34 x_33.1] := hS
             refine wpR_v (OpV_assign rfl) rfl (wpR_nil (QE_then_n (wpC_ret (QE_then_r ?_))))
             cases h
             exact QE_rv2 rfl ⟨_, rfl, run_ldAgg (us := [vS [], vS [], vS [], vS [], vI 0]) Tryd.underlying98 rfl sz98 (hS.bxs 0 rfl rfl)⟩ rfl ⟨rfl, hS.pick [] (by decide) rfl⟩
            ·have h := if_f h hb_60
             refine wpC_skip (QE_then_n (wpC_seq (wpC_region (wpR_v (OpV_move rfl) rfl (wpR_v (OpV_move rfl) rfl ?_)))))
             obtain ⟨x_56, hx_56, h⟩ := obind_some h
             refine wpR_v (OpV_bin rfl rfl (G_sadd _ hx_56)) rfl ?_
             refine wpR_v (OpV_fieldB (k := 1) Tryd.underlying98 rfl rfl nz9 rfl) rfl ?_
             refine wpR_y (OpY_stB (i := 1) (us := [vS x_56]) rfl sz9 rfl rfl rfl ⟨rfl, trivial⟩ rfl hS) ?_
             intro w hS
             replace hS : St _ w0 w [OE.bx b_1 [vS [], vS [], vS [], vS [], vI 0], OE.bx b_29 [vS x_26.2.2.1, vS x_56, vS x_27.2.2.1, vS x_28.2.2.1, vI 0], own (eP eI (eP e64 (eP eS eI))) v_34 x_33.1] := hS
             refine wpR_nil (QE_then_n (wpC_seq (wpC_region (wpR_v (OpV_move rfl) rfl (wpR_v (OpV_move rfl) rfl ?_)))))
             obtain ⟨x_57, hx_57, h⟩ := obind_some h
             refine wpR_v (G_ix Tryd.underlying37 ti42 rfl rfl (hS.ro 2 rfl) hx_57) rfl ?_
             refine wpR_v (G_loadW Tryd.underlying42 rfl sz42 rfl (hS.ro 2 rfl) hx_57) rfl ?_
             obtain ⟨x_58, hx_58, h⟩ := obind_some h
             refine wpR_call (by kernel_rfl) rfl (c_ref31_alg _ x_57.1 x_57.2.1 x_57.2.2.1 x_57.2.2.2    _ hx_58) rfl ?_
             rintro _ w ⟨rfl, hS1⟩
             have hS := hS.call hS1
             simp only [List.cons_append, List.nil_append] at hS
             refine wpR_v (OpV_fieldB (k := 4) Tryd.underlying98 rfl rfl nz50 rfl) rfl ?_
             refine wpR_y (OpY_stB (i := 1) (us := [vI x_58]) rfl sz50 rfl rfl rfl ⟨rfl, trivial⟩ rfl hS) ?_
             intro w hS
             replace hS : St _ w0 w [OE.bx b_1 [vS [], vS [], vS [], vS [], vI 0], OE.bx b_29 [vS x_26.2.2.1, vS x_56, vS x_27.2.2.1, vS x_28.2.2.1, vI x_58], own (eP eI (eP e64 (eP eS eI))) v_34 x_33.1] := hS
             refine wpR_nil (QE_then_n (wpC_seq (wpC_seq (wpC_region (wpR_v (OpV_fieldB (k := 4) Tryd.underlying98 rfl rfl nz50 rfl) rfl ?_)))))
             refine wpR_v (OpV_ldB Tryd.underlying50 rfl rfl (hS.bxc 1 rfl 4)) rfl ?_
             refine wpR_v (OpV_bin rfl rfl (b_ieql _ x_58 0)) rfl ?_
             refine wpR_nil (QE_then_n ?_)
             refine wpC_cond rfl (fun hb_59 => ?_) (fun hb_59 => ?_)
             ·have h := if_t h hb_59
              refine wpC_seq (wpC_region (wpR_v (OpV_build (vs := []) (cells := [vS [], vS [], vS [], vS [], vI 0]) rfl lay98 trivial rfl) rfl ?_))
              refine wpR_y (OpY_stB (i := 0) (us := [vS [], vS [], vS [], vS [], vI 0]) rfl sz98 rfl rfl rfl ⟨rfl, rfl, rfl, rfl, rfl, trivial⟩ rfl hS) ?_
              intro w hS
              replace hS : St _ w0 w [OE.bx b_1 [vS [], vS [], vS [], vS [], vI 0], OE.bx b_29 [vS x_26.2.2.1, vS x_56, vS x_27.2.2.1, vS x_28.2.2.1, vI x_58], own (eP eI (eP e64 (eP eS eI))) v_34 x_33.1] := hS
              refine wpR_v (OpV_assign rfl) rfl (wpR_nil (QE_then_n (wpC_ret (QE_then_r ?_))))
              cases h
              exact QE_rv2 rfl ⟨_, rfl, run_ldAgg (us := [vS [], vS [], vS [], vS [], vI 0]) Tryd.underlying98 rfl sz98 (hS.bxs 0 rfl rfl)⟩ rfl ⟨rfl, hS.pick [] (by decide) rfl⟩
             ·have h := if_f h hb_59
              refine wpC_skip (QE_then_n (wpC_seq (wpC_region (wpR_v (OpV_ldBs (us := [vS x_26.2.2.1, vS x_56, vS x_27.2.2.1, vS x_28.2.2.1, vI x_58]) Tryd.underlying98 rfl sz98 rfl (hS.bxs 1 rfl rfl)) rfl ?_))))
              refine wpR_y (OpY_stB (i := 0) (us := [vS x_26.2.2.1, vS x_56, vS x_27.2.2.1, vS x_28.2.2.1, vI x_58]) rfl sz98 rfl rfl rfl ⟨rfl, rfl, rfl, rfl, rfl, trivial⟩ rfl hS) ?_
              intro w hS
              replace hS : St _ w0 w [OE.bx b_1 [vS x_26.2.2.1, vS x_56, vS x_27.2.2.1, vS x_28.2.2.1, vI x_58], OE.bx b_29 [vS x_26.2.2.1, vS x_56, vS x_27.2.2.1, vS x_28.2.2.1, vI x_58], own (eP eI (eP e64 (eP eS eI))) v_34 x_33.1] := hS
              refine wpR_v (OpV_assign rfl) rfl (wpR_nil (QE_then_n (wpC_ret ?_)))
              cases h
              exact QE_rv2 rfl ⟨_, rfl, run_ldAgg (us := [vS x_26.2.2.1, vS x_56, vS x_27.2.2.1, vS x_28.2.2.1, vI x_58]) Tryd.underlying98 rfl sz98 (hS.bxs 0 rfl rfl)⟩ rfl ⟨rfl, hS.pick [] (by decide) rfl⟩
           ·intro hK_55
            refine wpC_region (wpR_v (OpV_move rfl) rfl (wpR_v (OpV_un rfl (u_not x_46.2.2)) rfl ?_))
            refine wpR_v (OpV_move rfl) rfl ?_
            cases hb_50 : (!x_46.2.2)
            case true =>
             have h := if_t h hb_50
             try simp only [hb_50]
             refine wpR_gskip (b := true) (t := 150) rfl rfl rfl rfl ?_
             refine wpR_gskip (b := true) (t := 150) rfl rfl rfl rfl ?_
             refine wpR_gskip (b := true) (t := 150) rfl rfl rfl rfl ?_
             refine wpR_gskip (b := true) (t := 150) rfl rfl rfl rfl ?_
             refine wpR_gskip (b := true) (t := 150) rfl rfl rfl rfl ?_
             refine wpR_gskip (b := true) (t := 150) rfl rfl rfl rfl ?_
             refine wpR_gskip (b := true) (t := 150) rfl rfl rfl rfl ?_
             refine wpR_gskip (b := true) (t := 150) rfl rfl rfl rfl ?_
             refine wpR_gskip (b := true) (t := 150) rfl rfl rfl rfl ?_
             refine wpR_v (OpV_pickT rfl rfl) rfl (wpR_v (OpV_move rfl) rfl (wpR_gskip (b := true) (t := 161) rfl rfl rfl rfl ?_))
             refine wpR_gskip (b := true) (t := 161) rfl rfl rfl rfl ?_
             refine wpR_gskipU (t := 163) rfl rfl rfl ?_
             refine wpR_gskip (b := true) (t := 161) rfl rfl rfl rfl ?_
             refine wpR_v (OpV_pickT rfl rfl) rfl (wpR_nil (QE_then_n ?_))
             exact wpC_le _ (by exact ⟨rfl, rfl, rfl, rfl, rfl, rfl, rfl, trivial⟩) (hK_55 true _ _ ⟨rfl, hS⟩ h)
            case false =>
             have h := if_f h hb_50
             try simp only [hb_50]
             refine wpR_gv (t := 150) rfl rfl (OpV_move rfl) rfl ?_
             refine wpR_gv (t := 150) rfl rfl (OpV_move rfl) rfl ?_
             refine wpR_gv (t := 150) rfl rfl (OpV_bin rfl rfl (b_iadd _ x_9 2)) rfl ?_
             obtain ⟨x_51, hx_51, h⟩ := obind_some h
             refine wpR_gv (t := 150) rfl rfl (G_ix Tryd.underlying37 ti42 rfl rfl (ha0.now hS.fr) hx_51) rfl ?_
             refine wpR_gv (t := 150) rfl rfl (OpV_fieldE (k := 3) Tryd.underlying42 rfl rfl nz3 rfl) rfl ?_
             refine wpR_gv (t := 150) rfl rfl (G_loadF Tryd.underlying3 rfl rfl (ha0.now hS.fr) hx_51 rfl rfl) rfl ?_
             refine wpR_gv (t := 150) rfl rfl (OpV_move rfl) rfl ?_
             refine wpR_gv (t := 150) rfl rfl (OpV_bin rfl rfl (b_imul _ 2 x_48)) rfl ?_
             refine wpR_gv (t := 150) rfl rfl (OpV_bin rfl rfl (b_ineq _ x_51.2.2.2 (wI (2 * x_48)))) rfl ?_
             refine wpR_v (OpV_pickF rfl rfl) rfl (wpR_v (OpV_move rfl) rfl ?_)
             cases hb_52 : (x_51.2.2.2 != (wI (2 * x_48)))
             case true =>
              have h := if_t h hb_52
              try simp only [hb_52]
              refine wpR_gskip (b := true) (t := 161) rfl rfl rfl rfl ?_
              refine wpR_gskip (b := true) (t := 161) rfl rfl rfl rfl ?_
              refine wpR_gskipU (t := 163) rfl rfl rfl ?_
              refine wpR_gskip (b := true) (t := 161) rfl rfl rfl rfl ?_
              refine wpR_v (OpV_pickT rfl rfl) rfl (wpR_nil (QE_then_n ?_))
              exact wpC_le _ (by exact ⟨rfl, rfl, rfl, rfl, rfl, rfl, rfl, trivial⟩) (hK_55 true _ _ ⟨rfl, hS⟩ h)
             case false =>
              have h := if_f h hb_52
              try simp only [hb_52]
              refine wpR_gv (t := 161) rfl rfl (OpV_move rfl) rfl ?_
              refine wpR_gv (t := 161) rfl rfl (OpV_move rfl) rfl ?_
              cases hb_53 : x_37.2.1
              case true =>
               have h := if_t h hb_53
               try simp only [hb_53]
               refine wpR_gv (t := 163) rfl rfl (OpV_move rfl) rfl ?_
               refine wpR_gv (t := 161) rfl rfl (OpV_pickT rfl rfl) rfl ?_
               refine wpR_v (OpV_pickF rfl rfl) rfl (wpR_nil (QE_then_n ?_))
               exact wpC_le _ (by exact ⟨rfl, rfl, rfl, rfl, rfl, rfl, rfl, trivial⟩) (hK_55 x_46.2.1 _ _ ⟨rfl, hS⟩ h)
              case false =>
               have h := if_f h hb_53
               try simp only [hb_53]
               refine wpR_gskip (b := false) (t := 163) rfl rfl rfl rfl ?_
               refine wpR_gv (t := 161) rfl rfl (OpV_pickF rfl rfl) rfl ?_
               refine wpR_v (OpV_pickF rfl rfl) rfl (wpR_nil (QE_then_n ?_))
               exact wpC_le _ (by exact ⟨rfl, rfl, rfl, rfl, rfl, rfl, rfl, trivial⟩) (hK_55 false _ _ ⟨rfl, hS⟩ h)
          ·intro hK_49
           refine wpC_seq (wpC_region (wpR_v (OpV_move rfl) rfl (wpR_nil (QE_then_n ?_))))
           refine wpC_cond rfl (fun hb_47 => ?_) (fun hb_47 => ?_)
           ·have h := if_t h hb_47
            refine wpC_region (wpR_v (OpV_assign rfl) rfl (wpR_nil (QE_then_n ?_)))
            exact wpC_le _ (by exact ⟨rfl, rfl, rfl, rfl, rfl, rfl, rfl, rfl, rfl, rfl, rfl, rfl, trivial⟩) (hK_49 1 _ _ ⟨rfl, hS⟩ h)
           ·have h := if_f h hb_47
            refine wpC_skip (QE_then_n ?_)
            exact wpC_le _ (by exact ⟨rfl, rfl, rfl, rfl, rfl, rfl, rfl, rfl, rfl, rfl, rfl, rfl, trivial⟩) (hK_49 0 _ _ ⟨rfl, hS⟩ h)
        ·intro hK_45
         refine wpC_region (wpR_v (OpV_move rfl) rfl (wpR_v (OpV_bin rfl rfl (b_ilss _ x_36 0)) rfl ?_))
         refine wpR_v (OpV_move rfl) rfl ?_
         cases hb_41 : (decide (x_36 < 0))
         case true =>
          have h := if_t h hb_41
          try simp only [hb_41]
          refine wpR_gskip (b := true) (t := 125) rfl rfl rfl rfl ?_
          refine wpR_gskip (b := true) (t := 125) rfl rfl rfl rfl ?_
          refine wpR_v (OpV_pickT rfl rfl) rfl (wpR_v (OpV_move rfl) rfl (wpR_gskip (b := true) (t := 129) rfl rfl rfl rfl ?_))
          refine wpR_gskip (b := true) (t := 129) rfl rfl rfl rfl ?_
          refine wpR_gskip (b := true) (t := 129) rfl rfl rfl rfl ?_
          refine wpR_gskip (b := true) (t := 129) rfl rfl rfl rfl ?_
          refine wpR_gskip (b := true) (t := 129) rfl rfl rfl rfl ?_
          refine wpR_gskip (b := true) (t := 129) rfl rfl rfl rfl ?_
          refine wpR_gskip (b := true) (t := 129) rfl rfl rfl rfl ?_
          refine wpR_v (OpV_pickT rfl rfl) rfl (wpR_nil (QE_then_n ?_))
          exact wpC_le _ (by exact ⟨rfl, rfl, rfl, rfl, rfl, rfl, rfl, rfl, rfl, trivial⟩) (hK_45 true _ _ ⟨rfl, hS⟩ h)
         case false =>
          have h := if_f h hb_41
          try simp only [hb_41]
          refine wpR_gv (t := 125) rfl rfl (OpV_move rfl) rfl ?_
          refine wpR_gv (t := 125) rfl rfl (OpV_un rfl (u_not x_37.2.2)) rfl ?_
          refine wpR_v (OpV_pickF rfl rfl) rfl (wpR_v (OpV_move rfl) rfl ?_)
          cases hb_42 : (!x_37.2.2)
          case true =>
           have h := if_t h hb_42
           try simp only [hb_42]
           refine wpR_gskip (b := true) (t := 129) rfl rfl rfl rfl ?_
           refine wpR_gskip (b := true) (t := 129) rfl rfl rfl rfl ?_
           refine wpR_gskip (b := true) (t := 129) rfl rfl rfl rfl ?_
           refine wpR_gskip (b := true) (t := 129) rfl rfl rfl rfl ?_
           refine wpR_gskip (b := true) (t := 129) rfl rfl rfl rfl ?_
           refine wpR_gskip (b := true) (t := 129) rfl rfl rfl rfl ?_
           refine wpR_gskip (b := true) (t := 129) rfl rfl rfl rfl ?_
           refine wpR_v (OpV_pickT rfl rfl) rfl (wpR_nil (QE_then_n ?_))
           exact wpC_le _ (by exact ⟨rfl, rfl, rfl, rfl, rfl, rfl, rfl, rfl, rfl, trivial⟩) (hK_45 true _ _ ⟨rfl, hS⟩ h)
          case false =>
           have h := if_f h hb_42
           try simp only [hb_42]
           refine wpR_gv (t := 129) rfl rfl (OpV_move rfl) rfl ?_
           obtain ⟨x_43, hx_43, h⟩ := obind_some h
           refine wpR_gv (t := 129) rfl rfl (G_ix Tryd.underlying37 ti42 rfl rfl (hS.ro 2 rfl) hx_43) rfl ?_
           refine wpR_gv (t := 129) rfl rfl (OpV_fieldE (k := 3) Tryd.underlying42 rfl rfl nz3 rfl) rfl ?_
           refine wpR_gv (t := 129) rfl rfl (G_loadF Tryd.underlying3 rfl rfl (hS.ro 2 rfl) hx_43 rfl rfl) rfl ?_
           refine wpR_gv (t := 129) rfl rfl (OpV_move rfl) rfl ?_
           refine wpR_gv (t := 129) rfl rfl (OpV_bin rfl rfl (b_imul _ 2 x_39)) rfl ?_
           refine wpR_gv (t := 129) rfl rfl (OpV_bin rfl rfl (b_ineq _ x_43.2.2.2 (wI (2 * x_39)))) rfl ?_
           refine wpR_v (OpV_pickF rfl rfl) rfl (wpR_nil (QE_then_n ?_))
           exact wpC_le _ (by exact ⟨rfl, rfl, rfl, rfl, rfl, rfl, rfl, rfl, rfl, trivial⟩) (hK_45 (x_43.2.2.2 != (wI (2 * x_39))) _ _ ⟨rfl, hS⟩ h)
       ·intro hK_40
        refine wpC_seq (wpC_region (wpR_v (OpV_move rfl) rfl (wpR_nil (QE_then_n ?_))))
        refine wpC_cond rfl (fun hb_38 => ?_) (fun hb_38 => ?_)
        ·have h := if_t h hb_38
         refine wpC_region (wpR_v (OpV_assign rfl) rfl (wpR_nil (QE_then_n ?_)))
         exact wpC_le _ (by exact ⟨rfl, rfl, rfl, rfl, rfl, rfl, rfl, rfl, rfl, rfl, trivial⟩) (hK_40 2 _ _ ⟨rfl, (hS.pick [3, 2, 0] (by decide) rfl)⟩ h)
        ·have h := if_f h hb_38
         refine wpC_skip (QE_then_n ?_)
         exact wpC_le _ (by exact ⟨rfl, rfl, rfl, rfl, rfl, rfl, rfl, rfl, rfl, rfl, trivial⟩) (hK_40 1 _ _ ⟨rfl, (hS.pick [3, 2, 0] (by decide) rfl)⟩ h)
    ·intro hK_25
     refine wpC_region (wpR_v (OpV_move rfl) rfl (wpR_v (OpV_move rfl) rfl ?_))
     obtain ⟨x_21, hx_21, h⟩ := obind_some h
     refine wpR_v (G_ix Tryd.underlying37 ti42 rfl rfl (ha0.now hS.fr) hx_21) rfl ?_
     refine wpR_v (OpV_fieldE (k := 0) Tryd.underlying42 rfl rfl nz3 rfl) rfl ?_
     refine wpR_v (G_loadF Tryd.underlying3 rfl rfl (ha0.now hS.fr) hx_21 rfl rfl) rfl ?_
     refine wpR_v (OpV_bin rfl rfl (b_ineq _ x_21.1 2)) rfl ?_
     refine wpR_v (OpV_move rfl) rfl ?_
     cases hb_22 : (x_21.1 != 2)
     case true =>
      have h := if_t h hb_22
      try simp only [hb_22]
      refine wpR_gskip (b := true) (t := 74) rfl rfl rfl rfl ?_
      refine wpR_gskip (b := true) (t := 74) rfl rfl rfl rfl ?_
      refine wpR_gskip (b := true) (t := 74) rfl rfl rfl rfl ?_
      refine wpR_gskip (b := true) (t := 74) rfl rfl rfl rfl ?_
      refine wpR_gskip (b := true) (t := 74) rfl rfl rfl rfl ?_
      refine wpR_gskip (b := true) (t := 74) rfl rfl rfl rfl ?_
      refine wpR_gskip (b := true) (t := 74) rfl rfl rfl rfl ?_
      refine wpR_v (OpV_pickT rfl rfl) rfl (wpR_nil (QE_then_n ?_))
      exact wpC_le _ (by exact ⟨rfl, rfl, rfl, rfl, rfl, trivial⟩) (hK_25 true _ _ ⟨rfl, hS⟩ h)
     case false =>
      have h := if_f h hb_22
      try simp only [hb_22]
      refine wpR_gv (t := 74) rfl rfl (OpV_move rfl) rfl ?_
      refine wpR_gv (t := 74) rfl rfl (OpV_move rfl) rfl ?_
      refine wpR_gv (t := 74) rfl rfl (OpV_bin rfl rfl (b_iadd _ x_20 1)) rfl ?_
      obtain ⟨x_23, hx_23, h⟩ := obind_some h
      refine wpR_gv (t := 74) rfl rfl (G_ix Tryd.underlying37 ti42 rfl rfl (ha0.now hS.fr) hx_23) rfl ?_
      refine wpR_gv (t := 74) rfl rfl (OpV_fieldE (k := 0) Tryd.underlying42 rfl rfl nz3 rfl) rfl ?_
      refine wpR_gv (t := 74) rfl rfl (G_loadF Tryd.underlying3 rfl rfl (ha0.now hS.fr) hx_23 rfl rfl) rfl ?_
      refine wpR_gv (t := 74) rfl rfl (OpV_bin rfl rfl (b_ineq _ x_23.1 2)) rfl ?_
      refine wpR_v (OpV_pickF rfl rfl) rfl (wpR_nil (QE_then_n ?_))
      exact wpC_le _ (by exact ⟨rfl, rfl, rfl, rfl, rfl, trivial⟩) (hK_25 (x_23.1 != 2) _ _ ⟨rfl, hS⟩ h)
  ·intro hK_19
   refine wpC_region (wpR_v (OpV_move rfl) rfl (wpR_v (OpV_move rfl) rfl ?_))
   obtain ⟨x_11, hx_11, h⟩ := obind_some h
   refine wpR_v (G_ix Tryd.underlying37 ti42 rfl rfl (ha0.now hS.fr) hx_11) rfl ?_
   refine wpR_v (OpV_fieldE (k := 0) Tryd.underlying42 rfl rfl nz3 rfl) rfl ?_
   refine wpR_v (G_loadF Tryd.underlying3 rfl rfl (ha0.now hS.fr) hx_11 rfl rfl) rfl ?_
   refine wpR_v (OpV_bin rfl rfl (b_ineq _ x_11.1 4)) rfl ?_
   refine wpR_v (OpV_move rfl) rfl ?_
   cases hb_12 : (x_11.1 != 4)
   case true =>
    have h := if_t h hb_12
    try simp only [hb_12]
    refine wpR_gskip (b := true) (t := 37) rfl rfl rfl rfl ?_
    refine wpR_gskip (b := true) (t := 37) rfl rfl rfl rfl ?_
    refine wpR_gskip (b := true) (t := 37) rfl rfl rfl rfl ?_
    refine wpR_gskip (b := true) (t := 37) rfl rfl rfl rfl ?_
    refine wpR_gskip (b := true) (t := 37) rfl rfl rfl rfl ?_
    refine wpR_gskip (b := true) (t := 37) rfl rfl rfl rfl ?_
    refine wpR_v (OpV_pickT rfl rfl) rfl (wpR_v (OpV_move rfl) rfl (wpR_gskip (b := true) (t := 45) rfl rfl rfl rfl ?_))
    refine wpR_gskip (b := true) (t := 45) rfl rfl rfl rfl ?_
    refine wpR_gskip (b := true) (t := 45) rfl rfl rfl rfl ?_
    refine wpR_gskip (b := true) (t := 45) rfl rfl rfl rfl ?_
    refine wpR_gskip (b := true) (t := 45) rfl rfl rfl rfl ?_
    refine wpR_gskip (b := true) (t := 45) rfl rfl rfl rfl ?_
    refine wpR_gskip (b := true) (t := 45) rfl rfl rfl rfl ?_
    refine wpR_v (OpV_pickT rfl rfl) rfl (wpR_v (OpV_move rfl) rfl (wpR_gskip (b := true) (t := 54) rfl rfl rfl rfl ?_))
    refine wpR_gskip (b := true) (t := 54) rfl rfl rfl rfl ?_
    refine wpR_gskip (b := true) (t := 54) rfl rfl rfl rfl ?_
    refine wpR_gskip (b := true) (t := 54) rfl rfl rfl rfl ?_
    refine wpR_gskip (b := true) (t := 54) rfl rfl rfl rfl ?_
    refine wpR_gskip (b := true) (t := 54) rfl rfl rfl rfl ?_
    refine wpR_gskip (b := true) (t := 54) rfl rfl rfl rfl ?_
    refine wpR_v (OpV_pickT rfl rfl) rfl (wpR_nil (QE_then_n ?_))
    exact wpC_le _ (by exact ⟨rfl, rfl, rfl, rfl, trivial⟩) (hK_19 true _ _ ⟨rfl, hS⟩ h)
   case false =>
    have h := if_f h hb_12
    try simp only [hb_12]
    refine wpR_gv (t := 37) rfl rfl (OpV_move rfl) rfl ?_
    refine wpR_gv (t := 37) rfl rfl (OpV_move rfl) rfl ?_
    obtain ⟨x_13, hx_13, h⟩ := obind_some h
    refine wpR_gv (t := 37) rfl rfl (G_ix Tryd.underlying37 ti42 rfl rfl (ha0.now hS.fr) hx_13) rfl ?_
    refine wpR_gv (t := 37) rfl rfl (OpV_fieldE (k := 3) Tryd.underlying42 rfl rfl nz3 rfl) rfl ?_
    refine wpR_gv (t := 37) rfl rfl (G_loadF Tryd.underlying3 rfl rfl (ha0.now hS.fr) hx_13 rfl rfl) rfl ?_
    refine wpR_gv (t := 37) rfl rfl (OpV_bin rfl rfl (b_ineq _ x_13.2.2.2 4)) rfl ?_
    refine wpR_v (OpV_pickF rfl rfl) rfl (wpR_v (OpV_move rfl) rfl ?_)
    cases hb_14 : (x_13.2.2.2 != 4)
    case true =>
     have h := if_t h hb_14
     try simp only [hb_14]
     refine wpR_gskip (b := true) (t := 45) rfl rfl rfl rfl ?_
     refine wpR_gskip (b := true) (t := 45) rfl rfl rfl rfl ?_
     refine wpR_gskip (b := true) (t := 45) rfl rfl rfl rfl ?_
     refine wpR_gskip (b := true) (t := 45) rfl rfl rfl rfl ?_
     refine wpR_gskip (b := true) (t := 45) rfl rfl rfl rfl ?_
     refine wpR_gskip (b := true) (t := 45) rfl rfl rfl rfl ?_
     refine wpR_gskip (b := true) (t := 45) rfl rfl rfl rfl ?_
     refine wpR_v (OpV_pickT rfl rfl) rfl (wpR_v (OpV_move rfl) rfl (wpR_gskip (b := true) (t := 54) rfl rfl rfl rfl ?_))
     refine wpR_gskip (b := true) (t := 54) rfl rfl rfl rfl ?_
     refine wpR_gskip (b := true) (t := 54) rfl rfl rfl rfl ?_
     refine wpR_gskip (b := true) (t := 54) rfl rfl rfl rfl ?_
     refine wpR_gskip (b := true) (t := 54) rfl rfl rfl rfl ?_
     refine wpR_gskip (b := true) (t := 54) rfl rfl rfl rfl ?_
     refine wpR_gskip (b := true) (t := 54) rfl rfl rfl rfl ?_
     refine wpR_v (OpV_pickT rfl rfl) rfl (wpR_nil (QE_then_n ?_))
     exact wpC_le _ (by exact ⟨rfl, rfl, rfl, rfl, trivial⟩) (hK_19 true _ _ ⟨rfl, hS⟩ h)
    case false =>
     have h := if_f h hb_14
     try simp only [hb_14]
     refine wpR_gv (t := 45) rfl rfl (OpV_move rfl) rfl ?_
     refine wpR_gv (t := 45) rfl rfl (OpV_move rfl) rfl ?_
     refine wpR_gv (t := 45) rfl rfl (OpV_bin rfl rfl (b_iadd _ x_9 1)) rfl ?_
     obtain ⟨x_15, hx_15, h⟩ := obind_some h
     refine wpR_gv (t := 45) rfl rfl (G_ix Tryd.underlying37 ti42 rfl rfl (ha0.now hS.fr) hx_15) rfl ?_
     refine wpR_gv (t := 45) rfl rfl (OpV_fieldE (k := 0) Tryd.underlying42 rfl rfl nz3 rfl) rfl ?_
     refine wpR_gv (t := 45) rfl rfl (G_loadF Tryd.underlying3 rfl rfl (ha0.now hS.fr) hx_15 rfl rfl) rfl ?_
     refine wpR_gv (t := 45) rfl rfl (OpV_bin rfl rfl (b_ineq _ x_15.1 2)) rfl ?_
     refine wpR_v (OpV_pickF rfl rfl) rfl (wpR_v (OpV_move rfl) rfl ?_)
     cases hb_16 : (x_15.1 != 2)
     case true =>
      have h := if_t h hb_16
      try simp only [hb_16]
      refine wpR_gskip (b := true) (t := 54) rfl rfl rfl rfl ?_
      refine wpR_gskip (b := true) (t := 54) rfl rfl rfl rfl ?_
      refine wpR_gskip (b := true) (t := 54) rfl rfl rfl rfl ?_
      refine wpR_gskip (b := true) (t := 54) rfl rfl rfl rfl ?_
      refine wpR_gskip (b := true) (t := 54) rfl rfl rfl rfl ?_
      refine wpR_gskip (b := true) (t := 54) rfl rfl rfl rfl ?_
      refine wpR_gskip (b := true) (t := 54) rfl rfl rfl rfl ?_
      refine wpR_v (OpV_pickT rfl rfl) rfl (wpR_nil (QE_then_n ?_))
      exact wpC_le _ (by exact ⟨rfl, rfl, rfl, rfl, trivial⟩) (hK_19 true _ _ ⟨rfl, hS⟩ h)
     case false =>
      have h := if_f h hb_16
      try simp only [hb_16]
      refine wpR_gv (t := 54) rfl rfl (OpV_move rfl) rfl ?_
      refine wpR_gv (t := 54) rfl rfl (OpV_move rfl) rfl ?_
      refine wpR_gv (t := 54) rfl rfl (OpV_bin rfl rfl (b_iadd _ x_9 2)) rfl ?_
      obtain ⟨x_17, hx_17, h⟩ := obind_some h
      refine wpR_gv (t := 54) rfl rfl (G_ix Tryd.underlying37 ti42 rfl rfl (ha0.now hS.fr) hx_17) rfl ?_
      refine wpR_gv (t := 54) rfl rfl (OpV_fieldE (k := 0) Tryd.underlying42 rfl rfl nz3 rfl) rfl ?_
      refine wpR_gv (t := 54) rfl rfl (G_loadF Tryd.underlying3 rfl rfl (ha0.now hS.fr) hx_17 rfl rfl) rfl ?_
      refine wpR_gv (t := 54) rfl rfl (OpV_bin rfl rfl (b_ineq _ x_17.1 5)) rfl ?_
      refine wpR_v (OpV_pickF rfl rfl) rfl (wpR_nil (QE_then_n ?_))
      exact wpC_le _ (by exact ⟨rfl, rfl, rfl, rfl, trivial⟩) (hK_19 (x_17.1 != 5) _ _ ⟨rfl, hS⟩ h)
 ·intro hK_10
  refine seq_join (r := r) (fun (g : Bool) L w => L = [(0, va0), (2, pB b_1 0), (4, vI 0), (30, vB g)] ∧ St [] w0 w [OE.bx b_1 [vS [], vS [], vS [], vS [], vI 0]]) (F.ref31_split_K8 a0) ?_ ?_
  ·rintro x_6 L w hJ h
   try dsimp only at hJ
   obtain ⟨rfl, hS⟩ := hJ
   unfold F.ref31_split_K8 at h
   refine wpC_cond rfl (fun hb_8 => ?_) (fun hb_8 => ?_)
   ·have h := if_t h hb_8
    refine wpC_region (wpR_v (OpV_assign rfl) rfl (wpR_nil (QE_then_n ?_)))
    exact wpC_le _ (by exact ⟨rfl, rfl, rfl, trivial⟩) (hK_10 1 _ _ ⟨rfl, hS⟩ h)
   ·have h := if_f h hb_8
    refine wpC_skip (QE_then_n ?_)
    exact wpC_le _ (by exact ⟨rfl, rfl, rfl, trivial⟩) (hK_10 0 _ _ ⟨rfl, hS⟩ h)
  ·intro hK_7
   refine wpC_region (wpR_v (OpV_move rfl) rfl ?_)
   obtain ⟨x_3, hx_3, h⟩ := obind_some h
   refine wpR_v (G_ix Tryd.underlying37 ti42 rfl rfl (ha0.now hS.fr) hx_3) rfl ?_
   refine wpR_v (OpV_fieldE (k := 0) Tryd.underlying42 rfl rfl nz3 rfl) rfl ?_
   refine wpR_v (G_loadF Tryd.underlying3 rfl rfl (ha0.now hS.fr) hx_3 rfl rfl) rfl ?_
   refine wpR_v (OpV_bin rfl rfl (b_ieql _ x_3.1 6)) rfl ?_
   refine wpR_v (OpV_move rfl) rfl ?_
   cases hb_4 : (x_3.1 == 6)
   case true =>
    have h := if_t h hb_4
    try simp only [hb_4]
    refine wpR_gv (t := 24) rfl rfl (OpV_move rfl) rfl ?_
    obtain ⟨x_5, hx_5, h⟩ := obind_some h
    refine wpR_gv (t := 24) rfl rfl (G_ix Tryd.underlying37 ti42 rfl rfl (ha0.now hS.fr) hx_5) rfl ?_
    refine wpR_gv (t := 24) rfl rfl (OpV_fieldE (k := 1) Tryd.underlying42 rfl rfl nz40 rfl) rfl ?_
    refine wpR_gv (t := 24) rfl rfl (G_loadF Tryd.underlying40 rfl rfl (ha0.now hS.fr) hx_5 rfl rfl) rfl ?_
    refine wpR_gv (t := 24) rfl rfl (OpV_bin rfl rfl (b_eql64 _ x_5.2.1 18)) rfl ?_
    refine wpR_v (OpV_pickT rfl rfl) rfl (wpR_nil (QE_then_n ?_))
    exact wpC_le _ (by exact ⟨rfl, rfl, rfl, rfl, trivial⟩) (hK_7 (x_5.2.1 == 18) _ _ ⟨rfl, hS⟩ h)
   case false =>
    have h := if_f h hb_4
    try simp only [hb_4]
    refine wpR_gskip (b := false) (t := 24) rfl rfl rfl rfl ?_
    refine wpR_gskip (b := false) (t := 24) rfl rfl rfl rfl ?_
    refine wpR_gskip (b := false) (t := 24) rfl rfl rfl rfl ?_
    refine wpR_gskip (b := false) (t := 24) rfl rfl rfl rfl ?_
    refine wpR_gskip (b := false) (t := 24) rfl rfl rfl rfl ?_
    refine wpR_v (OpV_pickF rfl rfl) rfl (wpR_nil (QE_then_n ?_))
    exact wpC_le _ (by exact ⟨rfl, rfl, rfl, rfl, trivial⟩) (hK_7 false _ _ ⟨rfl, hS⟩ h)
theorem c_ref31_said (w0 : World) (a0 : Int) (a1 : List UInt8)   (r : List UInt8)
  (h : F.ref31_said a0 a1 = some r) : Calls Tryd.prog 51 #[vI a0, vS a1] w0 (Ret fun v w => v = vS r ∧ St [] w0 w []) := by
 refine calls_at 12 Tryd.func51 rfl rfl rfl ?_
 have hS := St.start w0
 refine wpC_le [(0, vI a0), (1, vS a1)] ⟨rfl, rfl, trivial⟩ ?_
 unfold F.ref31_said at h
 refine wpC_seq (wpC_region (wpR_v (OpV_assign rfl) rfl (wpR_nil (QE_then_n (wpC_seq (wpC_region ?_))))))
 refine wpR_v (OpV_move rfl) rfl (wpR_v (OpV_move rfl) rfl (wpR_v (OpV_lenS Tryd.underlying9 rfl) rfl ?_))
 refine wpR_v (OpV_conv rfl (cv_i_64 Tryd.underlying3 Tryd.underlying40 (a1.length : Int))) rfl ?_
 obtain ⟨x_1, hx_1, h⟩ := obind_some h
 refine wpR_call (by kernel_rfl) rfl (c_ref30_Head _ a0 (UInt64.ofInt (a1.length : Int))    _ hx_1) rfl ?_
 rintro _ w ⟨rfl, hS1⟩
 have hS := hS.call hS1
 simp only [List.cons_append, List.nil_append] at hS
 refine wpR_v (OpV_move rfl) rfl ?_
 obtain ⟨x_2, hx_2, h⟩ := obind_some h
 refine wpR_v (OpV_bin rfl rfl (G_sadd _ hx_2)) rfl ?_
 refine wpR_v (OpV_assign rfl) rfl (wpR_nil (QE_then_n (wpC_ret ?_)))
 cases h
 exact QE_ret1 rfl rfl ⟨rfl, hS⟩
end Go.Proofs
