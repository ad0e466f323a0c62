import Derived.Test.YtgjpaedgcpjigaaDoorYW0
import Derived.Test.YtgjpaedgcpjigaaDoorGkFref30
import Derived.Test.YtgjpaedgcpjigaaDoorYWref30b
set_option linter.unusedVariables false
set_option linter.unusedSimpArgs false
set_option linter.unusedVariables false
set_option maxRecDepth 4000
namespace Go.Proofs
open Go Go.RowKit Go.Gk
theorem c_ref30_said_s (rc : (List (Int × UInt64 × (List UInt8) × Int)) → Int → Int → Option (List UInt8 × Int)) (hrc : ∀ (w0 : World) (a0 : List (Int × UInt64 × (List UInt8) × Int)) (a1 : Int) (a2 : Int) (va0 : Value) (ha0 : RP [] w0 (eP eI (eP e64 (eP eS eI))) va0 a0) (r : List UInt8 × Int), rc a0 a1 a2 = some r → Calls Tryd.prog 79 #[va0, vI a1, vI a2] w0 (Ret fun v w => v = .agg #[vS r.1, vI r.2] ∧ St [] w0 w [])) (w0 : World) (a0 : List (Int × UInt64 × (List UInt8) × Int)) (a1 : Int) (a2 : Int) (va0 : Value) (ha0 : RP [] w0 (eP eI (eP e64 (eP eS eI))) va0 a0) (r : List UInt8 × Int)
  (h : F.ref30_said_s rc a0 a1 a2 = some r) : Calls Tryd.prog 79 #[va0, vI a1, vI a2] w0 (Ret fun v w => v = .agg #[vS r.1, vI r.2] ∧ St [] w0 w []) := by
 refine calls_at 230 Tryd.func79 rfl rfl rfl ?_
 have hS := St.start w0
 refine wpC_le [(0, va0), (1, vI a1), (2, vI a2)] ⟨rfl, rfl, rfl, trivial⟩ ?_
 unfold F.ref30_said_s at h
 refine wpC_seq (wpC_region (wpR_x (OpX_alloc (cs := [vS [], vI 0]) tz135 rfl hS) rfl ?_))
 rintro _ w ⟨b_1, rfl, hS⟩
 refine wpR_nil (QE_then_n (wpC_seq (wpC_seq (wpC_region (wpR_v (OpV_move rfl) rfl (wpR_v (OpV_move rfl) rfl ?_))))))
 refine wpR_v (OpV_len Tryd.underlying37 rfl (ha0.now hS.fr)) rfl ?_
 refine wpR_v (OpV_bin rfl rfl (b_igeq _ a1 (a0.length : Int))) rfl ?_
 refine wpR_nil (QE_then_n ?_)
 refine wpC_cond rfl (fun hb_118 => ?_) (fun hb_118 => ?_)
 ·have h := if_t h hb_118
  refine wpC_seq (wpC_region ?_)
  obtain ⟨x_3, hx_3, h⟩ := obind_some h
  refine wpR_call (by kernel_rfl) rfl (c_ref30_none _     _ hx_3) rfl ?_
  rintro _ w ⟨rfl, hS1⟩
  have hS := hS.call hS1
  simp only [List.cons_append, List.nil_append] at hS
  refine wpR_y (OpY_stB (i := 0) (us := [vS x_3.1, vI x_3.2]) rfl sz135 rfl rfl rfl ⟨rfl, rfl, trivial⟩ rfl hS) ?_
  intro w hS
  replace hS : St _ w0 w [OE.bx b_1 [vS x_3.1, vI x_3.2]] := hS
  refine wpR_nil (QE_then_n (wpC_ret (QE_then_r ?_)))
  cases h
  exact QE_rv1 rfl ⟨_, rfl, run_ldAgg (us := [vS x_3.1, vI x_3.2]) Tryd.underlying135 rfl sz135 (hS.bxs 0 rfl rfl)⟩ ⟨rfl, hS.pick [] (by decide) rfl⟩
 ·have h := if_f h hb_118
  refine wpC_skip (QE_then_n (wpC_seq (wpC_region (wpR_v (OpV_move rfl) rfl (wpR_v (OpV_move rfl) rfl ?_)))))
  obtain ⟨x_4, hx_4, h⟩ := obind_some h
  refine wpR_v (G_ix Tryd.underlying37 ti42 rfl rfl (ha0.now hS.fr) hx_4) rfl ?_
  refine wpR_v (G_loadW Tryd.underlying42 rfl sz42 rfl (ha0.now hS.fr) hx_4) rfl ?_
  refine wpR_x (OpX_alloc (cs := [vI 0, v64 0, vS [], vI 0]) tz42 rfl hS) rfl ?_
  rintro _ w ⟨b_5, rfl, hS⟩
  refine wpR_y (OpY_stB (i := 0) (us := [vI x_4.1, v64 x_4.2.1, vS x_4.2.2.1, vI x_4.2.2.2]) rfl sz42 rfl rfl rfl ⟨rfl, rfl, rfl, rfl, trivial⟩ rfl hS) ?_
  intro w hS
  replace hS : St _ w0 w [OE.bx b_5 [vI x_4.1, v64 x_4.2.1, vS x_4.2.2.1, vI x_4.2.2.2], OE.bx b_1 [vS [], vI 0]] := hS
  refine wpR_nil (QE_then_n ?_)
  refine seq_join (r := r) (fun (g : Bool) L w => L = [(0, va0), (1, vI a1), (2, vI a2), (6, pB b_1 0), (7, pB b_5 0), (8, vB g)] ∧ St [] w0 w [OE.bx b_1 [vS [], vI 0], OE.bx b_5 [vI x_4.1, v64 x_4.2.1, vS x_4.2.2.1, vI x_4.2.2.2]]) (F.ref30_said_s_K1 x_4 a1 a2 a0 rc) ?_ ?_
  ·rintro x_8 L w hJ h
   try dsimp only at hJ
   obtain ⟨rfl, hS⟩ := hJ
   unfold F.ref30_said_s_K1 at h
   refine wpC_seq ?_
   refine seq_join (r := r) (fun (g : Bool) L w => L = [(0, va0), (1, vI a1), (2, vI a2), (6, pB b_1 0), (7, pB b_5 0), (82, vB g)] ∧ St [] w0 w [OE.bx b_1 [vS [], vI 0], OE.bx b_5 [vI x_4.1, v64 x_4.2.1, vS x_4.2.2.1, vI x_4.2.2.2]]) (F.ref30_said_s_K2 x_4 a1 a2 a0 rc) ?_ ?_
   ·rintro x_44 L w hJ h
    try dsimp only at hJ
    obtain ⟨rfl, hS⟩ := hJ
    unfold F.ref30_said_s_K2 at h
    refine wpC_cond rfl (fun hb_117 => ?_) (fun hb_117 => ?_)
    ·have h := if_t h hb_117
     refine wpC_seq (wpC_region ?_)
     obtain ⟨x_46, hx_46, h⟩ := obind_some h
     refine wpR_call (by kernel_rfl) rfl (c_ref30_none _     _ hx_46) rfl ?_
     rintro _ w ⟨rfl, hS1⟩
     have hS := hS.call hS1
     simp only [List.cons_append, List.nil_append] at hS
     refine wpR_y (OpY_stB (i := 0) (us := [vS x_46.1, vI x_46.2]) rfl sz135 rfl rfl rfl ⟨rfl, rfl, trivial⟩ rfl hS) ?_
     intro w hS
     replace hS : St _ w0 w [OE.bx b_1 [vS x_46.1, vI x_46.2], OE.bx b_5 [vI x_4.1, v64 x_4.2.1, vS x_4.2.2.1, vI x_4.2.2.2]] := hS
     refine wpR_nil (QE_then_n (wpC_ret (QE_then_r ?_)))
     cases h
     exact QE_rv1 rfl ⟨_, rfl, run_ldAgg (us := [vS x_46.1, vI x_46.2]) Tryd.underlying135 rfl sz135 (hS.bxs 0 rfl rfl)⟩ ⟨rfl, hS.pick [] (by decide) rfl⟩
    ·have h := if_f h hb_117
     refine wpC_skip (QE_then_n (wpC_seq (wpC_seq (wpC_region (wpR_v (OpV_fieldB (k := 0) Tryd.underlying42 rfl rfl nz3 rfl) rfl ?_)))))
     refine wpR_v (OpV_ldB Tryd.underlying3 rfl rfl (hS.bxc 1 rfl 0)) rfl ?_
     refine wpR_nil (QE_then_n (wpC_block ?_))
     refine seq_join (r := r) (fun (g : Bool) L w => L = [(0, va0), (1, vI a1), (2, vI a2), (6, pB b_1 0), (7, pB b_5 0), (85, vI x_4.1), (86, vB g)] ∧ St [] w0 w [OE.bx b_1 [vS [], vI 0], OE.bx b_5 [vI x_4.1, v64 x_4.2.1, vS x_4.2.2.1, vI x_4.2.2.2]]) (F.ref30_said_s_K3 a1 x_4 a2 a0 rc) ?_ ?_
     ·rintro x_48 L w hJ h
      try dsimp only at hJ
      obtain ⟨rfl, hS⟩ := hJ
      unfold F.ref30_said_s_K3 at h
      refine wpC_cond rfl (fun hb_116 => ?_) (fun hb_116 => ?_)
      ·have h := if_t h hb_116
       refine wpC_seq (wpC_region (wpR_v (OpV_fieldB (k := 0) Tryd.underlying42 rfl rfl nz3 rfl) rfl ?_))
       refine wpR_v (OpV_ldB Tryd.underlying3 rfl rfl (hS.bxc 1 rfl 0)) rfl ?_
       refine wpR_v (OpV_fieldB (k := 1) Tryd.underlying42 rfl rfl nz40 rfl) rfl ?_
       refine wpR_v (OpV_ldB Tryd.underlying40 rfl rfl (hS.bxc 1 rfl 1)) rfl ?_
       obtain ⟨x_50, hx_50, h⟩ := obind_some h
       refine wpR_call (by kernel_rfl) rfl (c_ref30_Head _ x_4.1 x_4.2.1    _ hx_50) rfl ?_
       rintro _ w ⟨rfl, hS1⟩
       have hS := hS.call hS1
       simp only [List.cons_append, List.nil_append] at hS
       refine wpR_v (OpV_move rfl) rfl (wpR_v (OpV_bin rfl rfl (b_iadd _ a1 1)) rfl ?_)
       refine wpR_v (OpV_build (vs := [(0, vS x_50, [vS x_50]), (1, vI (wI (a1 + 1)), [vI (wI (a1 + 1))])]) (cells := [vS x_50, vI (wI (a1 + 1))]) rfl lay135 ⟨rfl, rfl, trivial⟩ rfl) rfl ?_
       refine wpR_y (OpY_stB (i := 0) (us := [vS x_50, vI (wI (a1 + 1))]) rfl sz135 rfl rfl rfl ⟨rfl, rfl, trivial⟩ rfl hS) ?_
       intro w hS
       replace hS : St _ w0 w [OE.bx b_1 [vS x_50, vI (wI (a1 + 1))], OE.bx b_5 [vI x_4.1, v64 x_4.2.1, vS x_4.2.2.1, vI x_4.2.2.2]] := hS
       refine wpR_nil (QE_then_n (wpC_ret (QE_blk_r ?_)))
       refine QE_then_r ?_
       cases h
       exact QE_rv1 rfl ⟨_, rfl, run_ldAgg (us := [vS x_50, vI (wI (a1 + 1))]) Tryd.underlying135 rfl sz135 (hS.bxs 0 rfl rfl)⟩ ⟨rfl, hS.pick [] (by decide) rfl⟩
      ·have h := if_f h hb_116
       refine wpC_seq (wpC_region (wpR_v (OpV_bin rfl rfl (b_ieql _ x_4.1 7)) rfl ?_))
       refine wpR_v (OpV_assign rfl) rfl (wpR_nil (QE_then_n ?_))
       refine wpC_cond rfl (fun hb_115 => ?_) (fun hb_115 => ?_)
       ·have h := if_t h hb_115
        refine wpC_seq ?_
        refine seq_join (r := r) (fun (g : Bool) L w => L = [(1, vI a1), (6, pB b_1 0), (7, pB b_5 0), (106, vB g)] ∧ St [] w0 w [OE.bx b_1 [vS [], vI 0], OE.bx b_5 [vI x_4.1, v64 x_4.2.1, vS x_4.2.2.1, vI x_4.2.2.2]]) (F.ref30_said_s_K4 a1 x_4) ?_ ?_
        ·rintro x_52 L w hJ h
         try dsimp only at hJ
         obtain ⟨rfl, hS⟩ := hJ
         unfold F.ref30_said_s_K4 at h
         refine wpC_cond rfl (fun hb_56 => ?_) (fun hb_56 => ?_)
         ·have h := if_t h hb_56
          refine wpC_seq (wpC_region ?_)
          obtain ⟨x_54, hx_54, h⟩ := obind_some h
          refine wpR_call (by kernel_rfl) rfl (c_ref30_none _     _ hx_54) rfl ?_
          rintro _ w ⟨rfl, hS1⟩
          have hS := hS.call hS1
          simp only [List.cons_append, List.nil_append] at hS
          refine wpR_y (OpY_stB (i := 0) (us := [vS x_54.1, vI x_54.2]) rfl sz135 rfl rfl rfl ⟨rfl, rfl, trivial⟩ rfl hS) ?_
          intro w hS
          replace hS : St _ w0 w [OE.bx b_1 [vS x_54.1, vI x_54.2], OE.bx b_5 [vI x_4.1, v64 x_4.2.1, vS x_4.2.2.1, vI x_4.2.2.2]] := hS
          refine wpR_nil (QE_then_n (wpC_ret (QE_then_r (QE_blk_r ?_))))
          refine QE_then_r ?_
          cases h
          exact QE_rv1 rfl ⟨_, rfl, run_ldAgg (us := [vS x_54.1, vI x_54.2]) Tryd.underlying135 rfl sz135 (hS.bxs 0 rfl rfl)⟩ ⟨rfl, hS.pick [] (by decide) rfl⟩
         ·have h := if_f h hb_56
          refine wpC_skip (QE_then_n (wpC_seq (wpC_region (wpR_v (OpV_fieldB (k := 1) Tryd.underlying42 rfl rfl nz40 rfl) rfl ?_))))
          refine wpR_v (OpV_ldB Tryd.underlying40 rfl rfl (hS.bxc 1 rfl 1)) rfl ?_
          obtain ⟨x_55, hx_55, h⟩ := obind_some h
          refine wpR_call (by kernel_rfl) rfl (c_ref30_Head _ 7 x_4.2.1    _ hx_55) rfl ?_
          rintro _ w ⟨rfl, hS1⟩
          have hS := hS.call hS1
          simp only [List.cons_append, List.nil_append] at hS
          refine wpR_v (OpV_move rfl) rfl (wpR_v (OpV_bin rfl rfl (b_iadd _ a1 1)) rfl ?_)
          refine wpR_v (OpV_build (vs := [(0, vS x_55, [vS x_55]), (1, vI (wI (a1 + 1)), [vI (wI (a1 + 1))])]) (cells := [vS x_55, vI (wI (a1 + 1))]) rfl lay135 ⟨rfl, rfl, trivial⟩ rfl) rfl ?_
          refine wpR_y (OpY_stB (i := 0) (us := [vS x_55, vI (wI (a1 + 1))]) rfl sz135 rfl rfl rfl ⟨rfl, rfl, trivial⟩ rfl hS) ?_
          intro w hS
          replace hS : St _ w0 w [OE.bx b_1 [vS x_55, vI (wI (a1 + 1))], OE.bx b_5 [vI x_4.1, v64 x_4.2.1, vS x_4.2.2.1, vI x_4.2.2.2]] := hS
          refine wpR_nil (QE_then_n (wpC_ret (QE_blk_r ?_)))
          refine QE_then_r ?_
          cases h
          exact QE_rv1 rfl ⟨_, rfl, run_ldAgg (us := [vS x_55, vI (wI (a1 + 1))]) Tryd.underlying135 rfl sz135 (hS.bxs 0 rfl rfl)⟩ ⟨rfl, hS.pick [] (by decide) rfl⟩
        ·intro hK_53
         refine wpC_region (wpR_v (OpV_fieldB (k := 1) Tryd.underlying42 rfl rfl nz40 rfl) rfl ?_)
         refine wpR_v (OpV_ldB Tryd.underlying40 rfl rfl (hS.bxc 1 rfl 1)) rfl ?_
         refine wpR_v (OpV_bin rfl rfl (b_lss64 _ x_4.2.1 20)) rfl ?_
         refine wpR_v (OpV_move rfl) rfl ?_
         cases hb_51 : (decide (x_4.2.1 < 20))
         case true =>
          have h := if_t h hb_51
          try simp only [hb_51]
          refine wpR_gskip (b := true) (t := 102) rfl rfl rfl rfl ?_
          refine wpR_gskip (b := true) (t := 102) rfl rfl rfl rfl ?_
          refine wpR_gskip (b := true) (t := 102) rfl rfl rfl rfl ?_
          refine wpR_v (OpV_pickT rfl rfl) rfl (wpR_nil (QE_then_n ?_))
          exact wpC_le _ (by exact ⟨rfl, rfl, rfl, rfl, trivial⟩) (hK_53 true _ _ ⟨rfl, hS⟩ h)
         case false =>
          have h := if_f h hb_51
          try simp only [hb_51]
          refine wpR_gv (t := 102) rfl rfl (OpV_fieldB (k := 1) Tryd.underlying42 rfl rfl nz40 rfl) rfl ?_
          refine wpR_gv (t := 102) rfl rfl (OpV_ldB Tryd.underlying40 rfl rfl (hS.bxc 1 rfl 1)) rfl ?_
          refine wpR_gv (t := 102) rfl rfl (OpV_bin rfl rfl (b_gtr64 _ x_4.2.1 22)) rfl ?_
          refine wpR_v (OpV_pickF rfl rfl) rfl (wpR_nil (QE_then_n ?_))
          exact wpC_le _ (by exact ⟨rfl, rfl, rfl, rfl, trivial⟩) (hK_53 (decide ((22 : UInt64) < x_4.2.1)) _ _ ⟨rfl, hS⟩ h)
       ·have h := if_f h hb_115
        refine seq_join (r := r) (fun (g : Bool) L w => L = [(0, va0), (1, vI a1), (2, vI a2), (6, pB b_1 0), (7, pB b_5 0), (114, vB g)] ∧ St [] w0 w [OE.bx b_1 [vS [], vI 0], OE.bx b_5 [vI x_4.1, v64 x_4.2.1, vS x_4.2.2.1, vI x_4.2.2.2]]) (F.ref30_said_s_K5 a2 x_4 a1 a0 rc) ?_ ?_
        ·rintro x_58 L w hJ h
         try dsimp only at hJ
         obtain ⟨rfl, hS⟩ := hJ
         unfold F.ref30_said_s_K5 at h
         refine wpC_cond rfl (fun hb_114 => ?_) (fun hb_114 => ?_)
         ·have h := if_t h hb_114
          refine wpC_seq ?_
          refine seq_join (r := r) (fun (g : Bool) L w => L = [(1, vI a1), (6, pB b_1 0), (7, pB b_5 0), (125, vB g)] ∧ St [] w0 w [OE.bx b_1 [vS [], vI 0], OE.bx b_5 [vI x_4.1, v64 x_4.2.1, vS x_4.2.2.1, vI x_4.2.2.2]]) (F.ref30_said_s_K6 a1 x_4) ?_ ?_
          ·rintro x_62 L w hJ h
           try dsimp only at hJ
           obtain ⟨rfl, hS⟩ := hJ
           unfold F.ref30_said_s_K6 at h
           refine wpC_cond rfl (fun hb_67 => ?_) (fun hb_67 => ?_)
           ·have h := if_t h hb_67
            refine wpC_seq (wpC_region ?_)
            obtain ⟨x_64, hx_64, h⟩ := obind_some h
            refine wpR_call (by kernel_rfl) rfl (c_ref30_none _     _ hx_64) rfl ?_
            rintro _ w ⟨rfl, hS1⟩
            have hS := hS.call hS1
            simp only [List.cons_append, List.nil_append] at hS
            refine wpR_y (OpY_stB (i := 0) (us := [vS x_64.1, vI x_64.2]) rfl sz135 rfl rfl rfl ⟨rfl, rfl, trivial⟩ rfl hS) ?_
            intro w hS
            replace hS : St _ w0 w [OE.bx b_1 [vS x_64.1, vI x_64.2], OE.bx b_5 [vI x_4.1, v64 x_4.2.1, vS x_4.2.2.1, vI x_4.2.2.2]] := hS
            refine wpR_nil (QE_then_n (wpC_ret (QE_then_r (QE_blk_r ?_))))
            refine QE_then_r ?_
            cases h
            exact QE_rv1 rfl ⟨_, rfl, run_ldAgg (us := [vS x_64.1, vI x_64.2]) Tryd.underlying135 rfl sz135 (hS.bxs 0 rfl rfl)⟩ ⟨rfl, hS.pick [] (by decide) rfl⟩
           ·have h := if_f h hb_67
            refine wpC_skip (QE_then_n (wpC_seq ?_))
            refine wpC_regionS (fun w' => St [] w0 w' [OE.bx b_1 [vS [], vI 0], OE.bx b_5 [vI x_4.1, v64 x_4.2.1, vS x_4.2.2.1, vI x_4.2.2.2]]) (fun i => !([6, 13].contains i)) hmix (fun _ _ _ hf => hf.2) (fun _ _ hf => hf) (by kernel_rfl) ?_
            have hS := hS.drew
            show lxE _ _ _ _ _ _ _ [0, 1, 2, 3, 4, 5, 6, 7, 8, 9, 10, 11, 12, 13] _ _
            refine lxE_v hS rfl rfl (fun w hF => OpV_fieldB (k := 0) Tryd.underlying42 rfl rfl nz3 rfl) rfl ?_
            refine lxE_v hS rfl rfl (fun w hF => OpV_ldB Tryd.underlying3 rfl rfl (hF.bxc 1 rfl 0)) rfl ?_
            refine lxE_v hS rfl rfl (fun w hF => OpV_fieldB (k := 2) Tryd.underlying42 rfl rfl nz9 rfl) rfl ?_
            refine lxE_v hS rfl rfl (fun w hF => OpV_ldB Tryd.underlying9 rfl rfl (hF.bxc 1 rfl 2)) rfl ?_
            refine lxE_v hS rfl rfl (fun w hF => OpV_lenS Tryd.underlying9 rfl) rfl ?_
            refine lxE_v hS rfl rfl (fun w hF => OpV_conv rfl (cv_i_64 Tryd.underlying3 Tryd.underlying40 (x_4.2.2.1.length : Int))) rfl ?_
            obtain ⟨x_65, hx_65, h⟩ := obind_some h
            refine lxE_call hS rfl rfl (by kernel_rfl) rfl (c_ref30_Head _ x_4.1 (UInt64.ofInt (x_4.2.2.1.length : Int))    _ hx_65) rfl ?_
            rintro _ w ⟨rfl, hS1⟩
            have hS := hS.call hS1
            simp only [List.cons_append, List.nil_append] at hS
            refine lxE_v hS rfl rfl (fun w hF => OpV_fieldB (k := 2) Tryd.underlying42 rfl rfl nz9 rfl) rfl ?_
            refine lxE_v hS rfl rfl (fun w hF => OpV_ldB Tryd.underlying9 rfl rfl (hF.bxc 1 rfl 2)) rfl ?_
            obtain ⟨x_66, hx_66, h⟩ := obind_some h
            refine lxE_v hS rfl rfl (fun w hF => OpV_bin rfl rfl (G_sadd _ hx_66)) rfl ?_
            refine lxE_v hS rfl rfl (fun w hF => OpV_move rfl) rfl ?_
            refine lxE_v hS rfl rfl (fun w hF => OpV_bin rfl rfl (b_iadd _ a1 1)) rfl ?_
            refine lxE_v hS rfl rfl (fun w hF => OpV_build (vs := [(0, vS x_66, [vS x_66]), (1, vI (wI (a1 + 1)), [vI (wI (a1 + 1))])]) (cells := [vS x_66, vI (wI (a1 + 1))]) rfl lay135 ⟨rfl, rfl, trivial⟩ rfl) rfl ?_
            refine lxE_y hS rfl rfl (OpY_stB (i := 0) (us := [vS x_66, vI (wI (a1 + 1))]) rfl sz135 rfl rfl rfl ⟨rfl, rfl, trivial⟩ rfl hS) ?_
            intro w hS
            replace hS : St _ w0 w [OE.bx b_1 [vS x_66, vI (wI (a1 + 1))], OE.bx b_5 [vI x_4.1, v64 x_4.2.1, vS x_4.2.2.1, vI x_4.2.2.2]] := hS
            refine lxE_nil trivial ?_
            refine QE_then_n (wpC_ret (QE_blk_r ?_))
            refine QE_then_r ?_
            cases h
            exact QE_rv1 rfl ⟨_, rfl, run_ldAgg (us := [vS x_66, vI (wI (a1 + 1))]) Tryd.underlying135 rfl sz135 (hS.bxs 0 rfl rfl)⟩ ⟨rfl, hS.pick [] (by decide) rfl⟩
          ·intro hK_63
           refine wpC_region (wpR_v (OpV_fieldB (k := 0) Tryd.underlying42 rfl rfl nz3 rfl) rfl ?_)
           refine wpR_v (OpV_ldB Tryd.underlying3 rfl rfl (hS.bxc 1 rfl 0)) rfl ?_
           refine wpR_v (OpV_bin rfl rfl (b_ieql _ x_4.1 3)) rfl ?_
           refine wpR_v (OpV_move rfl) rfl ?_
           cases hb_60 : (x_4.1 == 3)
           case true =>
            have h := if_t h hb_60
            try simp only [hb_60]
            refine wpR_gv (t := 120) rfl rfl (OpV_fieldB (k := 2) Tryd.underlying42 rfl rfl nz9 rfl) rfl ?_
            refine wpR_gv (t := 120) rfl rfl (OpV_ldB Tryd.underlying9 rfl rfl (hS.bxc 1 rfl 2)) rfl ?_
            obtain ⟨x_61, hx_61, h⟩ := obind_some h
            refine wpR_gcall (t := 120) rfl rfl (by kernel_rfl) rfl (c_ref30_utf8 _ x_4.2.2.1    _ hx_61) rfl ?_
            rintro _ w ⟨rfl, hS1⟩
            have hS := hS.call hS1
            simp only [List.cons_append, List.nil_append] at hS
            refine wpR_gv (t := 120) rfl rfl (OpV_un rfl (u_not x_61)) rfl ?_
            refine wpR_v (OpV_pickT rfl rfl) rfl (wpR_nil (QE_then_n ?_))
            exact wpC_le _ (by exact ⟨rfl, rfl, rfl, rfl, trivial⟩) (hK_63 (!x_61) _ _ ⟨rfl, hS⟩ h)
           case false =>
            have h := if_f h hb_60
            try simp only [hb_60]
            refine wpR_gskip (b := false) (t := 120) rfl rfl rfl rfl ?_
            refine wpR_gskip (b := false) (t := 120) rfl rfl rfl rfl ?_
            refine wpR_gskip (b := false) (t := 120) rfl rfl rfl rfl ?_
            refine wpR_gskip (b := false) (t := 120) rfl rfl rfl rfl ?_
            refine wpR_v (OpV_pickF rfl rfl) rfl (wpR_nil (QE_then_n ?_))
            exact wpC_le _ (by exact ⟨rfl, rfl, rfl, rfl, trivial⟩) (hK_63 false _ _ ⟨rfl, hS⟩ h)
         ·have h := if_f h hb_114
          refine wpC_skip (QE_blk_n ?_)
          refine QE_then_n (wpC_seq ?_)
          refine seq_join (r := r) (fun (g : Bool) L w => L = [(0, va0), (1, vI a1), (2, vI a2), (6, pB b_1 0), (7, pB b_5 0), (162, vB g)] ∧ St [] w0 w [OE.bx b_1 [vS [], vI 0], OE.bx b_5 [vI x_4.1, v64 x_4.2.1, vS x_4.2.2.1, vI x_4.2.2.2]]) (F.ref30_said_s_K7 x_4 a1 a0 a2 rc) ?_ ?_
          ·rintro x_73 L w hJ h
           try dsimp only at hJ
           obtain ⟨rfl, hS⟩ := hJ
           unfold F.ref30_said_s_K7 at h
           refine wpC_cond rfl (fun hb_113 => ?_) (fun hb_113 => ?_)
           ·have h := if_t h hb_113
            refine wpC_seq (wpC_region ?_)
            obtain ⟨x_75, hx_75, h⟩ := obind_some h
            refine wpR_call (by kernel_rfl) rfl (c_ref30_none _     _ hx_75) rfl ?_
            rintro _ w ⟨rfl, hS1⟩
            have hS := hS.call hS1
            simp only [List.cons_append, List.nil_append] at hS
            refine wpR_y (OpY_stB (i := 0) (us := [vS x_75.1, vI x_75.2]) rfl sz135 rfl rfl rfl ⟨rfl, rfl, trivial⟩ rfl hS) ?_
            intro w hS
            replace hS : St _ w0 w [OE.bx b_1 [vS x_75.1, vI x_75.2], OE.bx b_5 [vI x_4.1, v64 x_4.2.1, vS x_4.2.2.1, vI x_4.2.2.2]] := hS
            refine wpR_nil (QE_then_n (wpC_ret (QE_then_r ?_)))
            cases h
            exact QE_rv1 rfl ⟨_, rfl, run_ldAgg (us := [vS x_75.1, vI x_75.2]) Tryd.underlying135 rfl sz135 (hS.bxs 0 rfl rfl)⟩ ⟨rfl, hS.pick [] (by decide) rfl⟩
           ·have h := if_f h hb_113
            refine wpC_skip (QE_then_n (wpC_seq (wpC_region (wpR_v (OpV_fieldB (k := 3) Tryd.underlying42 rfl rfl nz3 rfl) rfl ?_))))
            refine wpR_v (OpV_ldB Tryd.underlying3 rfl rfl (hS.bxc 1 rfl 3)) rfl ?_
            refine wpR_v (OpV_conv rfl (cv_i_64 Tryd.underlying3 Tryd.underlying40 x_4.2.2.2)) rfl ?_
            refine wpR_v (OpV_assign rfl) rfl (wpR_nil (QE_then_n ?_))
            refine seq_join (r := r) (fun (g : UInt64) L w => L = [(0, va0), (1, vI a1), (2, vI a2), (6, pB b_1 0), (7, pB b_5 0), (9, v64 g)] ∧ St [] w0 w [OE.bx b_1 [vS [], vI 0], OE.bx b_5 [vI x_4.1, v64 x_4.2.1, vS x_4.2.2.1, vI x_4.2.2.2]]) (F.ref30_said_s_K8 x_4 a1 a0 a2 rc) ?_ ?_
            ·rintro x_78 L w hJ h
             try dsimp only at hJ
             obtain ⟨rfl, hS⟩ := hJ
             unfold F.ref30_said_s_K8 at h
             refine seq_join (r := r) (fun (g : UInt64) L w => L = [(0, va0), (1, vI a1), (2, vI a2), (6, pB b_1 0), (7, pB b_5 0), (9, v64 g)] ∧ St [] w0 w [OE.bx b_1 [vS [], vI 0], OE.bx b_5 [vI x_4.1, v64 x_4.2.1, vS x_4.2.2.1, vI x_4.2.2.2]]) (F.ref30_said_s_K9 a1 x_4 a0 a2 rc) ?_ ?_
             ·rintro x_81 L w hJ h
              try dsimp only at hJ
              obtain ⟨rfl, hS⟩ := hJ
              unfold F.ref30_said_s_K9 at h
              refine wpC_seq (wpC_region (wpR_v (OpV_fieldB (k := 0) Tryd.underlying42 rfl rfl nz3 rfl) rfl ?_))
              refine wpR_v (OpV_ldB Tryd.underlying3 rfl rfl (hS.bxc 1 rfl 0)) rfl ?_
              refine wpR_v (OpV_move rfl) rfl ?_
              obtain ⟨x_83, hx_83, h⟩ := obind_some h
              refine wpR_call (by kernel_rfl) rfl (c_ref30_Head _ x_4.1 x_81    _ hx_83) rfl ?_
              rintro _ w ⟨rfl, hS1⟩
              have hS := hS.call hS1
              simp only [List.cons_append, List.nil_append] at hS
              refine wpR_v (OpV_move rfl) rfl (wpR_v (OpV_bin rfl rfl (b_iadd _ a1 1)) rfl ?_)
              refine wpR_v (OpV_build (vs := [(0, vS x_83, [vS x_83]), (1, vI (wI (a1 + 1)), [vI (wI (a1 + 1))])]) (cells := [vS x_83, vI (wI (a1 + 1))]) rfl lay135 ⟨rfl, rfl, trivial⟩ rfl) rfl ?_
              refine wpR_x (OpX_alloc (cs := [vS [], vI 0]) tz135 rfl hS) rfl ?_
              rintro _ w ⟨b_84, rfl, hS⟩
              refine wpR_y (OpY_stB (i := 0) (us := [vS x_83, vI (wI (a1 + 1))]) rfl sz135 rfl rfl rfl ⟨rfl, rfl, trivial⟩ rfl hS) ?_
              intro w hS
              replace hS : St _ w0 w [OE.bx b_84 [vS x_83, vI (wI (a1 + 1))], OE.bx b_1 [vS [], vI 0], OE.bx b_5 [vI x_4.1, v64 x_4.2.1, vS x_4.2.2.1, vI x_4.2.2.2]] := hS
              refine wpR_nil (QE_then_n (wpC_seq (wpC_region (wpR_v (OpV_assign rfl) rfl (wpR_nil (QE_then_n ?_))))))
              refine wpC_seq (wpC_seq (wpC_region (wpR_v (OpV_assign rfl) rfl (wpR_nil (QE_then_n (wpC_block ?_))))))
              refine wpC_le [(0, va0), (2, vI a2), (6, pB b_1 0), (7, pB b_5 0), (10, pB b_84 0), (11, vS []), (12, vI 0)] ⟨rfl, rfl, rfl, rfl, rfl, rfl, rfl, trivial⟩ ?_
              refine loop_ind (F.ref30_said_s_L1 a0 a2 rc x_4) (fun (s : List UInt8 × Int × List UInt8 × Int) L w => L = [(0, va0), (2, vI a2), (6, pB b_1 0), (7, pB b_5 0), (10, pB b_84 0), (11, vS s.1), (12, vI s.2.1)] ∧ St [] w0 w [OE.bx b_1 [vS [], vI 0], OE.bx b_5 [vI x_4.1, v64 x_4.2.1, vS x_4.2.2.1, vI x_4.2.2.2], OE.bx b_84 [vS s.2.2.1, vI s.2.2.2]]) ?_ ([], 0, x_83, wI (a1 + 1)) ⟨rfl, (hS.pick [1, 2, 0] (by decide) rfl)⟩ h
              rintro k_112 ⟨x_86, x_87, x_88, x_89⟩ L w q_92 hI ih_91 h hk_90
              try dsimp only at hI
              obtain ⟨rfl, hS⟩ := hI
              unfold F.ref30_said_s_L1 at h
              refine wpC_seq (wpC_seq (wpC_region (wpR_v (OpV_move rfl) rfl (wpR_v (OpV_fieldB (k := 3) Tryd.underlying42 rfl rfl nz3 rfl) rfl ?_))))
              refine wpR_v (OpV_ldB Tryd.underlying3 rfl rfl (hS.bxc 1 rfl 3)) rfl ?_
              refine wpR_v (OpV_bin rfl rfl (b_ilss _ x_87 x_4.2.2.2)) rfl ?_
              refine wpR_nil (QE_then_n ?_)
              refine wpC_cond rfl (fun hb_111 => ?_) (fun hb_111 => ?_)
              ·have h := if_t h hb_111
               refine wpC_skip (QE_then_n (wpC_seq (wpC_block ?_)))
               refine wpC_seq (wpC_region (wpR_v (OpV_move rfl) rfl (wpR_v (OpV_fieldB (k := 1) Tryd.underlying135 rfl rfl nz3 rfl) rfl ?_)))
               refine wpR_v (OpV_ldB Tryd.underlying3 rfl rfl (hS.bxc 2 rfl 1)) rfl ?_
               refine wpR_v (OpV_move rfl) rfl (wpR_v (OpV_bin rfl rfl (b_iadd _ a2 1)) rfl ?_)
               obtain ⟨x_93, hx_93, h⟩ := obind_some h
               refine wpR_call (by kernel_rfl) rfl (hrc _ a0 x_89 (wI (a2 + 1)) va0  (ha0.now hS.fr).rp _ hx_93) rfl ?_
               rintro _ w ⟨rfl, hS1⟩
               have hS := hS.call hS1
               simp only [List.cons_append, List.nil_append] at hS
               refine wpR_x (OpX_alloc (cs := [vS [], vI 0]) tz135 rfl hS) rfl ?_
               rintro _ w ⟨b_94, rfl, hS⟩
               refine wpR_y (OpY_stB (i := 0) (us := [vS x_93.1, vI x_93.2]) rfl sz135 rfl rfl rfl ⟨rfl, rfl, trivial⟩ rfl hS) ?_
               intro w hS
               replace hS : St _ w0 w [OE.bx b_94 [vS x_93.1, vI x_93.2], OE.bx b_1 [vS [], vI 0], OE.bx b_5 [vI x_4.1, v64 x_4.2.1, vS x_4.2.2.1, vI x_4.2.2.2], OE.bx b_84 [vS x_88, vI x_89]] := hS
               refine wpR_nil (QE_then_n (wpC_seq (wpC_seq (wpC_region (wpR_v (OpV_fieldB (k := 1) Tryd.underlying135 rfl rfl nz3 rfl) rfl ?_)))))
               refine wpR_v (OpV_ldB Tryd.underlying3 rfl rfl (hS.bxc 0 rfl 1)) rfl ?_
               refine wpR_v (OpV_bin rfl rfl (b_ilss _ x_93.2 0)) rfl ?_
               refine wpR_nil (QE_then_n ?_)
               refine wpC_cond rfl (fun hb_110 => ?_) (fun hb_110 => ?_)
               ·have h := if_t h hb_110
                refine wpC_seq (wpC_region ?_)
                obtain ⟨x_96, hx_96, h⟩ := obind_some h
                refine wpR_call (by kernel_rfl) rfl (c_ref30_none _     _ hx_96) rfl ?_
                rintro _ w ⟨rfl, hS1⟩
                have hS := hS.call hS1
                simp only [List.cons_append, List.nil_append] at hS
                refine wpR_y (OpY_stB (i := 1) (us := [vS x_96.1, vI x_96.2]) rfl sz135 rfl rfl rfl ⟨rfl, rfl, trivial⟩ rfl hS) ?_
                intro w hS
                replace hS : St _ w0 w [OE.bx b_94 [vS x_93.1, vI x_93.2], OE.bx b_1 [vS x_96.1, vI x_96.2], OE.bx b_5 [vI x_4.1, v64 x_4.2.1, vS x_4.2.2.1, vI x_4.2.2.2], OE.bx b_84 [vS x_88, vI x_89]] := hS
                refine wpR_nil (QE_then_n (wpC_ret (QE_then_r (QE_blk_r ?_))))
                refine QE_then_r (QE_then_r ?_)
                have h := oinr_some h hk_90
                refine QE_blk_r ?_
                refine QE_then_r ?_
                cases h
                exact QE_rv1 rfl ⟨_, rfl, run_ldAgg (us := [vS x_96.1, vI x_96.2]) Tryd.underlying135 rfl sz135 (hS.bxs 1 rfl rfl)⟩ ⟨rfl, hS.pick [] (by decide) rfl⟩
               ·have h := if_f h hb_110
                refine wpC_skip (QE_then_n ?_)
                refine seq_join (r := q_92) (fun (g : List UInt8) L w => L = [(0, va0), (2, vI a2), (6, pB b_1 0), (7, pB b_5 0), (10, pB b_84 0), (11, vS g), (12, vI x_87), (13, pB b_94 0)] ∧ St [] w0 w [OE.bx b_1 [vS [], vI 0], OE.bx b_5 [vI x_4.1, v64 x_4.2.1, vS x_4.2.2.1, vI x_4.2.2.2], OE.bx b_84 [vS x_88, vI x_89], OE.bx b_94 [vS x_93.1, vI x_93.2]]) (F.ref30_said_s_K10 x_87 x_88 x_93) ?_ ?_
                ·rintro x_107 L w hJ h
                 try dsimp only at hJ
                 obtain ⟨rfl, hS⟩ := hJ
                 unfold F.ref30_said_s_K10 at h
                 refine wpC_seq (wpC_region (wpR_v (OpV_fieldB (k := 0) Tryd.underlying135 rfl rfl nz9 rfl) rfl ?_))
                 refine wpR_v (OpV_ldB Tryd.underlying9 rfl rfl (hS.bxc 2 rfl 0)) rfl ?_
                 refine wpR_v (OpV_fieldB (k := 0) Tryd.underlying135 rfl rfl nz9 rfl) rfl ?_
                 refine wpR_v (OpV_ldB Tryd.underlying9 rfl rfl (hS.bxc 3 rfl 0)) rfl ?_
                 obtain ⟨x_109, hx_109, h⟩ := obind_some h
                 refine wpR_v (OpV_bin rfl rfl (G_sadd _ hx_109)) rfl ?_
                 refine wpR_v (OpV_fieldB (k := 0) Tryd.underlying135 rfl rfl nz9 rfl) rfl ?_
                 refine wpR_y (OpY_stB (i := 2) (us := [vS x_109]) rfl sz9 rfl rfl rfl ⟨rfl, trivial⟩ rfl hS) ?_
                 intro w hS
                 replace hS : St _ w0 w [OE.bx b_1 [vS [], vI 0], OE.bx b_5 [vI x_4.1, v64 x_4.2.1, vS x_4.2.2.1, vI x_4.2.2.2], OE.bx b_84 [vS x_109, vI x_89], OE.bx b_94 [vS x_93.1, vI x_93.2]] := hS
                 refine wpR_nil (QE_then_n (wpC_region (wpR_v (OpV_fieldB (k := 1) Tryd.underlying135 rfl rfl nz3 rfl) rfl ?_)))
                 refine wpR_v (OpV_ldB Tryd.underlying3 rfl rfl (hS.bxc 3 rfl 1)) rfl ?_
                 refine wpR_v (OpV_fieldB (k := 1) Tryd.underlying135 rfl rfl nz3 rfl) rfl ?_
                 refine wpR_y (OpY_stB (i := 2) (us := [vI x_93.2]) rfl sz3 rfl rfl rfl ⟨rfl, trivial⟩ rfl hS) ?_
                 intro w hS
                 replace hS : St _ w0 w [OE.bx b_1 [vS [], vI 0], OE.bx b_5 [vI x_4.1, v64 x_4.2.1, vS x_4.2.2.1, vI x_4.2.2.2], OE.bx b_84 [vS x_109, vI x_93.2], OE.bx b_94 [vS x_93.1, vI x_93.2]] := hS
                 refine wpR_nil (QE_blk_n ?_)
                 refine QE_then_n (wpC_region (wpR_v (OpV_move rfl) rfl (wpR_v (OpV_bin rfl rfl (b_iadd _ x_87 1)) rfl ?_)))
                 refine wpR_v (OpV_assign rfl) rfl (wpR_nil ?_)
                 exact QE_rnd (wpN_le _ (by exact ⟨rfl, rfl, rfl, rfl, rfl, rfl, rfl, trivial⟩) (ih_91 (x_107, wI (x_87 + 1), x_109, x_93.2) _ _ ⟨rfl, (hS.pick [0, 1, 2] (by decide) rfl)⟩ (oinl_some h hk_90)))
                ·intro hK_108
                 refine seq_join (r := q_92) (fun (g : Bool) L w => L = [(0, va0), (2, vI a2), (6, pB b_1 0), (7, pB b_5 0), (10, pB b_84 0), (11, vS x_86), (12, vI x_87), (13, pB b_94 0), (207, vB g)] ∧ St [] w0 w [OE.bx b_1 [vS [], vI 0], OE.bx b_5 [vI x_4.1, v64 x_4.2.1, vS x_4.2.2.1, vI x_4.2.2.2], OE.bx b_84 [vS x_88, vI x_89], OE.bx b_94 [vS x_93.1, vI x_93.2]]) (F.ref30_said_s_K11 x_86 x_87 x_93 x_88) ?_ ?_
                 ·rintro x_98 L w hJ h
                  try dsimp only at hJ
                  obtain ⟨rfl, hS⟩ := hJ
                  unfold F.ref30_said_s_K11 at h
                  refine wpC_cond rfl (fun hb_106 => ?_) (fun hb_106 => ?_)
                  ·have h := if_t h hb_106
                   refine wpC_seq ?_
                   refine seq_join (r := q_92) (fun (g : Bool) L w => L = [(0, va0), (2, vI a2), (6, pB b_1 0), (7, pB b_5 0), (10, pB b_84 0), (12, vI x_87), (13, pB b_94 0), (216, vB g)] ∧ St [] w0 w [OE.bx b_1 [vS [], vI 0], OE.bx b_5 [vI x_4.1, v64 x_4.2.1, vS x_4.2.2.1, vI x_4.2.2.2], OE.bx b_84 [vS x_88, vI x_89], OE.bx b_94 [vS x_93.1, vI x_93.2]]) (F.ref30_said_s_K12 x_93 x_87 x_88) ?_ ?_
                   ·rintro x_102 L w hJ h
                    try dsimp only at hJ
                    obtain ⟨rfl, hS⟩ := hJ
                    unfold F.ref30_said_s_K12 at h
                    refine wpC_cond rfl (fun hb_105 => ?_) (fun hb_105 => ?_)
                    ·have h := if_t h hb_105
                     refine wpC_seq (wpC_region ?_)
                     obtain ⟨x_104, hx_104, h⟩ := obind_some h
                     refine wpR_call (by kernel_rfl) rfl (c_ref30_none _     _ hx_104) rfl ?_
                     rintro _ w ⟨rfl, hS1⟩
                     have hS := hS.call hS1
                     simp only [List.cons_append, List.nil_append] at hS
                     refine wpR_y (OpY_stB (i := 0) (us := [vS x_104.1, vI x_104.2]) rfl sz135 rfl rfl rfl ⟨rfl, rfl, trivial⟩ rfl hS) ?_
                     intro w hS
                     replace hS : St _ w0 w [OE.bx b_1 [vS x_104.1, vI x_104.2], OE.bx b_5 [vI x_4.1, v64 x_4.2.1, vS x_4.2.2.1, vI x_4.2.2.2], OE.bx b_84 [vS x_88, vI x_89], OE.bx b_94 [vS x_93.1, vI x_93.2]] := hS
                     refine wpR_nil (QE_then_n (wpC_ret (QE_then_r (QE_then_r (QE_blk_r ?_)))))
                     refine QE_then_r (QE_then_r ?_)
                     have h := oinr_some h hk_90
                     refine QE_blk_r ?_
                     refine QE_then_r ?_
                     cases h
                     exact QE_rv1 rfl ⟨_, rfl, run_ldAgg (us := [vS x_104.1, vI x_104.2]) Tryd.underlying135 rfl sz135 (hS.bxs 0 rfl rfl)⟩ ⟨rfl, hS.pick [] (by decide) rfl⟩
                    ·have h := if_f h hb_105
                     refine wpC_skip (QE_then_n (wpC_region (wpR_v (OpV_fieldB (k := 0) Tryd.underlying135 rfl rfl nz9 rfl) rfl ?_)))
                     refine wpR_v (OpV_ldB Tryd.underlying9 rfl rfl (hS.bxc 3 rfl 0)) rfl ?_
                     refine wpR_v (OpV_assign rfl) rfl (wpR_nil (QE_then_n ?_))
                     exact wpC_le _ (by exact ⟨rfl, rfl, rfl, rfl, rfl, rfl, rfl, rfl, trivial⟩) (hK_108 x_93.1 _ _ ⟨rfl, hS⟩ h)
                   ·intro hK_103
                    refine wpC_region (wpR_v (OpV_move rfl) rfl (wpR_v (OpV_bin rfl rfl (b_igtr _ x_87 0)) rfl ?_))
                    refine wpR_v (OpV_move rfl) rfl ?_
                    cases hb_100 : (decide ((0 : Int) < x_87))
                    case true =>
                     have h := if_t h hb_100
                     try simp only [hb_100]
                     refine wpR_gv (t := 210) rfl rfl (OpV_move rfl) rfl ?_
                     refine wpR_gv (t := 210) rfl rfl (OpV_fieldB (k := 0) Tryd.underlying135 rfl rfl nz9 rfl) rfl ?_
                     refine wpR_gv (t := 210) rfl rfl (OpV_ldB Tryd.underlying9 rfl rfl (hS.bxc 3 rfl 0)) rfl ?_
                     obtain ⟨x_101, hx_101, h⟩ := obind_some h
                     refine wpR_gcall (t := 210) rfl rfl (by kernel_rfl) rfl (c_ref30_Less _ x_86 x_93.1    _ hx_101) rfl ?_
                     rintro _ w ⟨rfl, hS1⟩
                     have hS := hS.call hS1
                     simp only [List.cons_append, List.nil_append] at hS
                     refine wpR_gv (t := 210) rfl rfl (OpV_un rfl (u_not x_101)) rfl ?_
                     refine wpR_v (OpV_pickT rfl rfl) rfl (wpR_nil (QE_then_n ?_))
                     exact wpC_le _ (by exact ⟨rfl, rfl, rfl, rfl, rfl, rfl, rfl, rfl, trivial⟩) (hK_103 (!x_101) _ _ ⟨rfl, hS⟩ h)
                    case false =>
                     have h := if_f h hb_100
                     try simp only [hb_100]
                     refine wpR_gskip (b := false) (t := 210) rfl rfl rfl rfl ?_
                     refine wpR_gskip (b := false) (t := 210) rfl rfl rfl rfl ?_
                     refine wpR_gskip (b := false) (t := 210) rfl rfl rfl rfl ?_
                     refine wpR_gskip (b := false) (t := 210) rfl rfl rfl rfl ?_
                     refine wpR_gskip (b := false) (t := 210) rfl rfl rfl rfl ?_
                     refine wpR_v (OpV_pickF rfl rfl) rfl (wpR_nil (QE_then_n ?_))
                     exact wpC_le _ (by exact ⟨rfl, rfl, rfl, rfl, rfl, rfl, rfl, rfl, trivial⟩) (hK_103 false _ _ ⟨rfl, hS⟩ h)
                  ·have h := if_f h hb_106
                   refine wpC_skip (QE_then_n ?_)
                   exact wpC_le _ (by exact ⟨rfl, rfl, rfl, rfl, rfl, rfl, rfl, rfl, trivial⟩) (hK_108 x_86 _ _ ⟨rfl, hS⟩ h)
                 ·intro hK_99
                  refine wpC_region (wpR_v (OpV_fieldB (k := 0) Tryd.underlying42 rfl rfl nz3 rfl) rfl ?_)
                  refine wpR_v (OpV_ldB Tryd.underlying3 rfl rfl (hS.bxc 2 rfl 0)) rfl ?_
                  refine wpR_v (OpV_bin rfl rfl (b_ieql _ x_4.1 5)) rfl ?_
                  refine wpR_v (OpV_move rfl) rfl ?_
                  cases hb_97 : (x_4.1 == 5)
                  case true =>
                   have h := if_t h hb_97
                   try simp only [hb_97]
                   refine wpR_gv (t := 203) rfl rfl (OpV_move rfl) rfl ?_
                   refine wpR_gv (t := 203) rfl rfl (OpV_bin rfl rfl (b_irem _ x_87 2 (by decide))) rfl ?_
                   refine wpR_gv (t := 203) rfl rfl (OpV_bin rfl rfl (b_ieql _ (Int.tmod x_87 2) 0)) rfl ?_
                   refine wpR_v (OpV_pickT rfl rfl) rfl (wpR_nil (QE_then_n ?_))
                   exact wpC_le _ (by exact ⟨rfl, rfl, rfl, rfl, rfl, rfl, rfl, rfl, rfl, trivial⟩) (hK_99 ((Int.tmod x_87 2) == 0) _ _ ⟨rfl, (hS.pick [1, 2, 3, 0] (by decide) rfl)⟩ h)
                  case false =>
                   have h := if_f h hb_97
                   try simp only [hb_97]
                   refine wpR_gskip (b := false) (t := 203) rfl rfl rfl rfl ?_
                   refine wpR_gskip (b := false) (t := 203) rfl rfl rfl rfl ?_
                   refine wpR_gskip (b := false) (t := 203) rfl rfl rfl rfl ?_
                   refine wpR_v (OpV_pickF rfl rfl) rfl (wpR_nil (QE_then_n ?_))
                   exact wpC_le _ (by exact ⟨rfl, rfl, rfl, rfl, rfl, rfl, rfl, rfl, rfl, trivial⟩) (hK_99 false _ _ ⟨rfl, (hS.pick [1, 2, 3, 0] (by decide) rfl)⟩ h)
              ·have h := if_f h hb_111
               refine wpC_exit ?_
               refine QE_then_x (QE_then_x ?_)
               have h := oinr_some h hk_90
               refine QE_blk_x ?_
               refine QE_then_n (wpC_seq (wpC_region (wpR_v (OpV_ldBs (us := [vS x_88, vI x_89]) Tryd.underlying135 rfl sz135 rfl (hS.bxs 2 rfl rfl)) rfl ?_)))
               refine wpR_y (OpY_stB (i := 0) (us := [vS x_88, vI x_89]) rfl sz135 rfl rfl rfl ⟨rfl, rfl, trivial⟩ rfl hS) ?_
               intro w hS
               replace hS : St _ w0 w [OE.bx b_1 [vS x_88, vI x_89], OE.bx b_5 [vI x_4.1, v64 x_4.2.1, vS x_4.2.2.1, vI x_4.2.2.2], OE.bx b_84 [vS x_88, vI x_89]] := hS
               refine wpR_nil (QE_then_n (wpC_ret ?_))
               cases h
               exact QE_rv1 rfl ⟨_, rfl, run_ldAgg (us := [vS x_88, vI x_89]) Tryd.underlying135 rfl sz135 (hS.bxs 0 rfl rfl)⟩ ⟨rfl, hS.pick [] (by decide) rfl⟩
             ·intro hK_82
              refine wpC_seq (wpC_region (wpR_v (OpV_fieldB (k := 0) Tryd.underlying42 rfl rfl nz3 rfl) rfl ?_))
              refine wpR_v (OpV_ldB Tryd.underlying3 rfl rfl (hS.bxc 1 rfl 0)) rfl ?_
              refine wpR_v (OpV_bin rfl rfl (b_ieql _ x_4.1 6)) rfl ?_
              refine wpR_nil (QE_then_n ?_)
              refine wpC_cond rfl (fun hb_80 => ?_) (fun hb_80 => ?_)
              ·have h := if_t h hb_80
               refine wpC_region (wpR_v (OpV_fieldB (k := 1) Tryd.underlying42 rfl rfl nz40 rfl) rfl ?_)
               refine wpR_v (OpV_ldB Tryd.underlying40 rfl rfl (hS.bxc 1 rfl 1)) rfl ?_
               refine wpR_v (OpV_assign rfl) rfl (wpR_nil (QE_then_n ?_))
               exact wpC_le _ (by exact ⟨rfl, rfl, rfl, rfl, rfl, rfl, trivial⟩) (hK_82 x_4.2.1 _ _ ⟨rfl, hS⟩ h)
              ·have h := if_f h hb_80
               refine wpC_skip (QE_then_n ?_)
               exact wpC_le _ (by exact ⟨rfl, rfl, rfl, rfl, rfl, rfl, trivial⟩) (hK_82 x_78 _ _ ⟨rfl, hS⟩ h)
            ·intro hK_79
             refine wpC_seq (wpC_region (wpR_v (OpV_fieldB (k := 0) Tryd.underlying42 rfl rfl nz3 rfl) rfl ?_))
             refine wpR_v (OpV_ldB Tryd.underlying3 rfl rfl (hS.bxc 1 rfl 0)) rfl ?_
             refine wpR_v (OpV_bin rfl rfl (b_ieql _ x_4.1 5)) rfl ?_
             refine wpR_nil (QE_then_n ?_)
             refine wpC_cond rfl (fun hb_77 => ?_) (fun hb_77 => ?_)
             ·have h := if_t h hb_77
              refine wpC_region (wpR_v (OpV_move rfl) rfl ?_)
              refine wpR_v (OpV_bin rfl rfl (b_quo64 _ (UInt64.ofInt x_4.2.2.2) 2 (by decide))) rfl ?_
              obtain ⟨x_76, hx_76, h⟩ := olet_some h
              refine wpR_v (OpV_assign (v := v64 x_76) (by rw [← hx_76]; rfl)) rfl ?_
              refine wpR_nil (QE_then_n ?_)
              exact wpC_le _ (by exact ⟨rfl, rfl, rfl, rfl, rfl, rfl, trivial⟩) (hK_79 x_76 _ _ ⟨rfl, hS⟩ h)
             ·have h := if_f h hb_77
              refine wpC_skip (QE_then_n ?_)
              exact wpC_le _ (by exact ⟨rfl, rfl, rfl, rfl, rfl, rfl, trivial⟩) (hK_79 (UInt64.ofInt x_4.2.2.2) _ _ ⟨rfl, hS⟩ h)
          ·intro hK_74
           refine wpC_region (wpR_v (OpV_move rfl) rfl (wpR_v (OpV_bin rfl rfl (b_ieql _ a2 32)) rfl ?_))
           refine wpR_v (OpV_move rfl) rfl ?_
           cases hb_68 : (a2 == 32)
           case true =>
            have h := if_t h hb_68
            try simp only [hb_68]
            refine wpR_gskip (b := true) (t := 142) rfl rfl rfl rfl ?_
            refine wpR_gskip (b := true) (t := 142) rfl rfl rfl rfl ?_
            refine wpR_gskip (b := true) (t := 142) rfl rfl rfl rfl ?_
            refine wpR_gskip (b := true) (t := 142) rfl rfl rfl rfl ?_
            refine wpR_gskipU (t := 146) rfl rfl rfl ?_
            refine wpR_gskipU (t := 146) rfl rfl rfl ?_
            refine wpR_gskipU (t := 146) rfl rfl rfl ?_
            refine wpR_gskipU (t := 146) rfl rfl rfl ?_
            refine wpR_gskip (b := true) (t := 142) rfl rfl rfl rfl ?_
            refine wpR_v (OpV_pickT rfl rfl) rfl (wpR_v (OpV_move rfl) rfl (wpR_gskip (b := true) (t := 153) rfl rfl rfl rfl ?_))
            refine wpR_gskip (b := true) (t := 153) rfl rfl rfl rfl ?_
            refine wpR_gskip (b := true) (t := 153) rfl rfl rfl rfl ?_
            refine wpR_gskip (b := true) (t := 153) rfl rfl rfl rfl ?_
            refine wpR_gskipU (t := 157) rfl rfl rfl ?_
            refine wpR_gskipU (t := 157) rfl rfl rfl ?_
            refine wpR_gskipU (t := 157) rfl rfl rfl ?_
            refine wpR_gskip (b := true) (t := 153) rfl rfl rfl rfl ?_
            refine wpR_v (OpV_pickT rfl rfl) rfl (wpR_nil (QE_then_n ?_))
            exact wpC_le _ (by exact ⟨rfl, rfl, rfl, rfl, rfl, rfl, trivial⟩) (hK_74 true _ _ ⟨rfl, hS⟩ h)
           case false =>
            have h := if_f h hb_68
            try simp only [hb_68]
            refine wpR_gv (t := 142) rfl rfl (OpV_fieldB (k := 0) Tryd.underlying42 rfl rfl nz3 rfl) rfl ?_
            refine wpR_gv (t := 142) rfl rfl (OpV_ldB Tryd.underlying3 rfl rfl (hS.bxc 1 rfl 0)) rfl ?_
            refine wpR_gv (t := 142) rfl rfl (OpV_bin rfl rfl (b_ieql _ x_4.1 5)) rfl ?_
            refine wpR_gv (t := 142) rfl rfl (OpV_move rfl) rfl ?_
            cases hb_69 : (x_4.1 == 5)
            case true =>
             have h := if_t h hb_69
             try simp only [hb_69]
             refine wpR_gv (t := 146) rfl rfl (OpV_fieldB (k := 3) Tryd.underlying42 rfl rfl nz3 rfl) rfl ?_
             refine wpR_gv (t := 146) rfl rfl (OpV_ldB Tryd.underlying3 rfl rfl (hS.bxc 1 rfl 3)) rfl ?_
             refine wpR_gv (t := 146) rfl rfl (OpV_bin rfl rfl (b_irem _ x_4.2.2.2 2 (by decide))) rfl ?_
             refine wpR_gv (t := 146) rfl rfl (OpV_bin rfl rfl (b_ieql _ (Int.tmod x_4.2.2.2 2) 1)) rfl ?_
             refine wpR_gv (t := 142) rfl rfl (OpV_pickT rfl rfl) rfl ?_
             refine wpR_v (OpV_pickF rfl rfl) rfl (wpR_v (OpV_move rfl) rfl ?_)
             cases hb_70 : ((Int.tmod x_4.2.2.2 2) == 1)
             case true =>
              have h := if_t h hb_70
              try simp only [hb_70]
              refine wpR_gskip (b := true) (t := 153) rfl rfl rfl rfl ?_
              refine wpR_gskip (b := true) (t := 153) rfl rfl rfl rfl ?_
              refine wpR_gskip (b := true) (t := 153) rfl rfl rfl rfl ?_
              refine wpR_gskip (b := true) (t := 153) rfl rfl rfl rfl ?_
              refine wpR_gskipU (t := 157) rfl rfl rfl ?_
              refine wpR_gskipU (t := 157) rfl rfl rfl ?_
              refine wpR_gskipU (t := 157) rfl rfl rfl ?_
              refine wpR_gskip (b := true) (t := 153) rfl rfl rfl rfl ?_
              refine wpR_v (OpV_pickT rfl rfl) rfl (wpR_nil (QE_then_n ?_))
              exact wpC_le _ (by exact ⟨rfl, rfl, rfl, rfl, rfl, rfl, trivial⟩) (hK_74 true _ _ ⟨rfl, hS⟩ h)
             case false =>
              have h := if_f h hb_70
              try simp only [hb_70]
              refine wpR_gv (t := 153) rfl rfl (OpV_fieldB (k := 0) Tryd.underlying42 rfl rfl nz3 rfl) rfl ?_
              refine wpR_gv (t := 153) rfl rfl (OpV_ldB Tryd.underlying3 rfl rfl (hS.bxc 1 rfl 0)) rfl ?_
              refine wpR_gv (t := 153) rfl rfl (OpV_bin rfl rfl (b_ieql _ x_4.1 6)) rfl ?_
              refine wpR_gv (t := 153) rfl rfl (OpV_move rfl) rfl ?_
              cases hb_71 : (x_4.1 == 6)
              case true =>
               have h := if_t h hb_71
               try simp only [hb_71]
               refine wpR_gv (t := 157) rfl rfl (OpV_fieldB (k := 3) Tryd.underlying42 rfl rfl nz3 rfl) rfl ?_
               refine wpR_gv (t := 157) rfl rfl (OpV_ldB Tryd.underlying3 rfl rfl (hS.bxc 1 rfl 3)) rfl ?_
               refine wpR_gv (t := 157) rfl rfl (OpV_bin rfl rfl (b_ineq _ x_4.2.2.2 1)) rfl ?_
               refine wpR_gv (t := 153) rfl rfl (OpV_pickT rfl rfl) rfl ?_
               refine wpR_v (OpV_pickF rfl rfl) rfl (wpR_nil (QE_then_n ?_))
               exact wpC_le _ (by exact ⟨rfl, rfl, rfl, rfl, rfl, rfl, trivial⟩) (hK_74 (x_4.2.2.2 != 1) _ _ ⟨rfl, hS⟩ h)
              case false =>
               have h := if_f h hb_71
               try simp only [hb_71]
               refine wpR_gskip (b := false) (t := 157) rfl rfl rfl rfl ?_
               refine wpR_gskip (b := false) (t := 157) rfl rfl rfl rfl ?_
               refine wpR_gskip (b := false) (t := 157) rfl rfl rfl rfl ?_
               refine wpR_gv (t := 153) rfl rfl (OpV_pickF rfl rfl) rfl ?_
               refine wpR_v (OpV_pickF rfl rfl) rfl (wpR_nil (QE_then_n ?_))
               exact wpC_le _ (by exact ⟨rfl, rfl, rfl, rfl, rfl, rfl, trivial⟩) (hK_74 false _ _ ⟨rfl, hS⟩ h)
            case false =>
             have h := if_f h hb_69
             try simp only [hb_69]
             refine wpR_gskip (b := false) (t := 146) rfl rfl rfl rfl ?_
             refine wpR_gskip (b := false) (t := 146) rfl rfl rfl rfl ?_
             refine wpR_gskip (b := false) (t := 146) rfl rfl rfl rfl ?_
             refine wpR_gskip (b := false) (t := 146) rfl rfl rfl rfl ?_
             refine wpR_gv (t := 142) rfl rfl (OpV_pickF rfl rfl) rfl ?_
             refine wpR_v (OpV_pickF rfl rfl) rfl (wpR_v (OpV_move rfl) rfl (wpR_gv (t := 153) rfl rfl (OpV_fieldB (k := 0) Tryd.underlying42 rfl rfl nz3 rfl) rfl ?_))
             refine wpR_gv (t := 153) rfl rfl (OpV_ldB Tryd.underlying3 rfl rfl (hS.bxc 1 rfl 0)) rfl ?_
             refine wpR_gv (t := 153) rfl rfl (OpV_bin rfl rfl (b_ieql _ x_4.1 6)) rfl ?_
             refine wpR_gv (t := 153) rfl rfl (OpV_move rfl) rfl ?_
             cases hb_72 : (x_4.1 == 6)
             case true =>
              have h := if_t h hb_72
              try simp only [hb_72]
              refine wpR_gv (t := 157) rfl rfl (OpV_fieldB (k := 3) Tryd.underlying42 rfl rfl nz3 rfl) rfl ?_
              refine wpR_gv (t := 157) rfl rfl (OpV_ldB Tryd.underlying3 rfl rfl (hS.bxc 1 rfl 3)) rfl ?_
              refine wpR_gv (t := 157) rfl rfl (OpV_bin rfl rfl (b_ineq _ x_4.2.2.2 1)) rfl ?_
              refine wpR_gv (t := 153) rfl rfl (OpV_pickT rfl rfl) rfl ?_
              refine wpR_v (OpV_pickF rfl rfl) rfl (wpR_nil (QE_then_n ?_))
              exact wpC_le _ (by exact ⟨rfl, rfl, rfl, rfl, rfl, rfl, trivial⟩) (hK_74 (x_4.2.2.2 != 1) _ _ ⟨rfl, hS⟩ h)
             case false =>
              have h := if_f h hb_72
              try simp only [hb_72]
              refine wpR_gskip (b := false) (t := 157) rfl rfl rfl rfl ?_
              refine wpR_gskip (b := false) (t := 157) rfl rfl rfl rfl ?_
              refine wpR_gskip (b := false) (t := 157) rfl rfl rfl rfl ?_
              refine wpR_gv (t := 153) rfl rfl (OpV_pickF rfl rfl) rfl ?_
              refine wpR_v (OpV_pickF rfl rfl) rfl (wpR_nil (QE_then_n ?_))
              exact wpC_le _ (by exact ⟨rfl, rfl, rfl, rfl, rfl, rfl, trivial⟩) (hK_74 false _ _ ⟨rfl, hS⟩ h)
        ·intro hK_59
         refine wpC_seq (wpC_region (wpR_v (OpV_bin rfl rfl (b_ieql _ x_4.1 2)) rfl ?_))
         refine wpR_v (OpV_assign rfl) rfl (wpR_nil (QE_then_n ?_))
         refine wpC_cond rfl (fun hb_57 => ?_) (fun hb_57 => ?_)
         ·have h := if_t h hb_57
          refine wpC_skip (QE_then_n ?_)
          exact wpC_le _ (by exact ⟨rfl, rfl, rfl, rfl, rfl, rfl, trivial⟩) (hK_59 (x_4.1 == 2) _ _ ⟨rfl, hS⟩ h)
         ·have h := if_f h hb_57
          refine wpC_region (wpR_v (OpV_bin rfl rfl (b_ieql _ x_4.1 3)) rfl ?_)
          refine wpR_v (OpV_assign rfl) rfl (wpR_nil (QE_then_n ?_))
          exact wpC_le _ (by exact ⟨rfl, rfl, rfl, rfl, rfl, rfl, trivial⟩) (hK_59 (x_4.1 == 3) _ _ ⟨rfl, hS⟩ h)
     ·intro hK_49
      refine wpC_seq (wpC_region (wpR_v (OpV_bin rfl rfl (b_ieql _ x_4.1 0)) rfl ?_))
      refine wpR_v (OpV_assign rfl) rfl (wpR_nil (QE_then_n ?_))
      refine wpC_cond rfl (fun hb_47 => ?_) (fun hb_47 => ?_)
      ·have h := if_t h hb_47
       refine wpC_skip (QE_then_n ?_)
       exact wpC_le _ (by exact ⟨rfl, rfl, rfl, rfl, rfl, rfl, rfl, trivial⟩) (hK_49 (x_4.1 == 0) _ _ ⟨rfl, hS⟩ h)
      ·have h := if_f h hb_47
       refine wpC_region (wpR_v (OpV_bin rfl rfl (b_ieql _ x_4.1 1)) rfl ?_)
       refine wpR_v (OpV_assign rfl) rfl (wpR_nil (QE_then_n ?_))
       exact wpC_le _ (by exact ⟨rfl, rfl, rfl, rfl, rfl, rfl, rfl, trivial⟩) (hK_49 (x_4.1 == 1) _ _ ⟨rfl, hS⟩ h)
   ·intro hK_45
    refine wpC_region (wpR_v (OpV_fieldB (k := 0) Tryd.underlying42 rfl rfl nz3 rfl) rfl ?_)
    refine wpR_v (OpV_ldB Tryd.underlying3 rfl rfl (hS.bxc 1 rfl 0)) rfl ?_
    refine wpR_v (OpV_bin rfl rfl (b_ilss _ x_4.1 0)) rfl ?_
    refine wpR_v (OpV_move rfl) rfl ?_
    cases hb_10 : (decide (x_4.1 < 0))
    case true =>
     have h := if_t h hb_10
     try simp only [hb_10]
     refine wpR_gskip (b := true) (t := 34) rfl rfl rfl rfl ?_
     refine wpR_gskip (b := true) (t := 34) rfl rfl rfl rfl ?_
     refine wpR_gskip (b := true) (t := 34) rfl rfl rfl rfl ?_
     refine wpR_v (OpV_pickT rfl rfl) rfl (wpR_v (OpV_move rfl) rfl (wpR_gskip (b := true) (t := 39) rfl rfl rfl rfl ?_))
     refine wpR_gskip (b := true) (t := 39) rfl rfl rfl rfl ?_
     refine wpR_gskip (b := true) (t := 39) rfl rfl rfl rfl ?_
     refine wpR_gskipU (t := 42) rfl rfl rfl ?_
     refine wpR_gskipU (t := 42) rfl rfl rfl ?_
     refine wpR_gskipU (t := 42) rfl rfl rfl ?_
     refine wpR_gskip (b := true) (t := 39) rfl rfl rfl rfl ?_
     refine wpR_v (OpV_pickT rfl rfl) rfl (wpR_v (OpV_move rfl) rfl (wpR_gskip (b := true) (t := 48) rfl rfl rfl rfl ?_))
     refine wpR_gskip (b := true) (t := 48) rfl rfl rfl rfl ?_
     refine wpR_gskip (b := true) (t := 48) rfl rfl rfl rfl ?_
     refine wpR_gskip (b := true) (t := 48) rfl rfl rfl rfl ?_
     refine wpR_gskipU (t := 52) rfl rfl rfl ?_
     refine wpR_gskipU (t := 52) rfl rfl rfl ?_
     refine wpR_gskipU (t := 52) rfl rfl rfl ?_
     refine wpR_gskip (b := true) (t := 48) rfl rfl rfl rfl ?_
     refine wpR_gskip (b := true) (t := 48) rfl rfl rfl rfl ?_
     refine wpR_gskipU (t := 57) rfl rfl rfl ?_
     refine wpR_gskipU (t := 57) rfl rfl rfl ?_
     refine wpR_gskipU (t := 57) rfl rfl rfl ?_
     refine wpR_gskip (b := true) (t := 48) rfl rfl rfl rfl ?_
     refine wpR_v (OpV_pickT rfl rfl) rfl (wpR_v (OpV_move rfl) rfl (wpR_gskip (b := true) (t := 63) rfl rfl rfl rfl ?_))
     refine wpR_gskip (b := true) (t := 63) rfl rfl rfl rfl ?_
     refine wpR_gskip (b := true) (t := 63) rfl rfl rfl rfl ?_
     refine wpR_gskip (b := true) (t := 63) rfl rfl rfl rfl ?_
     refine wpR_gskipU (t := 67) rfl rfl rfl ?_
     refine wpR_gskipU (t := 67) rfl rfl rfl ?_
     refine wpR_gskipU (t := 67) rfl rfl rfl ?_
     refine wpR_gskip (b := true) (t := 63) rfl rfl rfl rfl ?_
     refine wpR_gskip (b := true) (t := 63) rfl rfl rfl rfl ?_
     refine wpR_gskipU (t := 72) rfl rfl rfl ?_
     refine wpR_gskipU (t := 72) rfl rfl rfl ?_
     refine wpR_gskipU (t := 72) rfl rfl rfl ?_
     refine wpR_gskip (b := true) (t := 63) rfl rfl rfl rfl ?_
     refine wpR_v (OpV_pickT rfl rfl) rfl (wpR_v (OpV_move rfl) rfl (wpR_gskip (b := true) (t := 78) rfl rfl rfl rfl ?_))
     refine wpR_gskip (b := true) (t := 78) rfl rfl rfl rfl ?_
     refine wpR_gskip (b := true) (t := 78) rfl rfl rfl rfl ?_
     refine wpR_v (OpV_pickT rfl rfl) rfl (wpR_nil (QE_then_n ?_))
     exact wpC_le _ (by exact ⟨rfl, rfl, rfl, rfl, rfl, rfl, trivial⟩) (hK_45 true _ _ ⟨rfl, hS⟩ h)
    case false =>
     have h := if_f h hb_10
     try simp only [hb_10]
     refine wpR_gv (t := 34) rfl rfl (OpV_fieldB (k := 0) Tryd.underlying42 rfl rfl nz3 rfl) rfl ?_
     refine wpR_gv (t := 34) rfl rfl (OpV_ldB Tryd.underlying3 rfl rfl (hS.bxc 1 rfl 0)) rfl ?_
     refine wpR_gv (t := 34) rfl rfl (OpV_bin rfl rfl (b_igtr _ x_4.1 7)) rfl ?_
     refine wpR_v (OpV_pickF rfl rfl) rfl (wpR_v (OpV_move rfl) rfl ?_)
     cases hb_11 : (decide ((7 : Int) < x_4.1))
     case true =>
      have h := if_t h hb_11
      try simp only [hb_11]
      refine wpR_gskip (b := true) (t := 39) rfl rfl rfl rfl ?_
      refine wpR_gskip (b := true) (t := 39) rfl rfl rfl rfl ?_
      refine wpR_gskip (b := true) (t := 39) rfl rfl rfl rfl ?_
      refine wpR_gskipU (t := 42) rfl rfl rfl ?_
      refine wpR_gskipU (t := 42) rfl rfl rfl ?_
      refine wpR_gskipU (t := 42) rfl rfl rfl ?_
      refine wpR_gskip (b := true) (t := 39) rfl rfl rfl rfl ?_
      refine wpR_v (OpV_pickT rfl rfl) rfl (wpR_v (OpV_move rfl) rfl (wpR_gskip (b := true) (t := 48) rfl rfl rfl rfl ?_))
      refine wpR_gskip (b := true) (t := 48) rfl rfl rfl rfl ?_
      refine wpR_gskip (b := true) (t := 48) rfl rfl rfl rfl ?_
      refine wpR_gskip (b := true) (t := 48) rfl rfl rfl rfl ?_
      refine wpR_gskipU (t := 52) rfl rfl rfl ?_
      refine wpR_gskipU (t := 52) rfl rfl rfl ?_
      refine wpR_gskipU (t := 52) rfl rfl rfl ?_
      refine wpR_gskip (b := true) (t := 48) rfl rfl rfl rfl ?_
      refine wpR_gskip (b := true) (t := 48) rfl rfl rfl rfl ?_
      refine wpR_gskipU (t := 57) rfl rfl rfl ?_
      refine wpR_gskipU (t := 57) rfl rfl rfl ?_
      refine wpR_gskipU (t := 57) rfl rfl rfl ?_
      refine wpR_gskip (b := true) (t := 48) rfl rfl rfl rfl ?_
      refine wpR_v (OpV_pickT rfl rfl) rfl (wpR_v (OpV_move rfl) rfl (wpR_gskip (b := true) (t := 63) rfl rfl rfl rfl ?_))
      refine wpR_gskip (b := true) (t := 63) rfl rfl rfl rfl ?_
      refine wpR_gskip (b := true) (t := 63) rfl rfl rfl rfl ?_
      refine wpR_gskip (b := true) (t := 63) rfl rfl rfl rfl ?_
      refine wpR_gskipU (t := 67) rfl rfl rfl ?_
      refine wpR_gskipU (t := 67) rfl rfl rfl ?_
      refine wpR_gskipU (t := 67) rfl rfl rfl ?_
      refine wpR_gskip (b := true) (t := 63) rfl rfl rfl rfl ?_
      refine wpR_gskip (b := true) (t := 63) rfl rfl rfl rfl ?_
      refine wpR_gskipU (t := 72) rfl rfl rfl ?_
      refine wpR_gskipU (t := 72) rfl rfl rfl ?_
      refine wpR_gskipU (t := 72) rfl rfl rfl ?_
      refine wpR_gskip (b := true) (t := 63) rfl rfl rfl rfl ?_
      refine wpR_v (OpV_pickT rfl rfl) rfl (wpR_v (OpV_move rfl) rfl (wpR_gskip (b := true) (t := 78) rfl rfl rfl rfl ?_))
      refine wpR_gskip (b := true) (t := 78) rfl rfl rfl rfl ?_
      refine wpR_gskip (b := true) (t := 78) rfl rfl rfl rfl ?_
      refine wpR_v (OpV_pickT rfl rfl) rfl (wpR_nil (QE_then_n ?_))
      exact wpC_le _ (by exact ⟨rfl, rfl, rfl, rfl, rfl, rfl, trivial⟩) (hK_45 true _ _ ⟨rfl, hS⟩ h)
     case false =>
      have h := if_f h hb_11
      try simp only [hb_11]
      refine wpR_gv (t := 39) rfl rfl (OpV_move rfl) rfl ?_
      refine wpR_gv (t := 39) rfl rfl (OpV_un rfl (u_not x_8)) rfl ?_
      refine wpR_gv (t := 39) rfl rfl (OpV_move rfl) rfl ?_
      cases hb_12 : (!x_8)
      case true =>
       have h := if_t h hb_12
       try simp only [hb_12]
       refine wpR_gv (t := 42) rfl rfl (OpV_fieldB (k := 2) Tryd.underlying42 rfl rfl nz9 rfl) rfl ?_
       refine wpR_gv (t := 42) rfl rfl (OpV_ldB Tryd.underlying9 rfl rfl (hS.bxc 1 rfl 2)) rfl ?_
       refine wpR_gv (t := 42) rfl rfl (OpV_bin rfl rfl (b_sneq _ x_4.2.2.1 [])) rfl ?_
       refine wpR_gv (t := 39) rfl rfl (OpV_pickT rfl rfl) rfl ?_
       refine wpR_v (OpV_pickF rfl rfl) rfl (wpR_v (OpV_move rfl) rfl ?_)
       cases hb_13 : (x_4.2.2.1 != [])
       case true =>
        have h := if_t h hb_13
        try simp only [hb_13]
        refine wpR_gskip (b := true) (t := 48) rfl rfl rfl rfl ?_
        refine wpR_gskip (b := true) (t := 48) rfl rfl rfl rfl ?_
        refine wpR_gskip (b := true) (t := 48) rfl rfl rfl rfl ?_
        refine wpR_gskip (b := true) (t := 48) rfl rfl rfl rfl ?_
        refine wpR_gskipU (t := 52) rfl rfl rfl ?_
        refine wpR_gskipU (t := 52) rfl rfl rfl ?_
        refine wpR_gskipU (t := 52) rfl rfl rfl ?_
        refine wpR_gskip (b := true) (t := 48) rfl rfl rfl rfl ?_
        refine wpR_gskip (b := true) (t := 48) rfl rfl rfl rfl ?_
        refine wpR_gskipU (t := 57) rfl rfl rfl ?_
        refine wpR_gskipU (t := 57) rfl rfl rfl ?_
        refine wpR_gskipU (t := 57) rfl rfl rfl ?_
        refine wpR_gskip (b := true) (t := 48) rfl rfl rfl rfl ?_
        refine wpR_v (OpV_pickT rfl rfl) rfl (wpR_v (OpV_move rfl) rfl (wpR_gskip (b := true) (t := 63) rfl rfl rfl rfl ?_))
        refine wpR_gskip (b := true) (t := 63) rfl rfl rfl rfl ?_
        refine wpR_gskip (b := true) (t := 63) rfl rfl rfl rfl ?_
        refine wpR_gskip (b := true) (t := 63) rfl rfl rfl rfl ?_
        refine wpR_gskipU (t := 67) rfl rfl rfl ?_
        refine wpR_gskipU (t := 67) rfl rfl rfl ?_
        refine wpR_gskipU (t := 67) rfl rfl rfl ?_
        refine wpR_gskip (b := true) (t := 63) rfl rfl rfl rfl ?_
        refine wpR_gskip (b := true) (t := 63) rfl rfl rfl rfl ?_
        refine wpR_gskipU (t := 72) rfl rfl rfl ?_
        refine wpR_gskipU (t := 72) rfl rfl rfl ?_
        refine wpR_gskipU (t := 72) rfl rfl rfl ?_
        refine wpR_gskip (b := true) (t := 63) rfl rfl rfl rfl ?_
        refine wpR_v (OpV_pickT rfl rfl) rfl (wpR_v (OpV_move rfl) rfl (wpR_gskip (b := true) (t := 78) rfl rfl rfl rfl ?_))
        refine wpR_gskip (b := true) (t := 78) rfl rfl rfl rfl ?_
        refine wpR_gskip (b := true) (t := 78) rfl rfl rfl rfl ?_
        refine wpR_v (OpV_pickT rfl rfl) rfl (wpR_nil (QE_then_n ?_))
        exact wpC_le _ (by exact ⟨rfl, rfl, rfl, rfl, rfl, rfl, trivial⟩) (hK_45 true _ _ ⟨rfl, hS⟩ h)
       case false =>
        have h := if_f h hb_13
        try simp only [hb_13]
        refine wpR_gv (t := 48) rfl rfl (OpV_fieldB (k := 0) Tryd.underlying42 rfl rfl nz3 rfl) rfl ?_
        refine wpR_gv (t := 48) rfl rfl (OpV_ldB Tryd.underlying3 rfl rfl (hS.bxc 1 rfl 0)) rfl ?_
        refine wpR_gv (t := 48) rfl rfl (OpV_bin rfl rfl (b_igeq _ x_4.1 2)) rfl ?_
        refine wpR_gv (t := 48) rfl rfl (OpV_move rfl) rfl ?_
        cases hb_14 : (decide ((2 : Int) ≤ x_4.1))
        case true =>
         have h := if_t h hb_14
         try simp only [hb_14]
         refine wpR_gv (t := 52) rfl rfl (OpV_fieldB (k := 0) Tryd.underlying42 rfl rfl nz3 rfl) rfl ?_
         refine wpR_gv (t := 52) rfl rfl (OpV_ldB Tryd.underlying3 rfl rfl (hS.bxc 1 rfl 0)) rfl ?_
         refine wpR_gv (t := 52) rfl rfl (OpV_bin rfl rfl (b_ileq _ x_4.1 5)) rfl ?_
         refine wpR_gv (t := 48) rfl rfl (OpV_pickT rfl rfl) rfl ?_
         refine wpR_gv (t := 48) rfl rfl (OpV_move rfl) rfl ?_
         cases hb_15 : (decide (x_4.1 ≤ 5))
         case true =>
          have h := if_t h hb_15
          try simp only [hb_15]
          refine wpR_gv (t := 57) rfl rfl (OpV_fieldB (k := 1) Tryd.underlying42 rfl rfl nz40 rfl) rfl ?_
          refine wpR_gv (t := 57) rfl rfl (OpV_ldB Tryd.underlying40 rfl rfl (hS.bxc 1 rfl 1)) rfl ?_
          refine wpR_gv (t := 57) rfl rfl (OpV_bin rfl rfl (b_neq64 _ x_4.2.1 0)) rfl ?_
          refine wpR_gv (t := 48) rfl rfl (OpV_pickT rfl rfl) rfl ?_
          refine wpR_v (OpV_pickF rfl rfl) rfl (wpR_v (OpV_move rfl) rfl ?_)
          cases hb_16 : (x_4.2.1 != 0)
          case true =>
           have h := if_t h hb_16
           try simp only [hb_16]
           refine wpR_gskip (b := true) (t := 63) rfl rfl rfl rfl ?_
           refine wpR_gskip (b := true) (t := 63) rfl rfl rfl rfl ?_
           refine wpR_gskip (b := true) (t := 63) rfl rfl rfl rfl ?_
           refine wpR_gskip (b := true) (t := 63) rfl rfl rfl rfl ?_
           refine wpR_gskipU (t := 67) rfl rfl rfl ?_
           refine wpR_gskipU (t := 67) rfl rfl rfl ?_
           refine wpR_gskipU (t := 67) rfl rfl rfl ?_
           refine wpR_gskip (b := true) (t := 63) rfl rfl rfl rfl ?_
           refine wpR_gskip (b := true) (t := 63) rfl rfl rfl rfl ?_
           refine wpR_gskipU (t := 72) rfl rfl rfl ?_
           refine wpR_gskipU (t := 72) rfl rfl rfl ?_
           refine wpR_gskipU (t := 72) rfl rfl rfl ?_
           refine wpR_gskip (b := true) (t := 63) rfl rfl rfl rfl ?_
           refine wpR_v (OpV_pickT rfl rfl) rfl (wpR_v (OpV_move rfl) rfl (wpR_gskip (b := true) (t := 78) rfl rfl rfl rfl ?_))
           refine wpR_gskip (b := true) (t := 78) rfl rfl rfl rfl ?_
           refine wpR_gskip (b := true) (t := 78) rfl rfl rfl rfl ?_
           refine wpR_v (OpV_pickT rfl rfl) rfl (wpR_nil (QE_then_n ?_))
           exact wpC_le _ (by exact ⟨rfl, rfl, rfl, rfl, rfl, rfl, trivial⟩) (hK_45 true _ _ ⟨rfl, hS⟩ h)
          case false =>
           have h := if_f h hb_16
           try simp only [hb_16]
           refine wpR_gv (t := 63) rfl rfl (OpV_fieldB (k := 0) Tryd.underlying42 rfl rfl nz3 rfl) rfl ?_
           refine wpR_gv (t := 63) rfl rfl (OpV_ldB Tryd.underlying3 rfl rfl (hS.bxc 1 rfl 0)) rfl ?_
           refine wpR_gv (t := 63) rfl rfl (OpV_bin rfl rfl (b_ilss _ x_4.1 4)) rfl ?_
           refine wpR_gv (t := 63) rfl rfl (OpV_move rfl) rfl ?_
           cases hb_17 : (decide (x_4.1 < 4))
           case true =>
            have h := if_t h hb_17
            try simp only [hb_17]
            refine wpR_gskip (b := true) (t := 67) rfl rfl rfl rfl ?_
            refine wpR_gskip (b := true) (t := 67) rfl rfl rfl rfl ?_
            refine wpR_gskip (b := true) (t := 67) rfl rfl rfl rfl ?_
            refine wpR_gv (t := 63) rfl rfl (OpV_pickT rfl rfl) rfl ?_
            refine wpR_gv (t := 63) rfl rfl (OpV_move rfl) rfl ?_
            refine wpR_gv (t := 72) rfl rfl (OpV_fieldB (k := 3) Tryd.underlying42 rfl rfl nz3 rfl) rfl ?_
            refine wpR_gv (t := 72) rfl rfl (OpV_ldB Tryd.underlying3 rfl rfl (hS.bxc 1 rfl 3)) rfl ?_
            refine wpR_gv (t := 72) rfl rfl (OpV_bin rfl rfl (b_ineq _ x_4.2.2.2 0)) rfl ?_
            refine wpR_gv (t := 63) rfl rfl (OpV_pickT rfl rfl) rfl ?_
            refine wpR_v (OpV_pickF rfl rfl) rfl (wpR_v (OpV_move rfl) rfl ?_)
            cases hb_18 : (x_4.2.2.2 != 0)
            case true =>
             have h := if_t h hb_18
             try simp only [hb_18]
             refine wpR_gskip (b := true) (t := 78) rfl rfl rfl rfl ?_
             refine wpR_gskip (b := true) (t := 78) rfl rfl rfl rfl ?_
             refine wpR_gskip (b := true) (t := 78) rfl rfl rfl rfl ?_
             refine wpR_v (OpV_pickT rfl rfl) rfl (wpR_nil (QE_then_n ?_))
             exact wpC_le _ (by exact ⟨rfl, rfl, rfl, rfl, rfl, rfl, trivial⟩) (hK_45 true _ _ ⟨rfl, hS⟩ h)
            case false =>
             have h := if_f h hb_18
             try simp only [hb_18]
             refine wpR_gv (t := 78) rfl rfl (OpV_fieldB (k := 3) Tryd.underlying42 rfl rfl nz3 rfl) rfl ?_
             refine wpR_gv (t := 78) rfl rfl (OpV_ldB Tryd.underlying3 rfl rfl (hS.bxc 1 rfl 3)) rfl ?_
             refine wpR_gv (t := 78) rfl rfl (OpV_bin rfl rfl (b_ilss _ x_4.2.2.2 0)) rfl ?_
             refine wpR_v (OpV_pickF rfl rfl) rfl (wpR_nil (QE_then_n ?_))
             exact wpC_le _ (by exact ⟨rfl, rfl, rfl, rfl, rfl, rfl, trivial⟩) (hK_45 (decide (x_4.2.2.2 < 0)) _ _ ⟨rfl, hS⟩ h)
           case false =>
            have h := if_f h hb_17
            try simp only [hb_17]
            refine wpR_gv (t := 67) rfl rfl (OpV_fieldB (k := 0) Tryd.underlying42 rfl rfl nz3 rfl) rfl ?_
            refine wpR_gv (t := 67) rfl rfl (OpV_ldB Tryd.underlying3 rfl rfl (hS.bxc 1 rfl 0)) rfl ?_
            refine wpR_gv (t := 67) rfl rfl (OpV_bin rfl rfl (b_ieql _ x_4.1 7)) rfl ?_
            refine wpR_gv (t := 63) rfl rfl (OpV_pickF rfl rfl) rfl ?_
            refine wpR_gv (t := 63) rfl rfl (OpV_move rfl) rfl ?_
            cases hb_19 : (x_4.1 == 7)
            case true =>
             have h := if_t h hb_19
             try simp only [hb_19]
             refine wpR_gv (t := 72) rfl rfl (OpV_fieldB (k := 3) Tryd.underlying42 rfl rfl nz3 rfl) rfl ?_
             refine wpR_gv (t := 72) rfl rfl (OpV_ldB Tryd.underlying3 rfl rfl (hS.bxc 1 rfl 3)) rfl ?_
             refine wpR_gv (t := 72) rfl rfl (OpV_bin rfl rfl (b_ineq _ x_4.2.2.2 0)) rfl ?_
             refine wpR_gv (t := 63) rfl rfl (OpV_pickT rfl rfl) rfl ?_
             refine wpR_v (OpV_pickF rfl rfl) rfl (wpR_v (OpV_move rfl) rfl ?_)
             cases hb_20 : (x_4.2.2.2 != 0)
             case true =>
              have h := if_t h hb_20
              try simp only [hb_20]
              refine wpR_gskip (b := true) (t := 78) rfl rfl rfl rfl ?_
              refine wpR_gskip (b := true) (t := 78) rfl rfl rfl rfl ?_
              refine wpR_gskip (b := true) (t := 78) rfl rfl rfl rfl ?_
              refine wpR_v (OpV_pickT rfl rfl) rfl (wpR_nil (QE_then_n ?_))
              exact wpC_le _ (by exact ⟨rfl, rfl, rfl, rfl, rfl, rfl, trivial⟩) (hK_45 true _ _ ⟨rfl, hS⟩ h)
             case false =>
              have h := if_f h hb_20
              try simp only [hb_20]
              refine wpR_gv (t := 78) rfl rfl (OpV_fieldB (k := 3) Tryd.underlying42 rfl rfl nz3 rfl) rfl ?_
              refine wpR_gv (t := 78) rfl rfl (OpV_ldB Tryd.underlying3 rfl rfl (hS.bxc 1 rfl 3)) rfl ?_
              refine wpR_gv (t := 78) rfl rfl (OpV_bin rfl rfl (b_ilss _ x_4.2.2.2 0)) rfl ?_
              refine wpR_v (OpV_pickF rfl rfl) rfl (wpR_nil (QE_then_n ?_))
              exact wpC_le _ (by exact ⟨rfl, rfl, rfl, rfl, rfl, rfl, trivial⟩) (hK_45 (decide (x_4.2.2.2 < 0)) _ _ ⟨rfl, hS⟩ h)
            case false =>
             have h := if_f h hb_19
             try simp only [hb_19]
             refine wpR_gskip (b := false) (t := 72) rfl rfl rfl rfl ?_
             refine wpR_gskip (b := false) (t := 72) rfl rfl rfl rfl ?_
             refine wpR_gskip (b := false) (t := 72) rfl rfl rfl rfl ?_
             refine wpR_gv (t := 63) rfl rfl (OpV_pickF rfl rfl) rfl ?_
             refine wpR_v (OpV_pickF rfl rfl) rfl (wpR_v (OpV_move rfl) rfl (wpR_gv (t := 78) rfl rfl (OpV_fieldB (k := 3) Tryd.underlying42 rfl rfl nz3 rfl) rfl ?_))
             refine wpR_gv (t := 78) rfl rfl (OpV_ldB Tryd.underlying3 rfl rfl (hS.bxc 1 rfl 3)) rfl ?_
             refine wpR_gv (t := 78) rfl rfl (OpV_bin rfl rfl (b_ilss _ x_4.2.2.2 0)) rfl ?_
             refine wpR_v (OpV_pickF rfl rfl) rfl (wpR_nil (QE_then_n ?_))
             exact wpC_le _ (by exact ⟨rfl, rfl, rfl, rfl, rfl, rfl, trivial⟩) (hK_45 (decide (x_4.2.2.2 < 0)) _ _ ⟨rfl, hS⟩ h)
         case false =>
          have h := if_f h hb_15
          try simp only [hb_15]
          refine wpR_gskip (b := false) (t := 57) rfl rfl rfl rfl ?_
          refine wpR_gskip (b := false) (t := 57) rfl rfl rfl rfl ?_
          refine wpR_gskip (b := false) (t := 57) rfl rfl rfl rfl ?_
          refine wpR_gv (t := 48) rfl rfl (OpV_pickF rfl rfl) rfl ?_
          refine wpR_v (OpV_pickF rfl rfl) rfl (wpR_v (OpV_move rfl) rfl (wpR_gv (t := 63) rfl rfl (OpV_fieldB (k := 0) Tryd.underlying42 rfl rfl nz3 rfl) rfl ?_))
          refine wpR_gv (t := 63) rfl rfl (OpV_ldB Tryd.underlying3 rfl rfl (hS.bxc 1 rfl 0)) rfl ?_
          refine wpR_gv (t := 63) rfl rfl (OpV_bin rfl rfl (b_ilss _ x_4.1 4)) rfl ?_
          refine wpR_gv (t := 63) rfl rfl (OpV_move rfl) rfl ?_
          cases hb_21 : (decide (x_4.1 < 4))
          case true =>
           have h := if_t h hb_21
           try simp only [hb_21]
           refine wpR_gskip (b := true) (t := 67) rfl rfl rfl rfl ?_
           refine wpR_gskip (b := true) (t := 67) rfl rfl rfl rfl ?_
           refine wpR_gskip (b := true) (t := 67) rfl rfl rfl rfl ?_
           refine wpR_gv (t := 63) rfl rfl (OpV_pickT rfl rfl) rfl ?_
           refine wpR_gv (t := 63) rfl rfl (OpV_move rfl) rfl ?_
           refine wpR_gv (t := 72) rfl rfl (OpV_fieldB (k := 3) Tryd.underlying42 rfl rfl nz3 rfl) rfl ?_
           refine wpR_gv (t := 72) rfl rfl (OpV_ldB Tryd.underlying3 rfl rfl (hS.bxc 1 rfl 3)) rfl ?_
           refine wpR_gv (t := 72) rfl rfl (OpV_bin rfl rfl (b_ineq _ x_4.2.2.2 0)) rfl ?_
           refine wpR_gv (t := 63) rfl rfl (OpV_pickT rfl rfl) rfl ?_
           refine wpR_v (OpV_pickF rfl rfl) rfl (wpR_v (OpV_move rfl) rfl ?_)
           cases hb_22 : (x_4.2.2.2 != 0)
           case true =>
            have h := if_t h hb_22
            try simp only [hb_22]
            refine wpR_gskip (b := true) (t := 78) rfl rfl rfl rfl ?_
            refine wpR_gskip (b := true) (t := 78) rfl rfl rfl rfl ?_
            refine wpR_gskip (b := true) (t := 78) rfl rfl rfl rfl ?_
            refine wpR_v (OpV_pickT rfl rfl) rfl (wpR_nil (QE_then_n ?_))
            exact wpC_le _ (by exact ⟨rfl, rfl, rfl, rfl, rfl, rfl, trivial⟩) (hK_45 true _ _ ⟨rfl, hS⟩ h)
           case false =>
            have h := if_f h hb_22
            try simp only [hb_22]
            refine wpR_gv (t := 78) rfl rfl (OpV_fieldB (k := 3) Tryd.underlying42 rfl rfl nz3 rfl) rfl ?_
            refine wpR_gv (t := 78) rfl rfl (OpV_ldB Tryd.underlying3 rfl rfl (hS.bxc 1 rfl 3)) rfl ?_
            refine wpR_gv (t := 78) rfl rfl (OpV_bin rfl rfl (b_ilss _ x_4.2.2.2 0)) rfl ?_
            refine wpR_v (OpV_pickF rfl rfl) rfl (wpR_nil (QE_then_n ?_))
            exact wpC_le _ (by exact ⟨rfl, rfl, rfl, rfl, rfl, rfl, trivial⟩) (hK_45 (decide (x_4.2.2.2 < 0)) _ _ ⟨rfl, hS⟩ h)
          case false =>
           have h := if_f h hb_21
           try simp only [hb_21]
           refine wpR_gv (t := 67) rfl rfl (OpV_fieldB (k := 0) Tryd.underlying42 rfl rfl nz3 rfl) rfl ?_
           refine wpR_gv (t := 67) rfl rfl (OpV_ldB Tryd.underlying3 rfl rfl (hS.bxc 1 rfl 0)) rfl ?_
           refine wpR_gv (t := 67) rfl rfl (OpV_bin rfl rfl (b_ieql _ x_4.1 7)) rfl ?_
           refine wpR_gv (t := 63) rfl rfl (OpV_pickF rfl rfl) rfl ?_
           refine wpR_gv (t := 63) rfl rfl (OpV_move rfl) rfl ?_
           cases hb_23 : (x_4.1 == 7)
           case true =>
            have h := if_t h hb_23
            try simp only [hb_23]
            refine wpR_gv (t := 72) rfl rfl (OpV_fieldB (k := 3) Tryd.underlying42 rfl rfl nz3 rfl) rfl ?_
            refine wpR_gv (t := 72) rfl rfl (OpV_ldB Tryd.underlying3 rfl rfl (hS.bxc 1 rfl 3)) rfl ?_
            refine wpR_gv (t := 72) rfl rfl (OpV_bin rfl rfl (b_ineq _ x_4.2.2.2 0)) rfl ?_
            refine wpR_gv (t := 63) rfl rfl (OpV_pickT rfl rfl) rfl ?_
            refine wpR_v (OpV_pickF rfl rfl) rfl (wpR_v (OpV_move rfl) rfl ?_)
            cases hb_24 : (x_4.2.2.2 != 0)
            case true =>
             have h := if_t h hb_24
             try simp only [hb_24]
             refine wpR_gskip (b := true) (t := 78) rfl rfl rfl rfl ?_
             refine wpR_gskip (b := true) (t := 78) rfl rfl rfl rfl ?_
             refine wpR_gskip (b := true) (t := 78) rfl rfl rfl rfl ?_
             refine wpR_v (OpV_pickT rfl rfl) rfl (wpR_nil (QE_then_n ?_))
             exact wpC_le _ (by exact ⟨rfl, rfl, rfl, rfl, rfl, rfl, trivial⟩) (hK_45 true _ _ ⟨rfl, hS⟩ h)
            case false =>
             have h := if_f h hb_24
             try simp only [hb_24]
             refine wpR_gv (t := 78) rfl rfl (OpV_fieldB (k := 3) Tryd.underlying42 rfl rfl nz3 rfl) rfl ?_
             refine wpR_gv (t := 78) rfl rfl (OpV_ldB Tryd.underlying3 rfl rfl (hS.bxc 1 rfl 3)) rfl ?_
             refine wpR_gv (t := 78) rfl rfl (OpV_bin rfl rfl (b_ilss _ x_4.2.2.2 0)) rfl ?_
             refine wpR_v (OpV_pickF rfl rfl) rfl (wpR_nil (QE_then_n ?_))
             exact wpC_le _ (by exact ⟨rfl, rfl, rfl, rfl, rfl, rfl, trivial⟩) (hK_45 (decide (x_4.2.2.2 < 0)) _ _ ⟨rfl, hS⟩ h)
           case false =>
            have h := if_f h hb_23
            try simp only [hb_23]
            refine wpR_gskip (b := false) (t := 72) rfl rfl rfl rfl ?_
            refine wpR_gskip (b := false) (t := 72) rfl rfl rfl rfl ?_
            refine wpR_gskip (b := false) (t := 72) rfl rfl rfl rfl ?_
            refine wpR_gv (t := 63) rfl rfl (OpV_pickF rfl rfl) rfl ?_
            refine wpR_v (OpV_pickF rfl rfl) rfl (wpR_v (OpV_move rfl) rfl (wpR_gv (t := 78) rfl rfl (OpV_fieldB (k := 3) Tryd.underlying42 rfl rfl nz3 rfl) rfl ?_))
            refine wpR_gv (t := 78) rfl rfl (OpV_ldB Tryd.underlying3 rfl rfl (hS.bxc 1 rfl 3)) rfl ?_
            refine wpR_gv (t := 78) rfl rfl (OpV_bin rfl rfl (b_ilss _ x_4.2.2.2 0)) rfl ?_
            refine wpR_v (OpV_pickF rfl rfl) rfl (wpR_nil (QE_then_n ?_))
            exact wpC_le _ (by exact ⟨rfl, rfl, rfl, rfl, rfl, rfl, trivial⟩) (hK_45 (decide (x_4.2.2.2 < 0)) _ _ ⟨rfl, hS⟩ h)
        case false =>
         have h := if_f h hb_14
         try simp only [hb_14]
         refine wpR_gskip (b := false) (t := 52) rfl rfl rfl rfl ?_
         refine wpR_gskip (b := false) (t := 52) rfl rfl rfl rfl ?_
         refine wpR_gskip (b := false) (t := 52) rfl rfl rfl rfl ?_
         refine wpR_gv (t := 48) rfl rfl (OpV_pickF rfl rfl) rfl ?_
         refine wpR_gv (t := 48) rfl rfl (OpV_move rfl) rfl ?_
         refine wpR_gskip (b := false) (t := 57) rfl rfl rfl rfl ?_
         refine wpR_gskip (b := false) (t := 57) rfl rfl rfl rfl ?_
         refine wpR_gskip (b := false) (t := 57) rfl rfl rfl rfl ?_
         refine wpR_gv (t := 48) rfl rfl (OpV_pickF rfl rfl) rfl ?_
         refine wpR_v (OpV_pickF rfl rfl) rfl (wpR_v (OpV_move rfl) rfl (wpR_gv (t := 63) rfl rfl (OpV_fieldB (k := 0) Tryd.underlying42 rfl rfl nz3 rfl) rfl ?_))
         refine wpR_gv (t := 63) rfl rfl (OpV_ldB Tryd.underlying3 rfl rfl (hS.bxc 1 rfl 0)) rfl ?_
         refine wpR_gv (t := 63) rfl rfl (OpV_bin rfl rfl (b_ilss _ x_4.1 4)) rfl ?_
         refine wpR_gv (t := 63) rfl rfl (OpV_move rfl) rfl ?_
         cases hb_25 : (decide (x_4.1 < 4))
         case true =>
          have h := if_t h hb_25
          try simp only [hb_25]
          refine wpR_gskip (b := true) (t := 67) rfl rfl rfl rfl ?_
          refine wpR_gskip (b := true) (t := 67) rfl rfl rfl rfl ?_
          refine wpR_gskip (b := true) (t := 67) rfl rfl rfl rfl ?_
          refine wpR_gv (t := 63) rfl rfl (OpV_pickT rfl rfl) rfl ?_
          refine wpR_gv (t := 63) rfl rfl (OpV_move rfl) rfl ?_
          refine wpR_gv (t := 72) rfl rfl (OpV_fieldB (k := 3) Tryd.underlying42 rfl rfl nz3 rfl) rfl ?_
          refine wpR_gv (t := 72) rfl rfl (OpV_ldB Tryd.underlying3 rfl rfl (hS.bxc 1 rfl 3)) rfl ?_
          refine wpR_gv (t := 72) rfl rfl (OpV_bin rfl rfl (b_ineq _ x_4.2.2.2 0)) rfl ?_
          refine wpR_gv (t := 63) rfl rfl (OpV_pickT rfl rfl) rfl ?_
          refine wpR_v (OpV_pickF rfl rfl) rfl (wpR_v (OpV_move rfl) rfl ?_)
          cases hb_26 : (x_4.2.2.2 != 0)
          case true =>
           have h := if_t h hb_26
           try simp only [hb_26]
           refine wpR_gskip (b := true) (t := 78) rfl rfl rfl rfl ?_
           refine wpR_gskip (b := true) (t := 78) rfl rfl rfl rfl ?_
           refine wpR_gskip (b := true) (t := 78) rfl rfl rfl rfl ?_
           refine wpR_v (OpV_pickT rfl rfl) rfl (wpR_nil (QE_then_n ?_))
           exact wpC_le _ (by exact ⟨rfl, rfl, rfl, rfl, rfl, rfl, trivial⟩) (hK_45 true _ _ ⟨rfl, hS⟩ h)
          case false =>
           have h := if_f h hb_26
           try simp only [hb_26]
           refine wpR_gv (t := 78) rfl rfl (OpV_fieldB (k := 3) Tryd.underlying42 rfl rfl nz3 rfl) rfl ?_
           refine wpR_gv (t := 78) rfl rfl (OpV_ldB Tryd.underlying3 rfl rfl (hS.bxc 1 rfl 3)) rfl ?_
           refine wpR_gv (t := 78) rfl rfl (OpV_bin rfl rfl (b_ilss _ x_4.2.2.2 0)) rfl ?_
           refine wpR_v (OpV_pickF rfl rfl) rfl (wpR_nil (QE_then_n ?_))
           exact wpC_le _ (by exact ⟨rfl, rfl, rfl, rfl, rfl, rfl, trivial⟩) (hK_45 (decide (x_4.2.2.2 < 0)) _ _ ⟨rfl, hS⟩ h)
         case false =>
          have h := if_f h hb_25
          try simp only [hb_25]
          refine wpR_gv (t := 67) rfl rfl (OpV_fieldB (k := 0) Tryd.underlying42 rfl rfl nz3 rfl) rfl ?_
          refine wpR_gv (t := 67) rfl rfl (OpV_ldB Tryd.underlying3 rfl rfl (hS.bxc 1 rfl 0)) rfl ?_
          refine wpR_gv (t := 67) rfl rfl (OpV_bin rfl rfl (b_ieql _ x_4.1 7)) rfl ?_
          refine wpR_gv (t := 63) rfl rfl (OpV_pickF rfl rfl) rfl ?_
          refine wpR_gv (t := 63) rfl rfl (OpV_move rfl) rfl ?_
          cases hb_27 : (x_4.1 == 7)
          case true =>
           have h := if_t h hb_27
           try simp only [hb_27]
           refine wpR_gv (t := 72) rfl rfl (OpV_fieldB (k := 3) Tryd.underlying42 rfl rfl nz3 rfl) rfl ?_
           refine wpR_gv (t := 72) rfl rfl (OpV_ldB Tryd.underlying3 rfl rfl (hS.bxc 1 rfl 3)) rfl ?_
           refine wpR_gv (t := 72) rfl rfl (OpV_bin rfl rfl (b_ineq _ x_4.2.2.2 0)) rfl ?_
           refine wpR_gv (t := 63) rfl rfl (OpV_pickT rfl rfl) rfl ?_
           refine wpR_v (OpV_pickF rfl rfl) rfl (wpR_v (OpV_move rfl) rfl ?_)
           cases hb_28 : (x_4.2.2.2 != 0)
           case true =>
            have h := if_t h hb_28
            try simp only [hb_28]
            refine wpR_gskip (b := true) (t := 78) rfl rfl rfl rfl ?_
            refine wpR_gskip (b := true) (t := 78) rfl rfl rfl rfl ?_
            refine wpR_gskip (b := true) (t := 78) rfl rfl rfl rfl ?_
            refine wpR_v (OpV_pickT rfl rfl) rfl (wpR_nil (QE_then_n ?_))
            exact wpC_le _ (by exact ⟨rfl, rfl, rfl, rfl, rfl, rfl, trivial⟩) (hK_45 true _ _ ⟨rfl, hS⟩ h)
           case false =>
            have h := if_f h hb_28
            try simp only [hb_28]
            refine wpR_gv (t := 78) rfl rfl (OpV_fieldB (k := 3) Tryd.underlying42 rfl rfl nz3 rfl) rfl ?_
            refine wpR_gv (t := 78) rfl rfl (OpV_ldB Tryd.underlying3 rfl rfl (hS.bxc 1 rfl 3)) rfl ?_
            refine wpR_gv (t := 78) rfl rfl (OpV_bin rfl rfl (b_ilss _ x_4.2.2.2 0)) rfl ?_
            refine wpR_v (OpV_pickF rfl rfl) rfl (wpR_nil (QE_then_n ?_))
            exact wpC_le _ (by exact ⟨rfl, rfl, rfl, rfl, rfl, rfl, trivial⟩) (hK_45 (decide (x_4.2.2.2 < 0)) _ _ ⟨rfl, hS⟩ h)
          case false =>
           have h := if_f h hb_27
           try simp only [hb_27]
           refine wpR_gskip (b := false) (t := 72) rfl rfl rfl rfl ?_
           refine wpR_gskip (b := false) (t := 72) rfl rfl rfl rfl ?_
           refine wpR_gskip (b := false) (t := 72) rfl rfl rfl rfl ?_
           refine wpR_gv (t := 63) rfl rfl (OpV_pickF rfl rfl) rfl ?_
           refine wpR_v (OpV_pickF rfl rfl) rfl (wpR_v (OpV_move rfl) rfl (wpR_gv (t := 78) rfl rfl (OpV_fieldB (k := 3) Tryd.underlying42 rfl rfl nz3 rfl) rfl ?_))
           refine wpR_gv (t := 78) rfl rfl (OpV_ldB Tryd.underlying3 rfl rfl (hS.bxc 1 rfl 3)) rfl ?_
           refine wpR_gv (t := 78) rfl rfl (OpV_bin rfl rfl (b_ilss _ x_4.2.2.2 0)) rfl ?_
           refine wpR_v (OpV_pickF rfl rfl) rfl (wpR_nil (QE_then_n ?_))
           exact wpC_le _ (by exact ⟨rfl, rfl, rfl, rfl, rfl, rfl, trivial⟩) (hK_45 (decide (x_4.2.2.2 < 0)) _ _ ⟨rfl, hS⟩ h)
      case false =>
       have h := if_f h hb_12
       try simp only [hb_12]
       refine wpR_gskip (b := false) (t := 42) rfl rfl rfl rfl ?_
       refine wpR_gskip (b := false) (t := 42) rfl rfl rfl rfl ?_
       refine wpR_gskip (b := false) (t := 42) rfl rfl rfl rfl ?_
       refine wpR_gv (t := 39) rfl rfl (OpV_pickF rfl rfl) rfl ?_
       refine wpR_v (OpV_pickF rfl rfl) rfl (wpR_v (OpV_move rfl) rfl (wpR_gv (t := 48) rfl rfl (OpV_fieldB (k := 0) Tryd.underlying42 rfl rfl nz3 rfl) rfl ?_))
       refine wpR_gv (t := 48) rfl rfl (OpV_ldB Tryd.underlying3 rfl rfl (hS.bxc 1 rfl 0)) rfl ?_
       refine wpR_gv (t := 48) rfl rfl (OpV_bin rfl rfl (b_igeq _ x_4.1 2)) rfl ?_
       refine wpR_gv (t := 48) rfl rfl (OpV_move rfl) rfl ?_
       cases hb_29 : (decide ((2 : Int) ≤ x_4.1))
       case true =>
        have h := if_t h hb_29
        try simp only [hb_29]
        refine wpR_gv (t := 52) rfl rfl (OpV_fieldB (k := 0) Tryd.underlying42 rfl rfl nz3 rfl) rfl ?_
        refine wpR_gv (t := 52) rfl rfl (OpV_ldB Tryd.underlying3 rfl rfl (hS.bxc 1 rfl 0)) rfl ?_
        refine wpR_gv (t := 52) rfl rfl (OpV_bin rfl rfl (b_ileq _ x_4.1 5)) rfl ?_
        refine wpR_gv (t := 48) rfl rfl (OpV_pickT rfl rfl) rfl ?_
        refine wpR_gv (t := 48) rfl rfl (OpV_move rfl) rfl ?_
        cases hb_30 : (decide (x_4.1 ≤ 5))
        case true =>
         have h := if_t h hb_30
         try simp only [hb_30]
         refine wpR_gv (t := 57) rfl rfl (OpV_fieldB (k := 1) Tryd.underlying42 rfl rfl nz40 rfl) rfl ?_
         refine wpR_gv (t := 57) rfl rfl (OpV_ldB Tryd.underlying40 rfl rfl (hS.bxc 1 rfl 1)) rfl ?_
         refine wpR_gv (t := 57) rfl rfl (OpV_bin rfl rfl (b_neq64 _ x_4.2.1 0)) rfl ?_
         refine wpR_gv (t := 48) rfl rfl (OpV_pickT rfl rfl) rfl ?_
         refine wpR_v (OpV_pickF rfl rfl) rfl (wpR_v (OpV_move rfl) rfl ?_)
         cases hb_31 : (x_4.2.1 != 0)
         case true =>
          have h := if_t h hb_31
          try simp only [hb_31]
          refine wpR_gskip (b := true) (t := 63) rfl rfl rfl rfl ?_
          refine wpR_gskip (b := true) (t := 63) rfl rfl rfl rfl ?_
          refine wpR_gskip (b := true) (t := 63) rfl rfl rfl rfl ?_
          refine wpR_gskip (b := true) (t := 63) rfl rfl rfl rfl ?_
          refine wpR_gskipU (t := 67) rfl rfl rfl ?_
          refine wpR_gskipU (t := 67) rfl rfl rfl ?_
          refine wpR_gskipU (t := 67) rfl rfl rfl ?_
          refine wpR_gskip (b := true) (t := 63) rfl rfl rfl rfl ?_
          refine wpR_gskip (b := true) (t := 63) rfl rfl rfl rfl ?_
          refine wpR_gskipU (t := 72) rfl rfl rfl ?_
          refine wpR_gskipU (t := 72) rfl rfl rfl ?_
          refine wpR_gskipU (t := 72) rfl rfl rfl ?_
          refine wpR_gskip (b := true) (t := 63) rfl rfl rfl rfl ?_
          refine wpR_v (OpV_pickT rfl rfl) rfl (wpR_v (OpV_move rfl) rfl (wpR_gskip (b := true) (t := 78) rfl rfl rfl rfl ?_))
          refine wpR_gskip (b := true) (t := 78) rfl rfl rfl rfl ?_
          refine wpR_gskip (b := true) (t := 78) rfl rfl rfl rfl ?_
          refine wpR_v (OpV_pickT rfl rfl) rfl (wpR_nil (QE_then_n ?_))
          exact wpC_le _ (by exact ⟨rfl, rfl, rfl, rfl, rfl, rfl, trivial⟩) (hK_45 true _ _ ⟨rfl, hS⟩ h)
         case false =>
          have h := if_f h hb_31
          try simp only [hb_31]
          refine wpR_gv (t := 63) rfl rfl (OpV_fieldB (k := 0) Tryd.underlying42 rfl rfl nz3 rfl) rfl ?_
          refine wpR_gv (t := 63) rfl rfl (OpV_ldB Tryd.underlying3 rfl rfl (hS.bxc 1 rfl 0)) rfl ?_
          refine wpR_gv (t := 63) rfl rfl (OpV_bin rfl rfl (b_ilss _ x_4.1 4)) rfl ?_
          refine wpR_gv (t := 63) rfl rfl (OpV_move rfl) rfl ?_
          cases hb_32 : (decide (x_4.1 < 4))
          case true =>
           have h := if_t h hb_32
           try simp only [hb_32]
           refine wpR_gskip (b := true) (t := 67) rfl rfl rfl rfl ?_
           refine wpR_gskip (b := true) (t := 67) rfl rfl rfl rfl ?_
           refine wpR_gskip (b := true) (t := 67) rfl rfl rfl rfl ?_
           refine wpR_gv (t := 63) rfl rfl (OpV_pickT rfl rfl) rfl ?_
           refine wpR_gv (t := 63) rfl rfl (OpV_move rfl) rfl ?_
           refine wpR_gv (t := 72) rfl rfl (OpV_fieldB (k := 3) Tryd.underlying42 rfl rfl nz3 rfl) rfl ?_
           refine wpR_gv (t := 72) rfl rfl (OpV_ldB Tryd.underlying3 rfl rfl (hS.bxc 1 rfl 3)) rfl ?_
           refine wpR_gv (t := 72) rfl rfl (OpV_bin rfl rfl (b_ineq _ x_4.2.2.2 0)) rfl ?_
           refine wpR_gv (t := 63) rfl rfl (OpV_pickT rfl rfl) rfl ?_
           refine wpR_v (OpV_pickF rfl rfl) rfl (wpR_v (OpV_move rfl) rfl ?_)
           cases hb_33 : (x_4.2.2.2 != 0)
           case true =>
            have h := if_t h hb_33
            try simp only [hb_33]
            refine wpR_gskip (b := true) (t := 78) rfl rfl rfl rfl ?_
            refine wpR_gskip (b := true) (t := 78) rfl rfl rfl rfl ?_
            refine wpR_gskip (b := true) (t := 78) rfl rfl rfl rfl ?_
            refine wpR_v (OpV_pickT rfl rfl) rfl (wpR_nil (QE_then_n ?_))
            exact wpC_le _ (by exact ⟨rfl, rfl, rfl, rfl, rfl, rfl, trivial⟩) (hK_45 true _ _ ⟨rfl, hS⟩ h)
           case false =>
            have h := if_f h hb_33
            try simp only [hb_33]
            refine wpR_gv (t := 78) rfl rfl (OpV_fieldB (k := 3) Tryd.underlying42 rfl rfl nz3 rfl) rfl ?_
            refine wpR_gv (t := 78) rfl rfl (OpV_ldB Tryd.underlying3 rfl rfl (hS.bxc 1 rfl 3)) rfl ?_
            refine wpR_gv (t := 78) rfl rfl (OpV_bin rfl rfl (b_ilss _ x_4.2.2.2 0)) rfl ?_
            refine wpR_v (OpV_pickF rfl rfl) rfl (wpR_nil (QE_then_n ?_))
            exact wpC_le _ (by exact ⟨rfl, rfl, rfl, rfl, rfl, rfl, trivial⟩) (hK_45 (decide (x_4.2.2.2 < 0)) _ _ ⟨rfl, hS⟩ h)
          case false =>
           have h := if_f h hb_32
           try simp only [hb_32]
           refine wpR_gv (t := 67) rfl rfl (OpV_fieldB (k := 0) Tryd.underlying42 rfl rfl nz3 rfl) rfl ?_
           refine wpR_gv (t := 67) rfl rfl (OpV_ldB Tryd.underlying3 rfl rfl (hS.bxc 1 rfl 0)) rfl ?_
           refine wpR_gv (t := 67) rfl rfl (OpV_bin rfl rfl (b_ieql _ x_4.1 7)) rfl ?_
           refine wpR_gv (t := 63) rfl rfl (OpV_pickF rfl rfl) rfl ?_
           refine wpR_gv (t := 63) rfl rfl (OpV_move rfl) rfl ?_
           cases hb_34 : (x_4.1 == 7)
           case true =>
            have h := if_t h hb_34
            try simp only [hb_34]
            refine wpR_gv (t := 72) rfl rfl (OpV_fieldB (k := 3) Tryd.underlying42 rfl rfl nz3 rfl) rfl ?_
            refine wpR_gv (t := 72) rfl rfl (OpV_ldB Tryd.underlying3 rfl rfl (hS.bxc 1 rfl 3)) rfl ?_
            refine wpR_gv (t := 72) rfl rfl (OpV_bin rfl rfl (b_ineq _ x_4.2.2.2 0)) rfl ?_
            refine wpR_gv (t := 63) rfl rfl (OpV_pickT rfl rfl) rfl ?_
            refine wpR_v (OpV_pickF rfl rfl) rfl (wpR_v (OpV_move rfl) rfl ?_)
            cases hb_35 : (x_4.2.2.2 != 0)
            case true =>
             have h := if_t h hb_35
             try simp only [hb_35]
             refine wpR_gskip (b := true) (t := 78) rfl rfl rfl rfl ?_
             refine wpR_gskip (b := true) (t := 78) rfl rfl rfl rfl ?_
             refine wpR_gskip (b := true) (t := 78) rfl rfl rfl rfl ?_
             refine wpR_v (OpV_pickT rfl rfl) rfl (wpR_nil (QE_then_n ?_))
             exact wpC_le _ (by exact ⟨rfl, rfl, rfl, rfl, rfl, rfl, trivial⟩) (hK_45 true _ _ ⟨rfl, hS⟩ h)
            case false =>
             have h := if_f h hb_35
             try simp only [hb_35]
             refine wpR_gv (t := 78) rfl rfl (OpV_fieldB (k := 3) Tryd.underlying42 rfl rfl nz3 rfl) rfl ?_
             refine wpR_gv (t := 78) rfl rfl (OpV_ldB Tryd.underlying3 rfl rfl (hS.bxc 1 rfl 3)) rfl ?_
             refine wpR_gv (t := 78) rfl rfl (OpV_bin rfl rfl (b_ilss _ x_4.2.2.2 0)) rfl ?_
             refine wpR_v (OpV_pickF rfl rfl) rfl (wpR_nil (QE_then_n ?_))
             exact wpC_le _ (by exact ⟨rfl, rfl, rfl, rfl, rfl, rfl, trivial⟩) (hK_45 (decide (x_4.2.2.2 < 0)) _ _ ⟨rfl, hS⟩ h)
           case false =>
            have h := if_f h hb_34
            try simp only [hb_34]
            refine wpR_gskip (b := false) (t := 72) rfl rfl rfl rfl ?_
            refine wpR_gskip (b := false) (t := 72) rfl rfl rfl rfl ?_
            refine wpR_gskip (b := false) (t := 72) rfl rfl rfl rfl ?_
            refine wpR_gv (t := 63) rfl rfl (OpV_pickF rfl rfl) rfl ?_
            refine wpR_v (OpV_pickF rfl rfl) rfl (wpR_v (OpV_move rfl) rfl (wpR_gv (t := 78) rfl rfl (OpV_fieldB (k := 3) Tryd.underlying42 rfl rfl nz3 rfl) rfl ?_))
            refine wpR_gv (t := 78) rfl rfl (OpV_ldB Tryd.underlying3 rfl rfl (hS.bxc 1 rfl 3)) rfl ?_
            refine wpR_gv (t := 78) rfl rfl (OpV_bin rfl rfl (b_ilss _ x_4.2.2.2 0)) rfl ?_
            refine wpR_v (OpV_pickF rfl rfl) rfl (wpR_nil (QE_then_n ?_))
            exact wpC_le _ (by exact ⟨rfl, rfl, rfl, rfl, rfl, rfl, trivial⟩) (hK_45 (decide (x_4.2.2.2 < 0)) _ _ ⟨rfl, hS⟩ h)
        case false =>
         have h := if_f h hb_30
         try simp only [hb_30]
         refine wpR_gskip (b := false) (t := 57) rfl rfl rfl rfl ?_
         refine wpR_gskip (b := false) (t := 57) rfl rfl rfl rfl ?_
         refine wpR_gskip (b := false) (t := 57) rfl rfl rfl rfl ?_
         refine wpR_gv (t := 48) rfl rfl (OpV_pickF rfl rfl) rfl ?_
         refine wpR_v (OpV_pickF rfl rfl) rfl (wpR_v (OpV_move rfl) rfl (wpR_gv (t := 63) rfl rfl (OpV_fieldB (k := 0) Tryd.underlying42 rfl rfl nz3 rfl) rfl ?_))
         refine wpR_gv (t := 63) rfl rfl (OpV_ldB Tryd.underlying3 rfl rfl (hS.bxc 1 rfl 0)) rfl ?_
         refine wpR_gv (t := 63) rfl rfl (OpV_bin rfl rfl (b_ilss _ x_4.1 4)) rfl ?_
         refine wpR_gv (t := 63) rfl rfl (OpV_move rfl) rfl ?_
         cases hb_36 : (decide (x_4.1 < 4))
         case true =>
          have h := if_t h hb_36
          try simp only [hb_36]
          refine wpR_gskip (b := true) (t := 67) rfl rfl rfl rfl ?_
          refine wpR_gskip (b := true) (t := 67) rfl rfl rfl rfl ?_
          refine wpR_gskip (b := true) (t := 67) rfl rfl rfl rfl ?_
          refine wpR_gv (t := 63) rfl rfl (OpV_pickT rfl rfl) rfl ?_
          refine wpR_gv (t := 63) rfl rfl (OpV_move rfl) rfl ?_
          refine wpR_gv (t := 72) rfl rfl (OpV_fieldB (k := 3) Tryd.underlying42 rfl rfl nz3 rfl) rfl ?_
          refine wpR_gv (t := 72) rfl rfl (OpV_ldB Tryd.underlying3 rfl rfl (hS.bxc 1 rfl 3)) rfl ?_
          refine wpR_gv (t := 72) rfl rfl (OpV_bin rfl rfl (b_ineq _ x_4.2.2.2 0)) rfl ?_
          refine wpR_gv (t := 63) rfl rfl (OpV_pickT rfl rfl) rfl ?_
          refine wpR_v (OpV_pickF rfl rfl) rfl (wpR_v (OpV_move rfl) rfl ?_)
          cases hb_37 : (x_4.2.2.2 != 0)
          case true =>
           have h := if_t h hb_37
           try simp only [hb_37]
           refine wpR_gskip (b := true) (t := 78) rfl rfl rfl rfl ?_
           refine wpR_gskip (b := true) (t := 78) rfl rfl rfl rfl ?_
           refine wpR_gskip (b := true) (t := 78) rfl rfl rfl rfl ?_
           refine wpR_v (OpV_pickT rfl rfl) rfl (wpR_nil (QE_then_n ?_))
           exact wpC_le _ (by exact ⟨rfl, rfl, rfl, rfl, rfl, rfl, trivial⟩) (hK_45 true _ _ ⟨rfl, hS⟩ h)
          case false =>
           have h := if_f h hb_37
           try simp only [hb_37]
           refine wpR_gv (t := 78) rfl rfl (OpV_fieldB (k := 3) Tryd.underlying42 rfl rfl nz3 rfl) rfl ?_
           refine wpR_gv (t := 78) rfl rfl (OpV_ldB Tryd.underlying3 rfl rfl (hS.bxc 1 rfl 3)) rfl ?_
           refine wpR_gv (t := 78) rfl rfl (OpV_bin rfl rfl (b_ilss _ x_4.2.2.2 0)) rfl ?_
           refine wpR_v (OpV_pickF rfl rfl) rfl (wpR_nil (QE_then_n ?_))
           exact wpC_le _ (by exact ⟨rfl, rfl, rfl, rfl, rfl, rfl, trivial⟩) (hK_45 (decide (x_4.2.2.2 < 0)) _ _ ⟨rfl, hS⟩ h)
         case false =>
          have h := if_f h hb_36
          try simp only [hb_36]
          refine wpR_gv (t := 67) rfl rfl (OpV_fieldB (k := 0) Tryd.underlying42 rfl rfl nz3 rfl) rfl ?_
          refine wpR_gv (t := 67) rfl rfl (OpV_ldB Tryd.underlying3 rfl rfl (hS.bxc 1 rfl 0)) rfl ?_
          refine wpR_gv (t := 67) rfl rfl (OpV_bin rfl rfl (b_ieql _ x_4.1 7)) rfl ?_
          refine wpR_gv (t := 63) rfl rfl (OpV_pickF rfl rfl) rfl ?_
          refine wpR_gv (t := 63) rfl rfl (OpV_move rfl) rfl ?_
          cases hb_38 : (x_4.1 == 7)
          case true =>
           have h := if_t h hb_38
           try simp only [hb_38]
           refine wpR_gv (t := 72) rfl rfl (OpV_fieldB (k := 3) Tryd.underlying42 rfl rfl nz3 rfl) rfl ?_
           refine wpR_gv (t := 72) rfl rfl (OpV_ldB Tryd.underlying3 rfl rfl (hS.bxc 1 rfl 3)) rfl ?_
           refine wpR_gv (t := 72) rfl rfl (OpV_bin rfl rfl (b_ineq _ x_4.2.2.2 0)) rfl ?_
           refine wpR_gv (t := 63) rfl rfl (OpV_pickT rfl rfl) rfl ?_
           refine wpR_v (OpV_pickF rfl rfl) rfl (wpR_v (OpV_move rfl) rfl ?_)
           cases hb_39 : (x_4.2.2.2 != 0)
           case true =>
            have h := if_t h hb_39
            try simp only [hb_39]
            refine wpR_gskip (b := true) (t := 78) rfl rfl rfl rfl ?_
            refine wpR_gskip (b := true) (t := 78) rfl rfl rfl rfl ?_
            refine wpR_gskip (b := true) (t := 78) rfl rfl rfl rfl ?_
            refine wpR_v (OpV_pickT rfl rfl) rfl (wpR_nil (QE_then_n ?_))
            exact wpC_le _ (by exact ⟨rfl, rfl, rfl, rfl, rfl, rfl, trivial⟩) (hK_45 true _ _ ⟨rfl, hS⟩ h)
           case false =>
            have h := if_f h hb_39
            try simp only [hb_39]
            refine wpR_gv (t := 78) rfl rfl (OpV_fieldB (k := 3) Tryd.underlying42 rfl rfl nz3 rfl) rfl ?_
            refine wpR_gv (t := 78) rfl rfl (OpV_ldB Tryd.underlying3 rfl rfl (hS.bxc 1 rfl 3)) rfl ?_
            refine wpR_gv (t := 78) rfl rfl (OpV_bin rfl rfl (b_ilss _ x_4.2.2.2 0)) rfl ?_
            refine wpR_v (OpV_pickF rfl rfl) rfl (wpR_nil (QE_then_n ?_))
            exact wpC_le _ (by exact ⟨rfl, rfl, rfl, rfl, rfl, rfl, trivial⟩) (hK_45 (decide (x_4.2.2.2 < 0)) _ _ ⟨rfl, hS⟩ h)
          case false =>
           have h := if_f h hb_38
           try simp only [hb_38]
           refine wpR_gskip (b := false) (t := 72) rfl rfl rfl rfl ?_
           refine wpR_gskip (b := false) (t := 72) rfl rfl rfl rfl ?_
           refine wpR_gskip (b := false) (t := 72) rfl rfl rfl rfl ?_
           refine wpR_gv (t := 63) rfl rfl (OpV_pickF rfl rfl) rfl ?_
           refine wpR_v (OpV_pickF rfl rfl) rfl (wpR_v (OpV_move rfl) rfl (wpR_gv (t := 78) rfl rfl (OpV_fieldB (k := 3) Tryd.underlying42 rfl rfl nz3 rfl) rfl ?_))
           refine wpR_gv (t := 78) rfl rfl (OpV_ldB Tryd.underlying3 rfl rfl (hS.bxc 1 rfl 3)) rfl ?_
           refine wpR_gv (t := 78) rfl rfl (OpV_bin rfl rfl (b_ilss _ x_4.2.2.2 0)) rfl ?_
           refine wpR_v (OpV_pickF rfl rfl) rfl (wpR_nil (QE_then_n ?_))
           exact wpC_le _ (by exact ⟨rfl, rfl, rfl, rfl, rfl, rfl, trivial⟩) (hK_45 (decide (x_4.2.2.2 < 0)) _ _ ⟨rfl, hS⟩ h)
       case false =>
        have h := if_f h hb_29
        try simp only [hb_29]
        refine wpR_gskip (b := false) (t := 52) rfl rfl rfl rfl ?_
        refine wpR_gskip (b := false) (t := 52) rfl rfl rfl rfl ?_
        refine wpR_gskip (b := false) (t := 52) rfl rfl rfl rfl ?_
        refine wpR_gv (t := 48) rfl rfl (OpV_pickF rfl rfl) rfl ?_
        refine wpR_gv (t := 48) rfl rfl (OpV_move rfl) rfl ?_
        refine wpR_gskip (b := false) (t := 57) rfl rfl rfl rfl ?_
        refine wpR_gskip (b := false) (t := 57) rfl rfl rfl rfl ?_
        refine wpR_gskip (b := false) (t := 57) rfl rfl rfl rfl ?_
        refine wpR_gv (t := 48) rfl rfl (OpV_pickF rfl rfl) rfl ?_
        refine wpR_v (OpV_pickF rfl rfl) rfl (wpR_v (OpV_move rfl) rfl (wpR_gv (t := 63) rfl rfl (OpV_fieldB (k := 0) Tryd.underlying42 rfl rfl nz3 rfl) rfl ?_))
        refine wpR_gv (t := 63) rfl rfl (OpV_ldB Tryd.underlying3 rfl rfl (hS.bxc 1 rfl 0)) rfl ?_
        refine wpR_gv (t := 63) rfl rfl (OpV_bin rfl rfl (b_ilss _ x_4.1 4)) rfl ?_
        refine wpR_gv (t := 63) rfl rfl (OpV_move rfl) rfl ?_
        cases hb_40 : (decide (x_4.1 < 4))
        case true =>
         have h := if_t h hb_40
         try simp only [hb_40]
         refine wpR_gskip (b := true) (t := 67) rfl rfl rfl rfl ?_
         refine wpR_gskip (b := true) (t := 67) rfl rfl rfl rfl ?_
         refine wpR_gskip (b := true) (t := 67) rfl rfl rfl rfl ?_
         refine wpR_gv (t := 63) rfl rfl (OpV_pickT rfl rfl) rfl ?_
         refine wpR_gv (t := 63) rfl rfl (OpV_move rfl) rfl ?_
         refine wpR_gv (t := 72) rfl rfl (OpV_fieldB (k := 3) Tryd.underlying42 rfl rfl nz3 rfl) rfl ?_
         refine wpR_gv (t := 72) rfl rfl (OpV_ldB Tryd.underlying3 rfl rfl (hS.bxc 1 rfl 3)) rfl ?_
         refine wpR_gv (t := 72) rfl rfl (OpV_bin rfl rfl (b_ineq _ x_4.2.2.2 0)) rfl ?_
         refine wpR_gv (t := 63) rfl rfl (OpV_pickT rfl rfl) rfl ?_
         refine wpR_v (OpV_pickF rfl rfl) rfl (wpR_v (OpV_move rfl) rfl ?_)
         cases hb_41 : (x_4.2.2.2 != 0)
         case true =>
          have h := if_t h hb_41
          try simp only [hb_41]
          refine wpR_gskip (b := true) (t := 78) rfl rfl rfl rfl ?_
          refine wpR_gskip (b := true) (t := 78) rfl rfl rfl rfl ?_
          refine wpR_gskip (b := true) (t := 78) rfl rfl rfl rfl ?_
          refine wpR_v (OpV_pickT rfl rfl) rfl (wpR_nil (QE_then_n ?_))
          exact wpC_le _ (by exact ⟨rfl, rfl, rfl, rfl, rfl, rfl, trivial⟩) (hK_45 true _ _ ⟨rfl, hS⟩ h)
         case false =>
          have h := if_f h hb_41
          try simp only [hb_41]
          refine wpR_gv (t := 78) rfl rfl (OpV_fieldB (k := 3) Tryd.underlying42 rfl rfl nz3 rfl) rfl ?_
          refine wpR_gv (t := 78) rfl rfl (OpV_ldB Tryd.underlying3 rfl rfl (hS.bxc 1 rfl 3)) rfl ?_
          refine wpR_gv (t := 78) rfl rfl (OpV_bin rfl rfl (b_ilss _ x_4.2.2.2 0)) rfl ?_
          refine wpR_v (OpV_pickF rfl rfl) rfl (wpR_nil (QE_then_n ?_))
          exact wpC_le _ (by exact ⟨rfl, rfl, rfl, rfl, rfl, rfl, trivial⟩) (hK_45 (decide (x_4.2.2.2 < 0)) _ _ ⟨rfl, hS⟩ h)
        case false =>
         have h := if_f h hb_40
         try simp only [hb_40]
         refine wpR_gv (t := 67) rfl rfl (OpV_fieldB (k := 0) Tryd.underlying42 rfl rfl nz3 rfl) rfl ?_
         refine wpR_gv (t := 67) rfl rfl (OpV_ldB Tryd.underlying3 rfl rfl (hS.bxc 1 rfl 0)) rfl ?_
         refine wpR_gv (t := 67) rfl rfl (OpV_bin rfl rfl (b_ieql _ x_4.1 7)) rfl ?_
         refine wpR_gv (t := 63) rfl rfl (OpV_pickF rfl rfl) rfl ?_
         refine wpR_gv (t := 63) rfl rfl (OpV_move rfl) rfl ?_
         cases hb_42 : (x_4.1 == 7)
         case true =>
          have h := if_t h hb_42
          try simp only [hb_42]
          refine wpR_gv (t := 72) rfl rfl (OpV_fieldB (k := 3) Tryd.underlying42 rfl rfl nz3 rfl) rfl ?_
          refine wpR_gv (t := 72) rfl rfl (OpV_ldB Tryd.underlying3 rfl rfl (hS.bxc 1 rfl 3)) rfl ?_
          refine wpR_gv (t := 72) rfl rfl (OpV_bin rfl rfl (b_ineq _ x_4.2.2.2 0)) rfl ?_
          refine wpR_gv (t := 63) rfl rfl (OpV_pickT rfl rfl) rfl ?_
          refine wpR_v (OpV_pickF rfl rfl) rfl (wpR_v (OpV_move rfl) rfl ?_)
          cases hb_43 : (x_4.2.2.2 != 0)
          case true =>
           have h := if_t h hb_43
           try simp only [hb_43]
           refine wpR_gskip (b := true) (t := 78) rfl rfl rfl rfl ?_
           refine wpR_gskip (b := true) (t := 78) rfl rfl rfl rfl ?_
           refine wpR_gskip (b := true) (t := 78) rfl rfl rfl rfl ?_
           refine wpR_v (OpV_pickT rfl rfl) rfl (wpR_nil (QE_then_n ?_))
           exact wpC_le _ (by exact ⟨rfl, rfl, rfl, rfl, rfl, rfl, trivial⟩) (hK_45 true _ _ ⟨rfl, hS⟩ h)
          case false =>
           have h := if_f h hb_43
           try simp only [hb_43]
           refine wpR_gv (t := 78) rfl rfl (OpV_fieldB (k := 3) Tryd.underlying42 rfl rfl nz3 rfl) rfl ?_
           refine wpR_gv (t := 78) rfl rfl (OpV_ldB Tryd.underlying3 rfl rfl (hS.bxc 1 rfl 3)) rfl ?_
           refine wpR_gv (t := 78) rfl rfl (OpV_bin rfl rfl (b_ilss _ x_4.2.2.2 0)) rfl ?_
           refine wpR_v (OpV_pickF rfl rfl) rfl (wpR_nil (QE_then_n ?_))
           exact wpC_le _ (by exact ⟨rfl, rfl, rfl, rfl, rfl, rfl, trivial⟩) (hK_45 (decide (x_4.2.2.2 < 0)) _ _ ⟨rfl, hS⟩ h)
         case false =>
          have h := if_f h hb_42
          try simp only [hb_42]
          refine wpR_gskip (b := false) (t := 72) rfl rfl rfl rfl ?_
          refine wpR_gskip (b := false) (t := 72) rfl rfl rfl rfl ?_
          refine wpR_gskip (b := false) (t := 72) rfl rfl rfl rfl ?_
          refine wpR_gv (t := 63) rfl rfl (OpV_pickF rfl rfl) rfl ?_
          refine wpR_v (OpV_pickF rfl rfl) rfl (wpR_v (OpV_move rfl) rfl (wpR_gv (t := 78) rfl rfl (OpV_fieldB (k := 3) Tryd.underlying42 rfl rfl nz3 rfl) rfl ?_))
          refine wpR_gv (t := 78) rfl rfl (OpV_ldB Tryd.underlying3 rfl rfl (hS.bxc 1 rfl 3)) rfl ?_
          refine wpR_gv (t := 78) rfl rfl (OpV_bin rfl rfl (b_ilss _ x_4.2.2.2 0)) rfl ?_
          refine wpR_v (OpV_pickF rfl rfl) rfl (wpR_nil (QE_then_n ?_))
          exact wpC_le _ (by exact ⟨rfl, rfl, rfl, rfl, rfl, rfl, trivial⟩) (hK_45 (decide (x_4.2.2.2 < 0)) _ _ ⟨rfl, hS⟩ h)
  ·intro hK_9
   refine wpC_region (wpR_v (OpV_fieldB (k := 0) Tryd.underlying42 rfl rfl nz3 rfl) rfl ?_)
   refine wpR_v (OpV_ldB Tryd.underlying3 rfl rfl (hS.bxc 0 rfl 0)) rfl ?_
   refine wpR_v (OpV_bin rfl rfl (b_ieql _ x_4.1 2)) rfl ?_
   refine wpR_v (OpV_move rfl) rfl ?_
   cases hb_7 : (x_4.1 == 2)
   case true =>
    have h := if_t h hb_7
    try simp only [hb_7]
    refine wpR_gskip (b := true) (t := 26) rfl rfl rfl rfl ?_
    refine wpR_gskip (b := true) (t := 26) rfl rfl rfl rfl ?_
    refine wpR_gskip (b := true) (t := 26) rfl rfl rfl rfl ?_
    refine wpR_v (OpV_pickT rfl rfl) rfl (wpR_v (OpV_assign rfl) rfl (wpR_nil (QE_then_n ?_)))
    exact wpC_le _ (by exact ⟨rfl, rfl, rfl, rfl, rfl, rfl, trivial⟩) (hK_9 true _ _ ⟨rfl, (hS.pick [1, 0] (by decide) rfl)⟩ h)
   case false =>
    have h := if_f h hb_7
    try simp only [hb_7]
    refine wpR_gv (t := 26) rfl rfl (OpV_fieldB (k := 0) Tryd.underlying42 rfl rfl nz3 rfl) rfl ?_
    refine wpR_gv (t := 26) rfl rfl (OpV_ldB Tryd.underlying3 rfl rfl (hS.bxc 0 rfl 0)) rfl ?_
    refine wpR_gv (t := 26) rfl rfl (OpV_bin rfl rfl (b_ieql _ x_4.1 3)) rfl ?_
    refine wpR_v (OpV_pickF rfl rfl) rfl (wpR_v (OpV_assign rfl) rfl (wpR_nil (QE_then_n ?_)))
    exact wpC_le _ (by exact ⟨rfl, rfl, rfl, rfl, rfl, rfl, trivial⟩) (hK_9 (x_4.1 == 3) _ _ ⟨rfl, (hS.pick [1, 0] (by decide) rfl)⟩ h)
theorem c_ref30_said_n (n : Nat) : ∀ (w0 : World) (a0 : List (Int × UInt64 × (List UInt8) × Int)) (a1 : Int) (a2 : Int) (va0 : Value) (ha0 : RP [] w0 (eP eI (eP e64 (eP eS eI))) va0 a0) (r : List UInt8 × Int), F.ref30_said_n n a0 a1 a2 = some r → Calls Tryd.prog 79 #[va0, vI a1, vI a2] w0 (Ret fun v w => v = .agg #[vS r.1, vI r.2] ∧ St [] w0 w []) := by
 induction n with
 | zero => intros; rename_i h; exact absurd h (by simp [F.ref30_said_n])
 | succ n ih => exact c_ref30_said_s (F.ref30_said_n n) ih
theorem c_ref30_said (w0 : World) (a0 : List (Int × UInt64 × (List UInt8) × Int)) (a1 : Int) (a2 : Int) (va0 : Value) (ha0 : RP [] w0 (eP eI (eP e64 (eP eS eI))) va0 a0) (r : List UInt8 × Int) (h : F.ref30_said a0 a1 a2 = some r) : Calls Tryd.prog 79 #[va0, vI a1, vI a2] w0 (Ret fun v w => v = .agg #[vS r.1, vI r.2] ∧ St [] w0 w []) := c_ref30_said_n 64 w0 a0 a1 a2 va0 ha0 r h
end Go.Proofs
