import Derived.Test.YtgjpaedgcpjigaaDoorVW0
import Derived.Test.YtgjpaedgcpjigaaDoorGkFcose
import Derived.Test.YtgjpaedgcpjigaaDoorVWcborc
import Derived.Test.YtgjpaedgcpjigaaDoorVWcosea
set_option linter.unusedVariables false
set_option linter.unusedSimpArgs false
set_option linter.unusedVariables false
set_option maxRecDepth 4000
namespace Go.Proofs
open Go Go.RowKit Go.Gk
theorem c_cose_read (w0 : World) (a0 : List (Int × UInt64 × (List UInt8) × Int)) (va0 : Value) (hT : TB [] w0) (ha0 : RP [] w0 (eP eI (eP e64 (eP eS eI))) va0 a0) (r : Int × List UInt8 × List UInt8 × List UInt8 × List UInt8 × Int)
  (h : F.cose_read a0 = some r) : Calls Tryd.prog 41 #[va0] w0 (Ret fun v w => v = .tuple #[.agg #[vI r.1, vS r.2.1, vS r.2.2.1, vS r.2.2.2.1, vS r.2.2.2.2.1], vI r.2.2.2.2.2] ∧ St [] w0 w []) := by
 refine calls_at 190 Tryd.func41 rfl rfl rfl ?_
 have hS := St.start w0
 refine wpC_le [(0, va0)] ⟨rfl, trivial⟩ ?_
 unfold F.cose_read at h
 refine wpC_seq (wpC_region (wpR_x (OpX_alloc (cs := [vI 0, vS [], vS [], vS [], vS []]) tz83 rfl hS) rfl ?_))
 rintro _ w ⟨b_1, rfl, hS⟩
 refine wpR_v (OpV_assign rfl) rfl (wpR_nil (QE_then_n (wpC_seq (wpC_region (wpR_v (OpV_assign rfl) rfl (wpR_nil ?_))))))
 refine QE_then_n ?_
 refine seq_join (r := r) (fun (g : Int) L w => L = [(0, va0), (2, pB b_1 0), (4, vI g)] ∧ St [] w0 w [OE.bx b_1 [vI 0, vS [], vS [], vS [], vS []]]) (F.cose_read_K1 a0) ?_ ?_
 ·rintro x_9 L w hJ h
  try dsimp only at hJ
  obtain ⟨rfl, hS⟩ := hJ
  unfold F.cose_read_K1 at h
  refine wpC_seq ?_
  refine seq_join (r := r) (fun (g : Bool) L w => L = [(0, va0), (2, pB b_1 0), (4, vI x_9), (59, vB g)] ∧ St [] w0 w [OE.bx b_1 [vI 0, vS [], vS [], vS [], vS []]]) (F.cose_read_K2 a0 x_9) ?_ ?_
  ·rintro x_18 L w hJ h
   try dsimp only at hJ
   obtain ⟨rfl, hS⟩ := hJ
   unfold F.cose_read_K2 at h
   refine wpC_cond rfl (fun hb_63 => ?_) (fun hb_63 => ?_)
   ·have h := if_t h hb_63
    refine wpC_seq (wpC_region (wpR_v (OpV_build (vs := []) (cells := [vI 0, vS [], vS [], vS [], vS []]) rfl lay83 trivial rfl) rfl ?_))
    refine wpR_y (OpY_stB (i := 0) (us := [vI 0, vS [], vS [], vS [], vS []]) rfl sz83 rfl rfl rfl ⟨rfl, rfl, rfl, rfl, rfl, trivial⟩ rfl hS) ?_
    intro w hS
    replace hS : St _ w0 w [OE.bx b_1 [vI 0, vS [], vS [], vS [], vS []]] := hS
    refine wpR_v (OpV_assign rfl) rfl (wpR_nil (QE_then_n (wpC_ret (QE_then_r ?_))))
    cases h
    exact QE_rv2 rfl ⟨_, rfl, run_ldAgg (us := [vI 0, vS [], vS [], vS [], vS []]) Tryd.underlying83 rfl sz83 (hS.bxs 0 rfl rfl)⟩ rfl ⟨rfl, hS.pick [] (by decide) rfl⟩
   ·have h := if_f h hb_63
    refine wpC_skip (QE_then_n (wpC_seq (wpC_region (wpR_v (OpV_move rfl) rfl (wpR_v (OpV_move rfl) rfl (wpR_v (OpV_bin rfl rfl (b_iadd _ x_9 2)) rfl ?_))))))
    obtain ⟨x_20, hx_20, h⟩ := obind_some h
    refine wpR_call (by kernel_rfl) rfl (c_cbor_Behind _ a0 (wI (x_9 + 2)) va0  (hT.now hS.fr) (ha0.now hS.fr).rp _ hx_20) rfl ?_
    rintro _ w ⟨rfl, hS1⟩
    have hS := hS.call hS1
    simp only [List.cons_append, List.nil_append] at hS
    refine wpR_v (OpV_assign rfl) rfl (wpR_nil (QE_then_n (wpC_seq ?_)))
    refine seq_join (r := r) (fun (g : Bool) L w => L = [(0, va0), (2, pB b_1 0), (4, vI x_9), (5, vI x_20), (79, vB g)] ∧ St [] w0 w [OE.bx b_1 [vI 0, vS [], vS [], vS [], vS []]]) (F.cose_read_K3 a0 x_9 x_20) ?_ ?_
    ·rintro x_24 L w hJ h
     try dsimp only at hJ
     obtain ⟨rfl, hS⟩ := hJ
     unfold F.cose_read_K3 at h
     refine wpC_cond rfl (fun hb_62 => ?_) (fun hb_62 => ?_)
     ·have h := if_t h hb_62
      refine wpC_seq (wpC_region (wpR_v (OpV_build (vs := []) (cells := [vI 0, vS [], vS [], vS [], vS []]) rfl lay83 trivial rfl) rfl ?_))
      refine wpR_y (OpY_stB (i := 0) (us := [vI 0, vS [], vS [], vS [], vS []]) rfl sz83 rfl rfl rfl ⟨rfl, rfl, rfl, rfl, rfl, trivial⟩ rfl hS) ?_
      intro w hS
      replace hS : St _ w0 w [OE.bx b_1 [vI 0, vS [], vS [], vS [], vS []]] := hS
      refine wpR_v (OpV_assign rfl) rfl (wpR_nil (QE_then_n (wpC_ret (QE_then_r ?_))))
      cases h
      exact QE_rv2 rfl ⟨_, rfl, run_ldAgg (us := [vI 0, vS [], vS [], vS [], vS []]) Tryd.underlying83 rfl sz83 (hS.bxs 0 rfl rfl)⟩ rfl ⟨rfl, hS.pick [] (by decide) rfl⟩
     ·have h := if_f h hb_62
      refine wpC_skip (QE_then_n (wpC_seq ?_))
      refine wpC_regionS (fun w' => St [] w0 w' [OE.bx b_1 [vI 0, vS [], vS [], vS [], vS []]]) (fun i => !([18, 19].contains i)) hmix (fun _ _ _ hf => hf.2) (fun _ _ hf => hf) (by kernel_rfl) ?_
      have hS := hS.drew
      show lxE _ _ _ _ _ _ _ [0, 1, 2, 3, 4, 5, 6, 7, 8, 9, 10, 11, 12, 13, 14, 15, 16, 17, 18, 19] _ _
      refine lxE_v hS rfl rfl (fun w hF => OpV_move rfl) rfl ?_
      refine lxE_v hS rfl rfl (fun w hF => OpV_move rfl) rfl ?_
      refine lxE_v hS rfl rfl (fun w hF => OpV_bin rfl rfl (b_iadd _ x_9 1)) rfl ?_
      obtain ⟨x_26, hx_26, h⟩ := obind_some h
      refine lxE_v hS rfl rfl (fun w hF => G_ix Tryd.underlying37 ti42 rfl rfl (ha0.now hF.fr) hx_26) rfl ?_
      refine lxE_v hS rfl rfl (fun w hF => OpV_fieldE (k := 2) Tryd.underlying42 rfl rfl nz9 rfl) rfl ?_
      refine lxE_v hS rfl rfl (fun w hF => G_loadF Tryd.underlying9 rfl rfl (ha0.now hF.fr) hx_26 rfl rfl) rfl ?_
      refine lxE_v hS rfl rfl (fun w hF => OpV_move rfl) rfl ?_
      refine lxE_v hS rfl rfl (fun w hF => OpV_move rfl) rfl ?_
      obtain ⟨x_27, hx_27, h⟩ := obind_some h
      refine lxE_v hS rfl rfl (fun w hF => G_ix Tryd.underlying37 ti42 rfl rfl (ha0.now hF.fr) hx_27) rfl ?_
      refine lxE_v hS rfl rfl (fun w hF => OpV_fieldE (k := 2) Tryd.underlying42 rfl rfl nz9 rfl) rfl ?_
      refine lxE_v hS rfl rfl (fun w hF => G_loadF Tryd.underlying9 rfl rfl (ha0.now hF.fr) hx_27 rfl rfl) rfl ?_
      refine lxE_v hS rfl rfl (fun w hF => OpV_move rfl) rfl ?_
      refine lxE_v hS rfl rfl (fun w hF => OpV_move rfl) rfl ?_
      refine lxE_v hS rfl rfl (fun w hF => OpV_bin rfl rfl (b_iadd _ x_20 1)) rfl ?_
      obtain ⟨x_28, hx_28, h⟩ := obind_some h
      refine lxE_v hS rfl rfl (fun w hF => G_ix Tryd.underlying37 ti42 rfl rfl (ha0.now hF.fr) hx_28) rfl ?_
      refine lxE_v hS rfl rfl (fun w hF => OpV_fieldE (k := 2) Tryd.underlying42 rfl rfl nz9 rfl) rfl ?_
      refine lxE_v hS rfl rfl (fun w hF => G_loadF Tryd.underlying9 rfl rfl (ha0.now hF.fr) hx_28 rfl rfl) rfl ?_
      refine lxE_v hS rfl rfl (fun w hF => OpV_build (vs := [(1, vS x_26.2.2.1, [vS x_26.2.2.1]), (3, vS x_27.2.2.1, [vS x_27.2.2.1]), (4, vS x_28.2.2.1, [vS x_28.2.2.1])]) (cells := [vI 0, vS x_26.2.2.1, vS [], vS x_27.2.2.1, vS x_28.2.2.1]) rfl lay83 ⟨rfl, rfl, rfl, trivial⟩ rfl) rfl ?_
      refine lxE_x hS rfl rfl (OpX_alloc (cs := [vI 0, vS [], vS [], vS [], vS []]) tz83 rfl hS) rfl ?_
      rintro _ w ⟨b_29, rfl, hS⟩
      refine lxE_y (hS.pick [1] (by decide) rfl) rfl rfl (OpY_stB (i := 0) (us := [vI 0, vS x_26.2.2.1, vS [], vS x_27.2.2.1, vS x_28.2.2.1]) rfl sz83 rfl rfl rfl ⟨rfl, rfl, rfl, rfl, rfl, trivial⟩ rfl hS) ?_
      intro w hS
      replace hS : St _ w0 w [OE.bx b_29 [vI 0, vS x_26.2.2.1, vS [], vS x_27.2.2.1, vS x_28.2.2.1], OE.bx b_1 [vI 0, vS [], vS [], vS [], vS []]] := hS
      refine lxE_nil trivial ?_
      refine QE_then_n (wpC_seq (wpC_region (wpR_v (OpV_fieldB (k := 1) Tryd.underlying83 rfl rfl nz9 rfl) rfl ?_)))
      refine wpR_v (OpV_ldB Tryd.underlying9 rfl rfl (hS.bxc 0 rfl 1)) rfl ?_
      refine wpR_x (OpX_bytes Tryd.underlying9 Tryd.underlying22 Tryd.underlying5 rfl hS) rfl ?_
      rintro v_31 w hS
      obtain ⟨x_33, hx_33, h⟩ := obind_some h
      refine wpR_call (by kernel_rfl) rfl (c_cbor_Parse _ x_26.2.2.1 v_31  (hT.now hS.fr) (hS.rro 0 rfl).rp _ hx_33) rfl ?_
      rintro _ w ⟨v_34, rfl, hS1⟩
      have hS := hS.call hS1
      simp only [List.cons_append, List.nil_append] at hS
      refine wpR_v (OpV_move rfl) rfl (wpR_v (OpV_extract rfl rfl) rfl ?_)
      refine wpR_v (OpV_extract rfl rfl) rfl ?_
      refine wpR_v (OpV_extract rfl rfl) rfl ?_
      refine wpR_v (OpV_assign rfl) rfl (wpR_v (OpV_assign rfl) rfl (wpR_v (OpV_assign rfl) rfl (wpR_nil (QE_then_n (wpC_seq (wpC_seq ?_))))))
      refine wpC_region (wpR_v (OpV_move rfl) rfl (wpR_v (OpV_bin rfl rfl (b_ineq _ x_33.2.1 0)) rfl ?_))
      refine wpR_nil (QE_then_n ?_)
      refine wpC_cond rfl (fun hb_61 => ?_) (fun hb_61 => ?_)
      ·have h := if_t h hb_61
       refine wpC_seq (wpC_region (wpR_v (OpV_build (vs := []) (cells := [vI 0, vS [], vS [], vS [], vS []]) rfl lay83 trivial rfl) rfl ?_))
       refine wpR_v (OpV_move rfl) rfl (wpR_y (OpY_stB (i := 3) (us := [vI 0, vS [], vS [], vS [], vS []]) rfl sz83 rfl rfl rfl ⟨rfl, rfl, rfl, rfl, rfl, trivial⟩ rfl hS) ?_)
       intro w hS
       replace hS : St _ w0 w [own (eP eI (eP e64 (eP eS eI))) v_34 x_33.1, red e8 v_31 x_26.2.2.1, OE.bx b_29 [vI 0, vS x_26.2.2.1, vS [], vS x_27.2.2.1, vS x_28.2.2.1], OE.bx b_1 [vI 0, vS [], vS [], vS [], vS []]] := hS
       refine wpR_v (OpV_assign rfl) rfl (wpR_nil (QE_then_n (wpC_ret (QE_then_r ?_))))
       cases h
       exact QE_rv2 rfl ⟨_, rfl, run_ldAgg (us := [vI 0, vS [], vS [], vS [], vS []]) Tryd.underlying83 rfl sz83 (hS.bxs 3 rfl rfl)⟩ rfl ⟨rfl, hS.pick [] (by decide) rfl⟩
      ·have h := if_f h hb_61
       refine wpC_skip (QE_then_n (wpC_seq (wpC_seq (wpC_region (wpR_v (OpV_move rfl) rfl ?_)))))
       obtain ⟨x_36, hx_36, h⟩ := obind_some h
       refine wpR_v (G_ix Tryd.underlying37 ti42 rfl rfl (hS.ro 0 rfl) hx_36) rfl ?_
       refine wpR_v (OpV_fieldE (k := 0) Tryd.underlying42 rfl rfl nz3 rfl) rfl ?_
       refine wpR_v (G_loadF Tryd.underlying3 rfl rfl (hS.ro 0 rfl) hx_36 rfl rfl) rfl ?_
       refine wpR_v (OpV_bin rfl rfl (b_ineq _ x_36.1 5)) rfl ?_
       refine wpR_nil (QE_then_n ?_)
       refine wpC_cond rfl (fun hb_60 => ?_) (fun hb_60 => ?_)
       ·have h := if_t h hb_60
        refine wpC_seq (wpC_region (wpR_v (OpV_build (vs := []) (cells := [vI 0, vS [], vS [], vS [], vS []]) rfl lay83 trivial rfl) rfl ?_))
        refine wpR_y (OpY_stB (i := 3) (us := [vI 0, vS [], vS [], vS [], vS []]) rfl sz83 rfl rfl rfl ⟨rfl, rfl, rfl, rfl, rfl, trivial⟩ rfl hS) ?_
        intro w hS
        replace hS : St _ w0 w [own (eP eI (eP e64 (eP eS eI))) v_34 x_33.1, red e8 v_31 x_26.2.2.1, OE.bx b_29 [vI 0, vS x_26.2.2.1, vS [], vS x_27.2.2.1, vS x_28.2.2.1], OE.bx b_1 [vI 0, vS [], vS [], vS [], vS []]] := hS
        refine wpR_v (OpV_assign rfl) rfl (wpR_nil (QE_then_n (wpC_ret (QE_then_r ?_))))
        cases h
        exact QE_rv2 rfl ⟨_, rfl, run_ldAgg (us := [vI 0, vS [], vS [], vS [], vS []]) Tryd.underlying83 rfl sz83 (hS.bxs 3 rfl rfl)⟩ rfl ⟨rfl, hS.pick [] (by decide) rfl⟩
       ·have h := if_f h hb_60
        refine wpC_skip (QE_then_n (wpC_seq (wpC_region (wpR_v (OpV_move rfl) rfl ?_))))
        obtain ⟨x_37, hx_37, h⟩ := obind_some h
        refine wpR_call (by kernel_rfl) rfl (c_cose_header _ x_33.1 0 v_34  (hT.now hS.fr) (hS.ro 0 rfl).rp _ hx_37) rfl ?_
        rintro _ w ⟨rfl, hS1⟩
        have hS := hS.call hS1
        simp only [List.cons_append, List.nil_append] at hS
        refine wpR_v (OpV_move rfl) rfl (wpR_v (OpV_extract rfl rfl) rfl ?_)
        refine wpR_v (OpV_extract rfl rfl) rfl ?_
        refine wpR_v (OpV_extract rfl rfl) rfl ?_
        refine wpR_v (OpV_assign rfl) rfl (wpR_v (OpV_assign rfl) rfl (wpR_v (OpV_assign rfl) rfl (wpR_nil (QE_then_n (wpC_seq (wpC_region ?_))))))
        refine wpR_v (OpV_move rfl) rfl (wpR_v (OpV_move rfl) rfl (wpR_v (OpV_bin rfl rfl (b_iadd _ x_9 2)) rfl ?_))
        obtain ⟨x_38, hx_38, h⟩ := obind_some h
        refine wpR_call (by kernel_rfl) rfl (c_cose_header _ a0 (wI (x_9 + 2)) va0  (hT.now hS.fr) (ha0.now hS.fr).rp _ hx_38) rfl ?_
        rintro _ w ⟨rfl, hS1⟩
        have hS := hS.call hS1
        simp only [List.cons_append, List.nil_append] at hS
        refine wpR_v (OpV_move rfl) rfl (wpR_v (OpV_extract rfl rfl) rfl ?_)
        refine wpR_v (OpV_extract rfl rfl) rfl ?_
        refine wpR_v (OpV_extract rfl rfl) rfl ?_
        refine wpR_v (OpV_assign rfl) rfl (wpR_v (OpV_assign rfl) rfl (wpR_v (OpV_assign rfl) rfl (wpR_nil (QE_then_n (wpC_seq ?_)))))
        refine seq_join (r := r) (fun (g : Bool) L w => L = [(0, va0), (2, pB b_1 0), (6, pB b_29 0), (7, v_34), (10, vI x_37.1), (11, vI x_37.2.1), (14, vI x_38.2.1), (152, vB g)] ∧ St [] w0 w [OE.bx b_1 [vI 0, vS [], vS [], vS [], vS []], OE.bx b_29 [vI 0, vS x_26.2.2.1, vS [], vS x_27.2.2.1, vS x_28.2.2.1], own (eP eI (eP e64 (eP eS eI))) v_34 x_33.1]) (F.cose_read_K4 a0 x_33 x_37 x_38 x_26 x_27 x_28) ?_ ?_
        ·rintro x_44 L w hJ h
         try dsimp only at hJ
         obtain ⟨rfl, hS⟩ := hJ
         unfold F.cose_read_K4 at h
         refine wpC_cond rfl (fun hb_59 => ?_) (fun hb_59 => ?_)
         ·have h := if_t h hb_59
          refine wpC_seq (wpC_region (wpR_v (OpV_build (vs := []) (cells := [vI 0, vS [], vS [], vS [], vS []]) rfl lay83 trivial rfl) rfl ?_))
          refine wpR_y (OpY_stB (i := 0) (us := [vI 0, vS [], vS [], vS [], vS []]) rfl sz83 rfl rfl rfl ⟨rfl, rfl, rfl, rfl, rfl, trivial⟩ rfl hS) ?_
          intro w hS
          replace hS : St _ w0 w [OE.bx b_1 [vI 0, vS [], vS [], vS [], vS []], OE.bx b_29 [vI 0, vS x_26.2.2.1, vS [], vS x_27.2.2.1, vS x_28.2.2.1], own (eP eI (eP e64 (eP eS eI))) v_34 x_33.1] := hS
          refine wpR_v (OpV_assign rfl) rfl (wpR_nil (QE_then_n (wpC_ret (QE_then_r ?_))))
          cases h
          exact QE_rv2 rfl ⟨_, rfl, run_ldAgg (us := [vI 0, vS [], vS [], vS [], vS []]) Tryd.underlying83 rfl sz83 (hS.bxs 0 rfl rfl)⟩ rfl ⟨rfl, hS.pick [] (by decide) rfl⟩
         ·have h := if_f h hb_59
          refine wpC_skip (QE_then_n ?_)
          refine seq_join (r := r) (fun (g : List UInt8) L w => L = [(2, pB b_1 0), (6, pB b_29 0), (7, v_34), (10, vI x_37.1)] ∧ St [] w0 w [OE.bx b_1 [vI 0, vS [], vS [], vS [], vS []], OE.bx b_29 [vI 0, vS x_26.2.2.1, vS g, vS x_27.2.2.1, vS x_28.2.2.1], own (eP eI (eP e64 (eP eS eI))) v_34 x_33.1]) (F.cose_read_K5 x_33 x_37 x_26 x_27 x_28) ?_ ?_
          ·rintro x_50 L w hJ h
           try dsimp only at hJ
           obtain ⟨rfl, hS⟩ := hJ
           unfold F.cose_read_K5 at h
           refine seq_join (r := r) (fun (g : Int) L w => L = [(2, pB b_1 0), (6, pB b_29 0)] ∧ St [] w0 w [OE.bx b_1 [vI 0, vS [], vS [], vS [], vS []], OE.bx b_29 [vI g, vS x_26.2.2.1, vS x_50, vS x_27.2.2.1, vS x_28.2.2.1]]) (F.cose_read_K6 x_26 x_27 x_28 x_50) ?_ ?_
           ·rintro x_56 L w hJ h
            try dsimp only at hJ
            obtain ⟨rfl, hS⟩ := hJ
            unfold F.cose_read_K6 at h
            refine wpC_seq (wpC_seq (wpC_region (wpR_v (OpV_fieldB (k := 0) Tryd.underlying83 rfl rfl nz50 rfl) rfl ?_)))
            refine wpR_v (OpV_ldB Tryd.underlying50 rfl rfl (hS.bxc 1 rfl 0)) rfl ?_
            refine wpR_v (OpV_bin rfl rfl (b_ieql _ x_56 0)) rfl ?_
            refine wpR_nil (QE_then_n ?_)
            refine wpC_cond rfl (fun hb_58 => ?_) (fun hb_58 => ?_)
            ·have h := if_t h hb_58
             refine wpC_seq (wpC_region (wpR_v (OpV_build (vs := []) (cells := [vI 0, vS [], vS [], vS [], vS []]) rfl lay83 trivial rfl) rfl ?_))
             refine wpR_y (OpY_stB (i := 0) (us := [vI 0, vS [], vS [], vS [], vS []]) rfl sz83 rfl rfl rfl ⟨rfl, rfl, rfl, rfl, rfl, trivial⟩ rfl hS) ?_
             intro w hS
             replace hS : St _ w0 w [OE.bx b_1 [vI 0, vS [], vS [], vS [], vS []], OE.bx b_29 [vI x_56, vS x_26.2.2.1, vS x_50, vS x_27.2.2.1, vS x_28.2.2.1]] := hS
             refine wpR_v (OpV_assign rfl) rfl (wpR_nil (QE_then_n (wpC_ret (QE_then_r ?_))))
             cases h
             exact QE_rv2 rfl ⟨_, rfl, run_ldAgg (us := [vI 0, vS [], vS [], vS [], vS []]) Tryd.underlying83 rfl sz83 (hS.bxs 0 rfl rfl)⟩ rfl ⟨rfl, hS.pick [] (by decide) rfl⟩
            ·have h := if_f h hb_58
             refine wpC_skip (QE_then_n (wpC_seq (wpC_region (wpR_v (OpV_ldBs (us := [vI x_56, vS x_26.2.2.1, vS x_50, vS x_27.2.2.1, vS x_28.2.2.1]) Tryd.underlying83 rfl sz83 rfl (hS.bxs 1 rfl rfl)) rfl ?_))))
             refine wpR_y (OpY_stB (i := 0) (us := [vI x_56, vS x_26.2.2.1, vS x_50, vS x_27.2.2.1, vS x_28.2.2.1]) rfl sz83 rfl rfl rfl ⟨rfl, rfl, rfl, rfl, rfl, trivial⟩ rfl hS) ?_
             intro w hS
             replace hS : St _ w0 w [OE.bx b_1 [vI x_56, vS x_26.2.2.1, vS x_50, vS x_27.2.2.1, vS x_28.2.2.1], OE.bx b_29 [vI x_56, vS x_26.2.2.1, vS x_50, vS x_27.2.2.1, vS x_28.2.2.1]] := hS
             refine wpR_v (OpV_assign rfl) rfl (wpR_nil (QE_then_n (wpC_ret ?_)))
             cases h
             exact QE_rv2 rfl ⟨_, rfl, run_ldAgg (us := [vI x_56, vS x_26.2.2.1, vS x_50, vS x_27.2.2.1, vS x_28.2.2.1]) Tryd.underlying83 rfl sz83 (hS.bxs 0 rfl rfl)⟩ rfl ⟨rfl, hS.pick [] (by decide) rfl⟩
           ·intro hK_57
            refine wpC_seq (wpC_region (wpR_v (OpV_move rfl) rfl (wpR_v (OpV_move rfl) rfl ?_)))
            obtain ⟨x_52, hx_52, h⟩ := obind_some h
            refine wpR_v (G_ix Tryd.underlying37 ti42 rfl rfl (hS.ro 2 rfl) hx_52) rfl ?_
            refine wpR_v (OpV_fieldE (k := 0) Tryd.underlying42 rfl rfl nz3 rfl) rfl ?_
            refine wpR_v (G_loadF Tryd.underlying3 rfl rfl (hS.ro 2 rfl) hx_52 rfl rfl) rfl ?_
            refine wpR_v (OpV_bin rfl rfl (b_ieql _ x_52.1 1)) rfl ?_
            refine wpR_nil (QE_then_n ?_)
            refine wpC_cond rfl (fun hb_55 => ?_) (fun hb_55 => ?_)
            ·have h := if_t h hb_55
             refine wpC_region (wpR_v (OpV_move rfl) rfl (wpR_v (OpV_move rfl) rfl ?_))
             obtain ⟨x_53, hx_53, h⟩ := obind_some h
             refine wpR_v (G_ix Tryd.underlying37 ti42 rfl rfl (hS.ro 2 rfl) hx_53) rfl ?_
             refine wpR_v (OpV_fieldE (k := 1) Tryd.underlying42 rfl rfl nz40 rfl) rfl ?_
             refine wpR_v (G_loadF Tryd.underlying40 rfl rfl (hS.ro 2 rfl) hx_53 rfl rfl) rfl ?_
             obtain ⟨x_54, hx_54, h⟩ := obind_some h
             refine wpR_call (by kernel_rfl) rfl (c_cose_algorithm _ x_53.2.1    _ hx_54) rfl ?_
             rintro _ w ⟨rfl, hS1⟩
             have hS := hS.call hS1
             simp only [List.cons_append, List.nil_append] at hS
             refine wpR_v (OpV_fieldB (k := 0) Tryd.underlying83 rfl rfl nz50 rfl) rfl ?_
             refine wpR_y (OpY_stB (i := 1) (us := [vI x_54]) rfl sz50 rfl rfl rfl ⟨rfl, trivial⟩ rfl hS) ?_
             intro w hS
             replace hS : St _ w0 w [OE.bx b_1 [vI 0, vS [], vS [], vS [], vS []], OE.bx b_29 [vI x_54, vS x_26.2.2.1, vS x_50, vS x_27.2.2.1, vS x_28.2.2.1], own (eP eI (eP e64 (eP eS eI))) v_34 x_33.1] := hS
             refine wpR_nil (QE_then_n ?_)
             exact wpC_le _ (by exact ⟨rfl, rfl, trivial⟩) (hK_57 x_54 _ _ ⟨rfl, (hS.pick [0, 1] (by decide) rfl)⟩ h)
            ·have h := if_f h hb_55
             refine wpC_skip (QE_then_n ?_)
             exact wpC_le _ (by exact ⟨rfl, rfl, trivial⟩) (hK_57 0 _ _ ⟨rfl, (hS.pick [0, 1] (by decide) rfl)⟩ h)
          ·intro hK_51
           refine wpC_block ?_
           refine wpC_seq (wpC_region (wpR_v (OpV_move rfl) rfl (wpR_v (OpV_bin rfl rfl (b_igeq _ x_37.2.1 0)) rfl ?_)))
           refine wpR_v (OpV_assign rfl) rfl (wpR_nil (QE_then_n ?_))
           refine wpC_cond rfl (fun hb_49 => ?_) (fun hb_49 => ?_)
           ·have h := if_t h hb_49
            refine wpC_region (wpR_v (OpV_move rfl) rfl (wpR_v (OpV_move rfl) rfl ?_))
            obtain ⟨x_46, hx_46, h⟩ := obind_some h
            refine wpR_v (G_ix Tryd.underlying37 ti42 rfl rfl (hS.ro 2 rfl) hx_46) rfl ?_
            refine wpR_v (OpV_fieldE (k := 2) Tryd.underlying42 rfl rfl nz9 rfl) rfl ?_
            refine wpR_v (G_loadF Tryd.underlying9 rfl rfl (hS.ro 2 rfl) hx_46 rfl rfl) rfl ?_
            refine wpR_v (OpV_fieldB (k := 2) Tryd.underlying83 rfl rfl nz9 rfl) rfl ?_
            refine wpR_y (OpY_stB (i := 1) (us := [vS x_46.2.2.1]) rfl sz9 rfl rfl rfl ⟨rfl, trivial⟩ rfl hS) ?_
            intro w hS
            replace hS : St _ w0 w [OE.bx b_1 [vI 0, vS [], vS [], vS [], vS []], OE.bx b_29 [vI 0, vS x_26.2.2.1, vS x_46.2.2.1, vS x_27.2.2.1, vS x_28.2.2.1], own (eP eI (eP e64 (eP eS eI))) v_34 x_33.1] := hS
            refine wpR_nil (QE_blk_n ?_)
            refine QE_then_n ?_
            exact wpC_le _ (by exact ⟨rfl, rfl, rfl, rfl, trivial⟩) (hK_51 x_46.2.2.1 _ _ ⟨rfl, hS⟩ h)
           ·have h := if_f h hb_49
            refine wpC_seq (wpC_region (wpR_v (OpV_move rfl) rfl (wpR_v (OpV_bin rfl rfl (b_igeq _ x_38.2.1 0)) rfl ?_)))
            refine wpR_v (OpV_assign rfl) rfl (wpR_nil (QE_then_n ?_))
            refine wpC_cond rfl (fun hb_48 => ?_) (fun hb_48 => ?_)
            ·have h := if_t h hb_48
             refine wpC_region (wpR_v (OpV_move rfl) rfl (wpR_v (OpV_move rfl) rfl ?_))
             obtain ⟨x_47, hx_47, h⟩ := obind_some h
             refine wpR_v (G_ix Tryd.underlying37 ti42 rfl rfl (ha0.now hS.fr) hx_47) rfl ?_
             refine wpR_v (OpV_fieldE (k := 2) Tryd.underlying42 rfl rfl nz9 rfl) rfl ?_
             refine wpR_v (G_loadF Tryd.underlying9 rfl rfl (ha0.now hS.fr) hx_47 rfl rfl) rfl ?_
             refine wpR_v (OpV_fieldB (k := 2) Tryd.underlying83 rfl rfl nz9 rfl) rfl ?_
             refine wpR_y (OpY_stB (i := 1) (us := [vS x_47.2.2.1]) rfl sz9 rfl rfl rfl ⟨rfl, trivial⟩ rfl hS) ?_
             intro w hS
             replace hS : St _ w0 w [OE.bx b_1 [vI 0, vS [], vS [], vS [], vS []], OE.bx b_29 [vI 0, vS x_26.2.2.1, vS x_47.2.2.1, vS x_27.2.2.1, vS x_28.2.2.1], own (eP eI (eP e64 (eP eS eI))) v_34 x_33.1] := hS
             refine wpR_nil (QE_blk_n ?_)
             refine QE_then_n ?_
             exact wpC_le _ (by exact ⟨rfl, rfl, rfl, rfl, trivial⟩) (hK_51 x_47.2.2.1 _ _ ⟨rfl, hS⟩ h)
            ·have h := if_f h hb_48
             refine wpC_skip (QE_blk_n ?_)
             refine QE_then_n ?_
             exact wpC_le _ (by exact ⟨rfl, rfl, rfl, rfl, trivial⟩) (hK_51 [] _ _ ⟨rfl, hS⟩ h)
        ·intro hK_45
         refine wpC_region (wpR_v (OpV_move rfl) rfl (wpR_v (OpV_un rfl (u_not x_37.2.2)) rfl ?_))
         refine wpR_v (OpV_move rfl) rfl ?_
         cases hb_39 : (!x_37.2.2)
         case true =>
          have h := if_t h hb_39
          try simp only [hb_39]
          refine wpR_gskip (b := true) (t := 133) rfl rfl rfl rfl ?_
          refine wpR_gskip (b := true) (t := 133) rfl rfl rfl rfl ?_
          refine wpR_v (OpV_pickT rfl rfl) rfl (wpR_v (OpV_move rfl) rfl (wpR_gskip (b := true) (t := 137) rfl rfl rfl rfl ?_))
          refine wpR_gskip (b := true) (t := 137) rfl rfl rfl rfl ?_
          refine wpR_v (OpV_pickT rfl rfl) rfl (wpR_v (OpV_move rfl) rfl (wpR_gskip (b := true) (t := 141) rfl rfl rfl rfl ?_))
          refine wpR_gskip (b := true) (t := 141) rfl rfl rfl rfl ?_
          refine wpR_v (OpV_pickT rfl rfl) rfl (wpR_v (OpV_move rfl) rfl (wpR_gskip (b := true) (t := 145) rfl rfl rfl rfl ?_))
          refine wpR_gskip (b := true) (t := 145) rfl rfl rfl rfl ?_
          refine wpR_gskip (b := true) (t := 145) rfl rfl rfl rfl ?_
          refine wpR_gskipU (t := 148) rfl rfl rfl ?_
          refine wpR_gskipU (t := 148) rfl rfl rfl ?_
          refine wpR_gskip (b := true) (t := 145) rfl rfl rfl rfl ?_
          refine wpR_v (OpV_pickT rfl rfl) rfl (wpR_nil (QE_then_n ?_))
          exact wpC_le _ (by exact ⟨rfl, rfl, rfl, rfl, rfl, rfl, rfl, rfl, trivial⟩) (hK_45 true _ _ ⟨rfl, (hS.pick [3, 2, 0] (by decide) rfl)⟩ h)
         case false =>
          have h := if_f h hb_39
          try simp only [hb_39]
          refine wpR_gv (t := 133) rfl rfl (OpV_move rfl) rfl ?_
          refine wpR_gv (t := 133) rfl rfl (OpV_un rfl (u_not x_38.2.2)) rfl ?_
          refine wpR_v (OpV_pickF rfl rfl) rfl (wpR_v (OpV_move rfl) rfl ?_)
          cases hb_40 : (!x_38.2.2)
          case true =>
           have h := if_t h hb_40
           try simp only [hb_40]
           refine wpR_gskip (b := true) (t := 137) rfl rfl rfl rfl ?_
           refine wpR_gskip (b := true) (t := 137) rfl rfl rfl rfl ?_
           refine wpR_v (OpV_pickT rfl rfl) rfl (wpR_v (OpV_move rfl) rfl (wpR_gskip (b := true) (t := 141) rfl rfl rfl rfl ?_))
           refine wpR_gskip (b := true) (t := 141) rfl rfl rfl rfl ?_
           refine wpR_v (OpV_pickT rfl rfl) rfl (wpR_v (OpV_move rfl) rfl (wpR_gskip (b := true) (t := 145) rfl rfl rfl rfl ?_))
           refine wpR_gskip (b := true) (t := 145) rfl rfl rfl rfl ?_
           refine wpR_gskip (b := true) (t := 145) rfl rfl rfl rfl ?_
           refine wpR_gskipU (t := 148) rfl rfl rfl ?_
           refine wpR_gskipU (t := 148) rfl rfl rfl ?_
           refine wpR_gskip (b := true) (t := 145) rfl rfl rfl rfl ?_
           refine wpR_v (OpV_pickT rfl rfl) rfl (wpR_nil (QE_then_n ?_))
           exact wpC_le _ (by exact ⟨rfl, rfl, rfl, rfl, rfl, rfl, rfl, rfl, trivial⟩) (hK_45 true _ _ ⟨rfl, (hS.pick [3, 2, 0] (by decide) rfl)⟩ h)
          case false =>
           have h := if_f h hb_40
           try simp only [hb_40]
           refine wpR_gv (t := 137) rfl rfl (OpV_move rfl) rfl ?_
           refine wpR_gv (t := 137) rfl rfl (OpV_bin rfl rfl (b_ilss _ x_37.1 0)) rfl ?_
           refine wpR_v (OpV_pickF rfl rfl) rfl (wpR_v (OpV_move rfl) rfl ?_)
           cases hb_41 : (decide (x_37.1 < 0))
           case true =>
            have h := if_t h hb_41
            try simp only [hb_41]
            refine wpR_gskip (b := true) (t := 141) rfl rfl rfl rfl ?_
            refine wpR_gskip (b := true) (t := 141) rfl rfl rfl rfl ?_
            refine wpR_v (OpV_pickT rfl rfl) rfl (wpR_v (OpV_move rfl) rfl (wpR_gskip (b := true) (t := 145) rfl rfl rfl rfl ?_))
            refine wpR_gskip (b := true) (t := 145) rfl rfl rfl rfl ?_
            refine wpR_gskip (b := true) (t := 145) rfl rfl rfl rfl ?_
            refine wpR_gskipU (t := 148) rfl rfl rfl ?_
            refine wpR_gskipU (t := 148) rfl rfl rfl ?_
            refine wpR_gskip (b := true) (t := 145) rfl rfl rfl rfl ?_
            refine wpR_v (OpV_pickT rfl rfl) rfl (wpR_nil (QE_then_n ?_))
            exact wpC_le _ (by exact ⟨rfl, rfl, rfl, rfl, rfl, rfl, rfl, rfl, trivial⟩) (hK_45 true _ _ ⟨rfl, (hS.pick [3, 2, 0] (by decide) rfl)⟩ h)
           case false =>
            have h := if_f h hb_41
            try simp only [hb_41]
            refine wpR_gv (t := 141) rfl rfl (OpV_move rfl) rfl ?_
            refine wpR_gv (t := 141) rfl rfl (OpV_bin rfl rfl (b_igeq _ x_38.1 0)) rfl ?_
            refine wpR_v (OpV_pickF rfl rfl) rfl (wpR_v (OpV_move rfl) rfl ?_)
            cases hb_42 : (decide ((0 : Int) ≤ x_38.1))
            case true =>
             have h := if_t h hb_42
             try simp only [hb_42]
             refine wpR_gskip (b := true) (t := 145) rfl rfl rfl rfl ?_
             refine wpR_gskip (b := true) (t := 145) rfl rfl rfl rfl ?_
             refine wpR_gskip (b := true) (t := 145) rfl rfl rfl rfl ?_
             refine wpR_gskipU (t := 148) rfl rfl rfl ?_
             refine wpR_gskipU (t := 148) rfl rfl rfl ?_
             refine wpR_gskip (b := true) (t := 145) rfl rfl rfl rfl ?_
             refine wpR_v (OpV_pickT rfl rfl) rfl (wpR_nil (QE_then_n ?_))
             exact wpC_le _ (by exact ⟨rfl, rfl, rfl, rfl, rfl, rfl, rfl, rfl, trivial⟩) (hK_45 true _ _ ⟨rfl, (hS.pick [3, 2, 0] (by decide) rfl)⟩ h)
            case false =>
             have h := if_f h hb_42
             try simp only [hb_42]
             refine wpR_gv (t := 145) rfl rfl (OpV_move rfl) rfl ?_
             refine wpR_gv (t := 145) rfl rfl (OpV_bin rfl rfl (b_igeq _ x_37.2.1 0)) rfl ?_
             refine wpR_gv (t := 145) rfl rfl (OpV_move rfl) rfl ?_
             cases hb_43 : (decide ((0 : Int) ≤ x_37.2.1))
             case true =>
              have h := if_t h hb_43
              try simp only [hb_43]
              refine wpR_gv (t := 148) rfl rfl (OpV_move rfl) rfl ?_
              refine wpR_gv (t := 148) rfl rfl (OpV_bin rfl rfl (b_igeq _ x_38.2.1 0)) rfl ?_
              refine wpR_gv (t := 145) rfl rfl (OpV_pickT rfl rfl) rfl ?_
              refine wpR_v (OpV_pickF rfl rfl) rfl (wpR_nil (QE_then_n ?_))
              exact wpC_le _ (by exact ⟨rfl, rfl, rfl, rfl, rfl, rfl, rfl, rfl, trivial⟩) (hK_45 (decide ((0 : Int) ≤ x_38.2.1)) _ _ ⟨rfl, (hS.pick [3, 2, 0] (by decide) rfl)⟩ h)
             case false =>
              have h := if_f h hb_43
              try simp only [hb_43]
              refine wpR_gskip (b := false) (t := 148) rfl rfl rfl rfl ?_
              refine wpR_gskip (b := false) (t := 148) rfl rfl rfl rfl ?_
              refine wpR_gv (t := 145) rfl rfl (OpV_pickF rfl rfl) rfl ?_
              refine wpR_v (OpV_pickF rfl rfl) rfl (wpR_nil (QE_then_n ?_))
              exact wpC_le _ (by exact ⟨rfl, rfl, rfl, rfl, rfl, rfl, rfl, rfl, trivial⟩) (hK_45 false _ _ ⟨rfl, (hS.pick [3, 2, 0] (by decide) rfl)⟩ h)
    ·intro hK_25
     refine wpC_region (wpR_v (OpV_move rfl) rfl (wpR_v (OpV_move rfl) rfl ?_))
     obtain ⟨x_21, hx_21, h⟩ := obind_some h
     refine wpR_v (G_ix Tryd.underlying37 ti42 rfl rfl (ha0.now hS.fr) hx_21) rfl ?_
     refine wpR_v (OpV_fieldE (k := 0) Tryd.underlying42 rfl rfl nz3 rfl) rfl ?_
     refine wpR_v (G_loadF Tryd.underlying3 rfl rfl (ha0.now hS.fr) hx_21 rfl rfl) rfl ?_
     refine wpR_v (OpV_bin rfl rfl (b_ineq _ x_21.1 2)) rfl ?_
     refine wpR_v (OpV_move rfl) rfl ?_
     cases hb_22 : (x_21.1 != 2)
     case true =>
      have h := if_t h hb_22
      try simp only [hb_22]
      refine wpR_gskip (b := true) (t := 71) rfl rfl rfl rfl ?_
      refine wpR_gskip (b := true) (t := 71) rfl rfl rfl rfl ?_
      refine wpR_gskip (b := true) (t := 71) rfl rfl rfl rfl ?_
      refine wpR_gskip (b := true) (t := 71) rfl rfl rfl rfl ?_
      refine wpR_gskip (b := true) (t := 71) rfl rfl rfl rfl ?_
      refine wpR_gskip (b := true) (t := 71) rfl rfl rfl rfl ?_
      refine wpR_gskip (b := true) (t := 71) rfl rfl rfl rfl ?_
      refine wpR_v (OpV_pickT rfl rfl) rfl (wpR_nil (QE_then_n ?_))
      exact wpC_le _ (by exact ⟨rfl, rfl, rfl, rfl, rfl, trivial⟩) (hK_25 true _ _ ⟨rfl, hS⟩ h)
     case false =>
      have h := if_f h hb_22
      try simp only [hb_22]
      refine wpR_gv (t := 71) rfl rfl (OpV_move rfl) rfl ?_
      refine wpR_gv (t := 71) rfl rfl (OpV_move rfl) rfl ?_
      refine wpR_gv (t := 71) rfl rfl (OpV_bin rfl rfl (b_iadd _ x_20 1)) rfl ?_
      obtain ⟨x_23, hx_23, h⟩ := obind_some h
      refine wpR_gv (t := 71) rfl rfl (G_ix Tryd.underlying37 ti42 rfl rfl (ha0.now hS.fr) hx_23) rfl ?_
      refine wpR_gv (t := 71) rfl rfl (OpV_fieldE (k := 0) Tryd.underlying42 rfl rfl nz3 rfl) rfl ?_
      refine wpR_gv (t := 71) rfl rfl (G_loadF Tryd.underlying3 rfl rfl (ha0.now hS.fr) hx_23 rfl rfl) rfl ?_
      refine wpR_gv (t := 71) rfl rfl (OpV_bin rfl rfl (b_ineq _ x_23.1 2)) rfl ?_
      refine wpR_v (OpV_pickF rfl rfl) rfl (wpR_nil (QE_then_n ?_))
      exact wpC_le _ (by exact ⟨rfl, rfl, rfl, rfl, rfl, trivial⟩) (hK_25 (x_23.1 != 2) _ _ ⟨rfl, hS⟩ h)
  ·intro hK_19
   refine wpC_region (wpR_v (OpV_move rfl) rfl (wpR_v (OpV_move rfl) rfl ?_))
   obtain ⟨x_11, hx_11, h⟩ := obind_some h
   refine wpR_v (G_ix Tryd.underlying37 ti42 rfl rfl (ha0.now hS.fr) hx_11) rfl ?_
   refine wpR_v (OpV_fieldE (k := 0) Tryd.underlying42 rfl rfl nz3 rfl) rfl ?_
   refine wpR_v (G_loadF Tryd.underlying3 rfl rfl (ha0.now hS.fr) hx_11 rfl rfl) rfl ?_
   refine wpR_v (OpV_bin rfl rfl (b_ineq _ x_11.1 4)) rfl ?_
   refine wpR_v (OpV_move rfl) rfl ?_
   cases hb_12 : (x_11.1 != 4)
   case true =>
    have h := if_t h hb_12
    try simp only [hb_12]
    refine wpR_gskip (b := true) (t := 34) rfl rfl rfl rfl ?_
    refine wpR_gskip (b := true) (t := 34) rfl rfl rfl rfl ?_
    refine wpR_gskip (b := true) (t := 34) rfl rfl rfl rfl ?_
    refine wpR_gskip (b := true) (t := 34) rfl rfl rfl rfl ?_
    refine wpR_gskip (b := true) (t := 34) rfl rfl rfl rfl ?_
    refine wpR_gskip (b := true) (t := 34) rfl rfl rfl rfl ?_
    refine wpR_v (OpV_pickT rfl rfl) rfl (wpR_v (OpV_move rfl) rfl (wpR_gskip (b := true) (t := 42) rfl rfl rfl rfl ?_))
    refine wpR_gskip (b := true) (t := 42) rfl rfl rfl rfl ?_
    refine wpR_gskip (b := true) (t := 42) rfl rfl rfl rfl ?_
    refine wpR_gskip (b := true) (t := 42) rfl rfl rfl rfl ?_
    refine wpR_gskip (b := true) (t := 42) rfl rfl rfl rfl ?_
    refine wpR_gskip (b := true) (t := 42) rfl rfl rfl rfl ?_
    refine wpR_gskip (b := true) (t := 42) rfl rfl rfl rfl ?_
    refine wpR_v (OpV_pickT rfl rfl) rfl (wpR_v (OpV_move rfl) rfl (wpR_gskip (b := true) (t := 51) rfl rfl rfl rfl ?_))
    refine wpR_gskip (b := true) (t := 51) rfl rfl rfl rfl ?_
    refine wpR_gskip (b := true) (t := 51) rfl rfl rfl rfl ?_
    refine wpR_gskip (b := true) (t := 51) rfl rfl rfl rfl ?_
    refine wpR_gskip (b := true) (t := 51) rfl rfl rfl rfl ?_
    refine wpR_gskip (b := true) (t := 51) rfl rfl rfl rfl ?_
    refine wpR_gskip (b := true) (t := 51) rfl rfl rfl rfl ?_
    refine wpR_v (OpV_pickT rfl rfl) rfl (wpR_nil (QE_then_n ?_))
    exact wpC_le _ (by exact ⟨rfl, rfl, rfl, rfl, trivial⟩) (hK_19 true _ _ ⟨rfl, hS⟩ h)
   case false =>
    have h := if_f h hb_12
    try simp only [hb_12]
    refine wpR_gv (t := 34) rfl rfl (OpV_move rfl) rfl ?_
    refine wpR_gv (t := 34) rfl rfl (OpV_move rfl) rfl ?_
    obtain ⟨x_13, hx_13, h⟩ := obind_some h
    refine wpR_gv (t := 34) rfl rfl (G_ix Tryd.underlying37 ti42 rfl rfl (ha0.now hS.fr) hx_13) rfl ?_
    refine wpR_gv (t := 34) rfl rfl (OpV_fieldE (k := 3) Tryd.underlying42 rfl rfl nz3 rfl) rfl ?_
    refine wpR_gv (t := 34) rfl rfl (G_loadF Tryd.underlying3 rfl rfl (ha0.now hS.fr) hx_13 rfl rfl) rfl ?_
    refine wpR_gv (t := 34) rfl rfl (OpV_bin rfl rfl (b_ineq _ x_13.2.2.2 4)) rfl ?_
    refine wpR_v (OpV_pickF rfl rfl) rfl (wpR_v (OpV_move rfl) rfl ?_)
    cases hb_14 : (x_13.2.2.2 != 4)
    case true =>
     have h := if_t h hb_14
     try simp only [hb_14]
     refine wpR_gskip (b := true) (t := 42) rfl rfl rfl rfl ?_
     refine wpR_gskip (b := true) (t := 42) rfl rfl rfl rfl ?_
     refine wpR_gskip (b := true) (t := 42) rfl rfl rfl rfl ?_
     refine wpR_gskip (b := true) (t := 42) rfl rfl rfl rfl ?_
     refine wpR_gskip (b := true) (t := 42) rfl rfl rfl rfl ?_
     refine wpR_gskip (b := true) (t := 42) rfl rfl rfl rfl ?_
     refine wpR_gskip (b := true) (t := 42) rfl rfl rfl rfl ?_
     refine wpR_v (OpV_pickT rfl rfl) rfl (wpR_v (OpV_move rfl) rfl (wpR_gskip (b := true) (t := 51) rfl rfl rfl rfl ?_))
     refine wpR_gskip (b := true) (t := 51) rfl rfl rfl rfl ?_
     refine wpR_gskip (b := true) (t := 51) rfl rfl rfl rfl ?_
     refine wpR_gskip (b := true) (t := 51) rfl rfl rfl rfl ?_
     refine wpR_gskip (b := true) (t := 51) rfl rfl rfl rfl ?_
     refine wpR_gskip (b := true) (t := 51) rfl rfl rfl rfl ?_
     refine wpR_gskip (b := true) (t := 51) rfl rfl rfl rfl ?_
     refine wpR_v (OpV_pickT rfl rfl) rfl (wpR_nil (QE_then_n ?_))
     exact wpC_le _ (by exact ⟨rfl, rfl, rfl, rfl, trivial⟩) (hK_19 true _ _ ⟨rfl, hS⟩ h)
    case false =>
     have h := if_f h hb_14
     try simp only [hb_14]
     refine wpR_gv (t := 42) rfl rfl (OpV_move rfl) rfl ?_
     refine wpR_gv (t := 42) rfl rfl (OpV_move rfl) rfl ?_
     refine wpR_gv (t := 42) rfl rfl (OpV_bin rfl rfl (b_iadd _ x_9 1)) rfl ?_
     obtain ⟨x_15, hx_15, h⟩ := obind_some h
     refine wpR_gv (t := 42) rfl rfl (G_ix Tryd.underlying37 ti42 rfl rfl (ha0.now hS.fr) hx_15) rfl ?_
     refine wpR_gv (t := 42) rfl rfl (OpV_fieldE (k := 0) Tryd.underlying42 rfl rfl nz3 rfl) rfl ?_
     refine wpR_gv (t := 42) rfl rfl (G_loadF Tryd.underlying3 rfl rfl (ha0.now hS.fr) hx_15 rfl rfl) rfl ?_
     refine wpR_gv (t := 42) rfl rfl (OpV_bin rfl rfl (b_ineq _ x_15.1 2)) rfl ?_
     refine wpR_v (OpV_pickF rfl rfl) rfl (wpR_v (OpV_move rfl) rfl ?_)
     cases hb_16 : (x_15.1 != 2)
     case true =>
      have h := if_t h hb_16
      try simp only [hb_16]
      refine wpR_gskip (b := true) (t := 51) rfl rfl rfl rfl ?_
      refine wpR_gskip (b := true) (t := 51) rfl rfl rfl rfl ?_
      refine wpR_gskip (b := true) (t := 51) rfl rfl rfl rfl ?_
      refine wpR_gskip (b := true) (t := 51) rfl rfl rfl rfl ?_
      refine wpR_gskip (b := true) (t := 51) rfl rfl rfl rfl ?_
      refine wpR_gskip (b := true) (t := 51) rfl rfl rfl rfl ?_
      refine wpR_gskip (b := true) (t := 51) rfl rfl rfl rfl ?_
      refine wpR_v (OpV_pickT rfl rfl) rfl (wpR_nil (QE_then_n ?_))
      exact wpC_le _ (by exact ⟨rfl, rfl, rfl, rfl, trivial⟩) (hK_19 true _ _ ⟨rfl, hS⟩ h)
     case false =>
      have h := if_f h hb_16
      try simp only [hb_16]
      refine wpR_gv (t := 51) rfl rfl (OpV_move rfl) rfl ?_
      refine wpR_gv (t := 51) rfl rfl (OpV_move rfl) rfl ?_
      refine wpR_gv (t := 51) rfl rfl (OpV_bin rfl rfl (b_iadd _ x_9 2)) rfl ?_
      obtain ⟨x_17, hx_17, h⟩ := obind_some h
      refine wpR_gv (t := 51) rfl rfl (G_ix Tryd.underlying37 ti42 rfl rfl (ha0.now hS.fr) hx_17) rfl ?_
      refine wpR_gv (t := 51) rfl rfl (OpV_fieldE (k := 0) Tryd.underlying42 rfl rfl nz3 rfl) rfl ?_
      refine wpR_gv (t := 51) rfl rfl (G_loadF Tryd.underlying3 rfl rfl (ha0.now hS.fr) hx_17 rfl rfl) rfl ?_
      refine wpR_gv (t := 51) rfl rfl (OpV_bin rfl rfl (b_ineq _ x_17.1 5)) rfl ?_
      refine wpR_v (OpV_pickF rfl rfl) rfl (wpR_nil (QE_then_n ?_))
      exact wpC_le _ (by exact ⟨rfl, rfl, rfl, rfl, trivial⟩) (hK_19 (x_17.1 != 5) _ _ ⟨rfl, hS⟩ h)
 ·intro hK_10
  refine seq_join (r := r) (fun (g : Bool) L w => L = [(0, va0), (2, pB b_1 0), (4, vI 0), (27, vB g)] ∧ St [] w0 w [OE.bx b_1 [vI 0, vS [], vS [], vS [], vS []]]) (F.cose_read_K7 a0) ?_ ?_
  ·rintro x_6 L w hJ h
   try dsimp only at hJ
   obtain ⟨rfl, hS⟩ := hJ
   unfold F.cose_read_K7 at h
   refine wpC_cond rfl (fun hb_8 => ?_) (fun hb_8 => ?_)
   ·have h := if_t h hb_8
    refine wpC_region (wpR_v (OpV_assign rfl) rfl (wpR_nil (QE_then_n ?_)))
    exact wpC_le _ (by exact ⟨rfl, rfl, rfl, trivial⟩) (hK_10 1 _ _ ⟨rfl, hS⟩ h)
   ·have h := if_f h hb_8
    refine wpC_skip (QE_then_n ?_)
    exact wpC_le _ (by exact ⟨rfl, rfl, rfl, trivial⟩) (hK_10 0 _ _ ⟨rfl, hS⟩ h)
  ·intro hK_7
   refine wpC_region (wpR_v (OpV_move rfl) rfl ?_)
   obtain ⟨x_3, hx_3, h⟩ := obind_some h
   refine wpR_v (G_ix Tryd.underlying37 ti42 rfl rfl (ha0.now hS.fr) hx_3) rfl ?_
   refine wpR_v (OpV_fieldE (k := 0) Tryd.underlying42 rfl rfl nz3 rfl) rfl ?_
   refine wpR_v (G_loadF Tryd.underlying3 rfl rfl (ha0.now hS.fr) hx_3 rfl rfl) rfl ?_
   refine wpR_v (OpV_bin rfl rfl (b_ieql _ x_3.1 6)) rfl ?_
   refine wpR_v (OpV_move rfl) rfl ?_
   cases hb_4 : (x_3.1 == 6)
   case true =>
    have h := if_t h hb_4
    try simp only [hb_4]
    refine wpR_gv (t := 21) rfl rfl (OpV_move rfl) rfl ?_
    obtain ⟨x_5, hx_5, h⟩ := obind_some h
    refine wpR_gv (t := 21) rfl rfl (G_ix Tryd.underlying37 ti42 rfl rfl (ha0.now hS.fr) hx_5) rfl ?_
    refine wpR_gv (t := 21) rfl rfl (OpV_fieldE (k := 1) Tryd.underlying42 rfl rfl nz40 rfl) rfl ?_
    refine wpR_gv (t := 21) rfl rfl (G_loadF Tryd.underlying40 rfl rfl (ha0.now hS.fr) hx_5 rfl rfl) rfl ?_
    refine wpR_gv (t := 21) rfl rfl (OpV_bin rfl rfl (b_eql64 _ x_5.2.1 18)) rfl ?_
    refine wpR_v (OpV_pickT rfl rfl) rfl (wpR_nil (QE_then_n ?_))
    exact wpC_le _ (by exact ⟨rfl, rfl, rfl, rfl, trivial⟩) (hK_7 (x_5.2.1 == 18) _ _ ⟨rfl, hS⟩ h)
   case false =>
    have h := if_f h hb_4
    try simp only [hb_4]
    refine wpR_gskip (b := false) (t := 21) rfl rfl rfl rfl ?_
    refine wpR_gskip (b := false) (t := 21) rfl rfl rfl rfl ?_
    refine wpR_gskip (b := false) (t := 21) rfl rfl rfl rfl ?_
    refine wpR_gskip (b := false) (t := 21) rfl rfl rfl rfl ?_
    refine wpR_gskip (b := false) (t := 21) rfl rfl rfl rfl ?_
    refine wpR_v (OpV_pickF rfl rfl) rfl (wpR_nil (QE_then_n ?_))
    exact wpC_le _ (by exact ⟨rfl, rfl, rfl, rfl, trivial⟩) (hK_7 false _ _ ⟨rfl, hS⟩ h)
theorem c_cose_laid (w0 : World) (a0 : List UInt8) (a1 : UInt8) (a2 : List UInt8) (va0 : Value) (S : List Nat) (hS : St S w0 w0 [own e8 va0 a0]) (r : List UInt8)
  (h : F.cose_laid a0 a1 a2 = some r) : Calls Tryd.prog 42 #[va0, v8 a1, vS a2] w0 (Ret fun v w => ∃ u0 : Value, v = u0 ∧ St S w0 w [own e8 u0 r]) := by
 refine calls_at 65 Tryd.func42 rfl rfl rfl ?_
 refine wpC_le [(0, va0), (1, v8 a1), (2, vS a2)] ⟨rfl, rfl, rfl, trivial⟩ ?_
 unfold F.cose_laid at h
 refine wpC_seq (wpC_region (wpR_v (OpV_assign rfl) rfl (wpR_nil (QE_then_n (wpC_seq (wpC_region ?_))))))
 refine wpR_v (OpV_move rfl) rfl (wpR_v (OpV_lenS Tryd.underlying9 rfl) rfl ?_)
 refine wpR_v (OpV_assign rfl) rfl (wpR_nil (QE_then_n ?_))
 refine seq_join (r := r) (fun (g : List UInt8) L w => ∃ (v_26 : Value), L = [(0, v_26), (2, vS a2)] ∧ St S w0 w [own e8 v_26 g]) (F.cose_laid_K1 a2) ?_ ?_
 ·rintro x_25 L w hJ h
  try dsimp only at hJ
  obtain ⟨v_26, rfl, hS⟩ := hJ
  unfold F.cose_laid_K1 at h
  refine wpC_seq (wpC_region (wpR_v (OpV_move rfl) rfl (wpR_v (OpV_move rfl) rfl ?_)))
  obtain ⟨x_29, hx_29, h⟩ := obind_some h
  refine wpR_x (G_appendS Tryd.underlying22 Tryd.underlying9 ti5 rfl rfl hS (i := 0) rfl hx_29) rfl ?_
  rintro v_30 w hS
  refine wpR_v (OpV_assign rfl) rfl (wpR_nil (QE_then_n (wpC_ret ?_)))
  cases h
  exact QE_ret1 rfl rfl ⟨v_30, rfl, hS.pick [0] (by decide) rfl⟩
 ·intro hK_28
  refine wpC_seq (wpC_region (wpR_v (OpV_move rfl) rfl (wpR_v (OpV_bin rfl rfl (b_shl8_64 _ a1 5)) rfl ?_)))
  refine wpR_v (OpV_assign rfl) rfl (wpR_nil (QE_then_n (wpC_block ?_)))
  refine wpC_seq (wpC_region (wpR_v (OpV_move rfl) rfl (wpR_v (OpV_bin rfl rfl (b_ilss _ (a2.length : Int) 24)) rfl ?_)))
  refine wpR_v (OpV_assign rfl) rfl (wpR_nil (QE_then_n ?_))
  refine wpC_cond rfl (fun hb_24 => ?_) (fun hb_24 => ?_)
  ·have h := if_t h hb_24
   refine wpC_region (wpR_v (OpV_move rfl) rfl (wpR_v (OpV_move rfl) rfl (wpR_v (OpV_move rfl) rfl (wpR_v (OpV_conv rfl (cv_i_8 Tryd.underlying3 Tryd.underlying5 (a2.length : Int))) rfl ?_))))
   refine wpR_v (OpV_bin rfl rfl (b_or8 _ (shl8 a1 5) (UInt8.ofInt (a2.length : Int)))) rfl ?_
   refine wpR_x (OpX_lit (e := e8) (l := [(shl8 a1 5) ||| (UInt8.ofInt (a2.length : Int))]) (vs := [v8 ((shl8 a1 5) ||| (UInt8.ofInt (a2.length : Int)))]) Tryd.underlying22 ti5 rfl rfl rfl rfl (by decide) (by decide) hS) rfl ?_
   rintro v_2 w hS
   obtain ⟨x_4, hx_4, h⟩ := obind_some h
   refine wpR_x (G_append Tryd.underlying22 ti5 rfl rfl rfl hS (i := 1) rfl (hS.ro 0 rfl) hx_4) rfl ?_
   rintro v_5 w hS
   refine wpR_v (OpV_assign rfl) rfl (wpR_nil (QE_blk_n ?_))
   refine QE_then_n ?_
   exact wpC_le _ (by exact ⟨rfl, rfl, trivial⟩) (hK_28 x_4 _ _ ⟨v_5, rfl, (hS.pick [1] (by decide) rfl)⟩ h)
  ·have h := if_f h hb_24
   refine wpC_seq (wpC_region (wpR_v (OpV_move rfl) rfl (wpR_v (OpV_bin rfl rfl (b_ilss _ (a2.length : Int) 256)) rfl ?_)))
   refine wpR_v (OpV_assign rfl) rfl (wpR_nil (QE_then_n ?_))
   refine wpC_cond rfl (fun hb_23 => ?_) (fun hb_23 => ?_)
   ·have h := if_t h hb_23
    refine wpC_region (wpR_v (OpV_move rfl) rfl (wpR_v (OpV_move rfl) rfl (wpR_v (OpV_bin rfl rfl (b_or8 _ (shl8 a1 5) 24)) rfl ?_)))
    refine wpR_v (OpV_move rfl) rfl (wpR_v (OpV_conv rfl (cv_i_8 Tryd.underlying3 Tryd.underlying5 (a2.length : Int))) rfl ?_)
    refine wpR_x (OpX_lit (e := e8) (l := [(shl8 a1 5) ||| 24, UInt8.ofInt (a2.length : Int)]) (vs := [v8 ((shl8 a1 5) ||| 24), v8 (UInt8.ofInt (a2.length : Int))]) Tryd.underlying22 ti5 rfl rfl rfl rfl (by decide) (by decide) hS) rfl ?_
    rintro v_7 w hS
    obtain ⟨x_9, hx_9, h⟩ := obind_some h
    refine wpR_x (G_append Tryd.underlying22 ti5 rfl rfl rfl hS (i := 1) rfl (hS.ro 0 rfl) hx_9) rfl ?_
    rintro v_10 w hS
    refine wpR_v (OpV_assign rfl) rfl (wpR_nil (QE_blk_n ?_))
    refine QE_then_n ?_
    exact wpC_le _ (by exact ⟨rfl, rfl, trivial⟩) (hK_28 x_9 _ _ ⟨v_10, rfl, (hS.pick [1] (by decide) rfl)⟩ h)
   ·have h := if_f h hb_23
    refine wpC_seq (wpC_region (wpR_v (OpV_move rfl) rfl (wpR_v (OpV_bin rfl rfl (b_ilss _ (a2.length : Int) 65536)) rfl ?_)))
    refine wpR_v (OpV_assign rfl) rfl (wpR_nil (QE_then_n ?_))
    refine wpC_cond rfl (fun hb_22 => ?_) (fun hb_22 => ?_)
    ·have h := if_t h hb_22
     refine wpC_region (wpR_v (OpV_move rfl) rfl (wpR_v (OpV_move rfl) rfl (wpR_v (OpV_bin rfl rfl (b_or8 _ (shl8 a1 5) 25)) rfl ?_)))
     refine wpR_v (OpV_move rfl) rfl (wpR_v (OpV_bin rfl rfl (b_ishr64 _ (a2.length : Int) 8)) rfl ?_)
     refine wpR_v (OpV_conv rfl (cv_i_8 Tryd.underlying3 Tryd.underlying5 (iShr (a2.length : Int) 8))) rfl ?_
     refine wpR_v (OpV_move rfl) rfl (wpR_v (OpV_conv rfl (cv_i_8 Tryd.underlying3 Tryd.underlying5 (a2.length : Int))) rfl ?_)
     refine wpR_x (OpX_lit (e := e8) (l := [(shl8 a1 5) ||| 25, UInt8.ofInt (iShr (a2.length : Int) 8), UInt8.ofInt (a2.length : Int)]) (vs := [v8 ((shl8 a1 5) ||| 25), v8 (UInt8.ofInt (iShr (a2.length : Int) 8)), v8 (UInt8.ofInt (a2.length : Int))]) Tryd.underlying22 ti5 rfl rfl rfl rfl (by decide) (by decide) hS) rfl ?_
     rintro v_12 w hS
     obtain ⟨x_14, hx_14, h⟩ := obind_some h
     refine wpR_x (G_append Tryd.underlying22 ti5 rfl rfl rfl hS (i := 1) rfl (hS.ro 0 rfl) hx_14) rfl ?_
     rintro v_15 w hS
     refine wpR_v (OpV_assign rfl) rfl (wpR_nil (QE_blk_n ?_))
     refine QE_then_n ?_
     exact wpC_le _ (by exact ⟨rfl, rfl, trivial⟩) (hK_28 x_14 _ _ ⟨v_15, rfl, (hS.pick [1] (by decide) rfl)⟩ h)
    ·have h := if_f h hb_22
     refine wpC_region (wpR_v (OpV_move rfl) rfl (wpR_v (OpV_move rfl) rfl (wpR_v (OpV_bin rfl rfl (b_or8 _ (shl8 a1 5) 26)) rfl ?_)))
     refine wpR_v (OpV_move rfl) rfl (wpR_v (OpV_bin rfl rfl (b_ishr64 _ (a2.length : Int) 24)) rfl ?_)
     refine wpR_v (OpV_conv rfl (cv_i_8 Tryd.underlying3 Tryd.underlying5 (iShr (a2.length : Int) 24))) rfl ?_
     refine wpR_v (OpV_move rfl) rfl (wpR_v (OpV_bin rfl rfl (b_ishr64 _ (a2.length : Int) 16)) rfl ?_)
     refine wpR_v (OpV_conv rfl (cv_i_8 Tryd.underlying3 Tryd.underlying5 (iShr (a2.length : Int) 16))) rfl ?_
     refine wpR_v (OpV_move rfl) rfl (wpR_v (OpV_bin rfl rfl (b_ishr64 _ (a2.length : Int) 8)) rfl ?_)
     refine wpR_v (OpV_conv rfl (cv_i_8 Tryd.underlying3 Tryd.underlying5 (iShr (a2.length : Int) 8))) rfl ?_
     refine wpR_v (OpV_move rfl) rfl (wpR_v (OpV_conv rfl (cv_i_8 Tryd.underlying3 Tryd.underlying5 (a2.length : Int))) rfl ?_)
     refine wpR_x (OpX_lit (e := e8) (l := [(shl8 a1 5) ||| 26, UInt8.ofInt (iShr (a2.length : Int) 24), UInt8.ofInt (iShr (a2.length : Int) 16), UInt8.ofInt (iShr (a2.length : Int) 8), UInt8.ofInt (a2.length : Int)]) (vs := [v8 ((shl8 a1 5) ||| 26), v8 (UInt8.ofInt (iShr (a2.length : Int) 24)), v8 (UInt8.ofInt (iShr (a2.length : Int) 16)), v8 (UInt8.ofInt (iShr (a2.length : Int) 8)), v8 (UInt8.ofInt (a2.length : Int))]) Tryd.underlying22 ti5 rfl rfl rfl rfl (by decide) (by decide) hS) rfl ?_
     rintro v_17 w hS
     obtain ⟨x_19, hx_19, h⟩ := obind_some h
     refine wpR_x (G_append Tryd.underlying22 ti5 rfl rfl rfl hS (i := 1) rfl (hS.ro 0 rfl) hx_19) rfl ?_
     rintro v_20 w hS
     refine wpR_v (OpV_assign rfl) rfl (wpR_nil (QE_blk_n ?_))
     refine QE_then_n ?_
     exact wpC_le _ (by exact ⟨rfl, rfl, trivial⟩) (hK_28 x_19 _ _ ⟨v_20, rfl, (hS.pick [1] (by decide) rfl)⟩ h)
theorem c_cose_Parse (w0 : World) (a0 : List UInt8) (a1 : List UInt8) (va0 : Value) (va1 : Value) (hT : TB [] w0) (ha0 : RP [] w0 e8 va0 a0) (ha1 : RP [] w0 e8 va1 a1) (r : Int × List UInt8 × List UInt8 × List UInt8 × List UInt8 × Int)
  (h : F.cose_Parse a0 a1 = some r) : Calls Tryd.prog 21 #[va0, va1] w0 (Ret fun v w => ∃ u1 u2 u3 u4 : Value, v = .tuple #[vI r.1, u1, u2, u3, u4, vI r.2.2.2.2.2] ∧ St [] w0 w [red e8 u1 r.2.1, red e8 u2 r.2.2.1, red e8 u3 r.2.2.2.1, own e8 u4 r.2.2.2.2.1]) := by
 refine calls_at 89 Tryd.func21 rfl rfl rfl ?_
 have hS := St.start w0
 refine wpC_le [(0, va0), (1, va1)] ⟨rfl, rfl, trivial⟩ ?_
 unfold F.cose_Parse at h
 refine wpC_seq (wpC_region (wpR_v (OpV_assign rfl) rfl (wpR_v (OpV_assign rfl) rfl (wpR_v (OpV_assign rfl) rfl (wpR_v (OpV_assign rfl) rfl (wpR_v (OpV_assign rfl) rfl ?_))))))
 refine wpR_v (OpV_assign rfl) rfl (wpR_nil (QE_then_n (wpC_seq (wpC_region (wpR_v (OpV_assign rfl) rfl (wpR_nil ?_))))))
 refine QE_then_n (wpC_seq ?_)
 refine seq_join (r := r) (fun (g : Bool) L w => L = [(0, va0), (1, va1), (10, .func (.func 40) #[] #[]), (23, vB g)] ∧ St [] w0 w []) (F.cose_Parse_K1 a0 a1) ?_ ?_
 ·rintro x_2 L w hJ h
  try dsimp only at hJ
  obtain ⟨rfl, hS⟩ := hJ
  unfold F.cose_Parse_K1 at h
  refine wpC_cond rfl (fun hb_59 => ?_) (fun hb_59 => ?_)
  ·have h := if_t h hb_59
   refine wpC_seq (wpC_region (wpR_v (OpV_move rfl) rfl ?_))
   obtain ⟨x_4, hx_4, h⟩ := obind_some h
   refine wpR_callV rfl (by kernel_rfl) rfl (c_signet_cose_Parse_1 _ 10    _ hx_4) rfl ?_
   rintro _ w ⟨v_5, v_7, v_9, v_11, rfl, hS1⟩
   have hS := hS.call hS1
   simp only [List.cons_append, List.nil_append] at hS
   refine wpR_v (OpV_extract rfl rfl) rfl ?_
   refine wpR_v (OpV_extract rfl rfl) rfl ?_
   refine wpR_v (OpV_extract rfl rfl) rfl ?_
   refine wpR_v (OpV_extract rfl rfl) rfl ?_
   refine wpR_v (OpV_extract rfl rfl) rfl ?_
   refine wpR_v (OpV_extract rfl rfl) rfl ?_
   refine wpR_v (OpV_assign rfl) rfl (wpR_v (OpV_assign rfl) rfl (wpR_v (OpV_assign rfl) rfl (wpR_v (OpV_assign rfl) rfl (wpR_v (OpV_assign rfl) rfl (wpR_v (OpV_assign rfl) rfl (wpR_nil ?_))))))
   refine QE_then_n (wpC_ret (QE_then_r ?_))
   cases h
   exact QE_ret6 rfl rfl rfl rfl rfl rfl rfl ⟨v_5, v_7, v_9, v_11, rfl, (((hS.freeze (i := 0) rfl).freeze (i := 1) rfl).freeze (i := 2) rfl).pick [0, 1, 2, 3] (by decide) rfl⟩
  ·have h := if_f h hb_59
   refine wpC_skip (QE_then_n (wpC_seq (wpC_region (wpR_v (OpV_move rfl) rfl ?_))))
   obtain ⟨x_13, hx_13, h⟩ := obind_some h
   refine wpR_call (by kernel_rfl) rfl (c_cbor_Parse _ a0 va0  (hT.now hS.fr) (ha0.now hS.fr).rp _ hx_13) rfl ?_
   rintro _ w ⟨v_14, rfl, hS1⟩
   have hS := hS.call hS1
   simp only [List.cons_append, List.nil_append] at hS
   refine wpR_v (OpV_move rfl) rfl (wpR_v (OpV_extract rfl rfl) rfl ?_)
   refine wpR_v (OpV_extract rfl rfl) rfl ?_
   refine wpR_v (OpV_extract rfl rfl) rfl ?_
   refine wpR_v (OpV_assign rfl) rfl (wpR_v (OpV_assign rfl) rfl (wpR_v (OpV_assign rfl) rfl (wpR_nil (QE_then_n (wpC_seq (wpC_seq ?_))))))
   refine wpC_region (wpR_v (OpV_move rfl) rfl (wpR_v (OpV_bin rfl rfl (b_ineq _ x_13.2.1 0)) rfl ?_))
   refine wpR_nil (QE_then_n ?_)
   refine wpC_cond rfl (fun hb_58 => ?_) (fun hb_58 => ?_)
   ·have h := if_t h hb_58
    refine wpC_seq (wpC_region (wpR_v (OpV_move rfl) rfl (wpR_v (OpV_move rfl) rfl ?_)))
    obtain ⟨x_16, hx_16, h⟩ := obind_some h
    refine wpR_callV rfl (by kernel_rfl) rfl (c_signet_cose_Parse_1 _ x_13.2.1    _ hx_16) rfl ?_
    rintro _ w ⟨v_17, v_19, v_21, v_23, rfl, hS1⟩
    have hS := hS.call hS1
    simp only [List.cons_append, List.nil_append] at hS
    refine wpR_v (OpV_extract rfl rfl) rfl ?_
    refine wpR_v (OpV_extract rfl rfl) rfl ?_
    refine wpR_v (OpV_extract rfl rfl) rfl ?_
    refine wpR_v (OpV_extract rfl rfl) rfl ?_
    refine wpR_v (OpV_extract rfl rfl) rfl ?_
    refine wpR_v (OpV_extract rfl rfl) rfl ?_
    refine wpR_v (OpV_assign rfl) rfl (wpR_v (OpV_assign rfl) rfl (wpR_v (OpV_assign rfl) rfl (wpR_v (OpV_assign rfl) rfl (wpR_v (OpV_assign rfl) rfl (wpR_v (OpV_assign rfl) rfl (wpR_nil ?_))))))
    refine QE_then_n (wpC_ret (QE_then_r ?_))
    cases h
    exact QE_ret6 rfl rfl rfl rfl rfl rfl rfl ⟨v_17, v_19, v_21, v_23, rfl, (((hS.freeze (i := 0) rfl).freeze (i := 1) rfl).freeze (i := 2) rfl).pick [0, 1, 2, 3] (by decide) rfl⟩
   ·have h := if_f h hb_58
    refine wpC_skip (QE_then_n (wpC_seq (wpC_region (wpR_v (OpV_move rfl) rfl ?_))))
    obtain ⟨x_25, hx_25, h⟩ := obind_some h
    refine wpR_call (by kernel_rfl) rfl (c_cose_read _ x_13.1 v_14  (hT.now hS.fr) (hS.ro 0 rfl).rp _ hx_25) rfl ?_
    rintro _ w ⟨rfl, hS1⟩
    have hS := hS.call hS1
    simp only [List.cons_append, List.nil_append] at hS
    refine wpR_v (OpV_move rfl) rfl (wpR_v (OpV_extract rfl rfl) rfl ?_)
    refine wpR_v (OpV_extract rfl rfl) rfl ?_
    refine wpR_x (OpX_alloc (cs := [vI 0, vS [], vS [], vS [], vS []]) tz83 rfl hS) rfl ?_
    rintro _ w ⟨b_26, rfl, hS⟩
    refine wpR_y (OpY_stB (i := 0) (us := [vI x_25.1, vS x_25.2.1, vS x_25.2.2.1, vS x_25.2.2.2.1, vS x_25.2.2.2.2.1]) rfl sz83 rfl rfl rfl ⟨rfl, rfl, rfl, rfl, rfl, trivial⟩ rfl hS) ?_
    intro w hS
    replace hS : St _ w0 w [OE.bx b_26 [vI x_25.1, vS x_25.2.1, vS x_25.2.2.1, vS x_25.2.2.2.1, vS x_25.2.2.2.2.1], own (eP eI (eP e64 (eP eS eI))) v_14 x_13.1] := hS
    refine wpR_v (OpV_assign rfl) rfl (wpR_nil (QE_then_n (wpC_seq (wpC_seq (wpC_region (wpR_v (OpV_move rfl) rfl ?_))))))
    refine wpR_v (OpV_bin rfl rfl (b_ineq _ x_25.2.2.2.2.2 0)) rfl ?_
    refine wpR_nil (QE_then_n ?_)
    refine wpC_cond rfl (fun hb_57 => ?_) (fun hb_57 => ?_)
    ·have h := if_t h hb_57
     refine wpC_seq (wpC_region (wpR_v (OpV_move rfl) rfl (wpR_v (OpV_move rfl) rfl ?_)))
     obtain ⟨x_28, hx_28, h⟩ := obind_some h
     refine wpR_callV rfl (by kernel_rfl) rfl (c_signet_cose_Parse_1 _ x_25.2.2.2.2.2    _ hx_28) rfl ?_
     rintro _ w ⟨v_29, v_31, v_33, v_35, rfl, hS1⟩
     have hS := hS.call hS1
     simp only [List.cons_append, List.nil_append] at hS
     refine wpR_v (OpV_extract rfl rfl) rfl ?_
     refine wpR_v (OpV_extract rfl rfl) rfl ?_
     refine wpR_v (OpV_extract rfl rfl) rfl ?_
     refine wpR_v (OpV_extract rfl rfl) rfl ?_
     refine wpR_v (OpV_extract rfl rfl) rfl ?_
     refine wpR_v (OpV_extract rfl rfl) rfl ?_
     refine wpR_v (OpV_assign rfl) rfl (wpR_v (OpV_assign rfl) rfl (wpR_v (OpV_assign rfl) rfl (wpR_v (OpV_assign rfl) rfl (wpR_v (OpV_assign rfl) rfl (wpR_v (OpV_assign rfl) rfl (wpR_nil ?_))))))
     refine QE_then_n (wpC_ret (QE_then_r ?_))
     cases h
     exact QE_ret6 rfl rfl rfl rfl rfl rfl rfl ⟨v_29, v_31, v_33, v_35, rfl, (((hS.freeze (i := 0) rfl).freeze (i := 1) rfl).freeze (i := 2) rfl).pick [0, 1, 2, 3] (by decide) rfl⟩
    ·have h := if_f h hb_57
     refine wpC_skip (QE_then_n (wpC_seq (wpC_region ?_)))
     refine wpR_x (OpX_lit (e := e8) (l := [132]) (vs := [v8 132]) Tryd.underlying22 ti5 rfl rfl rfl rfl (by decide) (by decide) hS) rfl ?_
     rintro v_37 w hS
     have hG := hS.pick (os' := [own e8 v_37 [132]] ++ [OE.bx b_26 [vI x_25.1, vS x_25.2.1, vS x_25.2.2.1, vS x_25.2.2.2.1, vS x_25.2.2.2.2.1], own (eP eI (eP e64 (eP eS eI))) v_14 x_13.1]) [0, 1, 2] (by decide) rfl
     obtain ⟨x_39, hx_39, h⟩ := obind_some h
     refine wpR_call (by kernel_rfl) rfl (c_cose_laid _ [132] 3 [83, 105, 103, 110, 97, 116, 117, 114, 101, 49] v_37  _ hG.give  _ hx_39) rfl ?_
     rintro v_40 w ⟨v_40q, hqv_40, hS1⟩
     rw [← hqv_40] at hS1
     have hS := hG.back hS1
     simp only [List.cons_append, List.nil_append] at hS
     refine wpR_v (OpV_assign rfl) rfl (wpR_nil (QE_then_n (wpC_seq ?_)))
     have hsh0 := (hS.ro 0 rfl).shp
     refine wpC_regionT (fun w' => St [] w0 w' [OE.bx b_26 [vI x_25.1, vS x_25.2.1, vS x_25.2.2.1, vS x_25.2.2.2.1, vS x_25.2.2.2.2.1], own (eP eI (eP e64 (eP eS eI))) v_14 x_13.1]) (fun i => !([3, 6, 9].contains i)) hmix (fun _ _ _ hf => hf.2) (fun _ _ hf => hf) (by kernel_rfl) ?_
     have hS := hS.drew
     show lxE _ _ _ _ _ _ _ [0, 1, 2, 3, 4, 5, 6, 7, 8, 9, 10] _ _
     refine lxE_v (hS.pick [1, 2] (by decide) rfl) rfl rfl (fun w hF => OpV_move rfl) rfl ?_
     refine lxE_v (hS.pick [1, 2] (by decide) rfl) rfl rfl (fun w hF => OpV_fieldB (k := 1) Tryd.underlying83 rfl rfl nz9 rfl) rfl ?_
     refine lxE_v (hS.pick [1, 2] (by decide) rfl) rfl rfl (fun w hF => OpV_ldB Tryd.underlying9 rfl rfl (hF.bxc 0 rfl 1)) rfl ?_
     have hG := hS.pick (os' := [own e8 v_40 x_39] ++ [OE.bx b_26 [vI x_25.1, vS x_25.2.1, vS x_25.2.2.1, vS x_25.2.2.2.1, vS x_25.2.2.2.2.1], own (eP eI (eP e64 (eP eS eI))) v_14 x_13.1]) [0, 1, 2] (by decide) rfl
     obtain ⟨x_42, hx_42, h⟩ := obind_some h
     refine lxE_call (hS.pick [1, 2] (by decide) rfl) rfl rfl (by kernel_rfl) rfl (c_cose_laid _ x_39 2 x_25.2.1 v_40  _ hG.give  _ hx_42) rfl ?_
     rintro v_43 w ⟨v_43q, hqv_43, hS1⟩
     rw [← hqv_43] at hS1
     have hS := hG.back hS1
     simp only [List.cons_append, List.nil_append] at hS
     refine lxE_v (hS.pick [1, 2] (by decide) rfl) rfl rfl (fun w hF => OpV_move rfl) rfl ?_
     refine lxE_v (hS.pick [1, 2] (by decide) rfl) rfl rfl (fun w hF => OpV_str Tryd.underlying22 Tryd.underlying5 Tryd.underlying9 rfl (ha1.now hF.fr)) rfl ?_
     have hG := hS.pick (os' := [own e8 v_43 x_42] ++ [OE.bx b_26 [vI x_25.1, vS x_25.2.1, vS x_25.2.2.1, vS x_25.2.2.2.1, vS x_25.2.2.2.2.1], own (eP eI (eP e64 (eP eS eI))) v_14 x_13.1]) [0, 1, 2] (by decide) rfl
     obtain ⟨x_45, hx_45, h⟩ := obind_some h
     refine lxE_call (hS.pick [1, 2] (by decide) rfl) rfl rfl (by kernel_rfl) rfl (c_cose_laid _ x_42 2 a1 v_43  _ hG.give  _ hx_45) rfl ?_
     rintro v_46 w ⟨v_46q, hqv_46, hS1⟩
     rw [← hqv_46] at hS1
     have hS := hG.back hS1
     simp only [List.cons_append, List.nil_append] at hS
     refine lxE_v (hS.pick [1, 2] (by decide) rfl) rfl rfl (fun w hF => OpV_fieldB (k := 3) Tryd.underlying83 rfl rfl nz9 rfl) rfl ?_
     refine lxE_v (hS.pick [1, 2] (by decide) rfl) rfl rfl (fun w hF => OpV_ldB Tryd.underlying9 rfl rfl (hF.bxc 0 rfl 3)) rfl ?_
     have hG := hS.pick (os' := [own e8 v_46 x_45] ++ [OE.bx b_26 [vI x_25.1, vS x_25.2.1, vS x_25.2.2.1, vS x_25.2.2.2.1, vS x_25.2.2.2.2.1], own (eP eI (eP e64 (eP eS eI))) v_14 x_13.1]) [0, 1, 2] (by decide) rfl
     obtain ⟨x_48, hx_48, h⟩ := obind_some h
     refine lxE_call (hS.pick [1, 2] (by decide) rfl) rfl rfl (by kernel_rfl) rfl (c_cose_laid _ x_45 2 x_25.2.2.2.1 v_46  _ hG.give  _ hx_48) rfl ?_
     rintro v_49 w ⟨v_49q, hqv_49, hS1⟩
     rw [← hqv_49] at hS1
     have hS := hG.back hS1
     simp only [List.cons_append, List.nil_append] at hS
     refine lxE_v (hS.pick [1, 2] (by decide) rfl) rfl rfl (fun w hF => OpV_assign rfl) rfl ?_
     refine lxE_nil (hS.pick [1, 2] (by decide) rfl) ?_
     refine QE_then_n (wpC_seq ?_)
     refine wpC_regionN (os := [own e8 v_49 x_48, OE.bx b_26 [vI x_25.1, vS x_25.2.1, vS x_25.2.2.1, vS x_25.2.2.2.1, vS x_25.2.2.2.2.1], own (eP eI (eP e64 (eP eS eI))) v_14 x_13.1]) (fun i => [4, 7, 10].contains i) (fun i v => if i = 4 then red e8 v x_25.2.2.1 else if i = 7 then red e8 v x_25.2.2.2.1 else red e8 v x_25.2.2.2.2.1) hS hmix (by kernel_rfl) ?_
     show lxNE _ _ _ _ _ _ _ _ _ _ [0, 1, 2, 3, 4, 5, 6, 7, 8, 9, 10, 11, 12, 13, 14, 15, 16, 17] _ _
     refine lxNE_v rfl rfl (fun w hF => OpV_fieldB (k := 0) Tryd.underlying83 rfl rfl nz50 rfl) rfl ?_
     refine lxNE_v rfl rfl (fun w hF => OpV_ldB Tryd.underlying50 rfl rfl (hF.bxc 1 rfl 0)) rfl ?_
     refine lxNE_v rfl rfl (fun w hF => OpV_fieldB (k := 2) Tryd.underlying83 rfl rfl nz9 rfl) rfl ?_
     refine lxNE_v rfl rfl (fun w hF => OpV_ldB Tryd.underlying9 rfl rfl (hF.bxc 1 rfl 2)) rfl ?_
     refine lxNE_new (fun v => red e8 v x_25.2.2.1) rfl rfl (fun v => rfl) (fun w os' hS => (OpX_bytes Tryd.underlying9 Tryd.underlying22 Tryd.underlying5 rfl hS)) rfl ?_
     intro v_51
     refine lxNE_v rfl rfl (fun w hF => OpV_fieldB (k := 3) Tryd.underlying83 rfl rfl nz9 rfl) rfl ?_
     refine lxNE_v rfl rfl (fun w hF => OpV_ldB Tryd.underlying9 rfl rfl (hF.bxc 1 rfl 3)) rfl ?_
     refine lxNE_new (fun v => red e8 v x_25.2.2.2.1) rfl rfl (fun v => rfl) (fun w os' hS => (OpX_bytes Tryd.underlying9 Tryd.underlying22 Tryd.underlying5 rfl hS)) rfl ?_
     intro v_53
     refine lxNE_v rfl rfl (fun w hF => OpV_fieldB (k := 4) Tryd.underlying83 rfl rfl nz9 rfl) rfl ?_
     refine lxNE_v rfl rfl (fun w hF => OpV_ldB Tryd.underlying9 rfl rfl (hF.bxc 1 rfl 4)) rfl ?_
     refine lxNE_new (fun v => red e8 v x_25.2.2.2.2.1) rfl rfl (fun v => rfl) (fun w os' hS => (OpX_bytes Tryd.underlying9 Tryd.underlying22 Tryd.underlying5 rfl hS)) rfl ?_
     intro v_55
     refine lxNE_v rfl rfl (fun w hF => OpV_move rfl) rfl ?_
     refine lxNE_v rfl rfl (fun w hF => OpV_assign rfl) rfl ?_
     refine lxNE_v rfl rfl (fun w hF => OpV_assign rfl) rfl ?_
     refine lxNE_v rfl rfl (fun w hF => OpV_assign rfl) rfl ?_
     refine lxNE_v rfl rfl (fun w hF => OpV_assign rfl) rfl ?_
     refine lxNE_v rfl rfl (fun w hF => OpV_assign rfl) rfl ?_
     refine lxNE_v rfl rfl (fun w hF => OpV_assign rfl) rfl ?_
     refine lxNE_nil fun w hS => ?_
     replace hS : St [] w0 w [red e8 v_51 x_25.2.2.1, red e8 v_53 x_25.2.2.2.1, red e8 v_55 x_25.2.2.2.2.1, own e8 v_49 x_48, OE.bx b_26 [vI x_25.1, vS x_25.2.1, vS x_25.2.2.1, vS x_25.2.2.2.1, vS x_25.2.2.2.2.1], own (eP eI (eP e64 (eP eS eI))) v_14 x_13.1] := hS
     replace hS : St [] w0 w [red e8 v_55 x_25.2.2.2.2.1, red e8 v_53 x_25.2.2.2.1, red e8 v_51 x_25.2.2.1, own e8 v_49 x_48, OE.bx b_26 [vI x_25.1, vS x_25.2.1, vS x_25.2.2.1, vS x_25.2.2.2.1, vS x_25.2.2.2.2.1], own (eP eI (eP e64 (eP eS eI))) v_14 x_13.1] := hS.pick [2, 1, 0, 3, 4, 5] (by decide) rfl
     refine QE_then_n (wpC_ret ?_)
     cases h
     exact QE_ret6 rfl rfl rfl rfl rfl rfl rfl ⟨v_51, v_53, v_55, v_49, rfl, hS.pick [2, 1, 0, 3] (by decide) rfl⟩
 ·intro hK_3
  refine wpC_region (wpR_v (OpV_move rfl) rfl (wpR_v (OpV_len Tryd.underlying22 rfl (ha0.now hS.fr)) rfl ?_))
  refine wpR_v (OpV_bin rfl rfl (b_igtr _ (a0.length : Int) 65536)) rfl ?_
  refine wpR_v (OpV_move rfl) rfl ?_
  cases hb_1 : (decide ((65536 : Int) < (a0.length : Int)))
  case true =>
   have h := if_t h hb_1
   try simp only [hb_1]
   refine wpR_gskip (b := true) (t := 19) rfl rfl rfl rfl ?_
   refine wpR_gskip (b := true) (t := 19) rfl rfl rfl rfl ?_
   refine wpR_gskip (b := true) (t := 19) rfl rfl rfl rfl ?_
   refine wpR_v (OpV_pickT rfl rfl) rfl (wpR_nil (QE_then_n ?_))
   exact wpC_le _ (by exact ⟨rfl, rfl, rfl, rfl, trivial⟩) (hK_3 true _ _ ⟨rfl, hS⟩ h)
  case false =>
   have h := if_f h hb_1
   try simp only [hb_1]
   refine wpR_gv (t := 19) rfl rfl (OpV_move rfl) rfl ?_
   refine wpR_gv (t := 19) rfl rfl (OpV_len Tryd.underlying22 rfl (ha1.now hS.fr)) rfl ?_
   refine wpR_gv (t := 19) rfl rfl (OpV_bin rfl rfl (b_igtr _ (a1.length : Int) 65536)) rfl ?_
   refine wpR_v (OpV_pickF rfl rfl) rfl (wpR_nil (QE_then_n ?_))
   exact wpC_le _ (by exact ⟨rfl, rfl, rfl, rfl, trivial⟩) (hK_3 (decide ((65536 : Int) < (a1.length : Int))) _ _ ⟨rfl, hS⟩ h)
end Go.Proofs
