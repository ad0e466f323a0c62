import Derived.Test.YtgjpaedgcpjigaaDoorVW0
import Derived.Test.YtgjpaedgcpjigaaDoorGkFlaw31
import Derived.Test.YtgjpaedgcpjigaaDoorVWcborc
import Derived.Test.YtgjpaedgcpjigaaDoorVWcoseb
import Derived.Test.YtgjpaedgcpjigaaDoorVWlaw31b
set_option linter.unusedVariables false
set_option linter.unusedSimpArgs false
set_option linter.unusedVariables false
set_option maxRecDepth 4000
namespace Go.Proofs
open Go Go.RowKit Go.Gk
theorem c_law31_CoseSaid (w0 : World) (a0 : List UInt8) (va0 : Value) (hT : TB [] w0) (ha0 : RP [] w0 e8 va0 a0) (r : Bool)
  (h : F.law31_CoseSaid a0 = some r) : Calls Tryd.prog 5 #[va0] w0 (Ret fun v w => v = vB r ∧ St [] w0 w []) := by
 refine calls_at 253 Tryd.func5 rfl rfl rfl ?_
 have hS := St.start w0
 refine wpC_le [(0, va0)] ⟨rfl, trivial⟩ ?_
 unfold F.law31_CoseSaid at h
 refine wpC_seq (wpC_region (wpR_v (OpV_assign rfl) rfl (wpR_nil (QE_then_n (wpC_seq (wpC_seq ?_))))))
 refine wpC_region ?_
 obtain ⟨x_1, hx_1, h⟩ := obind_some h
 refine wpR_call (by kernel_rfl) rfl (c_law31_awake _    (hT.now hS.fr) _ hx_1) rfl ?_
 rintro _ w ⟨rfl, hS1⟩
 have hS := hS.call hS1
 simp only [List.cons_append, List.nil_append] at hS
 refine wpR_v (OpV_un rfl (u_not x_1)) rfl ?_
 refine wpR_nil (QE_then_n ?_)
 refine wpC_cond rfl (fun hb_97 => ?_) (fun hb_97 => ?_)
 ·have h := if_t h hb_97
  refine wpC_seq (wpC_region (wpR_v (OpV_assign rfl) rfl (wpR_nil (QE_then_n (wpC_ret (QE_then_r ?_))))))
  cases h
  exact QE_ret1 rfl rfl ⟨rfl, hS⟩
 ·have h := if_f h hb_97
  refine wpC_skip (QE_then_n (wpC_seq (wpC_region (wpR_v (OpV_move rfl) rfl ?_))))
  obtain ⟨x_2, hx_2, h⟩ := obind_some h
  refine wpR_call (by kernel_rfl) rfl (c_cose_Claims _ a0 va0  (hT.now hS.fr) (ha0.now hS.fr).rp _ hx_2) rfl ?_
  rintro _ w ⟨v_3, v_5, rfl, hS1⟩
  have hS := hS.call hS1
  simp only [List.cons_append, List.nil_append] at hS
  refine wpR_v (OpV_move rfl) rfl (wpR_v (OpV_extract rfl rfl) rfl ?_)
  refine wpR_v (OpV_extract rfl rfl) rfl ?_
  refine wpR_x (OpX_alloc (cs := [.slice none 0 0, vS [], vB false, vS [], vB false, .slice none 0 0, vB false, vS [], vB false, vB false, vI 0, vB false, vI 0, vB false, vI 0]) tz29 rfl hS) rfl ?_
  rintro _ w ⟨b_7, rfl, hS⟩
  refine wpR_y (OpY_stB (i := 0) (us := [v_3, vS x_2.2.1, vB x_2.2.2.1, vS x_2.2.2.2.1, vB x_2.2.2.2.2.1, v_5, vB x_2.2.2.2.2.2.2.1, vS x_2.2.2.2.2.2.2.2.1, vB x_2.2.2.2.2.2.2.2.2.1, vB x_2.2.2.2.2.2.2.2.2.2.1, vI x_2.2.2.2.2.2.2.2.2.2.2.1, vB x_2.2.2.2.2.2.2.2.2.2.2.2.1, vI x_2.2.2.2.2.2.2.2.2.2.2.2.2.1, vB x_2.2.2.2.2.2.2.2.2.2.2.2.2.2.1, vI x_2.2.2.2.2.2.2.2.2.2.2.2.2.2.2.1]) rfl sz29 rfl rfl rfl ⟨(hS.ro 1 rfl).one, rfl, rfl, rfl, rfl, (hS.ro 2 rfl).one, rfl, rfl, rfl, rfl, rfl, rfl, rfl, rfl, rfl, trivial⟩ rfl hS) ?_
  intro w hS
  replace hS : St _ w0 w [OE.bx b_7 [v_3, vS x_2.2.1, vB x_2.2.2.1, vS x_2.2.2.2.1, vB x_2.2.2.2.2.1, v_5, vB x_2.2.2.2.2.2.2.1, vS x_2.2.2.2.2.2.2.2.1, vB x_2.2.2.2.2.2.2.2.2.1, vB x_2.2.2.2.2.2.2.2.2.2.1, vI x_2.2.2.2.2.2.2.2.2.2.2.1, vB x_2.2.2.2.2.2.2.2.2.2.2.2.1, vI x_2.2.2.2.2.2.2.2.2.2.2.2.2.1, vB x_2.2.2.2.2.2.2.2.2.2.2.2.2.2.1, vI x_2.2.2.2.2.2.2.2.2.2.2.2.2.2.2.1], own (eP eI (eP eS (eP eS (eP eB (eP eI eI))))) v_3 x_2.1, own eS v_5 x_2.2.2.2.2.2.1] := hS
  obtain ⟨x_9, hx_9, h⟩ := olet_some h
  refine wpR_v (OpV_assign (v := vI x_9) (by rw [← hx_9]; rfl)) rfl ?_
  refine wpR_nil (QE_then_n (wpC_seq (wpC_region ?_)))
  refine wpR_v (OpV_ldBs (us := [v_3, vS x_2.2.1, vB x_2.2.2.1, vS x_2.2.2.2.1, vB x_2.2.2.2.2.1, v_5, vB x_2.2.2.2.2.2.2.1, vS x_2.2.2.2.2.2.2.2.1, vB x_2.2.2.2.2.2.2.2.2.1, vB x_2.2.2.2.2.2.2.2.2.2.1, vI x_2.2.2.2.2.2.2.2.2.2.2.1, vB x_2.2.2.2.2.2.2.2.2.2.2.2.1, vI x_2.2.2.2.2.2.2.2.2.2.2.2.2.1, vB x_2.2.2.2.2.2.2.2.2.2.2.2.2.2.1, vI x_2.2.2.2.2.2.2.2.2.2.2.2.2.2.2.1]) Tryd.underlying29 rfl sz29 rfl (hS.bxs 0 rfl rfl)) rfl ?_
  refine wpR_v (OpV_build (vs := []) (cells := [.slice none 0 0, vS [], vB false, vS [], vB false, .slice none 0 0, vB false, vS [], vB false, vB false, vI 0, vB false, vI 0, vB false, vI 0]) rfl lay29 trivial (by kernel_rfl)) rfl ?_
  obtain ⟨x_10, hx_10, h⟩ := obind_some h
  refine wpR_call (by kernel_rfl) rfl (c_law31_sameClaims _ x_2.1 x_2.2.1 x_2.2.2.1 x_2.2.2.2.1 x_2.2.2.2.2.1 x_2.2.2.2.2.2.1 x_2.2.2.2.2.2.2.1 x_2.2.2.2.2.2.2.2.1 x_2.2.2.2.2.2.2.2.2.1 x_2.2.2.2.2.2.2.2.2.2.1 x_2.2.2.2.2.2.2.2.2.2.2.1 x_2.2.2.2.2.2.2.2.2.2.2.2.1 x_2.2.2.2.2.2.2.2.2.2.2.2.2.1 x_2.2.2.2.2.2.2.2.2.2.2.2.2.2.1 x_2.2.2.2.2.2.2.2.2.2.2.2.2.2.2.1 [] [] false [] false [] false [] false false 0 false 0 false 0 v_3 v_5 (.slice none 0 0) (.slice none 0 0)  (hS.ro 1 rfl).rp (hS.ro 2 rfl).rp (RO.nil _ (eP eI (eP eS (eP eS (eP eB (eP eI eI)))))).rp (RO.nil _ eS).rp _ hx_10) rfl ?_
  rintro _ w ⟨rfl, hS1⟩
  have hS := hS.call hS1
  simp only [List.cons_append, List.nil_append] at hS
  refine wpR_v (OpV_assign rfl) rfl (wpR_nil (QE_then_n (wpC_seq (wpC_region (wpR_v (OpV_move rfl) rfl ?_)))))
  obtain ⟨x_11, hx_11, h⟩ := obind_some h
  refine wpR_call (by kernel_rfl) rfl (c_cbor_Parse _ a0 va0  (hT.now hS.fr) (ha0.now hS.fr).rp _ hx_11) rfl ?_
  rintro _ w ⟨v_12, rfl, hS1⟩
  have hS := hS.call hS1
  simp only [List.cons_append, List.nil_append] at hS
  refine wpR_v (OpV_move rfl) rfl (wpR_v (OpV_extract rfl rfl) rfl ?_)
  refine wpR_v (OpV_extract rfl rfl) rfl ?_
  refine wpR_v (OpV_extract rfl rfl) rfl ?_
  refine wpR_v (OpV_assign rfl) rfl (wpR_v (OpV_assign rfl) rfl (wpR_v (OpV_assign rfl) rfl (wpR_nil (QE_then_n (wpC_seq (wpC_seq ?_))))))
  refine wpC_region (wpR_v (OpV_move rfl) rfl (wpR_v (OpV_bin rfl rfl (b_ineq _ x_11.2.1 0)) rfl ?_))
  refine wpR_nil (QE_then_n ?_)
  refine wpC_cond rfl (fun hb_96 => ?_) (fun hb_96 => ?_)
  ·have h := if_t h hb_96
   refine wpC_seq (wpC_region (wpR_v (OpV_move rfl) rfl (wpR_v (OpV_move rfl) rfl (wpR_v (OpV_bin rfl rfl (b_ieql _ x_9 x_11.2.1)) rfl ?_))))
   refine wpR_v (OpV_move rfl) rfl ?_
   cases hb_14 : (x_9 == x_11.2.1)
   case true =>
    have h := if_t h hb_14
    try simp only [hb_14]
    refine wpR_gv (t := 49) rfl rfl (OpV_move rfl) rfl ?_
    refine wpR_v (OpV_pickT rfl rfl) rfl (wpR_v (OpV_assign rfl) rfl (wpR_nil (QE_then_n (wpC_ret (QE_then_r ?_)))))
    cases h
    exact QE_ret1 rfl rfl ⟨rfl, hS.pick [] (by decide) rfl⟩
   case false =>
    have h := if_f h hb_14
    try simp only [hb_14]
    refine wpR_gskip (b := false) (t := 49) rfl rfl rfl rfl ?_
    refine wpR_v (OpV_pickF rfl rfl) rfl (wpR_v (OpV_assign rfl) rfl (wpR_nil (QE_then_n (wpC_ret (QE_then_r ?_)))))
    cases h
    exact QE_ret1 rfl rfl ⟨rfl, hS.pick [] (by decide) rfl⟩
  ·have h := if_f h hb_96
   refine wpC_skip (QE_then_n (wpC_seq (wpC_seq (wpC_region (wpR_v (OpV_move rfl) rfl ?_)))))
   obtain ⟨x_15, hx_15, h⟩ := obind_some h
   refine wpR_v (G_ix Tryd.underlying37 ti42 rfl rfl (hS.ro 0 rfl) hx_15) rfl ?_
   refine wpR_v (OpV_fieldE (k := 0) Tryd.underlying42 rfl rfl nz3 rfl) rfl ?_
   refine wpR_v (G_loadF Tryd.underlying3 rfl rfl (hS.ro 0 rfl) hx_15 rfl rfl) rfl ?_
   refine wpR_v (OpV_bin rfl rfl (b_ineq _ x_15.1 5)) rfl ?_
   refine wpR_nil (QE_then_n ?_)
   refine wpC_cond rfl (fun hb_95 => ?_) (fun hb_95 => ?_)
   ·have h := if_t h hb_95
    refine wpC_seq (wpC_region (wpR_v (OpV_move rfl) rfl (wpR_v (OpV_bin rfl rfl (b_ieql _ x_9 130)) rfl ?_)))
    refine wpR_v (OpV_move rfl) rfl ?_
    cases hb_16 : (x_9 == 130)
    case true =>
     have h := if_t h hb_16
     try simp only [hb_16]
     refine wpR_gv (t := 59) rfl rfl (OpV_move rfl) rfl ?_
     refine wpR_v (OpV_pickT rfl rfl) rfl (wpR_v (OpV_assign rfl) rfl (wpR_nil (QE_then_n (wpC_ret (QE_then_r ?_)))))
     cases h
     exact QE_ret1 rfl rfl ⟨rfl, hS.pick [] (by decide) rfl⟩
    case false =>
     have h := if_f h hb_16
     try simp only [hb_16]
     refine wpR_gskip (b := false) (t := 59) rfl rfl rfl rfl ?_
     refine wpR_v (OpV_pickF rfl rfl) rfl (wpR_v (OpV_assign rfl) rfl (wpR_nil (QE_then_n (wpC_ret (QE_then_r ?_)))))
     cases h
     exact QE_ret1 rfl rfl ⟨rfl, hS.pick [] (by decide) rfl⟩
   ·have h := if_f h hb_95
    refine wpC_skip (QE_then_n (wpC_seq (wpC_region (wpR_v (OpV_move rfl) rfl ?_))))
    obtain ⟨x_17, hx_17, h⟩ := obind_some h
    refine wpR_call (by kernel_rfl) rfl (c_law31_word _ x_11.1 1 3 v_12  (hT.now hS.fr) (hS.ro 0 rfl).rp _ hx_17) rfl ?_
    rintro _ w ⟨rfl, hS1⟩
    have hS := hS.call hS1
    simp only [List.cons_append, List.nil_append] at hS
    refine wpR_v (OpV_move rfl) rfl (wpR_v (OpV_extract rfl rfl) rfl ?_)
    refine wpR_v (OpV_extract rfl rfl) rfl ?_
    refine wpR_v (OpV_extract rfl rfl) rfl ?_
    refine wpR_v (OpV_assign rfl) rfl (wpR_v (OpV_assign rfl) rfl (wpR_v (OpV_assign rfl) rfl (wpR_nil (QE_then_n (wpC_seq (wpC_region ?_))))))
    refine wpR_v (OpV_move rfl) rfl ?_
    obtain ⟨x_18, hx_18, h⟩ := obind_some h
    refine wpR_call (by kernel_rfl) rfl (c_law31_word _ x_11.1 2 3 v_12  (hT.now hS.fr) (hS.ro 0 rfl).rp _ hx_18) rfl ?_
    rintro _ w ⟨rfl, hS1⟩
    have hS := hS.call hS1
    simp only [List.cons_append, List.nil_append] at hS
    refine wpR_v (OpV_move rfl) rfl (wpR_v (OpV_extract rfl rfl) rfl ?_)
    refine wpR_v (OpV_extract rfl rfl) rfl ?_
    refine wpR_v (OpV_extract rfl rfl) rfl ?_
    refine wpR_v (OpV_assign rfl) rfl (wpR_v (OpV_assign rfl) rfl (wpR_v (OpV_assign rfl) rfl (wpR_nil (QE_then_n (wpC_seq (wpC_region ?_))))))
    refine wpR_v (OpV_move rfl) rfl ?_
    obtain ⟨x_19, hx_19, h⟩ := obind_some h
    refine wpR_call (by kernel_rfl) rfl (c_law31_word _ x_11.1 7 2 v_12  (hT.now hS.fr) (hS.ro 0 rfl).rp _ hx_19) rfl ?_
    rintro _ w ⟨rfl, hS1⟩
    have hS := hS.call hS1
    simp only [List.cons_append, List.nil_append] at hS
    refine wpR_v (OpV_move rfl) rfl (wpR_v (OpV_extract rfl rfl) rfl ?_)
    refine wpR_v (OpV_extract rfl rfl) rfl ?_
    refine wpR_v (OpV_extract rfl rfl) rfl ?_
    refine wpR_v (OpV_assign rfl) rfl (wpR_v (OpV_assign rfl) rfl (wpR_v (OpV_assign rfl) rfl (wpR_nil (QE_then_n (wpC_seq (wpC_region ?_))))))
    refine wpR_v (OpV_move rfl) rfl ?_
    obtain ⟨x_20, hx_20, h⟩ := obind_some h
    refine wpR_call (by kernel_rfl) rfl (c_law31_when _ x_11.1 4 v_12  (hT.now hS.fr) (hS.ro 0 rfl).rp _ hx_20) rfl ?_
    rintro _ w ⟨rfl, hS1⟩
    have hS := hS.call hS1
    simp only [List.cons_append, List.nil_append] at hS
    refine wpR_v (OpV_move rfl) rfl (wpR_v (OpV_extract rfl rfl) rfl ?_)
    refine wpR_v (OpV_extract rfl rfl) rfl ?_
    refine wpR_x (OpX_alloc (cs := [vB false, vI 0]) tz27 rfl hS) rfl ?_
    rintro _ w ⟨b_21, rfl, hS⟩
    refine wpR_y (OpY_stB (i := 0) (us := [vB x_20.1, vI x_20.2.1]) rfl sz27 rfl rfl rfl ⟨rfl, rfl, trivial⟩ rfl hS) ?_
    intro w hS
    replace hS : St _ w0 w [OE.bx b_21 [vB x_20.1, vI x_20.2.1], own (eP eI (eP e64 (eP eS eI))) v_12 x_11.1, OE.bx b_7 [v_3, vS x_2.2.1, vB x_2.2.2.1, vS x_2.2.2.2.1, vB x_2.2.2.2.2.1, v_5, vB x_2.2.2.2.2.2.2.1, vS x_2.2.2.2.2.2.2.2.1, vB x_2.2.2.2.2.2.2.2.2.1, vB x_2.2.2.2.2.2.2.2.2.2.1, vI x_2.2.2.2.2.2.2.2.2.2.2.1, vB x_2.2.2.2.2.2.2.2.2.2.2.2.1, vI x_2.2.2.2.2.2.2.2.2.2.2.2.2.1, vB x_2.2.2.2.2.2.2.2.2.2.2.2.2.2.1, vI x_2.2.2.2.2.2.2.2.2.2.2.2.2.2.2.1], own (eP eI (eP eS (eP eS (eP eB (eP eI eI))))) v_3 x_2.1, own eS v_5 x_2.2.2.2.2.2.1] := hS
    refine wpR_v (OpV_assign rfl) rfl (wpR_nil (QE_then_n (wpC_seq (wpC_region (wpR_v (OpV_move rfl) rfl ?_)))))
    obtain ⟨x_23, hx_23, h⟩ := obind_some h
    refine wpR_call (by kernel_rfl) rfl (c_law31_when _ x_11.1 5 v_12  (hT.now hS.fr) (hS.ro 1 rfl).rp _ hx_23) rfl ?_
    rintro _ w ⟨rfl, hS1⟩
    have hS := hS.call hS1
    simp only [List.cons_append, List.nil_append] at hS
    refine wpR_v (OpV_move rfl) rfl (wpR_v (OpV_extract rfl rfl) rfl ?_)
    refine wpR_v (OpV_extract rfl rfl) rfl ?_
    refine wpR_x (OpX_alloc (cs := [vB false, vI 0]) tz27 rfl hS) rfl ?_
    rintro _ w ⟨b_24, rfl, hS⟩
    refine wpR_y (OpY_stB (i := 0) (us := [vB x_23.1, vI x_23.2.1]) rfl sz27 rfl rfl rfl ⟨rfl, rfl, trivial⟩ rfl hS) ?_
    intro w hS
    replace hS : St _ w0 w [OE.bx b_24 [vB x_23.1, vI x_23.2.1], OE.bx b_21 [vB x_20.1, vI x_20.2.1], own (eP eI (eP e64 (eP eS eI))) v_12 x_11.1, OE.bx b_7 [v_3, vS x_2.2.1, vB x_2.2.2.1, vS x_2.2.2.2.1, vB x_2.2.2.2.2.1, v_5, vB x_2.2.2.2.2.2.2.1, vS x_2.2.2.2.2.2.2.2.1, vB x_2.2.2.2.2.2.2.2.2.1, vB x_2.2.2.2.2.2.2.2.2.2.1, vI x_2.2.2.2.2.2.2.2.2.2.2.1, vB x_2.2.2.2.2.2.2.2.2.2.2.2.1, vI x_2.2.2.2.2.2.2.2.2.2.2.2.2.1, vB x_2.2.2.2.2.2.2.2.2.2.2.2.2.2.1, vI x_2.2.2.2.2.2.2.2.2.2.2.2.2.2.2.1], own (eP eI (eP eS (eP eS (eP eB (eP eI eI))))) v_3 x_2.1, own eS v_5 x_2.2.2.2.2.2.1] := hS
    refine wpR_v (OpV_assign rfl) rfl (wpR_nil (QE_then_n (wpC_seq (wpC_region (wpR_v (OpV_move rfl) rfl ?_)))))
    obtain ⟨x_26, hx_26, h⟩ := obind_some h
    refine wpR_call (by kernel_rfl) rfl (c_law31_when _ x_11.1 6 v_12  (hT.now hS.fr) (hS.ro 2 rfl).rp _ hx_26) rfl ?_
    rintro _ w ⟨rfl, hS1⟩
    have hS := hS.call hS1
    simp only [List.cons_append, List.nil_append] at hS
    refine wpR_v (OpV_move rfl) rfl (wpR_v (OpV_extract rfl rfl) rfl ?_)
    refine wpR_v (OpV_extract rfl rfl) rfl ?_
    refine wpR_x (OpX_alloc (cs := [vB false, vI 0]) tz27 rfl hS) rfl ?_
    rintro _ w ⟨b_27, rfl, hS⟩
    refine wpR_y (OpY_stB (i := 0) (us := [vB x_26.1, vI x_26.2.1]) rfl sz27 rfl rfl rfl ⟨rfl, rfl, trivial⟩ rfl hS) ?_
    intro w hS
    replace hS : St _ w0 w [OE.bx b_27 [vB x_26.1, vI x_26.2.1], OE.bx b_24 [vB x_23.1, vI x_23.2.1], OE.bx b_21 [vB x_20.1, vI x_20.2.1], own (eP eI (eP e64 (eP eS eI))) v_12 x_11.1, OE.bx b_7 [v_3, vS x_2.2.1, vB x_2.2.2.1, vS x_2.2.2.2.1, vB x_2.2.2.2.2.1, v_5, vB x_2.2.2.2.2.2.2.1, vS x_2.2.2.2.2.2.2.2.1, vB x_2.2.2.2.2.2.2.2.2.1, vB x_2.2.2.2.2.2.2.2.2.2.1, vI x_2.2.2.2.2.2.2.2.2.2.2.1, vB x_2.2.2.2.2.2.2.2.2.2.2.2.1, vI x_2.2.2.2.2.2.2.2.2.2.2.2.2.1, vB x_2.2.2.2.2.2.2.2.2.2.2.2.2.2.1, vI x_2.2.2.2.2.2.2.2.2.2.2.2.2.2.2.1], own (eP eI (eP eS (eP eS (eP eB (eP eI eI))))) v_3 x_2.1, own eS v_5 x_2.2.2.2.2.2.1] := hS
    refine wpR_v (OpV_assign rfl) rfl (wpR_nil (QE_then_n (wpC_seq (wpC_region (wpR_v (OpV_assign rfl) rfl (wpR_nil ?_))))))
    refine QE_then_n (wpC_seq (wpC_region (wpR_v (OpV_assign rfl) rfl (wpR_nil (QE_then_n (wpC_seq ?_))))))
    refine wpC_region (wpR_v (OpV_move rfl) rfl ?_)
    obtain ⟨x_29, hx_29, h⟩ := obind_some h
    refine wpR_call (by kernel_rfl) rfl (c_law31_part _ x_11.1 3 v_12  (hT.now hS.fr) (hS.ro 3 rfl).rp _ hx_29) rfl ?_
    rintro _ w ⟨rfl, hS1⟩
    have hS := hS.call hS1
    simp only [List.cons_append, List.nil_append] at hS
    refine wpR_v (OpV_assign rfl) rfl (wpR_nil (QE_then_n ?_))
    refine seq_join (r := r) (fun (g : List (List UInt8) × Bool) L w => ∃ (v_66 : Value), L = [(3, pB b_7 0), (4, vI x_9), (5, vB x_10), (9, vS x_17.1), (10, vB x_17.2.1), (11, vB x_17.2.2), (12, vS x_18.1), (13, vB x_18.2.1), (14, vB x_18.2.2), (15, vS x_19.1), (16, vB x_19.2.1), (17, vB x_19.2.2), (18, pB b_21 0), (19, vB x_20.2.2), (20, pB b_24 0), (21, vB x_23.2.2), (22, pB b_27 0), (23, vB x_26.2.2), (24, v_66), (25, vB g.2), (26, vI x_29)] ∧ St [] w0 w [own eS v_66 g.1, OE.bx b_7 [v_3, vS x_2.2.1, vB x_2.2.2.1, vS x_2.2.2.2.1, vB x_2.2.2.2.2.1, v_5, vB x_2.2.2.2.2.2.2.1, vS x_2.2.2.2.2.2.2.2.1, vB x_2.2.2.2.2.2.2.2.2.1, vB x_2.2.2.2.2.2.2.2.2.2.1, vI x_2.2.2.2.2.2.2.2.2.2.2.1, vB x_2.2.2.2.2.2.2.2.2.2.2.2.1, vI x_2.2.2.2.2.2.2.2.2.2.2.2.2.1, vB x_2.2.2.2.2.2.2.2.2.2.2.2.2.2.1, vI x_2.2.2.2.2.2.2.2.2.2.2.2.2.2.2.1], own (eP eI (eP eS (eP eS (eP eB (eP eI eI))))) v_3 x_2.1, own eS v_5 x_2.2.2.2.2.2.1, OE.bx b_21 [vB x_20.1, vI x_20.2.1], OE.bx b_24 [vB x_23.1, vI x_23.2.1], OE.bx b_27 [vB x_26.1, vI x_26.2.1]]) (F.law31_CoseSaid_K1 x_17 x_18 x_19 x_20 x_23 x_26 x_2 x_9 x_10 x_29) ?_ ?_
    ·rintro ⟨x_65, x_68⟩ L w hJ h
     try dsimp only at hJ
     obtain ⟨v_66, rfl, hS⟩ := hJ
     unfold F.law31_CoseSaid_K1 at h
     refine wpC_seq ?_
     refine seq_join (r := r) (fun (g : Bool) L w => L = [(3, pB b_7 0), (4, vI x_9), (5, vB x_10), (9, vS x_17.1), (10, vB x_17.2.1), (12, vS x_18.1), (13, vB x_18.2.1), (15, vS x_19.1), (16, vB x_19.2.1), (18, pB b_21 0), (20, pB b_24 0), (22, pB b_27 0), (24, v_66), (26, vI x_29), (174, vB g)] ∧ St [] w0 w [OE.bx b_7 [v_3, vS x_2.2.1, vB x_2.2.2.1, vS x_2.2.2.2.1, vB x_2.2.2.2.2.1, v_5, vB x_2.2.2.2.2.2.2.1, vS x_2.2.2.2.2.2.2.2.1, vB x_2.2.2.2.2.2.2.2.2.1, vB x_2.2.2.2.2.2.2.2.2.2.1, vI x_2.2.2.2.2.2.2.2.2.2.2.1, vB x_2.2.2.2.2.2.2.2.2.2.2.2.1, vI x_2.2.2.2.2.2.2.2.2.2.2.2.2.1, vB x_2.2.2.2.2.2.2.2.2.2.2.2.2.2.1, vI x_2.2.2.2.2.2.2.2.2.2.2.2.2.2.2.1], own (eP eI (eP eS (eP eS (eP eB (eP eI eI))))) v_3 x_2.1, own eS v_5 x_2.2.2.2.2.2.1, OE.bx b_21 [vB x_20.1, vI x_20.2.1], OE.bx b_24 [vB x_23.1, vI x_23.2.1], OE.bx b_27 [vB x_26.1, vI x_26.2.1], own eS v_66 x_65]) (F.law31_CoseSaid_K2 x_2 x_9 x_10 x_17 x_18 x_19 x_29 x_20 x_23 x_26 x_65) ?_ ?_
     ·rintro x_76 L w hJ h
      try dsimp only at hJ
      obtain ⟨rfl, hS⟩ := hJ
      unfold F.law31_CoseSaid_K2 at h
      refine wpC_cond rfl (fun hb_94 => ?_) (fun hb_94 => ?_)
      ·have h := if_t h hb_94
       refine wpC_seq (wpC_region (wpR_v (OpV_move rfl) rfl (wpR_v (OpV_bin rfl rfl (b_ieql _ x_9 131)) rfl ?_)))
       refine wpR_v (OpV_move rfl) rfl ?_
       cases hb_78 : (x_9 == 131)
       case true =>
        have h := if_t h hb_78
        try simp only [hb_78]
        refine wpR_gv (t := 177) rfl rfl (OpV_move rfl) rfl ?_
        refine wpR_v (OpV_pickT rfl rfl) rfl (wpR_v (OpV_assign rfl) rfl (wpR_nil (QE_then_n (wpC_ret (QE_then_r ?_)))))
        cases h
        exact QE_ret1 rfl rfl ⟨rfl, hS.pick [] (by decide) rfl⟩
       case false =>
        have h := if_f h hb_78
        try simp only [hb_78]
        refine wpR_gskip (b := false) (t := 177) rfl rfl rfl rfl ?_
        refine wpR_v (OpV_pickF rfl rfl) rfl (wpR_v (OpV_assign rfl) rfl (wpR_nil (QE_then_n (wpC_ret (QE_then_r ?_)))))
        cases h
        exact QE_ret1 rfl rfl ⟨rfl, hS.pick [] (by decide) rfl⟩
      ·have h := if_f h hb_94
       refine wpC_skip (QE_then_n (wpC_seq ?_))
       refine seq_join (r := r) (fun (g : Bool) L w => L = [(3, pB b_7 0), (9, vS x_17.1), (12, vS x_18.1), (15, vS x_19.1), (18, pB b_21 0), (20, pB b_24 0), (22, pB b_27 0), (24, v_66), (212, vB g)] ∧ St [] w0 w [OE.bx b_7 [v_3, vS x_2.2.1, vB x_2.2.2.1, vS x_2.2.2.2.1, vB x_2.2.2.2.2.1, v_5, vB x_2.2.2.2.2.2.2.1, vS x_2.2.2.2.2.2.2.2.1, vB x_2.2.2.2.2.2.2.2.2.1, vB x_2.2.2.2.2.2.2.2.2.2.1, vI x_2.2.2.2.2.2.2.2.2.2.2.1, vB x_2.2.2.2.2.2.2.2.2.2.2.2.1, vI x_2.2.2.2.2.2.2.2.2.2.2.2.2.1, vB x_2.2.2.2.2.2.2.2.2.2.2.2.2.2.1, vI x_2.2.2.2.2.2.2.2.2.2.2.2.2.2.2.1], own (eP eI (eP eS (eP eS (eP eB (eP eI eI))))) v_3 x_2.1, own eS v_5 x_2.2.2.2.2.2.1, OE.bx b_21 [vB x_20.1, vI x_20.2.1], OE.bx b_24 [vB x_23.1, vI x_23.2.1], OE.bx b_27 [vB x_26.1, vI x_26.2.1], own eS v_66 x_65]) (F.law31_CoseSaid_K3 x_2 x_17 x_18 x_19 x_20 x_23 x_26 x_65) ?_ ?_
       ·rintro x_84 L w hJ h
        try dsimp only at hJ
        obtain ⟨rfl, hS⟩ := hJ
        unfold F.law31_CoseSaid_K3 at h
        refine wpC_cond rfl (fun hb_93 => ?_) (fun hb_93 => ?_)
        ·have h := if_t h hb_93
         refine wpC_seq (wpC_region (wpR_v (OpV_assign rfl) rfl (wpR_nil (QE_then_n (wpC_ret (QE_then_r ?_))))))
         cases h
         exact QE_ret1 rfl rfl ⟨rfl, hS.pick [] (by decide) rfl⟩
        ·have h := if_f h hb_93
         refine wpC_skip (QE_then_n (wpC_seq (wpC_region (wpR_v (OpV_fieldB (k := 1) Tryd.underlying29 rfl rfl nz9 rfl) rfl ?_))))
         refine wpR_v (OpV_ldB Tryd.underlying9 rfl rfl (hS.bxc 0 rfl 1)) rfl ?_
         refine wpR_v (OpV_move rfl) rfl (wpR_v (OpV_bin rfl rfl (b_seql _ x_2.2.1 x_17.1)) rfl ?_)
         refine wpR_v (OpV_move rfl) rfl ?_
         cases hb_86 : (x_2.2.1 == x_17.1)
         case true =>
          have h := if_t h hb_86
          try simp only [hb_86]
          refine wpR_gv (t := 217) rfl rfl (OpV_fieldB (k := 3) Tryd.underlying29 rfl rfl nz9 rfl) rfl ?_
          refine wpR_gv (t := 217) rfl rfl (OpV_ldB Tryd.underlying9 rfl rfl (hS.bxc 0 rfl 3)) rfl ?_
          refine wpR_gv (t := 217) rfl rfl (OpV_move rfl) rfl ?_
          refine wpR_gv (t := 217) rfl rfl (OpV_bin rfl rfl (b_seql _ x_2.2.2.2.1 x_18.1)) rfl ?_
          refine wpR_v (OpV_pickT rfl rfl) rfl (wpR_v (OpV_move rfl) rfl ?_)
          cases hb_87 : (x_2.2.2.2.1 == x_18.1)
          case true =>
           have h := if_t h hb_87
           try simp only [hb_87]
           refine wpR_gv (t := 223) rfl rfl (OpV_fieldB (k := 7) Tryd.underlying29 rfl rfl nz9 rfl) rfl ?_
           refine wpR_gv (t := 223) rfl rfl (OpV_ldB Tryd.underlying9 rfl rfl (hS.bxc 0 rfl 7)) rfl ?_
           refine wpR_gv (t := 223) rfl rfl (OpV_move rfl) rfl ?_
           refine wpR_gv (t := 223) rfl rfl (OpV_bin rfl rfl (b_seql _ x_2.2.2.2.2.2.2.2.1 x_19.1)) rfl ?_
           refine wpR_v (OpV_pickT rfl rfl) rfl (wpR_v (OpV_move rfl) rfl ?_)
           cases hb_88 : (x_2.2.2.2.2.2.2.2.1 == x_19.1)
           case true =>
            have h := if_t h hb_88
            try simp only [hb_88]
            refine wpR_gv (t := 229) rfl rfl (OpV_fieldB (k := 9) Tryd.underlying29 rfl rfl nz27 rfl) rfl ?_
            refine wpR_gv (t := 229) rfl rfl (OpV_ldBs (us := [vB x_2.2.2.2.2.2.2.2.2.2.1, vI x_2.2.2.2.2.2.2.2.2.2.2.1]) Tryd.underlying27 rfl sz27 rfl (hS.bxs 0 rfl rfl)) rfl ?_
            refine wpR_gv (t := 229) rfl rfl (OpV_ldBs (us := [vB x_20.1, vI x_20.2.1]) Tryd.underlying27 rfl sz27 rfl (hS.bxs 3 rfl rfl)) rfl ?_
            refine wpR_gv (t := 229) rfl rfl (OpV_bin rfl rfl (agx (b' := (x_2.2.2.2.2.2.2.2.2.2.1, x_2.2.2.2.2.2.2.2.2.2.2.1) == (x_20.1, x_20.2.1)) (b_ageq Tryd.underlying27 sh27 eg27 (eqf_b rfl Tryd.underlying4 rfl rfl (eqf_i rfl Tryd.underlying2 rfl rfl eqf_nil))) (by simp only [Bool.and_true]; rfl))) rfl ?_
            refine wpR_v (OpV_pickT rfl rfl) rfl (wpR_v (OpV_move rfl) rfl ?_)
            cases hb_89 : ((x_2.2.2.2.2.2.2.2.2.2.1, x_2.2.2.2.2.2.2.2.2.2.2.1) == (x_20.1, x_20.2.1))
            case true =>
             have h := if_t h hb_89
             try simp only [hb_89]
             refine wpR_gv (t := 235) rfl rfl (OpV_fieldB (k := 11) Tryd.underlying29 rfl rfl nz27 rfl) rfl ?_
             refine wpR_gv (t := 235) rfl rfl (OpV_ldBs (us := [vB x_2.2.2.2.2.2.2.2.2.2.2.2.1, vI x_2.2.2.2.2.2.2.2.2.2.2.2.2.1]) Tryd.underlying27 rfl sz27 rfl (hS.bxs 0 rfl rfl)) rfl ?_
             refine wpR_gv (t := 235) rfl rfl (OpV_ldBs (us := [vB x_23.1, vI x_23.2.1]) Tryd.underlying27 rfl sz27 rfl (hS.bxs 4 rfl rfl)) rfl ?_
             refine wpR_gv (t := 235) rfl rfl (OpV_bin rfl rfl (agx (b' := (x_2.2.2.2.2.2.2.2.2.2.2.2.1, x_2.2.2.2.2.2.2.2.2.2.2.2.2.1) == (x_23.1, x_23.2.1)) (b_ageq Tryd.underlying27 sh27 eg27 (eqf_b rfl Tryd.underlying4 rfl rfl (eqf_i rfl Tryd.underlying2 rfl rfl eqf_nil))) (by simp only [Bool.and_true]; rfl))) rfl ?_
             refine wpR_v (OpV_pickT rfl rfl) rfl (wpR_v (OpV_move rfl) rfl ?_)
             cases hb_90 : ((x_2.2.2.2.2.2.2.2.2.2.2.2.1, x_2.2.2.2.2.2.2.2.2.2.2.2.2.1) == (x_23.1, x_23.2.1))
             case true =>
              have h := if_t h hb_90
              try simp only [hb_90]
              refine wpR_gv (t := 241) rfl rfl (OpV_fieldB (k := 13) Tryd.underlying29 rfl rfl nz27 rfl) rfl ?_
              refine wpR_gv (t := 241) rfl rfl (OpV_ldBs (us := [vB x_2.2.2.2.2.2.2.2.2.2.2.2.2.2.1, vI x_2.2.2.2.2.2.2.2.2.2.2.2.2.2.2.1]) Tryd.underlying27 rfl sz27 rfl (hS.bxs 0 rfl rfl)) rfl ?_
              refine wpR_gv (t := 241) rfl rfl (OpV_ldBs (us := [vB x_26.1, vI x_26.2.1]) Tryd.underlying27 rfl sz27 rfl (hS.bxs 5 rfl rfl)) rfl ?_
              refine wpR_gv (t := 241) rfl rfl (OpV_bin rfl rfl (agx (b' := (x_2.2.2.2.2.2.2.2.2.2.2.2.2.2.1, x_2.2.2.2.2.2.2.2.2.2.2.2.2.2.2.1) == (x_26.1, x_26.2.1)) (b_ageq Tryd.underlying27 sh27 eg27 (eqf_b rfl Tryd.underlying4 rfl rfl (eqf_i rfl Tryd.underlying2 rfl rfl eqf_nil))) (by simp only [Bool.and_true]; rfl))) rfl ?_
              refine wpR_v (OpV_pickT rfl rfl) rfl (wpR_v (OpV_move rfl) rfl ?_)
              cases hb_91 : ((x_2.2.2.2.2.2.2.2.2.2.2.2.2.2.1, x_2.2.2.2.2.2.2.2.2.2.2.2.2.2.2.1) == (x_26.1, x_26.2.1))
              case true =>
               have h := if_t h hb_91
               try simp only [hb_91]
               refine wpR_gv (t := 247) rfl rfl (OpV_fieldB (k := 5) Tryd.underlying29 rfl rfl nz25 rfl) rfl ?_
               refine wpR_gv (t := 247) rfl rfl (OpV_ldB Tryd.underlying25 rfl rfl (hS.bxc 0 rfl 5)) rfl ?_
               refine wpR_gv (t := 247) rfl rfl (OpV_move rfl) rfl ?_
               obtain ⟨x_92, hx_92, h⟩ := obind_some h
               refine wpR_gcall (t := 247) rfl rfl (by kernel_rfl) rfl (c_law31_sameTexts _ x_2.2.2.2.2.2.1 x_65 v_5 v_66  (hS.ro 2 rfl).rp (hS.ro 6 rfl).rp _ hx_92) rfl ?_
               rintro _ w ⟨rfl, hS1⟩
               have hS := hS.call hS1
               simp only [List.cons_append, List.nil_append] at hS
               refine wpR_v (OpV_pickT rfl rfl) rfl (wpR_v (OpV_assign rfl) rfl (wpR_nil (QE_then_n (wpC_ret ?_))))
               cases h
               exact QE_ret1 rfl rfl ⟨rfl, hS.pick [] (by decide) rfl⟩
              case false =>
               have h := if_f h hb_91
               try simp only [hb_91]
               refine wpR_gskip (b := false) (t := 247) rfl rfl rfl rfl ?_
               refine wpR_gskip (b := false) (t := 247) rfl rfl rfl rfl ?_
               refine wpR_gskip (b := false) (t := 247) rfl rfl rfl rfl ?_
               refine wpR_gskip (b := false) (t := 247) rfl rfl rfl rfl ?_
               refine wpR_v (OpV_pickF rfl rfl) rfl (wpR_v (OpV_assign rfl) rfl (wpR_nil (QE_then_n (wpC_ret ?_))))
               cases h
               exact QE_ret1 rfl rfl ⟨rfl, hS.pick [] (by decide) rfl⟩
             case false =>
              have h := if_f h hb_90
              try simp only [hb_90]
              refine wpR_gskip (b := false) (t := 241) rfl rfl rfl rfl ?_
              refine wpR_gskip (b := false) (t := 241) rfl rfl rfl rfl ?_
              refine wpR_gskip (b := false) (t := 241) rfl rfl rfl rfl ?_
              refine wpR_gskip (b := false) (t := 241) rfl rfl rfl rfl ?_
              refine wpR_v (OpV_pickF rfl rfl) rfl (wpR_v (OpV_move rfl) rfl (wpR_gskip (b := false) (t := 247) rfl rfl rfl rfl ?_))
              refine wpR_gskip (b := false) (t := 247) rfl rfl rfl rfl ?_
              refine wpR_gskip (b := false) (t := 247) rfl rfl rfl rfl ?_
              refine wpR_gskip (b := false) (t := 247) rfl rfl rfl rfl ?_
              refine wpR_v (OpV_pickF rfl rfl) rfl (wpR_v (OpV_assign rfl) rfl (wpR_nil (QE_then_n (wpC_ret ?_))))
              cases h
              exact QE_ret1 rfl rfl ⟨rfl, hS.pick [] (by decide) rfl⟩
            case false =>
             have h := if_f h hb_89
             try simp only [hb_89]
             refine wpR_gskip (b := false) (t := 235) rfl rfl rfl rfl ?_
             refine wpR_gskip (b := false) (t := 235) rfl rfl rfl rfl ?_
             refine wpR_gskip (b := false) (t := 235) rfl rfl rfl rfl ?_
             refine wpR_gskip (b := false) (t := 235) rfl rfl rfl rfl ?_
             refine wpR_v (OpV_pickF rfl rfl) rfl (wpR_v (OpV_move rfl) rfl (wpR_gskip (b := false) (t := 241) rfl rfl rfl rfl ?_))
             refine wpR_gskip (b := false) (t := 241) rfl rfl rfl rfl ?_
             refine wpR_gskip (b := false) (t := 241) rfl rfl rfl rfl ?_
             refine wpR_gskip (b := false) (t := 241) rfl rfl rfl rfl ?_
             refine wpR_v (OpV_pickF rfl rfl) rfl (wpR_v (OpV_move rfl) rfl (wpR_gskip (b := false) (t := 247) rfl rfl rfl rfl ?_))
             refine wpR_gskip (b := false) (t := 247) rfl rfl rfl rfl ?_
             refine wpR_gskip (b := false) (t := 247) rfl rfl rfl rfl ?_
             refine wpR_gskip (b := false) (t := 247) rfl rfl rfl rfl ?_
             refine wpR_v (OpV_pickF rfl rfl) rfl (wpR_v (OpV_assign rfl) rfl (wpR_nil (QE_then_n (wpC_ret ?_))))
             cases h
             exact QE_ret1 rfl rfl ⟨rfl, hS.pick [] (by decide) rfl⟩
           case false =>
            have h := if_f h hb_88
            try simp only [hb_88]
            refine wpR_gskip (b := false) (t := 229) rfl rfl rfl rfl ?_
            refine wpR_gskip (b := false) (t := 229) rfl rfl rfl rfl ?_
            refine wpR_gskip (b := false) (t := 229) rfl rfl rfl rfl ?_
            refine wpR_gskip (b := false) (t := 229) rfl rfl rfl rfl ?_
            refine wpR_v (OpV_pickF rfl rfl) rfl (wpR_v (OpV_move rfl) rfl (wpR_gskip (b := false) (t := 235) rfl rfl rfl rfl ?_))
            refine wpR_gskip (b := false) (t := 235) rfl rfl rfl rfl ?_
            refine wpR_gskip (b := false) (t := 235) rfl rfl rfl rfl ?_
            refine wpR_gskip (b := false) (t := 235) rfl rfl rfl rfl ?_
            refine wpR_v (OpV_pickF rfl rfl) rfl (wpR_v (OpV_move rfl) rfl (wpR_gskip (b := false) (t := 241) rfl rfl rfl rfl ?_))
            refine wpR_gskip (b := false) (t := 241) rfl rfl rfl rfl ?_
            refine wpR_gskip (b := false) (t := 241) rfl rfl rfl rfl ?_
            refine wpR_gskip (b := false) (t := 241) rfl rfl rfl rfl ?_
            refine wpR_v (OpV_pickF rfl rfl) rfl (wpR_v (OpV_move rfl) rfl (wpR_gskip (b := false) (t := 247) rfl rfl rfl rfl ?_))
            refine wpR_gskip (b := false) (t := 247) rfl rfl rfl rfl ?_
            refine wpR_gskip (b := false) (t := 247) rfl rfl rfl rfl ?_
            refine wpR_gskip (b := false) (t := 247) rfl rfl rfl rfl ?_
            refine wpR_v (OpV_pickF rfl rfl) rfl (wpR_v (OpV_assign rfl) rfl (wpR_nil (QE_then_n (wpC_ret ?_))))
            cases h
            exact QE_ret1 rfl rfl ⟨rfl, hS.pick [] (by decide) rfl⟩
          case false =>
           have h := if_f h hb_87
           try simp only [hb_87]
           refine wpR_gskip (b := false) (t := 223) rfl rfl rfl rfl ?_
           refine wpR_gskip (b := false) (t := 223) rfl rfl rfl rfl ?_
           refine wpR_gskip (b := false) (t := 223) rfl rfl rfl rfl ?_
           refine wpR_gskip (b := false) (t := 223) rfl rfl rfl rfl ?_
           refine wpR_v (OpV_pickF rfl rfl) rfl (wpR_v (OpV_move rfl) rfl (wpR_gskip (b := false) (t := 229) rfl rfl rfl rfl ?_))
           refine wpR_gskip (b := false) (t := 229) rfl rfl rfl rfl ?_
           refine wpR_gskip (b := false) (t := 229) rfl rfl rfl rfl ?_
           refine wpR_gskip (b := false) (t := 229) rfl rfl rfl rfl ?_
           refine wpR_v (OpV_pickF rfl rfl) rfl (wpR_v (OpV_move rfl) rfl (wpR_gskip (b := false) (t := 235) rfl rfl rfl rfl ?_))
           refine wpR_gskip (b := false) (t := 235) rfl rfl rfl rfl ?_
           refine wpR_gskip (b := false) (t := 235) rfl rfl rfl rfl ?_
           refine wpR_gskip (b := false) (t := 235) rfl rfl rfl rfl ?_
           refine wpR_v (OpV_pickF rfl rfl) rfl (wpR_v (OpV_move rfl) rfl (wpR_gskip (b := false) (t := 241) rfl rfl rfl rfl ?_))
           refine wpR_gskip (b := false) (t := 241) rfl rfl rfl rfl ?_
           refine wpR_gskip (b := false) (t := 241) rfl rfl rfl rfl ?_
           refine wpR_gskip (b := false) (t := 241) rfl rfl rfl rfl ?_
           refine wpR_v (OpV_pickF rfl rfl) rfl (wpR_v (OpV_move rfl) rfl (wpR_gskip (b := false) (t := 247) rfl rfl rfl rfl ?_))
           refine wpR_gskip (b := false) (t := 247) rfl rfl rfl rfl ?_
           refine wpR_gskip (b := false) (t := 247) rfl rfl rfl rfl ?_
           refine wpR_gskip (b := false) (t := 247) rfl rfl rfl rfl ?_
           refine wpR_v (OpV_pickF rfl rfl) rfl (wpR_v (OpV_assign rfl) rfl (wpR_nil (QE_then_n (wpC_ret ?_))))
           cases h
           exact QE_ret1 rfl rfl ⟨rfl, hS.pick [] (by decide) rfl⟩
         case false =>
          have h := if_f h hb_86
          try simp only [hb_86]
          refine wpR_gskip (b := false) (t := 217) rfl rfl rfl rfl ?_
          refine wpR_gskip (b := false) (t := 217) rfl rfl rfl rfl ?_
          refine wpR_gskip (b := false) (t := 217) rfl rfl rfl rfl ?_
          refine wpR_gskip (b := false) (t := 217) rfl rfl rfl rfl ?_
          refine wpR_v (OpV_pickF rfl rfl) rfl (wpR_v (OpV_move rfl) rfl (wpR_gskip (b := false) (t := 223) rfl rfl rfl rfl ?_))
          refine wpR_gskip (b := false) (t := 223) rfl rfl rfl rfl ?_
          refine wpR_gskip (b := false) (t := 223) rfl rfl rfl rfl ?_
          refine wpR_gskip (b := false) (t := 223) rfl rfl rfl rfl ?_
          refine wpR_v (OpV_pickF rfl rfl) rfl (wpR_v (OpV_move rfl) rfl (wpR_gskip (b := false) (t := 229) rfl rfl rfl rfl ?_))
          refine wpR_gskip (b := false) (t := 229) rfl rfl rfl rfl ?_
          refine wpR_gskip (b := false) (t := 229) rfl rfl rfl rfl ?_
          refine wpR_gskip (b := false) (t := 229) rfl rfl rfl rfl ?_
          refine wpR_v (OpV_pickF rfl rfl) rfl (wpR_v (OpV_move rfl) rfl (wpR_gskip (b := false) (t := 235) rfl rfl rfl rfl ?_))
          refine wpR_gskip (b := false) (t := 235) rfl rfl rfl rfl ?_
          refine wpR_gskip (b := false) (t := 235) rfl rfl rfl rfl ?_
          refine wpR_gskip (b := false) (t := 235) rfl rfl rfl rfl ?_
          refine wpR_v (OpV_pickF rfl rfl) rfl (wpR_v (OpV_move rfl) rfl (wpR_gskip (b := false) (t := 241) rfl rfl rfl rfl ?_))
          refine wpR_gskip (b := false) (t := 241) rfl rfl rfl rfl ?_
          refine wpR_gskip (b := false) (t := 241) rfl rfl rfl rfl ?_
          refine wpR_gskip (b := false) (t := 241) rfl rfl rfl rfl ?_
          refine wpR_v (OpV_pickF rfl rfl) rfl (wpR_v (OpV_move rfl) rfl (wpR_gskip (b := false) (t := 247) rfl rfl rfl rfl ?_))
          refine wpR_gskip (b := false) (t := 247) rfl rfl rfl rfl ?_
          refine wpR_gskip (b := false) (t := 247) rfl rfl rfl rfl ?_
          refine wpR_gskip (b := false) (t := 247) rfl rfl rfl rfl ?_
          refine wpR_v (OpV_pickF rfl rfl) rfl (wpR_v (OpV_assign rfl) rfl (wpR_nil (QE_then_n (wpC_ret ?_))))
          cases h
          exact QE_ret1 rfl rfl ⟨rfl, hS.pick [] (by decide) rfl⟩
       ·intro hK_85
        refine wpC_region (wpR_v (OpV_move rfl) rfl (wpR_v (OpV_bin rfl rfl (b_ineq _ x_9 0)) rfl ?_))
        refine wpR_v (OpV_move rfl) rfl ?_
        cases hb_79 : (x_9 != 0)
        case true =>
         have h := if_t h hb_79
         try simp only [hb_79]
         refine wpR_gskip (b := true) (t := 182) rfl rfl rfl rfl ?_
         refine wpR_gskip (b := true) (t := 182) rfl rfl rfl rfl ?_
         refine wpR_gskip (b := true) (t := 182) rfl rfl rfl rfl ?_
         refine wpR_gskip (b := true) (t := 182) rfl rfl rfl rfl ?_
         refine wpR_v (OpV_pickT rfl rfl) rfl (wpR_v (OpV_move rfl) rfl (wpR_gskip (b := true) (t := 188) rfl rfl rfl rfl ?_))
         refine wpR_gskip (b := true) (t := 188) rfl rfl rfl rfl ?_
         refine wpR_gskip (b := true) (t := 188) rfl rfl rfl rfl ?_
         refine wpR_gskip (b := true) (t := 188) rfl rfl rfl rfl ?_
         refine wpR_v (OpV_pickT rfl rfl) rfl (wpR_v (OpV_move rfl) rfl (wpR_gskip (b := true) (t := 194) rfl rfl rfl rfl ?_))
         refine wpR_gskip (b := true) (t := 194) rfl rfl rfl rfl ?_
         refine wpR_gskip (b := true) (t := 194) rfl rfl rfl rfl ?_
         refine wpR_gskip (b := true) (t := 194) rfl rfl rfl rfl ?_
         refine wpR_v (OpV_pickT rfl rfl) rfl (wpR_v (OpV_move rfl) rfl (wpR_gskip (b := true) (t := 200) rfl rfl rfl rfl ?_))
         refine wpR_gskip (b := true) (t := 200) rfl rfl rfl rfl ?_
         refine wpR_gskip (b := true) (t := 200) rfl rfl rfl rfl ?_
         refine wpR_gskip (b := true) (t := 200) rfl rfl rfl rfl ?_
         refine wpR_gskip (b := true) (t := 200) rfl rfl rfl rfl ?_
         refine wpR_v (OpV_pickT rfl rfl) rfl (wpR_v (OpV_move rfl) rfl (wpR_gskip (b := true) (t := 207) rfl rfl rfl rfl ?_))
         refine wpR_gskip (b := true) (t := 207) rfl rfl rfl rfl ?_
         refine wpR_gskip (b := true) (t := 207) rfl rfl rfl rfl ?_
         refine wpR_gskip (b := true) (t := 207) rfl rfl rfl rfl ?_
         refine wpR_v (OpV_pickT rfl rfl) rfl (wpR_nil (QE_then_n ?_))
         exact wpC_le _ (by exact ⟨rfl, rfl, rfl, rfl, rfl, rfl, rfl, rfl, rfl, trivial⟩) (hK_85 true _ _ ⟨rfl, hS⟩ h)
        case false =>
         have h := if_f h hb_79
         try simp only [hb_79]
         refine wpR_gv (t := 182) rfl rfl (OpV_fieldB (k := 2) Tryd.underlying29 rfl rfl nz4 rfl) rfl ?_
         refine wpR_gv (t := 182) rfl rfl (OpV_ldB Tryd.underlying4 rfl rfl (hS.bxc 0 rfl 2)) rfl ?_
         refine wpR_gv (t := 182) rfl rfl (OpV_move rfl) rfl ?_
         refine wpR_gv (t := 182) rfl rfl (OpV_bin rfl rfl (b_bneq _ x_2.2.2.1 x_17.2.1 Tryd.underlying4 rfl)) rfl ?_
         refine wpR_v (OpV_pickF rfl rfl) rfl (wpR_v (OpV_move rfl) rfl ?_)
         cases hb_80 : (x_2.2.2.1 != x_17.2.1)
         case true =>
          have h := if_t h hb_80
          try simp only [hb_80]
          refine wpR_gskip (b := true) (t := 188) rfl rfl rfl rfl ?_
          refine wpR_gskip (b := true) (t := 188) rfl rfl rfl rfl ?_
          refine wpR_gskip (b := true) (t := 188) rfl rfl rfl rfl ?_
          refine wpR_gskip (b := true) (t := 188) rfl rfl rfl rfl ?_
          refine wpR_v (OpV_pickT rfl rfl) rfl (wpR_v (OpV_move rfl) rfl (wpR_gskip (b := true) (t := 194) rfl rfl rfl rfl ?_))
          refine wpR_gskip (b := true) (t := 194) rfl rfl rfl rfl ?_
          refine wpR_gskip (b := true) (t := 194) rfl rfl rfl rfl ?_
          refine wpR_gskip (b := true) (t := 194) rfl rfl rfl rfl ?_
          refine wpR_v (OpV_pickT rfl rfl) rfl (wpR_v (OpV_move rfl) rfl (wpR_gskip (b := true) (t := 200) rfl rfl rfl rfl ?_))
          refine wpR_gskip (b := true) (t := 200) rfl rfl rfl rfl ?_
          refine wpR_gskip (b := true) (t := 200) rfl rfl rfl rfl ?_
          refine wpR_gskip (b := true) (t := 200) rfl rfl rfl rfl ?_
          refine wpR_gskip (b := true) (t := 200) rfl rfl rfl rfl ?_
          refine wpR_v (OpV_pickT rfl rfl) rfl (wpR_v (OpV_move rfl) rfl (wpR_gskip (b := true) (t := 207) rfl rfl rfl rfl ?_))
          refine wpR_gskip (b := true) (t := 207) rfl rfl rfl rfl ?_
          refine wpR_gskip (b := true) (t := 207) rfl rfl rfl rfl ?_
          refine wpR_gskip (b := true) (t := 207) rfl rfl rfl rfl ?_
          refine wpR_v (OpV_pickT rfl rfl) rfl (wpR_nil (QE_then_n ?_))
          exact wpC_le _ (by exact ⟨rfl, rfl, rfl, rfl, rfl, rfl, rfl, rfl, rfl, trivial⟩) (hK_85 true _ _ ⟨rfl, hS⟩ h)
         case false =>
          have h := if_f h hb_80
          try simp only [hb_80]
          refine wpR_gv (t := 188) rfl rfl (OpV_fieldB (k := 4) Tryd.underlying29 rfl rfl nz4 rfl) rfl ?_
          refine wpR_gv (t := 188) rfl rfl (OpV_ldB Tryd.underlying4 rfl rfl (hS.bxc 0 rfl 4)) rfl ?_
          refine wpR_gv (t := 188) rfl rfl (OpV_move rfl) rfl ?_
          refine wpR_gv (t := 188) rfl rfl (OpV_bin rfl rfl (b_bneq _ x_2.2.2.2.2.1 x_18.2.1 Tryd.underlying4 rfl)) rfl ?_
          refine wpR_v (OpV_pickF rfl rfl) rfl (wpR_v (OpV_move rfl) rfl ?_)
          cases hb_81 : (x_2.2.2.2.2.1 != x_18.2.1)
          case true =>
           have h := if_t h hb_81
           try simp only [hb_81]
           refine wpR_gskip (b := true) (t := 194) rfl rfl rfl rfl ?_
           refine wpR_gskip (b := true) (t := 194) rfl rfl rfl rfl ?_
           refine wpR_gskip (b := true) (t := 194) rfl rfl rfl rfl ?_
           refine wpR_gskip (b := true) (t := 194) rfl rfl rfl rfl ?_
           refine wpR_v (OpV_pickT rfl rfl) rfl (wpR_v (OpV_move rfl) rfl (wpR_gskip (b := true) (t := 200) rfl rfl rfl rfl ?_))
           refine wpR_gskip (b := true) (t := 200) rfl rfl rfl rfl ?_
           refine wpR_gskip (b := true) (t := 200) rfl rfl rfl rfl ?_
           refine wpR_gskip (b := true) (t := 200) rfl rfl rfl rfl ?_
           refine wpR_gskip (b := true) (t := 200) rfl rfl rfl rfl ?_
           refine wpR_v (OpV_pickT rfl rfl) rfl (wpR_v (OpV_move rfl) rfl (wpR_gskip (b := true) (t := 207) rfl rfl rfl rfl ?_))
           refine wpR_gskip (b := true) (t := 207) rfl rfl rfl rfl ?_
           refine wpR_gskip (b := true) (t := 207) rfl rfl rfl rfl ?_
           refine wpR_gskip (b := true) (t := 207) rfl rfl rfl rfl ?_
           refine wpR_v (OpV_pickT rfl rfl) rfl (wpR_nil (QE_then_n ?_))
           exact wpC_le _ (by exact ⟨rfl, rfl, rfl, rfl, rfl, rfl, rfl, rfl, rfl, trivial⟩) (hK_85 true _ _ ⟨rfl, hS⟩ h)
          case false =>
           have h := if_f h hb_81
           try simp only [hb_81]
           refine wpR_gv (t := 194) rfl rfl (OpV_fieldB (k := 8) Tryd.underlying29 rfl rfl nz4 rfl) rfl ?_
           refine wpR_gv (t := 194) rfl rfl (OpV_ldB Tryd.underlying4 rfl rfl (hS.bxc 0 rfl 8)) rfl ?_
           refine wpR_gv (t := 194) rfl rfl (OpV_move rfl) rfl ?_
           refine wpR_gv (t := 194) rfl rfl (OpV_bin rfl rfl (b_bneq _ x_2.2.2.2.2.2.2.2.2.1 x_19.2.1 Tryd.underlying4 rfl)) rfl ?_
           refine wpR_v (OpV_pickF rfl rfl) rfl (wpR_v (OpV_move rfl) rfl ?_)
           cases hb_82 : (x_2.2.2.2.2.2.2.2.2.1 != x_19.2.1)
           case true =>
            have h := if_t h hb_82
            try simp only [hb_82]
            refine wpR_gskip (b := true) (t := 200) rfl rfl rfl rfl ?_
            refine wpR_gskip (b := true) (t := 200) rfl rfl rfl rfl ?_
            refine wpR_gskip (b := true) (t := 200) rfl rfl rfl rfl ?_
            refine wpR_gskip (b := true) (t := 200) rfl rfl rfl rfl ?_
            refine wpR_gskip (b := true) (t := 200) rfl rfl rfl rfl ?_
            refine wpR_v (OpV_pickT rfl rfl) rfl (wpR_v (OpV_move rfl) rfl (wpR_gskip (b := true) (t := 207) rfl rfl rfl rfl ?_))
            refine wpR_gskip (b := true) (t := 207) rfl rfl rfl rfl ?_
            refine wpR_gskip (b := true) (t := 207) rfl rfl rfl rfl ?_
            refine wpR_gskip (b := true) (t := 207) rfl rfl rfl rfl ?_
            refine wpR_v (OpV_pickT rfl rfl) rfl (wpR_nil (QE_then_n ?_))
            exact wpC_le _ (by exact ⟨rfl, rfl, rfl, rfl, rfl, rfl, rfl, rfl, rfl, trivial⟩) (hK_85 true _ _ ⟨rfl, hS⟩ h)
           case false =>
            have h := if_f h hb_82
            try simp only [hb_82]
            refine wpR_gv (t := 200) rfl rfl (OpV_fieldB (k := 6) Tryd.underlying29 rfl rfl nz4 rfl) rfl ?_
            refine wpR_gv (t := 200) rfl rfl (OpV_ldB Tryd.underlying4 rfl rfl (hS.bxc 0 rfl 6)) rfl ?_
            refine wpR_gv (t := 200) rfl rfl (OpV_move rfl) rfl ?_
            refine wpR_gv (t := 200) rfl rfl (OpV_bin rfl rfl (b_igeq _ x_29 0)) rfl ?_
            refine wpR_gv (t := 200) rfl rfl (OpV_bin rfl rfl (b_bneq _ x_2.2.2.2.2.2.2.1 (decide ((0 : Int) ≤ x_29)) Tryd.underlying4 rfl)) rfl ?_
            refine wpR_v (OpV_pickF rfl rfl) rfl (wpR_v (OpV_move rfl) rfl ?_)
            cases hb_83 : (x_2.2.2.2.2.2.2.1 != (decide ((0 : Int) ≤ x_29)))
            case true =>
             have h := if_t h hb_83
             try simp only [hb_83]
             refine wpR_gskip (b := true) (t := 207) rfl rfl rfl rfl ?_
             refine wpR_gskip (b := true) (t := 207) rfl rfl rfl rfl ?_
             refine wpR_gskip (b := true) (t := 207) rfl rfl rfl rfl ?_
             refine wpR_gskip (b := true) (t := 207) rfl rfl rfl rfl ?_
             refine wpR_v (OpV_pickT rfl rfl) rfl (wpR_nil (QE_then_n ?_))
             exact wpC_le _ (by exact ⟨rfl, rfl, rfl, rfl, rfl, rfl, rfl, rfl, rfl, trivial⟩) (hK_85 true _ _ ⟨rfl, hS⟩ h)
            case false =>
             have h := if_f h hb_83
             try simp only [hb_83]
             refine wpR_gv (t := 207) rfl rfl (OpV_fieldB (k := 0) Tryd.underlying29 rfl rfl nz24 rfl) rfl ?_
             refine wpR_gv (t := 207) rfl rfl (OpV_ldB Tryd.underlying24 rfl rfl (hS.bxc 0 rfl 0)) rfl ?_
             refine wpR_gv (t := 207) rfl rfl (OpV_len Tryd.underlying24 rfl (hS.ro 1 rfl)) rfl ?_
             refine wpR_gv (t := 207) rfl rfl (OpV_bin rfl rfl (b_ineq _ (x_2.1.length : Int) 0)) rfl ?_
             refine wpR_v (OpV_pickF rfl rfl) rfl (wpR_nil (QE_then_n ?_))
             exact wpC_le _ (by exact ⟨rfl, rfl, rfl, rfl, rfl, rfl, rfl, rfl, rfl, trivial⟩) (hK_85 ((x_2.1.length : Int) != 0) _ _ ⟨rfl, hS⟩ h)
     ·intro hK_77
      refine wpC_region (wpR_v (OpV_move rfl) rfl (wpR_v (OpV_un rfl (u_not x_17.2.2)) rfl ?_))
      refine wpR_v (OpV_move rfl) rfl ?_
      cases hb_70 : (!x_17.2.2)
      case true =>
       have h := if_t h hb_70
       try simp only [hb_70]
       refine wpR_gskip (b := true) (t := 151) rfl rfl rfl rfl ?_
       refine wpR_gskip (b := true) (t := 151) rfl rfl rfl rfl ?_
       refine wpR_v (OpV_pickT rfl rfl) rfl (wpR_v (OpV_move rfl) rfl (wpR_gskip (b := true) (t := 155) rfl rfl rfl rfl ?_))
       refine wpR_gskip (b := true) (t := 155) rfl rfl rfl rfl ?_
       refine wpR_v (OpV_pickT rfl rfl) rfl (wpR_v (OpV_move rfl) rfl (wpR_gskip (b := true) (t := 159) rfl rfl rfl rfl ?_))
       refine wpR_gskip (b := true) (t := 159) rfl rfl rfl rfl ?_
       refine wpR_v (OpV_pickT rfl rfl) rfl (wpR_v (OpV_move rfl) rfl (wpR_gskip (b := true) (t := 163) rfl rfl rfl rfl ?_))
       refine wpR_gskip (b := true) (t := 163) rfl rfl rfl rfl ?_
       refine wpR_v (OpV_pickT rfl rfl) rfl (wpR_v (OpV_move rfl) rfl (wpR_gskip (b := true) (t := 167) rfl rfl rfl rfl ?_))
       refine wpR_gskip (b := true) (t := 167) rfl rfl rfl rfl ?_
       refine wpR_v (OpV_pickT rfl rfl) rfl (wpR_v (OpV_move rfl) rfl (wpR_gskip (b := true) (t := 171) rfl rfl rfl rfl ?_))
       refine wpR_gskip (b := true) (t := 171) rfl rfl rfl rfl ?_
       refine wpR_v (OpV_pickT rfl rfl) rfl (wpR_nil (QE_then_n ?_))
       exact wpC_le _ (by exact ⟨rfl, rfl, rfl, rfl, rfl, rfl, rfl, rfl, rfl, rfl, rfl, rfl, rfl, rfl, rfl, trivial⟩) (hK_77 true _ _ ⟨rfl, (hS.pick [1, 2, 3, 4, 5, 6, 0] (by decide) rfl)⟩ h)
      case false =>
       have h := if_f h hb_70
       try simp only [hb_70]
       refine wpR_gv (t := 151) rfl rfl (OpV_move rfl) rfl ?_
       refine wpR_gv (t := 151) rfl rfl (OpV_un rfl (u_not x_18.2.2)) rfl ?_
       refine wpR_v (OpV_pickF rfl rfl) rfl (wpR_v (OpV_move rfl) rfl ?_)
       cases hb_71 : (!x_18.2.2)
       case true =>
        have h := if_t h hb_71
        try simp only [hb_71]
        refine wpR_gskip (b := true) (t := 155) rfl rfl rfl rfl ?_
        refine wpR_gskip (b := true) (t := 155) rfl rfl rfl rfl ?_
        refine wpR_v (OpV_pickT rfl rfl) rfl (wpR_v (OpV_move rfl) rfl (wpR_gskip (b := true) (t := 159) rfl rfl rfl rfl ?_))
        refine wpR_gskip (b := true) (t := 159) rfl rfl rfl rfl ?_
        refine wpR_v (OpV_pickT rfl rfl) rfl (wpR_v (OpV_move rfl) rfl (wpR_gskip (b := true) (t := 163) rfl rfl rfl rfl ?_))
        refine wpR_gskip (b := true) (t := 163) rfl rfl rfl rfl ?_
        refine wpR_v (OpV_pickT rfl rfl) rfl (wpR_v (OpV_move rfl) rfl (wpR_gskip (b := true) (t := 167) rfl rfl rfl rfl ?_))
        refine wpR_gskip (b := true) (t := 167) rfl rfl rfl rfl ?_
        refine wpR_v (OpV_pickT rfl rfl) rfl (wpR_v (OpV_move rfl) rfl (wpR_gskip (b := true) (t := 171) rfl rfl rfl rfl ?_))
        refine wpR_gskip (b := true) (t := 171) rfl rfl rfl rfl ?_
        refine wpR_v (OpV_pickT rfl rfl) rfl (wpR_nil (QE_then_n ?_))
        exact wpC_le _ (by exact ⟨rfl, rfl, rfl, rfl, rfl, rfl, rfl, rfl, rfl, rfl, rfl, rfl, rfl, rfl, rfl, trivial⟩) (hK_77 true _ _ ⟨rfl, (hS.pick [1, 2, 3, 4, 5, 6, 0] (by decide) rfl)⟩ h)
       case false =>
        have h := if_f h hb_71
        try simp only [hb_71]
        refine wpR_gv (t := 155) rfl rfl (OpV_move rfl) rfl ?_
        refine wpR_gv (t := 155) rfl rfl (OpV_un rfl (u_not x_68)) rfl ?_
        refine wpR_v (OpV_pickF rfl rfl) rfl (wpR_v (OpV_move rfl) rfl ?_)
        cases hb_72 : (!x_68)
        case true =>
         have h := if_t h hb_72
         try simp only [hb_72]
         refine wpR_gskip (b := true) (t := 159) rfl rfl rfl rfl ?_
         refine wpR_gskip (b := true) (t := 159) rfl rfl rfl rfl ?_
         refine wpR_v (OpV_pickT rfl rfl) rfl (wpR_v (OpV_move rfl) rfl (wpR_gskip (b := true) (t := 163) rfl rfl rfl rfl ?_))
         refine wpR_gskip (b := true) (t := 163) rfl rfl rfl rfl ?_
         refine wpR_v (OpV_pickT rfl rfl) rfl (wpR_v (OpV_move rfl) rfl (wpR_gskip (b := true) (t := 167) rfl rfl rfl rfl ?_))
         refine wpR_gskip (b := true) (t := 167) rfl rfl rfl rfl ?_
         refine wpR_v (OpV_pickT rfl rfl) rfl (wpR_v (OpV_move rfl) rfl (wpR_gskip (b := true) (t := 171) rfl rfl rfl rfl ?_))
         refine wpR_gskip (b := true) (t := 171) rfl rfl rfl rfl ?_
         refine wpR_v (OpV_pickT rfl rfl) rfl (wpR_nil (QE_then_n ?_))
         exact wpC_le _ (by exact ⟨rfl, rfl, rfl, rfl, rfl, rfl, rfl, rfl, rfl, rfl, rfl, rfl, rfl, rfl, rfl, trivial⟩) (hK_77 true _ _ ⟨rfl, (hS.pick [1, 2, 3, 4, 5, 6, 0] (by decide) rfl)⟩ h)
        case false =>
         have h := if_f h hb_72
         try simp only [hb_72]
         refine wpR_gv (t := 159) rfl rfl (OpV_move rfl) rfl ?_
         refine wpR_gv (t := 159) rfl rfl (OpV_un rfl (u_not x_20.2.2)) rfl ?_
         refine wpR_v (OpV_pickF rfl rfl) rfl (wpR_v (OpV_move rfl) rfl ?_)
         cases hb_73 : (!x_20.2.2)
         case true =>
          have h := if_t h hb_73
          try simp only [hb_73]
          refine wpR_gskip (b := true) (t := 163) rfl rfl rfl rfl ?_
          refine wpR_gskip (b := true) (t := 163) rfl rfl rfl rfl ?_
          refine wpR_v (OpV_pickT rfl rfl) rfl (wpR_v (OpV_move rfl) rfl (wpR_gskip (b := true) (t := 167) rfl rfl rfl rfl ?_))
          refine wpR_gskip (b := true) (t := 167) rfl rfl rfl rfl ?_
          refine wpR_v (OpV_pickT rfl rfl) rfl (wpR_v (OpV_move rfl) rfl (wpR_gskip (b := true) (t := 171) rfl rfl rfl rfl ?_))
          refine wpR_gskip (b := true) (t := 171) rfl rfl rfl rfl ?_
          refine wpR_v (OpV_pickT rfl rfl) rfl (wpR_nil (QE_then_n ?_))
          exact wpC_le _ (by exact ⟨rfl, rfl, rfl, rfl, rfl, rfl, rfl, rfl, rfl, rfl, rfl, rfl, rfl, rfl, rfl, trivial⟩) (hK_77 true _ _ ⟨rfl, (hS.pick [1, 2, 3, 4, 5, 6, 0] (by decide) rfl)⟩ h)
         case false =>
          have h := if_f h hb_73
          try simp only [hb_73]
          refine wpR_gv (t := 163) rfl rfl (OpV_move rfl) rfl ?_
          refine wpR_gv (t := 163) rfl rfl (OpV_un rfl (u_not x_23.2.2)) rfl ?_
          refine wpR_v (OpV_pickF rfl rfl) rfl (wpR_v (OpV_move rfl) rfl ?_)
          cases hb_74 : (!x_23.2.2)
          case true =>
           have h := if_t h hb_74
           try simp only [hb_74]
           refine wpR_gskip (b := true) (t := 167) rfl rfl rfl rfl ?_
           refine wpR_gskip (b := true) (t := 167) rfl rfl rfl rfl ?_
           refine wpR_v (OpV_pickT rfl rfl) rfl (wpR_v (OpV_move rfl) rfl (wpR_gskip (b := true) (t := 171) rfl rfl rfl rfl ?_))
           refine wpR_gskip (b := true) (t := 171) rfl rfl rfl rfl ?_
           refine wpR_v (OpV_pickT rfl rfl) rfl (wpR_nil (QE_then_n ?_))
           exact wpC_le _ (by exact ⟨rfl, rfl, rfl, rfl, rfl, rfl, rfl, rfl, rfl, rfl, rfl, rfl, rfl, rfl, rfl, trivial⟩) (hK_77 true _ _ ⟨rfl, (hS.pick [1, 2, 3, 4, 5, 6, 0] (by decide) rfl)⟩ h)
          case false =>
           have h := if_f h hb_74
           try simp only [hb_74]
           refine wpR_gv (t := 167) rfl rfl (OpV_move rfl) rfl ?_
           refine wpR_gv (t := 167) rfl rfl (OpV_un rfl (u_not x_26.2.2)) rfl ?_
           refine wpR_v (OpV_pickF rfl rfl) rfl (wpR_v (OpV_move rfl) rfl ?_)
           cases hb_75 : (!x_26.2.2)
           case true =>
            have h := if_t h hb_75
            try simp only [hb_75]
            refine wpR_gskip (b := true) (t := 171) rfl rfl rfl rfl ?_
            refine wpR_gskip (b := true) (t := 171) rfl rfl rfl rfl ?_
            refine wpR_v (OpV_pickT rfl rfl) rfl (wpR_nil (QE_then_n ?_))
            exact wpC_le _ (by exact ⟨rfl, rfl, rfl, rfl, rfl, rfl, rfl, rfl, rfl, rfl, rfl, rfl, rfl, rfl, rfl, trivial⟩) (hK_77 true _ _ ⟨rfl, (hS.pick [1, 2, 3, 4, 5, 6, 0] (by decide) rfl)⟩ h)
           case false =>
            have h := if_f h hb_75
            try simp only [hb_75]
            refine wpR_gv (t := 171) rfl rfl (OpV_move rfl) rfl ?_
            refine wpR_gv (t := 171) rfl rfl (OpV_un rfl (u_not x_19.2.2)) rfl ?_
            refine wpR_v (OpV_pickF rfl rfl) rfl (wpR_nil (QE_then_n ?_))
            exact wpC_le _ (by exact ⟨rfl, rfl, rfl, rfl, rfl, rfl, rfl, rfl, rfl, rfl, rfl, rfl, rfl, rfl, rfl, trivial⟩) (hK_77 (!x_19.2.2) _ _ ⟨rfl, (hS.pick [1, 2, 3, 4, 5, 6, 0] (by decide) rfl)⟩ h)
    ·intro hK_69
     refine seq_join (r := r) (fun (g : Bool) L w => L = [(3, pB b_7 0), (4, vI x_9), (5, vB x_10), (6, v_12), (9, vS x_17.1), (10, vB x_17.2.1), (11, vB x_17.2.2), (12, vS x_18.1), (13, vB x_18.2.1), (14, vB x_18.2.2), (15, vS x_19.1), (16, vB x_19.2.1), (17, vB x_19.2.2), (18, pB b_21 0), (19, vB x_20.2.2), (20, pB b_24 0), (21, vB x_23.2.2), (22, pB b_27 0), (23, vB x_26.2.2), (24, .slice none 0 0), (25, vB true), (26, vI x_29), (106, vB g)] ∧ St [] w0 w [OE.bx b_7 [v_3, vS x_2.2.1, vB x_2.2.2.1, vS x_2.2.2.2.1, vB x_2.2.2.2.2.1, v_5, vB x_2.2.2.2.2.2.2.1, vS x_2.2.2.2.2.2.2.2.1, vB x_2.2.2.2.2.2.2.2.2.1, vB x_2.2.2.2.2.2.2.2.2.2.1, vI x_2.2.2.2.2.2.2.2.2.2.2.1, vB x_2.2.2.2.2.2.2.2.2.2.2.2.1, vI x_2.2.2.2.2.2.2.2.2.2.2.2.2.1, vB x_2.2.2.2.2.2.2.2.2.2.2.2.2.2.1, vI x_2.2.2.2.2.2.2.2.2.2.2.2.2.2.2.1], own (eP eI (eP eS (eP eS (eP eB (eP eI eI))))) v_3 x_2.1, own eS v_5 x_2.2.2.2.2.2.1, own (eP eI (eP e64 (eP eS eI))) v_12 x_11.1, OE.bx b_21 [vB x_20.1, vI x_20.2.1], OE.bx b_24 [vB x_23.1, vI x_23.2.1], OE.bx b_27 [vB x_26.1, vI x_26.2.1]]) (F.law31_CoseSaid_K4 x_11 x_29 x_17 x_18 x_19 x_20 x_23 x_26 x_2 x_9 x_10) ?_ ?_
     ·rintro x_32 L w hJ h
      try dsimp only at hJ
      obtain ⟨rfl, hS⟩ := hJ
      unfold F.law31_CoseSaid_K4 at h
      refine wpC_cond rfl (fun hb_64 => ?_) (fun hb_64 => ?_)
      ·have h := if_t h hb_64
       refine wpC_region (wpR_v (OpV_move rfl) rfl (wpR_v (OpV_move rfl) rfl (wpR_v (OpV_move rfl) rfl ?_)))
       obtain ⟨x_34, hx_34, h⟩ := obind_some h
       refine wpR_v (G_ix Tryd.underlying37 ti42 rfl rfl (hS.ro 3 rfl) hx_34) rfl ?_
       refine wpR_v (OpV_fieldE (k := 2) Tryd.underlying42 rfl rfl nz9 rfl) rfl ?_
       refine wpR_v (G_loadF Tryd.underlying9 rfl rfl (hS.ro 3 rfl) hx_34 rfl rfl) rfl ?_
       refine wpR_x (OpX_lit (e := eS) (l := ([x_34.2.2.1] : List (List UInt8))) (vs := [vS x_34.2.2.1]) Tryd.underlying25 ti9 rfl rfl rfl rfl (by decide) (by decide) hS) rfl ?_
       rintro v_35 w hS
       obtain ⟨x_37, hx_37, h⟩ := obind_some h
       refine wpR_x (G_append0 Tryd.underlying25 ti9 rfl rfl rfl hS (hS.ro 0 rfl) hx_37) rfl ?_
       rintro v_38 w hS
       refine wpR_v (OpV_assign rfl) rfl (wpR_nil (QE_then_n ?_))
       exact wpC_le _ (by exact ⟨rfl, rfl, rfl, rfl, rfl, rfl, rfl, rfl, rfl, rfl, rfl, rfl, rfl, rfl, rfl, rfl, rfl, rfl, rfl, rfl, rfl, trivial⟩) (hK_69 (x_37, true) _ _ ⟨v_38, rfl, (hS.pick [0, 2, 3, 4, 6, 7, 8] (by decide) rfl)⟩ h)
      ·have h := if_f h hb_64
       refine wpC_seq (wpC_region (wpR_v (OpV_move rfl) rfl (wpR_v (OpV_bin rfl rfl (b_igeq _ x_29 0)) rfl ?_)))
       refine wpR_nil (QE_then_n ?_)
       refine wpC_cond rfl (fun hb_63 => ?_) (fun hb_63 => ?_)
       ·have h := if_t h hb_63
        refine wpC_seq (wpC_region (wpR_v (OpV_move rfl) rfl (wpR_v (OpV_move rfl) rfl ?_)))
        obtain ⟨x_40, hx_40, h⟩ := obind_some h
        refine wpR_v (G_ix Tryd.underlying37 ti42 rfl rfl (hS.ro 3 rfl) hx_40) rfl ?_
        refine wpR_v (OpV_fieldE (k := 0) Tryd.underlying42 rfl rfl nz3 rfl) rfl ?_
        refine wpR_v (G_loadF Tryd.underlying3 rfl rfl (hS.ro 3 rfl) hx_40 rfl rfl) rfl ?_
        refine wpR_v (OpV_bin rfl rfl (b_ieql _ x_40.1 4)) rfl ?_
        refine wpR_v (OpV_assign rfl) rfl (wpR_nil (QE_then_n (wpC_seq (wpC_region (wpR_v (OpV_move rfl) rfl (wpR_v (OpV_bin rfl rfl (b_iadd _ x_29 1)) rfl ?_))))))
        refine wpR_v (OpV_assign rfl) rfl (wpR_nil (QE_then_n (wpC_block ?_)))
        refine wpC_le [(3, pB b_7 0), (4, vI x_9), (5, vB x_10), (6, v_12), (9, vS x_17.1), (10, vB x_17.2.1), (11, vB x_17.2.2), (12, vS x_18.1), (13, vB x_18.2.1), (14, vB x_18.2.2), (15, vS x_19.1), (16, vB x_19.2.1), (17, vB x_19.2.2), (18, pB b_21 0), (19, vB x_20.2.2), (20, pB b_24 0), (21, vB x_23.2.2), (22, pB b_27 0), (23, vB x_26.2.2), (24, .slice none 0 0), (25, vB (x_40.1 == 4)), (26, vI x_29), (27, vI (wI (x_29 + 1)))] ⟨rfl, rfl, rfl, rfl, rfl, rfl, rfl, rfl, rfl, rfl, rfl, rfl, rfl, rfl, rfl, rfl, rfl, rfl, rfl, rfl, rfl, rfl, rfl, trivial⟩ ?_
        refine loop_ind (F.law31_CoseSaid_L1 x_11 x_29 x_17 x_18 x_19 x_20 x_23 x_26 x_2 x_9 x_10) (fun (s : List (List UInt8) × Bool × Int) L w => ∃ (v_42 : Value), L = [(3, pB b_7 0), (4, vI x_9), (5, vB x_10), (6, v_12), (9, vS x_17.1), (10, vB x_17.2.1), (11, vB x_17.2.2), (12, vS x_18.1), (13, vB x_18.2.1), (14, vB x_18.2.2), (15, vS x_19.1), (16, vB x_19.2.1), (17, vB x_19.2.2), (18, pB b_21 0), (19, vB x_20.2.2), (20, pB b_24 0), (21, vB x_23.2.2), (22, pB b_27 0), (23, vB x_26.2.2), (24, v_42), (25, vB s.2.1), (26, vI x_29), (27, vI s.2.2)] ∧ St [] w0 w [own eS v_42 s.1, OE.bx b_7 [v_3, vS x_2.2.1, vB x_2.2.2.1, vS x_2.2.2.2.1, vB x_2.2.2.2.2.1, v_5, vB x_2.2.2.2.2.2.2.1, vS x_2.2.2.2.2.2.2.2.1, vB x_2.2.2.2.2.2.2.2.2.1, vB x_2.2.2.2.2.2.2.2.2.2.1, vI x_2.2.2.2.2.2.2.2.2.2.2.1, vB x_2.2.2.2.2.2.2.2.2.2.2.2.1, vI x_2.2.2.2.2.2.2.2.2.2.2.2.2.1, vB x_2.2.2.2.2.2.2.2.2.2.2.2.2.2.1, vI x_2.2.2.2.2.2.2.2.2.2.2.2.2.2.2.1], own (eP eI (eP eS (eP eS (eP eB (eP eI eI))))) v_3 x_2.1, own eS v_5 x_2.2.2.2.2.2.1, own (eP eI (eP e64 (eP eS eI))) v_12 x_11.1, OE.bx b_21 [vB x_20.1, vI x_20.2.1], OE.bx b_24 [vB x_23.1, vI x_23.2.1], OE.bx b_27 [vB x_26.1, vI x_26.2.1]]) ?_ ([], x_40.1 == 4, wI (x_29 + 1)) ⟨.slice none 0 0, rfl, (hS.nil eS)⟩ h
        rintro k_62 ⟨x_41, x_44, x_45⟩ L w q_48 hI ih_47 h hk_46
        try dsimp only at hI
        obtain ⟨v_42, rfl, hS⟩ := hI
        unfold F.law31_CoseSaid_L1 at h
        refine wpC_seq ?_
        refine seq_join (r := q_48) (fun (g : Bool × Bool) L w => L = [(3, pB b_7 0), (4, vI x_9), (5, vB x_10), (6, v_12), (9, vS x_17.1), (10, vB x_17.2.1), (11, vB x_17.2.2), (12, vS x_18.1), (13, vB x_18.2.1), (14, vB x_18.2.2), (15, vS x_19.1), (16, vB x_19.2.1), (17, vB x_19.2.2), (18, pB b_21 0), (19, vB x_20.2.2), (20, pB b_24 0), (21, vB x_23.2.2), (22, pB b_27 0), (23, vB x_26.2.2), (24, v_42), (25, vB g.1), (26, vI x_29), (27, vI x_45), (132, vB g.2)] ∧ St [] w0 w [OE.bx b_7 [v_3, vS x_2.2.1, vB x_2.2.2.1, vS x_2.2.2.2.1, vB x_2.2.2.2.2.1, v_5, vB x_2.2.2.2.2.2.2.1, vS x_2.2.2.2.2.2.2.2.1, vB x_2.2.2.2.2.2.2.2.2.1, vB x_2.2.2.2.2.2.2.2.2.2.1, vI x_2.2.2.2.2.2.2.2.2.2.2.1, vB x_2.2.2.2.2.2.2.2.2.2.2.2.1, vI x_2.2.2.2.2.2.2.2.2.2.2.2.2.1, vB x_2.2.2.2.2.2.2.2.2.2.2.2.2.2.1, vI x_2.2.2.2.2.2.2.2.2.2.2.2.2.2.2.1], own (eP eI (eP eS (eP eS (eP eB (eP eI eI))))) v_3 x_2.1, own eS v_5 x_2.2.2.2.2.2.1, own (eP eI (eP e64 (eP eS eI))) v_12 x_11.1, OE.bx b_21 [vB x_20.1, vI x_20.2.1], OE.bx b_24 [vB x_23.1, vI x_23.2.1], OE.bx b_27 [vB x_26.1, vI x_26.2.1], own eS v_42 x_41]) (F.law31_CoseSaid_K5 x_11 x_41 x_45 x_17 x_18 x_19 x_20 x_23 x_26 x_2 x_9 x_10 x_29) ?_ ?_
        ·rintro ⟨x_51, x_52⟩ L w hJ h
         try dsimp only at hJ
         obtain ⟨rfl, hS⟩ := hJ
         unfold F.law31_CoseSaid_K5 at h
         refine wpC_cond rfl (fun hb_61 => ?_) (fun hb_61 => ?_)
         ·have h := if_t h hb_61
          refine wpC_skip (QE_then_n (wpC_seq (wpC_block ?_)))
          refine wpC_seq (wpC_region (wpR_v (OpV_move rfl) rfl (wpR_v (OpV_move rfl) rfl ?_)))
          obtain ⟨x_54, hx_54, h⟩ := obind_some h
          refine wpR_v (G_ix Tryd.underlying37 ti42 rfl rfl (hS.ro 3 rfl) hx_54) rfl ?_
          refine wpR_v (OpV_fieldE (k := 0) Tryd.underlying42 rfl rfl nz3 rfl) rfl ?_
          refine wpR_v (G_loadF Tryd.underlying3 rfl rfl (hS.ro 3 rfl) hx_54 rfl rfl) rfl ?_
          refine wpR_v (OpV_bin rfl rfl (b_ieql _ x_54.1 3)) rfl ?_
          refine wpR_v (OpV_assign rfl) rfl (wpR_nil (QE_then_n (wpC_region (wpR_v (OpV_move rfl) rfl (wpR_v (OpV_move rfl) rfl (wpR_v (OpV_move rfl) rfl ?_))))))
          obtain ⟨x_55, hx_55, h⟩ := obind_some h
          refine wpR_v (G_ix Tryd.underlying37 ti42 rfl rfl (hS.ro 3 rfl) hx_55) rfl ?_
          refine wpR_v (OpV_fieldE (k := 2) Tryd.underlying42 rfl rfl nz9 rfl) rfl ?_
          refine wpR_v (G_loadF Tryd.underlying9 rfl rfl (hS.ro 3 rfl) hx_55 rfl rfl) rfl ?_
          refine wpR_x (OpX_lit (e := eS) (l := ([x_55.2.2.1] : List (List UInt8))) (vs := [vS x_55.2.2.1]) Tryd.underlying25 ti9 rfl rfl rfl rfl (by decide) (by decide) hS) rfl ?_
          rintro v_56 w hS
          obtain ⟨x_58, hx_58, h⟩ := obind_some h
          refine wpR_x (G_append Tryd.underlying25 ti9 rfl rfl rfl hS (i := 8) rfl (hS.ro 0 rfl) hx_58) rfl ?_
          rintro v_59 w hS
          refine wpR_v (OpV_assign rfl) rfl (wpR_nil (QE_blk_n ?_))
          refine QE_then_n (wpC_region (wpR_v (OpV_move rfl) rfl (wpR_v (OpV_bin rfl rfl (b_iadd _ x_45 1)) rfl ?_)))
          refine wpR_v (OpV_assign rfl) rfl (wpR_nil ?_)
          exact QE_rnd (wpN_le _ (by exact ⟨rfl, rfl, rfl, rfl, rfl, rfl, rfl, rfl, rfl, rfl, rfl, rfl, rfl, rfl, rfl, rfl, rfl, rfl, rfl, rfl, rfl, rfl, rfl, trivial⟩) (ih_47 (x_58, x_54.1 == 3, wI (x_45 + 1)) _ _ ⟨v_59, rfl, (hS.pick [8, 1, 2, 3, 4, 5, 6, 7] (by decide) rfl)⟩ (oinl_some h hk_46)))
         ·have h := if_f h hb_61
          refine wpC_exit ?_
          refine QE_then_x (QE_then_x ?_)
          have h := oinr_some h hk_46
          refine QE_blk_x ?_
          refine QE_then_n ?_
          exact wpC_le _ (by exact ⟨rfl, rfl, rfl, rfl, rfl, rfl, rfl, rfl, rfl, rfl, rfl, rfl, rfl, rfl, rfl, rfl, rfl, rfl, rfl, rfl, rfl, trivial⟩) (hK_69 (x_41, x_51) _ _ ⟨v_42, rfl, (hS.pick [7, 0, 1, 2, 4, 5, 6] (by decide) rfl)⟩ h)
        ·intro hK_53
         refine wpC_region (wpR_v (OpV_move rfl) rfl (wpR_v (OpV_move rfl) rfl ?_))
         cases hb_49 : x_44
         case true =>
          have h := if_t h hb_49
          try simp only [hb_49]
          refine wpR_gv (t := 126) rfl rfl (OpV_move rfl) rfl ?_
          refine wpR_gv (t := 126) rfl rfl (OpV_move rfl) rfl ?_
          refine wpR_gv (t := 126) rfl rfl (OpV_move rfl) rfl ?_
          obtain ⟨x_50, hx_50, h⟩ := obind_some h
          refine wpR_gcall (t := 126) rfl rfl (by kernel_rfl) rfl (c_cbor_Behind _ x_11.1 x_29 v_12  (hT.now hS.fr) (hS.ro 4 rfl).rp _ hx_50) rfl ?_
          rintro _ w ⟨rfl, hS1⟩
          have hS := hS.call hS1
          simp only [List.cons_append, List.nil_append] at hS
          refine wpR_gv (t := 126) rfl rfl (OpV_bin rfl rfl (b_ilss _ x_45 x_50)) rfl ?_
          refine wpR_v (OpV_pickT rfl rfl) rfl (wpR_nil (QE_then_n ?_))
          exact wpC_le _ (by exact ⟨rfl, rfl, rfl, rfl, rfl, rfl, rfl, rfl, rfl, rfl, rfl, rfl, rfl, rfl, rfl, rfl, rfl, rfl, rfl, rfl, rfl, rfl, rfl, rfl, trivial⟩) (hK_53 (true, decide (x_45 < x_50)) _ _ ⟨rfl, (hS.pick [1, 2, 3, 4, 5, 6, 7, 0] (by decide) rfl)⟩ h)
         case false =>
          have h := if_f h hb_49
          try simp only [hb_49]
          refine wpR_gskip (b := false) (t := 126) rfl rfl rfl rfl ?_
          refine wpR_gskip (b := false) (t := 126) rfl rfl rfl rfl ?_
          refine wpR_gskip (b := false) (t := 126) rfl rfl rfl rfl ?_
          refine wpR_gskip (b := false) (t := 126) rfl rfl rfl rfl ?_
          refine wpR_gskip (b := false) (t := 126) rfl rfl rfl rfl ?_
          refine wpR_v (OpV_pickF rfl rfl) rfl (wpR_nil (QE_then_n ?_))
          exact wpC_le _ (by exact ⟨rfl, rfl, rfl, rfl, rfl, rfl, rfl, rfl, rfl, rfl, rfl, rfl, rfl, rfl, rfl, rfl, rfl, rfl, rfl, rfl, rfl, rfl, rfl, rfl, trivial⟩) (hK_53 (false, false) _ _ ⟨rfl, (hS.pick [1, 2, 3, 4, 5, 6, 7, 0] (by decide) rfl)⟩ h)
       ·have h := if_f h hb_63
        refine wpC_skip (QE_then_n ?_)
        exact wpC_le _ (by exact ⟨rfl, rfl, rfl, rfl, rfl, rfl, rfl, rfl, rfl, rfl, rfl, rfl, rfl, rfl, rfl, rfl, rfl, rfl, rfl, rfl, rfl, trivial⟩) (hK_69 ([], true) _ _ ⟨.slice none 0 0, rfl, ((hS.nil eS).pick [0, 1, 2, 3, 5, 6, 7] (by decide) rfl)⟩ h)
     ·intro hK_33
      refine wpC_region (wpR_v (OpV_move rfl) rfl (wpR_v (OpV_bin rfl rfl (b_igeq _ x_29 0)) rfl ?_))
      refine wpR_v (OpV_move rfl) rfl ?_
      cases hb_30 : (decide ((0 : Int) ≤ x_29))
      case true =>
       have h := if_t h hb_30
       try simp only [hb_30]
       refine wpR_gv (t := 99) rfl rfl (OpV_move rfl) rfl ?_
       refine wpR_gv (t := 99) rfl rfl (OpV_move rfl) rfl ?_
       obtain ⟨x_31, hx_31, h⟩ := obind_some h
       refine wpR_gv (t := 99) rfl rfl (G_ix Tryd.underlying37 ti42 rfl rfl (hS.ro 3 rfl) hx_31) rfl ?_
       refine wpR_gv (t := 99) rfl rfl (OpV_fieldE (k := 0) Tryd.underlying42 rfl rfl nz3 rfl) rfl ?_
       refine wpR_gv (t := 99) rfl rfl (G_loadF Tryd.underlying3 rfl rfl (hS.ro 3 rfl) hx_31 rfl rfl) rfl ?_
       refine wpR_gv (t := 99) rfl rfl (OpV_bin rfl rfl (b_ieql _ x_31.1 3)) rfl ?_
       refine wpR_v (OpV_pickT rfl rfl) rfl (wpR_nil (QE_then_n ?_))
       exact wpC_le _ (by exact ⟨rfl, rfl, rfl, rfl, rfl, rfl, rfl, rfl, rfl, rfl, rfl, rfl, rfl, rfl, rfl, rfl, rfl, rfl, rfl, rfl, rfl, rfl, rfl, trivial⟩) (hK_33 (x_31.1 == 3) _ _ ⟨rfl, (hS.pick [4, 5, 6, 3, 2, 1, 0] (by decide) rfl)⟩ h)
      case false =>
       have h := if_f h hb_30
       try simp only [hb_30]
       refine wpR_gskip (b := false) (t := 99) rfl rfl rfl rfl ?_
       refine wpR_gskip (b := false) (t := 99) rfl rfl rfl rfl ?_
       refine wpR_gskip (b := false) (t := 99) rfl rfl rfl rfl ?_
       refine wpR_gskip (b := false) (t := 99) rfl rfl rfl rfl ?_
       refine wpR_gskip (b := false) (t := 99) rfl rfl rfl rfl ?_
       refine wpR_gskip (b := false) (t := 99) rfl rfl rfl rfl ?_
       refine wpR_v (OpV_pickF rfl rfl) rfl (wpR_nil (QE_then_n ?_))
       exact wpC_le _ (by exact ⟨rfl, rfl, rfl, rfl, rfl, rfl, rfl, rfl, rfl, rfl, rfl, rfl, rfl, rfl, rfl, rfl, rfl, rfl, rfl, rfl, rfl, rfl, rfl, trivial⟩) (hK_33 false _ _ ⟨rfl, (hS.pick [4, 5, 6, 3, 2, 1, 0] (by decide) rfl)⟩ h)
end Go.Proofs
