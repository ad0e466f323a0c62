import Derived.Test.YtgjpaedgcpjigaaDoorSW0
import Derived.Test.YtgjpaedgcpjigaaDoorGkFlaw31
import Derived.Test.YtgjpaedgcpjigaaDoorSWcborc
import Derived.Test.YtgjpaedgcpjigaaDoorSWcoseb
import Derived.Test.YtgjpaedgcpjigaaDoorSWlaw31a
set_option linter.unusedVariables false
set_option linter.unusedSimpArgs false
set_option linter.unusedVariables false
set_option maxRecDepth 4000
namespace Go.Proofs
open Go Go.RowKit Go.Gk
theorem c_law31_awake (w0 : World)   (hT : TB [] w0) (r : Bool)
  (h : F.law31_awake  = some r) : Calls Tryd.prog 14 #[] w0 (Ret fun v w => v = vB r ∧ St [] w0 w []) := by
 refine calls_at 113 Tryd.func14 rfl rfl rfl ?_
 have hS := St.start w0
 refine wpC_le [] trivial ?_
 unfold F.law31_awake at h
 refine wpC_seq (wpC_region (wpR_run 1 rfl ?_))
 refine wpR_nil (QE_then_n (wpC_seq (wpC_region ?_)))
 refine wpR_x (OpX_lit (e := e8) (l := [210, 132, 67, 161, 1, 38, 161, 4, 65, 107, 65, 97, 64]) (vs := [v8 210, v8 132, v8 67, v8 161, v8 1, v8 38, v8 161, v8 4, v8 65, v8 107, v8 65, v8 97, v8 64]) Tryd.underlying22 ti5 rfl rfl rfl rfl (by decide) (by decide) hS) rfl ?_
 rintro v_1 w hS
 obtain ⟨x_3, hx_3, h⟩ := obind_some h
 refine wpR_call (by kernel_rfl) rfl (c_cose_Parse _ [210, 132, 67, 161, 1, 38, 161, 4, 65, 107, 65, 97, 64] [] v_1 (.slice none 0 0)  (hT.now hS.fr) (hS.ro 0 rfl).rp (RO.nil _ e8).rp _ hx_3) rfl ?_
 rintro _ w ⟨v_4, v_6, v_8, v_10, rfl, hS1⟩
 have hS := hS.call hS1
 simp only [List.cons_append, List.nil_append] at hS
 refine wpR_run 13 rfl ?_
 refine wpR_nil (QE_then_n (wpC_seq ?_))
 refine seq_join (r := r) (fun (g : Bool) L w => L = [(67, vB g)] ∧ St [] w0 w []) (F.law31_awake_K1) ?_ ?_
 rotate_left
 ·intro hK_28
  refine wpC_region (wpR_run 3 rfl ?_)
  cases hb_12 : (x_3.2.2.2.2.2 != 0)
  case true =>
   have h := if_t h hb_12
   try simp only [hb_12]
   refine wpR_run 39 rfl ?_
   refine wpR_nil (QE_then_n ?_)
   exact wpC_le _ (by exact ⟨rfl, trivial⟩) (hK_28 true _ _ ⟨rfl, (hS.pick [] (by decide) rfl)⟩ h)
  case false =>
   have h := if_f h hb_12
   try simp only [hb_12]
   refine wpR_run 4 rfl ?_
   cases hb_13 : (x_3.1 != 10)
   case true =>
    have h := if_t h hb_13
    try simp only [hb_13]
    refine wpR_run 35 rfl ?_
    refine wpR_nil (QE_then_n ?_)
    exact wpC_le _ (by exact ⟨rfl, trivial⟩) (hK_28 true _ _ ⟨rfl, (hS.pick [] (by decide) rfl)⟩ h)
   case false =>
    have h := if_f h hb_13
    try simp only [hb_13]
    refine wpR_run 1 rfl ?_
    refine wpR_gx (t := 32) rfl rfl (OpX_lit (e := e8) (l := [107]) (vs := [v8 107]) Tryd.underlying22 ti5 rfl rfl rfl rfl (by decide) (by decide) hS) rfl ?_
    rintro v_14 w hS
    refine wpR_gx (t := 32) rfl rfl (OpX_strish Tryd.underlying22 Tryd.underlying5 rfl hS (i := 0) rfl (by simp)) rfl ?_
    rintro v_q w ⟨hv_q, hS⟩
    subst v_q
    replace hS : St _ w0 w [red e8 v_14 [107], own e8 v_4 x_3.2.1, own e8 v_6 x_3.2.2.1, own e8 v_8 x_3.2.2.2.1, own e8 v_10 x_3.2.2.2.2.1, own e8 v_1 [210, 132, 67, 161, 1, 38, 161, 4, 65, 107, 65, 97, 64]] := hS
    obtain ⟨x_16, hx_16, h⟩ := obind_some h
    refine wpR_gcall (t := 32) rfl rfl (by kernel_rfl) rfl (c_law31_same _ x_3.2.1 [107] v_4 v_14  (hS.ro 1 rfl).rp (hS.rro 0 rfl).rp _ hx_16) rfl ?_
    rintro _ w ⟨rfl, hS1⟩
    have hS := hS.call hS1
    simp only [List.cons_append, List.nil_append] at hS
    refine wpR_run 3 rfl ?_
    cases hb_17 : (!x_16)
    case true =>
     have h := if_t h hb_17
     try simp only [hb_17]
     refine wpR_run 28 rfl ?_
     refine wpR_nil (QE_then_n ?_)
     exact wpC_le _ (by exact ⟨rfl, trivial⟩) (hK_28 true _ _ ⟨rfl, (hS.pick [] (by decide) rfl)⟩ h)
    case false =>
     have h := if_f h hb_17
     try simp only [hb_17]
     refine wpR_run 1 rfl ?_
     refine wpR_gx (t := 39) rfl rfl (OpX_lit (e := e8) (l := [97]) (vs := [v8 97]) Tryd.underlying22 ti5 rfl rfl rfl rfl (by decide) (by decide) hS) rfl ?_
     rintro v_18 w hS
     refine wpR_gx (t := 39) rfl rfl (OpX_strish Tryd.underlying22 Tryd.underlying5 rfl hS (i := 0) rfl (by simp)) rfl ?_
     rintro v_q w ⟨hv_q, hS⟩
     subst v_q
     replace hS : St _ w0 w [red e8 v_18 [97], red e8 v_14 [107], own e8 v_4 x_3.2.1, own e8 v_6 x_3.2.2.1, own e8 v_8 x_3.2.2.2.1, own e8 v_10 x_3.2.2.2.2.1, own e8 v_1 [210, 132, 67, 161, 1, 38, 161, 4, 65, 107, 65, 97, 64]] := hS
     obtain ⟨x_20, hx_20, h⟩ := obind_some h
     refine wpR_gcall (t := 39) rfl rfl (by kernel_rfl) rfl (c_law31_same _ x_3.2.2.1 [97] v_6 v_18  (hS.ro 3 rfl).rp (hS.rro 0 rfl).rp _ hx_20) rfl ?_
     rintro _ w ⟨rfl, hS1⟩
     have hS := hS.call hS1
     simp only [List.cons_append, List.nil_append] at hS
     refine wpR_run 3 rfl ?_
     cases hb_21 : (!x_20)
     case true =>
      have h := if_t h hb_21
      try simp only [hb_21]
      refine wpR_run 21 rfl ?_
      refine wpR_nil (QE_then_n ?_)
      exact wpC_le _ (by exact ⟨rfl, trivial⟩) (hK_28 true _ _ ⟨rfl, (hS.pick [] (by decide) rfl)⟩ h)
     case false =>
      have h := if_f h hb_21
      try simp only [hb_21]
      refine wpR_run 1 rfl ?_
      refine wpR_gv (t := 46) rfl rfl (OpV_len Tryd.underlying22 rfl (hS.ro 4 rfl)) rfl ?_
      refine wpR_run 3 rfl ?_
      cases hb_22 : ((x_3.2.2.2.1.length : Int) != 0)
      case true =>
       have h := if_t h hb_22
       try simp only [hb_22]
       refine wpR_run 16 rfl ?_
       refine wpR_nil (QE_then_n ?_)
       exact wpC_le _ (by exact ⟨rfl, trivial⟩) (hK_28 true _ _ ⟨rfl, (hS.pick [] (by decide) rfl)⟩ h)
      case false =>
       have h := if_f h hb_22
       try simp only [hb_22]
       refine wpR_run 1 rfl ?_
       refine wpR_gv (t := 51) rfl rfl (OpV_len Tryd.underlying22 rfl (hS.ro 5 rfl)) rfl ?_
       refine wpR_run 3 rfl ?_
       cases hb_23 : ((x_3.2.2.2.2.1.length : Int) != 19)
       case true =>
        have h := if_t h hb_23
        try simp only [hb_23]
        refine wpR_run 11 rfl ?_
        refine wpR_nil (QE_then_n ?_)
        exact wpC_le _ (by exact ⟨rfl, trivial⟩) (hK_28 true _ _ ⟨rfl, (hS.pick [] (by decide) rfl)⟩ h)
       case false =>
        have h := if_f h hb_23
        try simp only [hb_23]
        refine wpR_run 1 rfl ?_
        obtain ⟨x_24, hx_24, h⟩ := obind_some h
        refine wpR_gv (t := 56) rfl rfl (G_ix Tryd.underlying22 ti5 rfl rfl (hS.ro 5 rfl) hx_24) rfl ?_
        refine wpR_gv (t := 56) rfl rfl (G_load Tryd.underlying5 rfl rfl (hS.ro 5 rfl) hx_24 rfl) rfl ?_
        refine wpR_gv (t := 56) rfl rfl (OpV_bin rfl rfl (b_neq8 _ x_24 132)) rfl ?_
        refine wpR_run 2 rfl ?_
        cases hb_25 : (x_24 != 132)
        case true =>
         have h := if_t h hb_25
         try simp only [hb_25]
         refine wpR_run 5 rfl ?_
         refine wpR_nil (QE_then_n ?_)
         exact wpC_le _ (by exact ⟨rfl, trivial⟩) (hK_28 true _ _ ⟨rfl, (hS.pick [] (by decide) rfl)⟩ h)
        case false =>
         have h := if_f h hb_25
         try simp only [hb_25]
         refine wpR_run 1 rfl ?_
         obtain ⟨x_26, hx_26, h⟩ := obind_some h
         refine wpR_gv (t := 62) rfl rfl (G_ix Tryd.underlying22 ti5 rfl rfl (hS.ro 5 rfl) hx_26) rfl ?_
         refine wpR_gv (t := 62) rfl rfl (G_load Tryd.underlying5 rfl rfl (hS.ro 5 rfl) hx_26 rfl) rfl ?_
         refine wpR_gv (t := 62) rfl rfl (OpV_bin rfl rfl (b_neq8 _ x_26 97)) rfl ?_
         refine wpR_run 1 rfl ?_
         refine wpR_nil (QE_then_n ?_)
         exact wpC_le _ (by exact ⟨rfl, trivial⟩) (hK_28 (x_26 != 97) _ _ ⟨rfl, (hS.pick [] (by decide) rfl)⟩ h)
 rintro x_27 L w hJ h
 try dsimp only at hJ
 obtain ⟨rfl, hS⟩ := hJ
 unfold F.law31_awake_K1 at h
 refine wpC_cond rfl (fun hb_65 => ?_) (fun hb_65 => ?_)
 ·have h := if_t h hb_65
  refine wpC_seq (wpC_region (wpR_run 1 rfl ?_))
  refine wpR_nil (QE_then_n (wpC_ret (QE_then_r ?_)))
  cases h
  exact QE_ret1 rfl rfl ⟨rfl, hS⟩
 have h := if_f h hb_65
 refine wpC_skip (QE_then_n (wpC_seq (wpC_region ?_)))
 refine wpR_x (OpX_lit (e := e8) (l := [132, 67, 161, 1, 36, 160, 64, 64]) (vs := [v8 132, v8 67, v8 161, v8 1, v8 36, v8 160, v8 64, v8 64]) Tryd.underlying22 ti5 rfl rfl rfl rfl (by decide) (by decide) hS) rfl ?_
 rintro v_29 w hS
 obtain ⟨x_31, hx_31, h⟩ := obind_some h
 refine wpR_call (by kernel_rfl) rfl (c_cose_Parse _ [132, 67, 161, 1, 36, 160, 64, 64] [] v_29 (.slice none 0 0)  (hT.now hS.fr) (hS.ro 0 rfl).rp (RO.nil _ e8).rp _ hx_31) rfl ?_
 rintro _ w ⟨v_32, v_34, v_36, v_38, rfl, hS1⟩
 have hS := hS.call hS1
 simp only [List.cons_append, List.nil_append] at hS
 refine wpR_run 13 rfl ?_
 refine wpR_nil (QE_then_n (wpC_seq (wpC_region ?_)))
 refine wpR_x (OpX_lit (e := e8) (l := [162, 1, 97, 105, 4, 10]) (vs := [v8 162, v8 1, v8 97, v8 105, v8 4, v8 10]) Tryd.underlying22 ti5 rfl rfl rfl rfl (by decide) (by decide) hS) rfl ?_
 rintro v_40 w hS
 obtain ⟨x_42, hx_42, h⟩ := obind_some h
 refine wpR_call (by kernel_rfl) rfl (c_cose_Claims _ [162, 1, 97, 105, 4, 10] v_40  (hT.now hS.fr) (hS.ro 0 rfl).rp _ hx_42) rfl ?_
 rintro _ w ⟨v_43, v_45, rfl, hS1⟩
 have hS := hS.call hS1
 simp only [List.cons_append, List.nil_append] at hS
 refine wpR_run 3 rfl ?_
 refine wpR_x (OpX_alloc (cs := [.slice none 0 0, vS [], vB false, vS [], vB false, .slice none 0 0, vB false, vS [], vB false, vB false, vI 0, vB false, vI 0, vB false, vI 0]) tz29 rfl hS) rfl ?_
 rintro _ w ⟨b_47, rfl, hS⟩
 refine wpR_y (OpY_stB (i := 0) (us := [v_43, vS x_42.2.1, vB x_42.2.2.1, vS x_42.2.2.2.1, vB x_42.2.2.2.2.1, v_45, vB x_42.2.2.2.2.2.2.1, vS x_42.2.2.2.2.2.2.2.1, vB x_42.2.2.2.2.2.2.2.2.1, vB x_42.2.2.2.2.2.2.2.2.2.1, vI x_42.2.2.2.2.2.2.2.2.2.2.1, vB x_42.2.2.2.2.2.2.2.2.2.2.2.1, vI x_42.2.2.2.2.2.2.2.2.2.2.2.2.1, vB x_42.2.2.2.2.2.2.2.2.2.2.2.2.2.1, vI x_42.2.2.2.2.2.2.2.2.2.2.2.2.2.2.1]) rfl sz29 rfl rfl rfl ⟨(hS.ro 1 rfl).one, rfl, rfl, rfl, rfl, (hS.ro 2 rfl).one, rfl, rfl, rfl, rfl, rfl, rfl, rfl, rfl, rfl, trivial⟩ rfl hS) ?_
 intro w hS
 replace hS : St _ w0 w [OE.bx b_47 [v_43, vS x_42.2.1, vB x_42.2.2.1, vS x_42.2.2.2.1, vB x_42.2.2.2.2.1, v_45, vB x_42.2.2.2.2.2.2.1, vS x_42.2.2.2.2.2.2.2.1, vB x_42.2.2.2.2.2.2.2.2.1, vB x_42.2.2.2.2.2.2.2.2.2.1, vI x_42.2.2.2.2.2.2.2.2.2.2.1, vB x_42.2.2.2.2.2.2.2.2.2.2.2.1, vI x_42.2.2.2.2.2.2.2.2.2.2.2.2.1, vB x_42.2.2.2.2.2.2.2.2.2.2.2.2.2.1, vI x_42.2.2.2.2.2.2.2.2.2.2.2.2.2.2.1], own (eP eI (eP eS (eP eS (eP eB (eP eI eI))))) v_43 x_42.1, own eS v_45 x_42.2.2.2.2.2.1, own e8 v_40 [162, 1, 97, 105, 4, 10], own e8 v_32 x_31.2.1, own e8 v_34 x_31.2.2.1, own e8 v_36 x_31.2.2.2.1, own e8 v_38 x_31.2.2.2.2.1, own e8 v_29 [132, 67, 161, 1, 36, 160, 64, 64]] := hS
 obtain ⟨x_49, hx_49, h⟩ := olet_some h
 refine wpR_v (OpV_assign (v := vI x_49) (by rw [← hx_49]; rfl)) rfl ?_
 refine wpR_nil (QE_then_n (wpC_seq (wpC_region ?_)))
 refine wpR_x (OpX_lit (e := e8) (l := [128]) (vs := [v8 128]) Tryd.underlying22 ti5 rfl rfl rfl rfl (by decide) (by decide) hS) rfl ?_
 rintro v_50 w hS
 obtain ⟨x_52, hx_52, h⟩ := obind_some h
 refine wpR_call (by kernel_rfl) rfl (c_cose_Claims _ [128] v_50  (hT.now hS.fr) (hS.ro 0 rfl).rp _ hx_52) rfl ?_
 rintro _ w ⟨v_53, v_55, rfl, hS1⟩
 have hS := hS.call hS1
 simp only [List.cons_append, List.nil_append] at hS
 refine wpR_run 3 rfl ?_
 refine wpR_x (OpX_alloc (cs := [.slice none 0 0, vS [], vB false, vS [], vB false, .slice none 0 0, vB false, vS [], vB false, vB false, vI 0, vB false, vI 0, vB false, vI 0]) tz29 rfl hS) rfl ?_
 rintro _ w ⟨b_57, rfl, hS⟩
 refine wpR_y (OpY_stB (i := 0) (us := [v_53, vS x_52.2.1, vB x_52.2.2.1, vS x_52.2.2.2.1, vB x_52.2.2.2.2.1, v_55, vB x_52.2.2.2.2.2.2.1, vS x_52.2.2.2.2.2.2.2.1, vB x_52.2.2.2.2.2.2.2.2.1, vB x_52.2.2.2.2.2.2.2.2.2.1, vI x_52.2.2.2.2.2.2.2.2.2.2.1, vB x_52.2.2.2.2.2.2.2.2.2.2.2.1, vI x_52.2.2.2.2.2.2.2.2.2.2.2.2.1, vB x_52.2.2.2.2.2.2.2.2.2.2.2.2.2.1, vI x_52.2.2.2.2.2.2.2.2.2.2.2.2.2.2.1]) rfl sz29 rfl rfl rfl ⟨(hS.ro 1 rfl).one, rfl, rfl, rfl, rfl, (hS.ro 2 rfl).one, rfl, rfl, rfl, rfl, rfl, rfl, rfl, rfl, rfl, trivial⟩ rfl hS) ?_
 intro w hS
 replace hS : St _ w0 w [OE.bx b_57 [v_53, vS x_52.2.1, vB x_52.2.2.1, vS x_52.2.2.2.1, vB x_52.2.2.2.2.1, v_55, vB x_52.2.2.2.2.2.2.1, vS x_52.2.2.2.2.2.2.2.1, vB x_52.2.2.2.2.2.2.2.2.1, vB x_52.2.2.2.2.2.2.2.2.2.1, vI x_52.2.2.2.2.2.2.2.2.2.2.1, vB x_52.2.2.2.2.2.2.2.2.2.2.2.1, vI x_52.2.2.2.2.2.2.2.2.2.2.2.2.1, vB x_52.2.2.2.2.2.2.2.2.2.2.2.2.2.1, vI x_52.2.2.2.2.2.2.2.2.2.2.2.2.2.2.1], own (eP eI (eP eS (eP eS (eP eB (eP eI eI))))) v_53 x_52.1, own eS v_55 x_52.2.2.2.2.2.1, own e8 v_50 [128], OE.bx b_47 [v_43, vS x_42.2.1, vB x_42.2.2.1, vS x_42.2.2.2.1, vB x_42.2.2.2.2.1, v_45, vB x_42.2.2.2.2.2.2.1, vS x_42.2.2.2.2.2.2.2.1, vB x_42.2.2.2.2.2.2.2.2.1, vB x_42.2.2.2.2.2.2.2.2.2.1, vI x_42.2.2.2.2.2.2.2.2.2.2.1, vB x_42.2.2.2.2.2.2.2.2.2.2.2.1, vI x_42.2.2.2.2.2.2.2.2.2.2.2.2.1, vB x_42.2.2.2.2.2.2.2.2.2.2.2.2.2.1, vI x_42.2.2.2.2.2.2.2.2.2.2.2.2.2.2.1], own (eP eI (eP eS (eP eS (eP eB (eP eI eI))))) v_43 x_42.1, own eS v_45 x_42.2.2.2.2.2.1, own e8 v_40 [162, 1, 97, 105, 4, 10], own e8 v_32 x_31.2.1, own e8 v_34 x_31.2.2.1, own e8 v_36 x_31.2.2.2.1, own e8 v_38 x_31.2.2.2.2.1, own e8 v_29 [132, 67, 161, 1, 36, 160, 64, 64]] := hS
 obtain ⟨x_59, hx_59, h⟩ := olet_some h
 refine wpR_v (OpV_assign (v := vI x_59) (by rw [← hx_59]; rfl)) rfl ?_
 refine wpR_nil (QE_then_n (wpC_seq (wpC_region (wpR_run 3 rfl ?_))))
 cases hb_60 : (x_31.2.2.2.2.2 == 111)
 case true =>
  have h := if_t h hb_60
  try simp only [hb_60]
  refine wpR_run 4 rfl ?_
  cases hb_61 : (x_49 == 0)
  case true =>
   have h := if_t h hb_61
   try simp only [hb_61]
   refine wpR_run 4 rfl ?_
   cases hb_62 : (x_59 == 130)
   case true =>
    have h := if_t h hb_62
    try simp only [hb_62]
    refine wpR_gv (t := 97) rfl rfl (OpV_fieldB (k := 1) Tryd.underlying29 rfl rfl nz9 rfl) rfl ?_
    refine wpR_gv (t := 97) rfl rfl (OpV_ldB Tryd.underlying9 rfl rfl (hS.bxc 4 rfl 1)) rfl ?_
    refine wpR_gv (t := 97) rfl rfl (OpV_bin rfl rfl (b_seql _ x_42.2.1 [105])) rfl ?_
    refine wpR_run 2 rfl ?_
    cases hb_63 : (x_42.2.1 == [105])
    case true =>
     have h := if_t h hb_63
     try simp only [hb_63]
     refine wpR_gv (t := 102) rfl rfl (OpV_fieldB (k := 9) Tryd.underlying29 rfl rfl nz27 rfl) rfl ?_
     refine wpR_gv (t := 102) rfl rfl (OpV_fieldB (k := 1) Tryd.underlying27 rfl rfl nz2 rfl) rfl ?_
     refine wpR_gv (t := 102) rfl rfl (OpV_ldB Tryd.underlying2 rfl rfl (hS.bxc 4 rfl 10)) rfl ?_
     refine wpR_run 3 rfl ?_
     cases hb_64 : (x_42.2.2.2.2.2.2.2.2.2.2.1 == 10)
     case true =>
      have h := if_t h hb_64
      try simp only [hb_64]
      refine wpR_gv (t := 108) rfl rfl (OpV_fieldB (k := 9) Tryd.underlying29 rfl rfl nz27 rfl) rfl ?_
      refine wpR_gv (t := 108) rfl rfl (OpV_fieldB (k := 0) Tryd.underlying27 rfl rfl nz4 rfl) rfl ?_
      refine wpR_gv (t := 108) rfl rfl (OpV_ldB Tryd.underlying4 rfl rfl (hS.bxc 4 rfl 9)) rfl ?_
      refine wpR_run 2 rfl ?_
      refine wpR_nil (QE_then_n (wpC_ret ?_))
      cases h
      exact QE_ret1 rfl rfl ⟨rfl, hS.pick [] (by decide) rfl⟩
     case false =>
      have h := if_f h hb_64
      try simp only [hb_64]
      refine wpR_run 5 rfl ?_
      refine wpR_nil (QE_then_n (wpC_ret ?_))
      cases h
      exact QE_ret1 rfl rfl ⟨rfl, hS.pick [] (by decide) rfl⟩
    case false =>
     have h := if_f h hb_63
     try simp only [hb_63]
     refine wpR_run 11 rfl ?_
     refine wpR_nil (QE_then_n (wpC_ret ?_))
     cases h
     exact QE_ret1 rfl rfl ⟨rfl, hS.pick [] (by decide) rfl⟩
   case false =>
    have h := if_f h hb_62
    try simp only [hb_62]
    refine wpR_run 16 rfl ?_
    refine wpR_nil (QE_then_n (wpC_ret ?_))
    cases h
    exact QE_ret1 rfl rfl ⟨rfl, hS.pick [] (by decide) rfl⟩
  case false =>
   have h := if_f h hb_61
   try simp only [hb_61]
   refine wpR_run 20 rfl ?_
   refine wpR_nil (QE_then_n (wpC_ret ?_))
   cases h
   exact QE_ret1 rfl rfl ⟨rfl, hS.pick [] (by decide) rfl⟩
 case false =>
  have h := if_f h hb_60
  try simp only [hb_60]
  refine wpR_run 24 rfl ?_
  refine wpR_nil (QE_then_n (wpC_ret ?_))
  cases h
  exact QE_ret1 rfl rfl ⟨rfl, hS.pick [] (by decide) rfl⟩
end Go.Proofs
