import Derived.Test.YtldhmmipbogabaaGreatDoorTW0
import Derived.Test.YtldhmmipbogabaaGreatDoorGkFlaw18
import Derived.Test.YtldhmmipbogabaaGreatDoorTWjws
set_option linter.unusedVariables false
set_option linter.unusedSimpArgs false
set_option linter.unusedVariables false
set_option maxRecDepth 4000
namespace Go.Proofs
open Go Go.RowKit Go.Gk
theorem c_law18_alive (w0 : World)   (hT : TB [] w0) (r : Bool)
  (h : F.law18_alive  = some r) : Calls Tryz.prog 18 #[] w0 (Ret fun v w => v = vB r ∧ St [] w0 w []) := by
 refine calls_at 99 Tryz.func18 rfl rfl rfl ?_
 have hS := St.start w0
 refine wpC_le [] trivial ?_
 unfold F.law18_alive at h
 refine wpC_seq (wpC_region (wpR_run 1 rfl ?_))
 refine wpR_nil (QE_then_n (wpC_seq (wpC_region ?_)))
 obtain ⟨x_1, hx_1, h⟩ := obind_some h
 refine wpR_call (by kernel_rfl) rfl (c_jws_Split _ [89, 81, 46, 89, 103, 46]    _ hx_1) rfl ?_
 rintro _ w ⟨rfl, hS1⟩
 have hS := hS.call hS1
 simp only [List.cons_append, List.nil_append] at hS
 refine wpR_run 9 rfl ?_
 refine wpR_nil (QE_then_n (wpC_seq (wpC_region ?_)))
 obtain ⟨x_2, hx_2, h⟩ := obind_some h
 refine wpR_call (by kernel_rfl) rfl (c_jws_Decode _ [89, 81, 46, 89, 103, 46]    _ hx_2) rfl ?_
 rintro _ w ⟨v_3, v_5, v_7, rfl, hS1⟩
 have hS := hS.call hS1
 simp only [List.cons_append, List.nil_append] at hS
 refine wpR_run 9 rfl ?_
 refine wpR_nil (QE_then_n (wpC_seq (wpC_region ?_)))
 refine wpR_x (OpX_lit (e := e8) (l := [97]) (vs := [v8 97]) Tryz.underlying25 ti5 rfl rfl rfl rfl (by decide) (by decide) hS) rfl ?_
 rintro v_9 w hS
 refine wpR_x (OpX_strish Tryz.underlying25 Tryz.underlying5 rfl hS (i := 0) rfl (by simp)) rfl ?_
 rintro v_q w ⟨hv_q, hS⟩
 subst v_q
 replace hS : St _ w0 w [red e8 v_9 [97], own e8 v_3 x_2.1, own e8 v_5 x_2.2.1, own e8 v_7 x_2.2.2.1] := hS
 refine wpR_x (OpX_lit (e := e8) (l := [98]) (vs := [v8 98]) Tryz.underlying25 ti5 rfl rfl rfl rfl (by decide) (by decide) hS) rfl ?_
 rintro v_11 w hS
 refine wpR_x (OpX_strish Tryz.underlying25 Tryz.underlying5 rfl hS (i := 0) rfl (by simp)) rfl ?_
 rintro v_q w ⟨hv_q, hS⟩
 subst v_q
 replace hS : St _ w0 w [red e8 v_11 [98], red e8 v_9 [97], own e8 v_3 x_2.1, own e8 v_5 x_2.2.1, own e8 v_7 x_2.2.2.1] := hS
 obtain ⟨x_13, hx_13, h⟩ := obind_some h
 refine wpR_call (by kernel_rfl) rfl (c_jws_Compact _ [97] [98] [] v_9 v_11 (.slice none 0 0)  (hS.rro 1 rfl).rp (hS.rro 0 rfl).rp (RO.nil _ e8).rp _ hx_13) rfl ?_
 rintro _ w ⟨rfl, hS1⟩
 have hS := hS.call hS1
 simp only [List.cons_append, List.nil_append] at hS
 refine wpR_run 5 rfl ?_
 refine wpR_nil (QE_then_n (wpC_seq (wpC_region ?_)))
 obtain ⟨x_14, hx_14, h⟩ := obind_some h
 refine wpR_x (G_make (e := e8) Tryz.underlying25 ti5 rfl rfl rfl hS hx_14) rfl ?_
 rintro v_15 w hS
 refine wpR_run 1 rfl ?_
 refine wpR_nil (QE_then_n (wpC_seq (wpC_region (wpR_run 1 rfl ?_))))
 obtain ⟨x_17, hx_17, h⟩ := obind_some h
 refine wpR_call (by kernel_rfl) rfl (c_jws_Tag _ 1 x_14 [89, 81, 46, 89, 103] v_15  (hT.now hS.fr) (hS.ro 0 rfl).rp _ hx_17) rfl ?_
 rintro _ w ⟨v_18, rfl, hS1⟩
 have hS := hS.call hS1
 simp only [List.cons_append, List.nil_append] at hS
 refine wpR_run 5 rfl ?_
 refine wpR_nil (QE_then_n (wpC_seq (wpC_region (wpR_run 1 rfl ?_))))
 refine wpR_v (OpV_build (vs := [(0, vI 1, [vI 1]), (2, v_15, [v_15])]) (cells := [vI 1, vI 0, v_15, .slice none 0 0, .slice none 0 0, .slice none 0 0, .slice none 0 0]) rfl lay27 ⟨rfl, (cells_one (hS.ro 1 rfl).one), trivial⟩ rfl) rfl ?_
 refine wpR_run 1 rfl ?_
 obtain ⟨x_20, hx_20, h⟩ := obind_some h
 refine wpR_call (by kernel_rfl) rfl (c_jws_Check _ 1 1 0 x_14 [] [] [] [] [89, 81, 46, 89, 103] x_17.1 v_15 (.slice none 0 0) (.slice none 0 0) (.slice none 0 0) (.slice none 0 0) v_18  (hT.now hS.fr) (hS.ro 1 rfl).rp (RO.nil _ e8).rp (RO.nil _ e8).rp (RO.nil _ e8).rp (RO.nil _ e8).rp (hS.ro 0 rfl).rp _ hx_20) rfl ?_
 rintro _ w ⟨rfl, hS1⟩
 have hS := hS.call hS1
 simp only [List.cons_append, List.nil_append] at hS
 refine wpR_run 1 rfl ?_
 refine wpR_nil (QE_then_n (wpC_seq (wpC_region (wpR_run 3 rfl ?_))))
 cases hb_21 : (x_1.2.2.2 == 0)
 case true =>
  have h := if_t h hb_21
  try simp only [hb_21]
  refine wpR_run 4 rfl ?_
  cases hb_22 : (x_2.2.2.2 == 0)
  case true =>
   have h := if_t h hb_22
   try simp only [hb_22]
   refine wpR_run 4 rfl ?_
   cases hb_23 : (x_13.2 == 0)
   case true =>
    have h := if_t h hb_23
    try simp only [hb_23]
    refine wpR_run 4 rfl ?_
    cases hb_24 : (x_17.2 == 0)
    case true =>
     have h := if_t h hb_24
     try simp only [hb_24]
     refine wpR_run 4 rfl ?_
     cases hb_25 : (x_20 == 0)
     case true =>
      have h := if_t h hb_25
      try simp only [hb_25]
      refine wpR_run 1 rfl ?_
      refine wpR_gv (t := 63) rfl rfl (OpV_bin rfl rfl (b_seql _ x_1.1 [89, 81])) rfl ?_
      refine wpR_run 2 rfl ?_
      cases hb_26 : (x_1.1 == [89, 81])
      case true =>
       have h := if_t h hb_26
       try simp only [hb_26]
       refine wpR_run 1 rfl ?_
       refine wpR_gv (t := 67) rfl rfl (OpV_bin rfl rfl (b_seql _ x_1.2.1 [89, 103])) rfl ?_
       refine wpR_run 2 rfl ?_
       cases hb_27 : (x_1.2.1 == [89, 103])
       case true =>
        have h := if_t h hb_27
        try simp only [hb_27]
        refine wpR_run 1 rfl ?_
        refine wpR_gv (t := 71) rfl rfl (OpV_bin rfl rfl (b_seql _ x_1.2.2.1 [])) rfl ?_
        refine wpR_run 2 rfl ?_
        cases hb_28 : (x_1.2.2.1 == [])
        case true =>
         have h := if_t h hb_28
         try simp only [hb_28]
         refine wpR_run 1 rfl ?_
         refine wpR_gv (t := 75) rfl rfl (OpV_str Tryz.underlying25 Tryz.underlying5 Tryz.underlying9 rfl (hS.ro 4 rfl)) rfl ?_
         refine wpR_gv (t := 75) rfl rfl (OpV_bin rfl rfl (b_seql _ x_2.1 [97])) rfl ?_
         refine wpR_run 2 rfl ?_
         cases hb_29 : (x_2.1 == [97])
         case true =>
          have h := if_t h hb_29
          try simp only [hb_29]
          refine wpR_run 1 rfl ?_
          refine wpR_gv (t := 80) rfl rfl (OpV_str Tryz.underlying25 Tryz.underlying5 Tryz.underlying9 rfl (hS.ro 5 rfl)) rfl ?_
          refine wpR_gv (t := 80) rfl rfl (OpV_bin rfl rfl (b_seql _ x_2.2.1 [98])) rfl ?_
          refine wpR_run 2 rfl ?_
          cases hb_30 : (x_2.2.1 == [98])
          case true =>
           have h := if_t h hb_30
           try simp only [hb_30]
           refine wpR_run 1 rfl ?_
           refine wpR_gv (t := 85) rfl rfl (OpV_len Tryz.underlying25 rfl (hS.ro 6 rfl)) rfl ?_
           refine wpR_run 3 rfl ?_
           cases hb_31 : ((x_2.2.2.1.length : Int) == 0)
           case true =>
            have h := if_t h hb_31
            try simp only [hb_31]
            refine wpR_run 1 rfl ?_
            refine wpR_gv (t := 90) rfl rfl (OpV_bin rfl rfl (b_seql _ x_13.1 [89, 81, 46, 89, 103, 46])) rfl ?_
            refine wpR_run 2 rfl ?_
            cases hb_32 : (x_13.1 == [89, 81, 46, 89, 103, 46])
            case true =>
             have h := if_t h hb_32
             try simp only [hb_32]
             refine wpR_run 1 rfl ?_
             refine wpR_gv (t := 94) rfl rfl (OpV_len Tryz.underlying25 rfl (hS.ro 0 rfl)) rfl ?_
             refine wpR_run 3 rfl ?_
             refine wpR_nil (QE_then_n (wpC_ret ?_))
             cases h
             exact QE_ret1 rfl rfl ⟨rfl, hS.pick [] (by decide) rfl⟩
            case false =>
             have h := if_f h hb_32
             try simp only [hb_32]
             refine wpR_run 5 rfl ?_
             refine wpR_nil (QE_then_n (wpC_ret ?_))
             cases h
             exact QE_ret1 rfl rfl ⟨rfl, hS.pick [] (by decide) rfl⟩
           case false =>
            have h := if_f h hb_31
            try simp only [hb_31]
            refine wpR_run 9 rfl ?_
            refine wpR_nil (QE_then_n (wpC_ret ?_))
            cases h
            exact QE_ret1 rfl rfl ⟨rfl, hS.pick [] (by decide) rfl⟩
          case false =>
           have h := if_f h hb_30
           try simp only [hb_30]
           refine wpR_run 14 rfl ?_
           refine wpR_nil (QE_then_n (wpC_ret ?_))
           cases h
           exact QE_ret1 rfl rfl ⟨rfl, hS.pick [] (by decide) rfl⟩
         case false =>
          have h := if_f h hb_29
          try simp only [hb_29]
          refine wpR_run 19 rfl ?_
          refine wpR_nil (QE_then_n (wpC_ret ?_))
          cases h
          exact QE_ret1 rfl rfl ⟨rfl, hS.pick [] (by decide) rfl⟩
        case false =>
         have h := if_f h hb_28
         try simp only [hb_28]
         refine wpR_run 24 rfl ?_
         refine wpR_nil (QE_then_n (wpC_ret ?_))
         cases h
         exact QE_ret1 rfl rfl ⟨rfl, hS.pick [] (by decide) rfl⟩
       case false =>
        have h := if_f h hb_27
        try simp only [hb_27]
        refine wpR_run 28 rfl ?_
        refine wpR_nil (QE_then_n (wpC_ret ?_))
        cases h
        exact QE_ret1 rfl rfl ⟨rfl, hS.pick [] (by decide) rfl⟩
      case false =>
       have h := if_f h hb_26
       try simp only [hb_26]
       refine wpR_run 32 rfl ?_
       refine wpR_nil (QE_then_n (wpC_ret ?_))
       cases h
       exact QE_ret1 rfl rfl ⟨rfl, hS.pick [] (by decide) rfl⟩
     case false =>
      have h := if_f h hb_25
      try simp only [hb_25]
      refine wpR_run 36 rfl ?_
      refine wpR_nil (QE_then_n (wpC_ret ?_))
      cases h
      exact QE_ret1 rfl rfl ⟨rfl, hS.pick [] (by decide) rfl⟩
    case false =>
     have h := if_f h hb_24
     try simp only [hb_24]
     refine wpR_run 40 rfl ?_
     refine wpR_nil (QE_then_n (wpC_ret ?_))
     cases h
     exact QE_ret1 rfl rfl ⟨rfl, hS.pick [] (by decide) rfl⟩
   case false =>
    have h := if_f h hb_23
    try simp only [hb_23]
    refine wpR_run 44 rfl ?_
    refine wpR_nil (QE_then_n (wpC_ret ?_))
    cases h
    exact QE_ret1 rfl rfl ⟨rfl, hS.pick [] (by decide) rfl⟩
  case false =>
   have h := if_f h hb_22
   try simp only [hb_22]
   refine wpR_run 48 rfl ?_
   refine wpR_nil (QE_then_n (wpC_ret ?_))
   cases h
   exact QE_ret1 rfl rfl ⟨rfl, hS.pick [] (by decide) rfl⟩
 case false =>
  have h := if_f h hb_21
  try simp only [hb_21]
  refine wpR_run 52 rfl ?_
  refine wpR_nil (QE_then_n (wpC_ret ?_))
  cases h
  exact QE_ret1 rfl rfl ⟨rfl, hS.pick [] (by decide) rfl⟩
theorem c_law18_same (w0 : World) (a0 : List UInt8) (a1 : List UInt8) (va0 : Value) (va1 : Value) (ha0 : RP [] w0 e8 va0 a0) (ha1 : RP [] w0 e8 va1 a1) (r : Bool)
  (h : F.law18_same a0 a1 = some r) : Calls Tryz.prog 21 #[va0, va1] w0 (Ret fun v w => v = vB r ∧ St [] w0 w []) := by
 refine calls_at 26 Tryz.func21 rfl rfl rfl ?_
 have hS := St.start w0
 refine wpC_le [(0, va0), (1, va1)] ⟨rfl, rfl, trivial⟩ ?_
 unfold F.law18_same at h
 refine wpC_seq (wpC_region (wpR_run 1 rfl ?_))
 refine wpR_nil (QE_then_n (wpC_seq (wpC_seq (wpC_region (wpR_run 1 rfl ?_)))))
 refine wpR_v (OpV_len Tryz.underlying25 rfl (ha0.now hS.fr)) rfl ?_
 refine wpR_run 1 rfl ?_
 refine wpR_v (OpV_len Tryz.underlying25 rfl (ha1.now hS.fr)) rfl ?_
 refine wpR_run 1 rfl ?_
 refine wpR_nil (QE_then_n ?_)
 refine wpC_cond rfl (fun hb_10 => ?_) (fun hb_10 => ?_)
 ·have h := if_t h hb_10
  refine wpC_seq (wpC_region (wpR_run 1 rfl ?_))
  refine wpR_nil (QE_then_n (wpC_ret (QE_then_r ?_)))
  cases h
  exact QE_ret1 rfl rfl ⟨rfl, hS⟩
 have h := if_f h hb_10
 refine wpC_skip (QE_then_n (wpC_seq (wpC_seq (wpC_region (wpR_run 1 rfl ?_)))))
 refine wpR_nil (QE_then_n (wpC_block ?_))
 refine wpC_le [(0, va0), (1, va1), (5, vI 0)] ⟨rfl, rfl, rfl, trivial⟩ ?_
 refine loop_ind (F.law18_same_L1 a0 a1) (fun (s : Int) L w => L = [(0, va0), (1, va1), (5, vI s)] ∧ St [] w0 w []) ?_ 0 ⟨rfl, hS⟩ h
 rintro k_9 x_1 L w q_4 hI ih_3 h hk_2
 try dsimp only at hI
 obtain ⟨rfl, hS⟩ := hI
 unfold F.law18_same_L1 at h
 refine wpC_seq (wpC_seq (wpC_region (wpR_run 2 rfl ?_)))
 refine wpR_v (OpV_len Tryz.underlying25 rfl (ha0.now hS.fr)) rfl ?_
 refine wpR_run 1 rfl ?_
 refine wpR_nil (QE_then_n ?_)
 refine wpC_cond rfl (fun hb_8 => ?_) (fun hb_8 => ?_)
 ·have h := if_t h hb_8
  refine wpC_skip (QE_then_n (wpC_seq (wpC_block ?_)))
  refine wpC_seq ?_
  refine wpC_regionT (fun w' => St [] w0 w' []) (fun _ => true) hmix (fun _ _ _ hf => hf.2) (fun _ _ hf => hf) (by kernel_rfl) ?_
  have hS := hS.drew
  show lxE _ _ _ _ _ _ _ [0, 1, 2, 3, 4, 5, 6, 7, 8] _ _
  refine lxE_v hS rfl rfl (fun w hF => OpV_move rfl) rfl ?_
  refine lxE_v hS rfl rfl (fun w hF => OpV_move rfl) rfl ?_
  obtain ⟨x_5, hx_5, h⟩ := obind_some h
  refine lxE_v hS rfl rfl (fun w hF => G_ix Tryz.underlying25 ti5 rfl rfl (ha0.now hF.fr) hx_5) rfl ?_
  refine lxE_v hS rfl rfl (fun w hF => G_load Tryz.underlying5 rfl rfl (ha0.now hF.fr) hx_5 rfl) rfl ?_
  refine lxE_v hS rfl rfl (fun w hF => OpV_move rfl) rfl ?_
  refine lxE_v hS rfl rfl (fun w hF => OpV_move rfl) rfl ?_
  obtain ⟨x_6, hx_6, h⟩ := obind_some h
  refine lxE_v hS rfl rfl (fun w hF => G_ix Tryz.underlying25 ti5 rfl rfl (ha1.now hF.fr) hx_6) rfl ?_
  refine lxE_v hS rfl rfl (fun w hF => G_load Tryz.underlying5 rfl rfl (ha1.now hF.fr) hx_6 rfl) rfl ?_
  refine lxE_v hS rfl rfl (fun w hF => OpV_bin rfl rfl (b_neq8 _ x_5 x_6)) rfl ?_
  refine lxE_nil hS ?_
  refine QE_then_n ?_
  refine wpC_cond rfl (fun hb_7 => ?_) (fun hb_7 => ?_)
  ·have h := if_t h hb_7
   refine wpC_seq (wpC_region (wpR_run 1 rfl ?_))
   refine wpR_nil (QE_then_n (wpC_ret (QE_blk_r ?_)))
   refine QE_then_r (QE_then_r ?_)
   have h := oinr_some h hk_2
   refine QE_blk_r ?_
   refine QE_then_r ?_
   cases h
   exact QE_ret1 rfl rfl ⟨rfl, hS⟩
  have h := if_f h hb_7
  refine wpC_skip (QE_blk_n ?_)
  refine QE_then_n (wpC_region (wpR_run 3 rfl ?_))
  refine wpR_nil ?_
  exact QE_rnd (wpN_le _ (by exact ⟨rfl, rfl, rfl, trivial⟩) (ih_3 (wI (x_1 + 1)) _ _ ⟨rfl, hS⟩ (oinl_some h hk_2)))
 have h := if_f h hb_8
 refine wpC_exit ?_
 refine QE_then_x (QE_then_x ?_)
 have h := oinr_some h hk_2
 refine QE_blk_x ?_
 refine QE_then_n (wpC_seq (wpC_region (wpR_run 1 rfl ?_)))
 refine wpR_nil (QE_then_n (wpC_ret ?_))
 cases h
 exact QE_ret1 rfl rfl ⟨rfl, hS⟩
end Go.Proofs
