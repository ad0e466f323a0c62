import Derived.Test.YtldhmmipbogabaaGreatDoorTW0
import Derived.Test.YtldhmmipbogabaaGreatDoorGkFlaw18
import Derived.Test.YtldhmmipbogabaaGreatDoorTWjws
set_option linter.unusedVariables false
set_option linter.unusedSimpArgs false
set_option linter.unusedVariables false
set_option maxRecDepth 4000
namespace Go.Proofs
open Go Go.RowKit Go.Gk
theorem c_law18_alive (w0 : World)   (hT : TB [] w0) (r : Bool)
  (h : F.law18_alive  = some r) : Calls Tryz.prog 18 #[] w0 (Ret fun v w => v = vB r ∧ St [] w0 w []) := by
 refine calls_at 99 Tryz.func18 rfl rfl rfl ?_
 have hS := St.start w0
 refine wpC_le [] trivial ?_
 unfold F.law18_alive at h
 refine wpC_seq (wpC_region (wpR_run 1 rfl ?_))
 refine wpR_nil (QE_then_n (wpC_seq (wpC_region ?_)))
 obtain ⟨x_1, hx_1, h⟩ := obind_some h
 refine wpR_call (by kernel_rfl) rfl (c_jws_Split _ [89, 81, 46, 89, 103, 46]    _ hx_1) rfl ?_
 rintro _ w ⟨rfl, hS1⟩
 have hS := hS.call hS1
 simp only [List.cons_append, List.nil_append] at hS
 refine wpR_run 9 rfl ?_
 refine wpR_nil (QE_then_n (wpC_seq (wpC_region ?_)))
 obtain ⟨x_2, hx_2, h⟩ := obind_some h
 refine wpR_call (by kernel_rfl) rfl (c_jws_Decode _ [89, 81, 46, 89, 103, 46]    _ hx_2) rfl ?_
 rintro _ w ⟨v_3, v_5, v_7, rfl, hS1⟩
 have hS := hS.call hS1
 simp only [List.cons_append, List.nil_append] at hS
 refine wpR_run 9 rfl ?_
 refine wpR_nil (QE_then_n (wpC_seq (wpC_region ?_)))
 refine wpR_x (OpX_lit (e := e8) (l := [97]) (vs := [v8 97]) Tryz.underlying25 ti5 rfl rfl rfl rfl (by decide) (by decide) hS) rfl ?_
 rintro v_9 w hS
 refine wpR_x (OpX_strish Tryz.underlying25 Tryz.underlying5 rfl hS (i := 0) rfl (by simp)) rfl ?_
 rintro v_q w ⟨hv_q, hS⟩
 subst v_q
 replace hS : St _ w0 w [red e8 v_9 [97], own e8 v_3 x_2.1, own e8 v_5 x_2.2.1, own e8 v_7 x_2.2.2.1] := hS
 refine wpR_x (OpX_lit (e := e8) (l := [98]) (vs := [v8 98]) Tryz.underlying25 ti5 rfl rfl rfl rfl (by decide) (by decide) hS) rfl ?_
 rintro v_11 w hS
 refine wpR_x (OpX_strish Tryz.underlying25 Tryz.underlying5 rfl hS (i := 0) rfl (by simp)) rfl ?_
 rintro v_q w ⟨hv_q, hS⟩
 subst v_q
 replace hS : St _ w0 w [red e8 v_11 [98], red e8 v_9 [97], own e8 v_3 x_2.1, own e8 v_5 x_2.2.1, own e8 v_7 x_2.2.2.1] := hS
 obtain ⟨x_13, hx_13, h⟩ := obind_some h
 refine wpR_call (by kernel_rfl) rfl (c_jws_Compact _ [97] [98] [] v_9 v_11 (.slice none 0 0)  (hS.rro 1 rfl).rp (hS.rro 0 rfl).rp (RO.nil _ e8).rp _ hx_13) rfl ?_
 rintro _ w ⟨rfl, hS1⟩
 have hS := hS.call hS1
 simp only [List.cons_append, List.nil_append] at hS
 refine wpR_run 5 rfl ?_
 refine wpR_nil (QE_then_n (wpC_seq (wpC_region ?_)))
 obtain ⟨x_14, hx_14, h⟩ := obind_some h
 refine wpR_x (G_make (e := e8) Tryz.underlying25 ti5 rfl rfl rfl hS hx_14) rfl ?_
 rintro v_15 w hS
 refine wpR_run 1 rfl ?_
 refine wpR_nil (QE_then_n (wpC_seq (wpC_region (wpR_run 1 rfl ?_))))
 obtain ⟨x_17, hx_17, h⟩ := obind_some h
 refine wpR_call (by kernel_rfl) rfl (c_jws_Tag _ 1 x_14 [89, 81, 46, 89, 103] v_15  (hT.now hS.fr) (hS.ro 0 rfl).rp _ hx_17) rfl ?_
 rintro _ w ⟨v_18, rfl, hS1⟩
 have hS := hS.call hS1
 simp only [List.cons_append, List.nil_append] at hS
 refine wpR_run 5 rfl ?_
 refine wpR_nil (QE_then_n (wpC_seq (wpC_region (wpR_run 1 rfl ?_))))
 refine wpR_v (OpV_build (vs := [(0, vI 1, [vI 1]), (2, v_15, [v_15])]) (cells := [vI 1, vI 0, v_15, .slice none 0 0, .slice none 0 0, .slice none 0 0, .slice none 0 0]) rfl lay27 ⟨rfl, (cells_one (hS.ro 1 rfl).one), trivial⟩ rfl) rfl ?_
 refine wpR_run 1 rfl ?_
 obtain ⟨x_20, hx_20, h⟩ := obind_some h
 refine wpR_call (by kernel_rfl) rfl (c_jws_Check _ 1 1 0 x_14 [] [] [] [] [89, 81, 46, 89, 103] x_17.1 v_15 (.slice none 0 0) (.slice none 0 0) (.slice none 0 0) (.slice none 0 0) v_18  (hT.now hS.fr) (hS.ro 1 rfl).rp (RO.nil _ e8).rp (RO.nil _ e8).rp (RO.nil _ e8).rp (RO.nil _ e8).rp (hS.ro 0 rfl).rp _ hx_20) rfl ?_
 rintro _ w ⟨rfl, hS1⟩
 have hS := hS.call hS1
 simp only [List.cons_append, List.nil_append] at hS
 refine wpR_run 1 rfl ?_
 refine wpR_nil (QE_then_n (wpC_seq (wpC_region (wpR_run 3 rfl ?_))))
 cases hb_21 : (x_1.2.2.2 == 0)
 case true =>
  have h := if_t h hb_21
  try simp only [hb_21]
  refine wpR_run 4 rfl ?_
  cases hb_22 : (x_2.2.2.2 == 0)
  case true =>
   have h := if_t h hb_22
   try simp only [hb_22]
   refine wpR_run 4 rfl ?_
   cases hb_23 : (x_13.2 == 0)
   case true =>
    have h := if_t h hb_23
    try simp only [hb_23]
    refine wpR_run 4 rfl ?_
    cases hb_24 : (x_17.2 == 0)
    case true =>
     have h := if_t h hb_24
     try simp only [hb_24]
     refine wpR_run 4 rfl ?_
     cases hb_25 : (x_20 == 0)
     case true =>
      have h := if_t h hb_25
      try simp only [hb_25]
      refine wpR_run 1 rfl ?_
      refine wpR_gv (t := 63) rfl rfl (OpV_bin rfl rfl (b_seql _ x_1.1 [89, 81])) rfl ?_
      refine wpR_run 2 rfl ?_
      cases hb_26 : (x_1.1 == [89, 81])
      case true =>
       have h := if_t h hb_26
       try simp only [hb_26]
       refine wpR_run 1 rfl ?_
       refine wpR_gv (t := 67) rfl rfl (OpV_bin rfl rfl (b_seql _ x_1.2.1 [89, 103])) rfl ?_
       refine wpR_run 2 rfl ?_
       cases hb_27 : (x_1.2.1 == [89, 103])
       case true =>
        have h := if_t h hb_27
        try simp only [hb_27]
        refine wpR_run 1 rfl ?_
        refine wpR_gv (t := 71) rfl rfl (OpV_bin rfl rfl (b_seql _ x_1.2.2.1 [])) rfl ?_
        refine wpR_run 2 rfl ?_
        cases hb_28 : (x_1.2.2.1 == [])
        case true =>
         have h := if_t h hb_28
         try simp only [hb_28]
         refine wpR_run 1 rfl ?_
         refine wpR_gv (t := 75) rfl rfl (OpV_str Tryz.underlying25 Tryz.underlying5 Tryz.underlying9 rfl (hS.ro 4 rfl)) rfl ?_
         refine wpR_gv (t := 75) rfl rfl (OpV_bin rfl rfl (b_seql _ x_2.1 [97])) rfl ?_
         refine wpR_run 2 rfl ?_
         cases hb_29 : (x_2.1 == [97])
         case true =>
          have h := if_t h hb_29
          try simp only [hb_29]
          refine wpR_run 1 rfl ?_
          refine wpR_gv (t := 80) rfl rfl (OpV_str Tryz.underlying25 Tryz.underlying5 Tryz.underlying9 rfl (hS.ro 5 rfl)) rfl ?_
          refine wpR_gv (t := 80) rfl rfl (OpV_bin rfl rfl (b_seql _ x_2.2.1 [98])) rfl ?_
          refine wpR_run 2 rfl ?_
          cases hb_30 : (x_2.2.1 == [98])
          case true =>
           have h := if_t h hb_30
           try simp only [hb_30]
           refine wpR_run 1 rfl ?_
           refine wpR_gv (t := 85) rfl rfl (OpV_len Tryz.underlying25 rfl (hS.ro 6 rfl)) rfl ?_
           refine wpR_run 3 rfl ?_
           cases hb_31 : ((x_2.2.2.1.length : Int) == 0)
           case true =>
            have h := if_t h hb_31
            try simp only [hb_31]
            refine wpR_run 1 rfl ?_
            refine wpR_gv (t := 90) rfl rfl (OpV_bin rfl rfl (b_seql _ x_13.1 [89, 81, 46, 89, 103, 46])) rfl ?_
            refine wpR_run 2 rfl ?_
            cases hb_32 : (x_13.1 == [89, 81, 46, 89, 103, 46])
            case true =>
             have h := if_t h hb_32
             try simp only [hb_32]
             refine wpR_run 1 rfl ?_
             refine wpR_gv (t := 94) rfl rfl (OpV_len Tryz.underlying25 rfl (hS.ro 0 rfl)) rfl ?_
             refine wpR_run 3 rfl ?_
             refine wpR_nil (QE_then_n (wpC_ret ?_))
             cases h
             exact QE_ret1 rfl rfl ⟨rfl, hS.pick [] (by decide) rfl⟩
            case false =>
             have h := if_f h hb_32
             try simp only [hb_32]
             refine wpR_run 5 rfl ?_
             refine wpR_nil (QE_then_n (wpC_ret ?_))
             cases h
             exact QE_ret1 rfl rfl ⟨rfl, hS.pick [] (by decide) rfl⟩
           case false =>
            have h := if_f h hb_31
            try simp only [hb_31]
            refine wpR_run 9 rfl ?_
            refine wpR_nil (QE_then_n (wpC_ret ?_))
            cases h
            exact QE_ret1 rfl rfl ⟨rfl, hS.pick [] (by decide) rfl⟩
          case false =>
           have h := if_f h hb_30
           try simp only [hb_30]
           refine wpR_run 14 rfl ?_
           refine wpR_nil (QE_then_n (wpC_ret ?_))
           cases h
           exact QE_ret1 rfl rfl ⟨rfl, hS.pick [] (by decide) rfl⟩
         case false =>
          have h := if_f h hb_29
          try simp only [hb_29]
          refine wpR_run 19 rfl ?_
          refine wpR_nil (QE_then_n (wpC_ret ?_))
          cases h
          exact QE_ret1 rfl rfl ⟨rfl, hS.pick [] (by decide) rfl⟩
        case false =>
         have h := if_f h hb_28
         try simp only [hb_28]
         refine wpR_run 24 rfl ?_
         refine wpR_nil (QE_then_n (wpC_ret ?_))
         cases h
         exact QE_ret1 rfl rfl ⟨rfl, hS.pick [] (by decide) rfl⟩
       case false =>
        have h := if_f h hb_27
        try simp only [hb_27]
        refine wpR_run 28 rfl ?_
        refine wpR_nil (QE_then_n (wpC_ret ?_))
        cases h
        exact QE_ret1 rfl rfl ⟨rfl, hS.pick [] (by decide) rfl⟩
      case false =>
       have h := if_f h hb_26
       try simp only [hb_26]
       refine wpR_run 32 rfl ?_
       refine wpR_nil (QE_then_n (wpC_ret ?_))
       cases h
       exact QE_ret1 rfl rfl ⟨rfl, hS.pick [] (by decide) rfl⟩
     case false =>
      have h := if_f h hb_25
      try simp only [hb_25]
      refine wpR_run 36 rfl ?_
      refine wpR_nil (QE_then_n (wpC_ret ?_))
      cases h
      exact QE_ret1 rfl rfl ⟨rfl, hS.pick [] (by decide) rfl⟩
    case false =>
     have h := if_f h hb_24
     try simp only [hb_24]
     refine wpR_run 40 rfl ?_
     refine wpR_nil (QE_then_n (wpC_ret ?_))
     cases h
     exact QE_ret1 rfl rfl ⟨rfl, hS.pick [] (by decide) rfl⟩
   case false =>
    have h := if_f h hb_23
    try simp only [hb_23]
    refine wpR_run 44 rfl ?_
    refine wpR_nil (QE_then_n (wpC_ret ?_))
    cases h
    exact QE_ret1 rfl rfl ⟨rfl, hS.pick [] (by decide) rfl⟩
  case false =>
   have h := if_f h hb_22
   try simp only [hb_22]
   refine wpR_run 48 rfl ?_
   refine wpR_nil (QE_then_n (wpC_ret ?_))
   cases h
   exact QE_ret1 rfl rfl ⟨rfl, hS.pick [] (by decide) rfl⟩
 case false =>
  have h := if_f h hb_21
  try simp only [hb_21]
  refine wpR_run 52 rfl ?_
  refine wpR_nil (QE_then_n (wpC_ret ?_))
  cases h
  exact QE_ret1 rfl rfl ⟨rfl, hS.pick [] (by decide) rfl⟩
theorem c_law18_JwsSplits (w0 : World) (a0 : List UInt8)  (hT : TB [] w0) (r : Bool)
  (h : F.law18_JwsSplits a0 = some r) : Calls Tryz.prog 5 #[vS a0] w0 (Ret fun v w => v = vB r ∧ St [] w0 w []) := by
 refine calls_at 87 Tryz.func5 rfl rfl rfl ?_
 have hS := St.start w0
 refine wpC_le [(0, vS a0)] ⟨rfl, trivial⟩ ?_
 unfold F.law18_JwsSplits at h
 refine wpC_seq (wpC_region (wpR_run 1 rfl ?_))
 refine wpR_nil (QE_then_n (wpC_seq (wpC_seq (wpC_region ?_))))
 obtain ⟨x_1, hx_1, h⟩ := obind_some h
 refine wpR_call (by kernel_rfl) rfl (c_law18_alive _    (hT.now hS.fr) _ hx_1) rfl ?_
 rintro _ w ⟨rfl, hS1⟩
 have hS := hS.call hS1
 simp only [List.cons_append, List.nil_append] at hS
 refine wpR_run 1 rfl ?_
 refine wpR_nil (QE_then_n ?_)
 refine wpC_cond rfl (fun hb_37 => ?_) (fun hb_37 => ?_)
 ·have h := if_t h hb_37
  refine wpC_seq (wpC_region (wpR_run 1 rfl ?_))
  refine wpR_nil (QE_then_n (wpC_ret (QE_then_r ?_)))
  cases h
  exact QE_ret1 rfl rfl ⟨rfl, hS⟩
 have h := if_f h hb_37
 refine wpC_skip (QE_then_n (wpC_seq (wpC_region (wpR_run 1 rfl ?_))))
 obtain ⟨x_2, hx_2, h⟩ := obind_some h
 refine wpR_call (by kernel_rfl) rfl (c_jws_Split _ a0    _ hx_2) rfl ?_
 rintro _ w ⟨rfl, hS1⟩
 have hS := hS.call hS1
 simp only [List.cons_append, List.nil_append] at hS
 refine wpR_run 9 rfl ?_
 refine wpR_nil (QE_then_n (wpC_seq (wpC_region (wpR_run 1 rfl ?_))))
 refine wpR_nil (QE_then_n (wpC_seq (wpC_seq (wpC_region (wpR_run 1 rfl ?_)))))
 refine wpR_nil (QE_then_n (wpC_block ?_))
 refine wpC_le [(0, vS a0), (3, vS x_2.1), (4, vS x_2.2.1), (5, vS x_2.2.2.1), (6, vI x_2.2.2.2), (7, vI 0), (8, vI 0)] ⟨rfl, rfl, rfl, rfl, rfl, rfl, rfl, trivial⟩ ?_
 refine loop_ind (F.law18_JwsSplits_L1 a0 x_2) (fun (s : Int × Int) L w => L = [(0, vS a0), (3, vS x_2.1), (4, vS x_2.2.1), (5, vS x_2.2.2.1), (6, vI x_2.2.2.2), (7, vI s.1), (8, vI s.2)] ∧ St [] w0 w []) ?_ (0, 0) ⟨rfl, hS⟩ h
 rintro k_36 ⟨x_3, x_4⟩ L w q_7 hI ih_6 h hk_5
 try dsimp only at hI
 obtain ⟨rfl, hS⟩ := hI
 unfold F.law18_JwsSplits_L1 at h
 refine wpC_seq (wpC_seq (wpC_region (wpR_run 2 rfl ?_)))
 refine wpR_v (OpV_lenS Tryz.underlying9 rfl) rfl ?_
 refine wpR_run 1 rfl ?_
 refine wpR_nil (QE_then_n ?_)
 refine wpC_cond rfl (fun hb_35 => ?_) (fun hb_35 => ?_)
 ·have h := if_t h hb_35
  refine wpC_skip (QE_then_n ?_)
  refine seq_join (r := q_7) (fun (g : Int) L w => L = [(0, vS a0), (3, vS x_2.1), (4, vS x_2.2.1), (5, vS x_2.2.2.1), (6, vI x_2.2.2.2), (7, vI g), (8, vI x_4)] ∧ St [] w0 w []) (F.law18_JwsSplits_K1 x_4) ?_ ?_
  rotate_left
  ·intro hK_11
   refine wpC_block ?_
   refine wpC_seq (wpC_region (wpR_run 2 rfl ?_))
   obtain ⟨x_8, hx_8, h⟩ := obind_some h
   refine wpR_v (G_ixS Tryz.underlying9 rfl rfl hx_8) rfl ?_
   refine wpR_v (OpV_bin rfl rfl (b_eql8 _ x_8 46)) rfl ?_
   refine wpR_nil (QE_then_n ?_)
   refine wpC_cond rfl (fun hb_9 => ?_) (fun hb_9 => ?_)
   ·have h := if_t h hb_9
    refine wpC_region (wpR_run 3 rfl ?_)
    refine wpR_nil (QE_blk_n ?_)
    refine QE_then_n ?_
    exact wpC_le _ (by exact ⟨rfl, rfl, rfl, rfl, rfl, rfl, rfl, trivial⟩) (hK_11 (wI (x_3 + 1)) _ _ ⟨rfl, hS⟩ h)
   have h := if_f h hb_9
   refine wpC_skip (QE_blk_n ?_)
   refine QE_then_n ?_
   exact wpC_le _ (by exact ⟨rfl, rfl, rfl, rfl, rfl, rfl, rfl, trivial⟩) (hK_11 x_3 _ _ ⟨rfl, hS⟩ h)
  rintro x_10 L w hJ h
  try dsimp only at hJ
  obtain ⟨rfl, hS⟩ := hJ
  unfold F.law18_JwsSplits_K1 at h
  refine wpC_region (wpR_run 3 rfl ?_)
  refine wpR_nil ?_
  exact QE_rnd (wpN_le _ (by exact ⟨rfl, rfl, rfl, rfl, rfl, rfl, rfl, trivial⟩) (ih_6 (x_10, wI (x_4 + 1)) _ _ ⟨rfl, hS⟩ (oinl_some h hk_5)))
 have h := if_f h hb_35
 refine wpC_exit ?_
 refine QE_then_x (QE_then_x ?_)
 have h := oinr_some h hk_5
 refine QE_blk_x ?_
 refine QE_then_n (wpC_seq (wpC_block ?_))
 refine wpC_seq (wpC_region (wpR_run 1 rfl ?_))
 refine wpR_v (OpV_lenS Tryz.underlying9 rfl) rfl ?_
 refine wpR_run 2 rfl ?_
 refine wpR_nil (QE_then_n ?_)
 refine wpC_cond rfl (fun hb_34 => ?_) (fun hb_34 => ?_)
 ·have h := if_t h hb_34
  refine wpC_seq (wpC_region (wpR_run 3 rfl ?_))
  cases hb_12 : (x_2.2.2.2 == 10)
  case true =>
   have h := if_t h hb_12
   try simp only [hb_12]
   refine wpR_run 2 rfl ?_
   obtain ⟨x_13, hx_13, h⟩ := obind_some h
   refine wpR_gv (t := 38) rfl rfl (OpV_bin rfl rfl (G_sadd _ hx_13)) rfl ?_
   refine wpR_run 1 rfl ?_
   obtain ⟨x_14, hx_14, h⟩ := obind_some h
   refine wpR_gv (t := 38) rfl rfl (OpV_bin rfl rfl (G_sadd _ hx_14)) rfl ?_
   refine wpR_gv (t := 38) rfl rfl (OpV_bin rfl rfl (b_seql _ x_14 [])) rfl ?_
   refine wpR_run 2 rfl ?_
   refine wpR_nil (QE_then_n (wpC_ret (QE_blk_r ?_)))
   refine QE_then_r ?_
   cases h
   exact QE_ret1 rfl rfl ⟨rfl, hS⟩
  case false =>
   have h := if_f h hb_12
   try simp only [hb_12]
   refine wpR_run 8 rfl ?_
   refine wpR_nil (QE_then_n (wpC_ret (QE_blk_r ?_)))
   refine QE_then_r ?_
   cases h
   exact QE_ret1 rfl rfl ⟨rfl, hS⟩
 have h := if_f h hb_34
 refine wpC_seq (wpC_region (wpR_run 3 rfl ?_))
 refine wpR_nil (QE_then_n ?_)
 refine wpC_cond rfl (fun hb_33 => ?_) (fun hb_33 => ?_)
 ·have h := if_t h hb_33
  refine wpC_seq (wpC_region (wpR_run 3 rfl ?_))
  cases hb_15 : (x_2.2.2.2 == 120)
  case true =>
   have h := if_t h hb_15
   try simp only [hb_15]
   refine wpR_run 2 rfl ?_
   obtain ⟨x_16, hx_16, h⟩ := obind_some h
   refine wpR_gv (t := 51) rfl rfl (OpV_bin rfl rfl (G_sadd _ hx_16)) rfl ?_
   refine wpR_run 1 rfl ?_
   obtain ⟨x_17, hx_17, h⟩ := obind_some h
   refine wpR_gv (t := 51) rfl rfl (OpV_bin rfl rfl (G_sadd _ hx_17)) rfl ?_
   refine wpR_gv (t := 51) rfl rfl (OpV_bin rfl rfl (b_seql _ x_17 [])) rfl ?_
   refine wpR_run 2 rfl ?_
   refine wpR_nil (QE_then_n (wpC_ret (QE_blk_r ?_)))
   refine QE_then_r ?_
   cases h
   exact QE_ret1 rfl rfl ⟨rfl, hS⟩
  case false =>
   have h := if_f h hb_15
   try simp only [hb_15]
   refine wpR_run 8 rfl ?_
   refine wpR_nil (QE_then_n (wpC_ret (QE_blk_r ?_)))
   refine QE_then_r ?_
   cases h
   exact QE_ret1 rfl rfl ⟨rfl, hS⟩
 have h := if_f h hb_33
 refine wpC_skip (QE_blk_n ?_)
 refine QE_then_n (wpC_seq (wpC_region (wpR_run 2 rfl ?_)))
 obtain ⟨x_18, hx_18, h⟩ := obind_some h
 refine wpR_v (OpV_bin rfl rfl (G_sadd _ hx_18)) rfl ?_
 refine wpR_run 1 rfl ?_
 obtain ⟨x_19, hx_19, h⟩ := obind_some h
 refine wpR_v (OpV_bin rfl rfl (G_sadd _ hx_19)) rfl ?_
 refine wpR_run 1 rfl ?_
 refine wpR_nil (QE_then_n (wpC_seq (wpC_seq (wpC_region (wpR_run 1 rfl ?_)))))
 refine wpR_nil (QE_then_n (wpC_block ?_))
 refine wpC_le [(0, vS a0), (3, vS x_2.1), (4, vS x_2.2.1), (5, vS x_2.2.2.1), (6, vI x_2.2.2.2), (9, vS x_19), (10, vI 0)] ⟨rfl, rfl, rfl, rfl, rfl, rfl, rfl, trivial⟩ ?_
 refine loop_ind (F.law18_JwsSplits_L2 a0 x_2 x_19) (fun (s : Int) L w => L = [(0, vS a0), (3, vS x_2.1), (4, vS x_2.2.1), (5, vS x_2.2.2.1), (6, vI x_2.2.2.2), (9, vS x_19), (10, vI s)] ∧ St [] w0 w []) ?_ 0 ⟨rfl, hS⟩ h
 rintro k_32 x_20 L w q_23 hI ih_22 h hk_21
 try dsimp only at hI
 obtain ⟨rfl, hS⟩ := hI
 unfold F.law18_JwsSplits_L2 at h
 refine wpC_seq (wpC_seq (wpC_region (wpR_run 2 rfl ?_)))
 refine wpR_v (OpV_lenS Tryz.underlying9 rfl) rfl ?_
 refine wpR_run 1 rfl ?_
 refine wpR_nil (QE_then_n ?_)
 refine wpC_cond rfl (fun hb_31 => ?_) (fun hb_31 => ?_)
 ·have h := if_t h hb_31
  refine wpC_skip (QE_then_n (wpC_seq (wpC_block ?_)))
  refine wpC_seq (wpC_region (wpR_run 2 rfl ?_))
  obtain ⟨x_24, hx_24, h⟩ := obind_some h
  refine wpR_v (G_ixS Tryz.underlying9 rfl rfl hx_24) rfl ?_
  refine wpR_v (OpV_bin rfl rfl (b_eql8 _ x_24 46)) rfl ?_
  refine wpR_nil (QE_then_n ?_)
  refine wpC_cond rfl (fun hb_25 => ?_) (fun hb_25 => ?_)
  ·have h := if_t h hb_25
   refine wpC_seq (wpC_region (wpR_run 1 rfl ?_))
   refine wpR_nil (QE_then_n (wpC_ret (QE_blk_r ?_)))
   refine QE_then_r (QE_then_r ?_)
   have h := oinr_some h hk_21
   refine QE_blk_r ?_
   refine QE_then_r ?_
   cases h
   exact QE_ret1 rfl rfl ⟨rfl, hS⟩
  have h := if_f h hb_25
  refine wpC_skip (QE_blk_n ?_)
  refine QE_then_n (wpC_region (wpR_run 3 rfl ?_))
  refine wpR_nil ?_
  exact QE_rnd (wpN_le _ (by exact ⟨rfl, rfl, rfl, rfl, rfl, rfl, rfl, trivial⟩) (ih_22 (wI (x_20 + 1)) _ _ ⟨rfl, hS⟩ (oinl_some h hk_21)))
 have h := if_f h hb_31
 refine wpC_exit ?_
 refine QE_then_x (QE_then_x ?_)
 have h := oinr_some h hk_21
 refine QE_blk_x ?_
 refine QE_then_n (wpC_seq (wpC_region (wpR_run 3 rfl ?_)))
 cases hb_26 : (x_2.2.2.2 == 0)
 case true =>
  have h := if_t h hb_26
  try simp only [hb_26]
  refine wpR_run 1 rfl ?_
  obtain ⟨x_27, hx_27, h⟩ := obind_some h
  refine wpR_gv (t := 76) rfl rfl (OpV_bin rfl rfl (G_sadd _ hx_27)) rfl ?_
  refine wpR_run 1 rfl ?_
  obtain ⟨x_28, hx_28, h⟩ := obind_some h
  refine wpR_gv (t := 76) rfl rfl (OpV_bin rfl rfl (G_sadd _ hx_28)) rfl ?_
  obtain ⟨x_29, hx_29, h⟩ := obind_some h
  refine wpR_gv (t := 76) rfl rfl (OpV_bin rfl rfl (G_sadd _ hx_29)) rfl ?_
  refine wpR_run 1 rfl ?_
  obtain ⟨x_30, hx_30, h⟩ := obind_some h
  refine wpR_gv (t := 76) rfl rfl (OpV_bin rfl rfl (G_sadd _ hx_30)) rfl ?_
  refine wpR_run 1 rfl ?_
  refine wpR_gv (t := 76) rfl rfl (OpV_bin rfl rfl (b_seql _ x_30 a0)) rfl ?_
  refine wpR_run 2 rfl ?_
  refine wpR_nil (QE_then_n (wpC_ret ?_))
  cases h
  exact QE_ret1 rfl rfl ⟨rfl, hS⟩
 case false =>
  have h := if_f h hb_26
  try simp only [hb_26]
  refine wpR_run 11 rfl ?_
  refine wpR_nil (QE_then_n (wpC_ret ?_))
  cases h
  exact QE_ret1 rfl rfl ⟨rfl, hS⟩
end Go.Proofs
