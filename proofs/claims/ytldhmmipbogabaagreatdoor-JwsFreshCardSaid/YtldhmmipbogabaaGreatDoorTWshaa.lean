import Derived.Test.YtldhmmipbogabaaGreatDoorTW0
import Derived.Test.YtldhmmipbogabaaGreatDoorGkFsha
import Derived.Test.YtldhmmipbogabaaGreatDoorTWlib
set_option linter.unusedVariables false
set_option linter.unusedSimpArgs false
set_option linter.unusedVariables false
set_option maxRecDepth 4000
namespace Go.Proofs
open Go Go.RowKit Go.Gk
theorem c_sha_Size (w0 : World) (a0 : Int)   (r : Int)
  (h : F.sha_Size a0 = some r) : Calls Tryz.prog 32 #[vI a0] w0 (Ret fun v w => v = vI r ∧ St [] w0 w []) := by
 refine calls_at 10 Tryz.func32 rfl rfl rfl ?_
 have hS := St.start w0
 refine wpC_le [(0, vI a0)] ⟨rfl, trivial⟩ ?_
 unfold F.sha_Size at h
 refine wpC_seq (wpC_region (wpR_run 1 rfl ?_))
 refine wpR_nil (QE_then_n (wpC_seq (wpC_seq (wpC_region (wpR_run 1 rfl ?_)))))
 refine wpR_nil (QE_then_n (wpC_block ?_))
 refine wpC_seq (wpC_region (wpR_run 2 rfl ?_))
 refine wpR_nil (QE_then_n ?_)
 refine wpC_cond rfl (fun hb_3 => ?_) (fun hb_3 => ?_)
 ·have h := if_t h hb_3
  refine wpC_seq (wpC_region (wpR_run 1 rfl ?_))
  refine wpR_nil (QE_then_n (wpC_ret (QE_blk_r ?_)))
  refine QE_then_r ?_
  cases h
  exact QE_ret1 rfl rfl ⟨rfl, hS⟩
 have h := if_f h hb_3
 refine wpC_seq (wpC_region (wpR_run 2 rfl ?_))
 refine wpR_nil (QE_then_n ?_)
 refine wpC_cond rfl (fun hb_2 => ?_) (fun hb_2 => ?_)
 ·have h := if_t h hb_2
  refine wpC_seq (wpC_region (wpR_run 1 rfl ?_))
  refine wpR_nil (QE_then_n (wpC_ret (QE_blk_r ?_)))
  refine QE_then_r ?_
  cases h
  exact QE_ret1 rfl rfl ⟨rfl, hS⟩
 have h := if_f h hb_2
 refine wpC_seq (wpC_region (wpR_run 2 rfl ?_))
 refine wpR_nil (QE_then_n ?_)
 refine wpC_cond rfl (fun hb_1 => ?_) (fun hb_1 => ?_)
 ·have h := if_t h hb_1
  refine wpC_seq (wpC_region (wpR_run 1 rfl ?_))
  refine wpR_nil (QE_then_n (wpC_ret (QE_blk_r ?_)))
  refine QE_then_r ?_
  cases h
  exact QE_ret1 rfl rfl ⟨rfl, hS⟩
 have h := if_f h hb_1
 refine wpC_skip (QE_blk_n ?_)
 refine QE_then_n (wpC_seq (wpC_region (wpR_run 1 rfl ?_)))
 refine wpR_nil (QE_then_n (wpC_ret ?_))
 cases h
 exact QE_ret1 rfl rfl ⟨rfl, hS⟩
theorem c_sha_Block (w0 : World) (a0 : Int)   (r : Int)
  (h : F.sha_Block a0 = some r) : Calls Tryz.prog 205 #[vI a0] w0 (Ret fun v w => v = vI r ∧ St [] w0 w []) := by
 refine calls_at 9 Tryz.func205 rfl rfl rfl ?_
 have hS := St.start w0
 refine wpC_le [(0, vI a0)] ⟨rfl, trivial⟩ ?_
 unfold F.sha_Block at h
 refine wpC_seq (wpC_region (wpR_run 1 rfl ?_))
 refine wpR_nil (QE_then_n (wpC_seq (wpC_seq (wpC_region (wpR_run 1 rfl ?_)))))
 refine wpR_nil (QE_then_n (wpC_block ?_))
 refine wpC_seq (wpC_region (wpR_run 2 rfl ?_))
 refine wpR_nil (QE_then_n ?_)
 refine wpC_cond rfl (fun hb_5 => ?_) (fun hb_5 => ?_)
 ·have h := if_t h hb_5
  refine wpC_seq (wpC_region (wpR_run 1 rfl ?_))
  refine wpR_nil (QE_then_n (wpC_ret (QE_blk_r ?_)))
  refine QE_then_r ?_
  cases h
  exact QE_ret1 rfl rfl ⟨rfl, hS⟩
 have h := if_f h hb_5
 refine seq_join (r := r) (fun (g : Bool) L w => L = [(6, vB g)] ∧ St [] w0 w []) (F.sha_Block_K1) ?_ ?_
 rotate_left
 ·intro hK_3
  refine wpC_seq (wpC_region (wpR_run 2 rfl ?_))
  refine wpR_nil (QE_then_n ?_)
  refine wpC_cond rfl (fun hb_1 => ?_) (fun hb_1 => ?_)
  ·have h := if_t h hb_1
   refine wpC_skip (QE_then_n ?_)
   exact wpC_le _ (by exact ⟨rfl, trivial⟩) (hK_3 (a0 == 2) _ _ ⟨rfl, hS⟩ h)
  have h := if_f h hb_1
  refine wpC_region (wpR_run 2 rfl ?_)
  refine wpR_nil (QE_then_n ?_)
  exact wpC_le _ (by exact ⟨rfl, trivial⟩) (hK_3 (a0 == 3) _ _ ⟨rfl, hS⟩ h)
 rintro x_2 L w hJ h
 try dsimp only at hJ
 obtain ⟨rfl, hS⟩ := hJ
 unfold F.sha_Block_K1 at h
 refine wpC_cond rfl (fun hb_4 => ?_) (fun hb_4 => ?_)
 ·have h := if_t h hb_4
  refine wpC_seq (wpC_region (wpR_run 1 rfl ?_))
  refine wpR_nil (QE_then_n (wpC_ret (QE_blk_r ?_)))
  refine QE_then_r ?_
  cases h
  exact QE_ret1 rfl rfl ⟨rfl, hS⟩
 have h := if_f h hb_4
 refine wpC_skip (QE_blk_n ?_)
 refine QE_then_n (wpC_seq (wpC_region (wpR_run 1 rfl ?_)))
 refine wpR_nil (QE_then_n (wpC_ret ?_))
 cases h
 exact QE_ret1 rfl rfl ⟨rfl, hS⟩
theorem c_sha_New (w0 : World) (a0 : Int)  (hT : TB [] w0) (r : Option (Int × List UInt32 × List UInt64 × List UInt8 × UInt64))
  (h : F.sha_New a0 = some r) : Calls Tryz.prog 134 #[vI a0] w0 (Ret fun v w => ∃ u0 : Value, v = u0 ∧ oval u0 (r.map (fun c => [vI c.1] ++ (e32.fl c.2.1 ++ (e64.fl c.2.2.1 ++ (e8.fl c.2.2.2.1 ++ [v64 c.2.2.2.2]))))) ∧ (∀ c, r = some c → c.2.1.length = 8 ∧ c.2.2.1.length = 8 ∧ c.2.2.2.1.length = 128) ∧ St [] w0 w (oent u0 (r.map (fun c => [vI c.1] ++ (e32.fl c.2.1 ++ (e64.fl c.2.2.1 ++ (e8.fl c.2.2.2.1 ++ [v64 c.2.2.2.2]))))) ++ [])) := by
 refine calls_at 27 Tryz.func134 rfl rfl rfl ?_
 have hS := St.start w0
 refine wpC_le [(0, vI a0)] ⟨rfl, trivial⟩ ?_
 unfold F.sha_New at h
 refine wpC_seq (wpC_region (wpR_run 1 rfl ?_))
 refine wpR_nil (QE_then_n (wpC_seq (wpC_region (wpR_run 1 rfl ?_))))
 refine wpR_v (OpV_build (vs := [(0, vI a0, [vI a0])]) (cells := [vI a0] ++ (e32.fl (List.replicate 8 0) ++ (e64.fl (List.replicate 8 0) ++ (e8.fl (List.replicate 128 0) ++ [v64 0])))) rfl lay198 ⟨rfl, trivial⟩ (by kernel_rfl)) rfl ?_
 refine wpR_x (OpX_box (cs := [vI a0] ++ (e32.fl (List.replicate 8 0) ++ (e64.fl (List.replicate 8 0) ++ (e8.fl (List.replicate 128 0) ++ [v64 0])))) rfl rfl hS) rfl ?_
 rintro _ w ⟨b_1, rfl, hS⟩
 refine wpR_run 1 rfl ?_
 refine wpR_nil (QE_then_n ?_)
 refine seq_join (r := r) (fun (g : List UInt32 × List UInt64) L w => L = [(3, pB b_1 0)] ∧ g.1.length = 8 ∧ g.2.length = 8 ∧ St [] w0 w [OE.bx b_1 ([vI a0] ++ (e32.fl g.1 ++ (e64.fl g.2 ++ (e8.fl (List.replicate 128 0) ++ [v64 0]))))]) (F.sha_New_K1 a0) ?_ ?_
 rotate_left
 ·intro hK_10
  refine wpC_seq (wpC_region (wpR_run 1 rfl ?_))
  refine wpR_nil (QE_then_n (wpC_block ?_))
  refine wpC_seq (wpC_region (wpR_run 2 rfl ?_))
  refine wpR_nil (QE_then_n ?_)
  refine wpC_cond rfl (fun hb_5 => ?_) (fun hb_5 => ?_)
  ·have h := if_t h hb_5
   refine wpC_region (wpR_run 1 rfl ?_)
   refine wpR_v (OpV_ldA (us := e32.fl F.tab_sha_start256) Tryz.underlying174 rfl sz174 (fl_len1 (show F.tab_sha_start256.length = 8 from rfl) rfl) rfl (hT.sha_start256.cells hS.fr)) rfl ?_
   refine wpR_v (OpV_nilB rfl) rfl ?_
   refine wpR_v (OpV_fieldB (k := 1) Tryz.underlying198 rfl rfl nz174 rfl) rfl ?_
   refine wpR_y (OpY_stU (m := 8) (xs := e32.fl (List.replicate 8 0)) (xs' := e32.fl F.tab_sha_start256) (i := 0) rfl sz174 rfl rfl rfl (Up.skip (k := 1) rfl Up.here rfl) (fl_len1 List.length_replicate rfl) (fl_len1 (show F.tab_sha_start256.length = 8 from rfl) rfl) one_fl hS) ?_
   intro w hS
   replace hS : St _ w0 w [OE.bx b_1 ([vI a0] ++ (e32.fl F.tab_sha_start256 ++ (e64.fl (List.replicate 8 0) ++ (e8.fl (List.replicate 128 0) ++ [v64 0]))))] := hS
   refine wpR_nil (QE_blk_n ?_)
   refine QE_then_n ?_
   exact wpC_le _ (by exact ⟨rfl, trivial⟩) (hK_10 (F.tab_sha_start256, (List.replicate 8 0)) _ _ ⟨rfl, (show F.tab_sha_start256.length = 8 from rfl), List.length_replicate, hS⟩ h)
  have h := if_f h hb_5
  refine wpC_seq (wpC_region (wpR_run 2 rfl ?_))
  refine wpR_nil (QE_then_n ?_)
  refine wpC_cond rfl (fun hb_4 => ?_) (fun hb_4 => ?_)
  ·have h := if_t h hb_4
   refine wpC_region (wpR_run 1 rfl ?_)
   refine wpR_v (OpV_ldA (us := e64.fl F.tab_sha_start384) Tryz.underlying191 rfl sz191 (fl_len1 (show F.tab_sha_start384.length = 8 from rfl) rfl) rfl (hT.sha_start384.cells hS.fr)) rfl ?_
   refine wpR_v (OpV_nilB rfl) rfl ?_
   refine wpR_v (OpV_fieldB (k := 9) Tryz.underlying198 rfl rfl nz191 rfl) rfl ?_
   refine wpR_y (OpY_stU (m := 8) (xs := e64.fl (List.replicate 8 0)) (xs' := e64.fl F.tab_sha_start384) (i := 0) rfl sz191 rfl rfl rfl (Up.skip (k := 1) rfl (Up.skip (k := 8) (fl_len1 List.length_replicate rfl) Up.here rfl) rfl) (fl_len1 List.length_replicate rfl) (fl_len1 (show F.tab_sha_start384.length = 8 from rfl) rfl) one_fl hS) ?_
   intro w hS
   replace hS : St _ w0 w [OE.bx b_1 ([vI a0] ++ (e32.fl (List.replicate 8 0) ++ (e64.fl F.tab_sha_start384 ++ (e8.fl (List.replicate 128 0) ++ [v64 0]))))] := hS
   refine wpR_nil (QE_blk_n ?_)
   refine QE_then_n ?_
   exact wpC_le _ (by exact ⟨rfl, trivial⟩) (hK_10 ((List.replicate 8 0), F.tab_sha_start384) _ _ ⟨rfl, List.length_replicate, (show F.tab_sha_start384.length = 8 from rfl), hS⟩ h)
  have h := if_f h hb_4
  refine wpC_seq (wpC_region (wpR_run 2 rfl ?_))
  refine wpR_nil (QE_then_n ?_)
  refine wpC_cond rfl (fun hb_3 => ?_) (fun hb_3 => ?_)
  ·have h := if_t h hb_3
   refine wpC_region (wpR_run 1 rfl ?_)
   refine wpR_v (OpV_ldA (us := e64.fl F.tab_sha_start512) Tryz.underlying191 rfl sz191 (fl_len1 (show F.tab_sha_start512.length = 8 from rfl) rfl) rfl (hT.sha_start512.cells hS.fr)) rfl ?_
   refine wpR_v (OpV_nilB rfl) rfl ?_
   refine wpR_v (OpV_fieldB (k := 9) Tryz.underlying198 rfl rfl nz191 rfl) rfl ?_
   refine wpR_y (OpY_stU (m := 8) (xs := e64.fl (List.replicate 8 0)) (xs' := e64.fl F.tab_sha_start512) (i := 0) rfl sz191 rfl rfl rfl (Up.skip (k := 1) rfl (Up.skip (k := 8) (fl_len1 List.length_replicate rfl) Up.here rfl) rfl) (fl_len1 List.length_replicate rfl) (fl_len1 (show F.tab_sha_start512.length = 8 from rfl) rfl) one_fl hS) ?_
   intro w hS
   replace hS : St _ w0 w [OE.bx b_1 ([vI a0] ++ (e32.fl (List.replicate 8 0) ++ (e64.fl F.tab_sha_start512 ++ (e8.fl (List.replicate 128 0) ++ [v64 0]))))] := hS
   refine wpR_nil (QE_blk_n ?_)
   refine QE_then_n ?_
   exact wpC_le _ (by exact ⟨rfl, trivial⟩) (hK_10 ((List.replicate 8 0), F.tab_sha_start512) _ _ ⟨rfl, List.length_replicate, (show F.tab_sha_start512.length = 8 from rfl), hS⟩ h)
  have h := if_f h hb_3
  refine wpC_seq (wpC_region (wpR_run 1 rfl ?_))
  refine wpR_nil (QE_then_n (wpC_ret (QE_blk_r ?_)))
  refine QE_then_r ?_
  cases h
  exact QE_ret1 rfl rfl ⟨.pointer none, rfl, rfl, (fun c hc => by cases hc), hS.pick [] (by decide) rfl⟩
 rintro ⟨x_6, x_8⟩ L w hJ h
 try dsimp only at hJ
 obtain ⟨rfl, hL_7, hL_9, hS⟩ := hJ
 unfold F.sha_New_K1 at h
 refine wpC_seq (wpC_region (wpR_run 2 rfl ?_))
 refine wpR_nil (QE_then_n (wpC_ret ?_))
 cases h
 exact QE_ret1 rfl rfl ⟨pB b_1 0, rfl, ⟨_, rfl⟩, (fun c hc => by cases hc; exact ⟨hL_7, hL_9, List.length_replicate⟩), hS.pick [0] (by decide) rfl⟩
theorem c_sha_State_block32 (w0 : World) (a0_0 : Int) (a0_1 : List UInt32) (a0_2 : List UInt64) (a0_3 : List UInt8) (a0_4 : UInt64) (ba0 : Nat) (S : List Nat) (hS : St S w0 w0 [OE.bx ba0 ([vI a0_0] ++ (e32.fl a0_1 ++ (e64.fl a0_2 ++ (e8.fl a0_3 ++ [v64 a0_4]))))]) (hT : TB S w0) (ha0_1 : a0_1.length = 8) (ha0_2 : a0_2.length = 8) (ha0_3 : a0_3.length = 128) (r : Int × List UInt32 × List UInt64 × List UInt8 × UInt64)
  (h : F.sha_State_block32 a0_0 a0_1 a0_2 a0_3 a0_4 = some r) : Calls Tryz.prog 266 #[pB ba0 0] w0 (Ret fun v w => v = .tuple #[] ∧ r.2.1.length = 8 ∧ r.2.2.1.length = 8 ∧ r.2.2.2.1.length = 128 ∧ St S w0 w [OE.bx ba0 ([vI r.1] ++ (e32.fl r.2.1 ++ (e64.fl r.2.2.1 ++ (e8.fl r.2.2.2.1 ++ [v64 r.2.2.2.2]))))]) := by
 refine calls_at 221 Tryz.func266 rfl rfl rfl ?_
 refine wpC_le [(0, pB ba0 0)] ⟨rfl, trivial⟩ ?_
 unfold F.sha_State_block32 at h
 refine wpC_seq (wpC_region ?_)
 refine wpR_x (OpX_alloc (cs := e32.fl (List.replicate 64 0)) tz226 (by kernel_rfl) hS) rfl ?_
 rintro _ w ⟨b_2, rfl, hS⟩
 refine wpR_nil (QE_then_n (wpC_seq (wpC_seq (wpC_region (wpR_run 1 rfl ?_)))))
 refine wpR_nil (QE_then_n (wpC_block ?_))
 refine wpC_le [(0, pB ba0 0), (2, pB b_2 0), (21, vI 0)] ⟨rfl, rfl, rfl, trivial⟩ ?_
 refine loop_ind (F.sha_State_block32_L1 a0_3 a0_1 a0_0 a0_2 a0_4) (fun (s : Int × List UInt32) L w => L = [(0, pB ba0 0), (2, pB b_2 0), (21, vI s.1)] ∧ s.2.length = 64 ∧ St S w0 w [OE.bx ba0 ([vI a0_0] ++ (e32.fl a0_1 ++ (e64.fl a0_2 ++ (e8.fl a0_3 ++ [v64 a0_4])))), OE.bx b_2 (e32.fl s.2)]) ?_ (0, (List.replicate 64 0)) ⟨rfl, List.length_replicate, (hS.pick [1, 0] (by decide) rfl)⟩ h
 rintro k_80 ⟨x_4, x_5⟩ L w q_9 hI ih_8 h hk_7
 try dsimp only at hI
 obtain ⟨rfl, hL_6, hS⟩ := hI
 unfold F.sha_State_block32_L1 at h
 refine wpC_seq (wpC_region (wpR_run 1 rfl ?_))
 refine wpR_nil (QE_then_n (wpC_seq ?_))
 refine wpC_cond rfl (fun hb_79 => ?_) (fun hb_79 => ?_)
 ·have h := if_t h hb_79
  refine wpC_skip (QE_then_n (wpC_seq (wpC_block ?_)))
  refine wpC_seq (wpC_region (wpR_run 2 rfl ?_))
  refine wpR_nil (QE_then_n (wpC_seq (wpC_region (wpR_run 1 rfl ?_))))
  refine wpR_v (OpV_nilB rfl) rfl ?_
  refine wpR_v (OpV_fieldB (k := 17) Tryz.underlying198 rfl rfl nz196 rfl) rfl ?_
  refine wpR_run 1 rfl ?_
  refine wpR_v (OpV_bin rfl rfl (b_imul _ 4 x_4)) rfl ?_
  obtain ⟨x_10, hx_10, h⟩ := obind_some h
  refine wpR_v (A_slF (e := e8) Tryz.underlying196 sz5 rfl rfl rfl ha0_3 hx_10) rfl ?_
  refine wpR_run 1 rfl ?_
  refine wpR_nil (QE_then_n ?_)
  refine wpC_regionS (fun w' => St S w0 w' [OE.bx ba0 ([vI a0_0] ++ (e32.fl a0_1 ++ (e64.fl a0_2 ++ (e8.fl a0_3 ++ [v64 a0_4])))), OE.bx b_2 (e32.fl x_5)]) (fun i => !([24].contains i)) hmix (fun _ _ _ hf => hf.2) (fun _ _ hf => hf) (by kernel_rfl) ?_
  have hS := hS.drew
  show lxE _ _ _ _ _ _ _ [0, 1, 2, 3, 4, 5, 6, 7, 8, 9, 10, 11, 12, 13, 14, 15, 16, 17, 18, 19, 20, 21, 22, 23, 24] _ _
  refine lxE_v hS rfl rfl (fun w hF => OpV_move rfl) rfl ?_
  refine lxE_v hS rfl rfl (fun w hF => OpV_move rfl) rfl ?_
  obtain ⟨x_11, hx_11, h⟩ := obind_some h
  refine lxE_v hS rfl rfl (fun w hF => G_ix Tryz.underlying25 ti5 rfl rfl ((hF.bxroA 0 rfl ha0_3 (Up.skip (k := 1) rfl (Up.skip (k := 8) (fl_len1 ha0_1 rfl) (Up.skip (k := 8) (fl_len1 ha0_2 rfl) Up.here rfl) rfl) rfl)).g_sll hx_10) hx_11) rfl ?_
  refine lxE_v hS rfl rfl (fun w hF => G_load Tryz.underlying5 rfl rfl ((hF.bxroA 0 rfl ha0_3 (Up.skip (k := 1) rfl (Up.skip (k := 8) (fl_len1 ha0_1 rfl) (Up.skip (k := 8) (fl_len1 ha0_2 rfl) Up.here rfl) rfl) rfl)).g_sll hx_10) hx_11 rfl) rfl ?_
  refine lxE_v hS rfl rfl (fun w hF => OpV_conv rfl (cv_8_32 Tryz.underlying5 Tryz.underlying134 x_11)) rfl ?_
  refine lxE_v hS rfl rfl (fun w hF => OpV_bin rfl rfl (b_shl32_64 _ x_11.toUInt32 24)) rfl ?_
  refine lxE_v hS rfl rfl (fun w hF => OpV_move rfl) rfl ?_
  obtain ⟨x_12, hx_12, h⟩ := obind_some h
  refine lxE_v hS rfl rfl (fun w hF => G_ix Tryz.underlying25 ti5 rfl rfl ((hF.bxroA 0 rfl ha0_3 (Up.skip (k := 1) rfl (Up.skip (k := 8) (fl_len1 ha0_1 rfl) (Up.skip (k := 8) (fl_len1 ha0_2 rfl) Up.here rfl) rfl) rfl)).g_sll hx_10) hx_12) rfl ?_
  refine lxE_v hS rfl rfl (fun w hF => G_load Tryz.underlying5 rfl rfl ((hF.bxroA 0 rfl ha0_3 (Up.skip (k := 1) rfl (Up.skip (k := 8) (fl_len1 ha0_1 rfl) (Up.skip (k := 8) (fl_len1 ha0_2 rfl) Up.here rfl) rfl) rfl)).g_sll hx_10) hx_12 rfl) rfl ?_
  refine lxE_v hS rfl rfl (fun w hF => OpV_conv rfl (cv_8_32 Tryz.underlying5 Tryz.underlying134 x_12)) rfl ?_
  refine lxE_v hS rfl rfl (fun w hF => OpV_bin rfl rfl (b_shl32_64 _ x_12.toUInt32 16)) rfl ?_
  refine lxE_v hS rfl rfl (fun w hF => OpV_bin rfl rfl (b_or32 _ (shl32 x_11.toUInt32 24) (shl32 x_12.toUInt32 16))) rfl ?_
  refine lxE_v hS rfl rfl (fun w hF => OpV_move rfl) rfl ?_
  obtain ⟨x_13, hx_13, h⟩ := obind_some h
  refine lxE_v hS rfl rfl (fun w hF => G_ix Tryz.underlying25 ti5 rfl rfl ((hF.bxroA 0 rfl ha0_3 (Up.skip (k := 1) rfl (Up.skip (k := 8) (fl_len1 ha0_1 rfl) (Up.skip (k := 8) (fl_len1 ha0_2 rfl) Up.here rfl) rfl) rfl)).g_sll hx_10) hx_13) rfl ?_
  refine lxE_v hS rfl rfl (fun w hF => G_load Tryz.underlying5 rfl rfl ((hF.bxroA 0 rfl ha0_3 (Up.skip (k := 1) rfl (Up.skip (k := 8) (fl_len1 ha0_1 rfl) (Up.skip (k := 8) (fl_len1 ha0_2 rfl) Up.here rfl) rfl) rfl)).g_sll hx_10) hx_13 rfl) rfl ?_
  refine lxE_v hS rfl rfl (fun w hF => OpV_conv rfl (cv_8_32 Tryz.underlying5 Tryz.underlying134 x_13)) rfl ?_
  refine lxE_v hS rfl rfl (fun w hF => OpV_bin rfl rfl (b_shl32_64 _ x_13.toUInt32 8)) rfl ?_
  refine lxE_v hS rfl rfl (fun w hF => OpV_bin rfl rfl (b_or32 _ ((shl32 x_11.toUInt32 24) ||| (shl32 x_12.toUInt32 16)) (shl32 x_13.toUInt32 8))) rfl ?_
  refine lxE_v hS rfl rfl (fun w hF => OpV_move rfl) rfl ?_
  obtain ⟨x_14, hx_14, h⟩ := obind_some h
  refine lxE_v hS rfl rfl (fun w hF => G_ix Tryz.underlying25 ti5 rfl rfl ((hF.bxroA 0 rfl ha0_3 (Up.skip (k := 1) rfl (Up.skip (k := 8) (fl_len1 ha0_1 rfl) (Up.skip (k := 8) (fl_len1 ha0_2 rfl) Up.here rfl) rfl) rfl)).g_sll hx_10) hx_14) rfl ?_
  refine lxE_v hS rfl rfl (fun w hF => G_load Tryz.underlying5 rfl rfl ((hF.bxroA 0 rfl ha0_3 (Up.skip (k := 1) rfl (Up.skip (k := 8) (fl_len1 ha0_1 rfl) (Up.skip (k := 8) (fl_len1 ha0_2 rfl) Up.here rfl) rfl) rfl)).g_sll hx_10) hx_14 rfl) rfl ?_
  refine lxE_v hS rfl rfl (fun w hF => OpV_conv rfl (cv_8_32 Tryz.underlying5 Tryz.underlying134 x_14)) rfl ?_
  refine lxE_v hS rfl rfl (fun w hF => OpV_bin rfl rfl (b_or32 _ (((shl32 x_11.toUInt32 24) ||| (shl32 x_12.toUInt32 16)) ||| (shl32 x_13.toUInt32 8)) x_14.toUInt32)) rfl ?_
  obtain ⟨x_15, hx_15, h⟩ := obind_some h
  refine lxE_v hS rfl rfl (fun w hF => OpV_ixO Tryz.underlying226 sz134 rfl rfl (getO_bd hx_15 hL_6)) rfl ?_
  refine lxE_y hS rfl rfl (OpY_stU (m := 1) rfl sz134 rfl rfl rfl (Up.elt (t' := ((((shl32 x_11.toUInt32 24) ||| (shl32 x_12.toUInt32 16)) ||| (shl32 x_13.toUInt32 8)) ||| x_14.toUInt32)) Up.last hx_15 rfl rfl) rfl rfl (one_one rfl) hS (i := 1)) ?_
  intro w hS
  replace hS : St _ w0 w [OE.bx ba0 ([vI a0_0] ++ (e32.fl a0_1 ++ (e64.fl a0_2 ++ (e8.fl a0_3 ++ [v64 a0_4])))), OE.bx b_2 (e32.fl (x_5.set (x_4 : Int).toNat ((((shl32 x_11.toUInt32 24) ||| (shl32 x_12.toUInt32 16)) ||| (shl32 x_13.toUInt32 8)) ||| x_14.toUInt32)))] := hS
  obtain ⟨x_16, hx_16, h⟩ := olet_some h
  rw [hx_16] at hS
  refine lxE_nil trivial ?_
  refine QE_blk_n ?_
  refine QE_then_n (wpC_region (wpR_run 2 rfl ?_))
  refine wpR_nil ?_
  exact QE_rnd (wpN_le _ (by exact ⟨rfl, rfl, rfl, trivial⟩) (ih_8 (wI (x_4 + 1), x_16) _ _ ⟨rfl, (by rw [← hx_16, List.length_set]; exact hL_6), hS⟩ (oinl_some h hk_7)))
 have h := if_f h hb_79
 refine wpC_exit ?_
 refine QE_then_x (QE_then_x ?_)
 have h := oinr_some h hk_7
 refine QE_blk_x ?_
 refine QE_then_n (wpC_seq (wpC_seq (wpC_region (wpR_run 1 rfl ?_))))
 refine wpR_nil (QE_then_n (wpC_block ?_))
 refine wpC_le [(0, pB ba0 0), (2, pB b_2 0), (5, vI 16)] ⟨rfl, rfl, rfl, trivial⟩ ?_
 refine loop_ind (F.sha_State_block32_L2 a0_1 a0_0 a0_2 a0_3 a0_4) (fun (s : Int × List UInt32) L w => L = [(0, pB ba0 0), (2, pB b_2 0), (5, vI s.1)] ∧ s.2.length = 64 ∧ St S w0 w [OE.bx ba0 ([vI a0_0] ++ (e32.fl a0_1 ++ (e64.fl a0_2 ++ (e8.fl a0_3 ++ [v64 a0_4])))), OE.bx b_2 (e32.fl s.2)]) ?_ (16, x_5) ⟨rfl, hL_6, hS⟩ h
 rintro k_78 ⟨x_17, x_18⟩ L w q_22 hI ih_21 h hk_20
 try dsimp only at hI
 obtain ⟨rfl, hL_19, hS⟩ := hI
 unfold F.sha_State_block32_L2 at h
 refine wpC_seq (wpC_seq (wpC_region (wpR_run 2 rfl ?_)))
 refine wpR_nil (QE_then_n ?_)
 refine wpC_cond rfl (fun hb_77 => ?_) (fun hb_77 => ?_)
 ·have h := if_t h hb_77
  refine wpC_skip (QE_then_n (wpC_seq (wpC_block ?_)))
  refine wpC_seq ?_
  refine wpC_regionT (fun w' => St S w0 w' [OE.bx ba0 ([vI a0_0] ++ (e32.fl a0_1 ++ (e64.fl a0_2 ++ (e8.fl a0_3 ++ [v64 a0_4])))), OE.bx b_2 (e32.fl x_18)]) (fun _ => true) hmix (fun _ _ _ hf => hf.2) (fun _ _ hf => hf) (by kernel_rfl) ?_
  have hS := hS.drew
  show lxE _ _ _ _ _ _ _ [0, 1, 2, 3, 4, 5, 6, 7, 8, 9] _ _
  refine lxE_v hS rfl rfl (fun w hF => OpV_move rfl) rfl ?_
  refine lxE_v hS rfl rfl (fun w hF => OpV_bin rfl rfl (b_isub _ x_17 15)) rfl ?_
  obtain ⟨x_23, hx_23, h⟩ := obind_some h
  refine lxE_v hS rfl rfl (fun w hF => OpV_ixO Tryz.underlying226 sz134 rfl rfl (getO_bd hx_23 hL_19)) rfl ?_
  refine lxE_v hS rfl rfl (fun w hF => OpV_ldB Tryz.underlying134 rfl rfl (hF.bxg 1 rfl (Up.elr Up.last hx_23 rfl))) rfl ?_
  refine lxE_v hS rfl rfl (fun w hF => OpV_move rfl) rfl ?_
  refine lxE_v hS rfl rfl (fun w hF => OpV_bin rfl rfl (b_isub _ x_17 2)) rfl ?_
  obtain ⟨x_24, hx_24, h⟩ := obind_some h
  refine lxE_v hS rfl rfl (fun w hF => OpV_ixO Tryz.underlying226 sz134 rfl rfl (getO_bd hx_24 hL_19)) rfl ?_
  refine lxE_v hS rfl rfl (fun w hF => OpV_ldB Tryz.underlying134 rfl rfl (hF.bxg 1 rfl (Up.elr Up.last hx_24 rfl))) rfl ?_
  refine lxE_v hS rfl rfl (fun w hF => OpV_assign rfl) rfl ?_
  refine lxE_v hS rfl rfl (fun w hF => OpV_assign rfl) rfl ?_
  refine lxE_nil hS ?_
  refine QE_then_n ?_
  refine wpC_regionS (fun w' => St S w0 w' [OE.bx ba0 ([vI a0_0] ++ (e32.fl a0_1 ++ (e64.fl a0_2 ++ (e8.fl a0_3 ++ [v64 a0_4])))), OE.bx b_2 (e32.fl x_18)]) (fun i => !([11, 13, 20, 22, 29].contains i)) hmix (fun _ _ _ hf => hf.2) (fun _ _ hf => hf) (by kernel_rfl) ?_
  have hS := hS.drew
  show lxE _ _ _ _ _ _ _ [0, 1, 2, 3, 4, 5, 6, 7, 8, 9, 10, 11, 12, 13, 14, 15, 16, 17, 18, 19, 20, 21, 22, 23, 24, 25, 26, 27, 28, 29] _ _
  refine lxE_v hS rfl rfl (fun w hF => OpV_move rfl) rfl ?_
  refine lxE_v hS rfl rfl (fun w hF => OpV_move rfl) rfl ?_
  refine lxE_v hS rfl rfl (fun w hF => OpV_bin rfl rfl (b_isub _ x_17 16)) rfl ?_
  obtain ⟨x_25, hx_25, h⟩ := obind_some h
  refine lxE_v hS rfl rfl (fun w hF => OpV_ixO Tryz.underlying226 sz134 rfl rfl (getO_bd hx_25 hL_19)) rfl ?_
  refine lxE_v hS rfl rfl (fun w hF => OpV_ldB Tryz.underlying134 rfl rfl (hF.bxg 1 rfl (Up.elr Up.last hx_25 rfl))) rfl ?_
  refine lxE_v hS rfl rfl (fun w hF => OpV_move rfl) rfl ?_
  refine lxE_v hS rfl rfl (fun w hF => OpV_bin rfl rfl (b_isub _ x_17 7)) rfl ?_
  obtain ⟨x_26, hx_26, h⟩ := obind_some h
  refine lxE_v hS rfl rfl (fun w hF => OpV_ixO Tryz.underlying226 sz134 rfl rfl (getO_bd hx_26 hL_19)) rfl ?_
  refine lxE_v hS rfl rfl (fun w hF => OpV_ldB Tryz.underlying134 rfl rfl (hF.bxg 1 rfl (Up.elr Up.last hx_26 rfl))) rfl ?_
  refine lxE_v hS rfl rfl (fun w hF => OpV_bin rfl rfl (b_add32 _ x_25 x_26)) rfl ?_
  refine lxE_v hS rfl rfl (fun w hF => OpV_move rfl) rfl ?_
  obtain ⟨x_27, hx_27, h⟩ := obind_some h
  refine lxE_call hS rfl rfl (by kernel_rfl) rfl (c_math_bits_RotateLeft32 _ x_23 (-7)    _ hx_27) rfl ?_
  rintro _ w ⟨rfl, hS1⟩
  have hS := hS.call hS1
  simp only [List.cons_append, List.nil_append] at hS
  replace hS : St _ w0 w [OE.bx ba0 ([vI a0_0] ++ (e32.fl a0_1 ++ (e64.fl a0_2 ++ (e8.fl a0_3 ++ [v64 a0_4])))), OE.bx b_2 (e32.fl x_18)] := hS
  refine lxE_v hS rfl rfl (fun w hF => OpV_move rfl) rfl ?_
  obtain ⟨x_28, hx_28, h⟩ := obind_some h
  refine lxE_call hS rfl rfl (by kernel_rfl) rfl (c_math_bits_RotateLeft32 _ x_23 (-18)    _ hx_28) rfl ?_
  rintro _ w ⟨rfl, hS1⟩
  have hS := hS.call hS1
  simp only [List.cons_append, List.nil_append] at hS
  replace hS : St _ w0 w [OE.bx ba0 ([vI a0_0] ++ (e32.fl a0_1 ++ (e64.fl a0_2 ++ (e8.fl a0_3 ++ [v64 a0_4])))), OE.bx b_2 (e32.fl x_18)] := hS
  refine lxE_v hS rfl rfl (fun w hF => OpV_bin rfl rfl (b_xor32 _ x_27 x_28)) rfl ?_
  refine lxE_v hS rfl rfl (fun w hF => OpV_move rfl) rfl ?_
  refine lxE_v hS rfl rfl (fun w hF => OpV_bin rfl rfl (b_shr32_64 _ x_23 3)) rfl ?_
  refine lxE_v hS rfl rfl (fun w hF => OpV_bin rfl rfl (b_xor32 _ (x_27 ^^^ x_28) (shr32 x_23 3))) rfl ?_
  refine lxE_v hS rfl rfl (fun w hF => OpV_bin rfl rfl (b_add32 _ (x_25 + x_26) ((x_27 ^^^ x_28) ^^^ (shr32 x_23 3)))) rfl ?_
  refine lxE_v hS rfl rfl (fun w hF => OpV_move rfl) rfl ?_
  obtain ⟨x_29, hx_29, h⟩ := obind_some h
  refine lxE_call hS rfl rfl (by kernel_rfl) rfl (c_math_bits_RotateLeft32 _ x_24 (-17)    _ hx_29) rfl ?_
  rintro _ w ⟨rfl, hS1⟩
  have hS := hS.call hS1
  simp only [List.cons_append, List.nil_append] at hS
  replace hS : St _ w0 w [OE.bx ba0 ([vI a0_0] ++ (e32.fl a0_1 ++ (e64.fl a0_2 ++ (e8.fl a0_3 ++ [v64 a0_4])))), OE.bx b_2 (e32.fl x_18)] := hS
  refine lxE_v hS rfl rfl (fun w hF => OpV_move rfl) rfl ?_
  obtain ⟨x_30, hx_30, h⟩ := obind_some h
  refine lxE_call hS rfl rfl (by kernel_rfl) rfl (c_math_bits_RotateLeft32 _ x_24 (-19)    _ hx_30) rfl ?_
  rintro _ w ⟨rfl, hS1⟩
  have hS := hS.call hS1
  simp only [List.cons_append, List.nil_append] at hS
  replace hS : St _ w0 w [OE.bx ba0 ([vI a0_0] ++ (e32.fl a0_1 ++ (e64.fl a0_2 ++ (e8.fl a0_3 ++ [v64 a0_4])))), OE.bx b_2 (e32.fl x_18)] := hS
  refine lxE_v hS rfl rfl (fun w hF => OpV_bin rfl rfl (b_xor32 _ x_29 x_30)) rfl ?_
  refine lxE_v hS rfl rfl (fun w hF => OpV_move rfl) rfl ?_
  refine lxE_v hS rfl rfl (fun w hF => OpV_bin rfl rfl (b_shr32_64 _ x_24 10)) rfl ?_
  refine lxE_v hS rfl rfl (fun w hF => OpV_bin rfl rfl (b_xor32 _ (x_29 ^^^ x_30) (shr32 x_24 10))) rfl ?_
  refine lxE_v hS rfl rfl (fun w hF => OpV_bin rfl rfl (b_add32 _ ((x_25 + x_26) + ((x_27 ^^^ x_28) ^^^ (shr32 x_23 3))) ((x_29 ^^^ x_30) ^^^ (shr32 x_24 10)))) rfl ?_
  obtain ⟨x_31, hx_31, h⟩ := obind_some h
  refine lxE_v hS rfl rfl (fun w hF => OpV_ixO Tryz.underlying226 sz134 rfl rfl (getO_bd hx_31 hL_19)) rfl ?_
  refine lxE_y hS rfl rfl (OpY_stU (m := 1) rfl sz134 rfl rfl rfl (Up.elt (t' := (((x_25 + x_26) + ((x_27 ^^^ x_28) ^^^ (shr32 x_23 3))) + ((x_29 ^^^ x_30) ^^^ (shr32 x_24 10)))) Up.last hx_31 rfl rfl) rfl rfl (one_one rfl) hS (i := 1)) ?_
  intro w hS
  replace hS : St _ w0 w [OE.bx ba0 ([vI a0_0] ++ (e32.fl a0_1 ++ (e64.fl a0_2 ++ (e8.fl a0_3 ++ [v64 a0_4])))), OE.bx b_2 (e32.fl (x_18.set (x_17 : Int).toNat (((x_25 + x_26) + ((x_27 ^^^ x_28) ^^^ (shr32 x_23 3))) + ((x_29 ^^^ x_30) ^^^ (shr32 x_24 10)))))] := hS
  obtain ⟨x_32, hx_32, h⟩ := olet_some h
  rw [hx_32] at hS
  refine lxE_nil trivial ?_
  refine QE_blk_n ?_
  refine QE_then_n (wpC_region (wpR_run 3 rfl ?_))
  refine wpR_nil ?_
  exact QE_rnd (wpN_le _ (by exact ⟨rfl, rfl, rfl, trivial⟩) (ih_21 (wI (x_17 + 1), x_32) _ _ ⟨rfl, (by rw [← hx_32, List.length_set]; exact hL_19), hS⟩ (oinl_some h hk_20)))
 have h := if_f h hb_77
 refine wpC_exit ?_
 refine QE_then_x (QE_then_x ?_)
 have h := oinr_some h hk_20
 refine QE_blk_x ?_
 refine QE_then_n (wpC_seq ?_)
 refine wpC_regionT (fun w' => St S w0 w' [OE.bx ba0 ([vI a0_0] ++ (e32.fl a0_1 ++ (e64.fl a0_2 ++ (e8.fl a0_3 ++ [v64 a0_4])))), OE.bx b_2 (e32.fl x_18)]) (fun _ => true) hmix (fun _ _ _ hf => hf.2) (fun _ _ hf => hf) (by kernel_rfl) ?_
 have hS := hS.drew
 show lxE _ _ _ _ _ _ _ [0, 1, 2, 3, 4, 5, 6, 7, 8, 9, 10, 11, 12, 13, 14, 15, 16, 17, 18, 19, 20, 21, 22, 23, 24, 25, 26, 27, 28, 29, 30, 31, 32, 33, 34, 35, 36, 37, 38, 39, 40, 41, 42, 43, 44, 45, 46, 47] _ _
 refine lxE_v hS rfl rfl (fun w hF => OpV_move rfl) rfl ?_
 refine lxE_v hS rfl rfl (fun w hF => OpV_nilB rfl) rfl ?_
 refine lxE_v hS rfl rfl (fun w hF => OpV_fieldB (k := 1) Tryz.underlying198 rfl rfl nz174 rfl) rfl ?_
 obtain ⟨x_33, hx_33, h⟩ := obind_some h
 refine lxE_v hS rfl rfl (fun w hF => OpV_ixO Tryz.underlying174 sz134 rfl rfl (getO_bd hx_33 ha0_1)) rfl ?_
 refine lxE_v hS rfl rfl (fun w hF => OpV_ldB Tryz.underlying134 rfl rfl (hF.bxg 0 rfl (Up.elr (Up.skip (k := 1) rfl Up.here rfl) hx_33 rfl))) rfl ?_
 refine lxE_v hS rfl rfl (fun w hF => OpV_move rfl) rfl ?_
 refine lxE_v hS rfl rfl (fun w hF => OpV_nilB rfl) rfl ?_
 refine lxE_v hS rfl rfl (fun w hF => OpV_fieldB (k := 1) Tryz.underlying198 rfl rfl nz174 rfl) rfl ?_
 obtain ⟨x_34, hx_34, h⟩ := obind_some h
 refine lxE_v hS rfl rfl (fun w hF => OpV_ixO Tryz.underlying174 sz134 rfl rfl (getO_bd hx_34 ha0_1)) rfl ?_
 refine lxE_v hS rfl rfl (fun w hF => OpV_ldB Tryz.underlying134 rfl rfl (hF.bxg 0 rfl (Up.elr (Up.skip (k := 1) rfl Up.here rfl) hx_34 rfl))) rfl ?_
 refine lxE_v hS rfl rfl (fun w hF => OpV_move rfl) rfl ?_
 refine lxE_v hS rfl rfl (fun w hF => OpV_nilB rfl) rfl ?_
 refine lxE_v hS rfl rfl (fun w hF => OpV_fieldB (k := 1) Tryz.underlying198 rfl rfl nz174 rfl) rfl ?_
 obtain ⟨x_35, hx_35, h⟩ := obind_some h
 refine lxE_v hS rfl rfl (fun w hF => OpV_ixO Tryz.underlying174 sz134 rfl rfl (getO_bd hx_35 ha0_1)) rfl ?_
 refine lxE_v hS rfl rfl (fun w hF => OpV_ldB Tryz.underlying134 rfl rfl (hF.bxg 0 rfl (Up.elr (Up.skip (k := 1) rfl Up.here rfl) hx_35 rfl))) rfl ?_
 refine lxE_v hS rfl rfl (fun w hF => OpV_move rfl) rfl ?_
 refine lxE_v hS rfl rfl (fun w hF => OpV_nilB rfl) rfl ?_
 refine lxE_v hS rfl rfl (fun w hF => OpV_fieldB (k := 1) Tryz.underlying198 rfl rfl nz174 rfl) rfl ?_
 obtain ⟨x_36, hx_36, h⟩ := obind_some h
 refine lxE_v hS rfl rfl (fun w hF => OpV_ixO Tryz.underlying174 sz134 rfl rfl (getO_bd hx_36 ha0_1)) rfl ?_
 refine lxE_v hS rfl rfl (fun w hF => OpV_ldB Tryz.underlying134 rfl rfl (hF.bxg 0 rfl (Up.elr (Up.skip (k := 1) rfl Up.here rfl) hx_36 rfl))) rfl ?_
 refine lxE_v hS rfl rfl (fun w hF => OpV_move rfl) rfl ?_
 refine lxE_v hS rfl rfl (fun w hF => OpV_nilB rfl) rfl ?_
 refine lxE_v hS rfl rfl (fun w hF => OpV_fieldB (k := 1) Tryz.underlying198 rfl rfl nz174 rfl) rfl ?_
 obtain ⟨x_37, hx_37, h⟩ := obind_some h
 refine lxE_v hS rfl rfl (fun w hF => OpV_ixO Tryz.underlying174 sz134 rfl rfl (getO_bd hx_37 ha0_1)) rfl ?_
 refine lxE_v hS rfl rfl (fun w hF => OpV_ldB Tryz.underlying134 rfl rfl (hF.bxg 0 rfl (Up.elr (Up.skip (k := 1) rfl Up.here rfl) hx_37 rfl))) rfl ?_
 refine lxE_v hS rfl rfl (fun w hF => OpV_move rfl) rfl ?_
 refine lxE_v hS rfl rfl (fun w hF => OpV_nilB rfl) rfl ?_
 refine lxE_v hS rfl rfl (fun w hF => OpV_fieldB (k := 1) Tryz.underlying198 rfl rfl nz174 rfl) rfl ?_
 obtain ⟨x_38, hx_38, h⟩ := obind_some h
 refine lxE_v hS rfl rfl (fun w hF => OpV_ixO Tryz.underlying174 sz134 rfl rfl (getO_bd hx_38 ha0_1)) rfl ?_
 refine lxE_v hS rfl rfl (fun w hF => OpV_ldB Tryz.underlying134 rfl rfl (hF.bxg 0 rfl (Up.elr (Up.skip (k := 1) rfl Up.here rfl) hx_38 rfl))) rfl ?_
 refine lxE_v hS rfl rfl (fun w hF => OpV_move rfl) rfl ?_
 refine lxE_v hS rfl rfl (fun w hF => OpV_nilB rfl) rfl ?_
 refine lxE_v hS rfl rfl (fun w hF => OpV_fieldB (k := 1) Tryz.underlying198 rfl rfl nz174 rfl) rfl ?_
 obtain ⟨x_39, hx_39, h⟩ := obind_some h
 refine lxE_v hS rfl rfl (fun w hF => OpV_ixO Tryz.underlying174 sz134 rfl rfl (getO_bd hx_39 ha0_1)) rfl ?_
 refine lxE_v hS rfl rfl (fun w hF => OpV_ldB Tryz.underlying134 rfl rfl (hF.bxg 0 rfl (Up.elr (Up.skip (k := 1) rfl Up.here rfl) hx_39 rfl))) rfl ?_
 refine lxE_v hS rfl rfl (fun w hF => OpV_move rfl) rfl ?_
 refine lxE_v hS rfl rfl (fun w hF => OpV_nilB rfl) rfl ?_
 refine lxE_v hS rfl rfl (fun w hF => OpV_fieldB (k := 1) Tryz.underlying198 rfl rfl nz174 rfl) rfl ?_
 obtain ⟨x_40, hx_40, h⟩ := obind_some h
 refine lxE_v hS rfl rfl (fun w hF => OpV_ixO Tryz.underlying174 sz134 rfl rfl (getO_bd hx_40 ha0_1)) rfl ?_
 refine lxE_v hS rfl rfl (fun w hF => OpV_ldB Tryz.underlying134 rfl rfl (hF.bxg 0 rfl (Up.elr (Up.skip (k := 1) rfl Up.here rfl) hx_40 rfl))) rfl ?_
 refine lxE_v hS rfl rfl (fun w hF => OpV_assign rfl) rfl ?_
 refine lxE_v hS rfl rfl (fun w hF => OpV_assign rfl) rfl ?_
 refine lxE_v hS rfl rfl (fun w hF => OpV_assign rfl) rfl ?_
 refine lxE_v hS rfl rfl (fun w hF => OpV_assign rfl) rfl ?_
 refine lxE_v hS rfl rfl (fun w hF => OpV_assign rfl) rfl ?_
 refine lxE_v hS rfl rfl (fun w hF => OpV_assign rfl) rfl ?_
 refine lxE_v hS rfl rfl (fun w hF => OpV_assign rfl) rfl ?_
 refine lxE_v hS rfl rfl (fun w hF => OpV_assign rfl) rfl ?_
 refine lxE_nil hS ?_
 refine QE_then_n (wpC_seq (wpC_seq (wpC_region (wpR_run 1 rfl ?_))))
 refine wpR_nil (QE_then_n (wpC_block ?_))
 refine wpC_le [(0, pB ba0 0), (2, pB b_2 0), (8, v32 x_33), (9, v32 x_34), (10, v32 x_35), (11, v32 x_36), (12, v32 x_37), (13, v32 x_38), (14, v32 x_39), (15, v32 x_40), (136, vI 0)] ⟨rfl, rfl, rfl, rfl, rfl, rfl, rfl, rfl, rfl, rfl, rfl, trivial⟩ ?_
 refine loop_ind (F.sha_State_block32_L3 a0_1 x_18 a0_0 a0_2 a0_3 a0_4) (fun (s : UInt32 × UInt32 × UInt32 × UInt32 × UInt32 × UInt32 × UInt32 × UInt32 × Int) L w => L = [(0, pB ba0 0), (2, pB b_2 0), (8, v32 s.1), (9, v32 s.2.1), (10, v32 s.2.2.1), (11, v32 s.2.2.2.1), (12, v32 s.2.2.2.2.1), (13, v32 s.2.2.2.2.2.1), (14, v32 s.2.2.2.2.2.2.1), (15, v32 s.2.2.2.2.2.2.2.1), (136, vI s.2.2.2.2.2.2.2.2)] ∧ St S w0 w [OE.bx ba0 ([vI a0_0] ++ (e32.fl a0_1 ++ (e64.fl a0_2 ++ (e8.fl a0_3 ++ [v64 a0_4])))), OE.bx b_2 (e32.fl x_18)]) ?_ (x_33, x_34, x_35, x_36, x_37, x_38, x_39, x_40, 0) ⟨rfl, hS⟩ h
 rintro k_76 ⟨x_41, x_42, x_43, x_44, x_45, x_46, x_47, x_48, x_49⟩ L w q_52 hI ih_51 h hk_50
 try dsimp only at hI
 obtain ⟨rfl, hS⟩ := hI
 unfold F.sha_State_block32_L3 at h
 refine wpC_seq (wpC_region (wpR_run 1 rfl ?_))
 refine wpR_nil (QE_then_n (wpC_seq ?_))
 refine wpC_cond rfl (fun hb_75 => ?_) (fun hb_75 => ?_)
 ·have h := if_t h hb_75
  refine wpC_skip (QE_then_n (wpC_seq (wpC_block ?_)))
  refine wpC_seq (wpC_region (wpR_run 2 rfl ?_))
  refine wpR_nil (QE_then_n (wpC_seq ?_))
  refine wpC_regionT (fun w' => St S w0 w' [OE.bx ba0 ([vI a0_0] ++ (e32.fl a0_1 ++ (e64.fl a0_2 ++ (e8.fl a0_3 ++ [v64 a0_4])))), OE.bx b_2 (e32.fl x_18)]) (fun i => !([2, 4, 7].contains i)) hmix (fun _ _ _ hf => hf.2) (fun _ _ hf => hf) (by kernel_rfl) ?_
  have hS := hS.drew
  show lxE _ _ _ _ _ _ _ [0, 1, 2, 3, 4, 5, 6, 7, 8, 9, 10, 11, 12, 13, 14, 15, 16, 17, 18, 19, 20, 21, 22, 23, 24, 25, 26] _ _
  refine lxE_v hS rfl rfl (fun w hF => OpV_move rfl) rfl ?_
  refine lxE_v hS rfl rfl (fun w hF => OpV_move rfl) rfl ?_
  obtain ⟨x_53, hx_53, h⟩ := obind_some h
  refine lxE_call hS rfl rfl (by kernel_rfl) rfl (c_math_bits_RotateLeft32 _ x_45 (-6)    _ hx_53) rfl ?_
  rintro _ w ⟨rfl, hS1⟩
  have hS := hS.call hS1
  simp only [List.cons_append, List.nil_append] at hS
  replace hS : St _ w0 w [OE.bx ba0 ([vI a0_0] ++ (e32.fl a0_1 ++ (e64.fl a0_2 ++ (e8.fl a0_3 ++ [v64 a0_4])))), OE.bx b_2 (e32.fl x_18)] := hS
  refine lxE_v hS rfl rfl (fun w hF => OpV_move rfl) rfl ?_
  obtain ⟨x_54, hx_54, h⟩ := obind_some h
  refine lxE_call hS rfl rfl (by kernel_rfl) rfl (c_math_bits_RotateLeft32 _ x_45 (-11)    _ hx_54) rfl ?_
  rintro _ w ⟨rfl, hS1⟩
  have hS := hS.call hS1
  simp only [List.cons_append, List.nil_append] at hS
  replace hS : St _ w0 w [OE.bx ba0 ([vI a0_0] ++ (e32.fl a0_1 ++ (e64.fl a0_2 ++ (e8.fl a0_3 ++ [v64 a0_4])))), OE.bx b_2 (e32.fl x_18)] := hS
  refine lxE_v hS rfl rfl (fun w hF => OpV_bin rfl rfl (b_xor32 _ x_53 x_54)) rfl ?_
  refine lxE_v hS rfl rfl (fun w hF => OpV_move rfl) rfl ?_
  obtain ⟨x_55, hx_55, h⟩ := obind_some h
  refine lxE_call hS rfl rfl (by kernel_rfl) rfl (c_math_bits_RotateLeft32 _ x_45 (-25)    _ hx_55) rfl ?_
  rintro _ w ⟨rfl, hS1⟩
  have hS := hS.call hS1
  simp only [List.cons_append, List.nil_append] at hS
  replace hS : St _ w0 w [OE.bx ba0 ([vI a0_0] ++ (e32.fl a0_1 ++ (e64.fl a0_2 ++ (e8.fl a0_3 ++ [v64 a0_4])))), OE.bx b_2 (e32.fl x_18)] := hS
  refine lxE_v hS rfl rfl (fun w hF => OpV_bin rfl rfl (b_xor32 _ (x_53 ^^^ x_54) x_55)) rfl ?_
  refine lxE_v hS rfl rfl (fun w hF => OpV_bin rfl rfl (b_add32 _ x_48 ((x_53 ^^^ x_54) ^^^ x_55))) rfl ?_
  refine lxE_v hS rfl rfl (fun w hF => OpV_move rfl) rfl ?_
  refine lxE_v hS rfl rfl (fun w hF => OpV_move rfl) rfl ?_
  refine lxE_v hS rfl rfl (fun w hF => OpV_move rfl) rfl ?_
  refine lxE_v hS rfl rfl (fun w hF => OpV_move rfl) rfl ?_
  refine lxE_v hS rfl rfl (fun w hF => OpV_bin rfl rfl (b_xor32 _ x_46 x_47)) rfl ?_
  refine lxE_v hS rfl rfl (fun w hF => OpV_bin rfl rfl (b_and32 _ x_45 (x_46 ^^^ x_47))) rfl ?_
  refine lxE_v hS rfl rfl (fun w hF => OpV_bin rfl rfl (b_xor32 _ x_47 (x_45 &&& (x_46 ^^^ x_47)))) rfl ?_
  refine lxE_v hS rfl rfl (fun w hF => OpV_bin rfl rfl (b_add32 _ (x_48 + ((x_53 ^^^ x_54) ^^^ x_55)) (x_47 ^^^ (x_45 &&& (x_46 ^^^ x_47))))) rfl ?_
  refine lxE_v hS rfl rfl (fun w hF => OpV_move rfl) rfl ?_
  obtain ⟨x_56, hx_56, h⟩ := obind_some h
  refine lxE_v hS rfl rfl (fun w hF => OpV_ixO Tryz.underlying226 sz134 rfl rfl (getO_bd hx_56 (show F.tab_sha_k256.length = 64 from rfl))) rfl ?_
  refine lxE_v hS rfl rfl (fun w hF => OpV_ldB Tryz.underlying134 rfl rfl (hT.sha_k256.cell hF.fr hx_56 rfl)) rfl ?_
  refine lxE_v hS rfl rfl (fun w hF => OpV_bin rfl rfl (b_add32 _ ((x_48 + ((x_53 ^^^ x_54) ^^^ x_55)) + (x_47 ^^^ (x_45 &&& (x_46 ^^^ x_47)))) x_56)) rfl ?_
  refine lxE_v hS rfl rfl (fun w hF => OpV_move rfl) rfl ?_
  obtain ⟨x_57, hx_57, h⟩ := obind_some h
  refine lxE_v hS rfl rfl (fun w hF => OpV_ixO Tryz.underlying226 sz134 rfl rfl (getO_bd hx_57 hL_19)) rfl ?_
  refine lxE_v hS rfl rfl (fun w hF => OpV_ldB Tryz.underlying134 rfl rfl (hF.bxg 1 rfl (Up.elr Up.last hx_57 rfl))) rfl ?_
  refine lxE_v hS rfl rfl (fun w hF => OpV_bin rfl rfl (b_add32 _ (((x_48 + ((x_53 ^^^ x_54) ^^^ x_55)) + (x_47 ^^^ (x_45 &&& (x_46 ^^^ x_47)))) + x_56) x_57)) rfl ?_
  obtain ⟨x_58, hx_58, h⟩ := olet_some h
  refine lxE_v hS rfl rfl (fun w hF => OpV_assign (v := v32 x_58) (by rw [← hx_58]; rfl)) rfl ?_
  refine lxE_nil hS ?_
  refine QE_then_n (wpC_seq (wpC_region (wpR_run 1 rfl ?_)))
  obtain ⟨x_59, hx_59, h⟩ := obind_some h
  refine wpR_call (by kernel_rfl) rfl (c_math_bits_RotateLeft32 _ x_41 (-2)    _ hx_59) rfl ?_
  rintro _ w ⟨rfl, hS1⟩
  have hS := hS.call hS1
  simp only [List.cons_append, List.nil_append] at hS
  replace hS : St _ w0 w [OE.bx ba0 ([vI a0_0] ++ (e32.fl a0_1 ++ (e64.fl a0_2 ++ (e8.fl a0_3 ++ [v64 a0_4])))), OE.bx b_2 (e32.fl x_18)] := hS
  refine wpR_run 1 rfl ?_
  obtain ⟨x_60, hx_60, h⟩ := obind_some h
  refine wpR_call (by kernel_rfl) rfl (c_math_bits_RotateLeft32 _ x_41 (-13)    _ hx_60) rfl ?_
  rintro _ w ⟨rfl, hS1⟩
  have hS := hS.call hS1
  simp only [List.cons_append, List.nil_append] at hS
  replace hS : St _ w0 w [OE.bx ba0 ([vI a0_0] ++ (e32.fl a0_1 ++ (e64.fl a0_2 ++ (e8.fl a0_3 ++ [v64 a0_4])))), OE.bx b_2 (e32.fl x_18)] := hS
  refine wpR_v (OpV_bin rfl rfl (b_xor32 _ x_59 x_60)) rfl ?_
  refine wpR_run 1 rfl ?_
  obtain ⟨x_61, hx_61, h⟩ := obind_some h
  refine wpR_call (by kernel_rfl) rfl (c_math_bits_RotateLeft32 _ x_41 (-22)    _ hx_61) rfl ?_
  rintro _ w ⟨rfl, hS1⟩
  have hS := hS.call hS1
  simp only [List.cons_append, List.nil_append] at hS
  replace hS : St _ w0 w [OE.bx ba0 ([vI a0_0] ++ (e32.fl a0_1 ++ (e64.fl a0_2 ++ (e8.fl a0_3 ++ [v64 a0_4])))), OE.bx b_2 (e32.fl x_18)] := hS
  refine wpR_v (OpV_bin rfl rfl (b_xor32 _ (x_59 ^^^ x_60) x_61)) rfl ?_
  refine wpR_run 2 rfl ?_
  refine wpR_v (OpV_bin rfl rfl (b_and32 _ x_41 x_42)) rfl ?_
  refine wpR_run 3 rfl ?_
  refine wpR_v (OpV_bin rfl rfl (b_or32 _ x_41 x_42)) rfl ?_
  refine wpR_v (OpV_bin rfl rfl (b_and32 _ x_43 (x_41 ||| x_42))) rfl ?_
  refine wpR_v (OpV_bin rfl rfl (b_or32 _ (x_41 &&& x_42) (x_43 &&& (x_41 ||| x_42)))) rfl ?_
  refine wpR_v (OpV_bin rfl rfl (b_add32 _ ((x_59 ^^^ x_60) ^^^ x_61) ((x_41 &&& x_42) ||| (x_43 &&& (x_41 ||| x_42))))) rfl ?_
  obtain ⟨x_62, hx_62, h⟩ := olet_some h
  refine wpR_v (OpV_assign (v := v32 x_62) (by rw [← hx_62]; rfl)) rfl ?_
  refine wpR_nil (QE_then_n (wpC_region (wpR_run 5 rfl ?_)))
  refine wpR_v (OpV_bin rfl rfl (b_add32 _ x_44 x_58)) rfl ?_
  refine wpR_run 5 rfl ?_
  refine wpR_v (OpV_bin rfl rfl (b_add32 _ x_58 x_62)) rfl ?_
  refine wpR_run 8 rfl ?_
  refine wpR_nil (QE_blk_n ?_)
  refine QE_then_n (wpC_region (wpR_run 2 rfl ?_))
  refine wpR_nil ?_
  exact QE_rnd (wpN_le _ (by exact ⟨rfl, rfl, rfl, rfl, rfl, rfl, rfl, rfl, rfl, rfl, rfl, trivial⟩) (ih_51 (x_58 + x_62, x_41, x_42, x_43, x_44 + x_58, x_45, x_46, x_47, wI (x_49 + 1)) _ _ ⟨rfl, hS⟩ (oinl_some h hk_50)))
 have h := if_f h hb_75
 refine wpC_exit ?_
 refine QE_then_x (QE_then_x ?_)
 have h := oinr_some h hk_50
 refine QE_blk_x ?_
 refine QE_then_n (wpC_seq (wpC_region (wpR_run 8 rfl ?_)))
 refine wpR_v (OpV_build (vs := [(0, v32 x_41, [v32 x_41]), (1, v32 x_42, [v32 x_42]), (2, v32 x_43, [v32 x_43]), (3, v32 x_44, [v32 x_44]), (4, v32 x_45, [v32 x_45]), (5, v32 x_46, [v32 x_46]), (6, v32 x_47, [v32 x_47]), (7, v32 x_48, [v32 x_48])]) (cells := [v32 x_41, v32 x_42, v32 x_43, v32 x_44, v32 x_45, v32 x_46, v32 x_47, v32 x_48]) rfl lay174 ⟨rfl, rfl, rfl, rfl, rfl, rfl, rfl, rfl, trivial⟩ (by kernel_rfl)) rfl ?_
 refine wpR_run 1 rfl ?_
 refine wpR_nil (QE_then_n (wpC_block ?_))
 refine wpC_le [(0, pB ba0 0), (204, .agg #[v32 x_41, v32 x_42, v32 x_43, v32 x_44, v32 x_45, v32 x_46, v32 x_47, v32 x_48]), (205, vI 0)] ⟨rfl, rfl, rfl, trivial⟩ ?_
 refine loop_ind (F.sha_State_block32_L4 a0_0 a0_2 a0_3 a0_4 x_41 x_42 x_43 x_44 x_45 x_46 x_47 x_48) (fun (s : Int × List UInt32) L w => L = [(0, pB ba0 0), (204, .agg #[v32 x_41, v32 x_42, v32 x_43, v32 x_44, v32 x_45, v32 x_46, v32 x_47, v32 x_48]), (205, vI s.1)] ∧ s.2.length = 8 ∧ St S w0 w [OE.bx ba0 ([vI a0_0] ++ (e32.fl s.2 ++ (e64.fl a0_2 ++ (e8.fl a0_3 ++ [v64 a0_4]))))]) ?_ (0, a0_1) ⟨rfl, ha0_1, (hS.pick [0] (by decide) rfl)⟩ h
 rintro k_74 ⟨x_63, x_64⟩ L w q_68 hI ih_67 h hk_66
 try dsimp only at hI
 obtain ⟨rfl, hL_65, hS⟩ := hI
 unfold F.sha_State_block32_L4 at h
 refine wpC_seq (wpC_region (wpR_run 1 rfl ?_))
 refine wpR_nil (QE_then_n (wpC_seq ?_))
 refine wpC_cond rfl (fun hb_73 => ?_) (fun hb_73 => ?_)
 ·have h := if_t h hb_73
  refine wpC_skip (QE_then_n (wpC_seq (wpC_block ?_)))
  refine wpC_seq (wpC_region (wpR_run 1 rfl ?_))
  obtain ⟨x_69, hx_69, h⟩ := obind_some h
  refine wpR_v (OpV_ixAO (cs := (e32.fl ([x_41, x_42, x_43, x_44, x_45, x_46, x_47, x_48] : List UInt32)).toArray) Tryz.underlying174 Tryz.underlying134 rfl sz134 rfl rfl (getO_bd hx_69 rfl) (fl_getA hx_69 rfl)) rfl ?_
  refine wpR_run 2 rfl ?_
  refine wpR_nil (QE_then_n ?_)
  refine wpC_regionS (fun w' => St S w0 w' [OE.bx ba0 ([vI a0_0] ++ (e32.fl x_64 ++ (e64.fl a0_2 ++ (e8.fl a0_3 ++ [v64 a0_4]))))]) (fun i => !([11].contains i)) hmix (fun _ _ _ hf => hf.2) (fun _ _ hf => hf) (by kernel_rfl) ?_
  have hS := hS.drew
  show lxE _ _ _ _ _ _ _ [0, 1, 2, 3, 4, 5, 6, 7, 8, 9, 10, 11] _ _
  refine lxE_v hS rfl rfl (fun w hF => OpV_move rfl) rfl ?_
  refine lxE_v hS rfl rfl (fun w hF => OpV_move rfl) rfl ?_
  refine lxE_v hS rfl rfl (fun w hF => OpV_nilB rfl) rfl ?_
  refine lxE_v hS rfl rfl (fun w hF => OpV_fieldB (k := 1) Tryz.underlying198 rfl rfl nz174 rfl) rfl ?_
  obtain ⟨x_70, hx_70, h⟩ := obind_some h
  refine lxE_v hS rfl rfl (fun w hF => OpV_ixO Tryz.underlying174 sz134 rfl rfl (getO_bd hx_70 hL_65)) rfl ?_
  refine lxE_v hS rfl rfl (fun w hF => OpV_ldB Tryz.underlying134 rfl rfl (hF.bxg 0 rfl (Up.elr (Up.skip (k := 1) rfl Up.here rfl) hx_70 rfl))) rfl ?_
  refine lxE_v hS rfl rfl (fun w hF => OpV_move rfl) rfl ?_
  refine lxE_v hS rfl rfl (fun w hF => OpV_bin rfl rfl (b_add32 _ x_70 x_69)) rfl ?_
  refine lxE_v hS rfl rfl (fun w hF => OpV_nilB rfl) rfl ?_
  refine lxE_v hS rfl rfl (fun w hF => OpV_fieldB (k := 1) Tryz.underlying198 rfl rfl nz174 rfl) rfl ?_
  obtain ⟨x_71, hx_71, h⟩ := obind_some h
  refine lxE_v hS rfl rfl (fun w hF => OpV_ixO Tryz.underlying174 sz134 rfl rfl (getO_bd hx_71 hL_65)) rfl ?_
  refine lxE_y hS rfl rfl (OpY_stU (m := 1) rfl sz134 rfl rfl rfl (Up.elt (t' := (x_70 + x_69)) (Up.skip (k := 1) rfl Up.here rfl) hx_71 rfl rfl) rfl rfl (one_one rfl) hS (i := 0)) ?_
  intro w hS
  replace hS : St _ w0 w [OE.bx ba0 ([vI a0_0] ++ (e32.fl (x_64.set (x_63 : Int).toNat (x_70 + x_69)) ++ (e64.fl a0_2 ++ (e8.fl a0_3 ++ [v64 a0_4]))))] := hS
  obtain ⟨x_72, hx_72, h⟩ := olet_some h
  rw [hx_72] at hS
  refine lxE_nil trivial ?_
  refine QE_blk_n ?_
  refine QE_then_n (wpC_region (wpR_run 2 rfl ?_))
  refine wpR_nil ?_
  exact QE_rnd (wpN_le _ (by exact ⟨rfl, rfl, rfl, trivial⟩) (ih_67 (wI (x_63 + 1), x_72) _ _ ⟨rfl, (by rw [← hx_72, List.length_set]; exact hL_65), hS⟩ (oinl_some h hk_66)))
 have h := if_f h hb_73
 refine wpC_exit ?_
 refine QE_then_x (QE_then_x ?_)
 have h := oinr_some h hk_66
 refine QE_blk_x ?_
 cases h
 exact QE_end0 rfl ⟨rfl, hL_65, ha0_2, ha0_3, hS.pick [0] (by decide) rfl⟩
theorem c_sha_State_block64 (w0 : World) (a0_0 : Int) (a0_1 : List UInt32) (a0_2 : List UInt64) (a0_3 : List UInt8) (a0_4 : UInt64) (ba0 : Nat) (S : List Nat) (hS : St S w0 w0 [OE.bx ba0 ([vI a0_0] ++ (e32.fl a0_1 ++ (e64.fl a0_2 ++ (e8.fl a0_3 ++ [v64 a0_4]))))]) (hT : TB S w0) (ha0_1 : a0_1.length = 8) (ha0_2 : a0_2.length = 8) (ha0_3 : a0_3.length = 128) (r : Int × List UInt32 × List UInt64 × List UInt8 × UInt64)
  (h : F.sha_State_block64 a0_0 a0_1 a0_2 a0_3 a0_4 = some r) : Calls Tryz.prog 267 #[pB ba0 0] w0 (Ret fun v w => v = .tuple #[] ∧ r.2.1.length = 8 ∧ r.2.2.1.length = 8 ∧ r.2.2.2.1.length = 128 ∧ St S w0 w [OE.bx ba0 ([vI r.1] ++ (e32.fl r.2.1 ++ (e64.fl r.2.2.1 ++ (e8.fl r.2.2.2.1 ++ [v64 r.2.2.2.2]))))]) := by
 refine calls_at 216 Tryz.func267 rfl rfl rfl ?_
 refine wpC_le [(0, pB ba0 0)] ⟨rfl, trivial⟩ ?_
 unfold F.sha_State_block64 at h
 refine wpC_seq (wpC_region ?_)
 refine wpR_x (OpX_alloc (cs := e64.fl (List.replicate 80 0)) tz228 (by kernel_rfl) hS) rfl ?_
 rintro _ w ⟨b_2, rfl, hS⟩
 refine wpR_nil (QE_then_n (wpC_seq (wpC_seq (wpC_region (wpR_run 1 rfl ?_)))))
 refine wpR_nil (QE_then_n (wpC_block ?_))
 refine wpC_le [(0, pB ba0 0), (2, pB b_2 0), (22, vI 0)] ⟨rfl, rfl, rfl, trivial⟩ ?_
 refine loop_ind (F.sha_State_block64_L1 a0_3 a0_2 a0_0 a0_1 a0_4) (fun (s : Int × List UInt64) L w => L = [(0, pB ba0 0), (2, pB b_2 0), (22, vI s.1)] ∧ s.2.length = 80 ∧ St S w0 w [OE.bx ba0 ([vI a0_0] ++ (e32.fl a0_1 ++ (e64.fl a0_2 ++ (e8.fl a0_3 ++ [v64 a0_4])))), OE.bx b_2 (e64.fl s.2)]) ?_ (0, (List.replicate 80 0)) ⟨rfl, List.length_replicate, (hS.pick [1, 0] (by decide) rfl)⟩ h
 rintro k_86 ⟨x_4, x_5⟩ L w q_9 hI ih_8 h hk_7
 try dsimp only at hI
 obtain ⟨rfl, hL_6, hS⟩ := hI
 unfold F.sha_State_block64_L1 at h
 refine wpC_seq (wpC_region (wpR_run 1 rfl ?_))
 refine wpR_nil (QE_then_n (wpC_seq ?_))
 refine wpC_cond rfl (fun hb_85 => ?_) (fun hb_85 => ?_)
 ·have h := if_t h hb_85
  refine wpC_skip (QE_then_n (wpC_seq (wpC_block ?_)))
  refine wpC_seq (wpC_region (wpR_run 2 rfl ?_))
  refine wpR_nil (QE_then_n (wpC_seq (wpC_region (wpR_run 1 rfl ?_))))
  refine wpR_v (OpV_nilB rfl) rfl ?_
  refine wpR_v (OpV_fieldB (k := 17) Tryz.underlying198 rfl rfl nz196 rfl) rfl ?_
  refine wpR_run 1 rfl ?_
  refine wpR_v (OpV_bin rfl rfl (b_imul _ 8 x_4)) rfl ?_
  refine wpR_run 1 rfl ?_
  refine wpR_v (OpV_bin rfl rfl (b_imul _ 8 x_4)) rfl ?_
  refine wpR_run 1 rfl ?_
  obtain ⟨x_10, hx_10, h⟩ := obind_some h
  refine wpR_v (A_sl (e := e8) Tryz.underlying196 sz5 rfl rfl rfl rfl ha0_3 hx_10) rfl ?_
  refine wpR_v (OpV_len Tryz.underlying25 rfl ((hS.bxroA 0 rfl ha0_3 (Up.skip (k := 1) rfl (Up.skip (k := 8) (fl_len1 ha0_1 rfl) (Up.skip (k := 8) (fl_len1 ha0_2 rfl) Up.here rfl) rfl) rfl)).g_sl hx_10)) rfl ?_
  refine wpR_run 1 rfl ?_
  refine wpR_nil (QE_then_n (wpC_block ?_))
  refine wpC_le [(0, pB ba0 0), (2, pB b_2 0), (3, vI x_4), (22, vI x_4), (33, slV (.slice (some ⟨ba0, 17, none⟩) 128 128) e8.sz ((wI (8 * x_4) : Int).toNat) ((wI ((wI (8 * x_4)) + 8) : Int).toNat)), (34, vI (x_10.length : Int)), (35, vI 0)] ⟨rfl, rfl, rfl, rfl, rfl, rfl, rfl, trivial⟩ ?_
  refine loop_ind (F.sha_State_block64_L2 x_4 x_10) (fun (s : Int × List UInt64) L w => L = [(0, pB ba0 0), (2, pB b_2 0), (3, vI x_4), (22, vI x_4), (33, slV (.slice (some ⟨ba0, 17, none⟩) 128 128) e8.sz ((wI (8 * x_4) : Int).toNat) ((wI ((wI (8 * x_4)) + 8) : Int).toNat)), (34, vI (x_10.length : Int)), (35, vI s.1)] ∧ s.2.length = 80 ∧ St S w0 w [OE.bx ba0 ([vI a0_0] ++ (e32.fl a0_1 ++ (e64.fl a0_2 ++ (e8.fl a0_3 ++ [v64 a0_4])))), OE.bx b_2 (e64.fl s.2)]) ?_ (0, x_5) ⟨rfl, hL_6, hS⟩ h
  rintro k_22 ⟨x_11, x_12⟩ L w q_16 hI ih_15 h hk_14
  try dsimp only at hI
  obtain ⟨rfl, hL_13, hS⟩ := hI
  unfold F.sha_State_block64_L2 at h
  refine wpC_seq (wpC_region (wpR_run 1 rfl ?_))
  refine wpR_nil (QE_then_n (wpC_seq ?_))
  refine wpC_cond rfl (fun hb_21 => ?_) (fun hb_21 => ?_)
  ·have h := if_t h hb_21
   refine wpC_skip (QE_then_n (wpC_seq (wpC_block ?_)))
   refine wpC_seq (wpC_region ?_)
   obtain ⟨x_17, hx_17, h⟩ := obind_some h
   refine wpR_v (G_ix Tryz.underlying25 ti5 rfl rfl ((hS.bxroA 0 rfl ha0_3 (Up.skip (k := 1) rfl (Up.skip (k := 8) (fl_len1 ha0_1 rfl) (Up.skip (k := 8) (fl_len1 ha0_2 rfl) Up.here rfl) rfl) rfl)).g_sl hx_10) hx_17) rfl ?_
   refine wpR_v (G_load Tryz.underlying5 rfl rfl ((hS.bxroA 0 rfl ha0_3 (Up.skip (k := 1) rfl (Up.skip (k := 8) (fl_len1 ha0_1 rfl) (Up.skip (k := 8) (fl_len1 ha0_2 rfl) Up.here rfl) rfl) rfl)).g_sl hx_10) hx_17 rfl) rfl ?_
   refine wpR_run 1 rfl ?_
   refine wpR_nil (QE_then_n (wpC_region (wpR_run 2 rfl ?_)))
   obtain ⟨x_18, hx_18, h⟩ := obind_some h
   refine wpR_v (OpV_ixO Tryz.underlying228 sz131 rfl rfl (getO_bd hx_18 hL_13)) rfl ?_
   refine wpR_v (OpV_ldB Tryz.underlying131 rfl rfl (hS.bxg 1 rfl (Up.elr Up.last hx_18 rfl))) rfl ?_
   refine wpR_v (OpV_bin rfl rfl (b_shl64_64 _ x_18 8)) rfl ?_
   refine wpR_run 1 rfl ?_
   refine wpR_v (OpV_conv rfl (cv_8_64 Tryz.underlying5 Tryz.underlying131 x_17)) rfl ?_
   refine wpR_v (OpV_bin rfl rfl (b_or64 _ (shl64 x_18 8) x_17.toUInt64)) rfl ?_
   obtain ⟨x_19, hx_19, h⟩ := obind_some h
   refine wpR_v (OpV_ixO Tryz.underlying228 sz131 rfl rfl (getO_bd hx_19 hL_13)) rfl ?_
   refine wpR_y (OpY_stU (m := 1) rfl sz131 rfl rfl rfl (Up.elt (t' := ((shl64 x_18 8) ||| x_17.toUInt64)) Up.last hx_19 rfl rfl) rfl rfl (one_one rfl) hS (i := 1)) ?_
   intro w hS
   replace hS : St _ w0 w [OE.bx ba0 ([vI a0_0] ++ (e32.fl a0_1 ++ (e64.fl a0_2 ++ (e8.fl a0_3 ++ [v64 a0_4])))), OE.bx b_2 (e64.fl (x_12.set (x_4 : Int).toNat ((shl64 x_18 8) ||| x_17.toUInt64)))] := hS
   obtain ⟨x_20, hx_20, h⟩ := olet_some h
   rw [hx_20] at hS
   refine wpR_nil (QE_blk_n ?_)
   refine QE_then_n (wpC_region (wpR_run 2 rfl ?_))
   refine wpR_nil ?_
   exact QE_rnd (wpN_le _ (by exact ⟨rfl, rfl, rfl, rfl, rfl, rfl, rfl, trivial⟩) (ih_15 (wI (x_11 + 1), x_20) _ _ ⟨rfl, (by rw [← hx_20, List.length_set]; exact hL_13), hS⟩ (oinl_some h hk_14)))
  have h := if_f h hb_21
  refine wpC_exit ?_
  refine QE_then_x (QE_then_x ?_)
  have h := oinr_some h hk_14
  refine QE_blk_x ?_
  refine QE_blk_n ?_
  refine QE_then_n (wpC_region (wpR_run 2 rfl ?_))
  refine wpR_nil ?_
  exact QE_rnd (wpN_le _ (by exact ⟨rfl, rfl, rfl, trivial⟩) (ih_8 (wI (x_4 + 1), x_12) _ _ ⟨rfl, hL_13, hS⟩ (oinl_some h hk_7)))
 have h := if_f h hb_85
 refine wpC_exit ?_
 refine QE_then_x (QE_then_x ?_)
 have h := oinr_some h hk_7
 refine QE_blk_x ?_
 refine QE_then_n (wpC_seq (wpC_seq (wpC_region (wpR_run 1 rfl ?_))))
 refine wpR_nil (QE_then_n (wpC_block ?_))
 refine wpC_le [(0, pB ba0 0), (2, pB b_2 0), (6, vI 16)] ⟨rfl, rfl, rfl, trivial⟩ ?_
 refine loop_ind (F.sha_State_block64_L3 a0_2 a0_0 a0_1 a0_3 a0_4) (fun (s : Int × List UInt64) L w => L = [(0, pB ba0 0), (2, pB b_2 0), (6, vI s.1)] ∧ s.2.length = 80 ∧ St S w0 w [OE.bx ba0 ([vI a0_0] ++ (e32.fl a0_1 ++ (e64.fl a0_2 ++ (e8.fl a0_3 ++ [v64 a0_4])))), OE.bx b_2 (e64.fl s.2)]) ?_ (16, x_5) ⟨rfl, hL_6, hS⟩ h
 rintro k_84 ⟨x_23, x_24⟩ L w q_28 hI ih_27 h hk_26
 try dsimp only at hI
 obtain ⟨rfl, hL_25, hS⟩ := hI
 unfold F.sha_State_block64_L3 at h
 refine wpC_seq (wpC_seq (wpC_region (wpR_run 2 rfl ?_)))
 refine wpR_nil (QE_then_n ?_)
 refine wpC_cond rfl (fun hb_83 => ?_) (fun hb_83 => ?_)
 ·have h := if_t h hb_83
  refine wpC_skip (QE_then_n (wpC_seq (wpC_block ?_)))
  refine wpC_seq ?_
  refine wpC_regionT (fun w' => St S w0 w' [OE.bx ba0 ([vI a0_0] ++ (e32.fl a0_1 ++ (e64.fl a0_2 ++ (e8.fl a0_3 ++ [v64 a0_4])))), OE.bx b_2 (e64.fl x_24)]) (fun _ => true) hmix (fun _ _ _ hf => hf.2) (fun _ _ hf => hf) (by kernel_rfl) ?_
  have hS := hS.drew
  show lxE _ _ _ _ _ _ _ [0, 1, 2, 3, 4, 5, 6, 7, 8, 9] _ _
  refine lxE_v hS rfl rfl (fun w hF => OpV_move rfl) rfl ?_
  refine lxE_v hS rfl rfl (fun w hF => OpV_bin rfl rfl (b_isub _ x_23 15)) rfl ?_
  obtain ⟨x_29, hx_29, h⟩ := obind_some h
  refine lxE_v hS rfl rfl (fun w hF => OpV_ixO Tryz.underlying228 sz131 rfl rfl (getO_bd hx_29 hL_25)) rfl ?_
  refine lxE_v hS rfl rfl (fun w hF => OpV_ldB Tryz.underlying131 rfl rfl (hF.bxg 1 rfl (Up.elr Up.last hx_29 rfl))) rfl ?_
  refine lxE_v hS rfl rfl (fun w hF => OpV_move rfl) rfl ?_
  refine lxE_v hS rfl rfl (fun w hF => OpV_bin rfl rfl (b_isub _ x_23 2)) rfl ?_
  obtain ⟨x_30, hx_30, h⟩ := obind_some h
  refine lxE_v hS rfl rfl (fun w hF => OpV_ixO Tryz.underlying228 sz131 rfl rfl (getO_bd hx_30 hL_25)) rfl ?_
  refine lxE_v hS rfl rfl (fun w hF => OpV_ldB Tryz.underlying131 rfl rfl (hF.bxg 1 rfl (Up.elr Up.last hx_30 rfl))) rfl ?_
  refine lxE_v hS rfl rfl (fun w hF => OpV_assign rfl) rfl ?_
  refine lxE_v hS rfl rfl (fun w hF => OpV_assign rfl) rfl ?_
  refine lxE_nil hS ?_
  refine QE_then_n ?_
  refine wpC_regionS (fun w' => St S w0 w' [OE.bx ba0 ([vI a0_0] ++ (e32.fl a0_1 ++ (e64.fl a0_2 ++ (e8.fl a0_3 ++ [v64 a0_4])))), OE.bx b_2 (e64.fl x_24)]) (fun i => !([11, 13, 20, 22, 29].contains i)) hmix (fun _ _ _ hf => hf.2) (fun _ _ hf => hf) (by kernel_rfl) ?_
  have hS := hS.drew
  show lxE _ _ _ _ _ _ _ [0, 1, 2, 3, 4, 5, 6, 7, 8, 9, 10, 11, 12, 13, 14, 15, 16, 17, 18, 19, 20, 21, 22, 23, 24, 25, 26, 27, 28, 29] _ _
  refine lxE_v hS rfl rfl (fun w hF => OpV_move rfl) rfl ?_
  refine lxE_v hS rfl rfl (fun w hF => OpV_move rfl) rfl ?_
  refine lxE_v hS rfl rfl (fun w hF => OpV_bin rfl rfl (b_isub _ x_23 16)) rfl ?_
  obtain ⟨x_31, hx_31, h⟩ := obind_some h
  refine lxE_v hS rfl rfl (fun w hF => OpV_ixO Tryz.underlying228 sz131 rfl rfl (getO_bd hx_31 hL_25)) rfl ?_
  refine lxE_v hS rfl rfl (fun w hF => OpV_ldB Tryz.underlying131 rfl rfl (hF.bxg 1 rfl (Up.elr Up.last hx_31 rfl))) rfl ?_
  refine lxE_v hS rfl rfl (fun w hF => OpV_move rfl) rfl ?_
  refine lxE_v hS rfl rfl (fun w hF => OpV_bin rfl rfl (b_isub _ x_23 7)) rfl ?_
  obtain ⟨x_32, hx_32, h⟩ := obind_some h
  refine lxE_v hS rfl rfl (fun w hF => OpV_ixO Tryz.underlying228 sz131 rfl rfl (getO_bd hx_32 hL_25)) rfl ?_
  refine lxE_v hS rfl rfl (fun w hF => OpV_ldB Tryz.underlying131 rfl rfl (hF.bxg 1 rfl (Up.elr Up.last hx_32 rfl))) rfl ?_
  refine lxE_v hS rfl rfl (fun w hF => OpV_bin rfl rfl (b_add64 _ x_31 x_32)) rfl ?_
  refine lxE_v hS rfl rfl (fun w hF => OpV_move rfl) rfl ?_
  obtain ⟨x_33, hx_33, h⟩ := obind_some h
  refine lxE_call hS rfl rfl (by kernel_rfl) rfl (c_math_bits_RotateLeft64 _ x_29 (-1)    _ hx_33) rfl ?_
  rintro _ w ⟨rfl, hS1⟩
  have hS := hS.call hS1
  simp only [List.cons_append, List.nil_append] at hS
  replace hS : St _ w0 w [OE.bx ba0 ([vI a0_0] ++ (e32.fl a0_1 ++ (e64.fl a0_2 ++ (e8.fl a0_3 ++ [v64 a0_4])))), OE.bx b_2 (e64.fl x_24)] := hS
  refine lxE_v hS rfl rfl (fun w hF => OpV_move rfl) rfl ?_
  obtain ⟨x_34, hx_34, h⟩ := obind_some h
  refine lxE_call hS rfl rfl (by kernel_rfl) rfl (c_math_bits_RotateLeft64 _ x_29 (-8)    _ hx_34) rfl ?_
  rintro _ w ⟨rfl, hS1⟩
  have hS := hS.call hS1
  simp only [List.cons_append, List.nil_append] at hS
  replace hS : St _ w0 w [OE.bx ba0 ([vI a0_0] ++ (e32.fl a0_1 ++ (e64.fl a0_2 ++ (e8.fl a0_3 ++ [v64 a0_4])))), OE.bx b_2 (e64.fl x_24)] := hS
  refine lxE_v hS rfl rfl (fun w hF => OpV_bin rfl rfl (b_xor64 _ x_33 x_34)) rfl ?_
  refine lxE_v hS rfl rfl (fun w hF => OpV_move rfl) rfl ?_
  refine lxE_v hS rfl rfl (fun w hF => OpV_bin rfl rfl (b_shr64_64 _ x_29 7)) rfl ?_
  refine lxE_v hS rfl rfl (fun w hF => OpV_bin rfl rfl (b_xor64 _ (x_33 ^^^ x_34) (shr64 x_29 7))) rfl ?_
  refine lxE_v hS rfl rfl (fun w hF => OpV_bin rfl rfl (b_add64 _ (x_31 + x_32) ((x_33 ^^^ x_34) ^^^ (shr64 x_29 7)))) rfl ?_
  refine lxE_v hS rfl rfl (fun w hF => OpV_move rfl) rfl ?_
  obtain ⟨x_35, hx_35, h⟩ := obind_some h
  refine lxE_call hS rfl rfl (by kernel_rfl) rfl (c_math_bits_RotateLeft64 _ x_30 (-19)    _ hx_35) rfl ?_
  rintro _ w ⟨rfl, hS1⟩
  have hS := hS.call hS1
  simp only [List.cons_append, List.nil_append] at hS
  replace hS : St _ w0 w [OE.bx ba0 ([vI a0_0] ++ (e32.fl a0_1 ++ (e64.fl a0_2 ++ (e8.fl a0_3 ++ [v64 a0_4])))), OE.bx b_2 (e64.fl x_24)] := hS
  refine lxE_v hS rfl rfl (fun w hF => OpV_move rfl) rfl ?_
  obtain ⟨x_36, hx_36, h⟩ := obind_some h
  refine lxE_call hS rfl rfl (by kernel_rfl) rfl (c_math_bits_RotateLeft64 _ x_30 (-61)    _ hx_36) rfl ?_
  rintro _ w ⟨rfl, hS1⟩
  have hS := hS.call hS1
  simp only [List.cons_append, List.nil_append] at hS
  replace hS : St _ w0 w [OE.bx ba0 ([vI a0_0] ++ (e32.fl a0_1 ++ (e64.fl a0_2 ++ (e8.fl a0_3 ++ [v64 a0_4])))), OE.bx b_2 (e64.fl x_24)] := hS
  refine lxE_v hS rfl rfl (fun w hF => OpV_bin rfl rfl (b_xor64 _ x_35 x_36)) rfl ?_
  refine lxE_v hS rfl rfl (fun w hF => OpV_move rfl) rfl ?_
  refine lxE_v hS rfl rfl (fun w hF => OpV_bin rfl rfl (b_shr64_64 _ x_30 6)) rfl ?_
  refine lxE_v hS rfl rfl (fun w hF => OpV_bin rfl rfl (b_xor64 _ (x_35 ^^^ x_36) (shr64 x_30 6))) rfl ?_
  refine lxE_v hS rfl rfl (fun w hF => OpV_bin rfl rfl (b_add64 _ ((x_31 + x_32) + ((x_33 ^^^ x_34) ^^^ (shr64 x_29 7))) ((x_35 ^^^ x_36) ^^^ (shr64 x_30 6)))) rfl ?_
  obtain ⟨x_37, hx_37, h⟩ := obind_some h
  refine lxE_v hS rfl rfl (fun w hF => OpV_ixO Tryz.underlying228 sz131 rfl rfl (getO_bd hx_37 hL_25)) rfl ?_
  refine lxE_y hS rfl rfl (OpY_stU (m := 1) rfl sz131 rfl rfl rfl (Up.elt (t' := (((x_31 + x_32) + ((x_33 ^^^ x_34) ^^^ (shr64 x_29 7))) + ((x_35 ^^^ x_36) ^^^ (shr64 x_30 6)))) Up.last hx_37 rfl rfl) rfl rfl (one_one rfl) hS (i := 1)) ?_
  intro w hS
  replace hS : St _ w0 w [OE.bx ba0 ([vI a0_0] ++ (e32.fl a0_1 ++ (e64.fl a0_2 ++ (e8.fl a0_3 ++ [v64 a0_4])))), OE.bx b_2 (e64.fl (x_24.set (x_23 : Int).toNat (((x_31 + x_32) + ((x_33 ^^^ x_34) ^^^ (shr64 x_29 7))) + ((x_35 ^^^ x_36) ^^^ (shr64 x_30 6)))))] := hS
  obtain ⟨x_38, hx_38, h⟩ := olet_some h
  rw [hx_38] at hS
  refine lxE_nil trivial ?_
  refine QE_blk_n ?_
  refine QE_then_n (wpC_region (wpR_run 3 rfl ?_))
  refine wpR_nil ?_
  exact QE_rnd (wpN_le _ (by exact ⟨rfl, rfl, rfl, trivial⟩) (ih_27 (wI (x_23 + 1), x_38) _ _ ⟨rfl, (by rw [← hx_38, List.length_set]; exact hL_25), hS⟩ (oinl_some h hk_26)))
 have h := if_f h hb_83
 refine wpC_exit ?_
 refine QE_then_x (QE_then_x ?_)
 have h := oinr_some h hk_26
 refine QE_blk_x ?_
 refine QE_then_n (wpC_seq ?_)
 refine wpC_regionT (fun w' => St S w0 w' [OE.bx ba0 ([vI a0_0] ++ (e32.fl a0_1 ++ (e64.fl a0_2 ++ (e8.fl a0_3 ++ [v64 a0_4])))), OE.bx b_2 (e64.fl x_24)]) (fun _ => true) hmix (fun _ _ _ hf => hf.2) (fun _ _ hf => hf) (by kernel_rfl) ?_
 have hS := hS.drew
 show lxE _ _ _ _ _ _ _ [0, 1, 2, 3, 4, 5, 6, 7, 8, 9, 10, 11, 12, 13, 14, 15, 16, 17, 18, 19, 20, 21, 22, 23, 24, 25, 26, 27, 28, 29, 30, 31, 32, 33, 34, 35, 36, 37, 38, 39, 40, 41, 42, 43, 44, 45, 46, 47] _ _
 refine lxE_v hS rfl rfl (fun w hF => OpV_move rfl) rfl ?_
 refine lxE_v hS rfl rfl (fun w hF => OpV_nilB rfl) rfl ?_
 refine lxE_v hS rfl rfl (fun w hF => OpV_fieldB (k := 9) Tryz.underlying198 rfl rfl nz191 rfl) rfl ?_
 obtain ⟨x_39, hx_39, h⟩ := obind_some h
 refine lxE_v hS rfl rfl (fun w hF => OpV_ixO Tryz.underlying191 sz131 rfl rfl (getO_bd hx_39 ha0_2)) rfl ?_
 refine lxE_v hS rfl rfl (fun w hF => OpV_ldB Tryz.underlying131 rfl rfl (hF.bxg 0 rfl (Up.elr (Up.skip (k := 1) rfl (Up.skip (k := 8) (fl_len1 ha0_1 rfl) Up.here rfl) rfl) hx_39 rfl))) rfl ?_
 refine lxE_v hS rfl rfl (fun w hF => OpV_move rfl) rfl ?_
 refine lxE_v hS rfl rfl (fun w hF => OpV_nilB rfl) rfl ?_
 refine lxE_v hS rfl rfl (fun w hF => OpV_fieldB (k := 9) Tryz.underlying198 rfl rfl nz191 rfl) rfl ?_
 obtain ⟨x_40, hx_40, h⟩ := obind_some h
 refine lxE_v hS rfl rfl (fun w hF => OpV_ixO Tryz.underlying191 sz131 rfl rfl (getO_bd hx_40 ha0_2)) rfl ?_
 refine lxE_v hS rfl rfl (fun w hF => OpV_ldB Tryz.underlying131 rfl rfl (hF.bxg 0 rfl (Up.elr (Up.skip (k := 1) rfl (Up.skip (k := 8) (fl_len1 ha0_1 rfl) Up.here rfl) rfl) hx_40 rfl))) rfl ?_
 refine lxE_v hS rfl rfl (fun w hF => OpV_move rfl) rfl ?_
 refine lxE_v hS rfl rfl (fun w hF => OpV_nilB rfl) rfl ?_
 refine lxE_v hS rfl rfl (fun w hF => OpV_fieldB (k := 9) Tryz.underlying198 rfl rfl nz191 rfl) rfl ?_
 obtain ⟨x_41, hx_41, h⟩ := obind_some h
 refine lxE_v hS rfl rfl (fun w hF => OpV_ixO Tryz.underlying191 sz131 rfl rfl (getO_bd hx_41 ha0_2)) rfl ?_
 refine lxE_v hS rfl rfl (fun w hF => OpV_ldB Tryz.underlying131 rfl rfl (hF.bxg 0 rfl (Up.elr (Up.skip (k := 1) rfl (Up.skip (k := 8) (fl_len1 ha0_1 rfl) Up.here rfl) rfl) hx_41 rfl))) rfl ?_
 refine lxE_v hS rfl rfl (fun w hF => OpV_move rfl) rfl ?_
 refine lxE_v hS rfl rfl (fun w hF => OpV_nilB rfl) rfl ?_
 refine lxE_v hS rfl rfl (fun w hF => OpV_fieldB (k := 9) Tryz.underlying198 rfl rfl nz191 rfl) rfl ?_
 obtain ⟨x_42, hx_42, h⟩ := obind_some h
 refine lxE_v hS rfl rfl (fun w hF => OpV_ixO Tryz.underlying191 sz131 rfl rfl (getO_bd hx_42 ha0_2)) rfl ?_
 refine lxE_v hS rfl rfl (fun w hF => OpV_ldB Tryz.underlying131 rfl rfl (hF.bxg 0 rfl (Up.elr (Up.skip (k := 1) rfl (Up.skip (k := 8) (fl_len1 ha0_1 rfl) Up.here rfl) rfl) hx_42 rfl))) rfl ?_
 refine lxE_v hS rfl rfl (fun w hF => OpV_move rfl) rfl ?_
 refine lxE_v hS rfl rfl (fun w hF => OpV_nilB rfl) rfl ?_
 refine lxE_v hS rfl rfl (fun w hF => OpV_fieldB (k := 9) Tryz.underlying198 rfl rfl nz191 rfl) rfl ?_
 obtain ⟨x_43, hx_43, h⟩ := obind_some h
 refine lxE_v hS rfl rfl (fun w hF => OpV_ixO Tryz.underlying191 sz131 rfl rfl (getO_bd hx_43 ha0_2)) rfl ?_
 refine lxE_v hS rfl rfl (fun w hF => OpV_ldB Tryz.underlying131 rfl rfl (hF.bxg 0 rfl (Up.elr (Up.skip (k := 1) rfl (Up.skip (k := 8) (fl_len1 ha0_1 rfl) Up.here rfl) rfl) hx_43 rfl))) rfl ?_
 refine lxE_v hS rfl rfl (fun w hF => OpV_move rfl) rfl ?_
 refine lxE_v hS rfl rfl (fun w hF => OpV_nilB rfl) rfl ?_
 refine lxE_v hS rfl rfl (fun w hF => OpV_fieldB (k := 9) Tryz.underlying198 rfl rfl nz191 rfl) rfl ?_
 obtain ⟨x_44, hx_44, h⟩ := obind_some h
 refine lxE_v hS rfl rfl (fun w hF => OpV_ixO Tryz.underlying191 sz131 rfl rfl (getO_bd hx_44 ha0_2)) rfl ?_
 refine lxE_v hS rfl rfl (fun w hF => OpV_ldB Tryz.underlying131 rfl rfl (hF.bxg 0 rfl (Up.elr (Up.skip (k := 1) rfl (Up.skip (k := 8) (fl_len1 ha0_1 rfl) Up.here rfl) rfl) hx_44 rfl))) rfl ?_
 refine lxE_v hS rfl rfl (fun w hF => OpV_move rfl) rfl ?_
 refine lxE_v hS rfl rfl (fun w hF => OpV_nilB rfl) rfl ?_
 refine lxE_v hS rfl rfl (fun w hF => OpV_fieldB (k := 9) Tryz.underlying198 rfl rfl nz191 rfl) rfl ?_
 obtain ⟨x_45, hx_45, h⟩ := obind_some h
 refine lxE_v hS rfl rfl (fun w hF => OpV_ixO Tryz.underlying191 sz131 rfl rfl (getO_bd hx_45 ha0_2)) rfl ?_
 refine lxE_v hS rfl rfl (fun w hF => OpV_ldB Tryz.underlying131 rfl rfl (hF.bxg 0 rfl (Up.elr (Up.skip (k := 1) rfl (Up.skip (k := 8) (fl_len1 ha0_1 rfl) Up.here rfl) rfl) hx_45 rfl))) rfl ?_
 refine lxE_v hS rfl rfl (fun w hF => OpV_move rfl) rfl ?_
 refine lxE_v hS rfl rfl (fun w hF => OpV_nilB rfl) rfl ?_
 refine lxE_v hS rfl rfl (fun w hF => OpV_fieldB (k := 9) Tryz.underlying198 rfl rfl nz191 rfl) rfl ?_
 obtain ⟨x_46, hx_46, h⟩ := obind_some h
 refine lxE_v hS rfl rfl (fun w hF => OpV_ixO Tryz.underlying191 sz131 rfl rfl (getO_bd hx_46 ha0_2)) rfl ?_
 refine lxE_v hS rfl rfl (fun w hF => OpV_ldB Tryz.underlying131 rfl rfl (hF.bxg 0 rfl (Up.elr (Up.skip (k := 1) rfl (Up.skip (k := 8) (fl_len1 ha0_1 rfl) Up.here rfl) rfl) hx_46 rfl))) rfl ?_
 refine lxE_v hS rfl rfl (fun w hF => OpV_assign rfl) rfl ?_
 refine lxE_v hS rfl rfl (fun w hF => OpV_assign rfl) rfl ?_
 refine lxE_v hS rfl rfl (fun w hF => OpV_assign rfl) rfl ?_
 refine lxE_v hS rfl rfl (fun w hF => OpV_assign rfl) rfl ?_
 refine lxE_v hS rfl rfl (fun w hF => OpV_assign rfl) rfl ?_
 refine lxE_v hS rfl rfl (fun w hF => OpV_assign rfl) rfl ?_
 refine lxE_v hS rfl rfl (fun w hF => OpV_assign rfl) rfl ?_
 refine lxE_v hS rfl rfl (fun w hF => OpV_assign rfl) rfl ?_
 refine lxE_nil hS ?_
 refine QE_then_n (wpC_seq (wpC_seq (wpC_region (wpR_run 1 rfl ?_))))
 refine wpR_nil (QE_then_n (wpC_block ?_))
 refine wpC_le [(0, pB ba0 0), (2, pB b_2 0), (9, v64 x_39), (10, v64 x_40), (11, v64 x_41), (12, v64 x_42), (13, v64 x_43), (14, v64 x_44), (15, v64 x_45), (16, v64 x_46), (131, vI 0)] ⟨rfl, rfl, rfl, rfl, rfl, rfl, rfl, rfl, rfl, rfl, rfl, trivial⟩ ?_
 refine loop_ind (F.sha_State_block64_L4 a0_2 x_24 a0_0 a0_1 a0_3 a0_4) (fun (s : UInt64 × UInt64 × UInt64 × UInt64 × UInt64 × UInt64 × UInt64 × UInt64 × Int) L w => L = [(0, pB ba0 0), (2, pB b_2 0), (9, v64 s.1), (10, v64 s.2.1), (11, v64 s.2.2.1), (12, v64 s.2.2.2.1), (13, v64 s.2.2.2.2.1), (14, v64 s.2.2.2.2.2.1), (15, v64 s.2.2.2.2.2.2.1), (16, v64 s.2.2.2.2.2.2.2.1), (131, vI s.2.2.2.2.2.2.2.2)] ∧ St S w0 w [OE.bx ba0 ([vI a0_0] ++ (e32.fl a0_1 ++ (e64.fl a0_2 ++ (e8.fl a0_3 ++ [v64 a0_4])))), OE.bx b_2 (e64.fl x_24)]) ?_ (x_39, x_40, x_41, x_42, x_43, x_44, x_45, x_46, 0) ⟨rfl, hS⟩ h
 rintro k_82 ⟨x_47, x_48, x_49, x_50, x_51, x_52, x_53, x_54, x_55⟩ L w q_58 hI ih_57 h hk_56
 try dsimp only at hI
 obtain ⟨rfl, hS⟩ := hI
 unfold F.sha_State_block64_L4 at h
 refine wpC_seq (wpC_region (wpR_run 1 rfl ?_))
 refine wpR_nil (QE_then_n (wpC_seq ?_))
 refine wpC_cond rfl (fun hb_81 => ?_) (fun hb_81 => ?_)
 ·have h := if_t h hb_81
  refine wpC_skip (QE_then_n (wpC_seq (wpC_block ?_)))
  refine wpC_seq (wpC_region (wpR_run 2 rfl ?_))
  refine wpR_nil (QE_then_n (wpC_seq ?_))
  refine wpC_regionT (fun w' => St S w0 w' [OE.bx ba0 ([vI a0_0] ++ (e32.fl a0_1 ++ (e64.fl a0_2 ++ (e8.fl a0_3 ++ [v64 a0_4])))), OE.bx b_2 (e64.fl x_24)]) (fun i => !([2, 4, 7].contains i)) hmix (fun _ _ _ hf => hf.2) (fun _ _ hf => hf) (by kernel_rfl) ?_
  have hS := hS.drew
  show lxE _ _ _ _ _ _ _ [0, 1, 2, 3, 4, 5, 6, 7, 8, 9, 10, 11, 12, 13, 14, 15, 16, 17, 18, 19, 20, 21, 22, 23, 24, 25, 26] _ _
  refine lxE_v hS rfl rfl (fun w hF => OpV_move rfl) rfl ?_
  refine lxE_v hS rfl rfl (fun w hF => OpV_move rfl) rfl ?_
  obtain ⟨x_59, hx_59, h⟩ := obind_some h
  refine lxE_call hS rfl rfl (by kernel_rfl) rfl (c_math_bits_RotateLeft64 _ x_51 (-14)    _ hx_59) rfl ?_
  rintro _ w ⟨rfl, hS1⟩
  have hS := hS.call hS1
  simp only [List.cons_append, List.nil_append] at hS
  replace hS : St _ w0 w [OE.bx ba0 ([vI a0_0] ++ (e32.fl a0_1 ++ (e64.fl a0_2 ++ (e8.fl a0_3 ++ [v64 a0_4])))), OE.bx b_2 (e64.fl x_24)] := hS
  refine lxE_v hS rfl rfl (fun w hF => OpV_move rfl) rfl ?_
  obtain ⟨x_60, hx_60, h⟩ := obind_some h
  refine lxE_call hS rfl rfl (by kernel_rfl) rfl (c_math_bits_RotateLeft64 _ x_51 (-18)    _ hx_60) rfl ?_
  rintro _ w ⟨rfl, hS1⟩
  have hS := hS.call hS1
  simp only [List.cons_append, List.nil_append] at hS
  replace hS : St _ w0 w [OE.bx ba0 ([vI a0_0] ++ (e32.fl a0_1 ++ (e64.fl a0_2 ++ (e8.fl a0_3 ++ [v64 a0_4])))), OE.bx b_2 (e64.fl x_24)] := hS
  refine lxE_v hS rfl rfl (fun w hF => OpV_bin rfl rfl (b_xor64 _ x_59 x_60)) rfl ?_
  refine lxE_v hS rfl rfl (fun w hF => OpV_move rfl) rfl ?_
  obtain ⟨x_61, hx_61, h⟩ := obind_some h
  refine lxE_call hS rfl rfl (by kernel_rfl) rfl (c_math_bits_RotateLeft64 _ x_51 (-41)    _ hx_61) rfl ?_
  rintro _ w ⟨rfl, hS1⟩
  have hS := hS.call hS1
  simp only [List.cons_append, List.nil_append] at hS
  replace hS : St _ w0 w [OE.bx ba0 ([vI a0_0] ++ (e32.fl a0_1 ++ (e64.fl a0_2 ++ (e8.fl a0_3 ++ [v64 a0_4])))), OE.bx b_2 (e64.fl x_24)] := hS
  refine lxE_v hS rfl rfl (fun w hF => OpV_bin rfl rfl (b_xor64 _ (x_59 ^^^ x_60) x_61)) rfl ?_
  refine lxE_v hS rfl rfl (fun w hF => OpV_bin rfl rfl (b_add64 _ x_54 ((x_59 ^^^ x_60) ^^^ x_61))) rfl ?_
  refine lxE_v hS rfl rfl (fun w hF => OpV_move rfl) rfl ?_
  refine lxE_v hS rfl rfl (fun w hF => OpV_move rfl) rfl ?_
  refine lxE_v hS rfl rfl (fun w hF => OpV_move rfl) rfl ?_
  refine lxE_v hS rfl rfl (fun w hF => OpV_move rfl) rfl ?_
  refine lxE_v hS rfl rfl (fun w hF => OpV_bin rfl rfl (b_xor64 _ x_52 x_53)) rfl ?_
  refine lxE_v hS rfl rfl (fun w hF => OpV_bin rfl rfl (b_and64 _ x_51 (x_52 ^^^ x_53))) rfl ?_
  refine lxE_v hS rfl rfl (fun w hF => OpV_bin rfl rfl (b_xor64 _ x_53 (x_51 &&& (x_52 ^^^ x_53)))) rfl ?_
  refine lxE_v hS rfl rfl (fun w hF => OpV_bin rfl rfl (b_add64 _ (x_54 + ((x_59 ^^^ x_60) ^^^ x_61)) (x_53 ^^^ (x_51 &&& (x_52 ^^^ x_53))))) rfl ?_
  refine lxE_v hS rfl rfl (fun w hF => OpV_move rfl) rfl ?_
  obtain ⟨x_62, hx_62, h⟩ := obind_some h
  refine lxE_v hS rfl rfl (fun w hF => OpV_ixO Tryz.underlying228 sz131 rfl rfl (getO_bd hx_62 (show F.tab_sha_k512.length = 80 from rfl))) rfl ?_
  refine lxE_v hS rfl rfl (fun w hF => OpV_ldB Tryz.underlying131 rfl rfl (hT.sha_k512.cell hF.fr hx_62 rfl)) rfl ?_
  refine lxE_v hS rfl rfl (fun w hF => OpV_bin rfl rfl (b_add64 _ ((x_54 + ((x_59 ^^^ x_60) ^^^ x_61)) + (x_53 ^^^ (x_51 &&& (x_52 ^^^ x_53)))) x_62)) rfl ?_
  refine lxE_v hS rfl rfl (fun w hF => OpV_move rfl) rfl ?_
  obtain ⟨x_63, hx_63, h⟩ := obind_some h
  refine lxE_v hS rfl rfl (fun w hF => OpV_ixO Tryz.underlying228 sz131 rfl rfl (getO_bd hx_63 hL_25)) rfl ?_
  refine lxE_v hS rfl rfl (fun w hF => OpV_ldB Tryz.underlying131 rfl rfl (hF.bxg 1 rfl (Up.elr Up.last hx_63 rfl))) rfl ?_
  refine lxE_v hS rfl rfl (fun w hF => OpV_bin rfl rfl (b_add64 _ (((x_54 + ((x_59 ^^^ x_60) ^^^ x_61)) + (x_53 ^^^ (x_51 &&& (x_52 ^^^ x_53)))) + x_62) x_63)) rfl ?_
  obtain ⟨x_64, hx_64, h⟩ := olet_some h
  refine lxE_v hS rfl rfl (fun w hF => OpV_assign (v := v64 x_64) (by rw [← hx_64]; rfl)) rfl ?_
  refine lxE_nil hS ?_
  refine QE_then_n (wpC_seq (wpC_region (wpR_run 1 rfl ?_)))
  obtain ⟨x_65, hx_65, h⟩ := obind_some h
  refine wpR_call (by kernel_rfl) rfl (c_math_bits_RotateLeft64 _ x_47 (-28)    _ hx_65) rfl ?_
  rintro _ w ⟨rfl, hS1⟩
  have hS := hS.call hS1
  simp only [List.cons_append, List.nil_append] at hS
  replace hS : St _ w0 w [OE.bx ba0 ([vI a0_0] ++ (e32.fl a0_1 ++ (e64.fl a0_2 ++ (e8.fl a0_3 ++ [v64 a0_4])))), OE.bx b_2 (e64.fl x_24)] := hS
  refine wpR_run 1 rfl ?_
  obtain ⟨x_66, hx_66, h⟩ := obind_some h
  refine wpR_call (by kernel_rfl) rfl (c_math_bits_RotateLeft64 _ x_47 (-34)    _ hx_66) rfl ?_
  rintro _ w ⟨rfl, hS1⟩
  have hS := hS.call hS1
  simp only [List.cons_append, List.nil_append] at hS
  replace hS : St _ w0 w [OE.bx ba0 ([vI a0_0] ++ (e32.fl a0_1 ++ (e64.fl a0_2 ++ (e8.fl a0_3 ++ [v64 a0_4])))), OE.bx b_2 (e64.fl x_24)] := hS
  refine wpR_v (OpV_bin rfl rfl (b_xor64 _ x_65 x_66)) rfl ?_
  refine wpR_run 1 rfl ?_
  obtain ⟨x_67, hx_67, h⟩ := obind_some h
  refine wpR_call (by kernel_rfl) rfl (c_math_bits_RotateLeft64 _ x_47 (-39)    _ hx_67) rfl ?_
  rintro _ w ⟨rfl, hS1⟩
  have hS := hS.call hS1
  simp only [List.cons_append, List.nil_append] at hS
  replace hS : St _ w0 w [OE.bx ba0 ([vI a0_0] ++ (e32.fl a0_1 ++ (e64.fl a0_2 ++ (e8.fl a0_3 ++ [v64 a0_4])))), OE.bx b_2 (e64.fl x_24)] := hS
  refine wpR_v (OpV_bin rfl rfl (b_xor64 _ (x_65 ^^^ x_66) x_67)) rfl ?_
  refine wpR_run 2 rfl ?_
  refine wpR_v (OpV_bin rfl rfl (b_and64 _ x_47 x_48)) rfl ?_
  refine wpR_run 3 rfl ?_
  refine wpR_v (OpV_bin rfl rfl (b_or64 _ x_47 x_48)) rfl ?_
  refine wpR_v (OpV_bin rfl rfl (b_and64 _ x_49 (x_47 ||| x_48))) rfl ?_
  refine wpR_v (OpV_bin rfl rfl (b_or64 _ (x_47 &&& x_48) (x_49 &&& (x_47 ||| x_48)))) rfl ?_
  refine wpR_v (OpV_bin rfl rfl (b_add64 _ ((x_65 ^^^ x_66) ^^^ x_67) ((x_47 &&& x_48) ||| (x_49 &&& (x_47 ||| x_48))))) rfl ?_
  obtain ⟨x_68, hx_68, h⟩ := olet_some h
  refine wpR_v (OpV_assign (v := v64 x_68) (by rw [← hx_68]; rfl)) rfl ?_
  refine wpR_nil (QE_then_n (wpC_region (wpR_run 5 rfl ?_)))
  refine wpR_v (OpV_bin rfl rfl (b_add64 _ x_50 x_64)) rfl ?_
  refine wpR_run 5 rfl ?_
  refine wpR_v (OpV_bin rfl rfl (b_add64 _ x_64 x_68)) rfl ?_
  refine wpR_run 8 rfl ?_
  refine wpR_nil (QE_blk_n ?_)
  refine QE_then_n (wpC_region (wpR_run 2 rfl ?_))
  refine wpR_nil ?_
  exact QE_rnd (wpN_le _ (by exact ⟨rfl, rfl, rfl, rfl, rfl, rfl, rfl, rfl, rfl, rfl, rfl, trivial⟩) (ih_57 (x_64 + x_68, x_47, x_48, x_49, x_50 + x_64, x_51, x_52, x_53, wI (x_55 + 1)) _ _ ⟨rfl, hS⟩ (oinl_some h hk_56)))
 have h := if_f h hb_81
 refine wpC_exit ?_
 refine QE_then_x (QE_then_x ?_)
 have h := oinr_some h hk_56
 refine QE_blk_x ?_
 refine QE_then_n (wpC_seq (wpC_region (wpR_run 8 rfl ?_)))
 refine wpR_v (OpV_build (vs := [(0, v64 x_47, [v64 x_47]), (1, v64 x_48, [v64 x_48]), (2, v64 x_49, [v64 x_49]), (3, v64 x_50, [v64 x_50]), (4, v64 x_51, [v64 x_51]), (5, v64 x_52, [v64 x_52]), (6, v64 x_53, [v64 x_53]), (7, v64 x_54, [v64 x_54])]) (cells := [v64 x_47, v64 x_48, v64 x_49, v64 x_50, v64 x_51, v64 x_52, v64 x_53, v64 x_54]) rfl lay191 ⟨rfl, rfl, rfl, rfl, rfl, rfl, rfl, rfl, trivial⟩ (by kernel_rfl)) rfl ?_
 refine wpR_run 1 rfl ?_
 refine wpR_nil (QE_then_n (wpC_block ?_))
 refine wpC_le [(0, pB ba0 0), (199, .agg #[v64 x_47, v64 x_48, v64 x_49, v64 x_50, v64 x_51, v64 x_52, v64 x_53, v64 x_54]), (200, vI 0)] ⟨rfl, rfl, rfl, trivial⟩ ?_
 refine loop_ind (F.sha_State_block64_L5 a0_0 a0_1 a0_3 a0_4 x_47 x_48 x_49 x_50 x_51 x_52 x_53 x_54) (fun (s : Int × List UInt64) L w => L = [(0, pB ba0 0), (199, .agg #[v64 x_47, v64 x_48, v64 x_49, v64 x_50, v64 x_51, v64 x_52, v64 x_53, v64 x_54]), (200, vI s.1)] ∧ s.2.length = 8 ∧ St S w0 w [OE.bx ba0 ([vI a0_0] ++ (e32.fl a0_1 ++ (e64.fl s.2 ++ (e8.fl a0_3 ++ [v64 a0_4]))))]) ?_ (0, a0_2) ⟨rfl, ha0_2, (hS.pick [0] (by decide) rfl)⟩ h
 rintro k_80 ⟨x_69, x_70⟩ L w q_74 hI ih_73 h hk_72
 try dsimp only at hI
 obtain ⟨rfl, hL_71, hS⟩ := hI
 unfold F.sha_State_block64_L5 at h
 refine wpC_seq (wpC_region (wpR_run 1 rfl ?_))
 refine wpR_nil (QE_then_n (wpC_seq ?_))
 refine wpC_cond rfl (fun hb_79 => ?_) (fun hb_79 => ?_)
 ·have h := if_t h hb_79
  refine wpC_skip (QE_then_n (wpC_seq (wpC_block ?_)))
  refine wpC_seq (wpC_region (wpR_run 1 rfl ?_))
  obtain ⟨x_75, hx_75, h⟩ := obind_some h
  refine wpR_v (OpV_ixAO (cs := (e64.fl ([x_47, x_48, x_49, x_50, x_51, x_52, x_53, x_54] : List UInt64)).toArray) Tryz.underlying191 Tryz.underlying131 rfl sz131 rfl rfl (getO_bd hx_75 rfl) (fl_getA hx_75 rfl)) rfl ?_
  refine wpR_run 2 rfl ?_
  refine wpR_nil (QE_then_n ?_)
  refine wpC_regionS (fun w' => St S w0 w' [OE.bx ba0 ([vI a0_0] ++ (e32.fl a0_1 ++ (e64.fl x_70 ++ (e8.fl a0_3 ++ [v64 a0_4]))))]) (fun i => !([11].contains i)) hmix (fun _ _ _ hf => hf.2) (fun _ _ hf => hf) (by kernel_rfl) ?_
  have hS := hS.drew
  show lxE _ _ _ _ _ _ _ [0, 1, 2, 3, 4, 5, 6, 7, 8, 9, 10, 11] _ _
  refine lxE_v hS rfl rfl (fun w hF => OpV_move rfl) rfl ?_
  refine lxE_v hS rfl rfl (fun w hF => OpV_move rfl) rfl ?_
  refine lxE_v hS rfl rfl (fun w hF => OpV_nilB rfl) rfl ?_
  refine lxE_v hS rfl rfl (fun w hF => OpV_fieldB (k := 9) Tryz.underlying198 rfl rfl nz191 rfl) rfl ?_
  obtain ⟨x_76, hx_76, h⟩ := obind_some h
  refine lxE_v hS rfl rfl (fun w hF => OpV_ixO Tryz.underlying191 sz131 rfl rfl (getO_bd hx_76 hL_71)) rfl ?_
  refine lxE_v hS rfl rfl (fun w hF => OpV_ldB Tryz.underlying131 rfl rfl (hF.bxg 0 rfl (Up.elr (Up.skip (k := 1) rfl (Up.skip (k := 8) (fl_len1 ha0_1 rfl) Up.here rfl) rfl) hx_76 rfl))) rfl ?_
  refine lxE_v hS rfl rfl (fun w hF => OpV_move rfl) rfl ?_
  refine lxE_v hS rfl rfl (fun w hF => OpV_bin rfl rfl (b_add64 _ x_76 x_75)) rfl ?_
  refine lxE_v hS rfl rfl (fun w hF => OpV_nilB rfl) rfl ?_
  refine lxE_v hS rfl rfl (fun w hF => OpV_fieldB (k := 9) Tryz.underlying198 rfl rfl nz191 rfl) rfl ?_
  obtain ⟨x_77, hx_77, h⟩ := obind_some h
  refine lxE_v hS rfl rfl (fun w hF => OpV_ixO Tryz.underlying191 sz131 rfl rfl (getO_bd hx_77 hL_71)) rfl ?_
  refine lxE_y hS rfl rfl (OpY_stU (m := 1) rfl sz131 rfl rfl rfl (Up.elt (t' := (x_76 + x_75)) (Up.skip (k := 1) rfl (Up.skip (k := 8) (fl_len1 ha0_1 rfl) Up.here rfl) rfl) hx_77 rfl rfl) rfl rfl (one_one rfl) hS (i := 0)) ?_
  intro w hS
  replace hS : St _ w0 w [OE.bx ba0 ([vI a0_0] ++ (e32.fl a0_1 ++ (e64.fl (x_70.set (x_69 : Int).toNat (x_76 + x_75)) ++ (e8.fl a0_3 ++ [v64 a0_4]))))] := hS
  obtain ⟨x_78, hx_78, h⟩ := olet_some h
  rw [hx_78] at hS
  refine lxE_nil trivial ?_
  refine QE_blk_n ?_
  refine QE_then_n (wpC_region (wpR_run 2 rfl ?_))
  refine wpR_nil ?_
  exact QE_rnd (wpN_le _ (by exact ⟨rfl, rfl, rfl, trivial⟩) (ih_73 (wI (x_69 + 1), x_78) _ _ ⟨rfl, (by rw [← hx_78, List.length_set]; exact hL_71), hS⟩ (oinl_some h hk_72)))
 have h := if_f h hb_79
 refine wpC_exit ?_
 refine QE_then_x (QE_then_x ?_)
 have h := oinr_some h hk_72
 refine QE_blk_x ?_
 cases h
 exact QE_end0 rfl ⟨rfl, ha0_1, hL_71, ha0_3, hS.pick [0] (by decide) rfl⟩
theorem c_sha_State_block (w0 : World) (a0_0 : Int) (a0_1 : List UInt32) (a0_2 : List UInt64) (a0_3 : List UInt8) (a0_4 : UInt64) (ba0 : Nat) (S : List Nat) (hS : St S w0 w0 [OE.bx ba0 ([vI a0_0] ++ (e32.fl a0_1 ++ (e64.fl a0_2 ++ (e8.fl a0_3 ++ [v64 a0_4]))))]) (hT : TB S w0) (ha0_1 : a0_1.length = 8) (ha0_2 : a0_2.length = 8) (ha0_3 : a0_3.length = 128) (r : Int × List UInt32 × List UInt64 × List UInt8 × UInt64)
  (h : F.sha_State_block a0_0 a0_1 a0_2 a0_3 a0_4 = some r) : Calls Tryz.prog 207 #[pB ba0 0] w0 (Ret fun v w => v = .tuple #[] ∧ r.2.1.length = 8 ∧ r.2.2.1.length = 8 ∧ r.2.2.2.1.length = 128 ∧ St S w0 w [OE.bx ba0 ([vI r.1] ++ (e32.fl r.2.1 ++ (e64.fl r.2.2.1 ++ (e8.fl r.2.2.2.1 ++ [v64 r.2.2.2.2]))))]) := by
 refine calls_at 11 Tryz.func207 rfl rfl rfl ?_
 refine wpC_le [(0, pB ba0 0)] ⟨rfl, trivial⟩ ?_
 unfold F.sha_State_block at h
 refine wpC_seq (wpC_region (wpR_run 1 rfl ?_))
 refine wpR_v (OpV_nilB rfl) rfl ?_
 refine wpR_v (OpV_fieldB (k := 0) Tryz.underlying198 rfl rfl nz45 rfl) rfl ?_
 refine wpR_v (OpV_ldB Tryz.underlying45 rfl rfl (hS.bxg 0 rfl (Up.get0 Up.here))) rfl ?_
 refine wpR_run 1 rfl ?_
 refine wpR_nil (QE_then_n ?_)
 refine wpC_cond rfl (fun hb_10 => ?_) (fun hb_10 => ?_)
 ·have h := if_t h hb_10
  refine wpC_region (wpR_run 1 rfl ?_)
  have hG := hS.pick (os' := [OE.bx ba0 ([vI a0_0] ++ (e32.fl a0_1 ++ (e64.fl a0_2 ++ (e8.fl a0_3 ++ [v64 a0_4]))))] ++ []) [0] (by decide) rfl
  obtain ⟨x_2, hx_2, h⟩ := obind_some h
  refine wpR_call (by kernel_rfl) rfl (c_sha_State_block32 _ a0_0 a0_1 a0_2 a0_3 a0_4  ba0 _ hG.give (hT.give hG) ha0_1 ha0_2 ha0_3 _ hx_2) rfl ?_
  rintro _ w ⟨rfl, hL_3, hL_4, hL_5, hS1⟩
  have hS := hG.back hS1
  simp only [List.cons_append, List.nil_append] at hS
  replace hS : St _ w0 w [OE.bx ba0 ([vI x_2.1] ++ (e32.fl x_2.2.1 ++ (e64.fl x_2.2.2.1 ++ (e8.fl x_2.2.2.2.1 ++ [v64 x_2.2.2.2.2]))))] := hS
  refine wpR_nil ?_
  cases h
  exact QE_end0 rfl ⟨rfl, hL_3, hL_4, hL_5, hS.pick [0] (by decide) rfl⟩
 have h := if_f h hb_10
 refine wpC_region (wpR_run 1 rfl ?_)
 have hG := hS.pick (os' := [OE.bx ba0 ([vI a0_0] ++ (e32.fl a0_1 ++ (e64.fl a0_2 ++ (e8.fl a0_3 ++ [v64 a0_4]))))] ++ []) [0] (by decide) rfl
 obtain ⟨x_6, hx_6, h⟩ := obind_some h
 refine wpR_call (by kernel_rfl) rfl (c_sha_State_block64 _ a0_0 a0_1 a0_2 a0_3 a0_4  ba0 _ hG.give (hT.give hG) ha0_1 ha0_2 ha0_3 _ hx_6) rfl ?_
 rintro _ w ⟨rfl, hL_7, hL_8, hL_9, hS1⟩
 have hS := hG.back hS1
 simp only [List.cons_append, List.nil_append] at hS
 replace hS : St _ w0 w [OE.bx ba0 ([vI x_6.1] ++ (e32.fl x_6.2.1 ++ (e64.fl x_6.2.2.1 ++ (e8.fl x_6.2.2.2.1 ++ [v64 x_6.2.2.2.2]))))] := hS
 refine wpR_nil ?_
 cases h
 exact QE_end0 rfl ⟨rfl, hL_7, hL_8, hL_9, hS.pick [0] (by decide) rfl⟩
theorem c_sha_State_Write (w0 : World) (a0_0 : Int) (a0_1 : List UInt32) (a0_2 : List UInt64) (a0_3 : List UInt8) (a0_4 : UInt64) (a1 : List UInt8) (va1 : Value) (ba0 : Nat) (S : List Nat) (hS : St S w0 w0 [OE.bx ba0 ([vI a0_0] ++ (e32.fl a0_1 ++ (e64.fl a0_2 ++ (e8.fl a0_3 ++ [v64 a0_4]))))]) (hT : TB S w0) (ha0_1 : a0_1.length = 8) (ha0_2 : a0_2.length = 8) (ha0_3 : a0_3.length = 128) (ha1 : RP S w0 e8 va1 a1) (r : Int × List UInt32 × List UInt64 × List UInt8 × UInt64)
  (h : F.sha_State_Write a0_0 a0_1 a0_2 a0_3 a0_4 a1 = some r) : Calls Tryz.prog 135 #[pB ba0 0, va1] w0 (Ret fun v w => v = .tuple #[] ∧ r.2.1.length = 8 ∧ r.2.2.1.length = 8 ∧ r.2.2.2.1.length = 128 ∧ St S w0 w [OE.bx ba0 ([vI r.1] ++ (e32.fl r.2.1 ++ (e64.fl r.2.2.1 ++ (e8.fl r.2.2.2.1 ++ [v64 r.2.2.2.2]))))]) := by
 refine calls_at 50 Tryz.func135 rfl rfl rfl ?_
 refine wpC_le [(0, pB ba0 0), (1, va1)] ⟨rfl, rfl, trivial⟩ ?_
 unfold F.sha_State_Write at h
 refine wpC_seq (wpC_region (wpR_run 1 rfl ?_))
 refine wpR_v (OpV_nilB rfl) rfl ?_
 refine wpR_v (OpV_fieldB (k := 0) Tryz.underlying198 rfl rfl nz45 rfl) rfl ?_
 refine wpR_v (OpV_ldB Tryz.underlying45 rfl rfl (hS.bxg 0 rfl (Up.get0 Up.here))) rfl ?_
 obtain ⟨x_2, hx_2, h⟩ := obind_some h
 refine wpR_call (by kernel_rfl) rfl (c_sha_Block _ a0_0    _ hx_2) rfl ?_
 rintro _ w ⟨rfl, hS1⟩
 have hS := hS.call hS1
 simp only [List.cons_append, List.nil_append] at hS
 replace hS : St _ w0 w [OE.bx ba0 ([vI a0_0] ++ (e32.fl a0_1 ++ (e64.fl a0_2 ++ (e8.fl a0_3 ++ [v64 a0_4]))))] := hS
 refine wpR_run 1 rfl ?_
 refine wpR_nil (QE_then_n (wpC_block ?_))
 refine wpC_le [(0, pB ba0 0), (1, va1), (4, vI x_2)] ⟨rfl, rfl, rfl, trivial⟩ ?_
 refine loop_ind (F.sha_State_Write_L1 x_2) (fun (s : List UInt8 × Int × List UInt32 × List UInt64 × List UInt8 × UInt64) L w => ∃ (v_4 : Value), L = [(0, pB ba0 0), (1, v_4), (4, vI x_2)] ∧ RP S w0 e8 v_4 s.1 ∧ s.2.2.1.length = 8 ∧ s.2.2.2.1.length = 8 ∧ s.2.2.2.2.1.length = 128 ∧ St S w0 w [OE.bx ba0 ([vI s.2.1] ++ (e32.fl s.2.2.1 ++ (e64.fl s.2.2.2.1 ++ (e8.fl s.2.2.2.2.1 ++ [v64 s.2.2.2.2.2]))))]) ?_ (a1, a0_0, a0_1, a0_2, a0_3, a0_4) ⟨va1, rfl, ha1, ha0_1, ha0_2, ha0_3, hS⟩ h
 rintro k_29 ⟨x_3, x_6, x_7, x_9, x_11, x_13⟩ L w q_16 hI ih_15 h hk_14
 try dsimp only at hI
 obtain ⟨v_4, rfl, hR_5, hL_8, hL_10, hL_12, hS⟩ := hI
 unfold F.sha_State_Write_L1 at h
 refine wpC_seq (wpC_seq (wpC_region (wpR_run 1 rfl ?_)))
 refine wpR_v (OpV_len Tryz.underlying25 rfl (hR_5.now hS.fr)) rfl ?_
 refine wpR_run 1 rfl ?_
 refine wpR_nil (QE_then_n ?_)
 refine wpC_cond rfl (fun hb_28 => ?_) (fun hb_28 => ?_)
 ·have h := if_t h hb_28
  refine wpC_skip (QE_then_n (wpC_block ?_))
  refine wpC_seq (wpC_region (wpR_run 1 rfl ?_))
  refine wpR_v (OpV_nilB rfl) rfl ?_
  refine wpR_v (OpV_fieldB (k := 145) Tryz.underlying198 rfl rfl nz131 rfl) rfl ?_
  refine wpR_v (OpV_ldB Tryz.underlying131 rfl rfl (hS.bxg 0 rfl (Up.get0 (Up.skip (k := 1) rfl (Up.skip (k := 8) (fl_len1 hL_8 rfl) (Up.skip (k := 8) (fl_len1 hL_10 rfl) (Up.skip (k := 128) (fl_len1 hL_12 rfl) Up.last rfl) rfl) rfl) rfl)))) rfl ?_
  refine wpR_run 1 rfl ?_
  refine wpR_v (OpV_conv rfl (cv_i_64 Tryz.underlying3 Tryz.underlying131 x_2)) rfl ?_
  obtain ⟨hg_17, h⟩ := grd_some h
  refine wpR_v (OpV_bin rfl rfl (b_rem64 _ x_13 (UInt64.ofInt x_2) hg_17)) rfl ?_
  refine wpR_v (OpV_conv rfl (cv_64_i Tryz.underlying131 Tryz.underlying3 (x_13 % (UInt64.ofInt x_2)))) rfl ?_
  obtain ⟨x_18, hx_18, h⟩ := olet_some h
  refine wpR_v (OpV_assign (v := vI x_18) (by rw [← hx_18]; rfl)) rfl ?_
  refine wpR_nil (QE_then_n (wpC_seq (wpC_region (wpR_run 1 rfl ?_))))
  refine wpR_v (OpV_nilB rfl) rfl ?_
  refine wpR_v (OpV_fieldB (k := 17) Tryz.underlying198 rfl rfl nz196 rfl) rfl ?_
  refine wpR_run 2 rfl ?_
  obtain ⟨x_19, hx_19, h⟩ := obind_some h
  refine wpR_v (A_sl (e := e8) Tryz.underlying196 sz5 rfl rfl rfl rfl hL_12 hx_19) rfl ?_
  refine wpR_run 1 rfl ?_
  refine wpR_x (OpX_copyA (e := e8) Tryz.underlying25 ti5 rfl rfl rfl hS (i := 0) rfl hL_12 (Up.skip (k := 1) rfl (Up.skip (k := 8) (fl_len1 hL_8 rfl) (Up.skip (k := 8) (fl_len1 hL_10 rfl) Up.here rfl) rfl) rfl) (hR_5.now hS.fr) (by have := (slO_some hx_19).1; omega) (slO_some hx_19).1.2.2) rfl ?_
  rintro v_q w ⟨hv_q, hS⟩
  subst v_q
  replace hS : St _ w0 w [OE.bx ba0 ([vI x_6] ++ (e32.fl x_7 ++ (e64.fl x_9 ++ (e8.fl (cpL x_11 x_3 ((x_18 : Int).toNat) ((x_2 : Int).toNat)) ++ [v64 x_13]))))] := hS
  obtain ⟨x_20, hx_20, h⟩ := olet_some h
  rw [hx_20] at hS
  obtain ⟨x_21, hx_21, h⟩ := olet_some h
  refine wpR_v (OpV_assign (v := vI x_21) (by rw [← hx_21]; rfl)) rfl ?_
  refine wpR_nil (QE_then_n (wpC_seq (wpC_region (wpR_run 1 rfl ?_))))
  refine wpR_v (OpV_nilB rfl) rfl ?_
  refine wpR_v (OpV_fieldB (k := 145) Tryz.underlying198 rfl rfl nz131 rfl) rfl ?_
  refine wpR_v (OpV_ldB Tryz.underlying131 rfl rfl (hS.bxg 0 rfl (Up.get0 (Up.skip (k := 1) rfl (Up.skip (k := 8) (fl_len1 hL_8 rfl) (Up.skip (k := 8) (fl_len1 hL_10 rfl) (Up.skip (k := 128) (fl_len1 (by rw [← hx_20, cpL_length _ _ _ _ (by have := (slO_some hx_19).1; omega) (slO_some hx_19).1.2.2]; exact hL_12) rfl) Up.last rfl) rfl) rfl) rfl)))) rfl ?_
  refine wpR_run 1 rfl ?_
  refine wpR_v (OpV_conv rfl (cv_i_64 Tryz.underlying3 Tryz.underlying131 x_21)) rfl ?_
  refine wpR_v (OpV_bin rfl rfl (b_add64 _ x_13 (UInt64.ofInt x_21))) rfl ?_
  refine wpR_v (OpV_nilB rfl) rfl ?_
  refine wpR_v (OpV_fieldB (k := 145) Tryz.underlying198 rfl rfl nz131 rfl) rfl ?_
  refine wpR_y (OpY_stU (m := 1) (xs := [v64 x_13]) (xs' := [v64 (x_13 + (UInt64.ofInt x_21))]) (i := 0) rfl sz131 rfl rfl rfl (Up.skip (k := 1) rfl (Up.skip (k := 8) (fl_len1 hL_8 rfl) (Up.skip (k := 8) (fl_len1 hL_10 rfl) (Up.skip (k := 128) (fl_len1 (by rw [← hx_20, cpL_length _ _ _ _ (by have := (slO_some hx_19).1; omega) (slO_some hx_19).1.2.2]; exact hL_12) rfl) Up.last rfl) rfl) rfl) rfl) rfl rfl (one_one rfl) hS) ?_
  intro w hS
  replace hS : St _ w0 w [OE.bx ba0 ([vI x_6] ++ (e32.fl x_7 ++ (e64.fl x_9 ++ (e8.fl x_20 ++ [v64 (x_13 + (UInt64.ofInt x_21))]))))] := hS
  refine wpR_nil (QE_then_n (wpC_seq (wpC_region (wpR_run 2 rfl ?_))))
  obtain ⟨x_22, hx_22, h⟩ := obind_some h
  refine wpR_v (G_sll Tryz.underlying25 ti5 rfl rfl (hR_5.now hS.fr) hx_22) rfl ?_
  refine wpR_run 1 rfl ?_
  refine wpR_nil (QE_then_n (wpC_seq (wpC_region (wpR_run 5 rfl ?_))))
  refine wpR_nil (QE_then_n ?_)
  refine wpC_cond rfl (fun hb_27 => ?_) (fun hb_27 => ?_)
  ·have h := if_t h hb_27
   refine wpC_region (wpR_run 1 rfl ?_)
   have hG := hS.pick (os' := [OE.bx ba0 ([vI x_6] ++ (e32.fl x_7 ++ (e64.fl x_9 ++ (e8.fl x_20 ++ [v64 (x_13 + (UInt64.ofInt x_21))]))))] ++ []) [0] (by decide) rfl
   obtain ⟨x_23, hx_23, h⟩ := obind_some h
   refine wpR_call (by kernel_rfl) rfl (c_sha_State_block _ x_6 x_7 x_9 x_20 (x_13 + (UInt64.ofInt x_21))  ba0 _ hG.give (hT.give hG) hL_8 hL_10 (by rw [← hx_20, cpL_length _ _ _ _ (by have := (slO_some hx_19).1; omega) (slO_some hx_19).1.2.2]; exact hL_12) _ hx_23) rfl ?_
   rintro _ w ⟨rfl, hL_24, hL_25, hL_26, hS1⟩
   have hS := hG.back hS1
   simp only [List.cons_append, List.nil_append] at hS
   replace hS : St _ w0 w [OE.bx ba0 ([vI x_23.1] ++ (e32.fl x_23.2.1 ++ (e64.fl x_23.2.2.1 ++ (e8.fl x_23.2.2.2.1 ++ [v64 x_23.2.2.2.2]))))] := hS
   refine wpR_nil (QE_blk_n ?_)
   exact QE_rnd (wpN_le _ (by exact ⟨rfl, rfl, rfl, trivial⟩) (ih_15 (x_22, x_23.1, x_23.2.1, x_23.2.2.1, x_23.2.2.2.1, x_23.2.2.2.2) _ _ ⟨slV v_4 e8.sz ((x_21 : Int).toNat) x_3.length, rfl, (hR_5.g_sll hx_22), hL_24, hL_25, hL_26, hS⟩ (oinl_some h hk_14)))
  have h := if_f h hb_27
  refine wpC_skip (QE_blk_n ?_)
  exact QE_rnd (wpN_le _ (by exact ⟨rfl, rfl, rfl, trivial⟩) (ih_15 (x_22, x_6, x_7, x_9, x_20, x_13 + (UInt64.ofInt x_21)) _ _ ⟨slV v_4 e8.sz ((x_21 : Int).toNat) x_3.length, rfl, (hR_5.g_sll hx_22), hL_8, hL_10, (by rw [← hx_20, cpL_length _ _ _ _ (by have := (slO_some hx_19).1; omega) (slO_some hx_19).1.2.2]; exact hL_12), hS⟩ (oinl_some h hk_14)))
 have h := if_f h hb_28
 refine wpC_exit ?_
 refine QE_then_x (QE_then_x ?_)
 have h := oinr_some h hk_14
 refine QE_blk_x ?_
 cases h
 exact QE_end0 rfl ⟨rfl, hL_8, hL_10, hL_12, hS.pick [0] (by decide) rfl⟩
end Go.Proofs
