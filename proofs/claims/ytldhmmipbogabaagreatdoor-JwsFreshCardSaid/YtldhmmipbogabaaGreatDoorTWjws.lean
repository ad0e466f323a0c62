import Derived.Test.YtldhmmipbogabaaGreatDoorTW0
import Derived.Test.YtldhmmipbogabaaGreatDoorGkFjws
import Derived.Test.YtldhmmipbogabaaGreatDoorTWb64
import Derived.Test.YtldhmmipbogabaaGreatDoorTWhmac
import Derived.Test.YtldhmmipbogabaaGreatDoorTWlib
import Derived.Test.YtldhmmipbogabaaGreatDoorTWshab
import Derived.Test.YtldhmmipbogabaaGreatDoorTWspki
set_option linter.unusedVariables false
set_option linter.unusedSimpArgs false
set_option linter.unusedVariables false
set_option maxRecDepth 4000
namespace Go.Proofs
open Go Go.RowKit Go.Gk
theorem c_jws_Split (w0 : World) (a0 : List UInt8)   (r : List UInt8 × List UInt8 × List UInt8 × Int)
  (h : F.jws_Split a0 = some r) : Calls Tryz.prog 22 #[vS a0] w0 (Ret fun v w => v = .tuple #[vS r.1, vS r.2.1, vS r.2.2.1, vI r.2.2.2] ∧ St [] w0 w []) := by
 refine calls_at 29 Tryz.func22 rfl rfl rfl ?_
 have hS := St.start w0
 refine wpC_le [(0, vS a0)] ⟨rfl, trivial⟩ ?_
 unfold F.jws_Split at h
 refine wpC_seq (wpC_region (wpR_run 4 rfl ?_))
 refine wpR_nil (QE_then_n (wpC_seq (wpC_seq (wpC_region (wpR_run 1 rfl ?_)))))
 refine wpR_v (OpV_lenS Tryz.underlying9 rfl) rfl ?_
 refine wpR_run 1 rfl ?_
 refine wpR_nil (QE_then_n ?_)
 refine wpC_cond rfl (fun hb_5 => ?_) (fun hb_5 => ?_)
 ·have h := if_t h hb_5
  refine wpC_seq (wpC_region (wpR_run 4 rfl ?_))
  refine wpR_nil (QE_then_n (wpC_ret (QE_then_r ?_)))
  cases h
  exact QE_ret4 rfl rfl rfl rfl rfl ⟨rfl, hS⟩
 have h := if_f h hb_5
 refine wpC_skip (QE_then_n (wpC_seq (wpC_seq (wpC_region (wpR_run 1 rfl ?_)))))
 obtain ⟨x_1, hx_1, h⟩ := obind_some h
 refine wpR_call (by kernel_rfl) rfl (c_strings_Count _ a0    _ hx_1) rfl ?_
 rintro _ w ⟨rfl, hS1⟩
 have hS := hS.call hS1
 simp only [List.cons_append, List.nil_append] at hS
 refine wpR_run 1 rfl ?_
 refine wpR_nil (QE_then_n ?_)
 refine wpC_cond rfl (fun hb_4 => ?_) (fun hb_4 => ?_)
 ·have h := if_t h hb_4
  refine wpC_seq (wpC_region (wpR_run 4 rfl ?_))
  refine wpR_nil (QE_then_n (wpC_ret (QE_then_r ?_)))
  cases h
  exact QE_ret4 rfl rfl rfl rfl rfl ⟨rfl, hS⟩
 have h := if_f h hb_4
 refine wpC_skip (QE_then_n (wpC_seq (wpC_region (wpR_run 1 rfl ?_))))
 obtain ⟨x_2, hx_2, h⟩ := obind_some h
 refine wpR_call (by kernel_rfl) rfl (c_strings_Cut _ a0    _ hx_2) rfl ?_
 rintro _ w ⟨rfl, hS1⟩
 have hS := hS.call hS1
 simp only [List.cons_append, List.nil_append] at hS
 refine wpR_run 7 rfl ?_
 refine wpR_nil (QE_then_n (wpC_seq (wpC_region (wpR_run 1 rfl ?_))))
 obtain ⟨x_3, hx_3, h⟩ := obind_some h
 refine wpR_call (by kernel_rfl) rfl (c_strings_Cut _ x_2.2.1    _ hx_3) rfl ?_
 rintro _ w ⟨rfl, hS1⟩
 have hS := hS.call hS1
 simp only [List.cons_append, List.nil_append] at hS
 refine wpR_run 6 rfl ?_
 refine wpR_nil (QE_then_n (wpC_seq (wpC_region (wpR_run 7 rfl ?_))))
 refine wpR_nil (QE_then_n (wpC_ret ?_))
 cases h
 exact QE_ret4 rfl rfl rfl rfl rfl ⟨rfl, hS⟩
theorem c_jws_Decode (w0 : World) (a0 : List UInt8)   (r : List UInt8 × List UInt8 × List UInt8 × Int)
  (h : F.jws_Decode a0 = some r) : Calls Tryz.prog 19 #[vS a0] w0 (Ret fun v w => ∃ u0 u1 u2 : Value, v = .tuple #[u0, u1, u2, vI r.2.2.2] ∧ St [] w0 w [own e8 u0 r.1, own e8 u1 r.2.1, own e8 u2 r.2.2.1]) := by
 refine calls_at 52 Tryz.func19 rfl rfl rfl ?_
 have hS := St.start w0
 refine wpC_le [(0, vS a0)] ⟨rfl, trivial⟩ ?_
 unfold F.jws_Decode at h
 refine wpC_seq (wpC_region (wpR_run 4 rfl ?_))
 refine wpR_nil (QE_then_n (wpC_seq (wpC_region (wpR_run 1 rfl ?_))))
 obtain ⟨x_1, hx_1, h⟩ := obind_some h
 refine wpR_call (by kernel_rfl) rfl (c_jws_Split _ a0    _ hx_1) rfl ?_
 rintro _ w ⟨rfl, hS1⟩
 have hS := hS.call hS1
 simp only [List.cons_append, List.nil_append] at hS
 refine wpR_run 9 rfl ?_
 refine wpR_nil (QE_then_n (wpC_seq (wpC_seq (wpC_region (wpR_run 2 rfl ?_)))))
 refine wpR_nil (QE_then_n ?_)
 refine wpC_cond rfl (fun hb_16 => ?_) (fun hb_16 => ?_)
 ·have h := if_t h hb_16
  refine wpC_seq (wpC_region (wpR_run 5 rfl ?_))
  refine wpR_nil (QE_then_n (wpC_ret (QE_then_r ?_)))
  cases h
  exact QE_ret4 rfl rfl rfl rfl rfl ⟨.slice none 0 0, .slice none 0 0, .slice none 0 0, rfl, (((hS.nil e8).nil e8).nil e8).pick [2, 1, 0] (by decide) rfl⟩
 have h := if_f h hb_16
 refine wpC_skip (QE_then_n (wpC_seq (wpC_region (wpR_x (OpX_alloc (cs := [.slice none 0 0, .slice none 0 0, .slice none 0 0]) tz65 rfl hS) rfl ?_))))
 rintro _ w ⟨b_2, rfl, hS⟩
 refine wpR_nil (QE_then_n (wpC_seq (wpC_seq (wpC_region (wpR_run 3 rfl ?_)))))
 refine wpR_v (OpV_build (vs := [(0, vS x_1.1, [vS x_1.1]), (1, vS x_1.2.1, [vS x_1.2.1]), (2, vS x_1.2.2.1, [vS x_1.2.2.1])]) (cells := [vS x_1.1, vS x_1.2.1, vS x_1.2.2.1]) rfl lay66 ⟨rfl, rfl, rfl, trivial⟩ rfl) rfl ?_
 refine wpR_run 1 rfl ?_
 refine wpR_nil (QE_then_n (wpC_block ?_))
 refine wpC_loop 100 ?_
 refine wpN_succ ?_
 refine wpC_seq (wpC_region (wpR_v (OpV_bin rfl rfl (b_ilss _ 0 3)) rfl ?_))
 refine wpR_nil (QE_then_n (wpC_seq (wpC_condT rfl ?_)))
 refine wpC_skip (QE_then_n (wpC_seq (wpC_block ?_)))
 refine wpC_seq (wpC_region (wpR_run 1 rfl ?_))
 refine wpR_v (OpV_ixA Tryz.underlying66 Tryz.underlying9 rfl sz9 rfl rfl (by decide) (by decide) rfl) rfl ?_
 refine wpR_run 2 rfl ?_
 refine wpR_nil (QE_then_n (wpC_seq (wpC_region (wpR_run 1 rfl ?_))))
 obtain ⟨x_4, hx_4, h⟩ := obind_some h
 refine wpR_call (by kernel_rfl) rfl (c_b64_Decode _ x_1.1    _ hx_4) rfl ?_
 rintro _ w ⟨v_5, rfl, hS1⟩
 have hS := hS.call hS1
 simp only [List.cons_append, List.nil_append] at hS
 refine wpR_run 7 rfl ?_
 refine wpR_nil (QE_then_n (wpC_seq (wpC_seq (wpC_region (wpR_run 2 rfl ?_)))))
 refine wpR_nil (QE_then_n ?_)
 refine wpC_cond rfl (fun hb_15 => ?_) (fun hb_15 => ?_)
 ·have h := if_t h hb_15
  refine wpC_seq (wpC_region (wpR_run 5 rfl ?_))
  refine wpR_nil (QE_then_n (wpC_ret (QE_then_r (QE_blk_r ?_))))
  refine QE_then_r (QE_then_r (QE_blk_r ?_))
  refine QE_then_r ?_
  cases h
  exact QE_ret4 rfl rfl rfl rfl rfl ⟨.slice none 0 0, .slice none 0 0, .slice none 0 0, rfl, (((hS.nil e8).nil e8).nil e8).pick [2, 1, 0] (by decide) rfl⟩
 have h := if_f h hb_15
 refine wpC_skip (QE_then_n (wpC_region (wpR_run 2 rfl ?_)))
 refine wpR_v (OpV_ixB Tryz.underlying65 sz25 rfl rfl (by decide) (by decide)) rfl ?_
 refine wpR_y (OpY_stB (i := 1) (us := [v_5]) rfl sz25 rfl rfl (cells_one (hS.ro 0 rfl).one) ⟨(hS.ro 0 rfl).one, trivial⟩ rfl hS) ?_
 intro w hS
 replace hS : St _ w0 w [own e8 v_5 x_4.1, OE.bx b_2 [v_5, .slice none 0 0, .slice none 0 0]] := hS
 refine wpR_nil (QE_blk_n ?_)
 refine QE_then_n (wpC_region (wpR_v (OpV_bin rfl rfl (b_iadd _ 0 1)) rfl ?_))
 refine wpR_run 1 rfl ?_
 refine wpR_nil (QE_rnd ?_)
 refine wpN_succ ?_
 refine wpC_seq (wpC_region (wpR_v (OpV_bin rfl rfl (b_ilss _ 1 3)) rfl ?_))
 refine wpR_nil (QE_then_n (wpC_seq (wpC_condT rfl ?_)))
 refine wpC_skip (QE_then_n (wpC_seq (wpC_block ?_)))
 refine wpC_seq (wpC_region (wpR_run 1 rfl ?_))
 refine wpR_v (OpV_ixA Tryz.underlying66 Tryz.underlying9 rfl sz9 rfl rfl (by decide) (by decide) rfl) rfl ?_
 refine wpR_run 2 rfl ?_
 refine wpR_nil (QE_then_n (wpC_seq (wpC_region (wpR_run 1 rfl ?_))))
 obtain ⟨x_7, hx_7, h⟩ := obind_some h
 refine wpR_call (by kernel_rfl) rfl (c_b64_Decode _ x_1.2.1    _ hx_7) rfl ?_
 rintro _ w ⟨v_8, rfl, hS1⟩
 have hS := hS.call hS1
 simp only [List.cons_append, List.nil_append] at hS
 refine wpR_run 7 rfl ?_
 refine wpR_nil (QE_then_n (wpC_seq (wpC_seq (wpC_region (wpR_run 2 rfl ?_)))))
 refine wpR_nil (QE_then_n ?_)
 refine wpC_cond rfl (fun hb_14 => ?_) (fun hb_14 => ?_)
 ·have h := if_t h hb_14
  refine wpC_seq (wpC_region (wpR_run 5 rfl ?_))
  refine wpR_nil (QE_then_n (wpC_ret (QE_then_r (QE_blk_r ?_))))
  refine QE_then_r (QE_then_r (QE_blk_r ?_))
  refine QE_then_r ?_
  cases h
  exact QE_ret4 rfl rfl rfl rfl rfl ⟨.slice none 0 0, .slice none 0 0, .slice none 0 0, rfl, (((hS.nil e8).nil e8).nil e8).pick [2, 1, 0] (by decide) rfl⟩
 have h := if_f h hb_14
 refine wpC_skip (QE_then_n (wpC_region (wpR_run 2 rfl ?_)))
 refine wpR_v (OpV_ixB Tryz.underlying65 sz25 rfl rfl (by decide) (by decide)) rfl ?_
 refine wpR_y (OpY_stB (i := 2) (us := [v_8]) rfl sz25 rfl rfl (cells_one (hS.ro 0 rfl).one) ⟨(hS.ro 0 rfl).one, trivial⟩ rfl hS) ?_
 intro w hS
 replace hS : St _ w0 w [own e8 v_8 x_7.1, own e8 v_5 x_4.1, OE.bx b_2 [v_5, v_8, .slice none 0 0]] := hS
 refine wpR_nil (QE_blk_n ?_)
 refine QE_then_n (wpC_region (wpR_v (OpV_bin rfl rfl (b_iadd _ 1 1)) rfl ?_))
 refine wpR_run 1 rfl ?_
 refine wpR_nil (QE_rnd ?_)
 refine wpN_succ ?_
 refine wpC_seq (wpC_region (wpR_v (OpV_bin rfl rfl (b_ilss _ 2 3)) rfl ?_))
 refine wpR_nil (QE_then_n (wpC_seq (wpC_condT rfl ?_)))
 refine wpC_skip (QE_then_n (wpC_seq (wpC_block ?_)))
 refine wpC_seq (wpC_region (wpR_run 1 rfl ?_))
 refine wpR_v (OpV_ixA Tryz.underlying66 Tryz.underlying9 rfl sz9 rfl rfl (by decide) (by decide) rfl) rfl ?_
 refine wpR_run 2 rfl ?_
 refine wpR_nil (QE_then_n (wpC_seq (wpC_region (wpR_run 1 rfl ?_))))
 obtain ⟨x_10, hx_10, h⟩ := obind_some h
 refine wpR_call (by kernel_rfl) rfl (c_b64_Decode _ x_1.2.2.1    _ hx_10) rfl ?_
 rintro _ w ⟨v_11, rfl, hS1⟩
 have hS := hS.call hS1
 simp only [List.cons_append, List.nil_append] at hS
 refine wpR_run 7 rfl ?_
 refine wpR_nil (QE_then_n (wpC_seq (wpC_seq (wpC_region (wpR_run 2 rfl ?_)))))
 refine wpR_nil (QE_then_n ?_)
 refine wpC_cond rfl (fun hb_13 => ?_) (fun hb_13 => ?_)
 ·have h := if_t h hb_13
  refine wpC_seq (wpC_region (wpR_run 5 rfl ?_))
  refine wpR_nil (QE_then_n (wpC_ret (QE_then_r (QE_blk_r ?_))))
  refine QE_then_r (QE_then_r (QE_blk_r ?_))
  refine QE_then_r ?_
  cases h
  exact QE_ret4 rfl rfl rfl rfl rfl ⟨.slice none 0 0, .slice none 0 0, .slice none 0 0, rfl, (((hS.nil e8).nil e8).nil e8).pick [2, 1, 0] (by decide) rfl⟩
 have h := if_f h hb_13
 refine wpC_skip (QE_then_n (wpC_region (wpR_run 2 rfl ?_)))
 refine wpR_v (OpV_ixB Tryz.underlying65 sz25 rfl rfl (by decide) (by decide)) rfl ?_
 refine wpR_y (OpY_stB (i := 3) (us := [v_11]) rfl sz25 rfl rfl (cells_one (hS.ro 0 rfl).one) ⟨(hS.ro 0 rfl).one, trivial⟩ rfl hS) ?_
 intro w hS
 replace hS : St _ w0 w [own e8 v_11 x_10.1, own e8 v_8 x_7.1, own e8 v_5 x_4.1, OE.bx b_2 [v_5, v_8, v_11]] := hS
 refine wpR_nil (QE_blk_n ?_)
 refine QE_then_n (wpC_region (wpR_v (OpV_bin rfl rfl (b_iadd _ 2 1)) rfl ?_))
 refine wpR_run 1 rfl ?_
 refine wpR_nil (QE_rnd ?_)
 refine wpN_succ ?_
 refine wpC_seq (wpC_region (wpR_v (OpV_bin rfl rfl (b_ilss _ 3 3)) rfl ?_))
 refine wpR_nil (QE_then_n (wpC_seq (wpC_condF rfl ?_)))
 refine wpC_exit ?_
 refine QE_then_x (QE_then_x (QE_blk_x ?_))
 refine QE_then_n (wpC_seq ?_)
 refine wpC_regionT (fun w' => St [] w0 w' [own e8 v_11 x_10.1, own e8 v_8 x_7.1, own e8 v_5 x_4.1, OE.bx b_2 [v_5, v_8, v_11]]) (fun _ => true) hmix (fun _ _ _ hf => hf.2) (fun _ _ hf => hf) (by kernel_rfl) ?_
 have hS := hS.drew
 show lxE _ _ _ _ _ _ _ [0, 1, 2, 3, 4, 5, 6, 7, 8, 9] _ _
 refine lxE_v hS rfl rfl (fun w hF => OpV_ixB Tryz.underlying65 sz25 rfl rfl (by decide) (by decide)) rfl ?_
 refine lxE_v hS rfl rfl (fun w hF => OpV_ldB Tryz.underlying25 rfl rfl (hF.bxc 3 rfl 0)) rfl ?_
 refine lxE_v hS rfl rfl (fun w hF => OpV_ixB Tryz.underlying65 sz25 rfl rfl (by decide) (by decide)) rfl ?_
 refine lxE_v hS rfl rfl (fun w hF => OpV_ldB Tryz.underlying25 rfl rfl (hF.bxc 3 rfl 1)) rfl ?_
 refine lxE_v hS rfl rfl (fun w hF => OpV_ixB Tryz.underlying65 sz25 rfl rfl (by decide) (by decide)) rfl ?_
 refine lxE_v hS rfl rfl (fun w hF => OpV_ldB Tryz.underlying25 rfl rfl (hF.bxc 3 rfl 2)) rfl ?_
 refine lxE_v hS rfl rfl (fun w hF => OpV_assign rfl) rfl ?_
 refine lxE_v hS rfl rfl (fun w hF => OpV_assign rfl) rfl ?_
 refine lxE_v hS rfl rfl (fun w hF => OpV_assign rfl) rfl ?_
 refine lxE_v hS rfl rfl (fun w hF => OpV_assign rfl) rfl ?_
 refine lxE_nil hS ?_
 refine QE_then_n (wpC_ret ?_)
 cases h
 exact QE_ret4 rfl rfl rfl rfl rfl ⟨v_5, v_8, v_11, rfl, hS.pick [2, 1, 0] (by decide) rfl⟩
theorem c_jws_Compact (w0 : World) (a0 : List UInt8) (a1 : List UInt8) (a2 : List UInt8) (va0 : Value) (va1 : Value) (va2 : Value) (ha0 : RP [] w0 e8 va0 a0) (ha1 : RP [] w0 e8 va1 a1) (ha2 : RP [] w0 e8 va2 a2) (r : List UInt8 × Int)
  (h : F.jws_Compact a0 a1 a2 = some r) : Calls Tryz.prog 20 #[va0, va1, va2] w0 (Ret fun v w => v = .tuple #[vS r.1, vI r.2] ∧ St [] w0 w []) := by
 refine calls_at 38 Tryz.func20 rfl rfl rfl ?_
 have hS := St.start w0
 refine wpC_le [(0, va0), (1, va1), (2, va2)] ⟨rfl, rfl, rfl, trivial⟩ ?_
 unfold F.jws_Compact at h
 refine wpC_seq (wpC_region (wpR_run 2 rfl ?_))
 refine wpR_nil (QE_then_n (wpC_seq (wpC_region (wpR_run 1 rfl ?_))))
 refine wpR_nil (QE_then_n (wpC_seq (wpC_seq (wpC_region (wpR_run 3 rfl ?_)))))
 refine wpR_v (OpV_build (vs := [(0, va0, [va0]), (1, va1, [va1]), (2, va2, [va2])]) (cells := [va0, va1, va2]) rfl lay65 ⟨(cells_one (ha0.now hS.fr).one), (cells_one (ha1.now hS.fr).one), (cells_one (ha2.now hS.fr).one), trivial⟩ rfl) rfl ?_
 refine wpR_run 1 rfl ?_
 refine wpR_nil (QE_then_n (wpC_block ?_))
 refine wpC_loop 100 ?_
 refine wpN_succ ?_
 refine wpC_seq (wpC_region (wpR_v (OpV_bin rfl rfl (b_ilss _ 0 3)) rfl ?_))
 refine wpR_nil (QE_then_n (wpC_seq (wpC_condT rfl ?_)))
 refine wpC_skip (QE_then_n (wpC_seq (wpC_block ?_)))
 refine wpC_seq (wpC_region ?_)
 refine wpR_v (OpV_ixA Tryz.underlying65 Tryz.underlying25 rfl sz25 rfl rfl (by decide) (by decide) rfl) rfl ?_
 refine wpR_run 1 rfl ?_
 refine wpR_nil (QE_then_n (wpC_region (wpR_run 2 rfl ?_)))
 refine wpR_v (OpV_len Tryz.underlying25 rfl (ha0.now hS.fr)) rfl ?_
 refine wpR_v (OpV_bin rfl rfl (b_imul _ (a0.length : Int) 4)) rfl ?_
 refine wpR_run 1 rfl ?_
 refine wpR_v (OpV_bin rfl rfl (b_iquo _ (wI ((wI ((a0.length : Int) * 4)) + 2)) 3 (by decide))) rfl ?_
 refine wpR_run 1 rfl ?_
 obtain ⟨x_1, hx_1, h⟩ := olet_some h
 refine wpR_v (OpV_assign (v := vI x_1) (by rw [← hx_1]; rfl)) rfl ?_
 refine wpR_nil (QE_blk_n ?_)
 refine QE_then_n (wpC_region (wpR_v (OpV_bin rfl rfl (b_iadd _ 0 1)) rfl ?_))
 refine wpR_run 1 rfl ?_
 refine wpR_nil (QE_rnd ?_)
 refine wpN_succ ?_
 refine wpC_seq (wpC_region (wpR_v (OpV_bin rfl rfl (b_ilss _ 1 3)) rfl ?_))
 refine wpR_nil (QE_then_n (wpC_seq (wpC_condT rfl ?_)))
 refine wpC_skip (QE_then_n (wpC_seq (wpC_block ?_)))
 refine wpC_seq (wpC_region ?_)
 refine wpR_v (OpV_ixA Tryz.underlying65 Tryz.underlying25 rfl sz25 rfl rfl (by decide) (by decide) rfl) rfl ?_
 refine wpR_run 1 rfl ?_
 refine wpR_nil (QE_then_n (wpC_region (wpR_run 2 rfl ?_)))
 refine wpR_v (OpV_len Tryz.underlying25 rfl (ha1.now hS.fr)) rfl ?_
 refine wpR_v (OpV_bin rfl rfl (b_imul _ (a1.length : Int) 4)) rfl ?_
 refine wpR_run 1 rfl ?_
 refine wpR_v (OpV_bin rfl rfl (b_iquo _ (wI ((wI ((a1.length : Int) * 4)) + 2)) 3 (by decide))) rfl ?_
 refine wpR_run 1 rfl ?_
 obtain ⟨x_2, hx_2, h⟩ := olet_some h
 refine wpR_v (OpV_assign (v := vI x_2) (by rw [← hx_2]; rfl)) rfl ?_
 refine wpR_nil (QE_blk_n ?_)
 refine QE_then_n (wpC_region (wpR_v (OpV_bin rfl rfl (b_iadd _ 1 1)) rfl ?_))
 refine wpR_run 1 rfl ?_
 refine wpR_nil (QE_rnd ?_)
 refine wpN_succ ?_
 refine wpC_seq (wpC_region (wpR_v (OpV_bin rfl rfl (b_ilss _ 2 3)) rfl ?_))
 refine wpR_nil (QE_then_n (wpC_seq (wpC_condT rfl ?_)))
 refine wpC_skip (QE_then_n (wpC_seq (wpC_block ?_)))
 refine wpC_seq (wpC_region ?_)
 refine wpR_v (OpV_ixA Tryz.underlying65 Tryz.underlying25 rfl sz25 rfl rfl (by decide) (by decide) rfl) rfl ?_
 refine wpR_run 1 rfl ?_
 refine wpR_nil (QE_then_n (wpC_region (wpR_run 2 rfl ?_)))
 refine wpR_v (OpV_len Tryz.underlying25 rfl (ha2.now hS.fr)) rfl ?_
 refine wpR_v (OpV_bin rfl rfl (b_imul _ (a2.length : Int) 4)) rfl ?_
 refine wpR_run 1 rfl ?_
 refine wpR_v (OpV_bin rfl rfl (b_iquo _ (wI ((wI ((a2.length : Int) * 4)) + 2)) 3 (by decide))) rfl ?_
 refine wpR_run 1 rfl ?_
 obtain ⟨x_3, hx_3, h⟩ := olet_some h
 refine wpR_v (OpV_assign (v := vI x_3) (by rw [← hx_3]; rfl)) rfl ?_
 refine wpR_nil (QE_blk_n ?_)
 refine QE_then_n (wpC_region (wpR_v (OpV_bin rfl rfl (b_iadd _ 2 1)) rfl ?_))
 refine wpR_run 1 rfl ?_
 refine wpR_nil (QE_rnd ?_)
 refine wpN_succ ?_
 refine wpC_seq (wpC_region (wpR_v (OpV_bin rfl rfl (b_ilss _ 3 3)) rfl ?_))
 refine wpR_nil (QE_then_n (wpC_seq (wpC_condF rfl ?_)))
 refine wpC_exit ?_
 refine QE_then_x (QE_then_x (QE_blk_x ?_))
 refine QE_then_n (wpC_seq (wpC_seq (wpC_region (wpR_run 2 rfl ?_))))
 refine wpR_nil (QE_then_n ?_)
 refine wpC_cond rfl (fun hb_11 => ?_) (fun hb_11 => ?_)
 ·have h := if_t h hb_11
  refine wpC_seq (wpC_region (wpR_run 2 rfl ?_))
  refine wpR_nil (QE_then_n (wpC_ret (QE_then_r ?_)))
  cases h
  exact QE_ret2 rfl rfl rfl ⟨rfl, hS⟩
 have h := if_f h hb_11
 refine wpC_skip (QE_then_n (wpC_seq (wpC_region (wpR_run 1 rfl ?_))))
 obtain ⟨x_4, hx_4, h⟩ := obind_some h
 refine wpR_call (by kernel_rfl) rfl (c_b64_Encode _ a0 va0  (ha0.now hS.fr).rp _ hx_4) rfl ?_
 rintro _ w ⟨rfl, hS1⟩
 have hS := hS.call hS1
 simp only [List.cons_append, List.nil_append] at hS
 obtain ⟨x_5, hx_5, h⟩ := obind_some h
 refine wpR_v (OpV_bin rfl rfl (G_sadd _ hx_5)) rfl ?_
 refine wpR_run 1 rfl ?_
 obtain ⟨x_6, hx_6, h⟩ := obind_some h
 refine wpR_call (by kernel_rfl) rfl (c_b64_Encode _ a1 va1  (ha1.now hS.fr).rp _ hx_6) rfl ?_
 rintro _ w ⟨rfl, hS1⟩
 have hS := hS.call hS1
 simp only [List.cons_append, List.nil_append] at hS
 obtain ⟨x_7, hx_7, h⟩ := obind_some h
 refine wpR_v (OpV_bin rfl rfl (G_sadd _ hx_7)) rfl ?_
 obtain ⟨x_8, hx_8, h⟩ := obind_some h
 refine wpR_v (OpV_bin rfl rfl (G_sadd _ hx_8)) rfl ?_
 refine wpR_run 1 rfl ?_
 obtain ⟨x_9, hx_9, h⟩ := obind_some h
 refine wpR_call (by kernel_rfl) rfl (c_b64_Encode _ a2 va2  (ha2.now hS.fr).rp _ hx_9) rfl ?_
 rintro _ w ⟨rfl, hS1⟩
 have hS := hS.call hS1
 simp only [List.cons_append, List.nil_append] at hS
 obtain ⟨x_10, hx_10, h⟩ := obind_some h
 refine wpR_v (OpV_bin rfl rfl (G_sadd _ hx_10)) rfl ?_
 refine wpR_run 2 rfl ?_
 refine wpR_nil (QE_then_n (wpC_ret ?_))
 cases h
 exact QE_ret2 rfl rfl rfl ⟨rfl, hS⟩
theorem c_jws_kind (w0 : World) (a0 : Int)   (r : Int × Int × Int)
  (h : F.jws_kind a0 = some r) : Calls Tryz.prog 31 #[vI a0] w0 (Ret fun v w => v = .tuple #[vI r.1, vI r.2.1, vI r.2.2] ∧ St [] w0 w []) := by
 refine calls_at 33 Tryz.func31 rfl rfl rfl ?_
 have hS := St.start w0
 refine wpC_le [(0, vI a0)] ⟨rfl, trivial⟩ ?_
 unfold F.jws_kind at h
 refine wpC_seq (wpC_region (wpR_run 3 rfl ?_))
 refine wpR_nil (QE_then_n (wpC_seq (wpC_seq (wpC_region (wpR_run 1 rfl ?_)))))
 refine wpR_nil (QE_then_n (wpC_block ?_))
 refine seq_join (r := r) (fun (g : Bool) L w => L = [(0, vI a0), (5, vI a0), (6, vB g)] ∧ St [] w0 w []) (F.jws_kind_K1 a0) ?_ ?_
 rotate_left
 ·intro hK_4
  refine wpC_seq (wpC_region (wpR_run 2 rfl ?_))
  refine wpR_nil (QE_then_n ?_)
  refine wpC_cond rfl (fun hb_2 => ?_) (fun hb_2 => ?_)
  ·have h := if_t h hb_2
   refine wpC_skip (QE_then_n ?_)
   exact wpC_le _ (by exact ⟨rfl, rfl, rfl, trivial⟩) (hK_4 (a0 == 1) _ _ ⟨rfl, hS⟩ h)
  have h := if_f h hb_2
  refine wpC_seq (wpC_region (wpR_run 2 rfl ?_))
  refine wpR_nil (QE_then_n ?_)
  refine wpC_cond rfl (fun hb_1 => ?_) (fun hb_1 => ?_)
  ·have h := if_t h hb_1
   refine wpC_skip (QE_then_n ?_)
   exact wpC_le _ (by exact ⟨rfl, rfl, rfl, trivial⟩) (hK_4 (a0 == 2) _ _ ⟨rfl, hS⟩ h)
  have h := if_f h hb_1
  refine wpC_region (wpR_run 2 rfl ?_)
  refine wpR_nil (QE_then_n ?_)
  exact wpC_le _ (by exact ⟨rfl, rfl, rfl, trivial⟩) (hK_4 (a0 == 3) _ _ ⟨rfl, hS⟩ h)
 rintro x_3 L w hJ h
 try dsimp only at hJ
 obtain ⟨rfl, hS⟩ := hJ
 unfold F.jws_kind_K1 at h
 refine wpC_cond rfl (fun hb_18 => ?_) (fun hb_18 => ?_)
 ·have h := if_t h hb_18
  refine wpC_seq (wpC_region (wpR_run 6 rfl ?_))
  refine wpR_nil (QE_then_n (wpC_ret (QE_blk_r ?_)))
  refine QE_then_r ?_
  cases h
  exact QE_ret3 rfl rfl rfl rfl ⟨rfl, hS⟩
 have h := if_f h hb_18
 refine seq_join (r := r) (fun (g : Bool) L w => L = [(0, vI a0), (5, vI a0), (13, vB g)] ∧ St [] w0 w []) (F.jws_kind_K2 a0) ?_ ?_
 rotate_left
 ·intro hK_8
  refine wpC_seq (wpC_region (wpR_run 2 rfl ?_))
  refine wpR_nil (QE_then_n ?_)
  refine wpC_cond rfl (fun hb_6 => ?_) (fun hb_6 => ?_)
  ·have h := if_t h hb_6
   refine wpC_skip (QE_then_n ?_)
   exact wpC_le _ (by exact ⟨rfl, rfl, rfl, trivial⟩) (hK_8 (a0 == 4) _ _ ⟨rfl, hS⟩ h)
  have h := if_f h hb_6
  refine wpC_seq (wpC_region (wpR_run 2 rfl ?_))
  refine wpR_nil (QE_then_n ?_)
  refine wpC_cond rfl (fun hb_5 => ?_) (fun hb_5 => ?_)
  ·have h := if_t h hb_5
   refine wpC_skip (QE_then_n ?_)
   exact wpC_le _ (by exact ⟨rfl, rfl, rfl, trivial⟩) (hK_8 (a0 == 5) _ _ ⟨rfl, hS⟩ h)
  have h := if_f h hb_5
  refine wpC_region (wpR_run 2 rfl ?_)
  refine wpR_nil (QE_then_n ?_)
  exact wpC_le _ (by exact ⟨rfl, rfl, rfl, trivial⟩) (hK_8 (a0 == 6) _ _ ⟨rfl, hS⟩ h)
 rintro x_7 L w hJ h
 try dsimp only at hJ
 obtain ⟨rfl, hS⟩ := hJ
 unfold F.jws_kind_K2 at h
 refine wpC_cond rfl (fun hb_17 => ?_) (fun hb_17 => ?_)
 ·have h := if_t h hb_17
  refine wpC_seq (wpC_region (wpR_run 6 rfl ?_))
  refine wpR_nil (QE_then_n (wpC_ret (QE_blk_r ?_)))
  refine QE_then_r ?_
  cases h
  exact QE_ret3 rfl rfl rfl rfl ⟨rfl, hS⟩
 have h := if_f h hb_17
 refine seq_join (r := r) (fun (g : Bool) L w => L = [(0, vI a0), (5, vI a0), (20, vB g)] ∧ St [] w0 w []) (F.jws_kind_K3 a0) ?_ ?_
 rotate_left
 ·intro hK_12
  refine wpC_seq (wpC_region (wpR_run 2 rfl ?_))
  refine wpR_nil (QE_then_n ?_)
  refine wpC_cond rfl (fun hb_10 => ?_) (fun hb_10 => ?_)
  ·have h := if_t h hb_10
   refine wpC_skip (QE_then_n ?_)
   exact wpC_le _ (by exact ⟨rfl, rfl, rfl, trivial⟩) (hK_12 (a0 == 7) _ _ ⟨rfl, hS⟩ h)
  have h := if_f h hb_10
  refine wpC_seq (wpC_region (wpR_run 2 rfl ?_))
  refine wpR_nil (QE_then_n ?_)
  refine wpC_cond rfl (fun hb_9 => ?_) (fun hb_9 => ?_)
  ·have h := if_t h hb_9
   refine wpC_skip (QE_then_n ?_)
   exact wpC_le _ (by exact ⟨rfl, rfl, rfl, trivial⟩) (hK_12 (a0 == 8) _ _ ⟨rfl, hS⟩ h)
  have h := if_f h hb_9
  refine wpC_region (wpR_run 2 rfl ?_)
  refine wpR_nil (QE_then_n ?_)
  exact wpC_le _ (by exact ⟨rfl, rfl, rfl, trivial⟩) (hK_12 (a0 == 9) _ _ ⟨rfl, hS⟩ h)
 rintro x_11 L w hJ h
 try dsimp only at hJ
 obtain ⟨rfl, hS⟩ := hJ
 unfold F.jws_kind_K3 at h
 refine wpC_cond rfl (fun hb_16 => ?_) (fun hb_16 => ?_)
 ·have h := if_t h hb_16
  refine wpC_seq (wpC_region (wpR_run 6 rfl ?_))
  refine wpR_nil (QE_then_n (wpC_ret (QE_blk_r ?_)))
  refine QE_then_r ?_
  cases h
  exact QE_ret3 rfl rfl rfl rfl ⟨rfl, hS⟩
 have h := if_f h hb_16
 refine wpC_seq (wpC_region (wpR_run 2 rfl ?_))
 refine wpR_nil (QE_then_n ?_)
 refine wpC_cond rfl (fun hb_15 => ?_) (fun hb_15 => ?_)
 ·have h := if_t h hb_15
  refine wpC_seq (wpC_region (wpR_run 3 rfl ?_))
  refine wpR_nil (QE_then_n (wpC_ret (QE_blk_r ?_)))
  refine QE_then_r ?_
  cases h
  exact QE_ret3 rfl rfl rfl rfl ⟨rfl, hS⟩
 have h := if_f h hb_15
 refine wpC_seq (wpC_region (wpR_run 2 rfl ?_))
 refine wpR_nil (QE_then_n ?_)
 refine wpC_cond rfl (fun hb_14 => ?_) (fun hb_14 => ?_)
 ·have h := if_t h hb_14
  refine wpC_seq (wpC_region (wpR_run 3 rfl ?_))
  refine wpR_nil (QE_then_n (wpC_ret (QE_blk_r ?_)))
  refine QE_then_r ?_
  cases h
  exact QE_ret3 rfl rfl rfl rfl ⟨rfl, hS⟩
 have h := if_f h hb_14
 refine wpC_seq (wpC_region (wpR_run 2 rfl ?_))
 refine wpR_nil (QE_then_n ?_)
 refine wpC_cond rfl (fun hb_13 => ?_) (fun hb_13 => ?_)
 ·have h := if_t h hb_13
  refine wpC_seq (wpC_region (wpR_run 3 rfl ?_))
  refine wpR_nil (QE_then_n (wpC_ret (QE_blk_r ?_)))
  refine QE_then_r ?_
  cases h
  exact QE_ret3 rfl rfl rfl rfl ⟨rfl, hS⟩
 have h := if_f h hb_13
 refine wpC_skip (QE_blk_n ?_)
 refine QE_then_n (wpC_seq (wpC_region (wpR_run 3 rfl ?_)))
 refine wpR_nil (QE_then_n (wpC_ret ?_))
 cases h
 exact QE_ret3 rfl rfl rfl rfl ⟨rfl, hS⟩
theorem c_jws_Tag (w0 : World) (a0 : Int) (a1 : List UInt8) (a2 : List UInt8) (va1 : Value) (hT : TB [] w0) (ha1 : RP [] w0 e8 va1 a1) (r : List UInt8 × Int)
  (h : F.jws_Tag a0 a1 a2 = some r) : Calls Tryz.prog 30 #[vI a0, va1, vS a2] w0 (Ret fun v w => ∃ u0 : Value, v = .tuple #[u0, vI r.2] ∧ St [] w0 w [own e8 u0 r.1]) := by
 refine calls_at 36 Tryz.func30 rfl rfl rfl ?_
 have hS := St.start w0
 refine wpC_le [(0, vI a0), (1, va1), (2, vS a2)] ⟨rfl, rfl, rfl, trivial⟩ ?_
 unfold F.jws_Tag at h
 refine wpC_seq (wpC_region (wpR_run 2 rfl ?_))
 refine wpR_nil (QE_then_n (wpC_seq (wpC_region (wpR_run 1 rfl ?_))))
 obtain ⟨x_1, hx_1, h⟩ := obind_some h
 refine wpR_call (by kernel_rfl) rfl (c_jws_kind _ a0    _ hx_1) rfl ?_
 rintro _ w ⟨rfl, hS1⟩
 have hS := hS.call hS1
 simp only [List.cons_append, List.nil_append] at hS
 refine wpR_run 7 rfl ?_
 refine wpR_nil (QE_then_n (wpC_seq (wpC_block ?_)))
 refine wpC_seq (wpC_region (wpR_run 3 rfl ?_))
 refine wpR_nil (QE_then_n ?_)
 refine wpC_cond rfl (fun hb_12 => ?_) (fun hb_12 => ?_)
 ·have h := if_t h hb_12
  refine wpC_seq (wpC_region (wpR_run 2 rfl ?_))
  refine wpR_nil (QE_then_n (wpC_ret (QE_blk_r ?_)))
  refine QE_then_r ?_
  cases h
  exact QE_ret2 rfl rfl rfl ⟨.slice none 0 0, rfl, (hS.nil e8).pick [0] (by decide) rfl⟩
 have h := if_f h hb_12
 refine seq_join (r := r) (fun (g : Bool) L w => L = [(1, va1), (2, vS a2), (9, vI x_1.2.1), (20, vB g)] ∧ St [] w0 w []) (F.jws_Tag_K1 a1 a2 x_1) ?_ ?_
 rotate_left
 ·intro hK_5
  refine wpC_region (wpR_run 1 rfl ?_)
  refine wpR_v (OpV_len Tryz.underlying25 rfl (ha1.now hS.fr)) rfl ?_
  refine wpR_run 1 rfl ?_
  obtain ⟨x_2, hx_2, h⟩ := obind_some h
  refine wpR_call (by kernel_rfl) rfl (c_sha_Size _ x_1.2.1    _ hx_2) rfl ?_
  rintro _ w ⟨rfl, hS1⟩
  have hS := hS.call hS1
  simp only [List.cons_append, List.nil_append] at hS
  refine wpR_run 2 rfl ?_
  cases hb_3 : (decide ((a1.length : Int) < x_2))
  case true =>
   have h := if_t h hb_3
   try simp only [hb_3]
   refine wpR_run 5 rfl ?_
   refine wpR_nil (QE_then_n ?_)
   exact wpC_le _ (by exact ⟨rfl, rfl, rfl, rfl, trivial⟩) (hK_5 true _ _ ⟨rfl, hS⟩ h)
  case false =>
   have h := if_f h hb_3
   try simp only [hb_3]
   refine wpR_run 1 rfl ?_
   refine wpR_gv (t := 26) rfl rfl (OpV_len Tryz.underlying25 rfl (ha1.now hS.fr)) rfl ?_
   refine wpR_run 3 rfl ?_
   refine wpR_nil (QE_then_n ?_)
   exact wpC_le _ (by exact ⟨rfl, rfl, rfl, rfl, trivial⟩) (hK_5 (decide ((4096 : Int) < (a1.length : Int))) _ _ ⟨rfl, hS⟩ h)
 rintro x_4 L w hJ h
 try dsimp only at hJ
 obtain ⟨rfl, hS⟩ := hJ
 unfold F.jws_Tag_K1 at h
 refine wpC_cond rfl (fun hb_11 => ?_) (fun hb_11 => ?_)
 ·have h := if_t h hb_11
  refine wpC_seq (wpC_region (wpR_run 2 rfl ?_))
  refine wpR_nil (QE_then_n (wpC_ret (QE_blk_r ?_)))
  refine QE_then_r ?_
  cases h
  exact QE_ret2 rfl rfl rfl ⟨.slice none 0 0, rfl, (hS.nil e8).pick [0] (by decide) rfl⟩
 have h := if_f h hb_11
 refine wpC_skip (QE_blk_n ?_)
 refine QE_then_n (wpC_seq (wpC_region (wpR_run 3 rfl ?_)))
 refine wpR_x (OpX_bytes Tryz.underlying9 Tryz.underlying25 Tryz.underlying5 rfl hS) rfl ?_
 rintro v_6 w hS
 obtain ⟨x_8, hx_8, h⟩ := obind_some h
 refine wpR_call (by kernel_rfl) rfl (c_hmac_Sum _ x_1.2.1 a1 a2 va1 v_6  (hT.now hS.fr) (ha1.now hS.fr).rp (hS.rro 0 rfl).rp _ hx_8) rfl ?_
 rintro v_9 w hS1
 have hS := hS.call hS1
 simp only [List.cons_append, List.nil_append] at hS
 refine wpR_run 2 rfl ?_
 refine wpR_nil (QE_then_n (wpC_ret ?_))
 cases h
 exact QE_ret2 rfl rfl rfl ⟨v_9, rfl, hS.pick [0] (by decide) rfl⟩
theorem c_jws_Fits (w0 : World) (a0 : Int) (a1_0 : Int) (a1_1 : Int) (a1_2 : List UInt8) (a1_3 : List UInt8) (a1_4 : List UInt8) (a1_5 : List UInt8) (a1_6 : List UInt8) (va1_2 : Value) (va1_3 : Value) (va1_4 : Value) (va1_5 : Value) (va1_6 : Value) (ha1_2 : RP [] w0 e8 va1_2 a1_2) (ha1_3 : RP [] w0 e8 va1_3 a1_3) (ha1_4 : RP [] w0 e8 va1_4 a1_4) (ha1_5 : RP [] w0 e8 va1_5 a1_5) (ha1_6 : RP [] w0 e8 va1_6 a1_6) (r : Bool)
  (h : F.jws_Fits a0 a1_0 a1_1 a1_2 a1_3 a1_4 a1_5 a1_6 = some r) : Calls Tryz.prog 12 #[vI a0, .agg #[vI a1_0, vI a1_1, va1_2, va1_3, va1_4, va1_5, va1_6]] w0 (Ret fun v w => v = vB r ∧ St [] w0 w []) := by
 refine calls_at 48 Tryz.func12 rfl rfl rfl ?_
 have hS := St.start w0
 refine wpC_le [(0, vI a0), (1, .agg #[vI a1_0, vI a1_1, va1_2, va1_3, va1_4, va1_5, va1_6])] ⟨rfl, rfl, trivial⟩ ?_
 unfold F.jws_Fits at h
 refine wpC_seq (wpC_region (wpR_x (OpX_box (cs := [vI a1_0, vI a1_1, va1_2, va1_3, va1_4, va1_5, va1_6]) rfl rfl hS) rfl ?_))
 rintro _ w ⟨b_1, rfl, hS⟩
 refine wpR_run 1 rfl ?_
 refine wpR_nil (QE_then_n (wpC_seq (wpC_region (wpR_run 1 rfl ?_))))
 obtain ⟨x_3, hx_3, h⟩ := obind_some h
 refine wpR_call (by kernel_rfl) rfl (c_jws_kind _ a0    _ hx_3) rfl ?_
 rintro _ w ⟨rfl, hS1⟩
 have hS := hS.call hS1
 simp only [List.cons_append, List.nil_append] at hS
 refine wpR_run 7 rfl ?_
 refine wpR_nil (QE_then_n (wpC_seq (wpC_seq (wpC_region (wpR_run 1 rfl ?_)))))
 refine wpR_nil (QE_then_n (wpC_block ?_))
 refine wpC_seq (wpC_region (wpR_run 2 rfl ?_))
 refine wpR_nil (QE_then_n ?_)
 refine wpC_cond rfl (fun hb_12 => ?_) (fun hb_12 => ?_)
 ·have h := if_t h hb_12
  refine wpC_seq (wpC_region (wpR_v (OpV_fieldB (k := 0) Tryz.underlying27 rfl rfl nz23 rfl) rfl ?_))
  refine wpR_v (OpV_ldB Tryz.underlying23 rfl rfl (hS.bxc 0 rfl 0)) rfl ?_
  refine wpR_run 2 rfl ?_
  refine wpR_nil (QE_then_n (wpC_ret (QE_blk_r ?_)))
  refine QE_then_r ?_
  cases h
  exact QE_ret1 rfl rfl ⟨rfl, hS.pick [] (by decide) rfl⟩
 have h := if_f h hb_12
 refine seq_join (r := r) (fun (g : Bool) L w => L = [(3, pB b_1 0), (7, vI x_3.2.2), (14, vI x_3.1), (20, vB g)] ∧ St [] w0 w [OE.bx b_1 [vI a1_0, vI a1_1, va1_2, va1_3, va1_4, va1_5, va1_6]]) (F.jws_Fits_K1 a1_0 a1_1 x_3) ?_ ?_
 rotate_left
 ·intro hK_6
  refine wpC_seq (wpC_region (wpR_run 2 rfl ?_))
  refine wpR_nil (QE_then_n ?_)
  refine wpC_cond rfl (fun hb_4 => ?_) (fun hb_4 => ?_)
  ·have h := if_t h hb_4
   refine wpC_skip (QE_then_n ?_)
   exact wpC_le _ (by exact ⟨rfl, rfl, rfl, rfl, trivial⟩) (hK_6 (x_3.1 == 2) _ _ ⟨rfl, hS⟩ h)
  have h := if_f h hb_4
  refine wpC_region (wpR_run 2 rfl ?_)
  refine wpR_nil (QE_then_n ?_)
  exact wpC_le _ (by exact ⟨rfl, rfl, rfl, rfl, trivial⟩) (hK_6 (x_3.1 == 3) _ _ ⟨rfl, hS⟩ h)
 rintro x_5 L w hJ h
 try dsimp only at hJ
 obtain ⟨rfl, hS⟩ := hJ
 unfold F.jws_Fits_K1 at h
 refine wpC_cond rfl (fun hb_11 => ?_) (fun hb_11 => ?_)
 ·have h := if_t h hb_11
  refine wpC_seq (wpC_region (wpR_v (OpV_fieldB (k := 0) Tryz.underlying27 rfl rfl nz23 rfl) rfl ?_))
  refine wpR_v (OpV_ldB Tryz.underlying23 rfl rfl (hS.bxc 0 rfl 0)) rfl ?_
  refine wpR_run 2 rfl ?_
  refine wpR_nil (QE_then_n (wpC_ret (QE_blk_r ?_)))
  refine QE_then_r ?_
  cases h
  exact QE_ret1 rfl rfl ⟨rfl, hS.pick [] (by decide) rfl⟩
 have h := if_f h hb_11
 refine wpC_seq (wpC_region (wpR_run 2 rfl ?_))
 refine wpR_nil (QE_then_n ?_)
 refine wpC_cond rfl (fun hb_10 => ?_) (fun hb_10 => ?_)
 ·have h := if_t h hb_10
  refine wpC_seq (wpC_region (wpR_v (OpV_fieldB (k := 0) Tryz.underlying27 rfl rfl nz23 rfl) rfl ?_))
  refine wpR_v (OpV_ldB Tryz.underlying23 rfl rfl (hS.bxc 0 rfl 0)) rfl ?_
  refine wpR_run 2 rfl ?_
  cases hb_7 : (a1_0 == 3)
  case true =>
   have h := if_t h hb_7
   try simp only [hb_7]
   refine wpR_gv (t := 31) rfl rfl (OpV_fieldB (k := 1) Tryz.underlying27 rfl rfl nz24 rfl) rfl ?_
   refine wpR_gv (t := 31) rfl rfl (OpV_ldB Tryz.underlying24 rfl rfl (hS.bxc 0 rfl 1)) rfl ?_
   refine wpR_run 4 rfl ?_
   refine wpR_nil (QE_then_n (wpC_ret (QE_blk_r ?_)))
   refine QE_then_r ?_
   cases h
   exact QE_ret1 rfl rfl ⟨rfl, hS.pick [] (by decide) rfl⟩
  case false =>
   have h := if_f h hb_7
   try simp only [hb_7]
   refine wpR_run 6 rfl ?_
   refine wpR_nil (QE_then_n (wpC_ret (QE_blk_r ?_)))
   refine QE_then_r ?_
   cases h
   exact QE_ret1 rfl rfl ⟨rfl, hS.pick [] (by decide) rfl⟩
 have h := if_f h hb_10
 refine wpC_seq (wpC_region (wpR_run 2 rfl ?_))
 refine wpR_nil (QE_then_n ?_)
 refine wpC_cond rfl (fun hb_9 => ?_) (fun hb_9 => ?_)
 ·have h := if_t h hb_9
  refine wpC_seq (wpC_region (wpR_v (OpV_fieldB (k := 0) Tryz.underlying27 rfl rfl nz23 rfl) rfl ?_))
  refine wpR_v (OpV_ldB Tryz.underlying23 rfl rfl (hS.bxc 0 rfl 0)) rfl ?_
  refine wpR_run 2 rfl ?_
  cases hb_8 : (a1_0 == 4)
  case true =>
   have h := if_t h hb_8
   try simp only [hb_8]
   refine wpR_gv (t := 42) rfl rfl (OpV_fieldB (k := 1) Tryz.underlying27 rfl rfl nz24 rfl) rfl ?_
   refine wpR_gv (t := 42) rfl rfl (OpV_ldB Tryz.underlying24 rfl rfl (hS.bxc 0 rfl 1)) rfl ?_
   refine wpR_run 4 rfl ?_
   refine wpR_nil (QE_then_n (wpC_ret (QE_blk_r ?_)))
   refine QE_then_r ?_
   cases h
   exact QE_ret1 rfl rfl ⟨rfl, hS.pick [] (by decide) rfl⟩
  case false =>
   have h := if_f h hb_8
   try simp only [hb_8]
   refine wpR_run 6 rfl ?_
   refine wpR_nil (QE_then_n (wpC_ret (QE_blk_r ?_)))
   refine QE_then_r ?_
   cases h
   exact QE_ret1 rfl rfl ⟨rfl, hS.pick [] (by decide) rfl⟩
 have h := if_f h hb_9
 refine wpC_skip (QE_blk_n ?_)
 refine QE_then_n (wpC_seq (wpC_region (wpR_run 1 rfl ?_)))
 refine wpR_nil (QE_then_n (wpC_ret ?_))
 cases h
 exact QE_ret1 rfl rfl ⟨rfl, hS.pick [] (by decide) rfl⟩
theorem c_jws_Check (w0 : World) (a0 : Int) (a1_0 : Int) (a1_1 : Int) (a1_2 : List UInt8) (a1_3 : List UInt8) (a1_4 : List UInt8) (a1_5 : List UInt8) (a1_6 : List UInt8) (a2 : List UInt8) (a3 : List UInt8) (va1_2 : Value) (va1_3 : Value) (va1_4 : Value) (va1_5 : Value) (va1_6 : Value) (va3 : Value) (hT : TB [] w0) (ha1_2 : RP [] w0 e8 va1_2 a1_2) (ha1_3 : RP [] w0 e8 va1_3 a1_3) (ha1_4 : RP [] w0 e8 va1_4 a1_4) (ha1_5 : RP [] w0 e8 va1_5 a1_5) (ha1_6 : RP [] w0 e8 va1_6 a1_6) (ha3 : RP [] w0 e8 va3 a3) (r : Int)
  (h : F.jws_Check a0 a1_0 a1_1 a1_2 a1_3 a1_4 a1_5 a1_6 a2 a3 = some r) : Calls Tryz.prog 13 #[vI a0, .agg #[vI a1_0, vI a1_1, va1_2, va1_3, va1_4, va1_5, va1_6], vS a2, va3] w0 (Ret fun v w => v = vI r ∧ St [] w0 w []) := by
 refine calls_at 92 Tryz.func13 rfl rfl rfl ?_
 have hS := St.start w0
 refine wpC_le [(0, vI a0), (1, .agg #[vI a1_0, vI a1_1, va1_2, va1_3, va1_4, va1_5, va1_6]), (2, vS a2), (3, va3)] ⟨rfl, rfl, rfl, rfl, trivial⟩ ?_
 unfold F.jws_Check at h
 refine wpC_seq (wpC_region (wpR_x (OpX_box (cs := [vI a1_0, vI a1_1, va1_2, va1_3, va1_4, va1_5, va1_6]) rfl rfl hS) rfl ?_))
 rintro _ w ⟨b_1, rfl, hS⟩
 refine wpR_run 1 rfl ?_
 refine wpR_nil (QE_then_n (wpC_seq (wpC_region (wpR_run 1 rfl ?_))))
 obtain ⟨x_3, hx_3, h⟩ := obind_some h
 refine wpR_call (by kernel_rfl) rfl (c_jws_kind _ a0    _ hx_3) rfl ?_
 rintro _ w ⟨rfl, hS1⟩
 have hS := hS.call hS1
 simp only [List.cons_append, List.nil_append] at hS
 refine wpR_run 7 rfl ?_
 refine wpR_nil (QE_then_n (wpC_seq (wpC_block ?_)))
 refine wpC_seq (wpC_region (wpR_run 3 rfl ?_))
 refine wpR_nil (QE_then_n ?_)
 refine wpC_cond rfl (fun hb_24 => ?_) (fun hb_24 => ?_)
 ·have h := if_t h hb_24
  refine wpC_seq (wpC_region (wpR_run 1 rfl ?_))
  refine wpR_nil (QE_then_n (wpC_ret (QE_blk_r ?_)))
  refine QE_then_r ?_
  cases h
  exact QE_ret1 rfl rfl ⟨rfl, hS.pick [] (by decide) rfl⟩
 have h := if_f h hb_24
 refine wpC_seq (wpC_region (wpR_run 1 rfl ?_))
 refine wpR_v (OpV_ldBs (us := [vI a1_0, vI a1_1, va1_2, va1_3, va1_4, va1_5, va1_6]) Tryz.underlying27 rfl sz27 rfl (hS.bxs 0 rfl rfl)) rfl ?_
 obtain ⟨x_4, hx_4, h⟩ := obind_some h
 refine wpR_call (by kernel_rfl) rfl (c_jws_Fits _ a0 a1_0 a1_1 a1_2 a1_3 a1_4 a1_5 a1_6 va1_2 va1_3 va1_4 va1_5 va1_6  (ha1_2.now hS.fr).rp (ha1_3.now hS.fr).rp (ha1_4.now hS.fr).rp (ha1_5.now hS.fr).rp (ha1_6.now hS.fr).rp _ hx_4) rfl ?_
 rintro _ w ⟨rfl, hS1⟩
 have hS := hS.call hS1
 simp only [List.cons_append, List.nil_append] at hS
 refine wpR_run 2 rfl ?_
 refine wpR_nil (QE_then_n ?_)
 refine wpC_cond rfl (fun hb_23 => ?_) (fun hb_23 => ?_)
 ·have h := if_t h hb_23
  refine wpC_seq (wpC_region (wpR_run 1 rfl ?_))
  refine wpR_nil (QE_then_n (wpC_ret (QE_blk_r ?_)))
  refine QE_then_r ?_
  cases h
  exact QE_ret1 rfl rfl ⟨rfl, hS.pick [] (by decide) rfl⟩
 have h := if_f h hb_23
 refine seq_join (r := r) (fun (g : Bool) L w => L = [(2, vS a2), (3, va3), (5, pB b_1 0), (9, vI x_3.1), (10, vI x_3.2.1), (11, vI x_3.2.2), (28, vB g)] ∧ St [] w0 w [OE.bx b_1 [vI a1_0, vI a1_1, va1_2, va1_3, va1_4, va1_5, va1_6]]) (F.jws_Check_K1 a1_2 a2 a3 x_3) ?_ ?_
 rotate_left
 ·intro hK_10
  refine wpC_seq (wpC_region (wpR_v (OpV_ldBs (us := [vI a1_0, vI a1_1, va1_2, va1_3, va1_4, va1_5, va1_6]) Tryz.underlying27 rfl sz27 rfl (hS.bxs 0 rfl rfl)) rfl ?_))
  obtain ⟨x_5, hx_5, h⟩ := obind_some h
  refine wpR_call (by kernel_rfl) rfl (c_spki_Check _ a1_0 a1_1 a1_2 a1_3 a1_4 a1_5 a1_6 va1_2 va1_3 va1_4 va1_5 va1_6  (ha1_2.now hS.fr).rp (ha1_3.now hS.fr).rp (ha1_4.now hS.fr).rp (ha1_5.now hS.fr).rp (ha1_6.now hS.fr).rp _ hx_5) rfl ?_
  rintro _ w ⟨rfl, hS1⟩
  have hS := hS.call hS1
  simp only [List.cons_append, List.nil_append] at hS
  refine wpR_run 2 rfl ?_
  refine wpR_nil (QE_then_n ?_)
  refine wpC_cond rfl (fun hb_8 => ?_) (fun hb_8 => ?_)
  ·have h := if_t h hb_8
   refine wpC_skip (QE_then_n ?_)
   exact wpC_le _ (by exact ⟨rfl, rfl, rfl, rfl, rfl, rfl, rfl, trivial⟩) (hK_10 (x_5 != 0) _ _ ⟨rfl, hS⟩ h)
  have h := if_f h hb_8
  refine wpC_regionT (fun w' => St [] w0 w' [OE.bx b_1 [vI a1_0, vI a1_1, va1_2, va1_3, va1_4, va1_5, va1_6]]) (fun i => !([7].contains i)) hmix (fun _ _ _ hf => hf.2) (fun _ _ hf => hf) (by kernel_rfl) ?_
  have hS := hS.drew
  show lxE _ _ _ _ _ _ _ [0, 1, 2, 3, 4, 5, 6, 7, 8, 9, 10] _ _
  refine lxE_v hS rfl rfl (fun w hF => OpV_move rfl) rfl ?_
  refine lxE_v hS rfl rfl (fun w hF => OpV_bin rfl rfl (b_ieql _ x_3.1 1)) rfl ?_
  refine lxE_v hS rfl rfl (fun w hF => OpV_move rfl) rfl ?_
  cases hb_6 : (x_3.1 == 1)
  case true =>
   have h := if_t h hb_6
   try simp only [hb_6]
   refine lxE_gv (t := 34) hS rfl rfl rfl rfl (fun w hF => OpV_fieldB (k := 2) Tryz.underlying27 rfl rfl nz25 rfl) rfl ?_
   refine lxE_gv (t := 34) hS rfl rfl rfl rfl (fun w hF => OpV_ldB Tryz.underlying25 rfl rfl (hF.bxc 0 rfl 2)) rfl ?_
   refine lxE_gv (t := 34) hS rfl rfl rfl rfl (fun w hF => OpV_len Tryz.underlying25 rfl (ha1_2.now hF.fr)) rfl ?_
   refine lxE_gv (t := 34) hS rfl rfl rfl rfl (fun w hF => OpV_move rfl) rfl ?_
   obtain ⟨x_7, hx_7, h⟩ := obind_some h
   refine lxE_gcall (t := 34) hS rfl rfl rfl rfl (by kernel_rfl) rfl (c_sha_Size _ x_3.2.1    _ hx_7) rfl ?_
   rintro _ w ⟨rfl, hS1⟩
   have hS := hS.call hS1
   simp only [List.cons_append, List.nil_append] at hS
   refine lxE_gv (t := 34) hS rfl rfl rfl rfl (fun w hF => OpV_bin rfl rfl (b_ilss _ (a1_2.length : Int) x_7)) rfl ?_
   refine lxE_v hS rfl rfl (fun w hF => OpV_pickT rfl rfl) rfl ?_
   refine lxE_v hS rfl rfl (fun w hF => OpV_assign rfl) rfl ?_
   refine lxE_nil hS ?_
   refine QE_then_n ?_
   exact wpC_le _ (by exact ⟨rfl, rfl, rfl, rfl, rfl, rfl, rfl, trivial⟩) (hK_10 (decide ((a1_2.length : Int) < x_7)) _ _ ⟨rfl, hS⟩ h)
  case false =>
   have h := if_f h hb_6
   try simp only [hb_6]
   refine lxE_gskip (b := false) (t := 34) hS rfl rfl rfl rfl rfl rfl ?_
   refine lxE_gskip (b := false) (t := 34) hS rfl rfl rfl rfl rfl rfl ?_
   refine lxE_gskip (b := false) (t := 34) hS rfl rfl rfl rfl rfl rfl ?_
   refine lxE_gskip (b := false) (t := 34) hS rfl rfl rfl rfl rfl rfl ?_
   refine lxE_gskipL (b := false) (t := 34) hS rfl rfl rfl rfl rfl rfl ?_
   refine lxE_gskip (b := false) (t := 34) hS rfl rfl rfl rfl rfl rfl ?_
   refine lxE_v hS rfl rfl (fun w hF => OpV_pickF rfl rfl) rfl ?_
   refine lxE_v hS rfl rfl (fun w hF => OpV_assign rfl) rfl ?_
   refine lxE_nil hS ?_
   refine QE_then_n ?_
   exact wpC_le _ (by exact ⟨rfl, rfl, rfl, rfl, rfl, rfl, rfl, trivial⟩) (hK_10 false _ _ ⟨rfl, hS⟩ h)
 rintro x_9 L w hJ h
 try dsimp only at hJ
 obtain ⟨rfl, hS⟩ := hJ
 unfold F.jws_Check_K1 at h
 refine wpC_cond rfl (fun hb_22 => ?_) (fun hb_22 => ?_)
 ·have h := if_t h hb_22
  refine wpC_seq (wpC_region (wpR_run 1 rfl ?_))
  refine wpR_nil (QE_then_n (wpC_ret (QE_blk_r ?_)))
  refine QE_then_r ?_
  cases h
  exact QE_ret1 rfl rfl ⟨rfl, hS.pick [] (by decide) rfl⟩
 have h := if_f h hb_22
 refine wpC_skip (QE_blk_n ?_)
 refine QE_then_n (wpC_seq (wpC_region (wpR_run 1 rfl ?_)))
 refine wpR_x (OpX_bytes Tryz.underlying9 Tryz.underlying25 Tryz.underlying5 rfl hS) rfl ?_
 rintro v_11 w hS
 refine wpR_run 1 rfl ?_
 refine wpR_nil (QE_then_n (wpC_seq (wpC_region (wpR_run 1 rfl ?_))))
 refine wpR_nil (QE_then_n ?_)
 refine seq_join (r := r) (fun (g : Int) L w => L = [(13, vI g)] ∧ St [] w0 w []) (F.jws_Check_K2) ?_ ?_
 rotate_left
 ·intro hK_20
  refine wpC_seq (wpC_region (wpR_run 1 rfl ?_))
  refine wpR_nil (QE_then_n (wpC_block ?_))
  refine wpC_seq (wpC_region (wpR_run 2 rfl ?_))
  refine wpR_nil (QE_then_n ?_)
  refine wpC_cond rfl (fun hb_18 => ?_) (fun hb_18 => ?_)
  ·have h := if_t h hb_18
   refine wpC_seq (wpC_region (wpR_run 1 rfl ?_))
   refine wpR_v (OpV_fieldB (k := 2) Tryz.underlying27 rfl rfl nz25 rfl) rfl ?_
   refine wpR_v (OpV_ldB Tryz.underlying25 rfl rfl (hS.bxc 1 rfl 2)) rfl ?_
   refine wpR_run 2 rfl ?_
   obtain ⟨x_13, hx_13, h⟩ := obind_some h
   refine wpR_call (by kernel_rfl) rfl (c_hmac_Check _ x_3.2.1 a1_2 a2 a3 va1_2 v_11 va3  (hT.now hS.fr) (ha1_2.now hS.fr).rp (hS.rro 0 rfl).rp (ha3.now hS.fr).rp _ hx_13) rfl ?_
   rintro _ w ⟨rfl, hS1⟩
   have hS := hS.call hS1
   simp only [List.cons_append, List.nil_append] at hS
   refine wpR_run 1 rfl ?_
   refine wpR_nil (QE_then_n ?_)
   refine wpC_cond rfl (fun hb_14 => ?_) (fun hb_14 => ?_)
   ·have h := if_t h hb_14
    refine wpC_region (wpR_run 1 rfl ?_)
    refine wpR_nil (QE_blk_n ?_)
    refine QE_then_n ?_
    exact wpC_le _ (by exact ⟨rfl, trivial⟩) (hK_20 91 _ _ ⟨rfl, (hS.pick [] (by decide) rfl)⟩ h)
   have h := if_f h hb_14
   refine wpC_skip (QE_blk_n ?_)
   refine QE_then_n ?_
   exact wpC_le _ (by exact ⟨rfl, trivial⟩) (hK_20 0 _ _ ⟨rfl, (hS.pick [] (by decide) rfl)⟩ h)
  have h := if_f h hb_18
  refine wpC_seq (wpC_region (wpR_run 2 rfl ?_))
  refine wpR_nil (QE_then_n ?_)
  refine wpC_cond rfl (fun hb_17 => ?_) (fun hb_17 => ?_)
  ·have h := if_t h hb_17
   refine wpC_region (wpR_run 1 rfl ?_)
   refine wpR_v (OpV_fieldB (k := 3) Tryz.underlying27 rfl rfl nz25 rfl) rfl ?_
   refine wpR_v (OpV_ldB Tryz.underlying25 rfl rfl (hS.bxc 1 rfl 3)) rfl ?_
   refine wpR_v (OpV_fieldB (k := 4) Tryz.underlying27 rfl rfl nz25 rfl) rfl ?_
   refine wpR_v (OpV_ldB Tryz.underlying25 rfl rfl (hS.bxc 1 rfl 4)) rfl ?_
   refine wpR_run 2 rfl ?_
   cases h
  have h := if_f h hb_17
  refine wpC_seq (wpC_region (wpR_run 2 rfl ?_))
  refine wpR_nil (QE_then_n ?_)
  refine wpC_cond rfl (fun hb_16 => ?_) (fun hb_16 => ?_)
  ·have h := if_t h hb_16
   refine wpC_region (wpR_run 1 rfl ?_)
   refine wpR_v (OpV_fieldB (k := 3) Tryz.underlying27 rfl rfl nz25 rfl) rfl ?_
   refine wpR_v (OpV_ldB Tryz.underlying25 rfl rfl (hS.bxc 1 rfl 3)) rfl ?_
   refine wpR_v (OpV_fieldB (k := 4) Tryz.underlying27 rfl rfl nz25 rfl) rfl ?_
   refine wpR_v (OpV_ldB Tryz.underlying25 rfl rfl (hS.bxc 1 rfl 4)) rfl ?_
   refine wpR_run 2 rfl ?_
   cases h
  have h := if_f h hb_16
  refine wpC_seq (wpC_region (wpR_run 2 rfl ?_))
  refine wpR_nil (QE_then_n ?_)
  refine wpC_cond rfl (fun hb_15 => ?_) (fun hb_15 => ?_)
  ·have h := if_t h hb_15
   refine wpC_region (wpR_run 2 rfl ?_)
   refine wpR_v (OpV_fieldB (k := 5) Tryz.underlying27 rfl rfl nz25 rfl) rfl ?_
   refine wpR_v (OpV_ldB Tryz.underlying25 rfl rfl (hS.bxc 1 rfl 5)) rfl ?_
   refine wpR_v (OpV_fieldB (k := 6) Tryz.underlying27 rfl rfl nz25 rfl) rfl ?_
   refine wpR_v (OpV_ldB Tryz.underlying25 rfl rfl (hS.bxc 1 rfl 6)) rfl ?_
   refine wpR_run 2 rfl ?_
   cases h
  have h := if_f h hb_15
  refine wpC_region (wpR_v (OpV_fieldB (k := 5) Tryz.underlying27 rfl rfl nz25 rfl) rfl ?_)
  refine wpR_v (OpV_ldB Tryz.underlying25 rfl rfl (hS.bxc 1 rfl 5)) rfl ?_
  refine wpR_run 2 rfl ?_
  cases h
 rintro x_19 L w hJ h
 try dsimp only at hJ
 obtain ⟨rfl, hS⟩ := hJ
 unfold F.jws_Check_K2 at h
 refine wpC_seq (wpC_seq (wpC_region (wpR_run 2 rfl ?_)))
 refine wpR_nil (QE_then_n ?_)
 refine wpC_cond rfl (fun hb_21 => ?_) (fun hb_21 => ?_)
 ·have h := if_t h hb_21
  refine wpC_seq (wpC_region (wpR_run 1 rfl ?_))
  refine wpR_nil (QE_then_n (wpC_ret (QE_then_r ?_)))
  cases h
  exact QE_ret1 rfl rfl ⟨rfl, hS⟩
 have h := if_f h hb_21
 refine wpC_skip (QE_then_n (wpC_seq (wpC_region (wpR_run 1 rfl ?_))))
 refine wpR_nil (QE_then_n (wpC_ret ?_))
 cases h
 exact QE_ret1 rfl rfl ⟨rfl, hS⟩
end Go.Proofs
