/- Walks: each Go function of package jws computes its plain function. Written by a program of ours. -/
import Derived.Test.YtmpcjpcipmdgeaaW0
import Derived.Test.YtmpcjpcipmdgeaaGkFjws
import Derived.Test.YtmpcjpcipmdgeaaWb64
import Derived.Test.YtmpcjpcipmdgeaaWlib
set_option linter.unusedVariables false
set_option maxRecDepth 4000
namespace Go.Proofs
open Go Go.RowKit Go.Gk

theorem c_jws_Split (w0 : World) (a0 : List UInt8)   (r : List UInt8 × List UInt8 × List UInt8 × Int)
    (h : F.jws_Split a0 = some r) : Calls Try.prog 4 #[vS a0] w0 (Ret fun v w => v = .tuple #[vS r.1, vS r.2.1, vS r.2.2.1, vI r.2.2.2] ∧ St [] w0 w []) := by
  refine calls_at 29 Try.func4 rfl rfl rfl ?_
  have hS := St.start w0
  refine wpC_le [(0, vS a0)] ⟨rfl, trivial⟩ ?_
  unfold F.jws_Split at h
  refine wpC_seq ?_
  refine wpC_region ?_
  refine wpR_v (OpV_assign rfl) rfl ?_
  refine wpR_v (OpV_assign rfl) rfl ?_
  refine wpR_v (OpV_assign rfl) rfl ?_
  refine wpR_v (OpV_assign rfl) rfl ?_
  refine wpR_nil ?_
  refine QE_then_n ?_
  refine wpC_seq ?_
  refine wpC_seq ?_
  refine wpC_region ?_
  refine wpR_v (OpV_move rfl) rfl ?_
  refine wpR_v (OpV_lenS Try.underlying9 rfl) rfl ?_
  refine wpR_v (OpV_bin rfl rfl (b_igtr _ (a0.length : Int) 65536)) rfl ?_
  refine wpR_nil ?_
  refine QE_then_n ?_
  refine wpC_cond rfl (fun hb_5 => ?_) (fun hb_5 => ?_)
  · have h := if_t h hb_5
    refine wpC_seq ?_
    refine wpC_region ?_
    refine wpR_v (OpV_assign rfl) rfl ?_
    refine wpR_v (OpV_assign rfl) rfl ?_
    refine wpR_v (OpV_assign rfl) rfl ?_
    refine wpR_v (OpV_assign rfl) rfl ?_
    refine wpR_nil ?_
    refine QE_then_n ?_
    refine wpC_ret ?_
    refine QE_then_r ?_
    cases h
    exact QE_ret4 rfl rfl rfl rfl rfl ⟨rfl, hS⟩
  · have h := if_f h hb_5
    refine wpC_skip ?_
    refine QE_then_n ?_
    refine wpC_seq ?_
    refine wpC_seq ?_
    refine wpC_region ?_
    refine wpR_v (OpV_move rfl) rfl ?_
    obtain ⟨x_1, hx_1, h⟩ := obind_some h
    refine wpR_call (by kernel_rfl) rfl (c_strings_Count _ a0   _ hx_1) rfl ?_
    rintro _ w ⟨rfl, hS1⟩
    have hS := hS.call hS1
    simp only [List.nil_append] at hS
    refine wpR_v (OpV_bin rfl rfl (b_ineq _ x_1 2)) rfl ?_
    refine wpR_nil ?_
    refine QE_then_n ?_
    refine wpC_cond rfl (fun hb_4 => ?_) (fun hb_4 => ?_)
    · have h := if_t h hb_4
      refine wpC_seq ?_
      refine wpC_region ?_
      refine wpR_v (OpV_assign rfl) rfl ?_
      refine wpR_v (OpV_assign rfl) rfl ?_
      refine wpR_v (OpV_assign rfl) rfl ?_
      refine wpR_v (OpV_assign rfl) rfl ?_
      refine wpR_nil ?_
      refine QE_then_n ?_
      refine wpC_ret ?_
      refine QE_then_r ?_
      cases h
      exact QE_ret4 rfl rfl rfl rfl rfl ⟨rfl, hS⟩
    · have h := if_f h hb_4
      refine wpC_skip ?_
      refine QE_then_n ?_
      refine wpC_seq ?_
      refine wpC_region ?_
      refine wpR_v (OpV_move rfl) rfl ?_
      obtain ⟨x_2, hx_2, h⟩ := obind_some h
      refine wpR_call (by kernel_rfl) rfl (c_strings_Cut _ a0   _ hx_2) rfl ?_
      rintro _ w ⟨rfl, hS1⟩
      have hS := hS.call hS1
      simp only [List.nil_append] at hS
      refine wpR_v (OpV_move rfl) rfl ?_
      refine wpR_v (OpV_extract rfl rfl) rfl ?_
      refine wpR_v (OpV_extract rfl rfl) rfl ?_
      refine wpR_v (OpV_extract rfl rfl) rfl ?_
      refine wpR_v (OpV_assign rfl) rfl ?_
      refine wpR_v (OpV_assign rfl) rfl ?_
      refine wpR_v (OpV_assign rfl) rfl ?_
      refine wpR_nil ?_
      refine QE_then_n ?_
      refine wpC_seq ?_
      refine wpC_region ?_
      refine wpR_v (OpV_move rfl) rfl ?_
      obtain ⟨x_3, hx_3, h⟩ := obind_some h
      refine wpR_call (by kernel_rfl) rfl (c_strings_Cut _ x_2.2.1   _ hx_3) rfl ?_
      rintro _ w ⟨rfl, hS1⟩
      have hS := hS.call hS1
      simp only [List.nil_append] at hS
      refine wpR_v (OpV_move rfl) rfl ?_
      refine wpR_v (OpV_extract rfl rfl) rfl ?_
      refine wpR_v (OpV_extract rfl rfl) rfl ?_
      refine wpR_v (OpV_extract rfl rfl) rfl ?_
      refine wpR_v (OpV_assign rfl) rfl ?_
      refine wpR_v (OpV_assign rfl) rfl ?_
      refine wpR_nil ?_
      refine QE_then_n ?_
      refine wpC_seq ?_
      refine wpC_region ?_
      refine wpR_v (OpV_move rfl) rfl ?_
      refine wpR_v (OpV_move rfl) rfl ?_
      refine wpR_v (OpV_move rfl) rfl ?_
      refine wpR_v (OpV_assign rfl) rfl ?_
      refine wpR_v (OpV_assign rfl) rfl ?_
      refine wpR_v (OpV_assign rfl) rfl ?_
      refine wpR_v (OpV_assign rfl) rfl ?_
      refine wpR_nil ?_
      refine QE_then_n ?_
      refine wpC_ret ?_
      cases h
      exact QE_ret4 rfl rfl rfl rfl rfl ⟨rfl, hS⟩

theorem c_jws_Decode (w0 : World) (a0 : List UInt8)   (r : List UInt8 × List UInt8 × List UInt8 × Int)
    (h : F.jws_Decode a0 = some r) : Calls Try.prog 6 #[vS a0] w0 (Ret fun v w => ∃ u0 u1 u2 : Value, v = .tuple #[u0, u1, u2, vI r.2.2.2] ∧ St [] w0 w [own e8 u0 r.1, own e8 u1 r.2.1, own e8 u2 r.2.2.1]) := by
  refine calls_at 52 Try.func6 rfl rfl rfl ?_
  have hS := St.start w0
  refine wpC_le [(0, vS a0)] ⟨rfl, trivial⟩ ?_
  unfold F.jws_Decode at h
  refine wpC_seq ?_
  refine wpC_region ?_
  refine wpR_v (OpV_assign rfl) rfl ?_
  refine wpR_v (OpV_assign rfl) rfl ?_
  refine wpR_v (OpV_assign rfl) rfl ?_
  refine wpR_v (OpV_assign rfl) rfl ?_
  refine wpR_nil ?_
  refine QE_then_n ?_
  refine wpC_seq ?_
  refine wpC_region ?_
  refine wpR_v (OpV_move rfl) rfl ?_
  obtain ⟨x_1, hx_1, h⟩ := obind_some h
  refine wpR_call (by kernel_rfl) rfl (c_jws_Split _ a0   _ hx_1) rfl ?_
  rintro _ w ⟨rfl, hS1⟩
  have hS := hS.call hS1
  simp only [List.nil_append] at hS
  refine wpR_v (OpV_move rfl) rfl ?_
  refine wpR_v (OpV_extract rfl rfl) rfl ?_
  refine wpR_v (OpV_extract rfl rfl) rfl ?_
  refine wpR_v (OpV_extract rfl rfl) rfl ?_
  refine wpR_v (OpV_extract rfl rfl) rfl ?_
  refine wpR_v (OpV_assign rfl) rfl ?_
  refine wpR_v (OpV_assign rfl) rfl ?_
  refine wpR_v (OpV_assign rfl) rfl ?_
  refine wpR_v (OpV_assign rfl) rfl ?_
  refine wpR_nil ?_
  refine QE_then_n ?_
  refine wpC_seq ?_
  refine wpC_seq ?_
  refine wpC_region ?_
  refine wpR_v (OpV_move rfl) rfl ?_
  refine wpR_v (OpV_bin rfl rfl (b_ineq _ x_1.2.2.2 0)) rfl ?_
  refine wpR_nil ?_
  refine QE_then_n ?_
  refine wpC_cond rfl (fun hb_16 => ?_) (fun hb_16 => ?_)
  · have h := if_t h hb_16
    refine wpC_seq ?_
    refine wpC_region ?_
    refine wpR_v (OpV_move rfl) rfl ?_
    refine wpR_v (OpV_assign rfl) rfl ?_
    refine wpR_v (OpV_assign rfl) rfl ?_
    refine wpR_v (OpV_assign rfl) rfl ?_
    refine wpR_v (OpV_assign rfl) rfl ?_
    refine wpR_nil ?_
    refine QE_then_n ?_
    refine wpC_ret ?_
    refine QE_then_r ?_
    cases h
    exact QE_ret4 rfl rfl rfl rfl rfl ⟨.slice none 0 0, .slice none 0 0, .slice none 0 0, rfl, (((hS.nil e8).nil e8).nil e8).pick [2, 1, 0] (by decide) rfl⟩
  · have h := if_f h hb_16
    refine wpC_skip ?_
    refine QE_then_n ?_
    refine wpC_seq ?_
    refine wpC_region ?_
    refine wpR_x (OpX_alloc (cs := [.slice none 0 0, .slice none 0 0, .slice none 0 0]) tz37 rfl hS) rfl ?_
    rintro _ w ⟨b_2, rfl, hS⟩
    refine wpR_nil ?_
    refine QE_then_n ?_
    refine wpC_seq ?_
    refine wpC_seq ?_
    refine wpC_region ?_
    refine wpR_v (OpV_move rfl) rfl ?_
    refine wpR_v (OpV_move rfl) rfl ?_
    refine wpR_v (OpV_move rfl) rfl ?_
    refine wpR_v (OpV_build (vs := [(0, vS x_1.1, [vS x_1.1]), (1, vS x_1.2.1, [vS x_1.2.1]), (2, vS x_1.2.2.1, [vS x_1.2.2.1])]) (cells := [vS x_1.1, vS x_1.2.1, vS x_1.2.2.1]) rfl lay38 ⟨rfl, rfl, rfl, trivial⟩ rfl) rfl ?_
    refine wpR_v (OpV_move rfl) rfl ?_
    refine wpR_nil ?_
    refine QE_then_n ?_
    refine wpC_block ?_
    refine wpC_loop 100 ?_
    refine wpN_succ ?_
    refine wpC_seq ?_
    refine wpC_region ?_
    refine wpR_v (OpV_bin rfl rfl (b_ilss _ 0 3)) rfl ?_
    refine wpR_nil ?_
    refine QE_then_n ?_
    refine wpC_seq ?_
    refine wpC_condT rfl ?_
    refine wpC_skip ?_
    refine QE_then_n ?_
    refine wpC_seq ?_
    refine wpC_block ?_
    refine wpC_seq ?_
    refine wpC_region ?_
    refine wpR_v (OpV_move rfl) rfl ?_
    refine wpR_v (OpV_ixA Try.underlying38 Try.underlying9 rfl sz9 rfl rfl (by decide) (by decide) rfl) rfl ?_
    refine wpR_v (OpV_assign rfl) rfl ?_
    refine wpR_v (OpV_assign rfl) rfl ?_
    refine wpR_nil ?_
    refine QE_then_n ?_
    refine wpC_seq ?_
    refine wpC_region ?_
    refine wpR_v (OpV_move rfl) rfl ?_
    obtain ⟨x_4, hx_4, h⟩ := obind_some h
    refine wpR_call (by kernel_rfl) rfl (c_b64_Decode _ x_1.1   _ hx_4) rfl ?_
    rintro _ w ⟨v_5, rfl, hS1⟩
    have hS := hS.call hS1
    simp only [List.cons_append, List.nil_append] at hS
    refine wpR_v (OpV_move rfl) rfl ?_
    refine wpR_v (OpV_extract rfl rfl) rfl ?_
    refine wpR_v (OpV_extract rfl rfl) rfl ?_
    refine wpR_v (OpV_extract rfl rfl) rfl ?_
    refine wpR_v (OpV_assign rfl) rfl ?_
    refine wpR_v (OpV_assign rfl) rfl ?_
    refine wpR_v (OpV_assign rfl) rfl ?_
    refine wpR_nil ?_
    refine QE_then_n ?_
    refine wpC_seq ?_
    refine wpC_seq ?_
    refine wpC_region ?_
    refine wpR_v (OpV_move rfl) rfl ?_
    refine wpR_v (OpV_bin rfl rfl (b_ineq _ x_4.2.1 0)) rfl ?_
    refine wpR_nil ?_
    refine QE_then_n ?_
    refine wpC_cond rfl (fun hb_15 => ?_) (fun hb_15 => ?_)
    · have h := if_t h hb_15
      refine wpC_seq ?_
      refine wpC_region ?_
      refine wpR_v (OpV_move rfl) rfl ?_
      refine wpR_v (OpV_assign rfl) rfl ?_
      refine wpR_v (OpV_assign rfl) rfl ?_
      refine wpR_v (OpV_assign rfl) rfl ?_
      refine wpR_v (OpV_assign rfl) rfl ?_
      refine wpR_nil ?_
      refine QE_then_n ?_
      refine wpC_ret ?_
      refine QE_then_r ?_
      refine QE_blk_r ?_
      refine QE_then_r ?_
      refine QE_then_r ?_
      refine QE_blk_r ?_
      refine QE_then_r ?_
      cases h
      exact QE_ret4 rfl rfl rfl rfl rfl ⟨.slice none 0 0, .slice none 0 0, .slice none 0 0, rfl, (((hS.nil e8).nil e8).nil e8).pick [2, 1, 0] (by decide) rfl⟩
    · have h := if_f h hb_15
      refine wpC_skip ?_
      refine QE_then_n ?_
      refine wpC_region ?_
      refine wpR_v (OpV_move rfl) rfl ?_
      refine wpR_v (OpV_move rfl) rfl ?_
      refine wpR_v (OpV_ixB Try.underlying37 sz22 rfl rfl (by decide) (by decide)) rfl ?_
      refine wpR_y (OpY_stB (i := 1) (us := [v_5]) rfl sz22 rfl rfl (cells_one (hS.ro 0 rfl).one) ⟨(hS.ro 0 rfl).one, trivial⟩ rfl hS) ?_
      intro w hS
      replace hS : St _ w0 w [own e8 v_5 x_4.1, OE.bx b_2 [v_5, .slice none 0 0, .slice none 0 0]] := hS
      refine wpR_nil ?_
      refine QE_blk_n ?_
      refine QE_then_n ?_
      refine wpC_region ?_
      refine wpR_v (OpV_bin rfl rfl (b_iadd _ 0 1)) rfl ?_
      refine wpR_v (OpV_move rfl) rfl ?_
      refine wpR_nil ?_
      refine QE_rnd ?_
      refine wpN_succ ?_
      refine wpC_seq ?_
      refine wpC_region ?_
      refine wpR_v (OpV_bin rfl rfl (b_ilss _ 1 3)) rfl ?_
      refine wpR_nil ?_
      refine QE_then_n ?_
      refine wpC_seq ?_
      refine wpC_condT rfl ?_
      refine wpC_skip ?_
      refine QE_then_n ?_
      refine wpC_seq ?_
      refine wpC_block ?_
      refine wpC_seq ?_
      refine wpC_region ?_
      refine wpR_v (OpV_move rfl) rfl ?_
      refine wpR_v (OpV_ixA Try.underlying38 Try.underlying9 rfl sz9 rfl rfl (by decide) (by decide) rfl) rfl ?_
      refine wpR_v (OpV_assign rfl) rfl ?_
      refine wpR_v (OpV_assign rfl) rfl ?_
      refine wpR_nil ?_
      refine QE_then_n ?_
      refine wpC_seq ?_
      refine wpC_region ?_
      refine wpR_v (OpV_move rfl) rfl ?_
      obtain ⟨x_7, hx_7, h⟩ := obind_some h
      refine wpR_call (by kernel_rfl) rfl (c_b64_Decode _ x_1.2.1   _ hx_7) rfl ?_
      rintro _ w ⟨v_8, rfl, hS1⟩
      have hS := hS.call hS1
      simp only [List.cons_append, List.nil_append] at hS
      refine wpR_v (OpV_move rfl) rfl ?_
      refine wpR_v (OpV_extract rfl rfl) rfl ?_
      refine wpR_v (OpV_extract rfl rfl) rfl ?_
      refine wpR_v (OpV_extract rfl rfl) rfl ?_
      refine wpR_v (OpV_assign rfl) rfl ?_
      refine wpR_v (OpV_assign rfl) rfl ?_
      refine wpR_v (OpV_assign rfl) rfl ?_
      refine wpR_nil ?_
      refine QE_then_n ?_
      refine wpC_seq ?_
      refine wpC_seq ?_
      refine wpC_region ?_
      refine wpR_v (OpV_move rfl) rfl ?_
      refine wpR_v (OpV_bin rfl rfl (b_ineq _ x_7.2.1 0)) rfl ?_
      refine wpR_nil ?_
      refine QE_then_n ?_
      refine wpC_cond rfl (fun hb_14 => ?_) (fun hb_14 => ?_)
      · have h := if_t h hb_14
        refine wpC_seq ?_
        refine wpC_region ?_
        refine wpR_v (OpV_move rfl) rfl ?_
        refine wpR_v (OpV_assign rfl) rfl ?_
        refine wpR_v (OpV_assign rfl) rfl ?_
        refine wpR_v (OpV_assign rfl) rfl ?_
        refine wpR_v (OpV_assign rfl) rfl ?_
        refine wpR_nil ?_
        refine QE_then_n ?_
        refine wpC_ret ?_
        refine QE_then_r ?_
        refine QE_blk_r ?_
        refine QE_then_r ?_
        refine QE_then_r ?_
        refine QE_blk_r ?_
        refine QE_then_r ?_
        cases h
        exact QE_ret4 rfl rfl rfl rfl rfl ⟨.slice none 0 0, .slice none 0 0, .slice none 0 0, rfl, (((hS.nil e8).nil e8).nil e8).pick [2, 1, 0] (by decide) rfl⟩
      · have h := if_f h hb_14
        refine wpC_skip ?_
        refine QE_then_n ?_
        refine wpC_region ?_
        refine wpR_v (OpV_move rfl) rfl ?_
        refine wpR_v (OpV_move rfl) rfl ?_
        refine wpR_v (OpV_ixB Try.underlying37 sz22 rfl rfl (by decide) (by decide)) rfl ?_
        refine wpR_y (OpY_stB (i := 2) (us := [v_8]) rfl sz22 rfl rfl (cells_one (hS.ro 0 rfl).one) ⟨(hS.ro 0 rfl).one, trivial⟩ rfl hS) ?_
        intro w hS
        replace hS : St _ w0 w [own e8 v_8 x_7.1, own e8 v_5 x_4.1, OE.bx b_2 [v_5, v_8, .slice none 0 0]] := hS
        refine wpR_nil ?_
        refine QE_blk_n ?_
        refine QE_then_n ?_
        refine wpC_region ?_
        refine wpR_v (OpV_bin rfl rfl (b_iadd _ 1 1)) rfl ?_
        refine wpR_v (OpV_move rfl) rfl ?_
        refine wpR_nil ?_
        refine QE_rnd ?_
        refine wpN_succ ?_
        refine wpC_seq ?_
        refine wpC_region ?_
        refine wpR_v (OpV_bin rfl rfl (b_ilss _ 2 3)) rfl ?_
        refine wpR_nil ?_
        refine QE_then_n ?_
        refine wpC_seq ?_
        refine wpC_condT rfl ?_
        refine wpC_skip ?_
        refine QE_then_n ?_
        refine wpC_seq ?_
        refine wpC_block ?_
        refine wpC_seq ?_
        refine wpC_region ?_
        refine wpR_v (OpV_move rfl) rfl ?_
        refine wpR_v (OpV_ixA Try.underlying38 Try.underlying9 rfl sz9 rfl rfl (by decide) (by decide) rfl) rfl ?_
        refine wpR_v (OpV_assign rfl) rfl ?_
        refine wpR_v (OpV_assign rfl) rfl ?_
        refine wpR_nil ?_
        refine QE_then_n ?_
        refine wpC_seq ?_
        refine wpC_region ?_
        refine wpR_v (OpV_move rfl) rfl ?_
        obtain ⟨x_10, hx_10, h⟩ := obind_some h
        refine wpR_call (by kernel_rfl) rfl (c_b64_Decode _ x_1.2.2.1   _ hx_10) rfl ?_
        rintro _ w ⟨v_11, rfl, hS1⟩
        have hS := hS.call hS1
        simp only [List.cons_append, List.nil_append] at hS
        refine wpR_v (OpV_move rfl) rfl ?_
        refine wpR_v (OpV_extract rfl rfl) rfl ?_
        refine wpR_v (OpV_extract rfl rfl) rfl ?_
        refine wpR_v (OpV_extract rfl rfl) rfl ?_
        refine wpR_v (OpV_assign rfl) rfl ?_
        refine wpR_v (OpV_assign rfl) rfl ?_
        refine wpR_v (OpV_assign rfl) rfl ?_
        refine wpR_nil ?_
        refine QE_then_n ?_
        refine wpC_seq ?_
        refine wpC_seq ?_
        refine wpC_region ?_
        refine wpR_v (OpV_move rfl) rfl ?_
        refine wpR_v (OpV_bin rfl rfl (b_ineq _ x_10.2.1 0)) rfl ?_
        refine wpR_nil ?_
        refine QE_then_n ?_
        refine wpC_cond rfl (fun hb_13 => ?_) (fun hb_13 => ?_)
        · have h := if_t h hb_13
          refine wpC_seq ?_
          refine wpC_region ?_
          refine wpR_v (OpV_move rfl) rfl ?_
          refine wpR_v (OpV_assign rfl) rfl ?_
          refine wpR_v (OpV_assign rfl) rfl ?_
          refine wpR_v (OpV_assign rfl) rfl ?_
          refine wpR_v (OpV_assign rfl) rfl ?_
          refine wpR_nil ?_
          refine QE_then_n ?_
          refine wpC_ret ?_
          refine QE_then_r ?_
          refine QE_blk_r ?_
          refine QE_then_r ?_
          refine QE_then_r ?_
          refine QE_blk_r ?_
          refine QE_then_r ?_
          cases h
          exact QE_ret4 rfl rfl rfl rfl rfl ⟨.slice none 0 0, .slice none 0 0, .slice none 0 0, rfl, (((hS.nil e8).nil e8).nil e8).pick [2, 1, 0] (by decide) rfl⟩
        · have h := if_f h hb_13
          refine wpC_skip ?_
          refine QE_then_n ?_
          refine wpC_region ?_
          refine wpR_v (OpV_move rfl) rfl ?_
          refine wpR_v (OpV_move rfl) rfl ?_
          refine wpR_v (OpV_ixB Try.underlying37 sz22 rfl rfl (by decide) (by decide)) rfl ?_
          refine wpR_y (OpY_stB (i := 3) (us := [v_11]) rfl sz22 rfl rfl (cells_one (hS.ro 0 rfl).one) ⟨(hS.ro 0 rfl).one, trivial⟩ rfl hS) ?_
          intro w hS
          replace hS : St _ w0 w [own e8 v_11 x_10.1, own e8 v_8 x_7.1, own e8 v_5 x_4.1, OE.bx b_2 [v_5, v_8, v_11]] := hS
          refine wpR_nil ?_
          refine QE_blk_n ?_
          refine QE_then_n ?_
          refine wpC_region ?_
          refine wpR_v (OpV_bin rfl rfl (b_iadd _ 2 1)) rfl ?_
          refine wpR_v (OpV_move rfl) rfl ?_
          refine wpR_nil ?_
          refine QE_rnd ?_
          refine wpN_succ ?_
          refine wpC_seq ?_
          refine wpC_region ?_
          refine wpR_v (OpV_bin rfl rfl (b_ilss _ 3 3)) rfl ?_
          refine wpR_nil ?_
          refine QE_then_n ?_
          refine wpC_seq ?_
          refine wpC_condF rfl ?_
          refine wpC_exit ?_
          refine QE_then_x ?_
          refine QE_then_x ?_
          refine QE_blk_x ?_
          refine QE_then_n ?_
          refine wpC_seq ?_
          refine wpC_regionT (fun w' => St [] w0 w' [own e8 v_11 x_10.1, own e8 v_8 x_7.1, own e8 v_5 x_4.1, OE.bx b_2 [v_5, v_8, v_11]]) (fun _ => true) hmix (fun _ _ _ hf => hf.2) (fun _ _ hf => hf) (by kernel_rfl) ?_
          have hS := hS.drew
          show lxE _ _ _ _ _ _ [0, 1, 2, 3, 4, 5, 6, 7, 8, 9] _ _
          refine lxE_v hS rfl rfl (fun w hS => OpV_ixB Try.underlying37 sz22 rfl rfl (by decide) (by decide)) rfl ?_
          refine lxE_v hS rfl rfl (fun w hS => OpV_ldB Try.underlying22 rfl rfl (hS.bxc 3 rfl 0)) rfl ?_
          refine lxE_v hS rfl rfl (fun w hS => OpV_ixB Try.underlying37 sz22 rfl rfl (by decide) (by decide)) rfl ?_
          refine lxE_v hS rfl rfl (fun w hS => OpV_ldB Try.underlying22 rfl rfl (hS.bxc 3 rfl 1)) rfl ?_
          refine lxE_v hS rfl rfl (fun w hS => OpV_ixB Try.underlying37 sz22 rfl rfl (by decide) (by decide)) rfl ?_
          refine lxE_v hS rfl rfl (fun w hS => OpV_ldB Try.underlying22 rfl rfl (hS.bxc 3 rfl 2)) rfl ?_
          refine lxE_v hS rfl rfl (fun w hS => OpV_assign rfl) rfl ?_
          refine lxE_v hS rfl rfl (fun w hS => OpV_assign rfl) rfl ?_
          refine lxE_v hS rfl rfl (fun w hS => OpV_assign rfl) rfl ?_
          refine lxE_v hS rfl rfl (fun w hS => OpV_assign rfl) rfl ?_
          refine lxE_nil hS ?_
          refine QE_then_n ?_
          refine wpC_ret ?_
          cases h
          exact QE_ret4 rfl rfl rfl rfl rfl ⟨v_5, v_8, v_11, rfl, hS.pick [2, 1, 0] (by decide) rfl⟩

theorem c_jws_Compact (w0 : World) (a0 : List UInt8) (a1 : List UInt8) (a2 : List UInt8) (va0 : Value) (va1 : Value) (va2 : Value) (ha0 : RP [] w0 e8 va0 a0) (ha1 : RP [] w0 e8 va1 a1) (ha2 : RP [] w0 e8 va2 a2) (r : List UInt8 × Int)
    (h : F.jws_Compact a0 a1 a2 = some r) : Calls Try.prog 10 #[va0, va1, va2] w0 (Ret fun v w => v = .tuple #[vS r.1, vI r.2] ∧ St [] w0 w []) := by
  refine calls_at 38 Try.func10 rfl rfl rfl ?_
  have hS := St.start w0
  refine wpC_le [(0, va0), (1, va1), (2, va2)] ⟨rfl, rfl, rfl, trivial⟩ ?_
  unfold F.jws_Compact at h
  refine wpC_seq ?_
  refine wpC_region ?_
  refine wpR_v (OpV_assign rfl) rfl ?_
  refine wpR_v (OpV_assign rfl) rfl ?_
  refine wpR_nil ?_
  refine QE_then_n ?_
  refine wpC_seq ?_
  refine wpC_region ?_
  refine wpR_v (OpV_assign rfl) rfl ?_
  refine wpR_nil ?_
  refine QE_then_n ?_
  refine wpC_seq ?_
  refine wpC_seq ?_
  refine wpC_region ?_
  refine wpR_v (OpV_move rfl) rfl ?_
  refine wpR_v (OpV_move rfl) rfl ?_
  refine wpR_v (OpV_move rfl) rfl ?_
  refine wpR_v (OpV_build (vs := [(0, va0, [va0]), (1, va1, [va1]), (2, va2, [va2])]) (cells := [va0, va1, va2]) rfl lay37 ⟨(cells_one (ha0.now hS.fr).one), (cells_one (ha1.now hS.fr).one), (cells_one (ha2.now hS.fr).one), trivial⟩ rfl) rfl ?_
  refine wpR_v (OpV_move rfl) rfl ?_
  refine wpR_nil ?_
  refine QE_then_n ?_
  refine wpC_block ?_
  refine wpC_loop 100 ?_
  refine wpN_succ ?_
  refine wpC_seq ?_
  refine wpC_region ?_
  refine wpR_v (OpV_bin rfl rfl (b_ilss _ 0 3)) rfl ?_
  refine wpR_nil ?_
  refine QE_then_n ?_
  refine wpC_seq ?_
  refine wpC_condT rfl ?_
  refine wpC_skip ?_
  refine QE_then_n ?_
  refine wpC_seq ?_
  refine wpC_block ?_
  refine wpC_seq ?_
  refine wpC_region ?_
  refine wpR_v (OpV_ixA Try.underlying37 Try.underlying22 rfl sz22 rfl rfl (by decide) (by decide) rfl) rfl ?_
  refine wpR_v (OpV_assign rfl) rfl ?_
  refine wpR_nil ?_
  refine QE_then_n ?_
  refine wpC_region ?_
  refine wpR_v (OpV_move rfl) rfl ?_
  refine wpR_v (OpV_move rfl) rfl ?_
  refine wpR_v (OpV_len Try.underlying22 rfl (ha0.now hS.fr)) rfl ?_
  refine wpR_v (OpV_bin rfl rfl (b_imul _ (a0.length : Int) 4)) rfl ?_
  refine wpR_v (OpV_bin rfl rfl (b_iadd _ (wI ((a0.length : Int) * 4)) 2)) rfl ?_
  refine wpR_v (OpV_bin rfl rfl (b_iquo _ (wI ((wI ((a0.length : Int) * 4)) + 2)) 3 (by decide))) rfl ?_
  refine wpR_v (OpV_bin rfl rfl (b_iadd _ 2 (wI (Int.tdiv (wI ((wI ((a0.length : Int) * 4)) + 2)) 3)))) rfl ?_
  obtain ⟨x_1, hx_1, h⟩ := olet_some h
  refine wpR_v (OpV_assign (v := vI x_1) (by rw [← hx_1]; rfl)) rfl ?_
  refine wpR_nil ?_
  refine QE_blk_n ?_
  refine QE_then_n ?_
  refine wpC_region ?_
  refine wpR_v (OpV_bin rfl rfl (b_iadd _ 0 1)) rfl ?_
  refine wpR_v (OpV_move rfl) rfl ?_
  refine wpR_nil ?_
  refine QE_rnd ?_
  refine wpN_succ ?_
  refine wpC_seq ?_
  refine wpC_region ?_
  refine wpR_v (OpV_bin rfl rfl (b_ilss _ 1 3)) rfl ?_
  refine wpR_nil ?_
  refine QE_then_n ?_
  refine wpC_seq ?_
  refine wpC_condT rfl ?_
  refine wpC_skip ?_
  refine QE_then_n ?_
  refine wpC_seq ?_
  refine wpC_block ?_
  refine wpC_seq ?_
  refine wpC_region ?_
  refine wpR_v (OpV_ixA Try.underlying37 Try.underlying22 rfl sz22 rfl rfl (by decide) (by decide) rfl) rfl ?_
  refine wpR_v (OpV_assign rfl) rfl ?_
  refine wpR_nil ?_
  refine QE_then_n ?_
  refine wpC_region ?_
  refine wpR_v (OpV_move rfl) rfl ?_
  refine wpR_v (OpV_move rfl) rfl ?_
  refine wpR_v (OpV_len Try.underlying22 rfl (ha1.now hS.fr)) rfl ?_
  refine wpR_v (OpV_bin rfl rfl (b_imul _ (a1.length : Int) 4)) rfl ?_
  refine wpR_v (OpV_bin rfl rfl (b_iadd _ (wI ((a1.length : Int) * 4)) 2)) rfl ?_
  refine wpR_v (OpV_bin rfl rfl (b_iquo _ (wI ((wI ((a1.length : Int) * 4)) + 2)) 3 (by decide))) rfl ?_
  refine wpR_v (OpV_bin rfl rfl (b_iadd _ x_1 (wI (Int.tdiv (wI ((wI ((a1.length : Int) * 4)) + 2)) 3)))) rfl ?_
  obtain ⟨x_2, hx_2, h⟩ := olet_some h
  refine wpR_v (OpV_assign (v := vI x_2) (by rw [← hx_2]; rfl)) rfl ?_
  refine wpR_nil ?_
  refine QE_blk_n ?_
  refine QE_then_n ?_
  refine wpC_region ?_
  refine wpR_v (OpV_bin rfl rfl (b_iadd _ 1 1)) rfl ?_
  refine wpR_v (OpV_move rfl) rfl ?_
  refine wpR_nil ?_
  refine QE_rnd ?_
  refine wpN_succ ?_
  refine wpC_seq ?_
  refine wpC_region ?_
  refine wpR_v (OpV_bin rfl rfl (b_ilss _ 2 3)) rfl ?_
  refine wpR_nil ?_
  refine QE_then_n ?_
  refine wpC_seq ?_
  refine wpC_condT rfl ?_
  refine wpC_skip ?_
  refine QE_then_n ?_
  refine wpC_seq ?_
  refine wpC_block ?_
  refine wpC_seq ?_
  refine wpC_region ?_
  refine wpR_v (OpV_ixA Try.underlying37 Try.underlying22 rfl sz22 rfl rfl (by decide) (by decide) rfl) rfl ?_
  refine wpR_v (OpV_assign rfl) rfl ?_
  refine wpR_nil ?_
  refine QE_then_n ?_
  refine wpC_region ?_
  refine wpR_v (OpV_move rfl) rfl ?_
  refine wpR_v (OpV_move rfl) rfl ?_
  refine wpR_v (OpV_len Try.underlying22 rfl (ha2.now hS.fr)) rfl ?_
  refine wpR_v (OpV_bin rfl rfl (b_imul _ (a2.length : Int) 4)) rfl ?_
  refine wpR_v (OpV_bin rfl rfl (b_iadd _ (wI ((a2.length : Int) * 4)) 2)) rfl ?_
  refine wpR_v (OpV_bin rfl rfl (b_iquo _ (wI ((wI ((a2.length : Int) * 4)) + 2)) 3 (by decide))) rfl ?_
  refine wpR_v (OpV_bin rfl rfl (b_iadd _ x_2 (wI (Int.tdiv (wI ((wI ((a2.length : Int) * 4)) + 2)) 3)))) rfl ?_
  obtain ⟨x_3, hx_3, h⟩ := olet_some h
  refine wpR_v (OpV_assign (v := vI x_3) (by rw [← hx_3]; rfl)) rfl ?_
  refine wpR_nil ?_
  refine QE_blk_n ?_
  refine QE_then_n ?_
  refine wpC_region ?_
  refine wpR_v (OpV_bin rfl rfl (b_iadd _ 2 1)) rfl ?_
  refine wpR_v (OpV_move rfl) rfl ?_
  refine wpR_nil ?_
  refine QE_rnd ?_
  refine wpN_succ ?_
  refine wpC_seq ?_
  refine wpC_region ?_
  refine wpR_v (OpV_bin rfl rfl (b_ilss _ 3 3)) rfl ?_
  refine wpR_nil ?_
  refine QE_then_n ?_
  refine wpC_seq ?_
  refine wpC_condF rfl ?_
  refine wpC_exit ?_
  refine QE_then_x ?_
  refine QE_then_x ?_
  refine QE_blk_x ?_
  refine QE_then_n ?_
  refine wpC_seq ?_
  refine wpC_seq ?_
  refine wpC_region ?_
  refine wpR_v (OpV_move rfl) rfl ?_
  refine wpR_v (OpV_bin rfl rfl (b_igtr _ x_3 65536)) rfl ?_
  refine wpR_nil ?_
  refine QE_then_n ?_
  refine wpC_cond rfl (fun hb_11 => ?_) (fun hb_11 => ?_)
  · have h := if_t h hb_11
    refine wpC_seq ?_
    refine wpC_region ?_
    refine wpR_v (OpV_assign rfl) rfl ?_
    refine wpR_v (OpV_assign rfl) rfl ?_
    refine wpR_nil ?_
    refine QE_then_n ?_
    refine wpC_ret ?_
    refine QE_then_r ?_
    cases h
    exact QE_ret2 rfl rfl rfl ⟨rfl, hS⟩
  · have h := if_f h hb_11
    refine wpC_skip ?_
    refine QE_then_n ?_
    refine wpC_seq ?_
    refine wpC_region ?_
    refine wpR_v (OpV_move rfl) rfl ?_
    obtain ⟨x_4, hx_4, h⟩ := obind_some h
    refine wpR_call (by kernel_rfl) rfl (c_b64_Encode _ a0 va0 (ha0.now hS.fr).rp _ hx_4) rfl ?_
    rintro _ w ⟨rfl, hS1⟩
    have hS := hS.call hS1
    simp only [List.nil_append] at hS
    obtain ⟨x_5, hx_5, h⟩ := obind_some h
    refine wpR_v (OpV_bin rfl rfl (G_sadd _ hx_5)) rfl ?_
    refine wpR_v (OpV_move rfl) rfl ?_
    obtain ⟨x_6, hx_6, h⟩ := obind_some h
    refine wpR_call (by kernel_rfl) rfl (c_b64_Encode _ a1 va1 (ha1.now hS.fr).rp _ hx_6) rfl ?_
    rintro _ w ⟨rfl, hS1⟩
    have hS := hS.call hS1
    simp only [List.nil_append] at hS
    obtain ⟨x_7, hx_7, h⟩ := obind_some h
    refine wpR_v (OpV_bin rfl rfl (G_sadd _ hx_7)) rfl ?_
    obtain ⟨x_8, hx_8, h⟩ := obind_some h
    refine wpR_v (OpV_bin rfl rfl (G_sadd _ hx_8)) rfl ?_
    refine wpR_v (OpV_move rfl) rfl ?_
    obtain ⟨x_9, hx_9, h⟩ := obind_some h
    refine wpR_call (by kernel_rfl) rfl (c_b64_Encode _ a2 va2 (ha2.now hS.fr).rp _ hx_9) rfl ?_
    rintro _ w ⟨rfl, hS1⟩
    have hS := hS.call hS1
    simp only [List.nil_append] at hS
    obtain ⟨x_10, hx_10, h⟩ := obind_some h
    refine wpR_v (OpV_bin rfl rfl (G_sadd _ hx_10)) rfl ?_
    refine wpR_v (OpV_assign rfl) rfl ?_
    refine wpR_v (OpV_assign rfl) rfl ?_
    refine wpR_nil ?_
    refine QE_then_n ?_
    refine wpC_ret ?_
    cases h
    exact QE_ret2 rfl rfl rfl ⟨rfl, hS⟩
end Go.Proofs
