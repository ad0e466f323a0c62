/- Walks: each Go function of package ref30 computes its plain function. Written by a program of ours. -/
import Derived.Test.YtcdneplfgppapaaDoorUW0
import Derived.Test.YtcdneplfgppapaaDoorGkFref30
import Derived.Test.YtcdneplfgppapaaDoorUWref30b
set_option linter.unusedVariables false
set_option linter.unusedSimpArgs false
set_option linter.unusedVariables false
set_option maxRecDepth 4000
namespace Go.Proofs
open Go Go.RowKit Go.Gk

theorem c_ref30_Print (w0 : World) (a0 : List (Int × UInt64 × (List UInt8) × Int)) (va0 : Value) (ha0 : RP [] w0 (eP eI (eP e64 (eP eS eI))) va0 a0) (r : List UInt8 × Int)
    (h : F.ref30_Print a0 = some r) : Calls Tryd.prog 18 #[va0] w0 (Ret fun v w => ∃ u0 : Value, v = .tuple #[u0, vI r.2] ∧ St [] w0 w [red e8 u0 r.1]) := by
  refine calls_at 24 Tryd.func18 rfl rfl rfl ?_
  have hS := St.start w0
  refine wpC_le [(0, va0)] ⟨rfl, trivial⟩ ?_
  unfold F.ref30_Print at h
  refine wpC_seq ?_
  refine wpC_region ?_
  refine wpR_v (OpV_assign rfl) rfl ?_
  refine wpR_v (OpV_assign rfl) rfl ?_
  refine wpR_nil ?_
  refine QE_then_n ?_
  refine wpC_seq ?_
  refine wpC_region ?_
  refine wpR_v (OpV_move rfl) rfl ?_
  obtain ⟨x_1, hx_1, h⟩ := obind_some h
  refine wpR_call (by kernel_rfl) rfl (c_ref30_said _ a0 0 0 va0  (ha0.now hS.fr).rp _ hx_1) rfl ?_
  rintro _ w ⟨rfl, hS1⟩
  have hS := hS.call hS1
  simp only [List.cons_append, List.nil_append] at hS
  refine wpR_x (OpX_alloc (cs := [vS [], vI 0]) tz58 rfl hS) rfl ?_
  rintro _ w ⟨b_2, rfl, hS⟩
  refine wpR_y (OpY_stB (i := 0) (us := [vS x_1.1, vI x_1.2]) rfl sz58 rfl rfl rfl ⟨rfl, rfl, trivial⟩ rfl hS) ?_
  intro w hS
  replace hS : St _ w0 w [OE.bx b_2 [vS x_1.1, vI x_1.2]] := hS
  refine wpR_nil ?_
  refine QE_then_n ?_
  refine wpC_seq ?_
  refine seq_join (r := r) (fun (g : Bool) L w => L = [(4, pB b_2 0), (16, vB g)] ∧ St [] w0 w [OE.bx b_2 [vS x_1.1, vI x_1.2]]) (F.ref30_Print_K1 x_1) ?_ ?_
  · rintro x_5 L w hJ h
    try dsimp only at hJ
    obtain ⟨rfl, hS⟩ := hJ
    unfold F.ref30_Print_K1 at h
    refine wpC_cond rfl (fun hb_10 => ?_) (fun hb_10 => ?_)
    · have h := if_t h hb_10
      refine wpC_seq ?_
      refine wpC_region ?_
      refine wpR_v (OpV_assign rfl) rfl ?_
      refine wpR_v (OpV_assign rfl) rfl ?_
      refine wpR_nil ?_
      refine QE_then_n ?_
      refine wpC_ret ?_
      refine QE_then_r ?_
      cases h
      exact QE_ret2 rfl rfl rfl ⟨.slice none 0 0, rfl, (hS.rnil e8).pick [0] (by decide) rfl⟩
    · have h := if_f h hb_10
      refine wpC_skip ?_
      refine QE_then_n ?_
      refine wpC_seq ?_
      refine wpC_seq ?_
      refine wpC_region ?_
      refine wpR_v (OpV_fieldB (k := 0) Tryd.underlying58 rfl rfl nz9 rfl) rfl ?_
      refine wpR_v (OpV_ldB Tryd.underlying9 rfl rfl (hS.bxc 0 rfl 0)) rfl ?_
      refine wpR_v (OpV_lenS Tryd.underlying9 rfl) rfl ?_
      refine wpR_v (OpV_bin rfl rfl (b_igtr _ (x_1.1.length : Int) 65536)) rfl ?_
      refine wpR_nil ?_
      refine QE_then_n ?_
      refine wpC_cond rfl (fun hb_9 => ?_) (fun hb_9 => ?_)
      · have h := if_t h hb_9
        refine wpC_seq ?_
        refine wpC_region ?_
        refine wpR_v (OpV_assign rfl) rfl ?_
        refine wpR_v (OpV_assign rfl) rfl ?_
        refine wpR_nil ?_
        refine QE_then_n ?_
        refine wpC_ret ?_
        refine QE_then_r ?_
        cases h
        exact QE_ret2 rfl rfl rfl ⟨.slice none 0 0, rfl, (hS.rnil e8).pick [0] (by decide) rfl⟩
      · have h := if_f h hb_9
        refine wpC_skip ?_
        refine QE_then_n ?_
        refine wpC_seq ?_
        refine wpC_region ?_
        refine wpR_v (OpV_fieldB (k := 0) Tryd.underlying58 rfl rfl nz9 rfl) rfl ?_
        refine wpR_v (OpV_ldB Tryd.underlying9 rfl rfl (hS.bxc 0 rfl 0)) rfl ?_
        refine wpR_x (OpX_bytes Tryd.underlying9 Tryd.underlying25 Tryd.underlying5 rfl hS) rfl ?_
        rintro v_7 w hS
        refine wpR_v (OpV_assign rfl) rfl ?_
        refine wpR_v (OpV_assign rfl) rfl ?_
        refine wpR_nil ?_
        refine QE_then_n ?_
        refine wpC_ret ?_
        cases h
        exact QE_ret2 rfl rfl rfl ⟨v_7, rfl, hS.pick [0] (by decide) rfl⟩
  · intro hK_6
    refine wpC_region ?_
    refine wpR_v (OpV_fieldB (k := 1) Tryd.underlying58 rfl rfl nz3 rfl) rfl ?_
    refine wpR_v (OpV_ldB Tryd.underlying3 rfl rfl (hS.bxc 0 rfl 1)) rfl ?_
    refine wpR_v (OpV_move rfl) rfl ?_
    refine wpR_v (OpV_len Tryd.underlying22 rfl (ha0.now hS.fr)) rfl ?_
    refine wpR_v (OpV_bin rfl rfl (b_ineq _ x_1.2 (a0.length : Int))) rfl ?_
    refine wpR_v (OpV_move rfl) rfl ?_
    cases hb_4 : (x_1.2 != (a0.length : Int))
    case true =>
      have h := if_t h hb_4
      try simp only [hb_4]
      refine wpR_gskip (b := true) (t := 12) rfl rfl rfl rfl ?_
      refine wpR_gskip (b := true) (t := 12) rfl rfl rfl rfl ?_
      refine wpR_gskip (b := true) (t := 12) rfl rfl rfl rfl ?_
      refine wpR_v (OpV_pickT rfl rfl) rfl ?_
      refine wpR_nil ?_
      refine QE_then_n ?_
      exact wpC_le _ (by exact ⟨rfl, rfl, trivial⟩) (hK_6 true _ _ ⟨rfl, hS⟩ h)
    case false =>
      have h := if_f h hb_4
      try simp only [hb_4]
      refine wpR_gv (t := 12) rfl rfl (OpV_fieldB (k := 1) Tryd.underlying58 rfl rfl nz3 rfl) rfl ?_
      refine wpR_gv (t := 12) rfl rfl (OpV_ldB Tryd.underlying3 rfl rfl (hS.bxc 0 rfl 1)) rfl ?_
      refine wpR_gv (t := 12) rfl rfl (OpV_bin rfl rfl (b_ileq _ x_1.2 0)) rfl ?_
      refine wpR_v (OpV_pickF rfl rfl) rfl ?_
      refine wpR_nil ?_
      refine QE_then_n ?_
      exact wpC_le _ (by exact ⟨rfl, rfl, trivial⟩) (hK_6 (decide (x_1.2 ≤ 0)) _ _ ⟨rfl, hS⟩ h)

theorem c_ref30_Shaped (w0 : World) (a0 : List (Int × UInt64 × (List UInt8) × Int)) (va0 : Value) (ha0 : RP [] w0 (eP eI (eP e64 (eP eS eI))) va0 a0) (r : Bool)
    (h : F.ref30_Shaped a0 = some r) : Calls Tryd.prog 20 #[va0] w0 (Ret fun v w => v = vB r ∧ St [] w0 w []) := by
  refine calls_at 16 Tryd.func20 rfl rfl rfl ?_
  have hS := St.start w0
  refine wpC_le [(0, va0)] ⟨rfl, trivial⟩ ?_
  unfold F.ref30_Shaped at h
  refine wpC_seq ?_
  refine wpC_region ?_
  refine wpR_v (OpV_assign rfl) rfl ?_
  refine wpR_nil ?_
  refine QE_then_n ?_
  refine wpC_seq ?_
  refine wpC_region ?_
  refine wpR_v (OpV_move rfl) rfl ?_
  obtain ⟨x_1, hx_1, h⟩ := obind_some h
  refine wpR_call (by kernel_rfl) rfl (c_ref30_said _ a0 0 0 va0  (ha0.now hS.fr).rp _ hx_1) rfl ?_
  rintro _ w ⟨rfl, hS1⟩
  have hS := hS.call hS1
  simp only [List.cons_append, List.nil_append] at hS
  refine wpR_x (OpX_alloc (cs := [vS [], vI 0]) tz58 rfl hS) rfl ?_
  rintro _ w ⟨b_2, rfl, hS⟩
  refine wpR_y (OpY_stB (i := 0) (us := [vS x_1.1, vI x_1.2]) rfl sz58 rfl rfl rfl ⟨rfl, rfl, trivial⟩ rfl hS) ?_
  intro w hS
  replace hS : St _ w0 w [OE.bx b_2 [vS x_1.1, vI x_1.2]] := hS
  refine wpR_nil ?_
  refine QE_then_n ?_
  refine wpC_seq ?_
  refine wpC_region ?_
  refine wpR_v (OpV_fieldB (k := 1) Tryd.underlying58 rfl rfl nz3 rfl) rfl ?_
  refine wpR_v (OpV_ldB Tryd.underlying3 rfl rfl (hS.bxc 0 rfl 1)) rfl ?_
  refine wpR_v (OpV_move rfl) rfl ?_
  refine wpR_v (OpV_len Tryd.underlying22 rfl (ha0.now hS.fr)) rfl ?_
  refine wpR_v (OpV_bin rfl rfl (b_ieql _ x_1.2 (a0.length : Int))) rfl ?_
  refine wpR_v (OpV_move rfl) rfl ?_
  cases hb_4 : (x_1.2 == (a0.length : Int))
  case true =>
    have h := if_t h hb_4
    try simp only [hb_4]
    refine wpR_gv (t := 11) rfl rfl (OpV_fieldB (k := 1) Tryd.underlying58 rfl rfl nz3 rfl) rfl ?_
    refine wpR_gv (t := 11) rfl rfl (OpV_ldB Tryd.underlying3 rfl rfl (hS.bxc 0 rfl 1)) rfl ?_
    refine wpR_gv (t := 11) rfl rfl (OpV_bin rfl rfl (b_igtr _ x_1.2 0)) rfl ?_
    refine wpR_v (OpV_pickT rfl rfl) rfl ?_
    refine wpR_v (OpV_assign rfl) rfl ?_
    refine wpR_nil ?_
    refine QE_then_n ?_
    refine wpC_ret ?_
    cases h
    exact QE_ret1 rfl rfl ⟨rfl, hS.pick [] (by decide) rfl⟩
  case false =>
    have h := if_f h hb_4
    try simp only [hb_4]
    refine wpR_gskip (b := false) (t := 11) rfl rfl rfl rfl ?_
    refine wpR_gskip (b := false) (t := 11) rfl rfl rfl rfl ?_
    refine wpR_gskip (b := false) (t := 11) rfl rfl rfl rfl ?_
    refine wpR_v (OpV_pickF rfl rfl) rfl ?_
    refine wpR_v (OpV_assign rfl) rfl ?_
    refine wpR_nil ?_
    refine QE_then_n ?_
    refine wpC_ret ?_
    cases h
    exact QE_ret1 rfl rfl ⟨rfl, hS.pick [] (by decide) rfl⟩

theorem c_ref30_behind (w0 : World) (a0 : List (Int × UInt64 × (List UInt8) × Int)) (a1 : Int) (va0 : Value) (ha0 : RP [] w0 (eP eI (eP e64 (eP eS eI))) va0 a0) (r : Int)
    (h : F.ref30_behind a0 a1 = some r) : Calls Tryd.prog 44 #[va0, vI a1] w0 (Ret fun v w => v = vI r ∧ St [] w0 w []) := by
  refine calls_at 19 Tryd.func44 rfl rfl rfl ?_
  have hS := St.start w0
  refine wpC_le [(0, va0), (1, vI a1)] ⟨rfl, rfl, trivial⟩ ?_
  unfold F.ref30_behind at h
  refine wpC_seq ?_
  refine wpC_region ?_
  refine wpR_v (OpV_assign rfl) rfl ?_
  refine wpR_nil ?_
  refine QE_then_n ?_
  refine wpC_seq ?_
  refine wpC_region ?_
  refine wpR_v (OpV_assign rfl) rfl ?_
  refine wpR_nil ?_
  refine QE_then_n ?_
  refine wpC_seq ?_
  refine wpC_block ?_
  refine wpC_le [(0, va0), (1, vI a1), (5, vI 1)] ⟨rfl, rfl, rfl, trivial⟩ ?_
  refine loop_ind (F.ref30_behind_L1 a0) (fun (s : Int × Int) L w => L = [(0, va0), (1, vI s.1), (5, vI s.2)] ∧ St [] w0 w []) ?_ (a1, 1) ⟨rfl, hS⟩ h
  rintro k_9 ⟨x_1, x_2⟩ L w q_5 hI ih_4 h hk_3
  try dsimp only at hI
  obtain ⟨rfl, hS⟩ := hI
  unfold F.ref30_behind_L1 at h
  refine wpC_seq ?_
  refine wpC_seq ?_
  refine wpC_region ?_
  refine wpR_v (OpV_move rfl) rfl ?_
  refine wpR_v (OpV_bin rfl rfl (b_igtr _ x_2 0)) rfl ?_
  refine wpR_nil ?_
  refine QE_then_n ?_
  refine wpC_cond rfl (fun hb_8 => ?_) (fun hb_8 => ?_)
  · have h := if_t h hb_8
    refine wpC_skip ?_
    refine QE_then_n ?_
    refine wpC_block ?_
    refine wpC_seq ?_
    refine wpC_region ?_
    refine wpR_v (OpV_move rfl) rfl ?_
    refine wpR_v (OpV_bin rfl rfl (b_isub _ x_2 1)) rfl ?_
    refine wpR_v (OpV_move rfl) rfl ?_
    refine wpR_v (OpV_move rfl) rfl ?_
    obtain ⟨x_6, hx_6, h⟩ := obind_some h
    refine wpR_v (G_ix Tryd.underlying22 ti33 rfl rfl (ha0.now hS.fr) hx_6) rfl ?_
    refine wpR_v (OpV_fieldE (k := 3) Tryd.underlying33 rfl rfl nz3 rfl) rfl ?_
    refine wpR_v (G_loadF Tryd.underlying3 rfl rfl (ha0.now hS.fr) hx_6 rfl rfl) rfl ?_
    refine wpR_v (OpV_bin rfl rfl (b_iadd _ (wI (x_2 - 1)) x_6.2.2.2)) rfl ?_
    obtain ⟨x_7, hx_7, h⟩ := olet_some h
    refine wpR_v (OpV_assign (v := vI x_7) (by rw [← hx_7]; rfl)) rfl ?_
    refine wpR_nil ?_
    refine QE_then_n ?_
    refine wpC_region ?_
    refine wpR_v (OpV_move rfl) rfl ?_
    refine wpR_v (OpV_bin rfl rfl (b_iadd _ x_1 1)) rfl ?_
    refine wpR_v (OpV_assign rfl) rfl ?_
    refine wpR_nil ?_
    refine QE_blk_n ?_
    exact QE_rnd (wpN_le _ (by exact ⟨rfl, rfl, rfl, trivial⟩) (ih_4 (wI (x_1 + 1), x_7) _ _ ⟨rfl, hS⟩ (oinl_some h hk_3)))
  · have h := if_f h hb_8
    refine wpC_exit ?_
    refine QE_then_x ?_
    refine QE_then_x ?_
    have h := oinr_some h hk_3
    refine QE_blk_x ?_
    refine QE_then_n ?_
    refine wpC_seq ?_
    refine wpC_region ?_
    refine wpR_v (OpV_move rfl) rfl ?_
    refine wpR_v (OpV_assign rfl) rfl ?_
    refine wpR_nil ?_
    refine QE_then_n ?_
    refine wpC_ret ?_
    cases h
    exact QE_ret1 rfl rfl ⟨rfl, hS⟩

end Go.Proofs
