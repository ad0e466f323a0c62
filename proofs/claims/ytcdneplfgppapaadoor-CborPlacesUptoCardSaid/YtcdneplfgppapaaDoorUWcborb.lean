/- Walks: each Go function of package cbor computes its plain function. Written by a program of ours. -/
import Derived.Test.YtcdneplfgppapaaDoorUW0
import Derived.Test.YtcdneplfgppapaaDoorGkFcbor
import Derived.Test.YtcdneplfgppapaaDoorUWcbora
import Derived.Test.YtcdneplfgppapaaDoorUWlib
set_option linter.unusedVariables false
set_option linter.unusedSimpArgs false
set_option linter.unusedVariables false
set_option maxRecDepth 4000
namespace Go.Proofs
open Go Go.RowKit Go.Gk

theorem c_cbor_Shaped (w0 : World) (a0 : List (Int × UInt64 × (List UInt8) × Int)) (va0 : Value) (hT : TB [] w0) (ha0 : RP [] w0 (eP eI (eP e64 (eP eS eI))) va0 a0) (r : Bool)
    (h : F.cbor_Shaped a0 = some r) : Calls Tryd.prog 17 #[va0] w0 (Ret fun v w => v = vB r ∧ St [] w0 w []) := by
  refine calls_at 18 Tryd.func17 rfl rfl rfl ?_
  have hS := St.start w0
  refine wpC_le [(0, va0)] ⟨rfl, trivial⟩ ?_
  unfold F.cbor_Shaped at h
  refine wpC_seq ?_
  refine wpC_region ?_
  refine wpR_v (OpV_assign rfl) rfl ?_
  refine wpR_nil ?_
  refine QE_then_n ?_
  refine wpC_seq ?_
  refine wpC_region ?_
  refine wpR_v (OpV_move rfl) rfl ?_
  replace hS := hS.nil e8
  have hG := hS.pick (os' := [own e8 (.slice none 0 0) []] ++ []) [0] (by decide) rfl
  obtain ⟨x_2, hx_2, h⟩ := obind_some h
  refine wpR_call (by kernel_rfl) rfl (c_cbor_write _ [] a0 0 0 (.slice none 0 0) va0  _ hG.give (hT.give hG) (ha0.give (Nat.le_of_ble_eq_true rfl) hG) _ hx_2) rfl ?_
  rintro _ w ⟨v_3, rfl, hS1⟩
  have hS := hG.back hS1
  simp only [List.cons_append, List.nil_append] at hS
  refine wpR_v (OpV_move rfl) rfl ?_
  refine wpR_v (OpV_extract rfl rfl) rfl ?_
  refine wpR_v (OpV_extract rfl rfl) rfl ?_
  refine wpR_v (OpV_assign rfl) rfl ?_
  refine wpR_v (OpV_assign rfl) rfl ?_
  refine wpR_nil ?_
  refine QE_then_n ?_
  refine wpC_seq ?_
  refine wpC_region ?_
  refine wpR_v (OpV_move rfl) rfl ?_
  refine wpR_v (OpV_move rfl) rfl ?_
  refine wpR_v (OpV_len Tryd.underlying22 rfl (ha0.now hS.fr)) rfl ?_
  refine wpR_v (OpV_bin rfl rfl (b_ieql _ x_2.2 (a0.length : Int))) rfl ?_
  refine wpR_v (OpV_move rfl) rfl ?_
  cases hb_5 : (x_2.2 == (a0.length : Int))
  case true =>
    have h := if_t h hb_5
    try simp only [hb_5]
    refine wpR_gv (t := 14) rfl rfl (OpV_move rfl) rfl ?_
    refine wpR_gv (t := 14) rfl rfl (OpV_bin rfl rfl (b_igtr _ x_2.2 0)) rfl ?_
    refine wpR_v (OpV_pickT rfl rfl) rfl ?_
    refine wpR_v (OpV_assign rfl) rfl ?_
    refine wpR_nil ?_
    refine QE_then_n ?_
    refine wpC_ret ?_
    cases h
    exact QE_ret1 rfl rfl ⟨rfl, hS.pick [] (by decide) rfl⟩
  case false =>
    have h := if_f h hb_5
    try simp only [hb_5]
    refine wpR_gskip (b := false) (t := 14) rfl rfl rfl rfl ?_
    refine wpR_gskip (b := false) (t := 14) rfl rfl rfl rfl ?_
    refine wpR_v (OpV_pickF rfl rfl) rfl ?_
    refine wpR_v (OpV_assign rfl) rfl ?_
    refine wpR_nil ?_
    refine QE_then_n ?_
    refine wpC_ret ?_
    cases h
    exact QE_ret1 rfl rfl ⟨rfl, hS.pick [] (by decide) rfl⟩

theorem c_cbor_behind (w0 : World) (a0 : List (Int × UInt64 × (List UInt8) × Int)) (a1 : Int) (va0 : Value) (ha0 : RP [] w0 (eP eI (eP e64 (eP eS eI))) va0 a0) (r : Int)
    (h : F.cbor_behind a0 a1 = some r) : Calls Tryd.prog 42 #[va0, vI a1] w0 (Ret fun v w => v = vI r ∧ St [] w0 w []) := by
  refine calls_at 19 Tryd.func42 rfl rfl rfl ?_
  have hS := St.start w0
  refine wpC_le [(0, va0), (1, vI a1)] ⟨rfl, rfl, trivial⟩ ?_
  unfold F.cbor_behind at h
  refine wpC_seq ?_
  refine wpC_region ?_
  refine wpR_v (OpV_assign rfl) rfl ?_
  refine wpR_nil ?_
  refine QE_then_n ?_
  refine wpC_seq ?_
  refine wpC_seq ?_
  refine wpC_region ?_
  refine wpR_v (OpV_assign rfl) rfl ?_
  refine wpR_nil ?_
  refine QE_then_n ?_
  refine wpC_block ?_
  refine wpC_le [(0, va0), (1, vI a1), (5, vI 1)] ⟨rfl, rfl, rfl, trivial⟩ ?_
  refine loop_ind (F.cbor_behind_L1 a0) (fun (s : Int × Int) L w => L = [(0, va0), (1, vI s.1), (5, vI s.2)] ∧ St [] w0 w []) ?_ (a1, 1) ⟨rfl, hS⟩ h
  rintro k_9 ⟨x_1, x_2⟩ L w q_5 hI ih_4 h hk_3
  try dsimp only at hI
  obtain ⟨rfl, hS⟩ := hI
  unfold F.cbor_behind_L1 at h
  refine wpC_seq ?_
  refine wpC_seq ?_
  refine wpC_region ?_
  refine wpR_v (OpV_move rfl) rfl ?_
  refine wpR_v (OpV_bin rfl rfl (b_igtr _ x_2 0)) rfl ?_
  refine wpR_nil ?_
  refine QE_then_n ?_
  refine wpC_cond rfl (fun hb_8 => ?_) (fun hb_8 => ?_)
  · have h := if_t h hb_8
    refine wpC_skip ?_
    refine QE_then_n ?_
    refine wpC_seq ?_
    refine wpC_block ?_
    refine wpC_region ?_
    refine wpR_v (OpV_move rfl) rfl ?_
    refine wpR_v (OpV_move rfl) rfl ?_
    refine wpR_v (OpV_move rfl) rfl ?_
    obtain ⟨x_6, hx_6, h⟩ := obind_some h
    refine wpR_v (G_ix Tryd.underlying22 ti33 rfl rfl (ha0.now hS.fr) hx_6) rfl ?_
    refine wpR_v (OpV_fieldE (k := 3) Tryd.underlying33 rfl rfl nz3 rfl) rfl ?_
    refine wpR_v (G_loadF Tryd.underlying3 rfl rfl (ha0.now hS.fr) hx_6 rfl rfl) rfl ?_
    refine wpR_v (OpV_bin rfl rfl (b_isub _ x_6.2.2.2 1)) rfl ?_
    refine wpR_v (OpV_bin rfl rfl (b_iadd _ x_2 (wI (x_6.2.2.2 - 1)))) rfl ?_
    obtain ⟨x_7, hx_7, h⟩ := olet_some h
    refine wpR_v (OpV_assign (v := vI x_7) (by rw [← hx_7]; rfl)) rfl ?_
    refine wpR_nil ?_
    refine QE_blk_n ?_
    refine QE_then_n ?_
    refine wpC_region ?_
    refine wpR_v (OpV_move rfl) rfl ?_
    refine wpR_v (OpV_bin rfl rfl (b_iadd _ x_1 1)) rfl ?_
    refine wpR_v (OpV_assign rfl) rfl ?_
    refine wpR_nil ?_
    exact QE_rnd (wpN_le _ (by exact ⟨rfl, rfl, rfl, trivial⟩) (ih_4 (wI (x_1 + 1), x_7) _ _ ⟨rfl, hS⟩ (oinl_some h hk_3)))
  · have h := if_f h hb_8
    refine wpC_exit ?_
    refine QE_then_x ?_
    refine QE_then_x ?_
    have h := oinr_some h hk_3
    refine QE_blk_x ?_
    refine QE_then_n ?_
    refine wpC_seq ?_
    refine wpC_region ?_
    refine wpR_v (OpV_move rfl) rfl ?_
    refine wpR_v (OpV_assign rfl) rfl ?_
    refine wpR_nil ?_
    refine QE_then_n ?_
    refine wpC_ret ?_
    cases h
    exact QE_ret1 rfl rfl ⟨rfl, hS⟩

theorem c_cbor_Behind (w0 : World) (a0 : List (Int × UInt64 × (List UInt8) × Int)) (a1 : Int) (va0 : Value) (hT : TB [] w0) (ha0 : RP [] w0 (eP eI (eP e64 (eP eS eI))) va0 a0) (r : Int)
    (h : F.cbor_Behind a0 a1 = some r) : Calls Tryd.prog 27 #[va0, vI a1] w0 (Ret fun v w => v = vI r ∧ St [] w0 w []) := by
  refine calls_at 21 Tryd.func27 rfl rfl rfl ?_
  have hS := St.start w0
  refine wpC_le [(0, va0), (1, vI a1)] ⟨rfl, rfl, trivial⟩ ?_
  unfold F.cbor_Behind at h
  refine wpC_seq ?_
  refine wpC_region ?_
  refine wpR_v (OpV_assign rfl) rfl ?_
  refine wpR_nil ?_
  refine QE_then_n ?_
  refine wpC_seq ?_
  refine seq_join (r := r) (fun (g : Bool) L w => L = [(0, va0), (1, vI a1), (17, vB g)] ∧ St [] w0 w []) (F.cbor_Behind_K1 a0 a1) ?_ ?_
  · rintro x_4 L w hJ h
    try dsimp only at hJ
    obtain ⟨rfl, hS⟩ := hJ
    unfold F.cbor_Behind_K1 at h
    refine wpC_cond rfl (fun hb_7 => ?_) (fun hb_7 => ?_)
    · have h := if_t h hb_7
      refine wpC_seq ?_
      refine wpC_region ?_
      refine wpR_v (OpV_assign rfl) rfl ?_
      refine wpR_nil ?_
      refine QE_then_n ?_
      refine wpC_ret ?_
      refine QE_then_r ?_
      cases h
      exact QE_ret1 rfl rfl ⟨rfl, hS⟩
    · have h := if_f h hb_7
      refine wpC_skip ?_
      refine QE_then_n ?_
      refine wpC_seq ?_
      refine wpC_region ?_
      refine wpR_v (OpV_move rfl) rfl ?_
      refine wpR_v (OpV_move rfl) rfl ?_
      obtain ⟨x_6, hx_6, h⟩ := obind_some h
      refine wpR_call (by kernel_rfl) rfl (c_cbor_behind _ a0 a1 va0  (ha0.now hS.fr).rp _ hx_6) rfl ?_
      rintro _ w ⟨rfl, hS1⟩
      have hS := hS.call hS1
      simp only [List.cons_append, List.nil_append] at hS
      refine wpR_v (OpV_assign rfl) rfl ?_
      refine wpR_nil ?_
      refine QE_then_n ?_
      refine wpC_ret ?_
      cases h
      exact QE_ret1 rfl rfl ⟨rfl, hS⟩
  · intro hK_5
    refine wpC_region ?_
    refine wpR_v (OpV_move rfl) rfl ?_
    refine wpR_v (OpV_bin rfl rfl (b_ilss _ a1 0)) rfl ?_
    refine wpR_v (OpV_move rfl) rfl ?_
    cases hb_1 : (decide (a1 < 0))
    case true =>
      have h := if_t h hb_1
      try simp only [hb_1]
      refine wpR_gskip (b := true) (t := 7) rfl rfl rfl rfl ?_
      refine wpR_gskip (b := true) (t := 7) rfl rfl rfl rfl ?_
      refine wpR_gskip (b := true) (t := 7) rfl rfl rfl rfl ?_
      refine wpR_gskip (b := true) (t := 7) rfl rfl rfl rfl ?_
      refine wpR_v (OpV_pickT rfl rfl) rfl ?_
      refine wpR_v (OpV_move rfl) rfl ?_
      refine wpR_gskip (b := true) (t := 13) rfl rfl rfl rfl ?_
      refine wpR_gskip (b := true) (t := 13) rfl rfl rfl rfl ?_
      refine wpR_gskip (b := true) (t := 13) rfl rfl rfl rfl ?_
      refine wpR_v (OpV_pickT rfl rfl) rfl ?_
      refine wpR_nil ?_
      refine QE_then_n ?_
      exact wpC_le _ (by exact ⟨rfl, rfl, rfl, trivial⟩) (hK_5 true _ _ ⟨rfl, hS⟩ h)
    case false =>
      have h := if_f h hb_1
      try simp only [hb_1]
      refine wpR_gv (t := 7) rfl rfl (OpV_move rfl) rfl ?_
      refine wpR_gv (t := 7) rfl rfl (OpV_move rfl) rfl ?_
      refine wpR_gv (t := 7) rfl rfl (OpV_len Tryd.underlying22 rfl (ha0.now hS.fr)) rfl ?_
      refine wpR_gv (t := 7) rfl rfl (OpV_bin rfl rfl (b_igeq _ a1 (a0.length : Int))) rfl ?_
      refine wpR_v (OpV_pickF rfl rfl) rfl ?_
      refine wpR_v (OpV_move rfl) rfl ?_
      cases hb_2 : (decide ((a0.length : Int) ≤ a1))
      case true =>
        have h := if_t h hb_2
        try simp only [hb_2]
        refine wpR_gskip (b := true) (t := 13) rfl rfl rfl rfl ?_
        refine wpR_gskip (b := true) (t := 13) rfl rfl rfl rfl ?_
        refine wpR_gskip (b := true) (t := 13) rfl rfl rfl rfl ?_
        refine wpR_v (OpV_pickT rfl rfl) rfl ?_
        refine wpR_nil ?_
        refine QE_then_n ?_
        exact wpC_le _ (by exact ⟨rfl, rfl, rfl, trivial⟩) (hK_5 true _ _ ⟨rfl, hS⟩ h)
      case false =>
        have h := if_f h hb_2
        try simp only [hb_2]
        refine wpR_gv (t := 13) rfl rfl (OpV_move rfl) rfl ?_
        obtain ⟨x_3, hx_3, h⟩ := obind_some h
        refine wpR_gcall (t := 13) rfl rfl (by kernel_rfl) rfl (c_cbor_Shaped _ a0 va0  (hT.now hS.fr) (ha0.now hS.fr).rp _ hx_3) rfl ?_
        rintro _ w ⟨rfl, hS1⟩
        have hS := hS.call hS1
        simp only [List.cons_append, List.nil_append] at hS
        refine wpR_gv (t := 13) rfl rfl (OpV_un rfl (u_not x_3)) rfl ?_
        refine wpR_v (OpV_pickF rfl rfl) rfl ?_
        refine wpR_nil ?_
        refine QE_then_n ?_
        exact wpC_le _ (by exact ⟨rfl, rfl, rfl, trivial⟩) (hK_5 (!x_3) _ _ ⟨rfl, hS⟩ h)

end Go.Proofs
