import Derived.Test.YtgjpaedgcpjigaaDoorSW0
import Derived.Test.YtgjpaedgcpjigaaDoorGkFcose
import Derived.Test.YtgjpaedgcpjigaaDoorSWcborc
import Derived.Test.YtgjpaedgcpjigaaDoorSWlib
set_option linter.unusedVariables false
set_option linter.unusedSimpArgs false
set_option linter.unusedVariables false
set_option maxRecDepth 4000
namespace Go.Proofs
open Go Go.RowKit Go.Gk
theorem c_signet_cose_Claims_1 (w0 : World) (a0 : UInt64) (a1 : List Int) (c0_0 : List (Int × UInt64 × (List UInt8) × Int)) (c1_0 : Bool) (va1 : Value) (vc0_0 : Value) (bc0 : Nat) (bc1 : Nat) (S : List Nat) (hS : St S w0 w0 [OE.bx bc0 [vc0_0], OE.bx bc1 [vB c1_0]]) (hT : TB S w0) (ha1 : RP S w0 eI va1 a1) (hc0_0 : RP S w0 (eP eI (eP e64 (eP eS eI))) vc0_0 c0_0) (r : Int × Bool)
  (h : F.signet_cose_Claims_1 a0 a1 c0_0 c1_0 = some r) : Calls Tryd.prog 26 #[v64 a0, va1, pB bc0 0, pB bc1 0] w0 (Ret fun v w => v = vI r.1 ∧ St S w0 w [OE.bx bc0 [vc0_0], OE.bx bc1 [vB r.2]]) := by
 refine calls_at 29 Tryd.func26 rfl rfl rfl ?_
 refine wpC_le [(0, v64 a0), (1, va1), (2, pB bc0 0), (3, pB bc1 0)] ⟨rfl, rfl, rfl, rfl, trivial⟩ ?_
 unfold F.signet_cose_Claims_1 at h
 refine wpC_seq (wpC_region (wpR_run 1 rfl ?_))
 refine wpR_nil (QE_then_n (wpC_seq (wpC_region (wpR_v (OpV_ldB Tryd.underlying37 rfl rfl (hS.bxc 0 rfl 0)) rfl ?_))))
 refine wpR_run 1 rfl ?_
 refine wpR_v (OpV_build (vs := [(1, v64 a0, [v64 a0])]) (cells := [vI 0, v64 a0, vS [], vI 0]) rfl lay42 ⟨rfl, trivial⟩ rfl) rfl ?_
 refine wpR_x (OpX_litE (e := (eP eI (eP e64 (eP eS eI)))) (l := ([(0, a0, [], 0)] : List (Int × UInt64 × (List UInt8) × Int))) (vs := [(0, .agg #[vI 0, v64 a0, vS [], vI 0], [vI 0, v64 a0, vS [], vI 0])]) Tryd.underlying37 ti42 rfl ⟨rfl, trivial⟩ rfl rfl (Nat.le_of_ble_eq_true rfl) (Nat.le_of_ble_eq_true rfl) hS) rfl ?_
 rintro v_3 w hS
 obtain ⟨x_5, hx_5, h⟩ := obind_some h
 refine wpR_call (by kernel_rfl) rfl (c_cbor_Member _ c0_0 0 ([(0, a0, [], 0)] : List (Int × UInt64 × (List UInt8) × Int)) vc0_0 v_3  (hT.now hS.fr) (hc0_0.now hS.fr).rp (hS.ro 0 rfl).rp _ hx_5) rfl ?_
 rintro _ w ⟨rfl, hS1⟩
 have hS := hS.call hS1
 simp only [List.cons_append, List.nil_append] at hS
 refine wpR_run 1 rfl ?_
 refine wpR_nil (QE_then_n ?_)
 refine seq_join (r := r) (fun (g : Bool) L w => L = [(7, vI x_5)] ∧ St S w0 w [OE.bx bc0 [vc0_0], OE.bx bc1 [vB g]]) (F.signet_cose_Claims_1_K1 x_5) ?_ ?_
 rotate_left
 ·intro hK_11
  refine wpC_region (wpR_v (OpV_ldB Tryd.underlying4 rfl rfl (hS.bxc 2 rfl 0)) rfl ?_)
  refine wpR_run 1 rfl ?_
  cases hb_6 : c1_0
  case true =>
   have h := if_t h hb_6
   try simp only [hb_6]
   refine wpR_run 13 rfl ?_
   refine wpR_y (OpY_stB (i := 2) (us := [vB true]) rfl sz4 rfl rfl rfl ⟨rfl, trivial⟩ rfl hS) ?_
   intro w hS
   replace hS : St _ w0 w [own (eP eI (eP e64 (eP eS eI))) v_3 ([(0, a0, [], 0)] : List (Int × UInt64 × (List UInt8) × Int)), OE.bx bc0 [vc0_0], OE.bx bc1 [vB true]] := hS
   refine wpR_nil (QE_then_n ?_)
   exact wpC_le _ (by exact ⟨rfl, trivial⟩) (hK_11 true _ _ ⟨rfl, (hS.pick [1, 2] (by decide) rfl)⟩ h)
  case false =>
   have h := if_f h hb_6
   try simp only [hb_6]
   refine wpR_run 3 rfl ?_
   cases hb_7 : (decide ((0 : Int) ≤ x_5))
   case true =>
    have h := if_t h hb_7
    try simp only [hb_7]
    refine wpR_run 1 rfl ?_
    refine wpR_gv (t := 17) rfl rfl (OpV_ldB Tryd.underlying37 rfl rfl (hS.bxc 1 rfl 0)) rfl ?_
    refine wpR_run 1 rfl ?_
    obtain ⟨x_8, hx_8, h⟩ := obind_some h
    refine wpR_gv (t := 17) rfl rfl (G_ix Tryd.underlying37 ti42 rfl rfl (hc0_0.now hS.fr) hx_8) rfl ?_
    refine wpR_gv (t := 17) rfl rfl (OpV_fieldE (k := 0) Tryd.underlying42 rfl rfl nz3 rfl) rfl ?_
    refine wpR_gv (t := 17) rfl rfl (G_loadF Tryd.underlying3 rfl rfl (hc0_0.now hS.fr) hx_8 rfl rfl) rfl ?_
    obtain ⟨x_9, hx_9, h⟩ := obind_some h
    refine wpR_gcall (t := 17) rfl rfl (by kernel_rfl) rfl (c_slices_Contains_int_int _ a1 x_8.1 va1  (ha1.now hS.fr).rp _ hx_9) rfl ?_
    rintro _ w ⟨rfl, hS1⟩
    have hS := hS.call hS1
    simp only [List.cons_append, List.nil_append] at hS
    refine wpR_run 3 rfl ?_
    refine wpR_y (OpY_stB (i := 2) (us := [vB (!x_9)]) rfl sz4 rfl rfl rfl ⟨rfl, trivial⟩ rfl hS) ?_
    intro w hS
    replace hS : St _ w0 w [own (eP eI (eP e64 (eP eS eI))) v_3 ([(0, a0, [], 0)] : List (Int × UInt64 × (List UInt8) × Int)), OE.bx bc0 [vc0_0], OE.bx bc1 [vB (!x_9)]] := hS
    refine wpR_nil (QE_then_n ?_)
    exact wpC_le _ (by exact ⟨rfl, trivial⟩) (hK_11 (!x_9) _ _ ⟨rfl, (hS.pick [1, 2] (by decide) rfl)⟩ h)
   case false =>
    have h := if_f h hb_7
    try simp only [hb_7]
    refine wpR_run 10 rfl ?_
    refine wpR_y (OpY_stB (i := 2) (us := [vB false]) rfl sz4 rfl rfl rfl ⟨rfl, trivial⟩ rfl hS) ?_
    intro w hS
    replace hS : St _ w0 w [own (eP eI (eP e64 (eP eS eI))) v_3 ([(0, a0, [], 0)] : List (Int × UInt64 × (List UInt8) × Int)), OE.bx bc0 [vc0_0], OE.bx bc1 [vB false]] := hS
    refine wpR_nil (QE_then_n ?_)
    exact wpC_le _ (by exact ⟨rfl, trivial⟩) (hK_11 false _ _ ⟨rfl, (hS.pick [1, 2] (by decide) rfl)⟩ h)
 rintro x_10 L w hJ h
 try dsimp only at hJ
 obtain ⟨rfl, hS⟩ := hJ
 unfold F.signet_cose_Claims_1_K1 at h
 refine wpC_seq (wpC_region (wpR_run 2 rfl ?_))
 refine wpR_nil (QE_then_n (wpC_ret ?_))
 cases h
 exact QE_ret1 rfl rfl ⟨rfl, hS.pick [0, 1] (by decide) rfl⟩
theorem c_signet_cose_Claims_2 (w0 : World) (a0 : UInt64) (a1 : Int) (c1_0 : List (Int × UInt64 × (List UInt8) × Int)) (c2_0 : Bool) (vc1_0 : Value) (bc0 : Nat) (bc1 : Nat) (bc2 : Nat) (S : List Nat) (hS : St S w0 w0 [OE.bx bc0 [.func (.func 26) #[] #[pB bc1 0, pB bc2 0]], OE.bx bc1 [vc1_0], OE.bx bc2 [vB c2_0]]) (hT : TB S w0) (hc1_0 : RP S w0 (eP eI (eP e64 (eP eS eI))) vc1_0 c1_0) (r : List UInt8 × Bool × Bool)
  (h : F.signet_cose_Claims_2 a0 a1 c1_0 c2_0 = some r) : Calls Tryd.prog 29 #[v64 a0, vI a1, pB bc0 0, pB bc1 0] w0 (Ret fun v w => v = .tuple #[vS r.1, vB r.2.1] ∧ St S w0 w [OE.bx bc0 [.func (.func 26) #[] #[pB bc1 0, pB bc2 0]], OE.bx bc1 [vc1_0], OE.bx bc2 [vB r.2.2]]) := by
 refine calls_at 21 Tryd.func29 rfl rfl rfl ?_
 refine wpC_le [(0, v64 a0), (1, vI a1), (2, pB bc0 0), (3, pB bc1 0)] ⟨rfl, rfl, rfl, rfl, trivial⟩ ?_
 unfold F.signet_cose_Claims_2 at h
 refine wpC_seq (wpC_region (wpR_run 2 rfl ?_))
 refine wpR_nil (QE_then_n (wpC_seq (wpC_region (wpR_v (OpV_ldB Tryd.underlying63 rfl rfl (hS.bxc 0 rfl 0)) rfl ?_))))
 refine wpR_run 2 rfl ?_
 refine wpR_x (OpX_lit (e := eI) (l := ([a1] : List Int)) (vs := [vI a1]) Tryd.underlying60 ti3 rfl rfl rfl rfl (by decide) (by decide) hS) rfl ?_
 rintro v_4 w hS
 have hG := hS.pick (os' := [OE.bx bc1 [vc1_0], OE.bx bc2 [vB c2_0]] ++ [own eI v_4 ([a1] : List Int), OE.bx bc0 [.func (.func 26) #[] #[pB bc1 0, pB bc2 0]]]) [2, 3, 0, 1] (by decide) rfl
 obtain ⟨x_6, hx_6, h⟩ := obind_some h
 refine wpR_callV rfl (by kernel_rfl) rfl (c_signet_cose_Claims_1 _ a0 ([a1] : List Int) c1_0 c2_0 v_4 vc1_0 bc1 bc2 _ hG.give (hT.give hG) (hG.giveO 0 rfl) (hc1_0.give (Nat.le_of_ble_eq_true rfl) hG) _ hx_6) rfl ?_
 rintro _ w ⟨rfl, hS1⟩
 have hS := hG.back hS1
 simp only [List.cons_append, List.nil_append] at hS
 refine wpR_run 1 rfl ?_
 refine wpR_nil (QE_then_n (wpC_seq (wpC_seq (wpC_region (wpR_run 2 rfl ?_)))))
 refine wpR_nil (QE_then_n ?_)
 refine wpC_cond rfl (fun hb_8 => ?_) (fun hb_8 => ?_)
 ·have h := if_t h hb_8
  refine wpC_seq (wpC_region (wpR_run 2 rfl ?_))
  refine wpR_nil (QE_then_n (wpC_ret (QE_then_r ?_)))
  cases h
  exact QE_ret2 rfl rfl rfl ⟨rfl, hS.pick [3, 0, 1] (by decide) rfl⟩
 have h := if_f h hb_8
 refine wpC_skip (QE_then_n (wpC_seq (wpC_region (wpR_v (OpV_ldB Tryd.underlying37 rfl rfl (hS.bxc 0 rfl 0)) rfl ?_))))
 refine wpR_run 1 rfl ?_
 obtain ⟨x_7, hx_7, h⟩ := obind_some h
 refine wpR_v (G_ix Tryd.underlying37 ti42 rfl rfl (hc1_0.now hS.fr) hx_7) rfl ?_
 refine wpR_v (OpV_fieldE (k := 2) Tryd.underlying42 rfl rfl nz9 rfl) rfl ?_
 refine wpR_v (G_loadF Tryd.underlying9 rfl rfl (hc1_0.now hS.fr) hx_7 rfl rfl) rfl ?_
 refine wpR_run 2 rfl ?_
 refine wpR_nil (QE_then_n (wpC_ret ?_))
 cases h
 exact QE_ret2 rfl rfl rfl ⟨rfl, hS.pick [3, 0, 1] (by decide) rfl⟩
theorem c_signet_cose_Claims_3 (w0 : World) (a0 : UInt64) (c1_0 : Bool) (c2_0 : List (Int × UInt64 × (List UInt8) × Int)) (vc2_0 : Value) (bc0 : Nat) (bc1 : Nat) (bc2 : Nat) (S : List Nat) (hS : St S w0 w0 [OE.bx bc0 [.func (.func 26) #[] #[pB bc2 0, pB bc1 0]], OE.bx bc1 [vB c1_0], OE.bx bc2 [vc2_0]]) (hT : TB S w0) (hc2_0 : RP S w0 (eP eI (eP e64 (eP eS eI))) vc2_0 c2_0) (r : Bool × Int × Bool)
  (h : F.signet_cose_Claims_3 a0 c1_0 c2_0 = some r) : Calls Tryd.prog 30 #[v64 a0, pB bc0 0, pB bc1 0, pB bc2 0] w0 (Ret fun v w => v = .agg #[vB r.1, vI r.2.1] ∧ St S w0 w [OE.bx bc0 [.func (.func 26) #[] #[pB bc2 0, pB bc1 0]], OE.bx bc1 [vB r.2.2], OE.bx bc2 [vc2_0]]) := by
 refine calls_at 40 Tryd.func30 rfl rfl rfl ?_
 refine wpC_le [(0, v64 a0), (1, pB bc0 0), (2, pB bc1 0), (3, pB bc2 0)] ⟨rfl, rfl, rfl, rfl, trivial⟩ ?_
 unfold F.signet_cose_Claims_3 at h
 refine wpC_seq (wpC_region (wpR_x (OpX_alloc (cs := [vB false, vI 0]) tz27 rfl hS) rfl ?_))
 rintro _ w ⟨b_4, rfl, hS⟩
 refine wpR_nil (QE_then_n (wpC_seq (wpC_region (wpR_v (OpV_ldB Tryd.underlying63 rfl rfl (hS.bxc 1 rfl 0)) rfl ?_))))
 refine wpR_run 1 rfl ?_
 refine wpR_x (OpX_lit (e := eI) (l := ([0, 1] : List Int)) (vs := [vI 0, vI 1]) Tryd.underlying60 ti3 rfl rfl rfl rfl (by decide) (by decide) hS) rfl ?_
 rintro v_6 w hS
 have hG := hS.pick (os' := [OE.bx bc2 [vc2_0], OE.bx bc1 [vB c1_0]] ++ [own eI v_6 ([0, 1] : List Int), OE.bx b_4 [vB false, vI 0], OE.bx bc0 [.func (.func 26) #[] #[pB bc2 0, pB bc1 0]]]) [4, 3, 0, 1, 2] (by decide) rfl
 obtain ⟨x_8, hx_8, h⟩ := obind_some h
 refine wpR_callV rfl (by kernel_rfl) rfl (c_signet_cose_Claims_1 _ a0 ([0, 1] : List Int) c2_0 c1_0 v_6 vc2_0 bc2 bc1 _ hG.give (hT.give hG) (hG.giveO 0 rfl) (hc2_0.give (Nat.le_of_ble_eq_true rfl) hG) _ hx_8) rfl ?_
 rintro _ w ⟨rfl, hS1⟩
 have hS := hG.back hS1
 simp only [List.cons_append, List.nil_append] at hS
 refine wpR_run 1 rfl ?_
 refine wpR_nil (QE_then_n (wpC_seq (wpC_seq (wpC_region (wpR_run 2 rfl ?_)))))
 refine wpR_nil (QE_then_n ?_)
 refine wpC_cond rfl (fun hb_19 => ?_) (fun hb_19 => ?_)
 ·have h := if_t h hb_19
  refine wpC_seq (wpC_region (wpR_v (OpV_build (vs := []) (cells := [vB false, vI 0]) rfl lay27 trivial rfl) rfl ?_))
  refine wpR_y (OpY_stB (i := 3) (us := [vB false, vI 0]) rfl sz27 rfl rfl rfl ⟨rfl, rfl, trivial⟩ rfl hS) ?_
  intro w hS
  replace hS : St _ w0 w [OE.bx bc2 [vc2_0], OE.bx bc1 [vB x_8.2], own eI v_6 ([0, 1] : List Int), OE.bx b_4 [vB false, vI 0], OE.bx bc0 [.func (.func 26) #[] #[pB bc2 0, pB bc1 0]]] := hS
  refine wpR_nil (QE_then_n (wpC_ret (QE_then_r ?_)))
  cases h
  exact QE_rv1 rfl ⟨_, rfl, run_ldAgg (us := [vB false, vI 0]) Tryd.underlying27 rfl sz27 (hS.bxs 3 rfl rfl)⟩ ⟨rfl, hS.pick [4, 1, 0] (by decide) rfl⟩
 have h := if_f h hb_19
 refine wpC_skip (QE_then_n ?_)
 refine seq_join (r := r) (fun (g : Bool) L w => L = [(3, pB bc2 0), (5, pB b_4 0), (6, vI x_8.1)] ∧ St S w0 w [OE.bx bc2 [vc2_0], OE.bx b_4 [vB false, vI 0], OE.bx bc0 [.func (.func 26) #[] #[pB bc2 0, pB bc1 0]], OE.bx bc1 [vB g]]) (F.signet_cose_Claims_3_K1 c2_0 x_8) ?_ ?_
 rotate_left
 ·intro hK_12
  refine wpC_region (wpR_v (OpV_ldB Tryd.underlying4 rfl rfl (hS.bxc 1 rfl 0)) rfl ?_)
  refine wpR_run 1 rfl ?_
  cases hb_9 : x_8.2
  case true =>
   have h := if_t h hb_9
   try simp only [hb_9]
   refine wpR_run 7 rfl ?_
   refine wpR_y (OpY_stB (i := 1) (us := [vB true]) rfl sz4 rfl rfl rfl ⟨rfl, trivial⟩ rfl hS) ?_
   intro w hS
   replace hS : St _ w0 w [OE.bx bc2 [vc2_0], OE.bx bc1 [vB true], own eI v_6 ([0, 1] : List Int), OE.bx b_4 [vB false, vI 0], OE.bx bc0 [.func (.func 26) #[] #[pB bc2 0, pB bc1 0]]] := hS
   refine wpR_nil (QE_then_n ?_)
   exact wpC_le _ (by exact ⟨rfl, rfl, rfl, trivial⟩) (hK_12 true _ _ ⟨rfl, (hS.pick [0, 3, 4, 1] (by decide) rfl)⟩ h)
  case false =>
   have h := if_f h hb_9
   try simp only [hb_9]
   refine wpR_gv (t := 16) rfl rfl (OpV_ldB Tryd.underlying37 rfl rfl (hS.bxc 0 rfl 0)) rfl ?_
   refine wpR_run 1 rfl ?_
   obtain ⟨x_10, hx_10, h⟩ := obind_some h
   refine wpR_gv (t := 16) rfl rfl (G_ix Tryd.underlying37 ti42 rfl rfl (hc2_0.now hS.fr) hx_10) rfl ?_
   refine wpR_gv (t := 16) rfl rfl (OpV_fieldE (k := 1) Tryd.underlying42 rfl rfl nz40 rfl) rfl ?_
   refine wpR_gv (t := 16) rfl rfl (G_loadF Tryd.underlying40 rfl rfl (hc2_0.now hS.fr) hx_10 rfl rfl) rfl ?_
   refine wpR_gv (t := 16) rfl rfl (OpV_bin rfl rfl (b_gtr64 _ x_10.2.1 9223372036854775807)) rfl ?_
   refine wpR_run 1 rfl ?_
   refine wpR_y (OpY_stB (i := 1) (us := [vB (decide ((9223372036854775807 : UInt64) < x_10.2.1))]) rfl sz4 rfl rfl rfl ⟨rfl, trivial⟩ rfl hS) ?_
   intro w hS
   replace hS : St _ w0 w [OE.bx bc2 [vc2_0], OE.bx bc1 [vB (decide ((9223372036854775807 : UInt64) < x_10.2.1))], own eI v_6 ([0, 1] : List Int), OE.bx b_4 [vB false, vI 0], OE.bx bc0 [.func (.func 26) #[] #[pB bc2 0, pB bc1 0]]] := hS
   refine wpR_nil (QE_then_n ?_)
   exact wpC_le _ (by exact ⟨rfl, rfl, rfl, trivial⟩) (hK_12 (decide ((9223372036854775807 : UInt64) < x_10.2.1)) _ _ ⟨rfl, (hS.pick [0, 3, 4, 1] (by decide) rfl)⟩ h)
 rintro x_11 L w hJ h
 try dsimp only at hJ
 obtain ⟨rfl, hS⟩ := hJ
 unfold F.signet_cose_Claims_3_K1 at h
 refine wpC_seq (wpC_region (wpR_v (OpV_ldB Tryd.underlying37 rfl rfl (hS.bxc 0 rfl 0)) rfl ?_))
 refine wpR_run 1 rfl ?_
 obtain ⟨x_13, hx_13, h⟩ := obind_some h
 refine wpR_v (G_ix Tryd.underlying37 ti42 rfl rfl (hc2_0.now hS.fr) hx_13) rfl ?_
 refine wpR_v (OpV_fieldE (k := 1) Tryd.underlying42 rfl rfl nz40 rfl) rfl ?_
 refine wpR_v (G_loadF Tryd.underlying40 rfl rfl (hc2_0.now hS.fr) hx_13 rfl rfl) rfl ?_
 refine wpR_v (OpV_conv rfl (cv_64_i Tryd.underlying40 Tryd.underlying2 x_13.2.1)) rfl ?_
 obtain ⟨x_14, hx_14, h⟩ := olet_some h
 refine wpR_v (OpV_assign (v := vI x_14) (by rw [← hx_14]; rfl)) rfl ?_
 refine wpR_nil (QE_then_n ?_)
 refine seq_join (r := r) (fun (g : Int) L w => L = [(5, pB b_4 0), (7, vI g)] ∧ St S w0 w [OE.bx b_4 [vB false, vI 0], OE.bx bc0 [.func (.func 26) #[] #[pB bc2 0, pB bc1 0]], OE.bx bc2 [vc2_0], OE.bx bc1 [vB x_11]]) (F.signet_cose_Claims_3_K2 x_11) ?_ ?_
 rotate_left
 ·intro hK_18
  refine wpC_seq (wpC_region (wpR_v (OpV_ldB Tryd.underlying37 rfl rfl (hS.bxc 0 rfl 0)) rfl ?_))
  refine wpR_run 1 rfl ?_
  obtain ⟨x_15, hx_15, h⟩ := obind_some h
  refine wpR_v (G_ix Tryd.underlying37 ti42 rfl rfl (hc2_0.now hS.fr) hx_15) rfl ?_
  refine wpR_v (OpV_fieldE (k := 0) Tryd.underlying42 rfl rfl nz3 rfl) rfl ?_
  refine wpR_v (G_loadF Tryd.underlying3 rfl rfl (hc2_0.now hS.fr) hx_15 rfl rfl) rfl ?_
  refine wpR_run 1 rfl ?_
  refine wpR_nil (QE_then_n ?_)
  refine wpC_cond rfl (fun hb_16 => ?_) (fun hb_16 => ?_)
  ·have h := if_t h hb_16
   refine wpC_region (wpR_run 3 rfl ?_)
   refine wpR_nil (QE_then_n ?_)
   exact wpC_le _ (by exact ⟨rfl, rfl, trivial⟩) (hK_18 (wI ((-1) - x_14)) _ _ ⟨rfl, (hS.pick [1, 2, 0, 3] (by decide) rfl)⟩ h)
  have h := if_f h hb_16
  refine wpC_skip (QE_then_n ?_)
  exact wpC_le _ (by exact ⟨rfl, rfl, trivial⟩) (hK_18 x_14 _ _ ⟨rfl, (hS.pick [1, 2, 0, 3] (by decide) rfl)⟩ h)
 rintro x_17 L w hJ h
 try dsimp only at hJ
 obtain ⟨rfl, hS⟩ := hJ
 unfold F.signet_cose_Claims_3_K2 at h
 refine wpC_seq (wpC_region (wpR_run 1 rfl ?_))
 refine wpR_v (OpV_build (vs := [(0, vB true, [vB true]), (1, vI x_17, [vI x_17])]) (cells := [vB true, vI x_17]) rfl lay27 ⟨rfl, rfl, trivial⟩ rfl) rfl ?_
 refine wpR_y (OpY_stB (i := 0) (us := [vB true, vI x_17]) rfl sz27 rfl rfl rfl ⟨rfl, rfl, trivial⟩ rfl hS) ?_
 intro w hS
 replace hS : St _ w0 w [OE.bx b_4 [vB true, vI x_17], OE.bx bc0 [.func (.func 26) #[] #[pB bc2 0, pB bc1 0]], OE.bx bc2 [vc2_0], OE.bx bc1 [vB x_11]] := hS
 refine wpR_nil (QE_then_n (wpC_ret ?_))
 cases h
 exact QE_rv1 rfl ⟨_, rfl, run_ldAgg (us := [vB true, vI x_17]) Tryd.underlying27 rfl sz27 (hS.bxs 0 rfl rfl)⟩ ⟨rfl, hS.pick [1, 3, 2] (by decide) rfl⟩
theorem c_cose_Claims (w0 : World) (a0 : List UInt8) (va0 : Value) (hT : TB [] w0) (ha0 : RP [] w0 e8 va0 a0) (r : List (Int × (List UInt8) × (List UInt8) × Bool × Int × Int) × List UInt8 × Bool × List UInt8 × Bool × List (List UInt8) × Bool × List UInt8 × Bool × Bool × Int × Bool × Int × Bool × Int × Int)
  (h : F.cose_Claims a0 = some r) : Calls Tryd.prog 9 #[va0] w0 (Ret fun v w => ∃ u0_0 u0_5 : Value, v = .tuple #[.agg #[u0_0, vS r.2.1, vB r.2.2.1, vS r.2.2.2.1, vB r.2.2.2.2.1, u0_5, vB r.2.2.2.2.2.2.1, vS r.2.2.2.2.2.2.2.1, vB r.2.2.2.2.2.2.2.2.1, vB r.2.2.2.2.2.2.2.2.2.1, vI r.2.2.2.2.2.2.2.2.2.2.1, vB r.2.2.2.2.2.2.2.2.2.2.2.1, vI r.2.2.2.2.2.2.2.2.2.2.2.2.1, vB r.2.2.2.2.2.2.2.2.2.2.2.2.2.1, vI r.2.2.2.2.2.2.2.2.2.2.2.2.2.2.1], vI r.2.2.2.2.2.2.2.2.2.2.2.2.2.2.2] ∧ St [] w0 w [own (eP eI (eP eS (eP eS (eP eB (eP eI eI))))) u0_0 r.1, own eS u0_5 r.2.2.2.2.2.1]) := by
 refine calls_at 120 Tryd.func9 rfl rfl rfl ?_
 have hS := St.start w0
 refine wpC_le [(0, va0)] ⟨rfl, trivial⟩ ?_
 unfold F.cose_Claims at h
 refine wpC_seq (wpC_region (wpR_x (OpX_alloc (cs := [.slice none 0 0, vS [], vB false, vS [], vB false, .slice none 0 0, vB false, vS [], vB false, vB false, vI 0, vB false, vI 0, vB false, vI 0]) tz29 rfl hS) rfl ?_))
 rintro _ w ⟨b_1, rfl, hS⟩
 refine wpR_run 1 rfl ?_
 refine wpR_nil (QE_then_n (wpC_seq (wpC_region (wpR_run 1 rfl ?_))))
 obtain ⟨x_3, hx_3, h⟩ := obind_some h
 refine wpR_call (by kernel_rfl) rfl (c_cbor_Parse _ a0 va0  (hT.now hS.fr) (ha0.now hS.fr).rp _ hx_3) rfl ?_
 rintro _ w ⟨v_4, rfl, hS1⟩
 have hS := hS.call hS1
 simp only [List.cons_append, List.nil_append] at hS
 refine wpR_run 4 rfl ?_
 refine wpR_x (OpX_alloc (cs := [.slice none 0 0]) tz37 rfl hS) rfl ?_
 rintro _ w ⟨b_6, rfl, hS⟩
 refine wpR_y (OpY_stB (i := 0) (us := [v_4]) rfl sz37 rfl rfl (cells_one (hS.ro 1 rfl).one) ⟨(hS.ro 1 rfl).one, trivial⟩ rfl hS) ?_
 intro w hS
 replace hS : St _ w0 w [OE.bx b_6 [v_4], own (eP eI (eP e64 (eP eS eI))) v_4 x_3.1, OE.bx b_1 [.slice none 0 0, vS [], vB false, vS [], vB false, .slice none 0 0, vB false, vS [], vB false, vB false, vI 0, vB false, vI 0, vB false, vI 0]] := hS
 refine wpR_run 2 rfl ?_
 refine wpR_nil (QE_then_n (wpC_seq (wpC_seq (wpC_region (wpR_run 2 rfl ?_)))))
 refine wpR_nil (QE_then_n ?_)
 refine wpC_cond rfl (fun hb_64 => ?_) (fun hb_64 => ?_)
 ·have h := if_t h hb_64
  refine wpC_seq (wpC_region ?_)
  refine wpR_v (OpV_build (vs := []) (cells := [.slice none 0 0, vS [], vB false, vS [], vB false, .slice none 0 0, vB false, vS [], vB false, vB false, vI 0, vB false, vI 0, vB false, vI 0]) rfl lay29 trivial (by kernel_rfl)) rfl ?_
  refine wpR_run 1 rfl ?_
  refine wpR_y (OpY_stB (i := 2) (us := [.slice none 0 0, vS [], vB false, vS [], vB false, .slice none 0 0, vB false, vS [], vB false, vB false, vI 0, vB false, vI 0, vB false, vI 0]) rfl sz29 rfl rfl rfl ⟨rfl, rfl, rfl, rfl, rfl, rfl, rfl, rfl, rfl, rfl, rfl, rfl, rfl, rfl, rfl, trivial⟩ rfl hS) ?_
  intro w hS
  replace hS : St _ w0 w [OE.bx b_6 [v_4], own (eP eI (eP e64 (eP eS eI))) v_4 x_3.1, OE.bx b_1 [.slice none 0 0, vS [], vB false, vS [], vB false, .slice none 0 0, vB false, vS [], vB false, vB false, vI 0, vB false, vI 0, vB false, vI 0]] := hS
  refine wpR_run 1 rfl ?_
  refine wpR_nil (QE_then_n (wpC_ret (QE_then_r ?_)))
  cases h
  exact QE_rv2 rfl ⟨_, rfl, run_ldAgg (us := [.slice none 0 0, vS [], vB false, vS [], vB false, .slice none 0 0, vB false, vS [], vB false, vB false, vI 0, vB false, vI 0, vB false, vI 0]) Tryd.underlying29 rfl sz29 (hS.bxs 2 rfl rfl)⟩ rfl ⟨.slice none 0 0, .slice none 0 0, rfl, ((hS.nil (eP eI (eP eS (eP eS (eP eB (eP eI eI)))))).nil eS).pick [1, 0] (by decide) rfl⟩
 have h := if_f h hb_64
 refine wpC_skip (QE_then_n (wpC_seq (wpC_seq (wpC_region (wpR_v (OpV_ldB Tryd.underlying37 rfl rfl (hS.bxc 0 rfl 0)) rfl ?_)))))
 obtain ⟨x_8, hx_8, h⟩ := obind_some h
 refine wpR_v (G_ix Tryd.underlying37 ti42 rfl rfl (hS.ro 1 rfl) hx_8) rfl ?_
 refine wpR_v (OpV_fieldE (k := 0) Tryd.underlying42 rfl rfl nz3 rfl) rfl ?_
 refine wpR_v (G_loadF Tryd.underlying3 rfl rfl (hS.ro 1 rfl) hx_8 rfl rfl) rfl ?_
 refine wpR_run 1 rfl ?_
 refine wpR_nil (QE_then_n ?_)
 refine wpC_cond rfl (fun hb_63 => ?_) (fun hb_63 => ?_)
 ·have h := if_t h hb_63
  refine wpC_seq (wpC_region ?_)
  refine wpR_v (OpV_build (vs := []) (cells := [.slice none 0 0, vS [], vB false, vS [], vB false, .slice none 0 0, vB false, vS [], vB false, vB false, vI 0, vB false, vI 0, vB false, vI 0]) rfl lay29 trivial (by kernel_rfl)) rfl ?_
  refine wpR_y (OpY_stB (i := 2) (us := [.slice none 0 0, vS [], vB false, vS [], vB false, .slice none 0 0, vB false, vS [], vB false, vB false, vI 0, vB false, vI 0, vB false, vI 0]) rfl sz29 rfl rfl rfl ⟨rfl, rfl, rfl, rfl, rfl, rfl, rfl, rfl, rfl, rfl, rfl, rfl, rfl, rfl, rfl, trivial⟩ rfl hS) ?_
  intro w hS
  replace hS : St _ w0 w [OE.bx b_6 [v_4], own (eP eI (eP e64 (eP eS eI))) v_4 x_3.1, OE.bx b_1 [.slice none 0 0, vS [], vB false, vS [], vB false, .slice none 0 0, vB false, vS [], vB false, vB false, vI 0, vB false, vI 0, vB false, vI 0]] := hS
  refine wpR_run 1 rfl ?_
  refine wpR_nil (QE_then_n (wpC_ret (QE_then_r ?_)))
  cases h
  exact QE_rv2 rfl ⟨_, rfl, run_ldAgg (us := [.slice none 0 0, vS [], vB false, vS [], vB false, .slice none 0 0, vB false, vS [], vB false, vB false, vI 0, vB false, vI 0, vB false, vI 0]) Tryd.underlying29 rfl sz29 (hS.bxs 2 rfl rfl)⟩ rfl ⟨.slice none 0 0, .slice none 0 0, rfl, ((hS.nil (eP eI (eP eS (eP eS (eP eB (eP eI eI)))))).nil eS).pick [1, 0] (by decide) rfl⟩
 have h := if_f h hb_63
 refine wpC_skip (QE_then_n (wpC_seq (wpC_region (wpR_x (OpX_alloc (cs := [vB false]) tz4 rfl hS) rfl ?_))))
 rintro _ w ⟨b_9, rfl, hS⟩
 refine wpR_y (OpY_stB (i := 0) (us := [vB false]) rfl sz4 rfl rfl rfl ⟨rfl, trivial⟩ rfl hS) ?_
 intro w hS
 replace hS : St _ w0 w [OE.bx b_9 [vB false], OE.bx b_6 [v_4], own (eP eI (eP e64 (eP eS eI))) v_4 x_3.1, OE.bx b_1 [.slice none 0 0, vS [], vB false, vS [], vB false, .slice none 0 0, vB false, vS [], vB false, vB false, vI 0, vB false, vI 0, vB false, vI 0]] := hS
 refine wpR_nil (QE_then_n (wpC_seq (wpC_region (wpR_v (OpV_mkfunc (vs := [pB b_6 0, pB b_9 0]) rfl) rfl ?_))))
 refine wpR_x (OpX_alloc (cs := [.nilFunc]) tz63 rfl hS) rfl ?_
 rintro _ w ⟨b_11, rfl, hS⟩
 refine wpR_y (OpY_stB (i := 0) (us := [.func (.func 26) #[] #[pB b_6 0, pB b_9 0]]) rfl sz63 rfl rfl rfl ⟨rfl, trivial⟩ rfl hS) ?_
 intro w hS
 replace hS : St _ w0 w [OE.bx b_11 [.func (.func 26) #[] #[pB b_6 0, pB b_9 0]], OE.bx b_9 [vB false], OE.bx b_6 [v_4], own (eP eI (eP e64 (eP eS eI))) v_4 x_3.1, OE.bx b_1 [.slice none 0 0, vS [], vB false, vS [], vB false, .slice none 0 0, vB false, vS [], vB false, vB false, vI 0, vB false, vI 0, vB false, vI 0]] := hS
 refine wpR_nil (QE_then_n (wpC_seq (wpC_region (wpR_v (OpV_mkfunc (vs := [pB b_11 0, pB b_6 0]) rfl) rfl ?_))))
 refine wpR_run 1 rfl ?_
 refine wpR_nil (QE_then_n (wpC_seq (wpC_region (wpR_v (OpV_mkfunc (vs := [pB b_11 0, pB b_9 0, pB b_6 0]) rfl) rfl ?_))))
 refine wpR_run 1 rfl ?_
 refine wpR_nil (QE_then_n (wpC_seq (wpC_region (wpR_x (OpX_alloc (cs := [.slice none 0 0, vS [], vB false, vS [], vB false, .slice none 0 0, vB false, vS [], vB false, vB false, vI 0, vB false, vI 0, vB false, vI 0]) tz29 rfl hS) rfl ?_))))
 rintro _ w ⟨b_13, rfl, hS⟩
 refine wpR_nil (QE_then_n (wpC_seq (wpC_region (wpR_run 1 rfl ?_))))
 have hG := hS.pick (os' := [OE.bx b_11 [.func (.func 26) #[] #[pB b_6 0, pB b_9 0]], OE.bx b_6 [v_4], OE.bx b_9 [vB false]] ++ [OE.bx b_13 [.slice none 0 0, vS [], vB false, vS [], vB false, .slice none 0 0, vB false, vS [], vB false, vB false, vI 0, vB false, vI 0, vB false, vI 0], own (eP eI (eP e64 (eP eS eI))) v_4 x_3.1, OE.bx b_1 [.slice none 0 0, vS [], vB false, vS [], vB false, .slice none 0 0, vB false, vS [], vB false, vB false, vI 0, vB false, vI 0, vB false, vI 0]]) [1, 3, 2, 0, 4, 5] (by decide) rfl
 obtain ⟨x_15, hx_15, h⟩ := obind_some h
 refine wpR_callV rfl (by kernel_rfl) rfl (c_signet_cose_Claims_2 _ 1 3 x_3.1 false v_4 b_11 b_6 b_9 _ hG.give (hT.give hG) (hG.giveO 1 rfl) _ hx_15) rfl ?_
 rintro _ w ⟨rfl, hS1⟩
 have hS := hG.back hS1
 simp only [List.cons_append, List.nil_append] at hS
 refine wpR_run 3 rfl ?_
 refine wpR_v (OpV_fieldB (k := 1) Tryd.underlying29 rfl rfl nz9 rfl) rfl ?_
 refine wpR_y (OpY_stB (i := 3) (us := [vS x_15.1]) rfl sz9 rfl rfl rfl ⟨rfl, trivial⟩ rfl hS) ?_
 intro w hS
 replace hS : St _ w0 w [OE.bx b_11 [.func (.func 26) #[] #[pB b_6 0, pB b_9 0]], OE.bx b_6 [v_4], OE.bx b_9 [vB x_15.2.2], OE.bx b_13 [.slice none 0 0, vS x_15.1, vB false, vS [], vB false, .slice none 0 0, vB false, vS [], vB false, vB false, vI 0, vB false, vI 0, vB false, vI 0], own (eP eI (eP e64 (eP eS eI))) v_4 x_3.1, OE.bx b_1 [.slice none 0 0, vS [], vB false, vS [], vB false, .slice none 0 0, vB false, vS [], vB false, vB false, vI 0, vB false, vI 0, vB false, vI 0]] := hS
 refine wpR_v (OpV_fieldB (k := 2) Tryd.underlying29 rfl rfl nz4 rfl) rfl ?_
 refine wpR_y (OpY_stB (i := 3) (us := [vB x_15.2.1]) rfl sz4 rfl rfl rfl ⟨rfl, trivial⟩ rfl hS) ?_
 intro w hS
 replace hS : St _ w0 w [OE.bx b_11 [.func (.func 26) #[] #[pB b_6 0, pB b_9 0]], OE.bx b_6 [v_4], OE.bx b_9 [vB x_15.2.2], OE.bx b_13 [.slice none 0 0, vS x_15.1, vB x_15.2.1, vS [], vB false, .slice none 0 0, vB false, vS [], vB false, vB false, vI 0, vB false, vI 0, vB false, vI 0], own (eP eI (eP e64 (eP eS eI))) v_4 x_3.1, OE.bx b_1 [.slice none 0 0, vS [], vB false, vS [], vB false, .slice none 0 0, vB false, vS [], vB false, vB false, vI 0, vB false, vI 0, vB false, vI 0]] := hS
 refine wpR_nil (QE_then_n (wpC_seq (wpC_region (wpR_run 1 rfl ?_))))
 have hG := hS.pick (os' := [OE.bx b_11 [.func (.func 26) #[] #[pB b_6 0, pB b_9 0]], OE.bx b_6 [v_4], OE.bx b_9 [vB x_15.2.2]] ++ [OE.bx b_13 [.slice none 0 0, vS x_15.1, vB x_15.2.1, vS [], vB false, .slice none 0 0, vB false, vS [], vB false, vB false, vI 0, vB false, vI 0, vB false, vI 0], own (eP eI (eP e64 (eP eS eI))) v_4 x_3.1, OE.bx b_1 [.slice none 0 0, vS [], vB false, vS [], vB false, .slice none 0 0, vB false, vS [], vB false, vB false, vI 0, vB false, vI 0, vB false, vI 0]]) [0, 1, 2, 3, 4, 5] (by decide) rfl
 obtain ⟨x_16, hx_16, h⟩ := obind_some h
 refine wpR_callV rfl (by kernel_rfl) rfl (c_signet_cose_Claims_2 _ 2 3 x_3.1 x_15.2.2 v_4 b_11 b_6 b_9 _ hG.give (hT.give hG) (hG.giveO 1 rfl) _ hx_16) rfl ?_
 rintro _ w ⟨rfl, hS1⟩
 have hS := hG.back hS1
 simp only [List.cons_append, List.nil_append] at hS
 refine wpR_run 3 rfl ?_
 refine wpR_v (OpV_fieldB (k := 3) Tryd.underlying29 rfl rfl nz9 rfl) rfl ?_
 refine wpR_y (OpY_stB (i := 3) (us := [vS x_16.1]) rfl sz9 rfl rfl rfl ⟨rfl, trivial⟩ rfl hS) ?_
 intro w hS
 replace hS : St _ w0 w [OE.bx b_11 [.func (.func 26) #[] #[pB b_6 0, pB b_9 0]], OE.bx b_6 [v_4], OE.bx b_9 [vB x_16.2.2], OE.bx b_13 [.slice none 0 0, vS x_15.1, vB x_15.2.1, vS x_16.1, vB false, .slice none 0 0, vB false, vS [], vB false, vB false, vI 0, vB false, vI 0, vB false, vI 0], own (eP eI (eP e64 (eP eS eI))) v_4 x_3.1, OE.bx b_1 [.slice none 0 0, vS [], vB false, vS [], vB false, .slice none 0 0, vB false, vS [], vB false, vB false, vI 0, vB false, vI 0, vB false, vI 0]] := hS
 refine wpR_v (OpV_fieldB (k := 4) Tryd.underlying29 rfl rfl nz4 rfl) rfl ?_
 refine wpR_y (OpY_stB (i := 3) (us := [vB x_16.2.1]) rfl sz4 rfl rfl rfl ⟨rfl, trivial⟩ rfl hS) ?_
 intro w hS
 replace hS : St _ w0 w [OE.bx b_11 [.func (.func 26) #[] #[pB b_6 0, pB b_9 0]], OE.bx b_6 [v_4], OE.bx b_9 [vB x_16.2.2], OE.bx b_13 [.slice none 0 0, vS x_15.1, vB x_15.2.1, vS x_16.1, vB x_16.2.1, .slice none 0 0, vB false, vS [], vB false, vB false, vI 0, vB false, vI 0, vB false, vI 0], own (eP eI (eP e64 (eP eS eI))) v_4 x_3.1, OE.bx b_1 [.slice none 0 0, vS [], vB false, vS [], vB false, .slice none 0 0, vB false, vS [], vB false, vB false, vI 0, vB false, vI 0, vB false, vI 0]] := hS
 refine wpR_nil (QE_then_n (wpC_seq (wpC_region (wpR_run 1 rfl ?_))))
 have hG := hS.pick (os' := [OE.bx b_11 [.func (.func 26) #[] #[pB b_6 0, pB b_9 0]], OE.bx b_9 [vB x_16.2.2], OE.bx b_6 [v_4]] ++ [OE.bx b_13 [.slice none 0 0, vS x_15.1, vB x_15.2.1, vS x_16.1, vB x_16.2.1, .slice none 0 0, vB false, vS [], vB false, vB false, vI 0, vB false, vI 0, vB false, vI 0], own (eP eI (eP e64 (eP eS eI))) v_4 x_3.1, OE.bx b_1 [.slice none 0 0, vS [], vB false, vS [], vB false, .slice none 0 0, vB false, vS [], vB false, vB false, vI 0, vB false, vI 0, vB false, vI 0]]) [0, 2, 1, 3, 4, 5] (by decide) rfl
 obtain ⟨x_17, hx_17, h⟩ := obind_some h
 refine wpR_callV rfl (by kernel_rfl) rfl (c_signet_cose_Claims_3 _ 4 x_16.2.2 x_3.1 v_4 b_11 b_9 b_6 _ hG.give (hT.give hG) (hG.giveO 1 rfl) _ hx_17) rfl ?_
 rintro _ w ⟨rfl, hS1⟩
 have hS := hG.back hS1
 simp only [List.cons_append, List.nil_append] at hS
 refine wpR_run 1 rfl ?_
 have hG := hS.pick (os' := [OE.bx b_11 [.func (.func 26) #[] #[pB b_6 0, pB b_9 0]], OE.bx b_9 [vB x_17.2.2], OE.bx b_6 [v_4]] ++ [OE.bx b_13 [.slice none 0 0, vS x_15.1, vB x_15.2.1, vS x_16.1, vB x_16.2.1, .slice none 0 0, vB false, vS [], vB false, vB false, vI 0, vB false, vI 0, vB false, vI 0], own (eP eI (eP e64 (eP eS eI))) v_4 x_3.1, OE.bx b_1 [.slice none 0 0, vS [], vB false, vS [], vB false, .slice none 0 0, vB false, vS [], vB false, vB false, vI 0, vB false, vI 0, vB false, vI 0]]) [0, 1, 2, 3, 4, 5] (by decide) rfl
 obtain ⟨x_18, hx_18, h⟩ := obind_some h
 refine wpR_callV rfl (by kernel_rfl) rfl (c_signet_cose_Claims_3 _ 5 x_17.2.2 x_3.1 v_4 b_11 b_9 b_6 _ hG.give (hT.give hG) (hG.giveO 1 rfl) _ hx_18) rfl ?_
 rintro _ w ⟨rfl, hS1⟩
 have hS := hG.back hS1
 simp only [List.cons_append, List.nil_append] at hS
 refine wpR_run 1 rfl ?_
 have hG := hS.pick (os' := [OE.bx b_11 [.func (.func 26) #[] #[pB b_6 0, pB b_9 0]], OE.bx b_9 [vB x_18.2.2], OE.bx b_6 [v_4]] ++ [OE.bx b_13 [.slice none 0 0, vS x_15.1, vB x_15.2.1, vS x_16.1, vB x_16.2.1, .slice none 0 0, vB false, vS [], vB false, vB false, vI 0, vB false, vI 0, vB false, vI 0], own (eP eI (eP e64 (eP eS eI))) v_4 x_3.1, OE.bx b_1 [.slice none 0 0, vS [], vB false, vS [], vB false, .slice none 0 0, vB false, vS [], vB false, vB false, vI 0, vB false, vI 0, vB false, vI 0]]) [0, 1, 2, 3, 4, 5] (by decide) rfl
 obtain ⟨x_19, hx_19, h⟩ := obind_some h
 refine wpR_callV rfl (by kernel_rfl) rfl (c_signet_cose_Claims_3 _ 6 x_18.2.2 x_3.1 v_4 b_11 b_9 b_6 _ hG.give (hT.give hG) (hG.giveO 1 rfl) _ hx_19) rfl ?_
 rintro _ w ⟨rfl, hS1⟩
 have hS := hG.back hS1
 simp only [List.cons_append, List.nil_append] at hS
 refine wpR_v (OpV_fieldB (k := 9) Tryd.underlying29 rfl rfl nz27 rfl) rfl ?_
 refine wpR_y (OpY_stB (i := 3) (us := [vB x_17.1, vI x_17.2.1]) rfl sz27 rfl rfl rfl ⟨rfl, rfl, trivial⟩ rfl hS) ?_
 intro w hS
 replace hS : St _ w0 w [OE.bx b_11 [.func (.func 26) #[] #[pB b_6 0, pB b_9 0]], OE.bx b_9 [vB x_19.2.2], OE.bx b_6 [v_4], OE.bx b_13 [.slice none 0 0, vS x_15.1, vB x_15.2.1, vS x_16.1, vB x_16.2.1, .slice none 0 0, vB false, vS [], vB false, vB x_17.1, vI x_17.2.1, vB false, vI 0, vB false, vI 0], own (eP eI (eP e64 (eP eS eI))) v_4 x_3.1, OE.bx b_1 [.slice none 0 0, vS [], vB false, vS [], vB false, .slice none 0 0, vB false, vS [], vB false, vB false, vI 0, vB false, vI 0, vB false, vI 0]] := hS
 refine wpR_v (OpV_fieldB (k := 11) Tryd.underlying29 rfl rfl nz27 rfl) rfl ?_
 refine wpR_y (OpY_stB (i := 3) (us := [vB x_18.1, vI x_18.2.1]) rfl sz27 rfl rfl rfl ⟨rfl, rfl, trivial⟩ rfl hS) ?_
 intro w hS
 replace hS : St _ w0 w [OE.bx b_11 [.func (.func 26) #[] #[pB b_6 0, pB b_9 0]], OE.bx b_9 [vB x_19.2.2], OE.bx b_6 [v_4], OE.bx b_13 [.slice none 0 0, vS x_15.1, vB x_15.2.1, vS x_16.1, vB x_16.2.1, .slice none 0 0, vB false, vS [], vB false, vB x_17.1, vI x_17.2.1, vB x_18.1, vI x_18.2.1, vB false, vI 0], own (eP eI (eP e64 (eP eS eI))) v_4 x_3.1, OE.bx b_1 [.slice none 0 0, vS [], vB false, vS [], vB false, .slice none 0 0, vB false, vS [], vB false, vB false, vI 0, vB false, vI 0, vB false, vI 0]] := hS
 refine wpR_v (OpV_fieldB (k := 13) Tryd.underlying29 rfl rfl nz27 rfl) rfl ?_
 refine wpR_y (OpY_stB (i := 3) (us := [vB x_19.1, vI x_19.2.1]) rfl sz27 rfl rfl rfl ⟨rfl, rfl, trivial⟩ rfl hS) ?_
 intro w hS
 replace hS : St _ w0 w [OE.bx b_11 [.func (.func 26) #[] #[pB b_6 0, pB b_9 0]], OE.bx b_9 [vB x_19.2.2], OE.bx b_6 [v_4], OE.bx b_13 [.slice none 0 0, vS x_15.1, vB x_15.2.1, vS x_16.1, vB x_16.2.1, .slice none 0 0, vB false, vS [], vB false, vB x_17.1, vI x_17.2.1, vB x_18.1, vI x_18.2.1, vB x_19.1, vI x_19.2.1], own (eP eI (eP e64 (eP eS eI))) v_4 x_3.1, OE.bx b_1 [.slice none 0 0, vS [], vB false, vS [], vB false, .slice none 0 0, vB false, vS [], vB false, vB false, vI 0, vB false, vI 0, vB false, vI 0]] := hS
 refine wpR_nil (QE_then_n (wpC_seq (wpC_region (wpR_run 1 rfl ?_))))
 have hG := hS.pick (os' := [OE.bx b_11 [.func (.func 26) #[] #[pB b_6 0, pB b_9 0]], OE.bx b_6 [v_4], OE.bx b_9 [vB x_19.2.2]] ++ [OE.bx b_13 [.slice none 0 0, vS x_15.1, vB x_15.2.1, vS x_16.1, vB x_16.2.1, .slice none 0 0, vB false, vS [], vB false, vB x_17.1, vI x_17.2.1, vB x_18.1, vI x_18.2.1, vB x_19.1, vI x_19.2.1], own (eP eI (eP e64 (eP eS eI))) v_4 x_3.1, OE.bx b_1 [.slice none 0 0, vS [], vB false, vS [], vB false, .slice none 0 0, vB false, vS [], vB false, vB false, vI 0, vB false, vI 0, vB false, vI 0]]) [0, 2, 1, 3, 4, 5] (by decide) rfl
 obtain ⟨x_20, hx_20, h⟩ := obind_some h
 refine wpR_callV rfl (by kernel_rfl) rfl (c_signet_cose_Claims_2 _ 7 2 x_3.1 x_19.2.2 v_4 b_11 b_6 b_9 _ hG.give (hT.give hG) (hG.giveO 1 rfl) _ hx_20) rfl ?_
 rintro _ w ⟨rfl, hS1⟩
 have hS := hG.back hS1
 simp only [List.cons_append, List.nil_append] at hS
 refine wpR_run 3 rfl ?_
 refine wpR_v (OpV_fieldB (k := 7) Tryd.underlying29 rfl rfl nz9 rfl) rfl ?_
 refine wpR_y (OpY_stB (i := 3) (us := [vS x_20.1]) rfl sz9 rfl rfl rfl ⟨rfl, trivial⟩ rfl hS) ?_
 intro w hS
 replace hS : St _ w0 w [OE.bx b_11 [.func (.func 26) #[] #[pB b_6 0, pB b_9 0]], OE.bx b_6 [v_4], OE.bx b_9 [vB x_20.2.2], OE.bx b_13 [.slice none 0 0, vS x_15.1, vB x_15.2.1, vS x_16.1, vB x_16.2.1, .slice none 0 0, vB false, vS x_20.1, vB false, vB x_17.1, vI x_17.2.1, vB x_18.1, vI x_18.2.1, vB x_19.1, vI x_19.2.1], own (eP eI (eP e64 (eP eS eI))) v_4 x_3.1, OE.bx b_1 [.slice none 0 0, vS [], vB false, vS [], vB false, .slice none 0 0, vB false, vS [], vB false, vB false, vI 0, vB false, vI 0, vB false, vI 0]] := hS
 refine wpR_v (OpV_fieldB (k := 8) Tryd.underlying29 rfl rfl nz4 rfl) rfl ?_
 refine wpR_y (OpY_stB (i := 3) (us := [vB x_20.2.1]) rfl sz4 rfl rfl rfl ⟨rfl, trivial⟩ rfl hS) ?_
 intro w hS
 replace hS : St _ w0 w [OE.bx b_11 [.func (.func 26) #[] #[pB b_6 0, pB b_9 0]], OE.bx b_6 [v_4], OE.bx b_9 [vB x_20.2.2], OE.bx b_13 [.slice none 0 0, vS x_15.1, vB x_15.2.1, vS x_16.1, vB x_16.2.1, .slice none 0 0, vB false, vS x_20.1, vB x_20.2.1, vB x_17.1, vI x_17.2.1, vB x_18.1, vI x_18.2.1, vB x_19.1, vI x_19.2.1], own (eP eI (eP e64 (eP eS eI))) v_4 x_3.1, OE.bx b_1 [.slice none 0 0, vS [], vB false, vS [], vB false, .slice none 0 0, vB false, vS [], vB false, vB false, vI 0, vB false, vI 0, vB false, vI 0]] := hS
 refine wpR_nil (QE_then_n ?_)
 refine seq_join (r := r) (fun (g : Bool × List (List UInt8) × Bool) L w => ∃ (v_58 : Value), L = [(2, pB b_1 0), (7, pB b_9 0), (11, pB b_13 0)] ∧ St [] w0 w [OE.bx b_1 [.slice none 0 0, vS [], vB false, vS [], vB false, .slice none 0 0, vB false, vS [], vB false, vB false, vI 0, vB false, vI 0, vB false, vI 0], OE.bx b_9 [vB g.1], own eS v_58 g.2.1, OE.bx b_13 [.slice none 0 0, vS x_15.1, vB x_15.2.1, vS x_16.1, vB x_16.2.1, v_58, vB g.2.2, vS x_20.1, vB x_20.2.1, vB x_17.1, vI x_17.2.1, vB x_18.1, vI x_18.2.1, vB x_19.1, vI x_19.2.1]]) (F.cose_Claims_K1 x_15 x_16 x_17 x_18 x_19 x_20) ?_ ?_
 rotate_left
 ·intro hK_61
  refine wpC_seq (wpC_region (wpR_v (OpV_ldB Tryd.underlying63 rfl rfl (hS.bxc 0 rfl 0)) rfl ?_))
  refine wpR_x (OpX_lit (e := eI) (l := ([3, 4] : List Int)) (vs := [vI 3, vI 4]) Tryd.underlying60 ti3 rfl rfl rfl rfl (by decide) (by decide) hS) rfl ?_
  rintro v_21 w hS
  have hG := hS.pick (os' := [OE.bx b_6 [v_4], OE.bx b_9 [vB x_20.2.2]] ++ [own eI v_21 ([3, 4] : List Int), OE.bx b_11 [.func (.func 26) #[] #[pB b_6 0, pB b_9 0]], OE.bx b_13 [.slice none 0 0, vS x_15.1, vB x_15.2.1, vS x_16.1, vB x_16.2.1, .slice none 0 0, vB false, vS x_20.1, vB x_20.2.1, vB x_17.1, vI x_17.2.1, vB x_18.1, vI x_18.2.1, vB x_19.1, vI x_19.2.1], own (eP eI (eP e64 (eP eS eI))) v_4 x_3.1, OE.bx b_1 [.slice none 0 0, vS [], vB false, vS [], vB false, .slice none 0 0, vB false, vS [], vB false, vB false, vI 0, vB false, vI 0, vB false, vI 0]]) [2, 3, 0, 1, 4, 5, 6] (by decide) rfl
  obtain ⟨x_23, hx_23, h⟩ := obind_some h
  refine wpR_callV rfl (by kernel_rfl) rfl (c_signet_cose_Claims_1 _ 3 ([3, 4] : List Int) x_3.1 x_20.2.2 v_21 v_4 b_6 b_9 _ hG.give (hT.give hG) (hG.giveO 0 rfl) (hG.giveO 3 rfl) _ hx_23) rfl ?_
  rintro _ w ⟨rfl, hS1⟩
  have hS := hG.back hS1
  simp only [List.cons_append, List.nil_append] at hS
  refine wpR_run 1 rfl ?_
  refine wpR_nil (QE_then_n (wpC_seq (wpC_region (wpR_run 2 rfl ?_))))
  refine wpR_nil (QE_then_n ?_)
  refine wpC_cond rfl (fun hb_55 => ?_) (fun hb_55 => ?_)
  ·have h := if_t h hb_55
   refine wpC_seq (wpC_region (wpR_v (OpV_fieldB (k := 6) Tryd.underlying29 rfl rfl nz4 rfl) rfl ?_))
   refine wpR_y (OpY_stB (i := 4) (us := [vB true]) rfl sz4 rfl rfl rfl ⟨rfl, trivial⟩ rfl hS) ?_
   intro w hS
   replace hS : St _ w0 w [OE.bx b_6 [v_4], OE.bx b_9 [vB x_23.2], own eI v_21 ([3, 4] : List Int), OE.bx b_11 [.func (.func 26) #[] #[pB b_6 0, pB b_9 0]], OE.bx b_13 [.slice none 0 0, vS x_15.1, vB x_15.2.1, vS x_16.1, vB x_16.2.1, .slice none 0 0, vB true, vS x_20.1, vB x_20.2.1, vB x_17.1, vI x_17.2.1, vB x_18.1, vI x_18.2.1, vB x_19.1, vI x_19.2.1], own (eP eI (eP e64 (eP eS eI))) v_4 x_3.1, OE.bx b_1 [.slice none 0 0, vS [], vB false, vS [], vB false, .slice none 0 0, vB false, vS [], vB false, vB false, vI 0, vB false, vI 0, vB false, vI 0]] := hS
   refine wpR_nil (QE_then_n ?_)
   refine seq_join (r := r) (fun (g : List (List UInt8)) L w => ∃ (v_30 : Value), L = [(2, pB b_1 0), (4, pB b_6 0), (7, pB b_9 0), (11, pB b_13 0), (12, vI x_23.1)] ∧ St [] w0 w [OE.bx b_1 [.slice none 0 0, vS [], vB false, vS [], vB false, .slice none 0 0, vB false, vS [], vB false, vB false, vI 0, vB false, vI 0, vB false, vI 0], OE.bx b_6 [v_4], own (eP eI (eP e64 (eP eS eI))) v_4 x_3.1, OE.bx b_9 [vB x_23.2], own eS v_30 g, OE.bx b_13 [.slice none 0 0, vS x_15.1, vB x_15.2.1, vS x_16.1, vB x_16.2.1, v_30, vB true, vS x_20.1, vB x_20.2.1, vB x_17.1, vI x_17.2.1, vB x_18.1, vI x_18.2.1, vB x_19.1, vI x_19.2.1]]) (F.cose_Claims_K2 x_3 x_23 x_15 x_16 x_17 x_18 x_19 x_20) ?_ ?_
   rotate_left
   ·intro hK_32
    refine wpC_seq (wpC_region (wpR_v (OpV_ldB Tryd.underlying37 rfl rfl (hS.bxc 0 rfl 0)) rfl ?_))
    refine wpR_run 1 rfl ?_
    obtain ⟨x_24, hx_24, h⟩ := obind_some h
    refine wpR_v (G_ix Tryd.underlying37 ti42 rfl rfl (hS.ro 5 rfl) hx_24) rfl ?_
    refine wpR_v (OpV_fieldE (k := 0) Tryd.underlying42 rfl rfl nz3 rfl) rfl ?_
    refine wpR_v (G_loadF Tryd.underlying3 rfl rfl (hS.ro 5 rfl) hx_24 rfl rfl) rfl ?_
    refine wpR_run 1 rfl ?_
    refine wpR_nil (QE_then_n ?_)
    refine wpC_cond rfl (fun hb_28 => ?_) (fun hb_28 => ?_)
    ·have h := if_t h hb_28
     refine wpC_region (wpR_v (OpV_ldB Tryd.underlying37 rfl rfl (hS.bxc 0 rfl 0)) rfl ?_)
     refine wpR_run 1 rfl ?_
     obtain ⟨x_25, hx_25, h⟩ := obind_some h
     refine wpR_v (G_ix Tryd.underlying37 ti42 rfl rfl (hS.ro 5 rfl) hx_25) rfl ?_
     refine wpR_v (OpV_fieldE (k := 2) Tryd.underlying42 rfl rfl nz9 rfl) rfl ?_
     refine wpR_v (G_loadF Tryd.underlying9 rfl rfl (hS.ro 5 rfl) hx_25 rfl rfl) rfl ?_
     refine wpR_x (OpX_lit (e := eS) (l := ([x_25.2.2.1] : List (List UInt8))) (vs := [vS x_25.2.2.1]) Tryd.underlying25 ti9 rfl rfl rfl rfl (by decide) (by decide) hS) rfl ?_
     rintro v_26 w hS
     refine wpR_v (OpV_fieldB (k := 5) Tryd.underlying29 rfl rfl nz25 rfl) rfl ?_
     refine wpR_y (OpY_stB (i := 5) (us := [v_26]) rfl sz25 rfl rfl (cells_one (hS.ro 0 rfl).one) ⟨(hS.ro 0 rfl).one, trivial⟩ rfl hS) ?_
     intro w hS
     replace hS : St _ w0 w [own eS v_26 ([x_25.2.2.1] : List (List UInt8)), OE.bx b_6 [v_4], OE.bx b_9 [vB x_23.2], own eI v_21 ([3, 4] : List Int), OE.bx b_11 [.func (.func 26) #[] #[pB b_6 0, pB b_9 0]], OE.bx b_13 [.slice none 0 0, vS x_15.1, vB x_15.2.1, vS x_16.1, vB x_16.2.1, v_26, vB true, vS x_20.1, vB x_20.2.1, vB x_17.1, vI x_17.2.1, vB x_18.1, vI x_18.2.1, vB x_19.1, vI x_19.2.1], own (eP eI (eP e64 (eP eS eI))) v_4 x_3.1, OE.bx b_1 [.slice none 0 0, vS [], vB false, vS [], vB false, .slice none 0 0, vB false, vS [], vB false, vB false, vI 0, vB false, vI 0, vB false, vI 0]] := hS
     refine wpR_nil (QE_then_n ?_)
     exact wpC_le _ (by exact ⟨rfl, rfl, rfl, rfl, rfl, trivial⟩) (hK_32 ([x_25.2.2.1] : List (List UInt8)) _ _ ⟨v_26, rfl, (hS.pick [7, 1, 6, 2, 0, 5] (by decide) rfl)⟩ h)
    have h := if_f h hb_28
    refine wpC_skip (QE_then_n ?_)
    exact wpC_le _ (by exact ⟨rfl, rfl, rfl, rfl, rfl, trivial⟩) (hK_32 [] _ _ ⟨.slice none 0 0, rfl, ((hS.nil eS).pick [7, 1, 6, 2, 0, 5] (by decide) rfl)⟩ h)
   rintro x_29 L w hJ h
   try dsimp only at hJ
   obtain ⟨v_30, rfl, hS⟩ := hJ
   unfold F.cose_Claims_K2 at h
   refine wpC_seq (wpC_region (wpR_v (OpV_ldB Tryd.underlying37 rfl rfl (hS.bxc 1 rfl 0)) rfl ?_))
   refine wpR_run 1 rfl ?_
   obtain ⟨x_33, hx_33, h⟩ := obind_some h
   refine wpR_v (G_ix Tryd.underlying37 ti42 rfl rfl (hS.ro 2 rfl) hx_33) rfl ?_
   refine wpR_v (OpV_fieldE (k := 3) Tryd.underlying42 rfl rfl nz3 rfl) rfl ?_
   refine wpR_v (G_loadF Tryd.underlying3 rfl rfl (hS.ro 2 rfl) hx_33 rfl rfl) rfl ?_
   refine wpR_run 1 rfl ?_
   refine wpR_nil (QE_then_n (wpC_block ?_))
   refine wpC_le [(2, pB b_1 0), (4, pB b_6 0), (7, pB b_9 0), (11, pB b_13 0), (12, vI x_23.1), (86, vI x_33.2.2.2), (87, vI 0)] ⟨rfl, rfl, rfl, rfl, rfl, rfl, rfl, trivial⟩ ?_
   refine loop_ind (F.cose_Claims_L1 x_3 x_23 x_33 x_15 x_16 x_17 x_18 x_19 x_20) (fun (s : Int × Bool × List (List UInt8)) L w => ∃ (v_37 : Value), L = [(2, pB b_1 0), (4, pB b_6 0), (7, pB b_9 0), (11, pB b_13 0), (12, vI x_23.1), (86, vI x_33.2.2.2), (87, vI s.1)] ∧ St [] w0 w [OE.bx b_1 [.slice none 0 0, vS [], vB false, vS [], vB false, .slice none 0 0, vB false, vS [], vB false, vB false, vI 0, vB false, vI 0, vB false, vI 0], OE.bx b_6 [v_4], own (eP eI (eP e64 (eP eS eI))) v_4 x_3.1, OE.bx b_9 [vB s.2.1], own eS v_37 s.2.2, OE.bx b_13 [.slice none 0 0, vS x_15.1, vB x_15.2.1, vS x_16.1, vB x_16.2.1, v_37, vB true, vS x_20.1, vB x_20.2.1, vB x_17.1, vI x_17.2.1, vB x_18.1, vI x_18.2.1, vB x_19.1, vI x_19.2.1]]) ?_ (0, x_23.2, x_29) ⟨v_30, rfl, hS⟩ h
   rintro k_54 ⟨x_34, x_35, x_36⟩ L w q_41 hI ih_40 h hk_39
   try dsimp only at hI
   obtain ⟨v_37, rfl, hS⟩ := hI
   unfold F.cose_Claims_L1 at h
   refine wpC_seq (wpC_region (wpR_run 1 rfl ?_))
   refine wpR_nil (QE_then_n (wpC_seq ?_))
   refine wpC_cond rfl (fun hb_53 => ?_) (fun hb_53 => ?_)
   ·have h := if_t h hb_53
    refine wpC_skip (QE_then_n (wpC_seq (wpC_block ?_)))
    refine wpC_seq (wpC_region (wpR_run 2 rfl ?_))
    refine wpR_nil (QE_then_n (wpC_seq ?_))
    refine seq_join (r := q_41) (fun (g : Bool) L w => L = [(2, pB b_1 0), (4, pB b_6 0), (7, pB b_9 0), (11, pB b_13 0), (12, vI x_23.1), (13, vI x_34), (86, vI x_33.2.2.2), (87, vI x_34)] ∧ St [] w0 w [OE.bx b_1 [.slice none 0 0, vS [], vB false, vS [], vB false, .slice none 0 0, vB false, vS [], vB false, vB false, vI 0, vB false, vI 0, vB false, vI 0], OE.bx b_6 [v_4], own (eP eI (eP e64 (eP eS eI))) v_4 x_3.1, OE.bx b_9 [vB g], OE.bx b_13 [.slice none 0 0, vS x_15.1, vB x_15.2.1, vS x_16.1, vB x_16.2.1, v_37, vB true, vS x_20.1, vB x_20.2.1, vB x_17.1, vI x_17.2.1, vB x_18.1, vI x_18.2.1, vB x_19.1, vI x_19.2.1], own eS v_37 x_36]) (F.cose_Claims_K3 x_3 x_23 x_34 x_36 x_15 x_16 x_17 x_18 x_19 x_20) ?_ ?_
    rotate_left
    ·intro hK_45
     refine wpC_region (wpR_v (OpV_ldB Tryd.underlying4 rfl rfl (hS.bxc 3 rfl 0)) rfl ?_)
     refine wpR_run 1 rfl ?_
     cases hb_42 : x_35
     case true =>
      have h := if_t h hb_42
      try simp only [hb_42]
      refine wpR_run 10 rfl ?_
      refine wpR_y (OpY_stB (i := 3) (us := [vB true]) rfl sz4 rfl rfl rfl ⟨rfl, trivial⟩ rfl hS) ?_
      intro w hS
      replace hS : St _ w0 w [OE.bx b_1 [.slice none 0 0, vS [], vB false, vS [], vB false, .slice none 0 0, vB false, vS [], vB false, vB false, vI 0, vB false, vI 0, vB false, vI 0], OE.bx b_6 [v_4], own (eP eI (eP e64 (eP eS eI))) v_4 x_3.1, OE.bx b_9 [vB true], own eS v_37 x_36, OE.bx b_13 [.slice none 0 0, vS x_15.1, vB x_15.2.1, vS x_16.1, vB x_16.2.1, v_37, vB true, vS x_20.1, vB x_20.2.1, vB x_17.1, vI x_17.2.1, vB x_18.1, vI x_18.2.1, vB x_19.1, vI x_19.2.1]] := hS
      refine wpR_nil (QE_then_n ?_)
      exact wpC_le _ (by exact ⟨rfl, rfl, rfl, rfl, rfl, rfl, rfl, rfl, trivial⟩) (hK_45 true _ _ ⟨rfl, (hS.pick [0, 1, 2, 3, 5, 4] (by decide) rfl)⟩ h)
     case false =>
      have h := if_f h hb_42
      try simp only [hb_42]
      refine wpR_gv (t := 91) rfl rfl (OpV_ldB Tryd.underlying37 rfl rfl (hS.bxc 1 rfl 0)) rfl ?_
      refine wpR_run 4 rfl ?_
      obtain ⟨x_43, hx_43, h⟩ := obind_some h
      refine wpR_gv (t := 91) rfl rfl (G_ix Tryd.underlying37 ti42 rfl rfl (hS.ro 2 rfl) hx_43) rfl ?_
      refine wpR_gv (t := 91) rfl rfl (OpV_fieldE (k := 0) Tryd.underlying42 rfl rfl nz3 rfl) rfl ?_
      refine wpR_gv (t := 91) rfl rfl (G_loadF Tryd.underlying3 rfl rfl (hS.ro 2 rfl) hx_43 rfl rfl) rfl ?_
      refine wpR_run 2 rfl ?_
      refine wpR_y (OpY_stB (i := 3) (us := [vB (x_43.1 != 3)]) rfl sz4 rfl rfl rfl ⟨rfl, trivial⟩ rfl hS) ?_
      intro w hS
      replace hS : St _ w0 w [OE.bx b_1 [.slice none 0 0, vS [], vB false, vS [], vB false, .slice none 0 0, vB false, vS [], vB false, vB false, vI 0, vB false, vI 0, vB false, vI 0], OE.bx b_6 [v_4], own (eP eI (eP e64 (eP eS eI))) v_4 x_3.1, OE.bx b_9 [vB (x_43.1 != 3)], own eS v_37 x_36, OE.bx b_13 [.slice none 0 0, vS x_15.1, vB x_15.2.1, vS x_16.1, vB x_16.2.1, v_37, vB true, vS x_20.1, vB x_20.2.1, vB x_17.1, vI x_17.2.1, vB x_18.1, vI x_18.2.1, vB x_19.1, vI x_19.2.1]] := hS
      refine wpR_nil (QE_then_n ?_)
      exact wpC_le _ (by exact ⟨rfl, rfl, rfl, rfl, rfl, rfl, rfl, rfl, trivial⟩) (hK_45 (x_43.1 != 3) _ _ ⟨rfl, (hS.pick [0, 1, 2, 3, 5, 4] (by decide) rfl)⟩ h)
    rintro x_44 L w hJ h
    try dsimp only at hJ
    obtain ⟨rfl, hS⟩ := hJ
    unfold F.cose_Claims_K3 at h
    refine wpC_seq (wpC_region (wpR_v (OpV_ldB Tryd.underlying4 rfl rfl (hS.bxc 3 rfl 0)) rfl ?_))
    refine wpR_nil (QE_then_n ?_)
    refine wpC_cond rfl (fun hb_52 => ?_) (fun hb_52 => ?_)
    ·have h := if_t h hb_52
     refine wpC_exit ?_
     refine QE_then_x (QE_blk_o rfl ?_)
     refine QE_then_x (QE_then_x ?_)
     have h := oinr_some h hk_39
     refine QE_blk_x ?_
     refine QE_then_n ?_
     exact wpC_le _ (by exact ⟨rfl, rfl, rfl, trivial⟩) (hK_61 (x_44, x_36, true) _ _ ⟨v_37, rfl, (hS.pick [0, 3, 5, 4] (by decide) rfl)⟩ h)
    have h := if_f h hb_52
    refine wpC_skip (QE_then_n ?_)
    have hsh5 := (hS.ro 5 rfl).shp
    refine wpC_regionS (fun w' => St [] w0 w' [OE.bx b_1 [.slice none 0 0, vS [], vB false, vS [], vB false, .slice none 0 0, vB false, vS [], vB false, vB false, vI 0, vB false, vI 0, vB false, vI 0], OE.bx b_6 [v_4], own (eP eI (eP e64 (eP eS eI))) v_4 x_3.1, OE.bx b_9 [vB x_44], OE.bx b_13 [.slice none 0 0, vS x_15.1, vB x_15.2.1, vS x_16.1, vB x_16.2.1, v_37, vB true, vS x_20.1, vB x_20.2.1, vB x_17.1, vI x_17.2.1, vB x_18.1, vI x_18.2.1, vB x_19.1, vI x_19.2.1]]) (fun i => !([10, 11, 13].contains i)) hmix (fun _ _ _ hf => hf.2) (fun _ _ hf => hf) (by kernel_rfl) ?_
    have hS := hS.drew
    show lxE _ _ _ _ _ _ _ [0, 1, 2, 3, 4, 5, 6, 7, 8, 9, 10, 11, 12, 13] _ _
    refine lxE_v (hS.pick [0, 1, 2, 3, 4] (by decide) rfl) rfl rfl (fun w hF => OpV_fieldB (k := 5) Tryd.underlying29 rfl rfl nz25 rfl) rfl ?_
    refine lxE_v (hS.pick [0, 1, 2, 3, 4] (by decide) rfl) rfl rfl (fun w hF => OpV_ldB Tryd.underlying25 rfl rfl (hF.bxc 4 rfl 5)) rfl ?_
    refine lxE_v (hS.pick [0, 1, 2, 3, 4] (by decide) rfl) rfl rfl (fun w hF => OpV_ldB Tryd.underlying37 rfl rfl (hF.bxc 1 rfl 0)) rfl ?_
    refine lxE_v (hS.pick [0, 1, 2, 3, 4] (by decide) rfl) rfl rfl (fun w hF => OpV_move rfl) rfl ?_
    refine lxE_v (hS.pick [0, 1, 2, 3, 4] (by decide) rfl) rfl rfl (fun w hF => OpV_bin rfl rfl (b_iadd _ x_23.1 1)) rfl ?_
    refine lxE_v (hS.pick [0, 1, 2, 3, 4] (by decide) rfl) rfl rfl (fun w hF => OpV_move rfl) rfl ?_
    refine lxE_v (hS.pick [0, 1, 2, 3, 4] (by decide) rfl) rfl rfl (fun w hF => OpV_bin rfl rfl (b_iadd _ (wI (x_23.1 + 1)) x_34)) rfl ?_
    obtain ⟨x_46, hx_46, h⟩ := obind_some h
    refine lxE_v (hS.pick [0, 1, 2, 3, 4] (by decide) rfl) rfl rfl (fun w hF => G_ix Tryd.underlying37 ti42 rfl rfl (hF.ro 2 rfl) hx_46) rfl ?_
    refine lxE_v (hS.pick [0, 1, 2, 3, 4] (by decide) rfl) rfl rfl (fun w hF => OpV_fieldE (k := 2) Tryd.underlying42 rfl rfl nz9 rfl) rfl ?_
    refine lxE_v (hS.pick [0, 1, 2, 3, 4] (by decide) rfl) rfl rfl (fun w hF => G_loadF Tryd.underlying9 rfl rfl (hF.ro 2 rfl) hx_46 rfl rfl) rfl ?_
    refine lxE_x (hS.pick [0, 1, 2, 3, 4] (by decide) rfl) rfl rfl (OpX_lit (e := eS) (l := ([x_46.2.2.1] : List (List UInt8))) (vs := [vS x_46.2.2.1]) Tryd.underlying25 ti9 rfl rfl rfl rfl (by decide) (by decide) hS) rfl ?_
    rintro v_47 w hS
    obtain ⟨x_49, hx_49, h⟩ := obind_some h
    refine lxE_x (hS.pick [1, 2, 3, 4, 5] (by decide) rfl) rfl rfl (G_append Tryd.underlying25 ti9 rfl rfl rfl hS (i := 6) rfl (hS.ro 0 rfl) hx_49) rfl ?_
    rintro v_50 w hS
    refine lxE_v (hS.pick [1, 2, 3, 4, 5] (by decide) rfl) rfl rfl (fun w hF => OpV_fieldB (k := 5) Tryd.underlying29 rfl rfl nz25 rfl) rfl ?_
    refine lxE_y (hS.pick [1, 2, 3, 4, 5] (by decide) rfl) rfl rfl (OpY_stB (i := 5) (us := [v_50]) rfl sz25 rfl rfl (cells_one (hS.ro 6 rfl).one) ⟨(hS.ro 6 rfl).one, trivial⟩ rfl hS) ?_
    intro w hS
    replace hS : St _ w0 w [own eS v_47 ([x_46.2.2.1] : List (List UInt8)), OE.bx b_1 [.slice none 0 0, vS [], vB false, vS [], vB false, .slice none 0 0, vB false, vS [], vB false, vB false, vI 0, vB false, vI 0, vB false, vI 0], OE.bx b_6 [v_4], own (eP eI (eP e64 (eP eS eI))) v_4 x_3.1, OE.bx b_9 [vB x_44], OE.bx b_13 [.slice none 0 0, vS x_15.1, vB x_15.2.1, vS x_16.1, vB x_16.2.1, v_50, vB true, vS x_20.1, vB x_20.2.1, vB x_17.1, vI x_17.2.1, vB x_18.1, vI x_18.2.1, vB x_19.1, vI x_19.2.1], own eS v_50 x_49] := hS
    refine lxE_nil trivial ?_
    refine QE_blk_n ?_
    refine QE_then_n (wpC_region (wpR_run 2 rfl ?_))
    refine wpR_nil ?_
    exact QE_rnd (wpN_le _ (by exact ⟨rfl, rfl, rfl, rfl, rfl, rfl, rfl, trivial⟩) (ih_40 (wI (x_34 + 1), x_44, x_49) _ _ ⟨v_50, rfl, (hS.pick [1, 2, 3, 4, 6, 5] (by decide) rfl)⟩ (oinl_some h hk_39)))
   have h := if_f h hb_53
   refine wpC_exit ?_
   refine QE_then_x (QE_then_x ?_)
   have h := oinr_some h hk_39
   refine QE_blk_x ?_
   refine QE_then_n ?_
   exact wpC_le _ (by exact ⟨rfl, rfl, rfl, trivial⟩) (hK_61 (x_35, x_36, true) _ _ ⟨v_37, rfl, (hS.pick [0, 3, 4, 5] (by decide) rfl)⟩ h)
  have h := if_f h hb_55
  refine wpC_skip (QE_then_n ?_)
  exact wpC_le _ (by exact ⟨rfl, rfl, rfl, trivial⟩) (hK_61 (x_23.2, [], false) _ _ ⟨.slice none 0 0, rfl, ((hS.nil eS).pick [7, 2, 0, 5] (by decide) rfl)⟩ h)
 rintro ⟨x_56, x_57, x_60⟩ L w hJ h
 try dsimp only at hJ
 obtain ⟨v_58, rfl, hS⟩ := hJ
 unfold F.cose_Claims_K1 at h
 refine wpC_seq (wpC_seq (wpC_region (wpR_v (OpV_ldB Tryd.underlying4 rfl rfl (hS.bxc 1 rfl 0)) rfl ?_)))
 refine wpR_nil (QE_then_n ?_)
 refine wpC_cond rfl (fun hb_62 => ?_) (fun hb_62 => ?_)
 ·have h := if_t h hb_62
  refine wpC_seq (wpC_region ?_)
  refine wpR_v (OpV_build (vs := []) (cells := [.slice none 0 0, vS [], vB false, vS [], vB false, .slice none 0 0, vB false, vS [], vB false, vB false, vI 0, vB false, vI 0, vB false, vI 0]) rfl lay29 trivial (by kernel_rfl)) rfl ?_
  refine wpR_y (OpY_stB (i := 0) (us := [.slice none 0 0, vS [], vB false, vS [], vB false, .slice none 0 0, vB false, vS [], vB false, vB false, vI 0, vB false, vI 0, vB false, vI 0]) rfl sz29 rfl rfl rfl ⟨rfl, rfl, rfl, rfl, rfl, rfl, rfl, rfl, rfl, rfl, rfl, rfl, rfl, rfl, rfl, trivial⟩ rfl hS) ?_
  intro w hS
  replace hS : St _ w0 w [OE.bx b_1 [.slice none 0 0, vS [], vB false, vS [], vB false, .slice none 0 0, vB false, vS [], vB false, vB false, vI 0, vB false, vI 0, vB false, vI 0], OE.bx b_9 [vB x_56], own eS v_58 x_57, OE.bx b_13 [.slice none 0 0, vS x_15.1, vB x_15.2.1, vS x_16.1, vB x_16.2.1, v_58, vB x_60, vS x_20.1, vB x_20.2.1, vB x_17.1, vI x_17.2.1, vB x_18.1, vI x_18.2.1, vB x_19.1, vI x_19.2.1]] := hS
  refine wpR_run 1 rfl ?_
  refine wpR_nil (QE_then_n (wpC_ret (QE_then_r ?_)))
  cases h
  exact QE_rv2 rfl ⟨_, rfl, run_ldAgg (us := [.slice none 0 0, vS [], vB false, vS [], vB false, .slice none 0 0, vB false, vS [], vB false, vB false, vI 0, vB false, vI 0, vB false, vI 0]) Tryd.underlying29 rfl sz29 (hS.bxs 0 rfl rfl)⟩ rfl ⟨.slice none 0 0, .slice none 0 0, rfl, ((hS.nil (eP eI (eP eS (eP eS (eP eB (eP eI eI)))))).nil eS).pick [1, 0] (by decide) rfl⟩
 have h := if_f h hb_62
 refine wpC_skip (QE_then_n (wpC_seq (wpC_region ?_)))
 refine wpR_v (OpV_ldBs (us := [.slice none 0 0, vS x_15.1, vB x_15.2.1, vS x_16.1, vB x_16.2.1, v_58, vB x_60, vS x_20.1, vB x_20.2.1, vB x_17.1, vI x_17.2.1, vB x_18.1, vI x_18.2.1, vB x_19.1, vI x_19.2.1]) Tryd.underlying29 rfl sz29 rfl (hS.bxs 3 rfl rfl)) rfl ?_
 refine wpR_y (OpY_stB (i := 0) (us := [.slice none 0 0, vS x_15.1, vB x_15.2.1, vS x_16.1, vB x_16.2.1, v_58, vB x_60, vS x_20.1, vB x_20.2.1, vB x_17.1, vI x_17.2.1, vB x_18.1, vI x_18.2.1, vB x_19.1, vI x_19.2.1]) rfl sz29 rfl rfl rfl ⟨rfl, rfl, rfl, rfl, rfl, (hS.ro 2 rfl).one, rfl, rfl, rfl, rfl, rfl, rfl, rfl, rfl, rfl, trivial⟩ rfl hS) ?_
 intro w hS
 replace hS : St _ w0 w [OE.bx b_1 [.slice none 0 0, vS x_15.1, vB x_15.2.1, vS x_16.1, vB x_16.2.1, v_58, vB x_60, vS x_20.1, vB x_20.2.1, vB x_17.1, vI x_17.2.1, vB x_18.1, vI x_18.2.1, vB x_19.1, vI x_19.2.1], OE.bx b_9 [vB x_56], own eS v_58 x_57, OE.bx b_13 [.slice none 0 0, vS x_15.1, vB x_15.2.1, vS x_16.1, vB x_16.2.1, v_58, vB x_60, vS x_20.1, vB x_20.2.1, vB x_17.1, vI x_17.2.1, vB x_18.1, vI x_18.2.1, vB x_19.1, vI x_19.2.1]] := hS
 refine wpR_run 1 rfl ?_
 refine wpR_nil (QE_then_n (wpC_ret ?_))
 cases h
 exact QE_rv2 rfl ⟨_, rfl, run_ldAgg (us := [.slice none 0 0, vS x_15.1, vB x_15.2.1, vS x_16.1, vB x_16.2.1, v_58, vB x_60, vS x_20.1, vB x_20.2.1, vB x_17.1, vI x_17.2.1, vB x_18.1, vI x_18.2.1, vB x_19.1, vI x_19.2.1]) Tryd.underlying29 rfl sz29 (hS.bxs 0 rfl rfl)⟩ rfl ⟨.slice none 0 0, v_58, rfl, (hS.nil (eP eI (eP eS (eP eS (eP eB (eP eI eI)))))).pick [0, 3] (by decide) rfl⟩
theorem c_signet_cose_Parse_1 (w0 : World) (a0 : Int)   (r : Int × List UInt8 × List UInt8 × List UInt8 × List UInt8 × Int)
  (h : F.signet_cose_Parse_1 a0 = some r) : Calls Tryd.prog 40 #[vI a0] w0 (Ret fun v w => ∃ u1 u2 u3 u4 : Value, v = .tuple #[vI r.1, u1, u2, u3, u4, vI r.2.2.2.2.2] ∧ St [] w0 w [own e8 u1 r.2.1, own e8 u2 r.2.2.1, own e8 u3 r.2.2.2.1, own e8 u4 r.2.2.2.2.1]) := by
 refine calls_at 9 Tryd.func40 rfl rfl rfl ?_
 have hS := St.start w0
 refine wpC_le [(0, vI a0)] ⟨rfl, trivial⟩ ?_
 unfold F.signet_cose_Parse_1 at h
 refine wpC_seq (wpC_region (wpR_run 6 rfl ?_))
 refine wpR_nil (QE_then_n (wpC_seq (wpC_region (wpR_run 7 rfl ?_))))
 refine wpR_nil (QE_then_n (wpC_ret ?_))
 cases h
 exact QE_ret6 rfl rfl rfl rfl rfl rfl rfl ⟨.slice none 0 0, .slice none 0 0, .slice none 0 0, .slice none 0 0, rfl, ((((hS.nil e8).nil e8).nil e8).nil e8).pick [3, 2, 1, 0] (by decide) rfl⟩
theorem c_signet_cose_header_1 (w0 : World) (a0 : UInt64) (c0_0 : List (Int × UInt64 × (List UInt8) × Int)) (c1_0 : Int) (c2_0 : Int) (vc0_0 : Value) (bc0 : Nat) (bc1 : Nat) (bc2 : Nat) (S : List Nat) (hS : St S w0 w0 [OE.bx bc0 [vc0_0], OE.bx bc1 [vI c1_0], OE.bx bc2 [vI c2_0]]) (hT : TB S w0) (hc0_0 : RP S w0 (eP eI (eP e64 (eP eS eI))) vc0_0 c0_0) (r : Int × Int × Int)
  (h : F.signet_cose_header_1 a0 c0_0 c1_0 c2_0 = some r) : Calls Tryd.prog 71 #[v64 a0, pB bc0 0, pB bc1 0, pB bc2 0] w0 (Ret fun v w => v = vI r.1 ∧ St S w0 w [OE.bx bc0 [vc0_0], OE.bx bc1 [vI r.2.1], OE.bx bc2 [vI r.2.2]]) := by
 refine calls_at 18 Tryd.func71 rfl rfl rfl ?_
 refine wpC_le [(0, v64 a0), (1, pB bc0 0), (2, pB bc1 0), (3, pB bc2 0)] ⟨rfl, rfl, rfl, rfl, trivial⟩ ?_
 unfold F.signet_cose_header_1 at h
 refine wpC_seq (wpC_region (wpR_run 1 rfl ?_))
 refine wpR_nil (QE_then_n (wpC_seq (wpC_region (wpR_v (OpV_ldB Tryd.underlying37 rfl rfl (hS.bxc 0 rfl 0)) rfl ?_))))
 refine wpR_v (OpV_ldB Tryd.underlying3 rfl rfl (hS.bxc 1 rfl 0)) rfl ?_
 refine wpR_run 1 rfl ?_
 refine wpR_v (OpV_build (vs := [(1, v64 a0, [v64 a0])]) (cells := [vI 0, v64 a0, vS [], vI 0]) rfl lay42 ⟨rfl, trivial⟩ rfl) rfl ?_
 refine wpR_x (OpX_litE (e := (eP eI (eP e64 (eP eS eI)))) (l := ([(0, a0, [], 0)] : List (Int × UInt64 × (List UInt8) × Int))) (vs := [(0, .agg #[vI 0, v64 a0, vS [], vI 0], [vI 0, v64 a0, vS [], vI 0])]) Tryd.underlying37 ti42 rfl ⟨rfl, trivial⟩ rfl rfl (Nat.le_of_ble_eq_true rfl) (Nat.le_of_ble_eq_true rfl) hS) rfl ?_
 rintro v_4 w hS
 obtain ⟨x_6, hx_6, h⟩ := obind_some h
 refine wpR_call (by kernel_rfl) rfl (c_cbor_Member _ c0_0 c1_0 ([(0, a0, [], 0)] : List (Int × UInt64 × (List UInt8) × Int)) vc0_0 v_4  (hT.now hS.fr) (hc0_0.now hS.fr).rp (hS.ro 0 rfl).rp _ hx_6) rfl ?_
 rintro _ w ⟨rfl, hS1⟩
 have hS := hS.call hS1
 simp only [List.cons_append, List.nil_append] at hS
 refine wpR_run 1 rfl ?_
 refine wpR_nil (QE_then_n ?_)
 refine seq_join (r := r) (fun (g : Int) L w => L = [(6, vI x_6)] ∧ St S w0 w [OE.bx bc0 [vc0_0], OE.bx bc1 [vI c1_0], OE.bx bc2 [vI g]]) (F.signet_cose_header_1_K1 c1_0 x_6) ?_ ?_
 rotate_left
 ·intro hK_9
  refine wpC_seq (wpC_region (wpR_run 2 rfl ?_))
  refine wpR_nil (QE_then_n ?_)
  refine wpC_cond rfl (fun hb_7 => ?_) (fun hb_7 => ?_)
  ·have h := if_t h hb_7
   refine wpC_region (wpR_v (OpV_ldB Tryd.underlying3 rfl rfl (hS.bxc 3 rfl 0)) rfl ?_)
   refine wpR_run 1 rfl ?_
   refine wpR_y (OpY_stB (i := 3) (us := [vI (wI (c2_0 + 1))]) rfl sz3 rfl rfl rfl ⟨rfl, trivial⟩ rfl hS) ?_
   intro w hS
   replace hS : St _ w0 w [own (eP eI (eP e64 (eP eS eI))) v_4 ([(0, a0, [], 0)] : List (Int × UInt64 × (List UInt8) × Int)), OE.bx bc0 [vc0_0], OE.bx bc1 [vI c1_0], OE.bx bc2 [vI (wI (c2_0 + 1))]] := hS
   refine wpR_nil (QE_then_n ?_)
   exact wpC_le _ (by exact ⟨rfl, trivial⟩) (hK_9 (wI (c2_0 + 1)) _ _ ⟨rfl, (hS.pick [1, 2, 3] (by decide) rfl)⟩ h)
  have h := if_f h hb_7
  refine wpC_skip (QE_then_n ?_)
  exact wpC_le _ (by exact ⟨rfl, trivial⟩) (hK_9 c2_0 _ _ ⟨rfl, (hS.pick [1, 2, 3] (by decide) rfl)⟩ h)
 rintro x_8 L w hJ h
 try dsimp only at hJ
 obtain ⟨rfl, hS⟩ := hJ
 unfold F.signet_cose_header_1_K1 at h
 refine wpC_seq (wpC_region (wpR_run 2 rfl ?_))
 refine wpR_nil (QE_then_n (wpC_ret ?_))
 cases h
 exact QE_ret1 rfl rfl ⟨rfl, hS.pick [0, 1, 2] (by decide) rfl⟩
theorem c_cose_header (w0 : World) (a0 : List (Int × UInt64 × (List UInt8) × Int)) (a1 : Int) (va0 : Value) (hT : TB [] w0) (ha0 : RP [] w0 (eP eI (eP e64 (eP eS eI))) va0 a0) (r : Int × Int × Bool)
  (h : F.cose_header a0 a1 = some r) : Calls Tryd.prog 55 #[va0, vI a1] w0 (Ret fun v w => v = .tuple #[vI r.1, vI r.2.1, vB r.2.2] ∧ St [] w0 w []) := by
 refine calls_at 36 Tryd.func55 rfl rfl rfl ?_
 have hS := St.start w0
 refine wpC_le [(0, va0), (1, vI a1)] ⟨rfl, rfl, trivial⟩ ?_
 unfold F.cose_header at h
 refine wpC_seq (wpC_region (wpR_x (OpX_box (cs := [va0]) rfl (cells_one (ha0.now hS.fr).one) hS) rfl ?_))
 rintro _ w ⟨b_1, rfl, hS⟩
 refine wpR_x (OpX_box (cs := [vI a1]) rfl rfl hS) rfl ?_
 rintro _ w ⟨b_3, rfl, hS⟩
 refine wpR_run 3 rfl ?_
 refine wpR_nil (QE_then_n (wpC_seq (wpC_region (wpR_x (OpX_alloc (cs := [vI 0]) tz3 rfl hS) rfl ?_))))
 rintro _ w ⟨b_5, rfl, hS⟩
 refine wpR_y (OpY_stB (i := 0) (us := [vI 0]) rfl sz3 rfl rfl rfl ⟨rfl, trivial⟩ rfl hS) ?_
 intro w hS
 replace hS : St _ w0 w [OE.bx b_5 [vI 0], OE.bx b_3 [vI a1], OE.bx b_1 [va0]] := hS
 refine wpR_nil (QE_then_n (wpC_seq (wpC_region (wpR_v (OpV_mkfunc (vs := [pB b_1 0, pB b_3 0, pB b_5 0]) rfl) rfl ?_))))
 refine wpR_run 1 rfl ?_
 refine wpR_nil (QE_then_n (wpC_seq (wpC_region (wpR_run 1 rfl ?_))))
 have hG := hS.pick (os' := [OE.bx b_1 [va0], OE.bx b_3 [vI a1], OE.bx b_5 [vI 0]] ++ []) [2, 1, 0] (by decide) rfl
 obtain ⟨x_7, hx_7, h⟩ := obind_some h
 refine wpR_callV rfl (by kernel_rfl) rfl (c_signet_cose_header_1 _ 1 a0 a1 0 va0 b_1 b_3 b_5 _ hG.give (hT.give hG) (ha0.give (Nat.le_of_ble_eq_true rfl) hG) _ hx_7) rfl ?_
 rintro _ w ⟨rfl, hS1⟩
 have hS := hG.back hS1
 simp only [List.cons_append, List.nil_append] at hS
 refine wpR_run 1 rfl ?_
 have hG := hS.pick (os' := [OE.bx b_1 [va0], OE.bx b_3 [vI x_7.2.1], OE.bx b_5 [vI x_7.2.2]] ++ []) [0, 1, 2] (by decide) rfl
 obtain ⟨x_8, hx_8, h⟩ := obind_some h
 refine wpR_callV rfl (by kernel_rfl) rfl (c_signet_cose_header_1 _ 4 a0 x_7.2.1 x_7.2.2 va0 b_1 b_3 b_5 _ hG.give (hT.give hG) (ha0.give (Nat.le_of_ble_eq_true rfl) hG) _ hx_8) rfl ?_
 rintro _ w ⟨rfl, hS1⟩
 have hS := hG.back hS1
 simp only [List.cons_append, List.nil_append] at hS
 refine wpR_run 2 rfl ?_
 refine wpR_nil (QE_then_n (wpC_seq ?_))
 refine wpC_regionT (fun w' => St [] w0 w' [OE.bx b_1 [va0], OE.bx b_3 [vI x_8.2.1], OE.bx b_5 [vI x_8.2.2]]) (fun _ => true) hmix (fun _ _ _ hf => hf.2) (fun _ _ hf => hf) (by kernel_rfl) ?_
 have hS := hS.drew
 show lxE _ _ _ _ _ _ _ [0, 1, 2, 3, 4, 5, 6, 7, 8, 9, 10, 11, 12, 13, 14, 15, 16, 17, 18, 19, 20, 21, 22, 23, 24] _ _
 refine lxE_v hS rfl rfl (fun w hF => OpV_move rfl) rfl ?_
 refine lxE_v hS rfl rfl (fun w hF => OpV_move rfl) rfl ?_
 refine lxE_v hS rfl rfl (fun w hF => OpV_ldB Tryd.underlying37 rfl rfl (hF.bxc 0 rfl 0)) rfl ?_
 refine lxE_v hS rfl rfl (fun w hF => OpV_ldB Tryd.underlying3 rfl rfl (hF.bxc 1 rfl 0)) rfl ?_
 obtain ⟨x_9, hx_9, h⟩ := obind_some h
 refine lxE_v hS rfl rfl (fun w hF => G_ix Tryd.underlying37 ti42 rfl rfl (ha0.now hF.fr) hx_9) rfl ?_
 refine lxE_v hS rfl rfl (fun w hF => OpV_fieldE (k := 3) Tryd.underlying42 rfl rfl nz3 rfl) rfl ?_
 refine lxE_v hS rfl rfl (fun w hF => G_loadF Tryd.underlying3 rfl rfl (ha0.now hF.fr) hx_9 rfl rfl) rfl ?_
 refine lxE_v hS rfl rfl (fun w hF => OpV_ldB Tryd.underlying3 rfl rfl (hF.bxc 2 rfl 0)) rfl ?_
 refine lxE_v hS rfl rfl (fun w hF => OpV_bin rfl rfl (b_imul _ 2 x_8.2.2)) rfl ?_
 refine lxE_v hS rfl rfl (fun w hF => OpV_bin rfl rfl (b_ieql _ x_9.2.2.2 (wI (2 * x_8.2.2)))) rfl ?_
 refine lxE_v hS rfl rfl (fun w hF => OpV_move rfl) rfl ?_
 cases hb_10 : (x_9.2.2.2 == (wI (2 * x_8.2.2)))
 case true =>
  have h := if_t h hb_10
  try simp only [hb_10]
  refine lxE_gv (t := 24) hS rfl rfl rfl rfl (fun w hF => OpV_move rfl) rfl ?_
  refine lxE_gv (t := 24) hS rfl rfl rfl rfl (fun w hF => OpV_bin rfl rfl (b_ilss _ x_8.1 0)) rfl ?_
  refine lxE_gv (t := 24) hS rfl rfl rfl rfl (fun w hF => OpV_move rfl) rfl ?_
  cases hb_11 : (decide (x_8.1 < 0))
  case true =>
   have h := if_t h hb_11
   try simp only [hb_11]
   refine lxE_gskip (b := true) (t := 27) hS rfl rfl rfl rfl rfl rfl ?_
   refine lxE_gskip (b := true) (t := 27) hS rfl rfl rfl rfl rfl rfl ?_
   refine lxE_gskip (b := true) (t := 27) hS rfl rfl rfl rfl rfl rfl ?_
   refine lxE_gskip (b := true) (t := 27) hS rfl rfl rfl rfl rfl rfl ?_
   refine lxE_gskip (b := true) (t := 27) hS rfl rfl rfl rfl rfl rfl ?_
   refine lxE_gskip (b := true) (t := 27) hS rfl rfl rfl rfl rfl rfl ?_
   refine lxE_gv (t := 24) hS rfl rfl rfl rfl (fun w hF => OpV_pickT rfl rfl) rfl ?_
   refine lxE_v hS rfl rfl (fun w hF => OpV_pickT rfl rfl) rfl ?_
   refine lxE_v hS rfl rfl (fun w hF => OpV_assign rfl) rfl ?_
   refine lxE_v hS rfl rfl (fun w hF => OpV_assign rfl) rfl ?_
   refine lxE_v hS rfl rfl (fun w hF => OpV_assign rfl) rfl ?_
   refine lxE_nil hS ?_
   refine QE_then_n (wpC_ret ?_)
   cases h
   exact QE_ret3 rfl rfl rfl rfl ⟨rfl, hS.pick [] (by decide) rfl⟩
  case false =>
   have h := if_f h hb_11
   try simp only [hb_11]
   refine lxE_gv (t := 27) hS rfl rfl rfl rfl (fun w hF => OpV_ldB Tryd.underlying37 rfl rfl (hF.bxc 0 rfl 0)) rfl ?_
   refine lxE_gv (t := 27) hS rfl rfl rfl rfl (fun w hF => OpV_move rfl) rfl ?_
   obtain ⟨x_12, hx_12, h⟩ := obind_some h
   refine lxE_gv (t := 27) hS rfl rfl rfl rfl (fun w hF => G_ix Tryd.underlying37 ti42 rfl rfl (ha0.now hF.fr) hx_12) rfl ?_
   refine lxE_gv (t := 27) hS rfl rfl rfl rfl (fun w hF => OpV_fieldE (k := 0) Tryd.underlying42 rfl rfl nz3 rfl) rfl ?_
   refine lxE_gv (t := 27) hS rfl rfl rfl rfl (fun w hF => G_loadF Tryd.underlying3 rfl rfl (ha0.now hF.fr) hx_12 rfl rfl) rfl ?_
   refine lxE_gv (t := 27) hS rfl rfl rfl rfl (fun w hF => OpV_bin rfl rfl (b_ieql _ x_12.1 2)) rfl ?_
   refine lxE_gv (t := 24) hS rfl rfl rfl rfl (fun w hF => OpV_pickF rfl rfl) rfl ?_
   refine lxE_v hS rfl rfl (fun w hF => OpV_pickT rfl rfl) rfl ?_
   refine lxE_v hS rfl rfl (fun w hF => OpV_assign rfl) rfl ?_
   refine lxE_v hS rfl rfl (fun w hF => OpV_assign rfl) rfl ?_
   refine lxE_v hS rfl rfl (fun w hF => OpV_assign rfl) rfl ?_
   refine lxE_nil hS ?_
   refine QE_then_n (wpC_ret ?_)
   cases h
   exact QE_ret3 rfl rfl rfl rfl ⟨rfl, hS.pick [] (by decide) rfl⟩
 case false =>
  have h := if_f h hb_10
  try simp only [hb_10]
  refine lxE_gskip (b := false) (t := 24) hS rfl rfl rfl rfl rfl rfl ?_
  refine lxE_gskip (b := false) (t := 24) hS rfl rfl rfl rfl rfl rfl ?_
  refine lxE_gskip (b := false) (t := 24) hS rfl rfl rfl rfl rfl rfl ?_
  refine lxE_gskipU (t := 27) hS rfl rfl rfl rfl rfl ?_
  refine lxE_gskipU (t := 27) hS rfl rfl rfl rfl rfl ?_
  refine lxE_gskipU (t := 27) hS rfl rfl rfl rfl rfl ?_
  refine lxE_gskipU (t := 27) hS rfl rfl rfl rfl rfl ?_
  refine lxE_gskipU (t := 27) hS rfl rfl rfl rfl rfl ?_
  refine lxE_gskipU (t := 27) hS rfl rfl rfl rfl rfl ?_
  refine lxE_gskip (b := false) (t := 24) hS rfl rfl rfl rfl rfl rfl ?_
  refine lxE_v hS rfl rfl (fun w hF => OpV_pickF rfl rfl) rfl ?_
  refine lxE_v hS rfl rfl (fun w hF => OpV_assign rfl) rfl ?_
  refine lxE_v hS rfl rfl (fun w hF => OpV_assign rfl) rfl ?_
  refine lxE_v hS rfl rfl (fun w hF => OpV_assign rfl) rfl ?_
  refine lxE_nil hS ?_
  refine QE_then_n (wpC_ret ?_)
  cases h
  exact QE_ret3 rfl rfl rfl rfl ⟨rfl, hS.pick [] (by decide) rfl⟩
theorem c_cose_read (w0 : World) (a0 : List (Int × UInt64 × (List UInt8) × Int)) (va0 : Value) (hT : TB [] w0) (ha0 : RP [] w0 (eP eI (eP e64 (eP eS eI))) va0 a0) (r : Int × List UInt8 × List UInt8 × List UInt8 × List UInt8 × Int)
  (h : F.cose_read a0 = some r) : Calls Tryd.prog 41 #[va0] w0 (Ret fun v w => v = .tuple #[.agg #[vI r.1, vS r.2.1, vS r.2.2.1, vS r.2.2.2.1, vS r.2.2.2.2.1], vI r.2.2.2.2.2] ∧ St [] w0 w []) := by
 refine calls_at 190 Tryd.func41 rfl rfl rfl ?_
 have hS := St.start w0
 refine wpC_le [(0, va0)] ⟨rfl, trivial⟩ ?_
 unfold F.cose_read at h
 refine wpC_seq (wpC_region (wpR_x (OpX_alloc (cs := [vI 0, vS [], vS [], vS [], vS []]) tz83 rfl hS) rfl ?_))
 rintro _ w ⟨b_1, rfl, hS⟩
 refine wpR_run 1 rfl ?_
 refine wpR_nil (QE_then_n (wpC_seq (wpC_region (wpR_run 1 rfl ?_))))
 refine wpR_nil (QE_then_n ?_)
 refine seq_join (r := r) (fun (g : Int) L w => L = [(0, va0), (2, pB b_1 0), (4, vI g)] ∧ St [] w0 w [OE.bx b_1 [vI 0, vS [], vS [], vS [], vS []]]) (F.cose_read_K1 a0) ?_ ?_
 rotate_left
 ·intro hK_10
  refine seq_join (r := r) (fun (g : Bool) L w => L = [(0, va0), (2, pB b_1 0), (4, vI 0), (27, vB g)] ∧ St [] w0 w [OE.bx b_1 [vI 0, vS [], vS [], vS [], vS []]]) (F.cose_read_K7 a0) ?_ ?_
  rotate_left
  ·intro hK_7
   refine wpC_region (wpR_run 1 rfl ?_)
   obtain ⟨x_3, hx_3, h⟩ := obind_some h
   refine wpR_v (G_ix Tryd.underlying37 ti42 rfl rfl (ha0.now hS.fr) hx_3) rfl ?_
   refine wpR_v (OpV_fieldE (k := 0) Tryd.underlying42 rfl rfl nz3 rfl) rfl ?_
   refine wpR_v (G_loadF Tryd.underlying3 rfl rfl (ha0.now hS.fr) hx_3 rfl rfl) rfl ?_
   refine wpR_run 2 rfl ?_
   cases hb_4 : (x_3.1 == 6)
   case true =>
    have h := if_t h hb_4
    try simp only [hb_4]
    refine wpR_run 1 rfl ?_
    obtain ⟨x_5, hx_5, h⟩ := obind_some h
    refine wpR_gv (t := 21) rfl rfl (G_ix Tryd.underlying37 ti42 rfl rfl (ha0.now hS.fr) hx_5) rfl ?_
    refine wpR_gv (t := 21) rfl rfl (OpV_fieldE (k := 1) Tryd.underlying42 rfl rfl nz40 rfl) rfl ?_
    refine wpR_gv (t := 21) rfl rfl (G_loadF Tryd.underlying40 rfl rfl (ha0.now hS.fr) hx_5 rfl rfl) rfl ?_
    refine wpR_gv (t := 21) rfl rfl (OpV_bin rfl rfl (b_eql64 _ x_5.2.1 18)) rfl ?_
    refine wpR_run 1 rfl ?_
    refine wpR_nil (QE_then_n ?_)
    exact wpC_le _ (by exact ⟨rfl, rfl, rfl, rfl, trivial⟩) (hK_7 (x_5.2.1 == 18) _ _ ⟨rfl, hS⟩ h)
   case false =>
    have h := if_f h hb_4
    try simp only [hb_4]
    refine wpR_run 6 rfl ?_
    refine wpR_nil (QE_then_n ?_)
    exact wpC_le _ (by exact ⟨rfl, rfl, rfl, rfl, trivial⟩) (hK_7 false _ _ ⟨rfl, hS⟩ h)
  rintro x_6 L w hJ h
  try dsimp only at hJ
  obtain ⟨rfl, hS⟩ := hJ
  unfold F.cose_read_K7 at h
  refine wpC_cond rfl (fun hb_8 => ?_) (fun hb_8 => ?_)
  ·have h := if_t h hb_8
   refine wpC_region (wpR_run 1 rfl ?_)
   refine wpR_nil (QE_then_n ?_)
   exact wpC_le _ (by exact ⟨rfl, rfl, rfl, trivial⟩) (hK_10 1 _ _ ⟨rfl, hS⟩ h)
  have h := if_f h hb_8
  refine wpC_skip (QE_then_n ?_)
  exact wpC_le _ (by exact ⟨rfl, rfl, rfl, trivial⟩) (hK_10 0 _ _ ⟨rfl, hS⟩ h)
 rintro x_9 L w hJ h
 try dsimp only at hJ
 obtain ⟨rfl, hS⟩ := hJ
 unfold F.cose_read_K1 at h
 refine wpC_seq ?_
 refine seq_join (r := r) (fun (g : Bool) L w => L = [(0, va0), (2, pB b_1 0), (4, vI x_9), (59, vB g)] ∧ St [] w0 w [OE.bx b_1 [vI 0, vS [], vS [], vS [], vS []]]) (F.cose_read_K2 a0 x_9) ?_ ?_
 rotate_left
 ·intro hK_19
  refine wpC_region (wpR_run 2 rfl ?_)
  obtain ⟨x_11, hx_11, h⟩ := obind_some h
  refine wpR_v (G_ix Tryd.underlying37 ti42 rfl rfl (ha0.now hS.fr) hx_11) rfl ?_
  refine wpR_v (OpV_fieldE (k := 0) Tryd.underlying42 rfl rfl nz3 rfl) rfl ?_
  refine wpR_v (G_loadF Tryd.underlying3 rfl rfl (ha0.now hS.fr) hx_11 rfl rfl) rfl ?_
  refine wpR_run 2 rfl ?_
  cases hb_12 : (x_11.1 != 4)
  case true =>
   have h := if_t h hb_12
   try simp only [hb_12]
   refine wpR_run 25 rfl ?_
   refine wpR_nil (QE_then_n ?_)
   exact wpC_le _ (by exact ⟨rfl, rfl, rfl, rfl, trivial⟩) (hK_19 true _ _ ⟨rfl, hS⟩ h)
  case false =>
   have h := if_f h hb_12
   try simp only [hb_12]
   refine wpR_run 2 rfl ?_
   obtain ⟨x_13, hx_13, h⟩ := obind_some h
   refine wpR_gv (t := 34) rfl rfl (G_ix Tryd.underlying37 ti42 rfl rfl (ha0.now hS.fr) hx_13) rfl ?_
   refine wpR_gv (t := 34) rfl rfl (OpV_fieldE (k := 3) Tryd.underlying42 rfl rfl nz3 rfl) rfl ?_
   refine wpR_gv (t := 34) rfl rfl (G_loadF Tryd.underlying3 rfl rfl (ha0.now hS.fr) hx_13 rfl rfl) rfl ?_
   refine wpR_run 3 rfl ?_
   cases hb_14 : (x_13.2.2.2 != 4)
   case true =>
    have h := if_t h hb_14
    try simp only [hb_14]
    refine wpR_run 17 rfl ?_
    refine wpR_nil (QE_then_n ?_)
    exact wpC_le _ (by exact ⟨rfl, rfl, rfl, rfl, trivial⟩) (hK_19 true _ _ ⟨rfl, hS⟩ h)
   case false =>
    have h := if_f h hb_14
    try simp only [hb_14]
    refine wpR_run 3 rfl ?_
    obtain ⟨x_15, hx_15, h⟩ := obind_some h
    refine wpR_gv (t := 42) rfl rfl (G_ix Tryd.underlying37 ti42 rfl rfl (ha0.now hS.fr) hx_15) rfl ?_
    refine wpR_gv (t := 42) rfl rfl (OpV_fieldE (k := 0) Tryd.underlying42 rfl rfl nz3 rfl) rfl ?_
    refine wpR_gv (t := 42) rfl rfl (G_loadF Tryd.underlying3 rfl rfl (ha0.now hS.fr) hx_15 rfl rfl) rfl ?_
    refine wpR_run 3 rfl ?_
    cases hb_16 : (x_15.1 != 2)
    case true =>
     have h := if_t h hb_16
     try simp only [hb_16]
     refine wpR_run 8 rfl ?_
     refine wpR_nil (QE_then_n ?_)
     exact wpC_le _ (by exact ⟨rfl, rfl, rfl, rfl, trivial⟩) (hK_19 true _ _ ⟨rfl, hS⟩ h)
    case false =>
     have h := if_f h hb_16
     try simp only [hb_16]
     refine wpR_run 3 rfl ?_
     obtain ⟨x_17, hx_17, h⟩ := obind_some h
     refine wpR_gv (t := 51) rfl rfl (G_ix Tryd.underlying37 ti42 rfl rfl (ha0.now hS.fr) hx_17) rfl ?_
     refine wpR_gv (t := 51) rfl rfl (OpV_fieldE (k := 0) Tryd.underlying42 rfl rfl nz3 rfl) rfl ?_
     refine wpR_gv (t := 51) rfl rfl (G_loadF Tryd.underlying3 rfl rfl (ha0.now hS.fr) hx_17 rfl rfl) rfl ?_
     refine wpR_run 2 rfl ?_
     refine wpR_nil (QE_then_n ?_)
     exact wpC_le _ (by exact ⟨rfl, rfl, rfl, rfl, trivial⟩) (hK_19 (x_17.1 != 5) _ _ ⟨rfl, hS⟩ h)
 rintro x_18 L w hJ h
 try dsimp only at hJ
 obtain ⟨rfl, hS⟩ := hJ
 unfold F.cose_read_K2 at h
 refine wpC_cond rfl (fun hb_63 => ?_) (fun hb_63 => ?_)
 ·have h := if_t h hb_63
  refine wpC_seq (wpC_region (wpR_v (OpV_build (vs := []) (cells := [vI 0, vS [], vS [], vS [], vS []]) rfl lay83 trivial rfl) rfl ?_))
  refine wpR_y (OpY_stB (i := 0) (us := [vI 0, vS [], vS [], vS [], vS []]) rfl sz83 rfl rfl rfl ⟨rfl, rfl, rfl, rfl, rfl, trivial⟩ rfl hS) ?_
  intro w hS
  replace hS : St _ w0 w [OE.bx b_1 [vI 0, vS [], vS [], vS [], vS []]] := hS
  refine wpR_run 1 rfl ?_
  refine wpR_nil (QE_then_n (wpC_ret (QE_then_r ?_)))
  cases h
  exact QE_rv2 rfl ⟨_, rfl, run_ldAgg (us := [vI 0, vS [], vS [], vS [], vS []]) Tryd.underlying83 rfl sz83 (hS.bxs 0 rfl rfl)⟩ rfl ⟨rfl, hS.pick [] (by decide) rfl⟩
 have h := if_f h hb_63
 refine wpC_skip (QE_then_n (wpC_seq (wpC_region (wpR_run 3 rfl ?_))))
 obtain ⟨x_20, hx_20, h⟩ := obind_some h
 refine wpR_call (by kernel_rfl) rfl (c_cbor_Behind _ a0 (wI (x_9 + 2)) va0  (hT.now hS.fr) (ha0.now hS.fr).rp _ hx_20) rfl ?_
 rintro _ w ⟨rfl, hS1⟩
 have hS := hS.call hS1
 simp only [List.cons_append, List.nil_append] at hS
 refine wpR_run 1 rfl ?_
 refine wpR_nil (QE_then_n (wpC_seq ?_))
 refine seq_join (r := r) (fun (g : Bool) L w => L = [(0, va0), (2, pB b_1 0), (4, vI x_9), (5, vI x_20), (79, vB g)] ∧ St [] w0 w [OE.bx b_1 [vI 0, vS [], vS [], vS [], vS []]]) (F.cose_read_K3 a0 x_9 x_20) ?_ ?_
 rotate_left
 ·intro hK_25
  refine wpC_region (wpR_run 2 rfl ?_)
  obtain ⟨x_21, hx_21, h⟩ := obind_some h
  refine wpR_v (G_ix Tryd.underlying37 ti42 rfl rfl (ha0.now hS.fr) hx_21) rfl ?_
  refine wpR_v (OpV_fieldE (k := 0) Tryd.underlying42 rfl rfl nz3 rfl) rfl ?_
  refine wpR_v (G_loadF Tryd.underlying3 rfl rfl (ha0.now hS.fr) hx_21 rfl rfl) rfl ?_
  refine wpR_run 2 rfl ?_
  cases hb_22 : (x_21.1 != 2)
  case true =>
   have h := if_t h hb_22
   try simp only [hb_22]
   refine wpR_run 8 rfl ?_
   refine wpR_nil (QE_then_n ?_)
   exact wpC_le _ (by exact ⟨rfl, rfl, rfl, rfl, rfl, trivial⟩) (hK_25 true _ _ ⟨rfl, hS⟩ h)
  case false =>
   have h := if_f h hb_22
   try simp only [hb_22]
   refine wpR_run 3 rfl ?_
   obtain ⟨x_23, hx_23, h⟩ := obind_some h
   refine wpR_gv (t := 71) rfl rfl (G_ix Tryd.underlying37 ti42 rfl rfl (ha0.now hS.fr) hx_23) rfl ?_
   refine wpR_gv (t := 71) rfl rfl (OpV_fieldE (k := 0) Tryd.underlying42 rfl rfl nz3 rfl) rfl ?_
   refine wpR_gv (t := 71) rfl rfl (G_loadF Tryd.underlying3 rfl rfl (ha0.now hS.fr) hx_23 rfl rfl) rfl ?_
   refine wpR_run 2 rfl ?_
   refine wpR_nil (QE_then_n ?_)
   exact wpC_le _ (by exact ⟨rfl, rfl, rfl, rfl, rfl, trivial⟩) (hK_25 (x_23.1 != 2) _ _ ⟨rfl, hS⟩ h)
 rintro x_24 L w hJ h
 try dsimp only at hJ
 obtain ⟨rfl, hS⟩ := hJ
 unfold F.cose_read_K3 at h
 refine wpC_cond rfl (fun hb_62 => ?_) (fun hb_62 => ?_)
 ·have h := if_t h hb_62
  refine wpC_seq (wpC_region (wpR_v (OpV_build (vs := []) (cells := [vI 0, vS [], vS [], vS [], vS []]) rfl lay83 trivial rfl) rfl ?_))
  refine wpR_y (OpY_stB (i := 0) (us := [vI 0, vS [], vS [], vS [], vS []]) rfl sz83 rfl rfl rfl ⟨rfl, rfl, rfl, rfl, rfl, trivial⟩ rfl hS) ?_
  intro w hS
  replace hS : St _ w0 w [OE.bx b_1 [vI 0, vS [], vS [], vS [], vS []]] := hS
  refine wpR_run 1 rfl ?_
  refine wpR_nil (QE_then_n (wpC_ret (QE_then_r ?_)))
  cases h
  exact QE_rv2 rfl ⟨_, rfl, run_ldAgg (us := [vI 0, vS [], vS [], vS [], vS []]) Tryd.underlying83 rfl sz83 (hS.bxs 0 rfl rfl)⟩ rfl ⟨rfl, hS.pick [] (by decide) rfl⟩
 have h := if_f h hb_62
 refine wpC_skip (QE_then_n (wpC_seq ?_))
 refine wpC_regionS (fun w' => St [] w0 w' [OE.bx b_1 [vI 0, vS [], vS [], vS [], vS []]]) (fun i => !([18, 19].contains i)) hmix (fun _ _ _ hf => hf.2) (fun _ _ hf => hf) (by kernel_rfl) ?_
 have hS := hS.drew
 show lxE _ _ _ _ _ _ _ [0, 1, 2, 3, 4, 5, 6, 7, 8, 9, 10, 11, 12, 13, 14, 15, 16, 17, 18, 19] _ _
 refine lxE_v hS rfl rfl (fun w hF => OpV_move rfl) rfl ?_
 refine lxE_v hS rfl rfl (fun w hF => OpV_move rfl) rfl ?_
 refine lxE_v hS rfl rfl (fun w hF => OpV_bin rfl rfl (b_iadd _ x_9 1)) rfl ?_
 obtain ⟨x_26, hx_26, h⟩ := obind_some h
 refine lxE_v hS rfl rfl (fun w hF => G_ix Tryd.underlying37 ti42 rfl rfl (ha0.now hF.fr) hx_26) rfl ?_
 refine lxE_v hS rfl rfl (fun w hF => OpV_fieldE (k := 2) Tryd.underlying42 rfl rfl nz9 rfl) rfl ?_
 refine lxE_v hS rfl rfl (fun w hF => G_loadF Tryd.underlying9 rfl rfl (ha0.now hF.fr) hx_26 rfl rfl) rfl ?_
 refine lxE_v hS rfl rfl (fun w hF => OpV_move rfl) rfl ?_
 refine lxE_v hS rfl rfl (fun w hF => OpV_move rfl) rfl ?_
 obtain ⟨x_27, hx_27, h⟩ := obind_some h
 refine lxE_v hS rfl rfl (fun w hF => G_ix Tryd.underlying37 ti42 rfl rfl (ha0.now hF.fr) hx_27) rfl ?_
 refine lxE_v hS rfl rfl (fun w hF => OpV_fieldE (k := 2) Tryd.underlying42 rfl rfl nz9 rfl) rfl ?_
 refine lxE_v hS rfl rfl (fun w hF => G_loadF Tryd.underlying9 rfl rfl (ha0.now hF.fr) hx_27 rfl rfl) rfl ?_
 refine lxE_v hS rfl rfl (fun w hF => OpV_move rfl) rfl ?_
 refine lxE_v hS rfl rfl (fun w hF => OpV_move rfl) rfl ?_
 refine lxE_v hS rfl rfl (fun w hF => OpV_bin rfl rfl (b_iadd _ x_20 1)) rfl ?_
 obtain ⟨x_28, hx_28, h⟩ := obind_some h
 refine lxE_v hS rfl rfl (fun w hF => G_ix Tryd.underlying37 ti42 rfl rfl (ha0.now hF.fr) hx_28) rfl ?_
 refine lxE_v hS rfl rfl (fun w hF => OpV_fieldE (k := 2) Tryd.underlying42 rfl rfl nz9 rfl) rfl ?_
 refine lxE_v hS rfl rfl (fun w hF => G_loadF Tryd.underlying9 rfl rfl (ha0.now hF.fr) hx_28 rfl rfl) rfl ?_
 refine lxE_v hS rfl rfl (fun w hF => OpV_build (vs := [(1, vS x_26.2.2.1, [vS x_26.2.2.1]), (3, vS x_27.2.2.1, [vS x_27.2.2.1]), (4, vS x_28.2.2.1, [vS x_28.2.2.1])]) (cells := [vI 0, vS x_26.2.2.1, vS [], vS x_27.2.2.1, vS x_28.2.2.1]) rfl lay83 ⟨rfl, rfl, rfl, trivial⟩ rfl) rfl ?_
 refine lxE_x hS rfl rfl (OpX_alloc (cs := [vI 0, vS [], vS [], vS [], vS []]) tz83 rfl hS) rfl ?_
 rintro _ w ⟨b_29, rfl, hS⟩
 refine lxE_y (hS.pick [1] (by decide) rfl) rfl rfl (OpY_stB (i := 0) (us := [vI 0, vS x_26.2.2.1, vS [], vS x_27.2.2.1, vS x_28.2.2.1]) rfl sz83 rfl rfl rfl ⟨rfl, rfl, rfl, rfl, rfl, trivial⟩ rfl hS) ?_
 intro w hS
 replace hS : St _ w0 w [OE.bx b_29 [vI 0, vS x_26.2.2.1, vS [], vS x_27.2.2.1, vS x_28.2.2.1], OE.bx b_1 [vI 0, vS [], vS [], vS [], vS []]] := hS
 refine lxE_nil trivial ?_
 refine QE_then_n (wpC_seq (wpC_region (wpR_v (OpV_fieldB (k := 1) Tryd.underlying83 rfl rfl nz9 rfl) rfl ?_)))
 refine wpR_v (OpV_ldB Tryd.underlying9 rfl rfl (hS.bxc 0 rfl 1)) rfl ?_
 refine wpR_x (OpX_bytes Tryd.underlying9 Tryd.underlying22 Tryd.underlying5 rfl hS) rfl ?_
 rintro v_31 w hS
 obtain ⟨x_33, hx_33, h⟩ := obind_some h
 refine wpR_call (by kernel_rfl) rfl (c_cbor_Parse _ x_26.2.2.1 v_31  (hT.now hS.fr) (hS.rro 0 rfl).rp _ hx_33) rfl ?_
 rintro _ w ⟨v_34, rfl, hS1⟩
 have hS := hS.call hS1
 simp only [List.cons_append, List.nil_append] at hS
 refine wpR_run 7 rfl ?_
 refine wpR_nil (QE_then_n (wpC_seq (wpC_seq (wpC_region (wpR_run 2 rfl ?_)))))
 refine wpR_nil (QE_then_n ?_)
 refine wpC_cond rfl (fun hb_61 => ?_) (fun hb_61 => ?_)
 ·have h := if_t h hb_61
  refine wpC_seq (wpC_region (wpR_v (OpV_build (vs := []) (cells := [vI 0, vS [], vS [], vS [], vS []]) rfl lay83 trivial rfl) rfl ?_))
  refine wpR_run 1 rfl ?_
  refine wpR_y (OpY_stB (i := 3) (us := [vI 0, vS [], vS [], vS [], vS []]) rfl sz83 rfl rfl rfl ⟨rfl, rfl, rfl, rfl, rfl, trivial⟩ rfl hS) ?_
  intro w hS
  replace hS : St _ w0 w [own (eP eI (eP e64 (eP eS eI))) v_34 x_33.1, red e8 v_31 x_26.2.2.1, OE.bx b_29 [vI 0, vS x_26.2.2.1, vS [], vS x_27.2.2.1, vS x_28.2.2.1], OE.bx b_1 [vI 0, vS [], vS [], vS [], vS []]] := hS
  refine wpR_run 1 rfl ?_
  refine wpR_nil (QE_then_n (wpC_ret (QE_then_r ?_)))
  cases h
  exact QE_rv2 rfl ⟨_, rfl, run_ldAgg (us := [vI 0, vS [], vS [], vS [], vS []]) Tryd.underlying83 rfl sz83 (hS.bxs 3 rfl rfl)⟩ rfl ⟨rfl, hS.pick [] (by decide) rfl⟩
 have h := if_f h hb_61
 refine wpC_skip (QE_then_n (wpC_seq (wpC_seq (wpC_region (wpR_run 1 rfl ?_)))))
 obtain ⟨x_36, hx_36, h⟩ := obind_some h
 refine wpR_v (G_ix Tryd.underlying37 ti42 rfl rfl (hS.ro 0 rfl) hx_36) rfl ?_
 refine wpR_v (OpV_fieldE (k := 0) Tryd.underlying42 rfl rfl nz3 rfl) rfl ?_
 refine wpR_v (G_loadF Tryd.underlying3 rfl rfl (hS.ro 0 rfl) hx_36 rfl rfl) rfl ?_
 refine wpR_run 1 rfl ?_
 refine wpR_nil (QE_then_n ?_)
 refine wpC_cond rfl (fun hb_60 => ?_) (fun hb_60 => ?_)
 ·have h := if_t h hb_60
  refine wpC_seq (wpC_region (wpR_v (OpV_build (vs := []) (cells := [vI 0, vS [], vS [], vS [], vS []]) rfl lay83 trivial rfl) rfl ?_))
  refine wpR_y (OpY_stB (i := 3) (us := [vI 0, vS [], vS [], vS [], vS []]) rfl sz83 rfl rfl rfl ⟨rfl, rfl, rfl, rfl, rfl, trivial⟩ rfl hS) ?_
  intro w hS
  replace hS : St _ w0 w [own (eP eI (eP e64 (eP eS eI))) v_34 x_33.1, red e8 v_31 x_26.2.2.1, OE.bx b_29 [vI 0, vS x_26.2.2.1, vS [], vS x_27.2.2.1, vS x_28.2.2.1], OE.bx b_1 [vI 0, vS [], vS [], vS [], vS []]] := hS
  refine wpR_run 1 rfl ?_
  refine wpR_nil (QE_then_n (wpC_ret (QE_then_r ?_)))
  cases h
  exact QE_rv2 rfl ⟨_, rfl, run_ldAgg (us := [vI 0, vS [], vS [], vS [], vS []]) Tryd.underlying83 rfl sz83 (hS.bxs 3 rfl rfl)⟩ rfl ⟨rfl, hS.pick [] (by decide) rfl⟩
 have h := if_f h hb_60
 refine wpC_skip (QE_then_n (wpC_seq (wpC_region (wpR_run 1 rfl ?_))))
 obtain ⟨x_37, hx_37, h⟩ := obind_some h
 refine wpR_call (by kernel_rfl) rfl (c_cose_header _ x_33.1 0 v_34  (hT.now hS.fr) (hS.ro 0 rfl).rp _ hx_37) rfl ?_
 rintro _ w ⟨rfl, hS1⟩
 have hS := hS.call hS1
 simp only [List.cons_append, List.nil_append] at hS
 refine wpR_run 7 rfl ?_
 refine wpR_nil (QE_then_n (wpC_seq (wpC_region (wpR_run 3 rfl ?_))))
 obtain ⟨x_38, hx_38, h⟩ := obind_some h
 refine wpR_call (by kernel_rfl) rfl (c_cose_header _ a0 (wI (x_9 + 2)) va0  (hT.now hS.fr) (ha0.now hS.fr).rp _ hx_38) rfl ?_
 rintro _ w ⟨rfl, hS1⟩
 have hS := hS.call hS1
 simp only [List.cons_append, List.nil_append] at hS
 refine wpR_run 7 rfl ?_
 refine wpR_nil (QE_then_n (wpC_seq ?_))
 refine seq_join (r := r) (fun (g : Bool) L w => L = [(0, va0), (2, pB b_1 0), (6, pB b_29 0), (7, v_34), (10, vI x_37.1), (11, vI x_37.2.1), (14, vI x_38.2.1), (152, vB g)] ∧ St [] w0 w [OE.bx b_1 [vI 0, vS [], vS [], vS [], vS []], OE.bx b_29 [vI 0, vS x_26.2.2.1, vS [], vS x_27.2.2.1, vS x_28.2.2.1], own (eP eI (eP e64 (eP eS eI))) v_34 x_33.1]) (F.cose_read_K4 a0 x_33 x_37 x_38 x_26 x_27 x_28) ?_ ?_
 rotate_left
 ·intro hK_45
  refine wpC_region (wpR_run 3 rfl ?_)
  cases hb_39 : (!x_37.2.2)
  case true =>
   have h := if_t h hb_39
   try simp only [hb_39]
   refine wpR_run 19 rfl ?_
   refine wpR_nil (QE_then_n ?_)
   exact wpC_le _ (by exact ⟨rfl, rfl, rfl, rfl, rfl, rfl, rfl, rfl, trivial⟩) (hK_45 true _ _ ⟨rfl, (hS.pick [3, 2, 0] (by decide) rfl)⟩ h)
  case false =>
   have h := if_f h hb_39
   try simp only [hb_39]
   refine wpR_run 4 rfl ?_
   cases hb_40 : (!x_38.2.2)
   case true =>
    have h := if_t h hb_40
    try simp only [hb_40]
    refine wpR_run 15 rfl ?_
    refine wpR_nil (QE_then_n ?_)
    exact wpC_le _ (by exact ⟨rfl, rfl, rfl, rfl, rfl, rfl, rfl, rfl, trivial⟩) (hK_45 true _ _ ⟨rfl, (hS.pick [3, 2, 0] (by decide) rfl)⟩ h)
   case false =>
    have h := if_f h hb_40
    try simp only [hb_40]
    refine wpR_run 4 rfl ?_
    cases hb_41 : (decide (x_37.1 < 0))
    case true =>
     have h := if_t h hb_41
     try simp only [hb_41]
     refine wpR_run 11 rfl ?_
     refine wpR_nil (QE_then_n ?_)
     exact wpC_le _ (by exact ⟨rfl, rfl, rfl, rfl, rfl, rfl, rfl, rfl, trivial⟩) (hK_45 true _ _ ⟨rfl, (hS.pick [3, 2, 0] (by decide) rfl)⟩ h)
    case false =>
     have h := if_f h hb_41
     try simp only [hb_41]
     refine wpR_run 4 rfl ?_
     cases hb_42 : (decide ((0 : Int) ≤ x_38.1))
     case true =>
      have h := if_t h hb_42
      try simp only [hb_42]
      refine wpR_run 7 rfl ?_
      refine wpR_nil (QE_then_n ?_)
      exact wpC_le _ (by exact ⟨rfl, rfl, rfl, rfl, rfl, rfl, rfl, rfl, trivial⟩) (hK_45 true _ _ ⟨rfl, (hS.pick [3, 2, 0] (by decide) rfl)⟩ h)
     case false =>
      have h := if_f h hb_42
      try simp only [hb_42]
      refine wpR_run 3 rfl ?_
      cases hb_43 : (decide ((0 : Int) ≤ x_37.2.1))
      case true =>
       have h := if_t h hb_43
       try simp only [hb_43]
       refine wpR_run 4 rfl ?_
       refine wpR_nil (QE_then_n ?_)
       exact wpC_le _ (by exact ⟨rfl, rfl, rfl, rfl, rfl, rfl, rfl, rfl, trivial⟩) (hK_45 (decide ((0 : Int) ≤ x_38.2.1)) _ _ ⟨rfl, (hS.pick [3, 2, 0] (by decide) rfl)⟩ h)
      case false =>
       have h := if_f h hb_43
       try simp only [hb_43]
       refine wpR_run 4 rfl ?_
       refine wpR_nil (QE_then_n ?_)
       exact wpC_le _ (by exact ⟨rfl, rfl, rfl, rfl, rfl, rfl, rfl, rfl, trivial⟩) (hK_45 false _ _ ⟨rfl, (hS.pick [3, 2, 0] (by decide) rfl)⟩ h)
 rintro x_44 L w hJ h
 try dsimp only at hJ
 obtain ⟨rfl, hS⟩ := hJ
 unfold F.cose_read_K4 at h
 refine wpC_cond rfl (fun hb_59 => ?_) (fun hb_59 => ?_)
 ·have h := if_t h hb_59
  refine wpC_seq (wpC_region (wpR_v (OpV_build (vs := []) (cells := [vI 0, vS [], vS [], vS [], vS []]) rfl lay83 trivial rfl) rfl ?_))
  refine wpR_y (OpY_stB (i := 0) (us := [vI 0, vS [], vS [], vS [], vS []]) rfl sz83 rfl rfl rfl ⟨rfl, rfl, rfl, rfl, rfl, trivial⟩ rfl hS) ?_
  intro w hS
  replace hS : St _ w0 w [OE.bx b_1 [vI 0, vS [], vS [], vS [], vS []], OE.bx b_29 [vI 0, vS x_26.2.2.1, vS [], vS x_27.2.2.1, vS x_28.2.2.1], own (eP eI (eP e64 (eP eS eI))) v_34 x_33.1] := hS
  refine wpR_run 1 rfl ?_
  refine wpR_nil (QE_then_n (wpC_ret (QE_then_r ?_)))
  cases h
  exact QE_rv2 rfl ⟨_, rfl, run_ldAgg (us := [vI 0, vS [], vS [], vS [], vS []]) Tryd.underlying83 rfl sz83 (hS.bxs 0 rfl rfl)⟩ rfl ⟨rfl, hS.pick [] (by decide) rfl⟩
 have h := if_f h hb_59
 refine wpC_skip (QE_then_n ?_)
 refine seq_join (r := r) (fun (g : List UInt8) L w => L = [(2, pB b_1 0), (6, pB b_29 0), (7, v_34), (10, vI x_37.1)] ∧ St [] w0 w [OE.bx b_1 [vI 0, vS [], vS [], vS [], vS []], OE.bx b_29 [vI 0, vS x_26.2.2.1, vS g, vS x_27.2.2.1, vS x_28.2.2.1], own (eP eI (eP e64 (eP eS eI))) v_34 x_33.1]) (F.cose_read_K5 x_33 x_37 x_26 x_27 x_28) ?_ ?_
 rotate_left
 ·intro hK_51
  refine wpC_block ?_
  refine wpC_seq (wpC_region (wpR_run 3 rfl ?_))
  refine wpR_nil (QE_then_n ?_)
  refine wpC_cond rfl (fun hb_49 => ?_) (fun hb_49 => ?_)
  ·have h := if_t h hb_49
   refine wpC_region (wpR_run 2 rfl ?_)
   obtain ⟨x_46, hx_46, h⟩ := obind_some h
   refine wpR_v (G_ix Tryd.underlying37 ti42 rfl rfl (hS.ro 2 rfl) hx_46) rfl ?_
   refine wpR_v (OpV_fieldE (k := 2) Tryd.underlying42 rfl rfl nz9 rfl) rfl ?_
   refine wpR_v (G_loadF Tryd.underlying9 rfl rfl (hS.ro 2 rfl) hx_46 rfl rfl) rfl ?_
   refine wpR_v (OpV_fieldB (k := 2) Tryd.underlying83 rfl rfl nz9 rfl) rfl ?_
   refine wpR_y (OpY_stB (i := 1) (us := [vS x_46.2.2.1]) rfl sz9 rfl rfl rfl ⟨rfl, trivial⟩ rfl hS) ?_
   intro w hS
   replace hS : St _ w0 w [OE.bx b_1 [vI 0, vS [], vS [], vS [], vS []], OE.bx b_29 [vI 0, vS x_26.2.2.1, vS x_46.2.2.1, vS x_27.2.2.1, vS x_28.2.2.1], own (eP eI (eP e64 (eP eS eI))) v_34 x_33.1] := hS
   refine wpR_nil (QE_blk_n ?_)
   refine QE_then_n ?_
   exact wpC_le _ (by exact ⟨rfl, rfl, rfl, rfl, trivial⟩) (hK_51 x_46.2.2.1 _ _ ⟨rfl, hS⟩ h)
  have h := if_f h hb_49
  refine wpC_seq (wpC_region (wpR_run 3 rfl ?_))
  refine wpR_nil (QE_then_n ?_)
  refine wpC_cond rfl (fun hb_48 => ?_) (fun hb_48 => ?_)
  ·have h := if_t h hb_48
   refine wpC_region (wpR_run 2 rfl ?_)
   obtain ⟨x_47, hx_47, h⟩ := obind_some h
   refine wpR_v (G_ix Tryd.underlying37 ti42 rfl rfl (ha0.now hS.fr) hx_47) rfl ?_
   refine wpR_v (OpV_fieldE (k := 2) Tryd.underlying42 rfl rfl nz9 rfl) rfl ?_
   refine wpR_v (G_loadF Tryd.underlying9 rfl rfl (ha0.now hS.fr) hx_47 rfl rfl) rfl ?_
   refine wpR_v (OpV_fieldB (k := 2) Tryd.underlying83 rfl rfl nz9 rfl) rfl ?_
   refine wpR_y (OpY_stB (i := 1) (us := [vS x_47.2.2.1]) rfl sz9 rfl rfl rfl ⟨rfl, trivial⟩ rfl hS) ?_
   intro w hS
   replace hS : St _ w0 w [OE.bx b_1 [vI 0, vS [], vS [], vS [], vS []], OE.bx b_29 [vI 0, vS x_26.2.2.1, vS x_47.2.2.1, vS x_27.2.2.1, vS x_28.2.2.1], own (eP eI (eP e64 (eP eS eI))) v_34 x_33.1] := hS
   refine wpR_nil (QE_blk_n ?_)
   refine QE_then_n ?_
   exact wpC_le _ (by exact ⟨rfl, rfl, rfl, rfl, trivial⟩) (hK_51 x_47.2.2.1 _ _ ⟨rfl, hS⟩ h)
  have h := if_f h hb_48
  refine wpC_skip (QE_blk_n ?_)
  refine QE_then_n ?_
  exact wpC_le _ (by exact ⟨rfl, rfl, rfl, rfl, trivial⟩) (hK_51 [] _ _ ⟨rfl, hS⟩ h)
 rintro x_50 L w hJ h
 try dsimp only at hJ
 obtain ⟨rfl, hS⟩ := hJ
 unfold F.cose_read_K5 at h
 refine seq_join (r := r) (fun (g : Int) L w => L = [(2, pB b_1 0), (6, pB b_29 0)] ∧ St [] w0 w [OE.bx b_1 [vI 0, vS [], vS [], vS [], vS []], OE.bx b_29 [vI g, vS x_26.2.2.1, vS x_50, vS x_27.2.2.1, vS x_28.2.2.1]]) (F.cose_read_K6 x_26 x_27 x_28 x_50) ?_ ?_
 rotate_left
 ·intro hK_57
  refine wpC_seq (wpC_region (wpR_run 2 rfl ?_))
  obtain ⟨x_52, hx_52, h⟩ := obind_some h
  refine wpR_v (G_ix Tryd.underlying37 ti42 rfl rfl (hS.ro 2 rfl) hx_52) rfl ?_
  refine wpR_v (OpV_fieldE (k := 0) Tryd.underlying42 rfl rfl nz3 rfl) rfl ?_
  refine wpR_v (G_loadF Tryd.underlying3 rfl rfl (hS.ro 2 rfl) hx_52 rfl rfl) rfl ?_
  refine wpR_run 1 rfl ?_
  refine wpR_nil (QE_then_n ?_)
  refine wpC_cond rfl (fun hb_55 => ?_) (fun hb_55 => ?_)
  ·have h := if_t h hb_55
   refine wpC_region (wpR_run 2 rfl ?_)
   obtain ⟨x_53, hx_53, h⟩ := obind_some h
   refine wpR_v (G_ix Tryd.underlying37 ti42 rfl rfl (hS.ro 2 rfl) hx_53) rfl ?_
   refine wpR_v (OpV_fieldE (k := 1) Tryd.underlying42 rfl rfl nz40 rfl) rfl ?_
   refine wpR_v (G_loadF Tryd.underlying40 rfl rfl (hS.ro 2 rfl) hx_53 rfl rfl) rfl ?_
   obtain ⟨x_54, hx_54, h⟩ := obind_some h
   refine wpR_call (by kernel_rfl) rfl (c_cose_algorithm _ x_53.2.1    _ hx_54) rfl ?_
   rintro _ w ⟨rfl, hS1⟩
   have hS := hS.call hS1
   simp only [List.cons_append, List.nil_append] at hS
   refine wpR_v (OpV_fieldB (k := 0) Tryd.underlying83 rfl rfl nz50 rfl) rfl ?_
   refine wpR_y (OpY_stB (i := 1) (us := [vI x_54]) rfl sz50 rfl rfl rfl ⟨rfl, trivial⟩ rfl hS) ?_
   intro w hS
   replace hS : St _ w0 w [OE.bx b_1 [vI 0, vS [], vS [], vS [], vS []], OE.bx b_29 [vI x_54, vS x_26.2.2.1, vS x_50, vS x_27.2.2.1, vS x_28.2.2.1], own (eP eI (eP e64 (eP eS eI))) v_34 x_33.1] := hS
   refine wpR_nil (QE_then_n ?_)
   exact wpC_le _ (by exact ⟨rfl, rfl, trivial⟩) (hK_57 x_54 _ _ ⟨rfl, (hS.pick [0, 1] (by decide) rfl)⟩ h)
  have h := if_f h hb_55
  refine wpC_skip (QE_then_n ?_)
  exact wpC_le _ (by exact ⟨rfl, rfl, trivial⟩) (hK_57 0 _ _ ⟨rfl, (hS.pick [0, 1] (by decide) rfl)⟩ h)
 rintro x_56 L w hJ h
 try dsimp only at hJ
 obtain ⟨rfl, hS⟩ := hJ
 unfold F.cose_read_K6 at h
 refine wpC_seq (wpC_seq (wpC_region (wpR_v (OpV_fieldB (k := 0) Tryd.underlying83 rfl rfl nz50 rfl) rfl ?_)))
 refine wpR_v (OpV_ldB Tryd.underlying50 rfl rfl (hS.bxc 1 rfl 0)) rfl ?_
 refine wpR_run 1 rfl ?_
 refine wpR_nil (QE_then_n ?_)
 refine wpC_cond rfl (fun hb_58 => ?_) (fun hb_58 => ?_)
 ·have h := if_t h hb_58
  refine wpC_seq (wpC_region (wpR_v (OpV_build (vs := []) (cells := [vI 0, vS [], vS [], vS [], vS []]) rfl lay83 trivial rfl) rfl ?_))
  refine wpR_y (OpY_stB (i := 0) (us := [vI 0, vS [], vS [], vS [], vS []]) rfl sz83 rfl rfl rfl ⟨rfl, rfl, rfl, rfl, rfl, trivial⟩ rfl hS) ?_
  intro w hS
  replace hS : St _ w0 w [OE.bx b_1 [vI 0, vS [], vS [], vS [], vS []], OE.bx b_29 [vI x_56, vS x_26.2.2.1, vS x_50, vS x_27.2.2.1, vS x_28.2.2.1]] := hS
  refine wpR_run 1 rfl ?_
  refine wpR_nil (QE_then_n (wpC_ret (QE_then_r ?_)))
  cases h
  exact QE_rv2 rfl ⟨_, rfl, run_ldAgg (us := [vI 0, vS [], vS [], vS [], vS []]) Tryd.underlying83 rfl sz83 (hS.bxs 0 rfl rfl)⟩ rfl ⟨rfl, hS.pick [] (by decide) rfl⟩
 have h := if_f h hb_58
 refine wpC_skip (QE_then_n (wpC_seq (wpC_region (wpR_v (OpV_ldBs (us := [vI x_56, vS x_26.2.2.1, vS x_50, vS x_27.2.2.1, vS x_28.2.2.1]) Tryd.underlying83 rfl sz83 rfl (hS.bxs 1 rfl rfl)) rfl ?_))))
 refine wpR_y (OpY_stB (i := 0) (us := [vI x_56, vS x_26.2.2.1, vS x_50, vS x_27.2.2.1, vS x_28.2.2.1]) rfl sz83 rfl rfl rfl ⟨rfl, rfl, rfl, rfl, rfl, trivial⟩ rfl hS) ?_
 intro w hS
 replace hS : St _ w0 w [OE.bx b_1 [vI x_56, vS x_26.2.2.1, vS x_50, vS x_27.2.2.1, vS x_28.2.2.1], OE.bx b_29 [vI x_56, vS x_26.2.2.1, vS x_50, vS x_27.2.2.1, vS x_28.2.2.1]] := hS
 refine wpR_run 1 rfl ?_
 refine wpR_nil (QE_then_n (wpC_ret ?_))
 cases h
 exact QE_rv2 rfl ⟨_, rfl, run_ldAgg (us := [vI x_56, vS x_26.2.2.1, vS x_50, vS x_27.2.2.1, vS x_28.2.2.1]) Tryd.underlying83 rfl sz83 (hS.bxs 0 rfl rfl)⟩ rfl ⟨rfl, hS.pick [] (by decide) rfl⟩
end Go.Proofs
