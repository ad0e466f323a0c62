import Derived.Test.YtgjpaedgcpjigaaDoorYW0
import Derived.Test.YtgjpaedgcpjigaaDoorGkFcose
import Derived.Test.YtgjpaedgcpjigaaDoorYWcborc
import Derived.Test.YtgjpaedgcpjigaaDoorYWlib
set_option linter.unusedVariables false
set_option linter.unusedSimpArgs false
set_option linter.unusedVariables false
set_option maxRecDepth 4000
namespace Go.Proofs
open Go Go.RowKit Go.Gk
theorem c_signet_cose_Parse_1 (w0 : World) (a0 : Int)   (r : Int × List UInt8 × List UInt8 × List UInt8 × List UInt8 × Int)
  (h : F.signet_cose_Parse_1 a0 = some r) : Calls Tryd.prog 40 #[vI a0] w0 (Ret fun v w => ∃ u1 u2 u3 u4 : Value, v = .tuple #[vI r.1, u1, u2, u3, u4, vI r.2.2.2.2.2] ∧ St [] w0 w [own e8 u1 r.2.1, own e8 u2 r.2.2.1, own e8 u3 r.2.2.2.1, own e8 u4 r.2.2.2.2.1]) := by
 refine calls_at 9 Tryd.func40 rfl rfl rfl ?_
 have hS := St.start w0
 refine wpC_le [(0, vI a0)] ⟨rfl, trivial⟩ ?_
 unfold F.signet_cose_Parse_1 at h
 refine wpC_seq (wpC_region (wpR_v (OpV_assign rfl) rfl (wpR_v (OpV_assign rfl) rfl (wpR_v (OpV_assign rfl) rfl (wpR_v (OpV_assign rfl) rfl (wpR_v (OpV_assign rfl) rfl ?_))))))
 refine wpR_v (OpV_assign rfl) rfl (wpR_nil (QE_then_n (wpC_seq (wpC_region (wpR_v (OpV_move rfl) rfl (wpR_v (OpV_assign rfl) rfl ?_))))))
 refine wpR_v (OpV_assign rfl) rfl (wpR_v (OpV_assign rfl) rfl (wpR_v (OpV_assign rfl) rfl (wpR_v (OpV_assign rfl) rfl (wpR_v (OpV_assign rfl) rfl (wpR_nil (QE_then_n ?_))))))
 refine wpC_ret ?_
 cases h
 exact QE_ret6 rfl rfl rfl rfl rfl rfl rfl ⟨.slice none 0 0, .slice none 0 0, .slice none 0 0, .slice none 0 0, rfl, ((((hS.nil e8).nil e8).nil e8).nil e8).pick [3, 2, 1, 0] (by decide) rfl⟩
theorem c_signet_cose_header_1 (w0 : World) (a0 : UInt64) (c0_0 : List (Int × UInt64 × (List UInt8) × Int)) (c1_0 : Int) (c2_0 : Int) (vc0_0 : Value) (bc0 : Nat) (bc1 : Nat) (bc2 : Nat) (S : List Nat) (hS : St S w0 w0 [OE.bx bc0 [vc0_0], OE.bx bc1 [vI c1_0], OE.bx bc2 [vI c2_0]]) (hT : TB S w0) (hc0_0 : RP S w0 (eP eI (eP e64 (eP eS eI))) vc0_0 c0_0) (r : Int × Int × Int)
  (h : F.signet_cose_header_1 a0 c0_0 c1_0 c2_0 = some r) : Calls Tryd.prog 71 #[v64 a0, pB bc0 0, pB bc1 0, pB bc2 0] w0 (Ret fun v w => v = vI r.1 ∧ St S w0 w [OE.bx bc0 [vc0_0], OE.bx bc1 [vI r.2.1], OE.bx bc2 [vI r.2.2]]) := by
 refine calls_at 18 Tryd.func71 rfl rfl rfl ?_
 refine wpC_le [(0, v64 a0), (1, pB bc0 0), (2, pB bc1 0), (3, pB bc2 0)] ⟨rfl, rfl, rfl, rfl, trivial⟩ ?_
 unfold F.signet_cose_header_1 at h
 refine wpC_seq (wpC_region (wpR_v (OpV_assign rfl) rfl (wpR_nil (QE_then_n (wpC_seq (wpC_region ?_))))))
 refine wpR_v (OpV_ldB Tryd.underlying37 rfl rfl (hS.bxc 0 rfl 0)) rfl ?_
 refine wpR_v (OpV_ldB Tryd.underlying3 rfl rfl (hS.bxc 1 rfl 0)) rfl ?_
 refine wpR_v (OpV_move rfl) rfl (wpR_v (OpV_build (vs := [(1, v64 a0, [v64 a0])]) (cells := [vI 0, v64 a0, vS [], vI 0]) rfl lay42 ⟨rfl, trivial⟩ rfl) rfl ?_)
 refine wpR_x (OpX_litE (e := (eP eI (eP e64 (eP eS eI)))) (l := ([(0, a0, [], 0)] : List (Int × UInt64 × (List UInt8) × Int))) (vs := [(0, .agg #[vI 0, v64 a0, vS [], vI 0], [vI 0, v64 a0, vS [], vI 0])]) Tryd.underlying37 ti42 rfl ⟨rfl, trivial⟩ rfl rfl (Nat.le_of_ble_eq_true rfl) (Nat.le_of_ble_eq_true rfl) hS) rfl ?_
 rintro v_4 w hS
 obtain ⟨x_6, hx_6, h⟩ := obind_some h
 refine wpR_call (by kernel_rfl) rfl (c_cbor_Member _ c0_0 c1_0 ([(0, a0, [], 0)] : List (Int × UInt64 × (List UInt8) × Int)) vc0_0 v_4  (hT.now hS.fr) (hc0_0.now hS.fr).rp (hS.ro 0 rfl).rp _ hx_6) rfl ?_
 rintro _ w ⟨rfl, hS1⟩
 have hS := hS.call hS1
 simp only [List.cons_append, List.nil_append] at hS
 refine wpR_v (OpV_assign rfl) rfl (wpR_nil (QE_then_n ?_))
 refine seq_join (r := r) (fun (g : Int) L w => L = [(6, vI x_6)] ∧ St S w0 w [OE.bx bc0 [vc0_0], OE.bx bc1 [vI c1_0], OE.bx bc2 [vI g]]) (F.signet_cose_header_1_K1 c1_0 x_6) ?_ ?_
 ·rintro x_8 L w hJ h
  try dsimp only at hJ
  obtain ⟨rfl, hS⟩ := hJ
  unfold F.signet_cose_header_1_K1 at h
  refine wpC_seq (wpC_region (wpR_v (OpV_move rfl) rfl (wpR_v (OpV_assign rfl) rfl (wpR_nil (QE_then_n (wpC_ret ?_))))))
  cases h
  exact QE_ret1 rfl rfl ⟨rfl, hS.pick [0, 1, 2] (by decide) rfl⟩
 ·intro hK_9
  refine wpC_seq (wpC_region (wpR_v (OpV_move rfl) rfl (wpR_v (OpV_bin rfl rfl (b_igeq _ x_6 0)) rfl ?_)))
  refine wpR_nil (QE_then_n ?_)
  refine wpC_cond rfl (fun hb_7 => ?_) (fun hb_7 => ?_)
  ·have h := if_t h hb_7
   refine wpC_region (wpR_v (OpV_ldB Tryd.underlying3 rfl rfl (hS.bxc 3 rfl 0)) rfl ?_)
   refine wpR_v (OpV_bin rfl rfl (b_iadd _ c2_0 1)) rfl ?_
   refine wpR_y (OpY_stB (i := 3) (us := [vI (wI (c2_0 + 1))]) rfl sz3 rfl rfl rfl ⟨rfl, trivial⟩ rfl hS) ?_
   intro w hS
   replace hS : St _ w0 w [own (eP eI (eP e64 (eP eS eI))) v_4 ([(0, a0, [], 0)] : List (Int × UInt64 × (List UInt8) × Int)), OE.bx bc0 [vc0_0], OE.bx bc1 [vI c1_0], OE.bx bc2 [vI (wI (c2_0 + 1))]] := hS
   refine wpR_nil (QE_then_n ?_)
   exact wpC_le _ (by exact ⟨rfl, trivial⟩) (hK_9 (wI (c2_0 + 1)) _ _ ⟨rfl, (hS.pick [1, 2, 3] (by decide) rfl)⟩ h)
  ·have h := if_f h hb_7
   refine wpC_skip (QE_then_n ?_)
   exact wpC_le _ (by exact ⟨rfl, trivial⟩) (hK_9 c2_0 _ _ ⟨rfl, (hS.pick [1, 2, 3] (by decide) rfl)⟩ h)
theorem c_cose_header (w0 : World) (a0 : List (Int × UInt64 × (List UInt8) × Int)) (a1 : Int) (va0 : Value) (hT : TB [] w0) (ha0 : RP [] w0 (eP eI (eP e64 (eP eS eI))) va0 a0) (r : Int × Int × Bool)
  (h : F.cose_header a0 a1 = some r) : Calls Tryd.prog 55 #[va0, vI a1] w0 (Ret fun v w => v = .tuple #[vI r.1, vI r.2.1, vB r.2.2] ∧ St [] w0 w []) := by
 refine calls_at 36 Tryd.func55 rfl rfl rfl ?_
 have hS := St.start w0
 refine wpC_le [(0, va0), (1, vI a1)] ⟨rfl, rfl, trivial⟩ ?_
 unfold F.cose_header at h
 refine wpC_seq (wpC_region (wpR_x (OpX_box (cs := [va0]) rfl (cells_one (ha0.now hS.fr).one) hS) rfl ?_))
 rintro _ w ⟨b_1, rfl, hS⟩
 refine wpR_x (OpX_box (cs := [vI a1]) rfl rfl hS) rfl ?_
 rintro _ w ⟨b_3, rfl, hS⟩
 refine wpR_v (OpV_assign rfl) rfl (wpR_v (OpV_assign rfl) rfl (wpR_v (OpV_assign rfl) rfl (wpR_nil (QE_then_n (wpC_seq (wpC_region ?_))))))
 refine wpR_x (OpX_alloc (cs := [vI 0]) tz3 rfl hS) rfl ?_
 rintro _ w ⟨b_5, rfl, hS⟩
 refine wpR_y (OpY_stB (i := 0) (us := [vI 0]) rfl sz3 rfl rfl rfl ⟨rfl, trivial⟩ rfl hS) ?_
 intro w hS
 replace hS : St _ w0 w [OE.bx b_5 [vI 0], OE.bx b_3 [vI a1], OE.bx b_1 [va0]] := hS
 refine wpR_nil (QE_then_n (wpC_seq (wpC_region (wpR_v (OpV_mkfunc (vs := [pB b_1 0, pB b_3 0, pB b_5 0]) rfl) rfl ?_))))
 refine wpR_v (OpV_assign rfl) rfl (wpR_nil (QE_then_n (wpC_seq (wpC_region (wpR_v (OpV_move rfl) rfl ?_)))))
 have hG := hS.pick (os' := [OE.bx b_1 [va0], OE.bx b_3 [vI a1], OE.bx b_5 [vI 0]] ++ []) [2, 1, 0] (by decide) rfl
 obtain ⟨x_7, hx_7, h⟩ := obind_some h
 refine wpR_callV rfl (by kernel_rfl) rfl (c_signet_cose_header_1 _ 1 a0 a1 0 va0 b_1 b_3 b_5 _ hG.give (hT.give hG) (ha0.give (Nat.le_of_ble_eq_true rfl) hG) _ hx_7) rfl ?_
 rintro _ w ⟨rfl, hS1⟩
 have hS := hG.back hS1
 simp only [List.cons_append, List.nil_append] at hS
 refine wpR_v (OpV_move rfl) rfl ?_
 have hG := hS.pick (os' := [OE.bx b_1 [va0], OE.bx b_3 [vI x_7.2.1], OE.bx b_5 [vI x_7.2.2]] ++ []) [0, 1, 2] (by decide) rfl
 obtain ⟨x_8, hx_8, h⟩ := obind_some h
 refine wpR_callV rfl (by kernel_rfl) rfl (c_signet_cose_header_1 _ 4 a0 x_7.2.1 x_7.2.2 va0 b_1 b_3 b_5 _ hG.give (hT.give hG) (ha0.give (Nat.le_of_ble_eq_true rfl) hG) _ hx_8) rfl ?_
 rintro _ w ⟨rfl, hS1⟩
 have hS := hG.back hS1
 simp only [List.cons_append, List.nil_append] at hS
 refine wpR_v (OpV_assign rfl) rfl (wpR_v (OpV_assign rfl) rfl (wpR_nil (QE_then_n (wpC_seq ?_))))
 refine wpC_regionT (fun w' => St [] w0 w' [OE.bx b_1 [va0], OE.bx b_3 [vI x_8.2.1], OE.bx b_5 [vI x_8.2.2]]) (fun _ => true) hmix (fun _ _ _ hf => hf.2) (fun _ _ hf => hf) (by kernel_rfl) ?_
 have hS := hS.drew
 show lxE _ _ _ _ _ _ _ [0, 1, 2, 3, 4, 5, 6, 7, 8, 9, 10, 11, 12, 13, 14, 15, 16, 17, 18, 19, 20, 21, 22, 23, 24] _ _
 refine lxE_v hS rfl rfl (fun w hF => OpV_move rfl) rfl ?_
 refine lxE_v hS rfl rfl (fun w hF => OpV_move rfl) rfl ?_
 refine lxE_v hS rfl rfl (fun w hF => OpV_ldB Tryd.underlying37 rfl rfl (hF.bxc 0 rfl 0)) rfl ?_
 refine lxE_v hS rfl rfl (fun w hF => OpV_ldB Tryd.underlying3 rfl rfl (hF.bxc 1 rfl 0)) rfl ?_
 obtain ⟨x_9, hx_9, h⟩ := obind_some h
 refine lxE_v hS rfl rfl (fun w hF => G_ix Tryd.underlying37 ti42 rfl rfl (ha0.now hF.fr) hx_9) rfl ?_
 refine lxE_v hS rfl rfl (fun w hF => OpV_fieldE (k := 3) Tryd.underlying42 rfl rfl nz3 rfl) rfl ?_
 refine lxE_v hS rfl rfl (fun w hF => G_loadF Tryd.underlying3 rfl rfl (ha0.now hF.fr) hx_9 rfl rfl) rfl ?_
 refine lxE_v hS rfl rfl (fun w hF => OpV_ldB Tryd.underlying3 rfl rfl (hF.bxc 2 rfl 0)) rfl ?_
 refine lxE_v hS rfl rfl (fun w hF => OpV_bin rfl rfl (b_imul _ 2 x_8.2.2)) rfl ?_
 refine lxE_v hS rfl rfl (fun w hF => OpV_bin rfl rfl (b_ieql _ x_9.2.2.2 (wI (2 * x_8.2.2)))) rfl ?_
 refine lxE_v hS rfl rfl (fun w hF => OpV_move rfl) rfl ?_
 cases hb_10 : (x_9.2.2.2 == (wI (2 * x_8.2.2)))
 case true =>
  have h := if_t h hb_10
  try simp only [hb_10]
  refine lxE_gv (t := 24) hS rfl rfl rfl rfl (fun w hF => OpV_move rfl) rfl ?_
  refine lxE_gv (t := 24) hS rfl rfl rfl rfl (fun w hF => OpV_bin rfl rfl (b_ilss _ x_8.1 0)) rfl ?_
  refine lxE_gv (t := 24) hS rfl rfl rfl rfl (fun w hF => OpV_move rfl) rfl ?_
  cases hb_11 : (decide (x_8.1 < 0))
  case true =>
   have h := if_t h hb_11
   try simp only [hb_11]
   refine lxE_gskip (b := true) (t := 27) hS rfl rfl rfl rfl rfl rfl ?_
   refine lxE_gskip (b := true) (t := 27) hS rfl rfl rfl rfl rfl rfl ?_
   refine lxE_gskip (b := true) (t := 27) hS rfl rfl rfl rfl rfl rfl ?_
   refine lxE_gskip (b := true) (t := 27) hS rfl rfl rfl rfl rfl rfl ?_
   refine lxE_gskip (b := true) (t := 27) hS rfl rfl rfl rfl rfl rfl ?_
   refine lxE_gskip (b := true) (t := 27) hS rfl rfl rfl rfl rfl rfl ?_
   refine lxE_gv (t := 24) hS rfl rfl rfl rfl (fun w hF => OpV_pickT rfl rfl) rfl ?_
   refine lxE_v hS rfl rfl (fun w hF => OpV_pickT rfl rfl) rfl ?_
   refine lxE_v hS rfl rfl (fun w hF => OpV_assign rfl) rfl ?_
   refine lxE_v hS rfl rfl (fun w hF => OpV_assign rfl) rfl ?_
   refine lxE_v hS rfl rfl (fun w hF => OpV_assign rfl) rfl ?_
   refine lxE_nil hS ?_
   refine QE_then_n (wpC_ret ?_)
   cases h
   exact QE_ret3 rfl rfl rfl rfl ⟨rfl, hS.pick [] (by decide) rfl⟩
  case false =>
   have h := if_f h hb_11
   try simp only [hb_11]
   refine lxE_gv (t := 27) hS rfl rfl rfl rfl (fun w hF => OpV_ldB Tryd.underlying37 rfl rfl (hF.bxc 0 rfl 0)) rfl ?_
   refine lxE_gv (t := 27) hS rfl rfl rfl rfl (fun w hF => OpV_move rfl) rfl ?_
   obtain ⟨x_12, hx_12, h⟩ := obind_some h
   refine lxE_gv (t := 27) hS rfl rfl rfl rfl (fun w hF => G_ix Tryd.underlying37 ti42 rfl rfl (ha0.now hF.fr) hx_12) rfl ?_
   refine lxE_gv (t := 27) hS rfl rfl rfl rfl (fun w hF => OpV_fieldE (k := 0) Tryd.underlying42 rfl rfl nz3 rfl) rfl ?_
   refine lxE_gv (t := 27) hS rfl rfl rfl rfl (fun w hF => G_loadF Tryd.underlying3 rfl rfl (ha0.now hF.fr) hx_12 rfl rfl) rfl ?_
   refine lxE_gv (t := 27) hS rfl rfl rfl rfl (fun w hF => OpV_bin rfl rfl (b_ieql _ x_12.1 2)) rfl ?_
   refine lxE_gv (t := 24) hS rfl rfl rfl rfl (fun w hF => OpV_pickF rfl rfl) rfl ?_
   refine lxE_v hS rfl rfl (fun w hF => OpV_pickT rfl rfl) rfl ?_
   refine lxE_v hS rfl rfl (fun w hF => OpV_assign rfl) rfl ?_
   refine lxE_v hS rfl rfl (fun w hF => OpV_assign rfl) rfl ?_
   refine lxE_v hS rfl rfl (fun w hF => OpV_assign rfl) rfl ?_
   refine lxE_nil hS ?_
   refine QE_then_n (wpC_ret ?_)
   cases h
   exact QE_ret3 rfl rfl rfl rfl ⟨rfl, hS.pick [] (by decide) rfl⟩
 case false =>
  have h := if_f h hb_10
  try simp only [hb_10]
  refine lxE_gskip (b := false) (t := 24) hS rfl rfl rfl rfl rfl rfl ?_
  refine lxE_gskip (b := false) (t := 24) hS rfl rfl rfl rfl rfl rfl ?_
  refine lxE_gskip (b := false) (t := 24) hS rfl rfl rfl rfl rfl rfl ?_
  refine lxE_gskipU (t := 27) hS rfl rfl rfl rfl rfl ?_
  refine lxE_gskipU (t := 27) hS rfl rfl rfl rfl rfl ?_
  refine lxE_gskipU (t := 27) hS rfl rfl rfl rfl rfl ?_
  refine lxE_gskipU (t := 27) hS rfl rfl rfl rfl rfl ?_
  refine lxE_gskipU (t := 27) hS rfl rfl rfl rfl rfl ?_
  refine lxE_gskipU (t := 27) hS rfl rfl rfl rfl rfl ?_
  refine lxE_gskip (b := false) (t := 24) hS rfl rfl rfl rfl rfl rfl ?_
  refine lxE_v hS rfl rfl (fun w hF => OpV_pickF rfl rfl) rfl ?_
  refine lxE_v hS rfl rfl (fun w hF => OpV_assign rfl) rfl ?_
  refine lxE_v hS rfl rfl (fun w hF => OpV_assign rfl) rfl ?_
  refine lxE_v hS rfl rfl (fun w hF => OpV_assign rfl) rfl ?_
  refine lxE_nil hS ?_
  refine QE_then_n (wpC_ret ?_)
  cases h
  exact QE_ret3 rfl rfl rfl rfl ⟨rfl, hS.pick [] (by decide) rfl⟩
end Go.Proofs
