import Derived.Test.YtgjpaedgcpjigaaDoorXW0
import Derived.Test.YtgjpaedgcpjigaaDoorGkFlaw31
import Derived.Test.YtgjpaedgcpjigaaDoorXWcborc
import Derived.Test.YtgjpaedgcpjigaaDoorXWcoseb
import Derived.Test.YtgjpaedgcpjigaaDoorXWlaw31b
set_option linter.unusedVariables false
set_option linter.unusedSimpArgs false
set_option linter.unusedVariables false
set_option maxRecDepth 4000
namespace Go.Proofs
open Go Go.RowKit Go.Gk
theorem c_law31_head (w0 : World) (a0 : List UInt8) (va0 : Value) (hT : TB [] w0) (ha0 : RP [] w0 e8 va0 a0) (r : List UInt8 × Bool)
  (h : F.law31_head a0 = some r) : Calls Tryd.prog 23 #[va0] w0 (Ret fun v w => ∃ u0 : Value, v = .tuple #[u0, vB r.2] ∧ St [] w0 w [red e8 u0 r.1]) := by
 refine calls_at 38 Tryd.func23 rfl rfl rfl ?_
 have hS := St.start w0
 refine wpC_le [(0, va0)] ⟨rfl, trivial⟩ ?_
 unfold F.law31_head at h
 refine wpC_seq (wpC_region (wpR_v (OpV_assign rfl) rfl (wpR_v (OpV_assign rfl) rfl (wpR_nil (QE_then_n (wpC_seq ?_))))))
 refine wpC_region (wpR_v (OpV_move rfl) rfl ?_)
 obtain ⟨x_1, hx_1, h⟩ := obind_some h
 refine wpR_call (by kernel_rfl) rfl (c_cbor_Parse _ a0 va0  (hT.now hS.fr) (ha0.now hS.fr).rp _ hx_1) rfl ?_
 rintro _ w ⟨v_2, rfl, hS1⟩
 have hS := hS.call hS1
 simp only [List.cons_append, List.nil_append] at hS
 refine wpR_v (OpV_move rfl) rfl (wpR_v (OpV_extract rfl rfl) rfl ?_)
 refine wpR_v (OpV_extract rfl rfl) rfl ?_
 refine wpR_v (OpV_extract rfl rfl) rfl ?_
 refine wpR_v (OpV_assign rfl) rfl (wpR_v (OpV_assign rfl) rfl (wpR_v (OpV_assign rfl) rfl (wpR_nil (QE_then_n (wpC_seq ?_)))))
 refine seq_join (r := r) (fun (g : Bool) L w => L = [(4, v_2), (20, vB g)] ∧ St [] w0 w [own (eP eI (eP e64 (eP eS eI))) v_2 x_1.1]) (F.law31_head_K1 x_1) ?_ ?_
 ·rintro x_5 L w hJ h
  try dsimp only at hJ
  obtain ⟨rfl, hS⟩ := hJ
  unfold F.law31_head_K1 at h
  refine wpC_cond rfl (fun hb_15 => ?_) (fun hb_15 => ?_)
  ·have h := if_t h hb_15
   refine wpC_seq (wpC_region (wpR_v (OpV_assign rfl) rfl (wpR_v (OpV_assign rfl) rfl (wpR_nil (QE_then_n (wpC_ret ?_))))))
   refine QE_then_r ?_
   cases h
   exact QE_ret2 rfl rfl rfl ⟨.slice none 0 0, rfl, (hS.rnil e8).pick [0] (by decide) rfl⟩
  ·have h := if_f h hb_15
   refine wpC_skip (QE_then_n (wpC_seq (wpC_region (wpR_v (OpV_assign rfl) rfl (wpR_nil (QE_then_n ?_))))))
   refine seq_join (r := r) (fun (g : Int) L w => L = [(4, v_2), (7, vI g)] ∧ St [] w0 w [own (eP eI (eP e64 (eP eS eI))) v_2 x_1.1]) (F.law31_head_K2 x_1) ?_ ?_
   ·rintro x_9 L w hJ h
    try dsimp only at hJ
    obtain ⟨rfl, hS⟩ := hJ
    unfold F.law31_head_K2 at h
    refine wpC_seq ?_
    refine wpC_regionT (fun w' => St [] w0 w' [own (eP eI (eP e64 (eP eS eI))) v_2 x_1.1]) (fun i => !([5].contains i)) hmix (fun _ _ _ hf => hf.2) (fun _ _ hf => hf) (by kernel_rfl) ?_
    have hS := hS.drew
    show lxE _ _ _ _ _ _ _ [0, 1, 2, 3, 4, 5, 6, 7, 8, 9, 10, 11, 12, 13] _ _
    refine lxE_v hS rfl rfl (fun w hF => OpV_move rfl) rfl ?_
    refine lxE_v hS rfl rfl (fun w hF => OpV_move rfl) rfl ?_
    obtain ⟨x_11, hx_11, h⟩ := obind_some h
    refine lxE_v hS rfl rfl (fun w hF => G_ix Tryd.underlying37 ti42 rfl rfl (hF.ro 0 rfl) hx_11) rfl ?_
    refine lxE_v hS rfl rfl (fun w hF => OpV_fieldE (k := 2) Tryd.underlying42 rfl rfl nz9 rfl) rfl ?_
    refine lxE_v hS rfl rfl (fun w hF => G_loadF Tryd.underlying9 rfl rfl (hF.ro 0 rfl) hx_11 rfl rfl) rfl ?_
    refine lxE_x hS rfl rfl (OpX_bytes Tryd.underlying9 Tryd.underlying22 Tryd.underlying5 rfl hS) rfl ?_
    rintro v_12 w hS
    refine lxE_v (hS.pick [1] (by decide) rfl) rfl rfl (fun w hF => OpV_move rfl) rfl ?_
    refine lxE_v (hS.pick [1] (by decide) rfl) rfl rfl (fun w hF => OpV_move rfl) rfl ?_
    obtain ⟨x_14, hx_14, h⟩ := obind_some h
    refine lxE_v (hS.pick [1] (by decide) rfl) rfl rfl (fun w hF => G_ix Tryd.underlying37 ti42 rfl rfl (hF.ro 0 rfl) hx_14) rfl ?_
    refine lxE_v (hS.pick [1] (by decide) rfl) rfl rfl (fun w hF => OpV_fieldE (k := 0) Tryd.underlying42 rfl rfl nz3 rfl) rfl ?_
    refine lxE_v (hS.pick [1] (by decide) rfl) rfl rfl (fun w hF => G_loadF Tryd.underlying3 rfl rfl (hF.ro 0 rfl) hx_14 rfl rfl) rfl ?_
    refine lxE_v (hS.pick [1] (by decide) rfl) rfl rfl (fun w hF => OpV_bin rfl rfl (b_ieql _ x_14.1 2)) rfl ?_
    refine lxE_v (hS.pick [1] (by decide) rfl) rfl rfl (fun w hF => OpV_assign rfl) rfl ?_
    refine lxE_v (hS.pick [1] (by decide) rfl) rfl rfl (fun w hF => OpV_assign rfl) rfl ?_
    refine lxE_nil (hS.pick [1] (by decide) rfl) ?_
    refine QE_then_n (wpC_ret ?_)
    cases h
    exact QE_ret2 rfl rfl rfl ⟨v_12, rfl, hS.pick [0] (by decide) rfl⟩
   ·intro hK_10
    refine wpC_seq (wpC_region (wpR_v (OpV_move rfl) rfl ?_))
    obtain ⟨x_7, hx_7, h⟩ := obind_some h
    refine wpR_v (G_ix Tryd.underlying37 ti42 rfl rfl (hS.ro 0 rfl) hx_7) rfl ?_
    refine wpR_v (OpV_fieldE (k := 0) Tryd.underlying42 rfl rfl nz3 rfl) rfl ?_
    refine wpR_v (G_loadF Tryd.underlying3 rfl rfl (hS.ro 0 rfl) hx_7 rfl rfl) rfl ?_
    refine wpR_v (OpV_bin rfl rfl (b_ieql _ x_7.1 6)) rfl ?_
    refine wpR_nil (QE_then_n ?_)
    refine wpC_cond rfl (fun hb_8 => ?_) (fun hb_8 => ?_)
    ·have h := if_t h hb_8
     refine wpC_region (wpR_v (OpV_assign rfl) rfl (wpR_nil (QE_then_n ?_)))
     exact wpC_le _ (by exact ⟨rfl, rfl, trivial⟩) (hK_10 2 _ _ ⟨rfl, hS⟩ h)
    ·have h := if_f h hb_8
     refine wpC_skip (QE_then_n ?_)
     exact wpC_le _ (by exact ⟨rfl, rfl, trivial⟩) (hK_10 1 _ _ ⟨rfl, hS⟩ h)
 ·intro hK_6
  refine wpC_region (wpR_v (OpV_move rfl) rfl (wpR_v (OpV_bin rfl rfl (b_ineq _ x_1.2.1 0)) rfl ?_))
  refine wpR_v (OpV_move rfl) rfl ?_
  cases hb_4 : (x_1.2.1 != 0)
  case true =>
   have h := if_t h hb_4
   try simp only [hb_4]
   refine wpR_gskip (b := true) (t := 16) rfl rfl rfl rfl ?_
   refine wpR_gskip (b := true) (t := 16) rfl rfl rfl rfl ?_
   refine wpR_gskip (b := true) (t := 16) rfl rfl rfl rfl ?_
   refine wpR_v (OpV_pickT rfl rfl) rfl (wpR_nil (QE_then_n ?_))
   exact wpC_le _ (by exact ⟨rfl, rfl, trivial⟩) (hK_6 true _ _ ⟨rfl, hS⟩ h)
  case false =>
   have h := if_f h hb_4
   try simp only [hb_4]
   refine wpR_gv (t := 16) rfl rfl (OpV_move rfl) rfl ?_
   refine wpR_gv (t := 16) rfl rfl (OpV_len Tryd.underlying37 rfl (hS.ro 0 rfl)) rfl ?_
   refine wpR_gv (t := 16) rfl rfl (OpV_bin rfl rfl (b_ilss _ (x_1.1.length : Int) 5)) rfl ?_
   refine wpR_v (OpV_pickF rfl rfl) rfl (wpR_nil (QE_then_n ?_))
   exact wpC_le _ (by exact ⟨rfl, rfl, trivial⟩) (hK_6 (decide ((x_1.1.length : Int) < 5)) _ _ ⟨rfl, hS⟩ h)
theorem c_law31_message (w0 : World) (a0 : List UInt8) (a1 : List UInt8) (a2 : List UInt8) (a3 : List UInt8) (a4 : Bool) (a5 : Bool) (va0 : Value) (va1 : Value) (va2 : Value) (va3 : Value) (ha0 : RP [] w0 e8 va0 a0) (ha1 : RP [] w0 e8 va1 a1) (ha2 : RP [] w0 e8 va2 a2) (ha3 : RP [] w0 e8 va3 a3) (r : List (Int × UInt64 × (List UInt8) × Int))
  (h : F.law31_message a0 a1 a2 a3 a4 a5 = some r) : Calls Tryd.prog 25 #[va0, va1, va2, va3, vB a4, vB a5] w0 (Ret fun v w => St [] w0 w [own (eP eI (eP e64 (eP eS eI))) v r]) := by
 refine calls_at 48 Tryd.func25 rfl rfl rfl ?_
 have hS := St.start w0
 refine wpC_le [(0, va0), (1, va1), (2, va2), (3, va3), (4, vB a4), (5, vB a5)] ⟨rfl, rfl, rfl, rfl, rfl, rfl, trivial⟩ ?_
 unfold F.law31_message at h
 refine wpC_seq (wpC_region (wpR_v (OpV_assign rfl) rfl (wpR_nil (QE_then_n (wpC_seq (wpC_region ?_))))))
 refine wpR_v (OpV_assign rfl) rfl (wpR_nil (QE_then_n ?_))
 refine seq_join (r := r) (fun (g : (List (Int × UInt64 × (List UInt8) × Int))) L w => ∃ (v_8 : Value), L = [(0, va0), (1, va1), (2, va2), (3, va3), (4, vB a4), (13, v_8)] ∧ St [] w0 w [own (eP eI (eP e64 (eP eS eI))) v_8 g]) (F.law31_message_K1 a0 a3 a4 a1 a2) ?_ ?_
 ·rintro x_7 L w hJ h
  try dsimp only at hJ
  obtain ⟨v_8, rfl, hS⟩ := hJ
  unfold F.law31_message_K1 at h
  refine wpC_seq (wpC_region (wpR_v (OpV_move rfl) rfl (wpR_v (OpV_build (vs := [(0, vI 4, [vI 4]), (3, vI 4, [vI 4])]) (cells := [vI 4, v64 0, vS [], vI 4]) rfl lay42 ⟨rfl, rfl, trivial⟩ rfl) rfl ?_)))
  refine wpR_v (OpV_move rfl) rfl (wpR_v (OpV_str Tryd.underlying22 Tryd.underlying5 Tryd.underlying9 rfl (ha0.now hS.fr)) rfl ?_)
  refine wpR_v (OpV_build (vs := [(0, vI 2, [vI 2]), (2, vS a0, [vS a0])]) (cells := [vI 2, v64 0, vS a0, vI 0]) rfl lay42 ⟨rfl, rfl, trivial⟩ rfl) rfl ?_
  refine wpR_x (OpX_litE (e := (eP eI (eP e64 (eP eS eI)))) (l := ([(4, 0, [], 4), (2, 0, a0, 0)] : List (Int × UInt64 × (List UInt8) × Int))) (vs := [(0, .agg #[vI 4, v64 0, vS [], vI 4], [vI 4, v64 0, vS [], vI 4]), (1, .agg #[vI 2, v64 0, vS a0, vI 0], [vI 2, v64 0, vS a0, vI 0])]) Tryd.underlying37 ti42 rfl ⟨rfl, rfl, trivial⟩ rfl rfl (Nat.le_of_ble_eq_true rfl) (Nat.le_of_ble_eq_true rfl) hS) rfl ?_
  rintro v_11 w hS
  obtain ⟨x_13, hx_13, h⟩ := obind_some h
  refine wpR_x (G_append Tryd.underlying37 ti42 rfl rfl rfl hS (i := 1) rfl (hS.ro 0 rfl) hx_13) rfl ?_
  rintro v_14 w hS
  refine wpR_v (OpV_assign rfl) rfl (wpR_nil (QE_then_n ?_))
  refine seq_join (r := r) (fun (g : (List (Int × UInt64 × (List UInt8) × Int))) L w => ∃ (v_28 : Value), L = [(1, va1), (2, va2), (13, v_28)] ∧ St [] w0 w [own (eP eI (eP e64 (eP eS eI))) v_28 g]) (F.law31_message_K2 a1 a2) ?_ ?_
  ·rintro x_27 L w hJ h
   try dsimp only at hJ
   obtain ⟨v_28, rfl, hS⟩ := hJ
   unfold F.law31_message_K2 at h
   refine wpC_seq (wpC_region (wpR_v (OpV_move rfl) rfl (wpR_v (OpV_move rfl) rfl (wpR_v (OpV_str Tryd.underlying22 Tryd.underlying5 Tryd.underlying9 rfl (ha1.now hS.fr)) rfl ?_))))
   refine wpR_v (OpV_build (vs := [(0, vI 2, [vI 2]), (2, vS a1, [vS a1])]) (cells := [vI 2, v64 0, vS a1, vI 0]) rfl lay42 ⟨rfl, rfl, trivial⟩ rfl) rfl ?_
   refine wpR_v (OpV_move rfl) rfl (wpR_v (OpV_str Tryd.underlying22 Tryd.underlying5 Tryd.underlying9 rfl (ha2.now hS.fr)) rfl ?_)
   refine wpR_v (OpV_build (vs := [(0, vI 2, [vI 2]), (2, vS a2, [vS a2])]) (cells := [vI 2, v64 0, vS a2, vI 0]) rfl lay42 ⟨rfl, rfl, trivial⟩ rfl) rfl ?_
   refine wpR_x (OpX_litE (e := (eP eI (eP e64 (eP eS eI)))) (l := ([(2, 0, a1, 0), (2, 0, a2, 0)] : List (Int × UInt64 × (List UInt8) × Int))) (vs := [(0, .agg #[vI 2, v64 0, vS a1, vI 0], [vI 2, v64 0, vS a1, vI 0]), (1, .agg #[vI 2, v64 0, vS a2, vI 0], [vI 2, v64 0, vS a2, vI 0])]) Tryd.underlying37 ti42 rfl ⟨rfl, rfl, trivial⟩ rfl rfl (Nat.le_of_ble_eq_true rfl) (Nat.le_of_ble_eq_true rfl) hS) rfl ?_
   rintro v_31 w hS
   obtain ⟨x_33, hx_33, h⟩ := obind_some h
   refine wpR_x (G_append Tryd.underlying37 ti42 rfl rfl rfl hS (i := 1) rfl (hS.ro 0 rfl) hx_33) rfl ?_
   rintro v_34 w hS
   refine wpR_v (OpV_assign rfl) rfl (wpR_nil (QE_then_n (wpC_ret ?_)))
   cases h
   exact QE_ret1 rfl rfl (hS.pick [1] (by decide) rfl)
  ·intro hK_30
   refine wpC_seq (wpC_region (wpR_v (OpV_move rfl) rfl (wpR_nil (QE_then_n ?_))))
   refine wpC_cond rfl (fun hb_26 => ?_) (fun hb_26 => ?_)
   ·have h := if_t h hb_26
    refine wpC_region (wpR_v (OpV_move rfl) rfl (wpR_v (OpV_build (vs := [(0, vI 5, [vI 5]), (3, vI 2, [vI 2])]) (cells := [vI 5, v64 0, vS [], vI 2]) rfl lay42 ⟨rfl, rfl, trivial⟩ rfl) rfl ?_))
    refine wpR_v (OpV_build (vs := [(1, v64 4, [v64 4])]) (cells := [vI 0, v64 4, vS [], vI 0]) rfl lay42 ⟨rfl, trivial⟩ rfl) rfl ?_
    refine wpR_v (OpV_move rfl) rfl (wpR_v (OpV_str Tryd.underlying22 Tryd.underlying5 Tryd.underlying9 rfl (ha3.now hS.fr)) rfl ?_)
    refine wpR_v (OpV_build (vs := [(0, vI 2, [vI 2]), (2, vS a3, [vS a3])]) (cells := [vI 2, v64 0, vS a3, vI 0]) rfl lay42 ⟨rfl, rfl, trivial⟩ rfl) rfl ?_
    refine wpR_x (OpX_litE (e := (eP eI (eP e64 (eP eS eI)))) (l := ([(5, 0, [], 2), (0, 4, [], 0), (2, 0, a3, 0)] : List (Int × UInt64 × (List UInt8) × Int))) (vs := [(0, .agg #[vI 5, v64 0, vS [], vI 2], [vI 5, v64 0, vS [], vI 2]), (1, .agg #[vI 0, v64 4, vS [], vI 0], [vI 0, v64 4, vS [], vI 0]), (2, .agg #[vI 2, v64 0, vS a3, vI 0], [vI 2, v64 0, vS a3, vI 0])]) Tryd.underlying37 ti42 rfl ⟨rfl, rfl, rfl, trivial⟩ rfl rfl (Nat.le_of_ble_eq_true rfl) (Nat.le_of_ble_eq_true rfl) hS) rfl ?_
    rintro v_16 w hS
    obtain ⟨x_18, hx_18, h⟩ := obind_some h
    refine wpR_x (G_append Tryd.underlying37 ti42 rfl rfl rfl hS (i := 2) rfl (hS.ro 0 rfl) hx_18) rfl ?_
    rintro v_19 w hS
    refine wpR_v (OpV_assign rfl) rfl (wpR_nil (QE_then_n ?_))
    exact wpC_le _ (by exact ⟨rfl, rfl, rfl, trivial⟩) (hK_30 x_18 _ _ ⟨v_19, rfl, (hS.pick [2] (by decide) rfl)⟩ h)
   ·have h := if_f h hb_26
    refine wpC_region (wpR_v (OpV_move rfl) rfl (wpR_v (OpV_build (vs := [(0, vI 5, [vI 5])]) (cells := [vI 5, v64 0, vS [], vI 0]) rfl lay42 ⟨rfl, trivial⟩ rfl) rfl ?_))
    refine wpR_x (OpX_litE (e := (eP eI (eP e64 (eP eS eI)))) (l := ([(5, 0, [], 0)] : List (Int × UInt64 × (List UInt8) × Int))) (vs := [(0, .agg #[vI 5, v64 0, vS [], vI 0], [vI 5, v64 0, vS [], vI 0])]) Tryd.underlying37 ti42 rfl ⟨rfl, trivial⟩ rfl rfl (Nat.le_of_ble_eq_true rfl) (Nat.le_of_ble_eq_true rfl) hS) rfl ?_
    rintro v_21 w hS
    obtain ⟨x_23, hx_23, h⟩ := obind_some h
    refine wpR_x (G_append Tryd.underlying37 ti42 rfl rfl rfl hS (i := 2) rfl (hS.ro 0 rfl) hx_23) rfl ?_
    rintro v_24 w hS
    refine wpR_v (OpV_assign rfl) rfl (wpR_nil (QE_then_n ?_))
    exact wpC_le _ (by exact ⟨rfl, rfl, rfl, trivial⟩) (hK_30 x_23 _ _ ⟨v_24, rfl, (hS.pick [2] (by decide) rfl)⟩ h)
 ·intro hK_10
  refine wpC_seq (wpC_region (wpR_v (OpV_move rfl) rfl (wpR_nil (QE_then_n ?_))))
  refine wpC_cond rfl (fun hb_6 => ?_) (fun hb_6 => ?_)
  ·have h := if_t h hb_6
   refine wpC_region (wpR_v (OpV_move rfl) rfl (wpR_v (OpV_build (vs := [(0, vI 6, [vI 6]), (1, v64 18, [v64 18]), (3, vI 1, [vI 1])]) (cells := [vI 6, v64 18, vS [], vI 1]) rfl lay42 ⟨rfl, rfl, rfl, trivial⟩ rfl) rfl ?_))
   refine wpR_x (OpX_litE (e := (eP eI (eP e64 (eP eS eI)))) (l := ([(6, 18, [], 1)] : List (Int × UInt64 × (List UInt8) × Int))) (vs := [(0, .agg #[vI 6, v64 18, vS [], vI 1], [vI 6, v64 18, vS [], vI 1])]) Tryd.underlying37 ti42 rfl ⟨rfl, trivial⟩ rfl rfl (Nat.le_of_ble_eq_true rfl) (Nat.le_of_ble_eq_true rfl) hS) rfl ?_
   rintro v_1 w hS
   obtain ⟨x_3, hx_3, h⟩ := obind_some h
   refine wpR_x (G_append0 Tryd.underlying37 ti42 rfl rfl rfl hS (hS.ro 0 rfl) hx_3) rfl ?_
   rintro v_4 w hS
   refine wpR_v (OpV_assign rfl) rfl (wpR_nil (QE_then_n ?_))
   exact wpC_le _ (by exact ⟨rfl, rfl, rfl, rfl, rfl, rfl, trivial⟩) (hK_10 x_3 _ _ ⟨v_4, rfl, (hS.pick [0] (by decide) rfl)⟩ h)
  ·have h := if_f h hb_6
   refine wpC_skip (QE_then_n ?_)
   exact wpC_le _ (by exact ⟨rfl, rfl, rfl, rfl, rfl, rfl, trivial⟩) (hK_10 [] _ _ ⟨.slice none 0 0, rfl, (hS.nil (eP eI (eP e64 (eP eS eI))))⟩ h)
theorem c_law31_CoseMessage (w0 : World) (a0 : List UInt8) (a1 : List UInt8) (va0 : Value) (va1 : Value) (hT : TB [] w0) (ha0 : RP [] w0 e8 va0 a0) (ha1 : RP [] w0 e8 va1 a1) (r : Bool)
  (h : F.law31_CoseMessage a0 a1 = some r) : Calls Tryd.prog 7 #[va0, va1] w0 (Ret fun v w => v = vB r ∧ St [] w0 w []) := by
 refine calls_at 62 Tryd.func7 rfl rfl rfl ?_
 have hS := St.start w0
 refine wpC_le [(0, va0), (1, va1)] ⟨rfl, rfl, trivial⟩ ?_
 unfold F.law31_CoseMessage at h
 refine wpC_seq (wpC_region (wpR_v (OpV_assign rfl) rfl (wpR_nil (QE_then_n (wpC_seq (wpC_seq ?_))))))
 refine wpC_region ?_
 obtain ⟨x_1, hx_1, h⟩ := obind_some h
 refine wpR_call (by kernel_rfl) rfl (c_law31_awake _    (hT.now hS.fr) _ hx_1) rfl ?_
 rintro _ w ⟨rfl, hS1⟩
 have hS := hS.call hS1
 simp only [List.cons_append, List.nil_append] at hS
 refine wpR_v (OpV_un rfl (u_not x_1)) rfl ?_
 refine wpR_nil (QE_then_n ?_)
 refine wpC_cond rfl (fun hb_33 => ?_) (fun hb_33 => ?_)
 ·have h := if_t h hb_33
  refine wpC_seq (wpC_region (wpR_v (OpV_assign rfl) rfl (wpR_nil (QE_then_n (wpC_ret (QE_then_r ?_))))))
  cases h
  exact QE_ret1 rfl rfl ⟨rfl, hS⟩
 ·have h := if_f h hb_33
  refine wpC_skip (QE_then_n (wpC_seq (wpC_region (wpR_v (OpV_move rfl) rfl (wpR_v (OpV_move rfl) rfl ?_)))))
  obtain ⟨x_2, hx_2, h⟩ := obind_some h
  refine wpR_call (by kernel_rfl) rfl (c_cose_Parse _ a0 a1 va0 va1  (hT.now hS.fr) (ha0.now hS.fr).rp (ha1.now hS.fr).rp _ hx_2) rfl ?_
  rintro _ w ⟨v_3, v_5, v_7, v_9, rfl, hS1⟩
  have hS := hS.call hS1
  simp only [List.cons_append, List.nil_append] at hS
  refine wpR_v (OpV_move rfl) rfl (wpR_v (OpV_extract rfl rfl) rfl ?_)
  refine wpR_v (OpV_extract rfl rfl) rfl ?_
  refine wpR_v (OpV_extract rfl rfl) rfl ?_
  refine wpR_v (OpV_extract rfl rfl) rfl ?_
  refine wpR_v (OpV_extract rfl rfl) rfl ?_
  refine wpR_v (OpV_extract rfl rfl) rfl ?_
  refine wpR_v (OpV_assign rfl) rfl (wpR_v (OpV_assign rfl) rfl (wpR_v (OpV_assign rfl) rfl (wpR_v (OpV_assign rfl) rfl (wpR_v (OpV_assign rfl) rfl (wpR_v (OpV_assign rfl) rfl (wpR_nil ?_))))))
  refine QE_then_n (wpC_seq (wpC_seq (wpC_region (wpR_v (OpV_move rfl) rfl (wpR_v (OpV_bin rfl rfl (b_ineq _ x_2.2.2.2.2.2 0)) rfl ?_)))))
  refine wpR_nil (QE_then_n ?_)
  refine wpC_cond rfl (fun hb_32 => ?_) (fun hb_32 => ?_)
  ·have h := if_t h hb_32
   refine wpC_seq (wpC_region (wpR_v (OpV_assign rfl) rfl (wpR_nil (QE_then_n (wpC_ret (QE_then_r ?_))))))
   cases h
   exact QE_ret1 rfl rfl ⟨rfl, hS.pick [] (by decide) rfl⟩
  ·have h := if_f h hb_32
   refine wpC_skip (QE_then_n (wpC_seq (wpC_region (wpR_v (OpV_move rfl) rfl ?_))))
   obtain ⟨x_11, hx_11, h⟩ := obind_some h
   refine wpR_call (by kernel_rfl) rfl (c_law31_head _ a0 va0  (hT.now hS.fr) (ha0.now hS.fr).rp _ hx_11) rfl ?_
   rintro _ w ⟨v_12, rfl, hS1⟩
   have hS := hS.call hS1
   simp only [List.cons_append, List.nil_append] at hS
   refine wpR_v (OpV_move rfl) rfl (wpR_v (OpV_extract rfl rfl) rfl ?_)
   refine wpR_v (OpV_extract rfl rfl) rfl ?_
   refine wpR_v (OpV_assign rfl) rfl (wpR_v (OpV_assign rfl) rfl (wpR_nil (QE_then_n (wpC_seq (wpC_seq (wpC_region ?_))))))
   refine wpR_v (OpV_move rfl) rfl (wpR_v (OpV_un rfl (u_not x_11.2)) rfl ?_)
   refine wpR_nil (QE_then_n ?_)
   refine wpC_cond rfl (fun hb_31 => ?_) (fun hb_31 => ?_)
   ·have h := if_t h hb_31
    refine wpC_seq (wpC_region (wpR_v (OpV_assign rfl) rfl (wpR_nil (QE_then_n (wpC_ret (QE_then_r ?_))))))
    cases h
    exact QE_ret1 rfl rfl ⟨rfl, hS.pick [] (by decide) rfl⟩
   ·have h := if_f h hb_31
    refine wpC_skip (QE_then_n (wpC_seq (wpC_seq (wpC_region (wpR_v (OpV_assign rfl) rfl (wpR_nil ?_))))))
    refine QE_then_n (wpC_block ?_)
    refine wpC_le [(0, va0), (6, v_3), (7, v_5), (8, v_7), (11, v_12), (13, vI 0)] ⟨rfl, rfl, rfl, rfl, rfl, rfl, trivial⟩ ?_
    refine loop_ind (F.law31_CoseMessage_L1 a0 x_2 x_11) (fun (s : Int) L w => L = [(0, va0), (6, v_3), (7, v_5), (8, v_7), (11, v_12), (13, vI s)] ∧ St [] w0 w [red e8 v_3 x_2.2.1, red e8 v_5 x_2.2.2.1, red e8 v_7 x_2.2.2.2.1, red e8 v_12 x_11.1]) ?_ 0 ⟨rfl, (hS.pick [1, 2, 3, 0] (by decide) rfl)⟩ h
    rintro k_30 x_14 L w q_17 hI ih_16 h hk_15
    try dsimp only at hI
    obtain ⟨rfl, hS⟩ := hI
    unfold F.law31_CoseMessage_L1 at h
    refine wpC_seq (wpC_seq (wpC_region (wpR_v (OpV_move rfl) rfl (wpR_v (OpV_bin rfl rfl (b_ilss _ x_14 4)) rfl ?_))))
    refine wpR_nil (QE_then_n ?_)
    refine wpC_cond rfl (fun hb_29 => ?_) (fun hb_29 => ?_)
    ·have h := if_t h hb_29
     refine wpC_skip (QE_then_n (wpC_seq (wpC_block ?_)))
     refine wpC_seq (wpC_region (wpR_v (OpV_move rfl) rfl (wpR_v (OpV_move rfl) rfl (wpR_v (OpV_move rfl) rfl (wpR_v (OpV_move rfl) rfl (wpR_v (OpV_move rfl) rfl ?_))))))
     refine wpR_v (OpV_bin rfl rfl (b_irem _ x_14 2 (by decide))) rfl ?_
     refine wpR_v (OpV_bin rfl rfl (b_ieql _ (Int.tmod x_14 2) 1)) rfl ?_
     refine wpR_v (OpV_move rfl) rfl (wpR_v (OpV_bin rfl rfl (b_igtr _ x_14 1)) rfl ?_)
     obtain ⟨x_18, hx_18, h⟩ := obind_some h
     refine wpR_call (by kernel_rfl) rfl (c_law31_message _ x_11.1 x_2.2.2.1 x_2.2.2.2.1 x_2.2.1 ((Int.tmod x_14 2) == 1) (decide ((1 : Int) < x_14)) v_12 v_5 v_7 v_3  (hS.rro 3 rfl).rp (hS.rro 1 rfl).rp (hS.rro 2 rfl).rp (hS.rro 0 rfl).rp _ hx_18) rfl ?_
     rintro v_19 w hS1
     have hS := hS.call hS1
     simp only [List.cons_append, List.nil_append] at hS
     obtain ⟨x_21, hx_21, h⟩ := obind_some h
     refine wpR_call (by kernel_rfl) rfl (c_cbor_Print _ x_18 v_19  (hT.now hS.fr) (hS.ro 0 rfl).rp _ hx_21) rfl ?_
     rintro _ w ⟨v_22, rfl, hS1⟩
     have hS := hS.call hS1
     simp only [List.cons_append, List.nil_append] at hS
     refine wpR_v (OpV_move rfl) rfl (wpR_v (OpV_extract rfl rfl) rfl ?_)
     refine wpR_v (OpV_extract rfl rfl) rfl ?_
     refine wpR_v (OpV_assign rfl) rfl (wpR_v (OpV_assign rfl) rfl (wpR_nil (QE_then_n ?_)))
     refine seq_join (r := q_17) (fun (g : Bool) L w => L = [(0, va0), (6, v_3), (7, v_5), (8, v_7), (11, v_12), (13, vI x_14), (61, vB g)] ∧ St [] w0 w [red e8 v_3 x_2.2.1, red e8 v_5 x_2.2.2.1, red e8 v_7 x_2.2.2.2.1, red e8 v_12 x_11.1]) (F.law31_CoseMessage_K1 x_14) ?_ ?_
     ·rintro x_26 L w hJ h
      try dsimp only at hJ
      obtain ⟨rfl, hS⟩ := hJ
      unfold F.law31_CoseMessage_K1 at h
      refine wpC_cond rfl (fun hb_28 => ?_) (fun hb_28 => ?_)
      ·have h := if_t h hb_28
       refine wpC_seq (wpC_region (wpR_v (OpV_assign rfl) rfl (wpR_nil (QE_then_n (wpC_ret (QE_blk_r ?_))))))
       refine QE_then_r (QE_then_r ?_)
       have h := oinr_some h hk_15
       refine QE_blk_r ?_
       refine QE_then_r ?_
       cases h
       exact QE_ret1 rfl rfl ⟨rfl, hS.pick [] (by decide) rfl⟩
      ·have h := if_f h hb_28
       refine wpC_skip (QE_blk_n ?_)
       refine QE_then_n (wpC_region (wpR_v (OpV_move rfl) rfl (wpR_v (OpV_bin rfl rfl (b_iadd _ x_14 1)) rfl ?_)))
       refine wpR_v (OpV_assign rfl) rfl (wpR_nil ?_)
       exact QE_rnd (wpN_le _ (by exact ⟨rfl, rfl, rfl, rfl, rfl, rfl, trivial⟩) (ih_16 (wI (x_14 + 1)) _ _ ⟨rfl, hS⟩ (oinl_some h hk_15)))
     ·intro hK_27
      refine wpC_region (wpR_v (OpV_move rfl) rfl (wpR_v (OpV_bin rfl rfl (b_ieql _ x_21.2 0)) rfl ?_))
      refine wpR_v (OpV_move rfl) rfl ?_
      cases hb_24 : (x_21.2 == 0)
      case true =>
       have h := if_t h hb_24
       try simp only [hb_24]
       refine wpR_gv (t := 57) rfl rfl (OpV_move rfl) rfl ?_
       refine wpR_gv (t := 57) rfl rfl (OpV_move rfl) rfl ?_
       obtain ⟨x_25, hx_25, h⟩ := obind_some h
       refine wpR_gcall (t := 57) rfl rfl (by kernel_rfl) rfl (c_law31_same _ x_21.1 a0 v_22 va0  (hS.ro 0 rfl).rp (ha0.now hS.fr).rp _ hx_25) rfl ?_
       rintro _ w ⟨rfl, hS1⟩
       have hS := hS.call hS1
       simp only [List.cons_append, List.nil_append] at hS
       refine wpR_v (OpV_pickT rfl rfl) rfl (wpR_nil (QE_then_n ?_))
       exact wpC_le _ (by exact ⟨rfl, rfl, rfl, rfl, rfl, rfl, rfl, trivial⟩) (hK_27 x_25 _ _ ⟨rfl, (hS.pick [2, 3, 4, 5] (by decide) rfl)⟩ h)
      case false =>
       have h := if_f h hb_24
       try simp only [hb_24]
       refine wpR_gskip (b := false) (t := 57) rfl rfl rfl rfl ?_
       refine wpR_gskip (b := false) (t := 57) rfl rfl rfl rfl ?_
       refine wpR_gskip (b := false) (t := 57) rfl rfl rfl rfl ?_
       refine wpR_v (OpV_pickF rfl rfl) rfl (wpR_nil (QE_then_n ?_))
       exact wpC_le _ (by exact ⟨rfl, rfl, rfl, rfl, rfl, rfl, rfl, trivial⟩) (hK_27 false _ _ ⟨rfl, (hS.pick [2, 3, 4, 5] (by decide) rfl)⟩ h)
    ·have h := if_f h hb_29
     refine wpC_exit ?_
     refine QE_then_x (QE_then_x ?_)
     have h := oinr_some h hk_15
     refine QE_blk_x ?_
     refine QE_then_n (wpC_seq (wpC_region (wpR_v (OpV_assign rfl) rfl (wpR_nil (QE_then_n (wpC_ret ?_))))))
     cases h
     exact QE_ret1 rfl rfl ⟨rfl, hS.pick [] (by decide) rfl⟩
end Go.Proofs
