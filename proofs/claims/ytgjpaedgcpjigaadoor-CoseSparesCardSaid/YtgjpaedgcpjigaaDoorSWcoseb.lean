import Derived.Test.YtgjpaedgcpjigaaDoorSW0
import Derived.Test.YtgjpaedgcpjigaaDoorGkFcose
import Derived.Test.YtgjpaedgcpjigaaDoorSWcborc
import Derived.Test.YtgjpaedgcpjigaaDoorSWcosea
set_option linter.unusedVariables false
set_option linter.unusedSimpArgs false
set_option linter.unusedVariables false
set_option maxRecDepth 4000
namespace Go.Proofs
open Go Go.RowKit Go.Gk
theorem c_cose_laid (w0 : World) (a0 : List UInt8) (a1 : UInt8) (a2 : List UInt8) (va0 : Value) (S : List Nat) (hS : St S w0 w0 [own e8 va0 a0]) (r : List UInt8)
  (h : F.cose_laid a0 a1 a2 = some r) : Calls Tryd.prog 42 #[va0, v8 a1, vS a2] w0 (Ret fun v w => ∃ u0 : Value, v = u0 ∧ St S w0 w [own e8 u0 r]) := by
 refine calls_at 65 Tryd.func42 rfl rfl rfl ?_
 refine wpC_le [(0, va0), (1, v8 a1), (2, vS a2)] ⟨rfl, rfl, rfl, trivial⟩ ?_
 unfold F.cose_laid at h
 refine wpC_seq (wpC_region (wpR_run 1 rfl ?_))
 refine wpR_nil (QE_then_n (wpC_seq (wpC_region (wpR_run 1 rfl ?_))))
 refine wpR_v (OpV_lenS Tryd.underlying9 rfl) rfl ?_
 refine wpR_run 1 rfl ?_
 refine wpR_nil (QE_then_n ?_)
 refine seq_join (r := r) (fun (g : List UInt8) L w => ∃ (v_26 : Value), L = [(0, v_26), (2, vS a2)] ∧ St S w0 w [own e8 v_26 g]) (F.cose_laid_K1 a2) ?_ ?_
 rotate_left
 ·intro hK_28
  refine wpC_seq (wpC_region (wpR_run 1 rfl ?_))
  refine wpR_v (OpV_bin rfl rfl (b_shl8_64 _ a1 5)) rfl ?_
  refine wpR_run 1 rfl ?_
  refine wpR_nil (QE_then_n (wpC_block ?_))
  refine wpC_seq (wpC_region (wpR_run 3 rfl ?_))
  refine wpR_nil (QE_then_n ?_)
  refine wpC_cond rfl (fun hb_24 => ?_) (fun hb_24 => ?_)
  ·have h := if_t h hb_24
   refine wpC_region (wpR_run 3 rfl ?_)
   refine wpR_v (OpV_conv rfl (cv_i_8 Tryd.underlying3 Tryd.underlying5 (a2.length : Int))) rfl ?_
   refine wpR_v (OpV_bin rfl rfl (b_or8 _ (shl8 a1 5) (UInt8.ofInt (a2.length : Int)))) rfl ?_
   refine wpR_x (OpX_lit (e := e8) (l := [(shl8 a1 5) ||| (UInt8.ofInt (a2.length : Int))]) (vs := [v8 ((shl8 a1 5) ||| (UInt8.ofInt (a2.length : Int)))]) Tryd.underlying22 ti5 rfl rfl rfl rfl (by decide) (by decide) hS) rfl ?_
   rintro v_2 w hS
   obtain ⟨x_4, hx_4, h⟩ := obind_some h
   refine wpR_x (G_append Tryd.underlying22 ti5 rfl rfl rfl hS (i := 1) rfl (hS.ro 0 rfl) hx_4) rfl ?_
   rintro v_5 w hS
   refine wpR_run 1 rfl ?_
   refine wpR_nil (QE_blk_n ?_)
   refine QE_then_n ?_
   exact wpC_le _ (by exact ⟨rfl, rfl, trivial⟩) (hK_28 x_4 _ _ ⟨v_5, rfl, (hS.pick [1] (by decide) rfl)⟩ h)
  have h := if_f h hb_24
  refine wpC_seq (wpC_region (wpR_run 3 rfl ?_))
  refine wpR_nil (QE_then_n ?_)
  refine wpC_cond rfl (fun hb_23 => ?_) (fun hb_23 => ?_)
  ·have h := if_t h hb_23
   refine wpC_region (wpR_run 2 rfl ?_)
   refine wpR_v (OpV_bin rfl rfl (b_or8 _ (shl8 a1 5) 24)) rfl ?_
   refine wpR_run 1 rfl ?_
   refine wpR_v (OpV_conv rfl (cv_i_8 Tryd.underlying3 Tryd.underlying5 (a2.length : Int))) rfl ?_
   refine wpR_x (OpX_lit (e := e8) (l := [(shl8 a1 5) ||| 24, UInt8.ofInt (a2.length : Int)]) (vs := [v8 ((shl8 a1 5) ||| 24), v8 (UInt8.ofInt (a2.length : Int))]) Tryd.underlying22 ti5 rfl rfl rfl rfl (by decide) (by decide) hS) rfl ?_
   rintro v_7 w hS
   obtain ⟨x_9, hx_9, h⟩ := obind_some h
   refine wpR_x (G_append Tryd.underlying22 ti5 rfl rfl rfl hS (i := 1) rfl (hS.ro 0 rfl) hx_9) rfl ?_
   rintro v_10 w hS
   refine wpR_run 1 rfl ?_
   refine wpR_nil (QE_blk_n ?_)
   refine QE_then_n ?_
   exact wpC_le _ (by exact ⟨rfl, rfl, trivial⟩) (hK_28 x_9 _ _ ⟨v_10, rfl, (hS.pick [1] (by decide) rfl)⟩ h)
  have h := if_f h hb_23
  refine wpC_seq (wpC_region (wpR_run 3 rfl ?_))
  refine wpR_nil (QE_then_n ?_)
  refine wpC_cond rfl (fun hb_22 => ?_) (fun hb_22 => ?_)
  ·have h := if_t h hb_22
   refine wpC_region (wpR_run 2 rfl ?_)
   refine wpR_v (OpV_bin rfl rfl (b_or8 _ (shl8 a1 5) 25)) rfl ?_
   refine wpR_run 1 rfl ?_
   refine wpR_v (OpV_bin rfl rfl (b_ishr64 _ (a2.length : Int) 8)) rfl ?_
   refine wpR_v (OpV_conv rfl (cv_i_8 Tryd.underlying3 Tryd.underlying5 (iShr (a2.length : Int) 8))) rfl ?_
   refine wpR_run 1 rfl ?_
   refine wpR_v (OpV_conv rfl (cv_i_8 Tryd.underlying3 Tryd.underlying5 (a2.length : Int))) rfl ?_
   refine wpR_x (OpX_lit (e := e8) (l := [(shl8 a1 5) ||| 25, UInt8.ofInt (iShr (a2.length : Int) 8), UInt8.ofInt (a2.length : Int)]) (vs := [v8 ((shl8 a1 5) ||| 25), v8 (UInt8.ofInt (iShr (a2.length : Int) 8)), v8 (UInt8.ofInt (a2.length : Int))]) Tryd.underlying22 ti5 rfl rfl rfl rfl (by decide) (by decide) hS) rfl ?_
   rintro v_12 w hS
   obtain ⟨x_14, hx_14, h⟩ := obind_some h
   refine wpR_x (G_append Tryd.underlying22 ti5 rfl rfl rfl hS (i := 1) rfl (hS.ro 0 rfl) hx_14) rfl ?_
   rintro v_15 w hS
   refine wpR_run 1 rfl ?_
   refine wpR_nil (QE_blk_n ?_)
   refine QE_then_n ?_
   exact wpC_le _ (by exact ⟨rfl, rfl, trivial⟩) (hK_28 x_14 _ _ ⟨v_15, rfl, (hS.pick [1] (by decide) rfl)⟩ h)
  have h := if_f h hb_22
  refine wpC_region (wpR_run 2 rfl ?_)
  refine wpR_v (OpV_bin rfl rfl (b_or8 _ (shl8 a1 5) 26)) rfl ?_
  refine wpR_run 1 rfl ?_
  refine wpR_v (OpV_bin rfl rfl (b_ishr64 _ (a2.length : Int) 24)) rfl ?_
  refine wpR_v (OpV_conv rfl (cv_i_8 Tryd.underlying3 Tryd.underlying5 (iShr (a2.length : Int) 24))) rfl ?_
  refine wpR_run 1 rfl ?_
  refine wpR_v (OpV_bin rfl rfl (b_ishr64 _ (a2.length : Int) 16)) rfl ?_
  refine wpR_v (OpV_conv rfl (cv_i_8 Tryd.underlying3 Tryd.underlying5 (iShr (a2.length : Int) 16))) rfl ?_
  refine wpR_run 1 rfl ?_
  refine wpR_v (OpV_bin rfl rfl (b_ishr64 _ (a2.length : Int) 8)) rfl ?_
  refine wpR_v (OpV_conv rfl (cv_i_8 Tryd.underlying3 Tryd.underlying5 (iShr (a2.length : Int) 8))) rfl ?_
  refine wpR_run 1 rfl ?_
  refine wpR_v (OpV_conv rfl (cv_i_8 Tryd.underlying3 Tryd.underlying5 (a2.length : Int))) rfl ?_
  refine wpR_x (OpX_lit (e := e8) (l := [(shl8 a1 5) ||| 26, UInt8.ofInt (iShr (a2.length : Int) 24), UInt8.ofInt (iShr (a2.length : Int) 16), UInt8.ofInt (iShr (a2.length : Int) 8), UInt8.ofInt (a2.length : Int)]) (vs := [v8 ((shl8 a1 5) ||| 26), v8 (UInt8.ofInt (iShr (a2.length : Int) 24)), v8 (UInt8.ofInt (iShr (a2.length : Int) 16)), v8 (UInt8.ofInt (iShr (a2.length : Int) 8)), v8 (UInt8.ofInt (a2.length : Int))]) Tryd.underlying22 ti5 rfl rfl rfl rfl (by decide) (by decide) hS) rfl ?_
  rintro v_17 w hS
  obtain ⟨x_19, hx_19, h⟩ := obind_some h
  refine wpR_x (G_append Tryd.underlying22 ti5 rfl rfl rfl hS (i := 1) rfl (hS.ro 0 rfl) hx_19) rfl ?_
  rintro v_20 w hS
  refine wpR_run 1 rfl ?_
  refine wpR_nil (QE_blk_n ?_)
  refine QE_then_n ?_
  exact wpC_le _ (by exact ⟨rfl, rfl, trivial⟩) (hK_28 x_19 _ _ ⟨v_20, rfl, (hS.pick [1] (by decide) rfl)⟩ h)
 rintro x_25 L w hJ h
 try dsimp only at hJ
 obtain ⟨v_26, rfl, hS⟩ := hJ
 unfold F.cose_laid_K1 at h
 refine wpC_seq (wpC_region (wpR_run 2 rfl ?_))
 obtain ⟨x_29, hx_29, h⟩ := obind_some h
 refine wpR_x (G_appendS Tryd.underlying22 Tryd.underlying9 ti5 rfl rfl hS (i := 0) rfl hx_29) rfl ?_
 rintro v_30 w hS
 refine wpR_run 1 rfl ?_
 refine wpR_nil (QE_then_n (wpC_ret ?_))
 cases h
 exact QE_ret1 rfl rfl ⟨v_30, rfl, hS.pick [0] (by decide) rfl⟩
theorem c_cose_Parse (w0 : World) (a0 : List UInt8) (a1 : List UInt8) (va0 : Value) (va1 : Value) (hT : TB [] w0) (ha0 : RP [] w0 e8 va0 a0) (ha1 : RP [] w0 e8 va1 a1) (r : Int × List UInt8 × List UInt8 × List UInt8 × List UInt8 × Int)
  (h : F.cose_Parse a0 a1 = some r) : Calls Tryd.prog 21 #[va0, va1] w0 (Ret fun v w => ∃ u1 u2 u3 u4 : Value, v = .tuple #[vI r.1, u1, u2, u3, u4, vI r.2.2.2.2.2] ∧ St [] w0 w [own e8 u1 r.2.1, own e8 u2 r.2.2.1, own e8 u3 r.2.2.2.1, own e8 u4 r.2.2.2.2.1]) := by
 refine calls_at 89 Tryd.func21 rfl rfl rfl ?_
 have hS := St.start w0
 refine wpC_le [(0, va0), (1, va1)] ⟨rfl, rfl, trivial⟩ ?_
 unfold F.cose_Parse at h
 refine wpC_seq (wpC_region (wpR_run 6 rfl ?_))
 refine wpR_nil (QE_then_n (wpC_seq (wpC_region (wpR_run 1 rfl ?_))))
 refine wpR_nil (QE_then_n (wpC_seq ?_))
 refine seq_join (r := r) (fun (g : Bool) L w => L = [(0, va0), (1, va1), (10, .func (.func 40) #[] #[]), (23, vB g)] ∧ St [] w0 w []) (F.cose_Parse_K1 a0 a1) ?_ ?_
 rotate_left
 ·intro hK_3
  refine wpC_region (wpR_run 1 rfl ?_)
  refine wpR_v (OpV_len Tryd.underlying22 rfl (ha0.now hS.fr)) rfl ?_
  refine wpR_run 2 rfl ?_
  cases hb_1 : (decide ((65536 : Int) < (a0.length : Int)))
  case true =>
   have h := if_t h hb_1
   try simp only [hb_1]
   refine wpR_run 4 rfl ?_
   refine wpR_nil (QE_then_n ?_)
   exact wpC_le _ (by exact ⟨rfl, rfl, rfl, rfl, trivial⟩) (hK_3 true _ _ ⟨rfl, hS⟩ h)
  case false =>
   have h := if_f h hb_1
   try simp only [hb_1]
   refine wpR_run 1 rfl ?_
   refine wpR_gv (t := 19) rfl rfl (OpV_len Tryd.underlying22 rfl (ha1.now hS.fr)) rfl ?_
   refine wpR_run 2 rfl ?_
   refine wpR_nil (QE_then_n ?_)
   exact wpC_le _ (by exact ⟨rfl, rfl, rfl, rfl, trivial⟩) (hK_3 (decide ((65536 : Int) < (a1.length : Int))) _ _ ⟨rfl, hS⟩ h)
 rintro x_2 L w hJ h
 try dsimp only at hJ
 obtain ⟨rfl, hS⟩ := hJ
 unfold F.cose_Parse_K1 at h
 refine wpC_cond rfl (fun hb_62 => ?_) (fun hb_62 => ?_)
 ·have h := if_t h hb_62
  refine wpC_seq (wpC_region (wpR_run 1 rfl ?_))
  obtain ⟨x_4, hx_4, h⟩ := obind_some h
  refine wpR_callV rfl (by kernel_rfl) rfl (c_signet_cose_Parse_1 _ 10    _ hx_4) rfl ?_
  rintro _ w ⟨v_5, v_7, v_9, v_11, rfl, hS1⟩
  have hS := hS.call hS1
  simp only [List.cons_append, List.nil_append] at hS
  refine wpR_run 12 rfl ?_
  refine wpR_nil (QE_then_n (wpC_ret (QE_then_r ?_)))
  cases h
  exact QE_ret6 rfl rfl rfl rfl rfl rfl rfl ⟨v_5, v_7, v_9, v_11, rfl, hS.pick [0, 1, 2, 3] (by decide) rfl⟩
 have h := if_f h hb_62
 refine wpC_skip (QE_then_n (wpC_seq (wpC_region (wpR_run 1 rfl ?_))))
 obtain ⟨x_13, hx_13, h⟩ := obind_some h
 refine wpR_call (by kernel_rfl) rfl (c_cbor_Parse _ a0 va0  (hT.now hS.fr) (ha0.now hS.fr).rp _ hx_13) rfl ?_
 rintro _ w ⟨v_14, rfl, hS1⟩
 have hS := hS.call hS1
 simp only [List.cons_append, List.nil_append] at hS
 refine wpR_run 7 rfl ?_
 refine wpR_nil (QE_then_n (wpC_seq (wpC_seq (wpC_region (wpR_run 2 rfl ?_)))))
 refine wpR_nil (QE_then_n ?_)
 refine wpC_cond rfl (fun hb_61 => ?_) (fun hb_61 => ?_)
 ·have h := if_t h hb_61
  refine wpC_seq (wpC_region (wpR_run 2 rfl ?_))
  obtain ⟨x_16, hx_16, h⟩ := obind_some h
  refine wpR_callV rfl (by kernel_rfl) rfl (c_signet_cose_Parse_1 _ x_13.2.1    _ hx_16) rfl ?_
  rintro _ w ⟨v_17, v_19, v_21, v_23, rfl, hS1⟩
  have hS := hS.call hS1
  simp only [List.cons_append, List.nil_append] at hS
  refine wpR_run 12 rfl ?_
  refine wpR_nil (QE_then_n (wpC_ret (QE_then_r ?_)))
  cases h
  exact QE_ret6 rfl rfl rfl rfl rfl rfl rfl ⟨v_17, v_19, v_21, v_23, rfl, hS.pick [0, 1, 2, 3] (by decide) rfl⟩
 have h := if_f h hb_61
 refine wpC_skip (QE_then_n (wpC_seq (wpC_region (wpR_run 1 rfl ?_))))
 obtain ⟨x_25, hx_25, h⟩ := obind_some h
 refine wpR_call (by kernel_rfl) rfl (c_cose_read _ x_13.1 v_14  (hT.now hS.fr) (hS.ro 0 rfl).rp _ hx_25) rfl ?_
 rintro _ w ⟨rfl, hS1⟩
 have hS := hS.call hS1
 simp only [List.cons_append, List.nil_append] at hS
 refine wpR_run 3 rfl ?_
 refine wpR_x (OpX_alloc (cs := [vI 0, vS [], vS [], vS [], vS []]) tz83 rfl hS) rfl ?_
 rintro _ w ⟨b_26, rfl, hS⟩
 refine wpR_y (OpY_stB (i := 0) (us := [vI x_25.1, vS x_25.2.1, vS x_25.2.2.1, vS x_25.2.2.2.1, vS x_25.2.2.2.2.1]) rfl sz83 rfl rfl rfl ⟨rfl, rfl, rfl, rfl, rfl, trivial⟩ rfl hS) ?_
 intro w hS
 replace hS : St _ w0 w [OE.bx b_26 [vI x_25.1, vS x_25.2.1, vS x_25.2.2.1, vS x_25.2.2.2.1, vS x_25.2.2.2.2.1], own (eP eI (eP e64 (eP eS eI))) v_14 x_13.1] := hS
 refine wpR_run 1 rfl ?_
 refine wpR_nil (QE_then_n (wpC_seq (wpC_seq (wpC_region (wpR_run 2 rfl ?_)))))
 refine wpR_nil (QE_then_n ?_)
 refine wpC_cond rfl (fun hb_60 => ?_) (fun hb_60 => ?_)
 ·have h := if_t h hb_60
  refine wpC_seq (wpC_region (wpR_run 2 rfl ?_))
  obtain ⟨x_28, hx_28, h⟩ := obind_some h
  refine wpR_callV rfl (by kernel_rfl) rfl (c_signet_cose_Parse_1 _ x_25.2.2.2.2.2    _ hx_28) rfl ?_
  rintro _ w ⟨v_29, v_31, v_33, v_35, rfl, hS1⟩
  have hS := hS.call hS1
  simp only [List.cons_append, List.nil_append] at hS
  refine wpR_run 12 rfl ?_
  refine wpR_nil (QE_then_n (wpC_ret (QE_then_r ?_)))
  cases h
  exact QE_ret6 rfl rfl rfl rfl rfl rfl rfl ⟨v_29, v_31, v_33, v_35, rfl, hS.pick [0, 1, 2, 3] (by decide) rfl⟩
 have h := if_f h hb_60
 refine wpC_skip (QE_then_n (wpC_seq (wpC_region ?_)))
 refine wpR_x (OpX_lit (e := e8) (l := [132]) (vs := [v8 132]) Tryd.underlying22 ti5 rfl rfl rfl rfl (by decide) (by decide) hS) rfl ?_
 rintro v_37 w hS
 have hG := hS.pick (os' := [own e8 v_37 [132]] ++ [OE.bx b_26 [vI x_25.1, vS x_25.2.1, vS x_25.2.2.1, vS x_25.2.2.2.1, vS x_25.2.2.2.2.1], own (eP eI (eP e64 (eP eS eI))) v_14 x_13.1]) [0, 1, 2] (by decide) rfl
 obtain ⟨x_39, hx_39, h⟩ := obind_some h
 refine wpR_call (by kernel_rfl) rfl (c_cose_laid _ [132] 3 [83, 105, 103, 110, 97, 116, 117, 114, 101, 49] v_37  _ hG.give  _ hx_39) rfl ?_
 rintro v_40 w ⟨v_40q, hqv_40, hS1⟩
 rw [← hqv_40] at hS1
 have hS := hG.back hS1
 simp only [List.cons_append, List.nil_append] at hS
 refine wpR_run 1 rfl ?_
 refine wpR_nil (QE_then_n (wpC_seq ?_))
 have hsh0 := (hS.ro 0 rfl).shp
 refine wpC_regionT (fun w' => St [] w0 w' [OE.bx b_26 [vI x_25.1, vS x_25.2.1, vS x_25.2.2.1, vS x_25.2.2.2.1, vS x_25.2.2.2.2.1], own (eP eI (eP e64 (eP eS eI))) v_14 x_13.1]) (fun i => !([3, 6, 9].contains i)) hmix (fun _ _ _ hf => hf.2) (fun _ _ hf => hf) (by kernel_rfl) ?_
 have hS := hS.drew
 show lxE _ _ _ _ _ _ _ [0, 1, 2, 3, 4, 5, 6, 7, 8, 9, 10] _ _
 refine lxE_v (hS.pick [1, 2] (by decide) rfl) rfl rfl (fun w hF => OpV_move rfl) rfl ?_
 refine lxE_v (hS.pick [1, 2] (by decide) rfl) rfl rfl (fun w hF => OpV_fieldB (k := 1) Tryd.underlying83 rfl rfl nz9 rfl) rfl ?_
 refine lxE_v (hS.pick [1, 2] (by decide) rfl) rfl rfl (fun w hF => OpV_ldB Tryd.underlying9 rfl rfl (hF.bxc 0 rfl 1)) rfl ?_
 have hG := hS.pick (os' := [own e8 v_40 x_39] ++ [OE.bx b_26 [vI x_25.1, vS x_25.2.1, vS x_25.2.2.1, vS x_25.2.2.2.1, vS x_25.2.2.2.2.1], own (eP eI (eP e64 (eP eS eI))) v_14 x_13.1]) [0, 1, 2] (by decide) rfl
 obtain ⟨x_42, hx_42, h⟩ := obind_some h
 refine lxE_call (hS.pick [1, 2] (by decide) rfl) rfl rfl (by kernel_rfl) rfl (c_cose_laid _ x_39 2 x_25.2.1 v_40  _ hG.give  _ hx_42) rfl ?_
 rintro v_43 w ⟨v_43q, hqv_43, hS1⟩
 rw [← hqv_43] at hS1
 have hS := hG.back hS1
 simp only [List.cons_append, List.nil_append] at hS
 refine lxE_v (hS.pick [1, 2] (by decide) rfl) rfl rfl (fun w hF => OpV_move rfl) rfl ?_
 refine lxE_v (hS.pick [1, 2] (by decide) rfl) rfl rfl (fun w hF => OpV_str Tryd.underlying22 Tryd.underlying5 Tryd.underlying9 rfl (ha1.now hF.fr)) rfl ?_
 have hG := hS.pick (os' := [own e8 v_43 x_42] ++ [OE.bx b_26 [vI x_25.1, vS x_25.2.1, vS x_25.2.2.1, vS x_25.2.2.2.1, vS x_25.2.2.2.2.1], own (eP eI (eP e64 (eP eS eI))) v_14 x_13.1]) [0, 1, 2] (by decide) rfl
 obtain ⟨x_45, hx_45, h⟩ := obind_some h
 refine lxE_call (hS.pick [1, 2] (by decide) rfl) rfl rfl (by kernel_rfl) rfl (c_cose_laid _ x_42 2 a1 v_43  _ hG.give  _ hx_45) rfl ?_
 rintro v_46 w ⟨v_46q, hqv_46, hS1⟩
 rw [← hqv_46] at hS1
 have hS := hG.back hS1
 simp only [List.cons_append, List.nil_append] at hS
 refine lxE_v (hS.pick [1, 2] (by decide) rfl) rfl rfl (fun w hF => OpV_fieldB (k := 3) Tryd.underlying83 rfl rfl nz9 rfl) rfl ?_
 refine lxE_v (hS.pick [1, 2] (by decide) rfl) rfl rfl (fun w hF => OpV_ldB Tryd.underlying9 rfl rfl (hF.bxc 0 rfl 3)) rfl ?_
 have hG := hS.pick (os' := [own e8 v_46 x_45] ++ [OE.bx b_26 [vI x_25.1, vS x_25.2.1, vS x_25.2.2.1, vS x_25.2.2.2.1, vS x_25.2.2.2.2.1], own (eP eI (eP e64 (eP eS eI))) v_14 x_13.1]) [0, 1, 2] (by decide) rfl
 obtain ⟨x_48, hx_48, h⟩ := obind_some h
 refine lxE_call (hS.pick [1, 2] (by decide) rfl) rfl rfl (by kernel_rfl) rfl (c_cose_laid _ x_45 2 x_25.2.2.2.1 v_46  _ hG.give  _ hx_48) rfl ?_
 rintro v_49 w ⟨v_49q, hqv_49, hS1⟩
 rw [← hqv_49] at hS1
 have hS := hG.back hS1
 simp only [List.cons_append, List.nil_append] at hS
 refine lxE_v (hS.pick [1, 2] (by decide) rfl) rfl rfl (fun w hF => OpV_assign rfl) rfl ?_
 refine lxE_nil (hS.pick [1, 2] (by decide) rfl) ?_
 refine QE_then_n (wpC_seq ?_)
 refine wpC_regionN (os := [own e8 v_49 x_48, OE.bx b_26 [vI x_25.1, vS x_25.2.1, vS x_25.2.2.1, vS x_25.2.2.2.1, vS x_25.2.2.2.2.1], own (eP eI (eP e64 (eP eS eI))) v_14 x_13.1]) (fun i => [4, 7, 10].contains i) (fun i v => if i = 4 then own e8 v x_25.2.2.1 else if i = 7 then own e8 v x_25.2.2.2.1 else own e8 v x_25.2.2.2.2.1) hS hmix (by kernel_rfl) ?_
 show lxNE _ _ _ _ _ _ _ _ _ _ [0, 1, 2, 3, 4, 5, 6, 7, 8, 9, 10, 11, 12, 13, 14, 15, 16, 17] _ _
 refine lxNE_v rfl rfl (fun w hF => OpV_fieldB (k := 0) Tryd.underlying83 rfl rfl nz50 rfl) rfl ?_
 refine lxNE_v rfl rfl (fun w hF => OpV_ldB Tryd.underlying50 rfl rfl (hF.bxc 1 rfl 0)) rfl ?_
 refine lxNE_v rfl rfl (fun w hF => OpV_fieldB (k := 2) Tryd.underlying83 rfl rfl nz9 rfl) rfl ?_
 refine lxNE_v rfl rfl (fun w hF => OpV_ldB Tryd.underlying9 rfl rfl (hF.bxc 1 rfl 2)) rfl ?_
 obtain ⟨hg_51, h⟩ := grd_some h
 refine lxNE_new (fun v => own e8 v x_25.2.2.1) rfl rfl (fun v => rfl) (fun w os' hS => (OpX_bytesO Tryd.underlying9 Tryd.underlying22 Tryd.underlying5 rfl hS hg_51)) rfl ?_
 intro v_52
 refine lxNE_v rfl rfl (fun w hF => OpV_fieldB (k := 3) Tryd.underlying83 rfl rfl nz9 rfl) rfl ?_
 refine lxNE_v rfl rfl (fun w hF => OpV_ldB Tryd.underlying9 rfl rfl (hF.bxc 1 rfl 3)) rfl ?_
 obtain ⟨hg_54, h⟩ := grd_some h
 refine lxNE_new (fun v => own e8 v x_25.2.2.2.1) rfl rfl (fun v => rfl) (fun w os' hS => (OpX_bytesO Tryd.underlying9 Tryd.underlying22 Tryd.underlying5 rfl hS hg_54)) rfl ?_
 intro v_55
 refine lxNE_v rfl rfl (fun w hF => OpV_fieldB (k := 4) Tryd.underlying83 rfl rfl nz9 rfl) rfl ?_
 refine lxNE_v rfl rfl (fun w hF => OpV_ldB Tryd.underlying9 rfl rfl (hF.bxc 1 rfl 4)) rfl ?_
 obtain ⟨hg_57, h⟩ := grd_some h
 refine lxNE_new (fun v => own e8 v x_25.2.2.2.2.1) rfl rfl (fun v => rfl) (fun w os' hS => (OpX_bytesO Tryd.underlying9 Tryd.underlying22 Tryd.underlying5 rfl hS hg_57)) rfl ?_
 intro v_58
 refine lxNE_v rfl rfl (fun w hF => OpV_move rfl) rfl ?_
 refine lxNE_v rfl rfl (fun w hF => OpV_assign rfl) rfl ?_
 refine lxNE_v rfl rfl (fun w hF => OpV_assign rfl) rfl ?_
 refine lxNE_v rfl rfl (fun w hF => OpV_assign rfl) rfl ?_
 refine lxNE_v rfl rfl (fun w hF => OpV_assign rfl) rfl ?_
 refine lxNE_v rfl rfl (fun w hF => OpV_assign rfl) rfl ?_
 refine lxNE_v rfl rfl (fun w hF => OpV_assign rfl) rfl ?_
 refine lxNE_nil fun w hS => ?_
 replace hS : St [] w0 w [own e8 v_52 x_25.2.2.1, own e8 v_55 x_25.2.2.2.1, own e8 v_58 x_25.2.2.2.2.1, own e8 v_49 x_48, OE.bx b_26 [vI x_25.1, vS x_25.2.1, vS x_25.2.2.1, vS x_25.2.2.2.1, vS x_25.2.2.2.2.1], own (eP eI (eP e64 (eP eS eI))) v_14 x_13.1] := hS
 replace hS : St [] w0 w [own e8 v_58 x_25.2.2.2.2.1, own e8 v_55 x_25.2.2.2.1, own e8 v_52 x_25.2.2.1, own e8 v_49 x_48, OE.bx b_26 [vI x_25.1, vS x_25.2.1, vS x_25.2.2.1, vS x_25.2.2.2.1, vS x_25.2.2.2.2.1], own (eP eI (eP e64 (eP eS eI))) v_14 x_13.1] := hS.pick [2, 1, 0, 3, 4, 5] (by decide) rfl
 refine QE_then_n (wpC_ret ?_)
 cases h
 exact QE_ret6 rfl rfl rfl rfl rfl rfl rfl ⟨v_52, v_55, v_58, v_49, rfl, hS.pick [2, 1, 0, 3] (by decide) rfl⟩
end Go.Proofs
