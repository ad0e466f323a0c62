import Derived.Test.YtpbgncmffgnohaaGreatUW0
import Derived.Test.YtpbgncmffgnohaaGreatGkFbignum
import Derived.Test.YtpbgncmffgnohaaGreatUWbignuma
set_option linter.unusedVariables false
set_option linter.unusedSimpArgs false
set_option linter.unusedVariables false
set_option maxRecDepth 4000
namespace Go.Proofs
open Go Go.RowKit Go.Gk
theorem c_bignum_div (w0 : World) (a0 : List UInt32) (a1 : List UInt32) (va0 : Value) (va1 : Value) (ha0 : RP [] w0 e32 va0 a0) (ha1 : RP [] w0 e32 va1 a1) (r : List UInt32 × List UInt32)
  (h : F.bignum_div a0 a1 = some r) : Calls Tryz.prog 147 #[va0, va1] w0 (Ret fun v w => ∃ u0 u1 : Value, v = .tuple #[u0, u1] ∧ St [] w0 w [own e32 u0 r.1, own e32 u1 r.2]) := by
 refine kz 273 Tryz.func147 rfl rfl rfl ?_
 have hS := St.start w0
 refine kn [(0, va0), (1, va1)] ⟨rfl, rfl, trivial⟩ ?_
 unfold F.bignum_div at h
 refine ke (kc (kb 2 rfl ?_))
 refine kf (ka (ke (ke (kc (kb 1 rfl ?_)))))
 refine ki (kB Tryz.underlying24 rfl (ha1.now hS.fr)) rfl (kb 1 rfl ?_)
 refine kf (ka ?_)
 refine ko rfl (fun hb_122 => ?_) (fun hb_122 => ?_)
 ·have h := if_t h hb_122
  refine ke (kc (kb 2 rfl ?_))
  refine kf (ka (kq (kv ?_)))
  cases h
  exact QE_ret2 rfl rfl rfl ⟨.slice none 0 0, .slice none 0 0, rfl, ((hS.nil e32).nil e32).pick [1, 0] (by decide) rfl⟩
 have h := if_f h hb_122
 refine kr (ka (ke (ke (kc (kb 2 rfl ?_)))))
 obtain ⟨x_1, hx_1, h⟩ := kg h
 refine kk (by kernel_rfl) rfl (c_bignum_cmp _ a0 a1 va0 va1  (ha0.now hS.fr).rp (ha1.now hS.fr).rp _ hx_1) rfl ?_
 rintro _ w ⟨rfl, hS1⟩
 have hS := hS.call hS1
 refine kb 1 rfl ?_
 refine kf (ka ?_)
 refine ko rfl (fun hb_121 => ?_) (fun hb_121 => ?_)
 ·have h := if_t h hb_121
  refine ke (kc (kb 1 rfl ?_))
  obtain ⟨x_2, hx_2, h⟩ := kg h
  refine kk (by kernel_rfl) rfl (c_bignum_twin _ a0 va0  (ha0.now hS.fr).rp _ hx_2) rfl ?_
  rintro v_3 w hS1
  have hS := hS.call hS1
  refine kb 2 rfl ?_
  refine kf (ka (kq (kv ?_)))
  cases h
  exact QE_ret2 rfl rfl rfl ⟨.slice none 0 0, v_3, rfl, (hS.nil e32).pick [0, 1] (by decide) rfl⟩
 have h := if_f h hb_121
 refine kr (ka (ke (ke (kc (kb 1 rfl ?_)))))
 refine ki (kB Tryz.underlying24 rfl (ha0.now hS.fr)) rfl (kb 1 rfl ?_)
 refine kf (ka ?_)
 refine ko rfl (fun hb_120 => ?_) (fun hb_120 => ?_)
 ·have h := if_t h hb_120
  refine ke (kc (kb 1 rfl ?_))
  obtain ⟨x_5, hx_5, h⟩ := kg h
  refine kk (by kernel_rfl) rfl (c_bignum_plain _ a0 va0  (ha0.now hS.fr).rp _ hx_5) rfl ?_
  rintro _ w ⟨rfl, hS1⟩
  have hS := hS.call hS1
  refine kb 1 rfl ?_
  obtain ⟨x_6, hx_6, h⟩ := kg h
  refine kk (by kernel_rfl) rfl (c_bignum_plain _ a1 va1  (ha1.now hS.fr).rp _ hx_6) rfl ?_
  rintro _ w ⟨rfl, hS1⟩
  have hS := hS.call hS1
  refine kb 2 rfl ?_
  refine kf (ka (ke ?_))
  refine kN (fun w' => St [] w0 w' []) (fun i => !([3, 7].contains i)) hmix (fun _ _ _ hf => hf.2) (fun _ _ hf => hf) (by kernel_rfl) ?_
  have hS := hS.drew
  show lxE _ _ _ _ _ _ _ [0, 1, 2, 3, 4, 5, 6, 7, 8, 9] _ _
  refine kj hS rfl rfl (fun w hF => km rfl) rfl (kj hS rfl rfl (fun w hF => km rfl) rfl ?_)
  obtain ⟨hg_7, h⟩ := grd_some h
  refine kj hS rfl rfl (fun w hF => kt rfl rfl (b_quo64 _ x_5 x_6 hg_7)) rfl ?_
  obtain ⟨x_8, hx_8, h⟩ := kg h
  refine kP hS rfl rfl (by kernel_rfl) rfl (c_bignum_words _ (x_5 / x_6)    _ hx_8) rfl ?_
  rintro v_9 w hS1
  have hS := hS.call hS1
  refine kj (hS.pick [] (by decide) rfl) rfl rfl (fun w hF => km rfl) rfl ?_
  refine kj (hS.pick [] (by decide) rfl) rfl rfl (fun w hF => km rfl) rfl ?_
  obtain ⟨hg_11, h⟩ := grd_some h
  refine kj (hS.pick [] (by decide) rfl) rfl rfl (fun w hF => kt rfl rfl (b_rem64 _ x_5 x_6 hg_11)) rfl ?_
  obtain ⟨x_12, hx_12, h⟩ := kg h
  refine kP (hS.pick [] (by decide) rfl) rfl rfl (by kernel_rfl) rfl (c_bignum_words _ (x_5 % x_6)    _ hx_12) rfl ?_
  rintro v_13 w hS1
  have hS := hS.call hS1
  refine kj (hS.pick [] (by decide) rfl) rfl rfl (fun w hF => kA rfl) rfl ?_
  refine kj (hS.pick [] (by decide) rfl) rfl rfl (fun w hF => kA rfl) rfl ?_
  refine kY (hS.pick [] (by decide) rfl) ?_
  refine ka (kq (kv ?_))
  cases h
  exact QE_ret2 rfl rfl rfl ⟨v_9, v_13, rfl, hS.pick [1, 0] (by decide) rfl⟩
 have h := if_f h hb_120
 refine kr (ka (ke (ke (kc (kb 1 rfl ?_)))))
 refine ki (kB Tryz.underlying24 rfl (ha1.now hS.fr)) rfl (kb 1 rfl ?_)
 refine kf (ka ?_)
 refine ko rfl (fun hb_119 => ?_) (fun hb_119 => ?_)
 ·have h := if_t h hb_119
  refine ke (kc (kb 2 rfl ?_))
  obtain ⟨x_15, hx_15, h⟩ := kg h
  refine ki (G_ix Tryz.underlying24 ti52 rfl rfl (ha1.now hS.fr) hx_15) rfl (ki (G_load Tryz.underlying52 rfl rfl (ha1.now hS.fr) hx_15 rfl) rfl ?_)
  obtain ⟨x_16, hx_16, h⟩ := kg h
  refine kk (by kernel_rfl) rfl (c_bignum_small _ a0 x_15 va0  (ha0.now hS.fr).rp _ hx_16) rfl ?_
  rintro _ w ⟨v_17, rfl, hS1⟩
  have hS := hS.call hS1
  refine kb 5 rfl ?_
  refine kf (ka (ke (kc (kb 2 rfl ?_))))
  refine kW (OpX_lit (e := e32) (l := ([x_16.2] : List UInt32)) (vs := [v32 x_16.2]) Tryz.underlying24 ti52 rfl rfl rfl rfl (by decide) (by decide) hS) rfl ?_
  rintro v_19 w hS
  have hG := hS.pick (os' := [own e32 v_19 ([x_16.2] : List UInt32)] ++ [own e32 v_17 x_16.1]) [0, 1] (by decide) rfl
  obtain ⟨x_21, hx_21, h⟩ := kg h
  refine kk (by kernel_rfl) rfl (c_bignum_trim _ ([x_16.2] : List UInt32) v_19  _ hG.give  _ hx_21) rfl ?_
  rintro v_22 w ⟨v_22q, hqv_22, hS1⟩
  rw [← hqv_22] at hS1
  have hS := hG.back hS1
  refine kb 2 rfl ?_
  refine kf (ka (kq (kv ?_)))
  cases h
  exact QE_ret2 rfl rfl rfl ⟨v_17, v_22, rfl, hS.pick [1, 0] (by decide) rfl⟩
 have h := if_f h hb_119
 refine kr (ka (ke (kc (kb 1 rfl ?_))))
 obtain ⟨x_24, hx_24, h⟩ := kg h
 refine kk (by kernel_rfl) rfl (c_bignum_length _ a1 va1  (ha1.now hS.fr).rp _ hx_24) rfl ?_
 rintro _ w ⟨rfl, hS1⟩
 have hS := hS.call hS1
 refine kb 1 rfl ?_
 refine ki (kt rfl rfl (b_irem _ (wI (x_24 - 1)) 32 (by decide))) rfl ?_
 refine kb 2 rfl ?_
 refine ki (kF rfl (cv_i_64 Tryz.underlying3 Tryz.underlying92 (wI ((wI (32 - (Int.tmod (wI (x_24 - 1)) 32))) - 1)))) rfl ?_
 obtain ⟨x_25, hx_25, h⟩ := kI h
 refine ki (kA (v := v64 x_25) (by rw [← hx_25]; rfl)) rfl ?_
 refine kf (ka (ke (kc (kb 2 rfl ?_))))
 obtain ⟨x_26, hx_26, h⟩ := kg h
 refine kk (by kernel_rfl) rfl (c_bignum_left _ a1 x_25 va1  (ha1.now hS.fr).rp _ hx_26) rfl ?_
 rintro v_27 w hS1
 have hS := hS.call hS1
 refine kb 1 rfl ?_
 refine kf (ka (ke (kc (kb 1 rfl ?_))))
 refine ki (kB Tryz.underlying24 rfl (ha0.now hS.fr)) rfl (kb 1 rfl ?_)
 obtain ⟨x_29, hx_29, h⟩ := kg h
 refine kW (G_make (e := e32) Tryz.underlying24 ti52 rfl rfl rfl hS hx_29) rfl ?_
 rintro v_30 w hS
 refine kb 1 rfl ?_
 refine kf (ka (ke (kc (kb 3 rfl ?_))))
 obtain ⟨x_32, hx_32, h⟩ := kg h
 refine kk (by kernel_rfl) rfl (c_bignum_left _ a0 x_25 va0  (ha0.now hS.fr).rp _ hx_32) rfl ?_
 rintro v_33 w hS1
 have hS := hS.call hS1
 refine kW (G_copy (e := e32) Tryz.underlying24 ti52 rfl rfl rfl hS (i := 1) rfl (hS.ro 0 rfl)) rfl ?_
 rintro v_q w ⟨hv_q, hS⟩
 subst v_q
 obtain ⟨x_35, hx_35, h⟩ := kI h
 rw [hx_35] at hS
 refine kf (ka (ke (kc (kb 1 rfl ?_))))
 refine ki (kB Tryz.underlying24 rfl (hS.ro 2 rfl)) rfl (kb 1 rfl ?_)
 refine kf (ka (ke (kc (kb 1 rfl ?_))))
 refine ki (kB Tryz.underlying24 rfl (hS.ro 1 rfl)) rfl (kb 3 rfl ?_)
 obtain ⟨x_36, hx_36, h⟩ := kI h
 refine ki (kA (v := vI x_36) (by rw [← hx_36]; rfl)) rfl ?_
 refine kf (ka (ke (kc (kb 2 rfl ?_))))
 obtain ⟨x_37, hx_37, h⟩ := kg h
 refine kW (G_make (e := e32) Tryz.underlying24 ti52 rfl rfl rfl hS hx_37) rfl ?_
 rintro v_38 w hS
 refine kb 1 rfl ?_
 refine kf (ka (ke ?_))
 refine kN (fun w' => St [] w0 w' [own e32 v_38 x_37, own e32 v_33 x_32, own e32 v_30 x_35, own e32 v_27 x_26]) (fun _ => true) hmix (fun _ _ _ hf => hf.2) (fun _ _ hf => hf) (by kernel_rfl) ?_
 have hS := hS.drew
 show lxE _ _ _ _ _ _ _ [0, 1, 2, 3, 4, 5, 6, 7, 8, 9, 10, 11, 12, 13] _ _
 refine kj hS rfl rfl (fun w hF => km rfl) rfl (kj hS rfl rfl (fun w hF => km rfl) rfl (kj hS rfl rfl (fun w hF => kt rfl rfl (b_isub _ (x_26.length : Int) 1)) rfl ?_))
 obtain ⟨x_40, hx_40, h⟩ := kg h
 refine kj hS rfl rfl (fun w hF => G_ix Tryz.underlying24 ti52 rfl rfl (hF.ro 3 rfl) hx_40) rfl (kj hS rfl rfl (fun w hF => G_load Tryz.underlying52 rfl rfl (hF.ro 3 rfl) hx_40 rfl) rfl (kj hS rfl rfl (fun w hF => kF rfl (cv_32_64 Tryz.underlying52 Tryz.underlying94 x_40)) rfl (kj hS rfl rfl (fun w hF => km rfl) rfl (kj hS rfl rfl (fun w hF => km rfl) rfl (kj hS rfl rfl (fun w hF => kt rfl rfl (b_isub _ (x_26.length : Int) 2)) rfl ?_)))))
 obtain ⟨x_41, hx_41, h⟩ := kg h
 refine kj hS rfl rfl (fun w hF => G_ix Tryz.underlying24 ti52 rfl rfl (hF.ro 3 rfl) hx_41) rfl (kj hS rfl rfl (fun w hF => G_load Tryz.underlying52 rfl rfl (hF.ro 3 rfl) hx_41 rfl) rfl (kj hS rfl rfl (fun w hF => kF rfl (cv_32_64 Tryz.underlying52 Tryz.underlying94 x_41)) rfl (kj hS rfl rfl (fun w hF => kA rfl) rfl (kj hS rfl rfl (fun w hF => kA rfl) rfl (kY hS ?_)))))
 refine ka (ke (ke (kc (kb 2 rfl ?_))))
 refine kf (ka (kw ?_))
 refine kn [(10, v64 x_25), (11, v_27), (12, v_30), (13, vI (x_26.length : Int)), (15, v_38), (16, v64 x_40.toUInt64), (17, v64 x_41.toUInt64), (18, vI x_36)] ⟨rfl, rfl, rfl, rfl, rfl, rfl, rfl, rfl, trivial⟩ ?_
 refine kS (F.bignum_div_L1 x_25 x_26 x_40 x_41) (fun (s : Int × List UInt32 × List UInt32) L w => L = [(10, v64 x_25), (11, v_27), (12, v_30), (13, vI (x_26.length : Int)), (15, v_38), (16, v64 x_40.toUInt64), (17, v64 x_41.toUInt64), (18, vI s.1)] ∧ St [] w0 w [own e32 v_27 x_26, own e32 v_30 s.2.1, own e32 v_38 s.2.2]) ?_ (x_36, x_35, x_37) ⟨rfl, (hS.pick [3, 2, 0] (by decide) rfl)⟩ h
 rintro k_118 ⟨x_42, x_43, x_44⟩ L w q_47 hI ih_46 h hk_45
 try dsimp only at hI
 obtain ⟨rfl, hS⟩ := hI
 unfold F.bignum_div_L1 at h
 refine ke (ke (kc (kb 2 rfl ?_)))
 refine kf (ka ?_)
 refine ko rfl (fun hb_117 => ?_) (fun hb_117 => ?_)
 ·have h := if_t h hb_117
  refine kr (ka (ke (kw ?_)))
  refine ke ?_
  refine kN (fun w' => St [] w0 w' [own e32 v_27 x_26, own e32 v_30 x_43, own e32 v_38 x_44]) (fun _ => true) hmix (fun _ _ _ hf => hf.2) (fun _ _ hf => hf) (by kernel_rfl) ?_
  have hS := hS.drew
  show lxE _ _ _ _ _ _ _ [0, 1, 2, 3, 4, 5, 6, 7, 8, 9, 10, 11, 12, 13, 14, 15, 16, 17] _ _
  refine kj hS rfl rfl (fun w hF => km rfl) rfl (kj hS rfl rfl (fun w hF => km rfl) rfl (kj hS rfl rfl (fun w hF => km rfl) rfl (kj hS rfl rfl (fun w hF => kt rfl rfl (b_iadd _ x_42 (x_26.length : Int))) rfl ?_)))
  obtain ⟨x_48, hx_48, h⟩ := kg h
  refine kj hS rfl rfl (fun w hF => G_ix Tryz.underlying24 ti52 rfl rfl (hF.ro 1 rfl) hx_48) rfl (kj hS rfl rfl (fun w hF => G_load Tryz.underlying52 rfl rfl (hF.ro 1 rfl) hx_48 rfl) rfl (kj hS rfl rfl (fun w hF => kF rfl (cv_32_64 Tryz.underlying52 Tryz.underlying94 x_48)) rfl (kj hS rfl rfl (fun w hF => kt rfl rfl (b_shl64_64 _ x_48.toUInt64 32)) rfl (kj hS rfl rfl (fun w hF => km rfl) rfl (kj hS rfl rfl (fun w hF => km rfl) rfl (kj hS rfl rfl (fun w hF => km rfl) rfl (kj hS rfl rfl (fun w hF => kt rfl rfl (b_iadd _ x_42 (x_26.length : Int))) rfl (kj hS rfl rfl (fun w hF => kt rfl rfl (b_isub _ (wI (x_42 + (x_26.length : Int))) 1)) rfl ?_))))))))
  obtain ⟨x_49, hx_49, h⟩ := kg h
  refine kj hS rfl rfl (fun w hF => G_ix Tryz.underlying24 ti52 rfl rfl (hF.ro 1 rfl) hx_49) rfl (kj hS rfl rfl (fun w hF => G_load Tryz.underlying52 rfl rfl (hF.ro 1 rfl) hx_49 rfl) rfl (kj hS rfl rfl (fun w hF => kF rfl (cv_32_64 Tryz.underlying52 Tryz.underlying94 x_49)) rfl (kj hS rfl rfl (fun w hF => kt rfl rfl (b_or64 _ (shl64 x_48.toUInt64 32) x_49.toUInt64)) rfl ?_)))
  obtain ⟨x_50, hx_50, h⟩ := kI h
  refine kj hS rfl rfl (fun w hF => kA (v := v64 x_50) (by rw [← hx_50]; rfl)) rfl ?_
  refine kY hS ?_
  refine ka (ke ?_)
  refine kN (fun w' => St [] w0 w' [own e32 v_27 x_26, own e32 v_30 x_43, own e32 v_38 x_44]) (fun _ => true) hmix (fun _ _ _ hf => hf.2) (fun _ _ hf => hf) (by kernel_rfl) ?_
  have hS := hS.drew
  show lxE _ _ _ _ _ _ _ [0, 1, 2, 3, 4, 5, 6, 7] _ _
  refine kj hS rfl rfl (fun w hF => km rfl) rfl (kj hS rfl rfl (fun w hF => km rfl) rfl ?_)
  obtain ⟨hg_51, h⟩ := grd_some h
  refine kj hS rfl rfl (fun w hF => kt rfl rfl (b_quo64 _ x_50 x_40.toUInt64 hg_51)) rfl (kj hS rfl rfl (fun w hF => km rfl) rfl (kj hS rfl rfl (fun w hF => km rfl) rfl ?_))
  obtain ⟨hg_52, h⟩ := grd_some h
  refine kj hS rfl rfl (fun w hF => kt rfl rfl (b_rem64 _ x_50 x_40.toUInt64 hg_52)) rfl (kj hS rfl rfl (fun w hF => kA rfl) rfl (kj hS rfl rfl (fun w hF => kA rfl) rfl (kY hS ?_)))
  refine ka ?_
  refine kO (r := q_47) (fun (g : UInt64) L w => L = [(10, v64 x_25), (11, v_27), (12, v_30), (13, vI (x_26.length : Int)), (15, v_38), (16, v64 x_40.toUInt64), (17, v64 x_41.toUInt64), (18, vI x_42), (20, v64 g)] ∧ St [] w0 w [own e32 v_27 x_26, own e32 v_30 x_43, own e32 v_38 x_44]) (F.bignum_div_K1 x_43 x_26 x_42 x_44) ?_ ?_
  rotate_left
  ·intro hK_66
   refine kw ?_
   refine kn [(10, v64 x_25), (11, v_27), (12, v_30), (13, vI (x_26.length : Int)), (15, v_38), (16, v64 x_40.toUInt64), (17, v64 x_41.toUInt64), (18, vI x_42), (20, v64 (x_50 / x_40.toUInt64)), (21, v64 (x_50 % x_40.toUInt64))] ⟨rfl, rfl, rfl, rfl, rfl, rfl, rfl, rfl, rfl, rfl, trivial⟩ ?_
   refine kS (F.bignum_div_L4 x_26 x_41 x_42 x_43 x_40 x_44) (fun (s : UInt64 × UInt64) L w => L = [(10, v64 x_25), (11, v_27), (12, v_30), (13, vI (x_26.length : Int)), (15, v_38), (16, v64 x_40.toUInt64), (17, v64 x_41.toUInt64), (18, vI x_42), (20, v64 s.1), (21, v64 s.2)] ∧ St [] w0 w [own e32 v_27 x_26, own e32 v_30 x_43, own e32 v_38 x_44]) ?_ (x_50 / x_40.toUInt64, x_50 % x_40.toUInt64) ⟨rfl, hS⟩ h
   rintro k_64 ⟨x_53, x_54⟩ L w q_57 hI ih_56 h hk_55
   try dsimp only at hI
   obtain ⟨rfl, hS⟩ := hI
   unfold F.bignum_div_L4 at h
   refine ke ?_
   refine kO (r := q_57) (fun (g : Bool) L w => L = [(10, v64 x_25), (11, v_27), (12, v_30), (13, vI (x_26.length : Int)), (15, v_38), (16, v64 x_40.toUInt64), (17, v64 x_41.toUInt64), (18, vI x_42), (20, v64 x_53), (21, v64 x_54), (154, vB g)] ∧ St [] w0 w [own e32 v_27 x_26, own e32 v_30 x_43, own e32 v_38 x_44]) (F.bignum_div_K3 x_40 x_53 x_54 x_43 x_26 x_42 x_44) ?_ ?_
   rotate_left
   ·intro hK_61
    refine kc (kb 1 rfl ?_)
    refine ki (kt rfl rfl (b_gtr64 _ x_53 4294967295)) rfl (kb 1 rfl ?_)
    cases hb_58 : (decide ((4294967295 : UInt64) < x_53))
    case true =>
     have h := if_t h hb_58
     try simp only [hb_58]
     refine kb 16 rfl ?_
     refine kf (ka ?_)
     exact kn _ (by exact ⟨rfl, rfl, rfl, rfl, rfl, rfl, rfl, rfl, rfl, rfl, rfl, trivial⟩) (hK_61 true _ _ ⟨rfl, hS⟩ h)
    case false =>
     have h := if_f h hb_58
     try simp only [hb_58]
     refine kb 2 rfl ?_
     refine kT (t := 138) rfl rfl (kt rfl rfl (b_mul64 _ x_53 x_41.toUInt64)) rfl (kb 1 rfl ?_)
     refine kT (t := 138) rfl rfl (kt rfl rfl (b_shl64_64 _ x_54 32)) rfl (kb 5 rfl ?_)
     obtain ⟨x_59, hx_59, h⟩ := kg h
     refine kT (t := 138) rfl rfl (G_ix Tryz.underlying24 ti52 rfl rfl (hS.ro 1 rfl) hx_59) rfl (kT (t := 138) rfl rfl (G_load Tryz.underlying52 rfl rfl (hS.ro 1 rfl) hx_59 rfl) rfl (kT (t := 138) rfl rfl (kF rfl (cv_32_64 Tryz.underlying52 Tryz.underlying94 x_59)) rfl (kT (t := 138) rfl rfl (kt rfl rfl (b_or64 _ (shl64 x_54 32) x_59.toUInt64)) rfl (kT (t := 138) rfl rfl (kt rfl rfl (b_gtr64 _ (x_53 * x_41.toUInt64) ((shl64 x_54 32) ||| x_59.toUInt64))) rfl (kb 1 rfl ?_)))))
     refine kf (ka ?_)
     exact kn _ (by exact ⟨rfl, rfl, rfl, rfl, rfl, rfl, rfl, rfl, rfl, rfl, rfl, trivial⟩) (hK_61 (decide (((shl64 x_54 32) ||| x_59.toUInt64) < (x_53 * x_41.toUInt64))) _ _ ⟨rfl, hS⟩ h)
   rintro x_60 L w hJ h
   try dsimp only at hJ
   obtain ⟨rfl, hS⟩ := hJ
   unfold F.bignum_div_K3 at h
   refine ko rfl (fun hb_63 => ?_) (fun hb_63 => ?_)
   ·have h := if_t h hb_63
    refine kr (ka (kw ?_))
    refine ke (kc (kb 1 rfl ?_))
    refine ki (kt rfl rfl (b_sub64 _ x_53 1)) rfl (kb 1 rfl ?_)
    refine kf (ka (ke (kc (kb 2 rfl ?_))))
    refine ki (kt rfl rfl (b_add64 _ x_54 x_40.toUInt64)) rfl (kb 1 rfl ?_)
    refine kf (ka (ke (kc (kb 1 rfl ?_))))
    refine ki (kt rfl rfl (b_gtr64 _ (x_54 + x_40.toUInt64) 4294967295)) rfl (kf (ka ?_))
    refine ko rfl (fun hb_62 => ?_) (fun hb_62 => ?_)
    ·have h := if_t h hb_62
     refine kQ ?_
     refine QE_blk_o rfl ?_
     refine kx ?_
     have h := kG h hk_55
     refine kR ?_
     refine ka ?_
     exact kn _ (by exact ⟨rfl, rfl, rfl, rfl, rfl, rfl, rfl, rfl, rfl, trivial⟩) (hK_66 (x_53 - 1) _ _ ⟨rfl, hS⟩ h)
    have h := if_f h hb_62
    refine kr (kK ?_)
    exact QE_rnd (wpN_le _ (by exact ⟨rfl, rfl, rfl, rfl, rfl, rfl, rfl, rfl, rfl, rfl, trivial⟩) (ih_56 (x_53 - 1, x_54 + x_40.toUInt64) _ _ ⟨rfl, hS⟩ (kL h hk_55)))
   have h := if_f h hb_63
   refine kQ ?_
   refine kx (kx ?_)
   have h := kG h hk_55
   refine kR ?_
   refine ka ?_
   exact kn _ (by exact ⟨rfl, rfl, rfl, rfl, rfl, rfl, rfl, rfl, rfl, trivial⟩) (hK_66 x_53 _ _ ⟨rfl, hS⟩ h)
  rintro x_65 L w hJ h
  try dsimp only at hJ
  obtain ⟨rfl, hS⟩ := hJ
  unfold F.bignum_div_K1 at h
  refine ke (kc (kb 2 rfl ?_))
  refine kf (ka (ke (ke (kc (kb 1 rfl ?_)))))
  refine kf (ka (kw ?_))
  refine kn [(10, v64 x_25), (11, v_27), (12, v_30), (13, vI (x_26.length : Int)), (15, v_38), (16, v64 x_40.toUInt64), (17, v64 x_41.toUInt64), (18, vI x_42), (20, v64 x_65), (22, v64 0), (23, v64 0), (24, vI 0)] ⟨rfl, rfl, rfl, rfl, rfl, rfl, rfl, rfl, rfl, rfl, rfl, rfl, trivial⟩ ?_
  refine kS (F.bignum_div_L2 x_26 x_42 x_65 x_44) (fun (s : UInt64 × UInt64 × Int × List UInt32) L w => L = [(10, v64 x_25), (11, v_27), (12, v_30), (13, vI (x_26.length : Int)), (15, v_38), (16, v64 x_40.toUInt64), (17, v64 x_41.toUInt64), (18, vI x_42), (20, v64 x_65), (22, v64 s.1), (23, v64 s.2.1), (24, vI s.2.2.1)] ∧ St [] w0 w [own e32 v_27 x_26, own e32 v_30 s.2.2.2, own e32 v_38 x_44]) ?_ (0, 0, 0, x_43) ⟨rfl, hS⟩ h
  rintro k_107 ⟨x_67, x_68, x_69, x_70⟩ L w q_73 hI ih_72 h hk_71
  try dsimp only at hI
  obtain ⟨rfl, hS⟩ := hI
  unfold F.bignum_div_L2 at h
  refine ke (ke (kc (kb 3 rfl ?_)))
  refine kf (ka ?_)
  refine ko rfl (fun hb_106 => ?_) (fun hb_106 => ?_)
  ·have h := if_t h hb_106
   refine kr (ka (ke (kw ?_)))
   refine ke (kc (kb 4 rfl ?_))
   obtain ⟨x_74, hx_74, h⟩ := kg h
   refine ki (G_ix Tryz.underlying24 ti52 rfl rfl (hS.ro 0 rfl) hx_74) rfl (ki (G_load Tryz.underlying52 rfl rfl (hS.ro 0 rfl) hx_74 rfl) rfl (ki (kF rfl (cv_32_64 Tryz.underlying52 Tryz.underlying94 x_74)) rfl (ki (kt rfl rfl (b_mul64 _ x_65 x_74.toUInt64)) rfl (ki (kt rfl rfl (b_add64 _ x_67 (x_65 * x_74.toUInt64))) rfl ?_))))
   obtain ⟨x_75, hx_75, h⟩ := kI h
   refine ki (kA (v := v64 x_75) (by rw [← hx_75]; rfl)) rfl ?_
   refine kf (ka (ke (kc (kb 4 rfl ?_))))
   obtain ⟨x_76, hx_76, h⟩ := kg h
   refine ki (G_ix Tryz.underlying24 ti52 rfl rfl (hS.ro 1 rfl) hx_76) rfl (ki (G_load Tryz.underlying52 rfl rfl (hS.ro 1 rfl) hx_76 rfl) rfl (ki (kF rfl (cv_32_64 Tryz.underlying52 Tryz.underlying94 x_76)) rfl (kb 1 rfl ?_)))
   refine ki (kF rfl (cv_64_32 Tryz.underlying94 Tryz.underlying52 x_75)) rfl (ki (kF rfl (cv_32_64 Tryz.underlying52 Tryz.underlying94 x_75.toUInt32)) rfl (ki (kt rfl rfl (b_sub64 _ x_76.toUInt64 x_75.toUInt32.toUInt64)) rfl (kb 1 rfl ?_)))
   refine ki (kt rfl rfl (b_sub64 _ (x_76.toUInt64 - x_75.toUInt32.toUInt64) x_68)) rfl ?_
   obtain ⟨x_77, hx_77, h⟩ := kI h
   refine ki (kA (v := v64 x_77) (by rw [← hx_77]; rfl)) rfl ?_
   refine kf (ka (ke (kc (kb 5 rfl ?_))))
   refine ki (kF rfl (cv_64_32 Tryz.underlying94 Tryz.underlying52 x_77)) rfl ?_
   obtain ⟨x_78, hx_78, h⟩ := kg h
   refine ki (G_ix Tryz.underlying24 ti52 rfl rfl (hS.ro 1 rfl) hx_78) rfl (kX (G_storeE (t := x_77.toUInt32) ti52 rfl rfl hS (i := 1) rfl hx_78 rfl) ?_)
   intro w hS
   obtain ⟨x_79, hx_79, h⟩ := kI h
   rw [hx_79] at hS
   refine kf (ka (ke (kc (kb 1 rfl ?_))))
   refine ki (kt rfl rfl (b_shr64_64 _ x_77 63)) rfl (kb 1 rfl ?_)
   refine kf (ka (kc (kb 1 rfl ?_)))
   refine ki (kt rfl rfl (b_shr64_64 _ x_75 32)) rfl (kb 1 rfl ?_)
   refine kf (kK ?_)
   refine ka (kc (kb 3 rfl ?_))
   refine kf ?_
   exact QE_rnd (wpN_le _ (by exact ⟨rfl, rfl, rfl, rfl, rfl, rfl, rfl, rfl, rfl, rfl, rfl, rfl, trivial⟩) (ih_72 (shr64 x_75 32, shr64 x_77 63, wI (x_69 + 1), x_79) _ _ ⟨rfl, hS⟩ (kL h hk_71)))
  have h := if_f h hb_106
  refine kQ ?_
  refine kx (kx ?_)
  have h := kG h hk_71
  refine kR ?_
  refine ka (ke (kc (kb 4 rfl ?_)))
  obtain ⟨x_80, hx_80, h⟩ := kg h
  refine ki (G_ix Tryz.underlying24 ti52 rfl rfl (hS.ro 1 rfl) hx_80) rfl (ki (G_load Tryz.underlying52 rfl rfl (hS.ro 1 rfl) hx_80 rfl) rfl (ki (kF rfl (cv_32_64 Tryz.underlying52 Tryz.underlying94 x_80)) rfl (kb 1 rfl ?_)))
  refine ki (kt rfl rfl (b_sub64 _ x_80.toUInt64 x_67)) rfl (kb 1 rfl ?_)
  refine ki (kt rfl rfl (b_sub64 _ (x_80.toUInt64 - x_67) x_68)) rfl ?_
  obtain ⟨x_81, hx_81, h⟩ := kI h
  refine ki (kA (v := v64 x_81) (by rw [← hx_81]; rfl)) rfl ?_
  refine kf (ka (ke (kc (kb 5 rfl ?_))))
  refine ki (kF rfl (cv_64_32 Tryz.underlying94 Tryz.underlying52 x_81)) rfl ?_
  obtain ⟨x_82, hx_82, h⟩ := kg h
  refine ki (G_ix Tryz.underlying24 ti52 rfl rfl (hS.ro 1 rfl) hx_82) rfl (kX (G_storeE (t := x_81.toUInt32) ti52 rfl rfl hS (i := 1) rfl hx_82 rfl) ?_)
  intro w hS
  obtain ⟨x_83, hx_83, h⟩ := kI h
  rw [hx_83] at hS
  refine kf (ka ?_)
  refine kO (r := q_47) (fun (g : UInt64 × List UInt32) L w => L = [(10, v64 x_25), (11, v_27), (12, v_30), (13, vI (x_26.length : Int)), (15, v_38), (16, v64 x_40.toUInt64), (17, v64 x_41.toUInt64), (18, vI x_42), (20, v64 g.1)] ∧ St [] w0 w [own e32 v_27 x_26, own e32 v_30 g.2, own e32 v_38 x_44]) (F.bignum_div_K2 x_42 x_44) ?_ ?_
  rotate_left
  ·intro hK_103
   refine ke (kc (kb 1 rfl ?_))
   refine ki (kt rfl rfl (b_shr64_64 _ x_81 63)) rfl (ki (kt rfl rfl (b_neq64 _ (shr64 x_81 63) 0)) rfl (kf (ka ?_)))
   refine ko rfl (fun hb_100 => ?_) (fun hb_100 => ?_)
   ·have h := if_t h hb_100
    refine ke (kc (kb 1 rfl ?_))
    refine ki (kt rfl rfl (b_sub64 _ x_65 1)) rfl (kb 1 rfl ?_)
    refine kf (ka (ke (kc (kb 1 rfl ?_))))
    refine kf (ka (ke (ke (kc (kb 1 rfl ?_)))))
    refine kf (ka (kw ?_))
    refine kn [(10, v64 x_25), (11, v_27), (12, v_30), (13, vI (x_26.length : Int)), (15, v_38), (16, v64 x_40.toUInt64), (17, v64 x_41.toUInt64), (18, vI x_42), (20, v64 (x_65 - 1)), (22, v64 0), (27, vI 0)] ⟨rfl, rfl, rfl, rfl, rfl, rfl, rfl, rfl, rfl, rfl, rfl, trivial⟩ ?_
    refine kS (F.bignum_div_L3 x_26 x_42 x_65 x_44) (fun (s : UInt64 × Int × List UInt32) L w => L = [(10, v64 x_25), (11, v_27), (12, v_30), (13, vI (x_26.length : Int)), (15, v_38), (16, v64 x_40.toUInt64), (17, v64 x_41.toUInt64), (18, vI x_42), (20, v64 (x_65 - 1)), (22, v64 s.1), (27, vI s.2.1)] ∧ St [] w0 w [own e32 v_27 x_26, own e32 v_30 s.2.2, own e32 v_38 x_44]) ?_ (0, 0, x_83) ⟨rfl, hS⟩ h
    rintro k_99 ⟨x_84, x_85, x_86⟩ L w q_89 hI ih_88 h hk_87
    try dsimp only at hI
    obtain ⟨rfl, hS⟩ := hI
    unfold F.bignum_div_L3 at h
    refine ke (ke (kc (kb 3 rfl ?_)))
    refine kf (ka ?_)
    refine ko rfl (fun hb_98 => ?_) (fun hb_98 => ?_)
    ·have h := if_t h hb_98
     refine kr (ka (ke (kw ?_)))
     refine ke ?_
     refine kN (fun w' => St [] w0 w' [own e32 v_27 x_26, own e32 v_30 x_86, own e32 v_38 x_44]) (fun _ => true) hmix (fun _ _ _ hf => hf.2) (fun _ _ hf => hf) (by kernel_rfl) ?_
     have hS := hS.drew
     show lxE _ _ _ _ _ _ _ [0, 1, 2, 3, 4, 5, 6, 7, 8, 9, 10, 11, 12, 13, 14, 15] _ _
     refine kj hS rfl rfl (fun w hF => km rfl) rfl (kj hS rfl rfl (fun w hF => km rfl) rfl (kj hS rfl rfl (fun w hF => km rfl) rfl (kj hS rfl rfl (fun w hF => km rfl) rfl (kj hS rfl rfl (fun w hF => kt rfl rfl (b_iadd _ x_85 x_42)) rfl ?_))))
     obtain ⟨x_90, hx_90, h⟩ := kg h
     refine kj hS rfl rfl (fun w hF => G_ix Tryz.underlying24 ti52 rfl rfl (hF.ro 1 rfl) hx_90) rfl (kj hS rfl rfl (fun w hF => G_load Tryz.underlying52 rfl rfl (hF.ro 1 rfl) hx_90 rfl) rfl (kj hS rfl rfl (fun w hF => kF rfl (cv_32_64 Tryz.underlying52 Tryz.underlying94 x_90)) rfl (kj hS rfl rfl (fun w hF => km rfl) rfl (kj hS rfl rfl (fun w hF => km rfl) rfl ?_))))
     obtain ⟨x_91, hx_91, h⟩ := kg h
     refine kj hS rfl rfl (fun w hF => G_ix Tryz.underlying24 ti52 rfl rfl (hF.ro 0 rfl) hx_91) rfl (kj hS rfl rfl (fun w hF => G_load Tryz.underlying52 rfl rfl (hF.ro 0 rfl) hx_91 rfl) rfl (kj hS rfl rfl (fun w hF => kF rfl (cv_32_64 Tryz.underlying52 Tryz.underlying94 x_91)) rfl (kj hS rfl rfl (fun w hF => kt rfl rfl (b_add64 _ x_90.toUInt64 x_91.toUInt64)) rfl (kj hS rfl rfl (fun w hF => kt rfl rfl (b_add64 _ x_84 (x_90.toUInt64 + x_91.toUInt64))) rfl ?_))))
     obtain ⟨x_92, hx_92, h⟩ := kI h
     refine kj hS rfl rfl (fun w hF => kA (v := v64 x_92) (by rw [← hx_92]; rfl)) rfl ?_
     refine kY hS ?_
     refine ka (ke (kc (kb 5 rfl ?_)))
     refine ki (kF rfl (cv_64_32 Tryz.underlying94 Tryz.underlying52 x_92)) rfl ?_
     obtain ⟨x_93, hx_93, h⟩ := kg h
     refine ki (G_ix Tryz.underlying24 ti52 rfl rfl (hS.ro 1 rfl) hx_93) rfl (kX (G_storeE (t := x_92.toUInt32) ti52 rfl rfl hS (i := 1) rfl hx_93 rfl) ?_)
     intro w hS
     obtain ⟨x_94, hx_94, h⟩ := kI h
     rw [hx_94] at hS
     refine kf (ka (kc (kb 1 rfl ?_)))
     refine ki (kt rfl rfl (b_shr64_64 _ x_92 32)) rfl (kb 1 rfl ?_)
     refine kf (kK ?_)
     refine ka (kc (kb 3 rfl ?_))
     refine kf ?_
     exact QE_rnd (wpN_le _ (by exact ⟨rfl, rfl, rfl, rfl, rfl, rfl, rfl, rfl, rfl, rfl, rfl, trivial⟩) (ih_88 (shr64 x_92 32, wI (x_85 + 1), x_94) _ _ ⟨rfl, hS⟩ (kL h hk_87)))
    have h := if_f h hb_98
    refine kQ ?_
    refine kx (kx ?_)
    have h := kG h hk_87
    refine kR ?_
    refine ka (kc (kb 4 rfl ?_))
    obtain ⟨x_95, hx_95, h⟩ := kg h
    refine ki (G_ix Tryz.underlying24 ti52 rfl rfl (hS.ro 1 rfl) hx_95) rfl (ki (G_load Tryz.underlying52 rfl rfl (hS.ro 1 rfl) hx_95 rfl) rfl (kb 1 rfl ?_))
    refine ki (kF rfl (cv_64_32 Tryz.underlying94 Tryz.underlying52 x_84)) rfl (ki (kt rfl rfl (b_add32 _ x_95 x_84.toUInt32)) rfl ?_)
    obtain ⟨x_96, hx_96, h⟩ := kg h
    refine ki (G_ix Tryz.underlying24 ti52 rfl rfl (hS.ro 1 rfl) hx_96) rfl (kX (G_storeE (t := (x_95 + x_84.toUInt32)) ti52 rfl rfl hS (i := 1) rfl hx_96 rfl) ?_)
    intro w hS
    obtain ⟨x_97, hx_97, h⟩ := kI h
    rw [hx_97] at hS
    refine kf (ka ?_)
    exact kn _ (by exact ⟨rfl, rfl, rfl, rfl, rfl, rfl, rfl, rfl, rfl, trivial⟩) (hK_103 (x_65 - 1, x_97) _ _ ⟨rfl, hS⟩ h)
   have h := if_f h hb_100
   refine kr (ka ?_)
   exact kn _ (by exact ⟨rfl, rfl, rfl, rfl, rfl, rfl, rfl, rfl, rfl, trivial⟩) (hK_103 (x_65, x_83) _ _ ⟨rfl, hS⟩ h)
  rintro ⟨x_101, x_102⟩ L w hJ h
  try dsimp only at hJ
  obtain ⟨rfl, hS⟩ := hJ
  unfold F.bignum_div_K2 at h
  refine kc (kb 3 rfl ?_)
  refine ki (kF rfl (cv_64_32 Tryz.underlying94 Tryz.underlying52 x_101)) rfl ?_
  obtain ⟨x_104, hx_104, h⟩ := kg h
  refine ki (G_ix Tryz.underlying24 ti52 rfl rfl (hS.ro 2 rfl) hx_104) rfl (kX (G_storeE (t := x_101.toUInt32) ti52 rfl rfl hS (i := 2) rfl hx_104 rfl) ?_)
  intro w hS
  obtain ⟨x_105, hx_105, h⟩ := kI h
  rw [hx_105] at hS
  refine kf (kK ?_)
  refine ka (kc (kb 3 rfl ?_))
  refine kf ?_
  exact QE_rnd (wpN_le _ (by exact ⟨rfl, rfl, rfl, rfl, rfl, rfl, rfl, rfl, trivial⟩) (ih_46 (wI (x_42 - 1), x_102, x_105) _ _ ⟨rfl, hS⟩ (kL h hk_45)))
 have h := if_f h hb_117
 refine kQ ?_
 refine kx (kx ?_)
 have h := kG h hk_45
 refine kR ?_
 refine ka (ke (kc (kb 1 rfl ?_)))
 have hG := hS.pick (os' := [own e32 v_38 x_44] ++ [own e32 v_27 x_26, own e32 v_30 x_43]) [2, 0, 1] (by decide) rfl
 obtain ⟨x_108, hx_108, h⟩ := kg h
 refine kk (by kernel_rfl) rfl (c_bignum_trim _ x_44 v_38  _ hG.give  _ hx_108) rfl ?_
 rintro v_109 w ⟨v_109q, hqv_109, hS1⟩
 rw [← hqv_109] at hS1
 have hS := hG.back hS1
 refine kb 1 rfl ?_
 have hG := hS.pick (os' := [own e32 v_30 x_43] ++ [own e32 v_109 x_108, own e32 v_27 x_26]) [2, 0, 1] (by decide) rfl
 obtain ⟨x_111, hx_111, h⟩ := kg h
 refine kk (by kernel_rfl) rfl (c_bignum_trim _ x_43 v_30  _ hG.give  _ hx_111) rfl ?_
 rintro v_112 w ⟨v_112q, hqv_112, hS1⟩
 rw [← hqv_112] at hS1
 have hS := hG.back hS1
 refine kb 1 rfl ?_
 obtain ⟨x_114, hx_114, h⟩ := kg h
 refine kk (by kernel_rfl) rfl (c_bignum_right _ x_111 x_25 v_112  (hS.ro 0 rfl).rp _ hx_114) rfl ?_
 rintro v_115 w hS1
 have hS := hS.call hS1
 refine kb 2 rfl ?_
 refine kf (ka (kq ?_))
 cases h
 exact QE_ret2 rfl rfl rfl ⟨v_109, v_115, rfl, hS.pick [2, 0] (by decide) rfl⟩
theorem c_bignum_Int_QuoRem (w0 : World) (a0_0 : Bool) (a0_1 : List UInt32) (a1_0 : Bool) (a1_1 : List UInt32) (a2_0 : Bool) (a2_1 : List UInt32) (a3_0 : Bool) (a3_1 : List UInt32) (va0_1 : Value) (va1_1 : Value) (va2_1 : Value) (va3_1 : Value) (ba0 : Nat) (ba1 : Nat) (ba2 : Nat) (ba3 : Nat) (S : List Nat) (hS : St S w0 w0 [OE.bx ba0 [vB a0_0, va0_1], own e32 va0_1 a0_1, OE.bx ba3 [vB a3_0, va3_1], own e32 va3_1 a3_1]) (ha1_1 : RP S w0 e32 va1_1 a1_1) (hBa1 : RB S w0 ba1 [vB a1_0, va1_1]) (ha2_1 : RP S w0 e32 va2_1 a2_1) (hBa2 : RB S w0 ba2 [vB a2_0, va2_1]) (r : Bool × List UInt32 × Bool × List UInt32)
  (h : F.bignum_Int_QuoRem a0_0 a0_1 a1_0 a1_1 a2_0 a2_1 a3_0 a3_1 = some r) : Calls Tryz.prog 131 #[pB ba0 0, pB ba1 0, pB ba2 0, pB ba3 0] w0 (Ret fun v w => ∃ u0_1 u3_1 : Value, v = .tuple #[pB ba0 0, pB ba3 0] ∧ St S w0 w [OE.bx ba0 [vB r.1, u0_1], own e32 u0_1 r.2.1, OE.bx ba3 [vB r.2.2.1, u3_1], own e32 u3_1 r.2.2.2]) := by
 refine kz 46 Tryz.func131 rfl rfl rfl ?_
 refine kn [(0, pB ba0 0), (1, pB ba1 0), (2, pB ba2 0), (3, pB ba3 0)] ⟨rfl, rfl, rfl, rfl, trivial⟩ ?_
 unfold F.bignum_Int_QuoRem at h
 refine ke (kc (kb 2 rfl ?_))
 refine kf (ka (ke ?_))
 refine kN (fun w' => St S w0 w' [OE.bx ba0 [vB a0_0, va0_1], own e32 va0_1 a0_1, OE.bx ba3 [vB a3_0, va3_1], own e32 va3_1 a3_1]) (fun _ => true) hmix (fun _ _ _ hf => hf.2) (fun _ _ hf => hf) (by kernel_rfl) ?_
 have hS := hS.drew
 show lxE _ _ _ _ _ _ _ [0, 1, 2, 3, 4, 5, 6, 7, 8, 9] _ _
 refine kj hS rfl rfl (fun w hF => km rfl) rfl (kj hS rfl rfl (fun w hF => kJ rfl) rfl (kj hS rfl rfl (fun w hF => kl (k := 0) Tryz.underlying62 rfl rfl nz4 rfl) rfl (kj hS rfl rfl (fun w hF => ku Tryz.underlying4 rfl rfl (hBa1.cell hF.fr 0 rfl)) rfl (kj hS rfl rfl (fun w hF => km rfl) rfl (kj hS rfl rfl (fun w hF => kJ rfl) rfl (kj hS rfl rfl (fun w hF => kl (k := 0) Tryz.underlying62 rfl rfl nz4 rfl) rfl (kj hS rfl rfl (fun w hF => ku Tryz.underlying4 rfl rfl (hBa2.cell hF.fr 0 rfl)) rfl (kj hS rfl rfl (fun w hF => kA rfl) rfl ?_))))))))
 refine kj hS rfl rfl (fun w hF => kA rfl) rfl (kY hS ?_)
 refine ka (ke ?_)
 refine kN (fun w' => St S w0 w' [OE.bx ba0 [vB a0_0, va0_1], own e32 va0_1 a0_1, OE.bx ba3 [vB a3_0, va3_1], own e32 va3_1 a3_1]) (fun i => !([8].contains i)) hmix (fun _ _ _ hf => hf.2) (fun _ _ hf => hf) (by kernel_rfl) ?_
 have hS := hS.drew
 show lxE _ _ _ _ _ _ _ [0, 1, 2, 3, 4, 5, 6, 7, 8, 9, 10, 11, 12, 13] _ _
 refine kj hS rfl rfl (fun w hF => km rfl) rfl (kj hS rfl rfl (fun w hF => kJ rfl) rfl (kj hS rfl rfl (fun w hF => kl (k := 1) Tryz.underlying62 rfl rfl nz24 rfl) rfl (kj hS rfl rfl (fun w hF => ku Tryz.underlying24 rfl rfl (hBa1.cell hF.fr 1 rfl)) rfl (kj hS rfl rfl (fun w hF => km rfl) rfl (kj hS rfl rfl (fun w hF => kJ rfl) rfl (kj hS rfl rfl (fun w hF => kl (k := 1) Tryz.underlying62 rfl rfl nz24 rfl) rfl (kj hS rfl rfl (fun w hF => ku Tryz.underlying24 rfl rfl (hBa2.cell hF.fr 1 rfl)) rfl ?_)))))))
 obtain ⟨x_5, hx_5, h⟩ := kg h
 refine kP hS rfl rfl (by kernel_rfl) rfl (c_bignum_div _ a1_1 a2_1 va1_1 va2_1  (ha1_1.now hS.fr).rp (ha2_1.now hS.fr).rp _ hx_5) rfl ?_
 rintro _ w ⟨v_6, v_8, rfl, hS1⟩
 have hS := hS.call hS1
 refine kj (hS.pick [2, 3, 4, 5] (by decide) rfl) rfl rfl (fun w hF => km rfl) rfl ?_
 refine kj (hS.pick [2, 3, 4, 5] (by decide) rfl) rfl rfl (fun w hF => kV rfl rfl) rfl ?_
 refine kj (hS.pick [2, 3, 4, 5] (by decide) rfl) rfl rfl (fun w hF => kV rfl rfl) rfl ?_
 refine kj (hS.pick [2, 3, 4, 5] (by decide) rfl) rfl rfl (fun w hF => kA rfl) rfl ?_
 refine kj (hS.pick [2, 3, 4, 5] (by decide) rfl) rfl rfl (fun w hF => kA rfl) rfl ?_
 refine kY (hS.pick [2, 3, 4, 5] (by decide) rfl) ?_
 refine ka (ke (kc (kb 3 rfl ?_)))
 refine ki (kt rfl rfl (b_bneq _ a1_0 a2_0 Tryz.underlying4 rfl)) rfl (kb 1 rfl ?_)
 have hG := hS.pick (os' := [OE.bx ba0 [vB a0_0, va0_1], own e32 va0_1 a0_1, own e32 v_6 x_5.1] ++ [own e32 v_8 x_5.2, OE.bx ba3 [vB a3_0, va3_1], own e32 va3_1 a3_1]) [2, 3, 0, 1, 4, 5] (by decide) rfl
 obtain ⟨x_10, hx_10, h⟩ := kg h
 refine kk (by kernel_rfl) rfl (c_bignum_Int_give _ a0_0 a0_1 (a1_0 != a2_0) x_5.1 va0_1 v_6 ba0 _ hG.give  _ hx_10) rfl ?_
 rintro _ w ⟨v_11, rfl, hS1⟩
 have hS := hG.back hS1
 refine kf (ka (ke (kc (kb 3 rfl ?_))))
 have hG := hS.pick (os' := [OE.bx ba3 [vB a3_0, va3_1], own e32 va3_1 a3_1, own e32 v_8 x_5.2] ++ [OE.bx ba0 [vB x_10.1, v_11], own e32 v_11 x_10.2]) [3, 4, 2, 0, 1] (by decide) rfl
 obtain ⟨x_13, hx_13, h⟩ := kg h
 refine kk (by kernel_rfl) rfl (c_bignum_Int_give _ a3_0 a3_1 a1_0 x_5.2 va3_1 v_8 ba3 _ hG.give  _ hx_13) rfl ?_
 rintro _ w ⟨v_14, rfl, hS1⟩
 have hS := hG.back hS1
 refine kf (ka (ke (kc (kb 4 rfl ?_))))
 refine kf (ka (kq ?_))
 cases h
 exact QE_ret2 rfl rfl rfl ⟨v_11, v_14, rfl, hS.pick [2, 3, 0, 1] (by decide) rfl⟩
theorem c_bignum_Int_QuoRem_a13 (w0 : World) (a0_0 : Bool) (a0_1 : List UInt32) (a2_0 : Bool) (a2_1 : List UInt32) (a3_0 : Bool) (a3_1 : List UInt32) (va0_1 : Value) (va2_1 : Value) (va3_1 : Value) (ba0 : Nat) (ba2 : Nat) (ba3 : Nat) (S : List Nat) (hS : St S w0 w0 [OE.bx ba0 [vB a0_0, va0_1], own e32 va0_1 a0_1, OE.bx ba3 [vB a3_0, va3_1], own e32 va3_1 a3_1]) (ha2_1 : RP S w0 e32 va2_1 a2_1) (hBa2 : RB S w0 ba2 [vB a2_0, va2_1]) (r : Bool × List UInt32 × Bool × List UInt32)
  (h : F.bignum_Int_QuoRem_a13 a0_0 a0_1 a2_0 a2_1 a3_0 a3_1 = some r) : Calls Tryz.prog 131 #[pB ba0 0, pB ba3 0, pB ba2 0, pB ba3 0] w0 (Ret fun v w => ∃ u0_1 u3_1 : Value, v = .tuple #[pB ba0 0, pB ba3 0] ∧ St S w0 w [OE.bx ba0 [vB r.1, u0_1], own e32 u0_1 r.2.1, OE.bx ba3 [vB r.2.2.1, u3_1], own e32 u3_1 r.2.2.2]) := by
 refine kz 46 Tryz.func131 rfl rfl rfl ?_
 refine kn [(0, pB ba0 0), (1, pB ba3 0), (2, pB ba2 0), (3, pB ba3 0)] ⟨rfl, rfl, rfl, rfl, trivial⟩ ?_
 unfold F.bignum_Int_QuoRem_a13 at h
 refine ke (kc (kb 2 rfl ?_))
 refine kf (ka (ke ?_))
 refine kN (fun w' => St S w0 w' [OE.bx ba0 [vB a0_0, va0_1], own e32 va0_1 a0_1, OE.bx ba3 [vB a3_0, va3_1], own e32 va3_1 a3_1]) (fun _ => true) hmix (fun _ _ _ hf => hf.2) (fun _ _ hf => hf) (by kernel_rfl) ?_
 have hS := hS.drew
 show lxE _ _ _ _ _ _ _ [0, 1, 2, 3, 4, 5, 6, 7, 8, 9] _ _
 refine kj hS rfl rfl (fun w hF => km rfl) rfl (kj hS rfl rfl (fun w hF => kJ rfl) rfl (kj hS rfl rfl (fun w hF => kl (k := 0) Tryz.underlying62 rfl rfl nz4 rfl) rfl (kj hS rfl rfl (fun w hF => ku Tryz.underlying4 rfl rfl (hF.bxc 2 rfl 0)) rfl (kj hS rfl rfl (fun w hF => km rfl) rfl (kj hS rfl rfl (fun w hF => kJ rfl) rfl (kj hS rfl rfl (fun w hF => kl (k := 0) Tryz.underlying62 rfl rfl nz4 rfl) rfl (kj hS rfl rfl (fun w hF => ku Tryz.underlying4 rfl rfl (hBa2.cell hF.fr 0 rfl)) rfl (kj hS rfl rfl (fun w hF => kA rfl) rfl ?_))))))))
 refine kj hS rfl rfl (fun w hF => kA rfl) rfl (kY hS ?_)
 refine ka (ke ?_)
 refine kN (fun w' => St S w0 w' [OE.bx ba0 [vB a0_0, va0_1], own e32 va0_1 a0_1, OE.bx ba3 [vB a3_0, va3_1], own e32 va3_1 a3_1]) (fun i => !([8].contains i)) hmix (fun _ _ _ hf => hf.2) (fun _ _ hf => hf) (by kernel_rfl) ?_
 have hS := hS.drew
 show lxE _ _ _ _ _ _ _ [0, 1, 2, 3, 4, 5, 6, 7, 8, 9, 10, 11, 12, 13] _ _
 refine kj hS rfl rfl (fun w hF => km rfl) rfl (kj hS rfl rfl (fun w hF => kJ rfl) rfl (kj hS rfl rfl (fun w hF => kl (k := 1) Tryz.underlying62 rfl rfl nz24 rfl) rfl (kj hS rfl rfl (fun w hF => ku Tryz.underlying24 rfl rfl (hF.bxc 2 rfl 1)) rfl (kj hS rfl rfl (fun w hF => km rfl) rfl (kj hS rfl rfl (fun w hF => kJ rfl) rfl (kj hS rfl rfl (fun w hF => kl (k := 1) Tryz.underlying62 rfl rfl nz24 rfl) rfl (kj hS rfl rfl (fun w hF => ku Tryz.underlying24 rfl rfl (hBa2.cell hF.fr 1 rfl)) rfl ?_)))))))
 obtain ⟨x_5, hx_5, h⟩ := kg h
 refine kP hS rfl rfl (by kernel_rfl) rfl (c_bignum_div _ a3_1 a2_1 va3_1 va2_1  (hS.ro 3 rfl).rp (ha2_1.now hS.fr).rp _ hx_5) rfl ?_
 rintro _ w ⟨v_6, v_8, rfl, hS1⟩
 have hS := hS.call hS1
 refine kj (hS.pick [2, 3, 4, 5] (by decide) rfl) rfl rfl (fun w hF => km rfl) rfl ?_
 refine kj (hS.pick [2, 3, 4, 5] (by decide) rfl) rfl rfl (fun w hF => kV rfl rfl) rfl ?_
 refine kj (hS.pick [2, 3, 4, 5] (by decide) rfl) rfl rfl (fun w hF => kV rfl rfl) rfl ?_
 refine kj (hS.pick [2, 3, 4, 5] (by decide) rfl) rfl rfl (fun w hF => kA rfl) rfl ?_
 refine kj (hS.pick [2, 3, 4, 5] (by decide) rfl) rfl rfl (fun w hF => kA rfl) rfl ?_
 refine kY (hS.pick [2, 3, 4, 5] (by decide) rfl) ?_
 refine ka (ke (kc (kb 3 rfl ?_)))
 refine ki (kt rfl rfl (b_bneq _ a3_0 a2_0 Tryz.underlying4 rfl)) rfl (kb 1 rfl ?_)
 have hG := hS.pick (os' := [OE.bx ba0 [vB a0_0, va0_1], own e32 va0_1 a0_1, own e32 v_6 x_5.1] ++ [own e32 v_8 x_5.2, OE.bx ba3 [vB a3_0, va3_1], own e32 va3_1 a3_1]) [2, 3, 0, 1, 4, 5] (by decide) rfl
 obtain ⟨x_10, hx_10, h⟩ := kg h
 refine kk (by kernel_rfl) rfl (c_bignum_Int_give _ a0_0 a0_1 (a3_0 != a2_0) x_5.1 va0_1 v_6 ba0 _ hG.give  _ hx_10) rfl ?_
 rintro _ w ⟨v_11, rfl, hS1⟩
 have hS := hG.back hS1
 refine kf (ka (ke (kc (kb 3 rfl ?_))))
 have hG := hS.pick (os' := [OE.bx ba3 [vB a3_0, va3_1], own e32 va3_1 a3_1, own e32 v_8 x_5.2] ++ [OE.bx ba0 [vB x_10.1, v_11], own e32 v_11 x_10.2]) [3, 4, 2, 0, 1] (by decide) rfl
 obtain ⟨x_13, hx_13, h⟩ := kg h
 refine kk (by kernel_rfl) rfl (c_bignum_Int_give _ a3_0 a3_1 a3_0 x_5.2 va3_1 v_8 ba3 _ hG.give  _ hx_13) rfl ?_
 rintro _ w ⟨v_14, rfl, hS1⟩
 have hS := hG.back hS1
 refine kf (ka (ke (kc (kb 4 rfl ?_))))
 refine kf (ka (kq ?_))
 cases h
 exact QE_ret2 rfl rfl rfl ⟨v_11, v_14, rfl, hS.pick [2, 3, 0, 1] (by decide) rfl⟩
theorem c_bignum_Int_QuoRem_a10 (w0 : World) (a0_0 : Bool) (a0_1 : List UInt32) (a2_0 : Bool) (a2_1 : List UInt32) (a3_0 : Bool) (a3_1 : List UInt32) (va0_1 : Value) (va2_1 : Value) (va3_1 : Value) (ba0 : Nat) (ba2 : Nat) (ba3 : Nat) (S : List Nat) (hS : St S w0 w0 [OE.bx ba0 [vB a0_0, va0_1], own e32 va0_1 a0_1, OE.bx ba3 [vB a3_0, va3_1], own e32 va3_1 a3_1]) (ha2_1 : RP S w0 e32 va2_1 a2_1) (hBa2 : RB S w0 ba2 [vB a2_0, va2_1]) (r : Bool × List UInt32 × Bool × List UInt32)
  (h : F.bignum_Int_QuoRem_a10 a0_0 a0_1 a2_0 a2_1 a3_0 a3_1 = some r) : Calls Tryz.prog 131 #[pB ba0 0, pB ba0 0, pB ba2 0, pB ba3 0] w0 (Ret fun v w => ∃ u0_1 u3_1 : Value, v = .tuple #[pB ba0 0, pB ba3 0] ∧ St S w0 w [OE.bx ba0 [vB r.1, u0_1], own e32 u0_1 r.2.1, OE.bx ba3 [vB r.2.2.1, u3_1], own e32 u3_1 r.2.2.2]) := by
 refine kz 46 Tryz.func131 rfl rfl rfl ?_
 refine kn [(0, pB ba0 0), (1, pB ba0 0), (2, pB ba2 0), (3, pB ba3 0)] ⟨rfl, rfl, rfl, rfl, trivial⟩ ?_
 unfold F.bignum_Int_QuoRem_a10 at h
 refine ke (kc (kb 2 rfl ?_))
 refine kf (ka (ke ?_))
 refine kN (fun w' => St S w0 w' [OE.bx ba0 [vB a0_0, va0_1], own e32 va0_1 a0_1, OE.bx ba3 [vB a3_0, va3_1], own e32 va3_1 a3_1]) (fun _ => true) hmix (fun _ _ _ hf => hf.2) (fun _ _ hf => hf) (by kernel_rfl) ?_
 have hS := hS.drew
 show lxE _ _ _ _ _ _ _ [0, 1, 2, 3, 4, 5, 6, 7, 8, 9] _ _
 refine kj hS rfl rfl (fun w hF => km rfl) rfl (kj hS rfl rfl (fun w hF => kJ rfl) rfl (kj hS rfl rfl (fun w hF => kl (k := 0) Tryz.underlying62 rfl rfl nz4 rfl) rfl (kj hS rfl rfl (fun w hF => ku Tryz.underlying4 rfl rfl (hF.bxc 0 rfl 0)) rfl (kj hS rfl rfl (fun w hF => km rfl) rfl (kj hS rfl rfl (fun w hF => kJ rfl) rfl (kj hS rfl rfl (fun w hF => kl (k := 0) Tryz.underlying62 rfl rfl nz4 rfl) rfl (kj hS rfl rfl (fun w hF => ku Tryz.underlying4 rfl rfl (hBa2.cell hF.fr 0 rfl)) rfl (kj hS rfl rfl (fun w hF => kA rfl) rfl ?_))))))))
 refine kj hS rfl rfl (fun w hF => kA rfl) rfl (kY hS ?_)
 refine ka (ke ?_)
 refine kN (fun w' => St S w0 w' [OE.bx ba0 [vB a0_0, va0_1], own e32 va0_1 a0_1, OE.bx ba3 [vB a3_0, va3_1], own e32 va3_1 a3_1]) (fun i => !([8].contains i)) hmix (fun _ _ _ hf => hf.2) (fun _ _ hf => hf) (by kernel_rfl) ?_
 have hS := hS.drew
 show lxE _ _ _ _ _ _ _ [0, 1, 2, 3, 4, 5, 6, 7, 8, 9, 10, 11, 12, 13] _ _
 refine kj hS rfl rfl (fun w hF => km rfl) rfl (kj hS rfl rfl (fun w hF => kJ rfl) rfl (kj hS rfl rfl (fun w hF => kl (k := 1) Tryz.underlying62 rfl rfl nz24 rfl) rfl (kj hS rfl rfl (fun w hF => ku Tryz.underlying24 rfl rfl (hF.bxc 0 rfl 1)) rfl (kj hS rfl rfl (fun w hF => km rfl) rfl (kj hS rfl rfl (fun w hF => kJ rfl) rfl (kj hS rfl rfl (fun w hF => kl (k := 1) Tryz.underlying62 rfl rfl nz24 rfl) rfl (kj hS rfl rfl (fun w hF => ku Tryz.underlying24 rfl rfl (hBa2.cell hF.fr 1 rfl)) rfl ?_)))))))
 obtain ⟨x_5, hx_5, h⟩ := kg h
 refine kP hS rfl rfl (by kernel_rfl) rfl (c_bignum_div _ a0_1 a2_1 va0_1 va2_1  (hS.ro 1 rfl).rp (ha2_1.now hS.fr).rp _ hx_5) rfl ?_
 rintro _ w ⟨v_6, v_8, rfl, hS1⟩
 have hS := hS.call hS1
 refine kj (hS.pick [2, 3, 4, 5] (by decide) rfl) rfl rfl (fun w hF => km rfl) rfl ?_
 refine kj (hS.pick [2, 3, 4, 5] (by decide) rfl) rfl rfl (fun w hF => kV rfl rfl) rfl ?_
 refine kj (hS.pick [2, 3, 4, 5] (by decide) rfl) rfl rfl (fun w hF => kV rfl rfl) rfl ?_
 refine kj (hS.pick [2, 3, 4, 5] (by decide) rfl) rfl rfl (fun w hF => kA rfl) rfl ?_
 refine kj (hS.pick [2, 3, 4, 5] (by decide) rfl) rfl rfl (fun w hF => kA rfl) rfl ?_
 refine kY (hS.pick [2, 3, 4, 5] (by decide) rfl) ?_
 refine ka (ke (kc (kb 3 rfl ?_)))
 refine ki (kt rfl rfl (b_bneq _ a0_0 a2_0 Tryz.underlying4 rfl)) rfl (kb 1 rfl ?_)
 have hG := hS.pick (os' := [OE.bx ba0 [vB a0_0, va0_1], own e32 va0_1 a0_1, own e32 v_6 x_5.1] ++ [own e32 v_8 x_5.2, OE.bx ba3 [vB a3_0, va3_1], own e32 va3_1 a3_1]) [2, 3, 0, 1, 4, 5] (by decide) rfl
 obtain ⟨x_10, hx_10, h⟩ := kg h
 refine kk (by kernel_rfl) rfl (c_bignum_Int_give _ a0_0 a0_1 (a0_0 != a2_0) x_5.1 va0_1 v_6 ba0 _ hG.give  _ hx_10) rfl ?_
 rintro _ w ⟨v_11, rfl, hS1⟩
 have hS := hG.back hS1
 refine kf (ka (ke (kc (kb 3 rfl ?_))))
 have hG := hS.pick (os' := [OE.bx ba3 [vB a3_0, va3_1], own e32 va3_1 a3_1, own e32 v_8 x_5.2] ++ [OE.bx ba0 [vB x_10.1, v_11], own e32 v_11 x_10.2]) [3, 4, 2, 0, 1] (by decide) rfl
 obtain ⟨x_13, hx_13, h⟩ := kg h
 refine kk (by kernel_rfl) rfl (c_bignum_Int_give _ a3_0 a3_1 a0_0 x_5.2 va3_1 v_8 ba3 _ hG.give  _ hx_13) rfl ?_
 rintro _ w ⟨v_14, rfl, hS1⟩
 have hS := hG.back hS1
 refine kf (ka (ke (kc (kb 4 rfl ?_))))
 refine kf (ka (kq ?_))
 cases h
 exact QE_ret2 rfl rfl rfl ⟨v_11, v_14, rfl, hS.pick [2, 3, 0, 1] (by decide) rfl⟩
theorem c_bignum_Int_SetInt64 (w0 : World) (a0_0 : Bool) (a0_1 : List UInt32) (a1 : Int) (va0_1 : Value) (ba0 : Nat) (S : List Nat) (hS : St S w0 w0 [OE.bx ba0 [vB a0_0, va0_1], own e32 va0_1 a0_1]) (r : Bool × List UInt32)
  (h : F.bignum_Int_SetInt64 a0_0 a0_1 a1 = some r) : Calls Tryz.prog 127 #[pB ba0 0, vI a1] w0 (Ret fun v w => ∃ u0_1 : Value, v = pB ba0 0 ∧ St S w0 w [OE.bx ba0 [vB r.1, u0_1], own e32 u0_1 r.2]) := by
 refine kz 18 Tryz.func127 rfl rfl rfl ?_
 refine kn [(0, pB ba0 0), (1, vI a1)] ⟨rfl, rfl, trivial⟩ ?_
 unfold F.bignum_Int_SetInt64 at h
 refine ke (kc (kb 1 rfl ?_))
 refine kf (ka (ke (kc (kb 1 rfl ?_))))
 refine ki (kF rfl (cv_i_64 Tryz.underlying2 Tryz.underlying94 a1)) rfl (kb 1 rfl ?_)
 refine kf (ka ?_)
 refine kO (r := r) (fun (g : UInt64) L w => L = [(0, pB ba0 0), (1, vI a1), (5, v64 g)] ∧ St S w0 w [OE.bx ba0 [vB a0_0, va0_1], own e32 va0_1 a0_1]) (F.bignum_Int_SetInt64_K1 a0_0 a0_1 a1) ?_ ?_
 rotate_left
 ·intro hK_5
  refine ke (kc (kb 2 rfl ?_))
  refine kf (ka ?_)
  refine ko rfl (fun hb_3 => ?_) (fun hb_3 => ?_)
  ·have h := if_t h hb_3
   refine kc (kb 1 rfl ?_)
   refine ki (kc1 rfl (u_neg64 (UInt64.ofInt a1))) rfl (kb 1 rfl ?_)
   refine kf (ka ?_)
   exact kn _ (by exact ⟨rfl, rfl, rfl, trivial⟩) (hK_5 (0 - (UInt64.ofInt a1)) _ _ ⟨rfl, hS⟩ h)
  have h := if_f h hb_3
  refine kr (ka ?_)
  exact kn _ (by exact ⟨rfl, rfl, rfl, trivial⟩) (hK_5 (UInt64.ofInt a1) _ _ ⟨rfl, hS⟩ h)
 rintro x_4 L w hJ h
 try dsimp only at hJ
 obtain ⟨rfl, hS⟩ := hJ
 unfold F.bignum_Int_SetInt64_K1 at h
 refine ke (kc (kb 4 rfl ?_))
 obtain ⟨x_6, hx_6, h⟩ := kg h
 refine kk (by kernel_rfl) rfl (c_bignum_words _ x_4    _ hx_6) rfl ?_
 rintro v_7 w hS1
 have hS := hS.call hS1
 have hG := hS.pick (os' := [OE.bx ba0 [vB a0_0, va0_1], own e32 va0_1 a0_1, own e32 v_7 x_6] ++ []) [1, 2, 0] (by decide) rfl
 obtain ⟨x_9, hx_9, h⟩ := kg h
 refine kk (by kernel_rfl) rfl (c_bignum_Int_give _ a0_0 a0_1 (decide (a1 < 0)) x_6 va0_1 v_7 ba0 _ hG.give  _ hx_9) rfl ?_
 rintro _ w ⟨v_10, rfl, hS1⟩
 have hS := hG.back hS1
 refine kb 1 rfl ?_
 refine kf (ka (kq ?_))
 cases h
 exact ky rfl rfl ⟨v_10, rfl, hS.pick [0, 1] (by decide) rfl⟩
theorem c_bignum_NewInt (w0 : World) (a0 : Int)   (r : Bool × List UInt32)
  (h : F.bignum_NewInt a0 = some r) : Calls Tryz.prog 103 #[vI a0] w0 (Ret fun v w => ∃ u0_1 : Value, ∃ un0 : Nat, v = pB un0 0 ∧ St [] w0 w [OE.bx un0 [vB r.1, u0_1], own e32 u0_1 r.2]) := by
 refine kz 6 Tryz.func103 rfl rfl rfl ?_
 have hS := St.start w0
 refine kn [(0, vI a0)] ⟨rfl, trivial⟩ ?_
 unfold F.bignum_NewInt at h
 refine ke (kc (kb 1 rfl ?_))
 refine kf (ka (ke (kc (kW (kE (cs := [vB false, .slice none 0 0]) tz62 rfl hS) rfl ?_))))
 rintro _ w ⟨b_1, rfl, hS⟩
 refine kb 1 rfl ?_
 replace hS := hS.nil e32
 have hG := hS.pick (os' := [OE.bx b_1 [vB false, .slice none 0 0], own e32 (.slice none 0 0) []] ++ []) [1, 0] (by decide) rfl
 obtain ⟨x_4, hx_4, h⟩ := kg h
 refine kk (by kernel_rfl) rfl (c_bignum_Int_SetInt64 _ false [] a0 (.slice none 0 0) b_1 _ hG.give  _ hx_4) rfl ?_
 rintro _ w ⟨v_5, rfl, hS1⟩
 have hS := hG.back hS1
 refine kb 1 rfl ?_
 refine kf (ka (kq ?_))
 cases h
 exact ky rfl rfl ⟨v_5, b_1, rfl, hS.pick [0, 1] (by decide) rfl⟩
theorem c_bignum_sub (w0 : World) (a0 : List UInt32) (a1 : List UInt32) (va0 : Value) (va1 : Value) (ha0 : RP [] w0 e32 va0 a0) (ha1 : RP [] w0 e32 va1 a1) (r : List UInt32)
  (h : F.bignum_sub a0 a1 = some r) : Calls Tryz.prog 128 #[va0, va1] w0 (Ret fun v w => St [] w0 w [own e32 v r]) := by
 refine kz 45 Tryz.func128 rfl rfl rfl ?_
 have hS := St.start w0
 refine kn [(0, va0), (1, va1)] ⟨rfl, rfl, trivial⟩ ?_
 unfold F.bignum_sub at h
 refine ke (kc (kb 1 rfl ?_))
 refine kf (ka (ke (kc (kb 1 rfl ?_))))
 refine ki (kB Tryz.underlying24 rfl (ha0.now hS.fr)) rfl ?_
 obtain ⟨x_1, hx_1, h⟩ := kg h
 refine kW (G_make (e := e32) Tryz.underlying24 ti52 rfl rfl rfl hS hx_1) rfl ?_
 rintro v_2 w hS
 refine kb 1 rfl ?_
 refine kf (ka (ke (kc (kb 1 rfl ?_))))
 refine kf (ka (ke (ke (kc (kb 1 rfl ?_)))))
 refine kf (ka (kw ?_))
 refine kn [(0, va0), (1, va1), (5, v_2), (6, v64 0), (7, vI 0)] ⟨rfl, rfl, rfl, rfl, rfl, trivial⟩ ?_
 refine kS (F.bignum_sub_L1 a0 a1) (fun (s : UInt64 × Int × List UInt32) L w => L = [(0, va0), (1, va1), (5, v_2), (6, v64 s.1), (7, vI s.2.1)] ∧ St [] w0 w [own e32 v_2 s.2.2]) ?_ (0, 0, x_1) ⟨rfl, hS⟩ h
 rintro k_22 ⟨x_4, x_5, x_6⟩ L w q_9 hI ih_8 h hk_7
 try dsimp only at hI
 obtain ⟨rfl, hS⟩ := hI
 unfold F.bignum_sub_L1 at h
 refine ke (ke (kc (kb 2 rfl ?_)))
 refine ki (kB Tryz.underlying24 rfl (ha0.now hS.fr)) rfl (kb 1 rfl ?_)
 refine kf (ka ?_)
 refine ko rfl (fun hb_21 => ?_) (fun hb_21 => ?_)
 ·have h := if_t h hb_21
  refine kr (ka (ke (kw ?_)))
  refine ke (kc (kb 2 rfl ?_))
  obtain ⟨x_10, hx_10, h⟩ := kg h
  refine ki (G_ix Tryz.underlying24 ti52 rfl rfl (ha0.now hS.fr) hx_10) rfl (ki (G_load Tryz.underlying52 rfl rfl (ha0.now hS.fr) hx_10 rfl) rfl (ki (kF rfl (cv_32_64 Tryz.underlying52 Tryz.underlying94 x_10)) rfl (kb 1 rfl ?_)))
  refine ki (kt rfl rfl (b_sub64 _ x_10.toUInt64 x_4)) rfl (kb 1 rfl ?_)
  refine kf (ka ?_)
  refine kO (r := q_9) (fun (g : UInt64) L w => L = [(0, va0), (1, va1), (5, v_2), (7, vI x_5), (8, v64 g)] ∧ St [] w0 w [own e32 v_2 x_6]) (F.bignum_sub_K1 x_5 x_6) ?_ ?_
  rotate_left
  ·intro hK_15
   refine ke (kc (kb 2 rfl ?_))
   refine ki (kB Tryz.underlying24 rfl (ha1.now hS.fr)) rfl (kb 1 rfl ?_)
   refine kf (ka ?_)
   refine ko rfl (fun hb_13 => ?_) (fun hb_13 => ?_)
   ·have h := if_t h hb_13
    refine kc (kb 3 rfl ?_)
    obtain ⟨x_11, hx_11, h⟩ := kg h
    refine ki (G_ix Tryz.underlying24 ti52 rfl rfl (ha1.now hS.fr) hx_11) rfl (ki (G_load Tryz.underlying52 rfl rfl (ha1.now hS.fr) hx_11 rfl) rfl (ki (kF rfl (cv_32_64 Tryz.underlying52 Tryz.underlying94 x_11)) rfl (ki (kt rfl rfl (b_sub64 _ (x_10.toUInt64 - x_4) x_11.toUInt64)) rfl ?_)))
    obtain ⟨x_12, hx_12, h⟩ := kI h
    refine ki (kA (v := v64 x_12) (by rw [← hx_12]; rfl)) rfl ?_
    refine kf (ka ?_)
    exact kn _ (by exact ⟨rfl, rfl, rfl, rfl, rfl, trivial⟩) (hK_15 x_12 _ _ ⟨rfl, hS⟩ h)
   have h := if_f h hb_13
   refine kr (ka ?_)
   exact kn _ (by exact ⟨rfl, rfl, rfl, rfl, rfl, trivial⟩) (hK_15 (x_10.toUInt64 - x_4) _ _ ⟨rfl, hS⟩ h)
  rintro x_14 L w hJ h
  try dsimp only at hJ
  obtain ⟨rfl, hS⟩ := hJ
  unfold F.bignum_sub_K1 at h
  refine ke (kc (kb 3 rfl ?_))
  refine ki (kF rfl (cv_64_32 Tryz.underlying94 Tryz.underlying52 x_14)) rfl ?_
  obtain ⟨x_16, hx_16, h⟩ := kg h
  refine ki (G_ix Tryz.underlying24 ti52 rfl rfl (hS.ro 0 rfl) hx_16) rfl (kX (G_storeE (t := x_14.toUInt32) ti52 rfl rfl hS (i := 0) rfl hx_16 rfl) ?_)
  intro w hS
  obtain ⟨x_17, hx_17, h⟩ := kI h
  rw [hx_17] at hS
  refine kf (ka (kc (kb 1 rfl ?_)))
  refine ki (kt rfl rfl (b_shr64_64 _ x_14 63)) rfl (kb 1 rfl ?_)
  refine kf (kK ?_)
  refine ka (kc (kb 3 rfl ?_))
  refine kf ?_
  exact QE_rnd (wpN_le _ (by exact ⟨rfl, rfl, rfl, rfl, rfl, trivial⟩) (ih_8 (shr64 x_14 63, wI (x_5 + 1), x_17) _ _ ⟨rfl, hS⟩ (kL h hk_7)))
 have h := if_f h hb_21
 refine kQ ?_
 refine kx (kx ?_)
 have h := kG h hk_7
 refine kR ?_
 refine ka (ke (kc (kb 1 rfl ?_)))
 have hG := hS.pick (os' := [own e32 v_2 x_6] ++ []) [0] (by decide) rfl
 obtain ⟨x_18, hx_18, h⟩ := kg h
 refine kk (by kernel_rfl) rfl (c_bignum_trim _ x_6 v_2  _ hG.give  _ hx_18) rfl ?_
 rintro v_19 w ⟨v_19q, hqv_19, hS1⟩
 rw [← hqv_19] at hS1
 have hS := hG.back hS1
 refine kb 1 rfl ?_
 refine kf (ka (kq ?_))
 cases h
 exact ky rfl rfl (hS.pick [0] (by decide) rfl)
theorem c_bignum_sum (w0 : World) (a0 : Bool) (a1 : List UInt32) (a2 : Bool) (a3 : List UInt32) (va1 : Value) (va3 : Value) (ha1 : RP [] w0 e32 va1 a1) (ha3 : RP [] w0 e32 va3 a3) (r : Bool × List UInt32)
  (h : F.bignum_sum a0 a1 a2 a3 = some r) : Calls Tryz.prog 104 #[vB a0, va1, vB a2, va3] w0 (Ret fun v w => ∃ u1 : Value, v = .tuple #[vB r.1, u1] ∧ St [] w0 w [own e32 u1 r.2]) := by
 refine kz 29 Tryz.func104 rfl rfl rfl ?_
 have hS := St.start w0
 refine kn [(0, vB a0), (1, va1), (2, vB a2), (3, va3)] ⟨rfl, rfl, rfl, rfl, trivial⟩ ?_
 unfold F.bignum_sum at h
 refine ke (kc (kb 2 rfl ?_))
 refine kf (ka (ke (ke (kc (kb 2 rfl ?_)))))
 refine ki (kt rfl rfl (b_beql _ a0 a2 Tryz.underlying4 rfl)) rfl (kf (ka ?_))
 refine ko rfl (fun hb_12 => ?_) (fun hb_12 => ?_)
 ·have h := if_t h hb_12
  refine ke (kc (kb 3 rfl ?_))
  obtain ⟨x_1, hx_1, h⟩ := kg h
  refine kk (by kernel_rfl) rfl (c_bignum_add _ a1 a3 va1 va3  (ha1.now hS.fr).rp (ha3.now hS.fr).rp _ hx_1) rfl ?_
  rintro v_2 w hS1
  have hS := hS.call hS1
  refine kb 2 rfl ?_
  refine kf (ka (kq (kv ?_)))
  cases h
  exact QE_ret2 rfl rfl rfl ⟨v_2, rfl, hS.pick [0] (by decide) rfl⟩
 have h := if_f h hb_12
 refine kr (ka (ke (ke (kc (kb 2 rfl ?_)))))
 obtain ⟨x_4, hx_4, h⟩ := kg h
 refine kk (by kernel_rfl) rfl (c_bignum_cmp _ a1 a3 va1 va3  (ha1.now hS.fr).rp (ha3.now hS.fr).rp _ hx_4) rfl ?_
 rintro _ w ⟨rfl, hS1⟩
 have hS := hS.call hS1
 refine kb 1 rfl ?_
 refine kf (ka ?_)
 refine ko rfl (fun hb_11 => ?_) (fun hb_11 => ?_)
 ·have h := if_t h hb_11
  refine ke (kc (kb 3 rfl ?_))
  obtain ⟨x_5, hx_5, h⟩ := kg h
  refine kk (by kernel_rfl) rfl (c_bignum_sub _ a1 a3 va1 va3  (ha1.now hS.fr).rp (ha3.now hS.fr).rp _ hx_5) rfl ?_
  rintro v_6 w hS1
  have hS := hS.call hS1
  refine kb 2 rfl ?_
  refine kf (ka (kq (kv ?_)))
  cases h
  exact QE_ret2 rfl rfl rfl ⟨v_6, rfl, hS.pick [0] (by decide) rfl⟩
 have h := if_f h hb_11
 refine kr (ka (ke (kc (kb 3 rfl ?_))))
 obtain ⟨x_8, hx_8, h⟩ := kg h
 refine kk (by kernel_rfl) rfl (c_bignum_sub _ a3 a1 va3 va1  (ha3.now hS.fr).rp (ha1.now hS.fr).rp _ hx_8) rfl ?_
 rintro v_9 w hS1
 have hS := hS.call hS1
 refine kb 2 rfl ?_
 refine kf (ka (kq ?_))
 cases h
 exact QE_ret2 rfl rfl rfl ⟨v_9, rfl, hS.pick [0] (by decide) rfl⟩
theorem c_bignum_Int_Add (w0 : World) (a0_0 : Bool) (a0_1 : List UInt32) (a1_0 : Bool) (a1_1 : List UInt32) (a2_0 : Bool) (a2_1 : List UInt32) (va0_1 : Value) (va1_1 : Value) (va2_1 : Value) (ba0 : Nat) (ba1 : Nat) (ba2 : Nat) (S : List Nat) (hS : St S w0 w0 [OE.bx ba0 [vB a0_0, va0_1], own e32 va0_1 a0_1]) (ha1_1 : RP S w0 e32 va1_1 a1_1) (hBa1 : RB S w0 ba1 [vB a1_0, va1_1]) (ha2_1 : RP S w0 e32 va2_1 a2_1) (hBa2 : RB S w0 ba2 [vB a2_0, va2_1]) (r : Bool × List UInt32)
  (h : F.bignum_Int_Add a0_0 a0_1 a1_0 a1_1 a2_0 a2_1 = some r) : Calls Tryz.prog 71 #[pB ba0 0, pB ba1 0, pB ba2 0] w0 (Ret fun v w => ∃ u0_1 : Value, v = pB ba0 0 ∧ St S w0 w [OE.bx ba0 [vB r.1, u0_1], own e32 u0_1 r.2]) := by
 refine kz 28 Tryz.func71 rfl rfl rfl ?_
 refine kn [(0, pB ba0 0), (1, pB ba1 0), (2, pB ba2 0)] ⟨rfl, rfl, rfl, trivial⟩ ?_
 unfold F.bignum_Int_Add at h
 refine ke (kc (kb 1 rfl ?_))
 refine kf (ka (ke ?_))
 have hsh1 := (hS.ro 1 rfl).shp
 refine kN (fun w' => St S w0 w' []) (fun i => !([17, 20].contains i)) hmix (fun _ _ _ hf => hf.2) (fun _ _ hf => hf) (by kernel_rfl) ?_
 have hS := hS.drew
 show lxE _ _ _ _ _ _ _ [0, 1, 2, 3, 4, 5, 6, 7, 8, 9, 10, 11, 12, 13, 14, 15, 16, 17, 18, 19, 20, 21] _ _
 refine kj (hS.pick [] (by decide) rfl) rfl rfl (fun w hF => km rfl) rfl ?_
 refine kj (hS.pick [] (by decide) rfl) rfl rfl (fun w hF => km rfl) rfl ?_
 refine kj (hS.pick [] (by decide) rfl) rfl rfl (fun w hF => kJ rfl) rfl ?_
 refine kj (hS.pick [] (by decide) rfl) rfl rfl (fun w hF => kl (k := 0) Tryz.underlying62 rfl rfl nz4 rfl) rfl ?_
 refine kj (hS.pick [] (by decide) rfl) rfl rfl (fun w hF => ku Tryz.underlying4 rfl rfl (hBa1.cell hF.fr 0 rfl)) rfl ?_
 refine kj (hS.pick [] (by decide) rfl) rfl rfl (fun w hF => km rfl) rfl ?_
 refine kj (hS.pick [] (by decide) rfl) rfl rfl (fun w hF => kJ rfl) rfl ?_
 refine kj (hS.pick [] (by decide) rfl) rfl rfl (fun w hF => kl (k := 1) Tryz.underlying62 rfl rfl nz24 rfl) rfl ?_
 refine kj (hS.pick [] (by decide) rfl) rfl rfl (fun w hF => ku Tryz.underlying24 rfl rfl (hBa1.cell hF.fr 1 rfl)) rfl ?_
 refine kj (hS.pick [] (by decide) rfl) rfl rfl (fun w hF => km rfl) rfl ?_
 refine kj (hS.pick [] (by decide) rfl) rfl rfl (fun w hF => kJ rfl) rfl ?_
 refine kj (hS.pick [] (by decide) rfl) rfl rfl (fun w hF => kl (k := 0) Tryz.underlying62 rfl rfl nz4 rfl) rfl ?_
 refine kj (hS.pick [] (by decide) rfl) rfl rfl (fun w hF => ku Tryz.underlying4 rfl rfl (hBa2.cell hF.fr 0 rfl)) rfl ?_
 refine kj (hS.pick [] (by decide) rfl) rfl rfl (fun w hF => km rfl) rfl ?_
 refine kj (hS.pick [] (by decide) rfl) rfl rfl (fun w hF => kJ rfl) rfl ?_
 refine kj (hS.pick [] (by decide) rfl) rfl rfl (fun w hF => kl (k := 1) Tryz.underlying62 rfl rfl nz24 rfl) rfl ?_
 refine kj (hS.pick [] (by decide) rfl) rfl rfl (fun w hF => ku Tryz.underlying24 rfl rfl (hBa2.cell hF.fr 1 rfl)) rfl ?_
 obtain ⟨x_3, hx_3, h⟩ := kg h
 refine kP (hS.pick [] (by decide) rfl) rfl rfl (by kernel_rfl) rfl (c_bignum_sum _ a1_0 a1_1 a2_0 a2_1 va1_1 va2_1  (ha1_1.now hS.fr).rp (ha2_1.now hS.fr).rp _ hx_3) rfl ?_
 rintro _ w ⟨v_4, rfl, hS1⟩
 have hS := hS.call hS1
 refine kj (hS.pick [] (by decide) rfl) rfl rfl (fun w hF => kV rfl rfl) rfl ?_
 refine kj (hS.pick [] (by decide) rfl) rfl rfl (fun w hF => kV rfl rfl) rfl ?_
 have hG := hS.pick (os' := [OE.bx ba0 [vB a0_0, va0_1], own e32 va0_1 a0_1, own e32 v_4 x_3.2] ++ []) [1, 2, 0] (by decide) rfl
 obtain ⟨x_6, hx_6, h⟩ := kg h
 refine kP (hS.pick [] (by decide) rfl) rfl rfl (by kernel_rfl) rfl (c_bignum_Int_give _ a0_0 a0_1 x_3.1 x_3.2 va0_1 v_4 ba0 _ hG.give  _ hx_6) rfl ?_
 rintro _ w ⟨v_7, rfl, hS1⟩
 have hS := hG.back hS1
 refine kj (hS.pick [] (by decide) rfl) rfl rfl (fun w hF => kA rfl) rfl ?_
 refine kY (hS.pick [] (by decide) rfl) ?_
 refine ka (kq ?_)
 cases h
 exact ky rfl rfl ⟨v_7, rfl, hS.pick [0, 1] (by decide) rfl⟩
theorem c_bignum_Int_Add_a10 (w0 : World) (a0_0 : Bool) (a0_1 : List UInt32) (a2_0 : Bool) (a2_1 : List UInt32) (va0_1 : Value) (va2_1 : Value) (ba0 : Nat) (ba2 : Nat) (S : List Nat) (hS : St S w0 w0 [OE.bx ba0 [vB a0_0, va0_1], own e32 va0_1 a0_1]) (ha2_1 : RP S w0 e32 va2_1 a2_1) (hBa2 : RB S w0 ba2 [vB a2_0, va2_1]) (r : Bool × List UInt32)
  (h : F.bignum_Int_Add_a10 a0_0 a0_1 a2_0 a2_1 = some r) : Calls Tryz.prog 71 #[pB ba0 0, pB ba0 0, pB ba2 0] w0 (Ret fun v w => ∃ u0_1 : Value, v = pB ba0 0 ∧ St S w0 w [OE.bx ba0 [vB r.1, u0_1], own e32 u0_1 r.2]) := by
 refine kz 28 Tryz.func71 rfl rfl rfl ?_
 refine kn [(0, pB ba0 0), (1, pB ba0 0), (2, pB ba2 0)] ⟨rfl, rfl, rfl, trivial⟩ ?_
 unfold F.bignum_Int_Add_a10 at h
 refine ke (kc (kb 1 rfl ?_))
 refine kf (ka (ke ?_))
 have hsh1 := (hS.ro 1 rfl).shp
 refine kN (fun w' => St S w0 w' []) (fun i => !([1004, 1008, 17, 20].contains i)) hmix (fun _ _ _ hf => hf.2) (fun _ _ hf => hf) (by kernel_rfl) ?_
 have hS := hS.drew
 show lxE _ _ _ _ _ _ _ [0, 1, 2, 3, 4, 5, 6, 7, 8, 9, 10, 11, 12, 13, 14, 15, 16, 17, 18, 19, 20, 21] _ _
 refine kj (hS.pick [] (by decide) rfl) rfl rfl (fun w hF => km rfl) rfl ?_
 refine kj (hS.pick [] (by decide) rfl) rfl rfl (fun w hF => km rfl) rfl ?_
 refine kj (hS.pick [] (by decide) rfl) rfl rfl (fun w hF => kJ rfl) rfl ?_
 refine kj (hS.pick [] (by decide) rfl) rfl rfl (fun w hF => kl (k := 0) Tryz.underlying62 rfl rfl nz4 rfl) rfl ?_
 refine lxE_r (hS.pick [] (by decide) rfl) rfl rfl rfl (ku Tryz.underlying4 rfl rfl (hS.bxc 0 rfl 0)) rfl ?_
 refine kj (hS.pick [] (by decide) rfl) rfl rfl (fun w hF => km rfl) rfl ?_
 refine kj (hS.pick [] (by decide) rfl) rfl rfl (fun w hF => kJ rfl) rfl ?_
 refine kj (hS.pick [] (by decide) rfl) rfl rfl (fun w hF => kl (k := 1) Tryz.underlying62 rfl rfl nz24 rfl) rfl ?_
 refine lxE_r (hS.pick [] (by decide) rfl) rfl rfl rfl (ku Tryz.underlying24 rfl rfl (hS.bxc 0 rfl 1)) rfl ?_
 refine kj (hS.pick [] (by decide) rfl) rfl rfl (fun w hF => km rfl) rfl ?_
 refine kj (hS.pick [] (by decide) rfl) rfl rfl (fun w hF => kJ rfl) rfl ?_
 refine kj (hS.pick [] (by decide) rfl) rfl rfl (fun w hF => kl (k := 0) Tryz.underlying62 rfl rfl nz4 rfl) rfl ?_
 refine kj (hS.pick [] (by decide) rfl) rfl rfl (fun w hF => ku Tryz.underlying4 rfl rfl (hBa2.cell hF.fr 0 rfl)) rfl ?_
 refine kj (hS.pick [] (by decide) rfl) rfl rfl (fun w hF => km rfl) rfl ?_
 refine kj (hS.pick [] (by decide) rfl) rfl rfl (fun w hF => kJ rfl) rfl ?_
 refine kj (hS.pick [] (by decide) rfl) rfl rfl (fun w hF => kl (k := 1) Tryz.underlying62 rfl rfl nz24 rfl) rfl ?_
 refine kj (hS.pick [] (by decide) rfl) rfl rfl (fun w hF => ku Tryz.underlying24 rfl rfl (hBa2.cell hF.fr 1 rfl)) rfl ?_
 obtain ⟨x_3, hx_3, h⟩ := kg h
 refine kP (hS.pick [] (by decide) rfl) rfl rfl (by kernel_rfl) rfl (c_bignum_sum _ a0_0 a0_1 a2_0 a2_1 va0_1 va2_1  (hS.ro 1 rfl).rp (ha2_1.now hS.fr).rp _ hx_3) rfl ?_
 rintro _ w ⟨v_4, rfl, hS1⟩
 have hS := hS.call hS1
 refine kj (hS.pick [] (by decide) rfl) rfl rfl (fun w hF => kV rfl rfl) rfl ?_
 refine kj (hS.pick [] (by decide) rfl) rfl rfl (fun w hF => kV rfl rfl) rfl ?_
 have hG := hS.pick (os' := [OE.bx ba0 [vB a0_0, va0_1], own e32 va0_1 a0_1, own e32 v_4 x_3.2] ++ []) [1, 2, 0] (by decide) rfl
 obtain ⟨x_6, hx_6, h⟩ := kg h
 refine kP (hS.pick [] (by decide) rfl) rfl rfl (by kernel_rfl) rfl (c_bignum_Int_give _ a0_0 a0_1 x_3.1 x_3.2 va0_1 v_4 ba0 _ hG.give  _ hx_6) rfl ?_
 rintro _ w ⟨v_7, rfl, hS1⟩
 have hS := hG.back hS1
 refine kj (hS.pick [] (by decide) rfl) rfl rfl (fun w hF => kA rfl) rfl ?_
 refine kY (hS.pick [] (by decide) rfl) ?_
 refine ka (kq ?_)
 cases h
 exact ky rfl rfl ⟨v_7, rfl, hS.pick [0, 1] (by decide) rfl⟩
theorem c_bignum_Int_Sub (w0 : World) (a0_0 : Bool) (a0_1 : List UInt32) (a1_0 : Bool) (a1_1 : List UInt32) (a2_0 : Bool) (a2_1 : List UInt32) (va0_1 : Value) (va1_1 : Value) (va2_1 : Value) (ba0 : Nat) (ba1 : Nat) (ba2 : Nat) (S : List Nat) (hS : St S w0 w0 [OE.bx ba0 [vB a0_0, va0_1], own e32 va0_1 a0_1]) (ha1_1 : RP S w0 e32 va1_1 a1_1) (hBa1 : RB S w0 ba1 [vB a1_0, va1_1]) (ha2_1 : RP S w0 e32 va2_1 a2_1) (hBa2 : RB S w0 ba2 [vB a2_0, va2_1]) (r : Bool × List UInt32)
  (h : F.bignum_Int_Sub a0_0 a0_1 a1_0 a1_1 a2_0 a2_1 = some r) : Calls Tryz.prog 83 #[pB ba0 0, pB ba1 0, pB ba2 0] w0 (Ret fun v w => ∃ u0_1 : Value, v = pB ba0 0 ∧ St S w0 w [OE.bx ba0 [vB r.1, u0_1], own e32 u0_1 r.2]) := by
 refine kz 29 Tryz.func83 rfl rfl rfl ?_
 refine kn [(0, pB ba0 0), (1, pB ba1 0), (2, pB ba2 0)] ⟨rfl, rfl, rfl, trivial⟩ ?_
 unfold F.bignum_Int_Sub at h
 refine ke (kc (kb 1 rfl ?_))
 refine kf (ka (ke ?_))
 have hsh1 := (hS.ro 1 rfl).shp
 refine kN (fun w' => St S w0 w' []) (fun i => !([18, 21].contains i)) hmix (fun _ _ _ hf => hf.2) (fun _ _ hf => hf) (by kernel_rfl) ?_
 have hS := hS.drew
 show lxE _ _ _ _ _ _ _ [0, 1, 2, 3, 4, 5, 6, 7, 8, 9, 10, 11, 12, 13, 14, 15, 16, 17, 18, 19, 20, 21, 22] _ _
 refine kj (hS.pick [] (by decide) rfl) rfl rfl (fun w hF => km rfl) rfl ?_
 refine kj (hS.pick [] (by decide) rfl) rfl rfl (fun w hF => km rfl) rfl ?_
 refine kj (hS.pick [] (by decide) rfl) rfl rfl (fun w hF => kJ rfl) rfl ?_
 refine kj (hS.pick [] (by decide) rfl) rfl rfl (fun w hF => kl (k := 0) Tryz.underlying62 rfl rfl nz4 rfl) rfl ?_
 refine kj (hS.pick [] (by decide) rfl) rfl rfl (fun w hF => ku Tryz.underlying4 rfl rfl (hBa1.cell hF.fr 0 rfl)) rfl ?_
 refine kj (hS.pick [] (by decide) rfl) rfl rfl (fun w hF => km rfl) rfl ?_
 refine kj (hS.pick [] (by decide) rfl) rfl rfl (fun w hF => kJ rfl) rfl ?_
 refine kj (hS.pick [] (by decide) rfl) rfl rfl (fun w hF => kl (k := 1) Tryz.underlying62 rfl rfl nz24 rfl) rfl ?_
 refine kj (hS.pick [] (by decide) rfl) rfl rfl (fun w hF => ku Tryz.underlying24 rfl rfl (hBa1.cell hF.fr 1 rfl)) rfl ?_
 refine kj (hS.pick [] (by decide) rfl) rfl rfl (fun w hF => km rfl) rfl ?_
 refine kj (hS.pick [] (by decide) rfl) rfl rfl (fun w hF => kJ rfl) rfl ?_
 refine kj (hS.pick [] (by decide) rfl) rfl rfl (fun w hF => kl (k := 0) Tryz.underlying62 rfl rfl nz4 rfl) rfl ?_
 refine kj (hS.pick [] (by decide) rfl) rfl rfl (fun w hF => ku Tryz.underlying4 rfl rfl (hBa2.cell hF.fr 0 rfl)) rfl ?_
 refine kj (hS.pick [] (by decide) rfl) rfl rfl (fun w hF => kc1 rfl (u_not a2_0)) rfl ?_
 refine kj (hS.pick [] (by decide) rfl) rfl rfl (fun w hF => km rfl) rfl ?_
 refine kj (hS.pick [] (by decide) rfl) rfl rfl (fun w hF => kJ rfl) rfl ?_
 refine kj (hS.pick [] (by decide) rfl) rfl rfl (fun w hF => kl (k := 1) Tryz.underlying62 rfl rfl nz24 rfl) rfl ?_
 refine kj (hS.pick [] (by decide) rfl) rfl rfl (fun w hF => ku Tryz.underlying24 rfl rfl (hBa2.cell hF.fr 1 rfl)) rfl ?_
 obtain ⟨x_3, hx_3, h⟩ := kg h
 refine kP (hS.pick [] (by decide) rfl) rfl rfl (by kernel_rfl) rfl (c_bignum_sum _ a1_0 a1_1 (!a2_0) a2_1 va1_1 va2_1  (ha1_1.now hS.fr).rp (ha2_1.now hS.fr).rp _ hx_3) rfl ?_
 rintro _ w ⟨v_4, rfl, hS1⟩
 have hS := hS.call hS1
 refine kj (hS.pick [] (by decide) rfl) rfl rfl (fun w hF => kV rfl rfl) rfl ?_
 refine kj (hS.pick [] (by decide) rfl) rfl rfl (fun w hF => kV rfl rfl) rfl ?_
 have hG := hS.pick (os' := [OE.bx ba0 [vB a0_0, va0_1], own e32 va0_1 a0_1, own e32 v_4 x_3.2] ++ []) [1, 2, 0] (by decide) rfl
 obtain ⟨x_6, hx_6, h⟩ := kg h
 refine kP (hS.pick [] (by decide) rfl) rfl rfl (by kernel_rfl) rfl (c_bignum_Int_give _ a0_0 a0_1 x_3.1 x_3.2 va0_1 v_4 ba0 _ hG.give  _ hx_6) rfl ?_
 rintro _ w ⟨v_7, rfl, hS1⟩
 have hS := hG.back hS1
 refine kj (hS.pick [] (by decide) rfl) rfl rfl (fun w hF => kA rfl) rfl ?_
 refine kY (hS.pick [] (by decide) rfl) ?_
 refine ka (kq ?_)
 cases h
 exact ky rfl rfl ⟨v_7, rfl, hS.pick [0, 1] (by decide) rfl⟩
theorem c_bignum_Int_Sub_a10 (w0 : World) (a0_0 : Bool) (a0_1 : List UInt32) (a2_0 : Bool) (a2_1 : List UInt32) (va0_1 : Value) (va2_1 : Value) (ba0 : Nat) (ba2 : Nat) (S : List Nat) (hS : St S w0 w0 [OE.bx ba0 [vB a0_0, va0_1], own e32 va0_1 a0_1]) (ha2_1 : RP S w0 e32 va2_1 a2_1) (hBa2 : RB S w0 ba2 [vB a2_0, va2_1]) (r : Bool × List UInt32)
  (h : F.bignum_Int_Sub_a10 a0_0 a0_1 a2_0 a2_1 = some r) : Calls Tryz.prog 83 #[pB ba0 0, pB ba0 0, pB ba2 0] w0 (Ret fun v w => ∃ u0_1 : Value, v = pB ba0 0 ∧ St S w0 w [OE.bx ba0 [vB r.1, u0_1], own e32 u0_1 r.2]) := by
 refine kz 29 Tryz.func83 rfl rfl rfl ?_
 refine kn [(0, pB ba0 0), (1, pB ba0 0), (2, pB ba2 0)] ⟨rfl, rfl, rfl, trivial⟩ ?_
 unfold F.bignum_Int_Sub_a10 at h
 refine ke (kc (kb 1 rfl ?_))
 refine kf (ka (ke ?_))
 have hsh1 := (hS.ro 1 rfl).shp
 refine kN (fun w' => St S w0 w' []) (fun i => !([1004, 1008, 18, 21].contains i)) hmix (fun _ _ _ hf => hf.2) (fun _ _ hf => hf) (by kernel_rfl) ?_
 have hS := hS.drew
 show lxE _ _ _ _ _ _ _ [0, 1, 2, 3, 4, 5, 6, 7, 8, 9, 10, 11, 12, 13, 14, 15, 16, 17, 18, 19, 20, 21, 22] _ _
 refine kj (hS.pick [] (by decide) rfl) rfl rfl (fun w hF => km rfl) rfl ?_
 refine kj (hS.pick [] (by decide) rfl) rfl rfl (fun w hF => km rfl) rfl ?_
 refine kj (hS.pick [] (by decide) rfl) rfl rfl (fun w hF => kJ rfl) rfl ?_
 refine kj (hS.pick [] (by decide) rfl) rfl rfl (fun w hF => kl (k := 0) Tryz.underlying62 rfl rfl nz4 rfl) rfl ?_
 refine lxE_r (hS.pick [] (by decide) rfl) rfl rfl rfl (ku Tryz.underlying4 rfl rfl (hS.bxc 0 rfl 0)) rfl ?_
 refine kj (hS.pick [] (by decide) rfl) rfl rfl (fun w hF => km rfl) rfl ?_
 refine kj (hS.pick [] (by decide) rfl) rfl rfl (fun w hF => kJ rfl) rfl ?_
 refine kj (hS.pick [] (by decide) rfl) rfl rfl (fun w hF => kl (k := 1) Tryz.underlying62 rfl rfl nz24 rfl) rfl ?_
 refine lxE_r (hS.pick [] (by decide) rfl) rfl rfl rfl (ku Tryz.underlying24 rfl rfl (hS.bxc 0 rfl 1)) rfl ?_
 refine kj (hS.pick [] (by decide) rfl) rfl rfl (fun w hF => km rfl) rfl ?_
 refine kj (hS.pick [] (by decide) rfl) rfl rfl (fun w hF => kJ rfl) rfl ?_
 refine kj (hS.pick [] (by decide) rfl) rfl rfl (fun w hF => kl (k := 0) Tryz.underlying62 rfl rfl nz4 rfl) rfl ?_
 refine kj (hS.pick [] (by decide) rfl) rfl rfl (fun w hF => ku Tryz.underlying4 rfl rfl (hBa2.cell hF.fr 0 rfl)) rfl ?_
 refine kj (hS.pick [] (by decide) rfl) rfl rfl (fun w hF => kc1 rfl (u_not a2_0)) rfl ?_
 refine kj (hS.pick [] (by decide) rfl) rfl rfl (fun w hF => km rfl) rfl ?_
 refine kj (hS.pick [] (by decide) rfl) rfl rfl (fun w hF => kJ rfl) rfl ?_
 refine kj (hS.pick [] (by decide) rfl) rfl rfl (fun w hF => kl (k := 1) Tryz.underlying62 rfl rfl nz24 rfl) rfl ?_
 refine kj (hS.pick [] (by decide) rfl) rfl rfl (fun w hF => ku Tryz.underlying24 rfl rfl (hBa2.cell hF.fr 1 rfl)) rfl ?_
 obtain ⟨x_3, hx_3, h⟩ := kg h
 refine kP (hS.pick [] (by decide) rfl) rfl rfl (by kernel_rfl) rfl (c_bignum_sum _ a0_0 a0_1 (!a2_0) a2_1 va0_1 va2_1  (hS.ro 1 rfl).rp (ha2_1.now hS.fr).rp _ hx_3) rfl ?_
 rintro _ w ⟨v_4, rfl, hS1⟩
 have hS := hS.call hS1
 refine kj (hS.pick [] (by decide) rfl) rfl rfl (fun w hF => kV rfl rfl) rfl ?_
 refine kj (hS.pick [] (by decide) rfl) rfl rfl (fun w hF => kV rfl rfl) rfl ?_
 have hG := hS.pick (os' := [OE.bx ba0 [vB a0_0, va0_1], own e32 va0_1 a0_1, own e32 v_4 x_3.2] ++ []) [1, 2, 0] (by decide) rfl
 obtain ⟨x_6, hx_6, h⟩ := kg h
 refine kP (hS.pick [] (by decide) rfl) rfl rfl (by kernel_rfl) rfl (c_bignum_Int_give _ a0_0 a0_1 x_3.1 x_3.2 va0_1 v_4 ba0 _ hG.give  _ hx_6) rfl ?_
 rintro _ w ⟨v_7, rfl, hS1⟩
 have hS := hG.back hS1
 refine kj (hS.pick [] (by decide) rfl) rfl rfl (fun w hF => kA rfl) rfl ?_
 refine kY (hS.pick [] (by decide) rfl) ?_
 refine ka (kq ?_)
 cases h
 exact ky rfl rfl ⟨v_7, rfl, hS.pick [0, 1] (by decide) rfl⟩
theorem c_bignum_Int_Sub_a20 (w0 : World) (a0_0 : Bool) (a0_1 : List UInt32) (a1_0 : Bool) (a1_1 : List UInt32) (va0_1 : Value) (va1_1 : Value) (ba0 : Nat) (ba1 : Nat) (S : List Nat) (hS : St S w0 w0 [OE.bx ba0 [vB a0_0, va0_1], own e32 va0_1 a0_1]) (ha1_1 : RP S w0 e32 va1_1 a1_1) (hBa1 : RB S w0 ba1 [vB a1_0, va1_1]) (r : Bool × List UInt32)
  (h : F.bignum_Int_Sub_a20 a0_0 a0_1 a1_0 a1_1 = some r) : Calls Tryz.prog 83 #[pB ba0 0, pB ba1 0, pB ba0 0] w0 (Ret fun v w => ∃ u0_1 : Value, v = pB ba0 0 ∧ St S w0 w [OE.bx ba0 [vB r.1, u0_1], own e32 u0_1 r.2]) := by
 refine kz 29 Tryz.func83 rfl rfl rfl ?_
 refine kn [(0, pB ba0 0), (1, pB ba1 0), (2, pB ba0 0)] ⟨rfl, rfl, rfl, trivial⟩ ?_
 unfold F.bignum_Int_Sub_a20 at h
 refine ke (kc (kb 1 rfl ?_))
 refine kf (ka (ke ?_))
 have hsh1 := (hS.ro 1 rfl).shp
 refine kN (fun w' => St S w0 w' []) (fun i => !([1012, 1017, 18, 21].contains i)) hmix (fun _ _ _ hf => hf.2) (fun _ _ hf => hf) (by kernel_rfl) ?_
 have hS := hS.drew
 show lxE _ _ _ _ _ _ _ [0, 1, 2, 3, 4, 5, 6, 7, 8, 9, 10, 11, 12, 13, 14, 15, 16, 17, 18, 19, 20, 21, 22] _ _
 refine kj (hS.pick [] (by decide) rfl) rfl rfl (fun w hF => km rfl) rfl ?_
 refine kj (hS.pick [] (by decide) rfl) rfl rfl (fun w hF => km rfl) rfl ?_
 refine kj (hS.pick [] (by decide) rfl) rfl rfl (fun w hF => kJ rfl) rfl ?_
 refine kj (hS.pick [] (by decide) rfl) rfl rfl (fun w hF => kl (k := 0) Tryz.underlying62 rfl rfl nz4 rfl) rfl ?_
 refine kj (hS.pick [] (by decide) rfl) rfl rfl (fun w hF => ku Tryz.underlying4 rfl rfl (hBa1.cell hF.fr 0 rfl)) rfl ?_
 refine kj (hS.pick [] (by decide) rfl) rfl rfl (fun w hF => km rfl) rfl ?_
 refine kj (hS.pick [] (by decide) rfl) rfl rfl (fun w hF => kJ rfl) rfl ?_
 refine kj (hS.pick [] (by decide) rfl) rfl rfl (fun w hF => kl (k := 1) Tryz.underlying62 rfl rfl nz24 rfl) rfl ?_
 refine kj (hS.pick [] (by decide) rfl) rfl rfl (fun w hF => ku Tryz.underlying24 rfl rfl (hBa1.cell hF.fr 1 rfl)) rfl ?_
 refine kj (hS.pick [] (by decide) rfl) rfl rfl (fun w hF => km rfl) rfl ?_
 refine kj (hS.pick [] (by decide) rfl) rfl rfl (fun w hF => kJ rfl) rfl ?_
 refine kj (hS.pick [] (by decide) rfl) rfl rfl (fun w hF => kl (k := 0) Tryz.underlying62 rfl rfl nz4 rfl) rfl ?_
 refine lxE_r (hS.pick [] (by decide) rfl) rfl rfl rfl (ku Tryz.underlying4 rfl rfl (hS.bxc 0 rfl 0)) rfl ?_
 refine kj (hS.pick [] (by decide) rfl) rfl rfl (fun w hF => kc1 rfl (u_not a0_0)) rfl ?_
 refine kj (hS.pick [] (by decide) rfl) rfl rfl (fun w hF => km rfl) rfl ?_
 refine kj (hS.pick [] (by decide) rfl) rfl rfl (fun w hF => kJ rfl) rfl ?_
 refine kj (hS.pick [] (by decide) rfl) rfl rfl (fun w hF => kl (k := 1) Tryz.underlying62 rfl rfl nz24 rfl) rfl ?_
 refine lxE_r (hS.pick [] (by decide) rfl) rfl rfl rfl (ku Tryz.underlying24 rfl rfl (hS.bxc 0 rfl 1)) rfl ?_
 obtain ⟨x_3, hx_3, h⟩ := kg h
 refine kP (hS.pick [] (by decide) rfl) rfl rfl (by kernel_rfl) rfl (c_bignum_sum _ a1_0 a1_1 (!a0_0) a0_1 va1_1 va0_1  (ha1_1.now hS.fr).rp (hS.ro 1 rfl).rp _ hx_3) rfl ?_
 rintro _ w ⟨v_4, rfl, hS1⟩
 have hS := hS.call hS1
 refine kj (hS.pick [] (by decide) rfl) rfl rfl (fun w hF => kV rfl rfl) rfl ?_
 refine kj (hS.pick [] (by decide) rfl) rfl rfl (fun w hF => kV rfl rfl) rfl ?_
 have hG := hS.pick (os' := [OE.bx ba0 [vB a0_0, va0_1], own e32 va0_1 a0_1, own e32 v_4 x_3.2] ++ []) [1, 2, 0] (by decide) rfl
 obtain ⟨x_6, hx_6, h⟩ := kg h
 refine kP (hS.pick [] (by decide) rfl) rfl rfl (by kernel_rfl) rfl (c_bignum_Int_give _ a0_0 a0_1 x_3.1 x_3.2 va0_1 v_4 ba0 _ hG.give  _ hx_6) rfl ?_
 rintro _ w ⟨v_7, rfl, hS1⟩
 have hS := hG.back hS1
 refine kj (hS.pick [] (by decide) rfl) rfl rfl (fun w hF => kA rfl) rfl ?_
 refine kY (hS.pick [] (by decide) rfl) ?_
 refine ka (kq ?_)
 cases h
 exact ky rfl rfl ⟨v_7, rfl, hS.pick [0, 1] (by decide) rfl⟩
theorem c_bignum_Int_DivMod (w0 : World) (a0_0 : Bool) (a0_1 : List UInt32) (a1_0 : Bool) (a1_1 : List UInt32) (a2_0 : Bool) (a2_1 : List UInt32) (a3_0 : Bool) (a3_1 : List UInt32) (va0_1 : Value) (va1_1 : Value) (va2_1 : Value) (va3_1 : Value) (ba0 : Nat) (ba1 : Nat) (ba2 : Nat) (ba3 : Nat) (S : List Nat) (hS : St S w0 w0 [OE.bx ba0 [vB a0_0, va0_1], own e32 va0_1 a0_1, OE.bx ba3 [vB a3_0, va3_1], own e32 va3_1 a3_1]) (ha1_1 : RP S w0 e32 va1_1 a1_1) (hBa1 : RB S w0 ba1 [vB a1_0, va1_1]) (ha2_1 : RP S w0 e32 va2_1 a2_1) (hBa2 : RB S w0 ba2 [vB a2_0, va2_1]) (r : Bool × List UInt32 × Bool × List UInt32)
  (h : F.bignum_Int_DivMod a0_0 a0_1 a1_0 a1_1 a2_0 a2_1 a3_0 a3_1 = some r) : Calls Tryz.prog 121 #[pB ba0 0, pB ba1 0, pB ba2 0, pB ba3 0] w0 (Ret fun v w => ∃ u0_1 u3_1 : Value, v = .tuple #[pB ba0 0, pB ba3 0] ∧ St S w0 w [OE.bx ba0 [vB r.1, u0_1], own e32 u0_1 r.2.1, OE.bx ba3 [vB r.2.2.1, u3_1], own e32 u3_1 r.2.2.2]) := by
 refine kz 45 Tryz.func121 rfl rfl rfl ?_
 refine kn [(0, pB ba0 0), (1, pB ba1 0), (2, pB ba2 0), (3, pB ba3 0)] ⟨rfl, rfl, rfl, rfl, trivial⟩ ?_
 unfold F.bignum_Int_DivMod at h
 refine ke (kc (kb 2 rfl ?_))
 refine kf (ka (ke (kc (kW (kE (cs := [vB false, .slice none 0 0]) tz62 rfl hS) rfl ?_))))
 rintro _ w ⟨b_5, rfl, hS⟩
 refine kb 1 rfl ?_
 replace hS := hS.nil e32
 have hG := hS.pick (os' := [OE.bx b_5 [vB false, .slice none 0 0], own e32 (.slice none 0 0) []] ++ [OE.bx ba0 [vB a0_0, va0_1], own e32 va0_1 a0_1, OE.bx ba3 [vB a3_0, va3_1], own e32 va3_1 a3_1]) [1, 0, 2, 3, 4, 5] (by decide) rfl
 obtain ⟨x_8, hx_8, h⟩ := kg h
 refine kk (by kernel_rfl) rfl (c_bignum_Int_Set _ false [] a2_0 a2_1 (.slice none 0 0) va2_1 b_5 ba2 _ hG.give (ha2_1.give (Nat.le_of_ble_eq_true rfl) hG) (hBa2.give hG) _ hx_8) rfl ?_
 rintro _ w ⟨v_9, rfl, hS1⟩
 have hS := hG.back hS1
 refine kb 1 rfl ?_
 refine kf (ka (ke (kc (kb 4 rfl ?_))))
 have hG := hS.pick (os' := [OE.bx ba0 [vB a0_0, va0_1], own e32 va0_1 a0_1, OE.bx ba3 [vB a3_0, va3_1], own e32 va3_1 a3_1] ++ [OE.bx b_5 [vB x_8.1, v_9], own e32 v_9 x_8.2]) [2, 3, 4, 5, 0, 1] (by decide) rfl
 obtain ⟨x_11, hx_11, h⟩ := kg h
 refine kk (by kernel_rfl) rfl (c_bignum_Int_QuoRem _ a0_0 a0_1 a1_0 a1_1 a2_0 a2_1 a3_0 a3_1 va0_1 va1_1 va2_1 va3_1 ba0 ba1 ba2 ba3 _ hG.give (ha1_1.give (Nat.le_of_ble_eq_true rfl) hG) (hBa1.give hG) (ha2_1.give (Nat.le_of_ble_eq_true rfl) hG) (hBa2.give hG) _ hx_11) rfl ?_
 rintro _ w ⟨v_12, v_14, rfl, hS1⟩
 have hS := hG.back hS1
 refine kf (ka ?_)
 refine kO (r := r) (fun (g : Bool × List UInt32 × Bool × List UInt32) L w => ∃ (v_42 : Value) (v_46 : Value), L = [(0, pB ba0 0), (3, pB ba3 0)] ∧ St S w0 w [own e32 v_42 g.2.1, OE.bx ba0 [vB g.1, v_42], own e32 v_46 g.2.2.2, OE.bx ba3 [vB g.2.2.1, v_46]]) (F.bignum_Int_DivMod_K1) ?_ ?_
 rotate_left
 ·intro hK_48
  refine ke (kc (kb 1 rfl ?_))
  refine ki (kJ rfl) rfl (ki (kl (k := 0) Tryz.underlying62 rfl rfl nz4 rfl) rfl (ki (ku Tryz.underlying4 rfl rfl (hS.bxc 2 rfl 0)) rfl (kf (ka ?_))))
  refine ko rfl (fun hb_39 => ?_) (fun hb_39 => ?_)
  ·have h := if_t h hb_39
   refine ke (kc (kb 1 rfl ?_))
   refine ki (kJ rfl) rfl (ki (kl (k := 0) Tryz.underlying62 rfl rfl nz4 rfl) rfl (ki (ku Tryz.underlying4 rfl rfl (hS.bxc 4 rfl 0)) rfl (kf (ka ?_))))
   refine ko rfl (fun hb_38 => ?_) (fun hb_38 => ?_)
   ·have h := if_t h hb_38
    refine ke (kc (kb 2 rfl ?_))
    obtain ⟨x_16, hx_16, h⟩ := kg h
    refine kk (by kernel_rfl) rfl (c_bignum_NewInt _ 1    _ hx_16) rfl ?_
    rintro _ w ⟨v_17, b_19, rfl, hS1⟩
    have hS := hS.call hS1
    have hG := hS.pick (os' := [OE.bx ba0 [vB x_11.1, v_12], own e32 v_12 x_11.2.1] ++ [OE.bx b_19 [vB x_16.1, v_17], own e32 v_17 x_16.2, OE.bx ba3 [vB x_11.2.2.1, v_14], own e32 v_14 x_11.2.2.2, OE.bx b_5 [vB x_8.1, v_9], own e32 v_9 x_8.2]) [2, 3, 0, 1, 4, 5, 6, 7] (by decide) rfl
    obtain ⟨x_21, hx_21, h⟩ := kg h
    refine kk (by kernel_rfl) rfl (c_bignum_Int_Add_a10 _ x_11.1 x_11.2.1 x_16.1 x_16.2 v_12 v_17 ba0 b_19 _ hG.give (hG.giveO 1 rfl) (hG.giveB 0 rfl) _ hx_21) rfl ?_
    rintro _ w ⟨v_22, rfl, hS1⟩
    have hS := hG.back hS1
    refine kf (ka (kc (kb 3 rfl ?_)))
    have hG := hS.pick (os' := [OE.bx ba3 [vB x_11.2.2.1, v_14], own e32 v_14 x_11.2.2.2] ++ [OE.bx ba0 [vB x_21.1, v_22], own e32 v_22 x_21.2, OE.bx b_19 [vB x_16.1, v_17], own e32 v_17 x_16.2, OE.bx b_5 [vB x_8.1, v_9], own e32 v_9 x_8.2]) [4, 5, 0, 1, 2, 3, 6, 7] (by decide) rfl
    obtain ⟨x_24, hx_24, h⟩ := kg h
    refine kk (by kernel_rfl) rfl (c_bignum_Int_Sub_a10 _ x_11.2.2.1 x_11.2.2.2 x_8.1 x_8.2 v_14 v_9 ba3 b_5 _ hG.give (hG.giveO 5 rfl) (hG.giveB 4 rfl) _ hx_24) rfl ?_
    rintro _ w ⟨v_25, rfl, hS1⟩
    have hS := hG.back hS1
    refine kf (ka ?_)
    exact kn _ (by exact ⟨rfl, rfl, trivial⟩) (hK_48 (x_21.1, x_21.2, x_24.1, x_24.2) _ _ ⟨v_22, v_25, rfl, (hS.pick [3, 2, 1, 0] (by decide) rfl)⟩ h)
   have h := if_f h hb_38
   refine ke (kc (kb 2 rfl ?_))
   obtain ⟨x_27, hx_27, h⟩ := kg h
   refine kk (by kernel_rfl) rfl (c_bignum_NewInt _ 1    _ hx_27) rfl ?_
   rintro _ w ⟨v_28, b_30, rfl, hS1⟩
   have hS := hS.call hS1
   have hG := hS.pick (os' := [OE.bx ba0 [vB x_11.1, v_12], own e32 v_12 x_11.2.1] ++ [OE.bx b_30 [vB x_27.1, v_28], own e32 v_28 x_27.2, OE.bx ba3 [vB x_11.2.2.1, v_14], own e32 v_14 x_11.2.2.2, OE.bx b_5 [vB x_8.1, v_9], own e32 v_9 x_8.2]) [2, 3, 0, 1, 4, 5, 6, 7] (by decide) rfl
   obtain ⟨x_32, hx_32, h⟩ := kg h
   refine kk (by kernel_rfl) rfl (c_bignum_Int_Sub_a10 _ x_11.1 x_11.2.1 x_27.1 x_27.2 v_12 v_28 ba0 b_30 _ hG.give (hG.giveO 1 rfl) (hG.giveB 0 rfl) _ hx_32) rfl ?_
   rintro _ w ⟨v_33, rfl, hS1⟩
   have hS := hG.back hS1
   refine kf (ka (kc (kb 3 rfl ?_)))
   have hG := hS.pick (os' := [OE.bx ba3 [vB x_11.2.2.1, v_14], own e32 v_14 x_11.2.2.2] ++ [OE.bx ba0 [vB x_32.1, v_33], own e32 v_33 x_32.2, OE.bx b_30 [vB x_27.1, v_28], own e32 v_28 x_27.2, OE.bx b_5 [vB x_8.1, v_9], own e32 v_9 x_8.2]) [4, 5, 0, 1, 2, 3, 6, 7] (by decide) rfl
   obtain ⟨x_35, hx_35, h⟩ := kg h
   refine kk (by kernel_rfl) rfl (c_bignum_Int_Add_a10 _ x_11.2.2.1 x_11.2.2.2 x_8.1 x_8.2 v_14 v_9 ba3 b_5 _ hG.give (hG.giveO 5 rfl) (hG.giveB 4 rfl) _ hx_35) rfl ?_
   rintro _ w ⟨v_36, rfl, hS1⟩
   have hS := hG.back hS1
   refine kf (ka ?_)
   exact kn _ (by exact ⟨rfl, rfl, trivial⟩) (hK_48 (x_32.1, x_32.2, x_35.1, x_35.2) _ _ ⟨v_33, v_36, rfl, (hS.pick [3, 2, 1, 0] (by decide) rfl)⟩ h)
  have h := if_f h hb_39
  refine kr (ka ?_)
  exact kn _ (by exact ⟨rfl, rfl, trivial⟩) (hK_48 (x_11.1, x_11.2.1, x_11.2.2.1, x_11.2.2.2) _ _ ⟨v_12, v_14, rfl, (hS.pick [1, 0, 3, 2] (by decide) rfl)⟩ h)
 rintro ⟨x_40, x_41, x_44, x_45⟩ L w hJ h
 try dsimp only at hJ
 obtain ⟨v_42, v_46, rfl, hS⟩ := hJ
 unfold F.bignum_Int_DivMod_K1 at h
 refine ke (kc (kb 4 rfl ?_))
 refine kf (ka (kq ?_))
 cases h
 exact QE_ret2 rfl rfl rfl ⟨v_42, v_46, rfl, hS.pick [1, 0, 3, 2] (by decide) rfl⟩
theorem c_bignum_Int_DivMod_a13 (w0 : World) (a0_0 : Bool) (a0_1 : List UInt32) (a2_0 : Bool) (a2_1 : List UInt32) (a3_0 : Bool) (a3_1 : List UInt32) (va0_1 : Value) (va2_1 : Value) (va3_1 : Value) (ba0 : Nat) (ba2 : Nat) (ba3 : Nat) (S : List Nat) (hS : St S w0 w0 [OE.bx ba0 [vB a0_0, va0_1], own e32 va0_1 a0_1, OE.bx ba3 [vB a3_0, va3_1], own e32 va3_1 a3_1]) (ha2_1 : RP S w0 e32 va2_1 a2_1) (hBa2 : RB S w0 ba2 [vB a2_0, va2_1]) (r : Bool × List UInt32 × Bool × List UInt32)
  (h : F.bignum_Int_DivMod_a13 a0_0 a0_1 a2_0 a2_1 a3_0 a3_1 = some r) : Calls Tryz.prog 121 #[pB ba0 0, pB ba3 0, pB ba2 0, pB ba3 0] w0 (Ret fun v w => ∃ u0_1 u3_1 : Value, v = .tuple #[pB ba0 0, pB ba3 0] ∧ St S w0 w [OE.bx ba0 [vB r.1, u0_1], own e32 u0_1 r.2.1, OE.bx ba3 [vB r.2.2.1, u3_1], own e32 u3_1 r.2.2.2]) := by
 refine kz 45 Tryz.func121 rfl rfl rfl ?_
 refine kn [(0, pB ba0 0), (1, pB ba3 0), (2, pB ba2 0), (3, pB ba3 0)] ⟨rfl, rfl, rfl, rfl, trivial⟩ ?_
 unfold F.bignum_Int_DivMod_a13 at h
 refine ke (kc (kb 2 rfl ?_))
 refine kf (ka (ke (kc (kW (kE (cs := [vB false, .slice none 0 0]) tz62 rfl hS) rfl ?_))))
 rintro _ w ⟨b_5, rfl, hS⟩
 refine kb 1 rfl ?_
 replace hS := hS.nil e32
 have hG := hS.pick (os' := [OE.bx b_5 [vB false, .slice none 0 0], own e32 (.slice none 0 0) []] ++ [OE.bx ba0 [vB a0_0, va0_1], own e32 va0_1 a0_1, OE.bx ba3 [vB a3_0, va3_1], own e32 va3_1 a3_1]) [1, 0, 2, 3, 4, 5] (by decide) rfl
 obtain ⟨x_8, hx_8, h⟩ := kg h
 refine kk (by kernel_rfl) rfl (c_bignum_Int_Set _ false [] a2_0 a2_1 (.slice none 0 0) va2_1 b_5 ba2 _ hG.give (ha2_1.give (Nat.le_of_ble_eq_true rfl) hG) (hBa2.give hG) _ hx_8) rfl ?_
 rintro _ w ⟨v_9, rfl, hS1⟩
 have hS := hG.back hS1
 refine kb 1 rfl ?_
 refine kf (ka (ke (kc (kb 4 rfl ?_))))
 have hG := hS.pick (os' := [OE.bx ba0 [vB a0_0, va0_1], own e32 va0_1 a0_1, OE.bx ba3 [vB a3_0, va3_1], own e32 va3_1 a3_1] ++ [OE.bx b_5 [vB x_8.1, v_9], own e32 v_9 x_8.2]) [2, 3, 4, 5, 0, 1] (by decide) rfl
 obtain ⟨x_11, hx_11, h⟩ := kg h
 refine kk (by kernel_rfl) rfl (c_bignum_Int_QuoRem_a13 _ a0_0 a0_1 a2_0 a2_1 a3_0 a3_1 va0_1 va2_1 va3_1 ba0 ba2 ba3 _ hG.give (ha2_1.give (Nat.le_of_ble_eq_true rfl) hG) (hBa2.give hG) _ hx_11) rfl ?_
 rintro _ w ⟨v_12, v_14, rfl, hS1⟩
 have hS := hG.back hS1
 refine kf (ka ?_)
 refine kO (r := r) (fun (g : Bool × List UInt32 × Bool × List UInt32) L w => ∃ (v_42 : Value) (v_46 : Value), L = [(0, pB ba0 0), (3, pB ba3 0)] ∧ St S w0 w [own e32 v_42 g.2.1, OE.bx ba0 [vB g.1, v_42], own e32 v_46 g.2.2.2, OE.bx ba3 [vB g.2.2.1, v_46]]) (F.bignum_Int_DivMod_a13_K1) ?_ ?_
 rotate_left
 ·intro hK_48
  refine ke (kc (kb 1 rfl ?_))
  refine ki (kJ rfl) rfl (ki (kl (k := 0) Tryz.underlying62 rfl rfl nz4 rfl) rfl (ki (ku Tryz.underlying4 rfl rfl (hS.bxc 2 rfl 0)) rfl (kf (ka ?_))))
  refine ko rfl (fun hb_39 => ?_) (fun hb_39 => ?_)
  ·have h := if_t h hb_39
   refine ke (kc (kb 1 rfl ?_))
   refine ki (kJ rfl) rfl (ki (kl (k := 0) Tryz.underlying62 rfl rfl nz4 rfl) rfl (ki (ku Tryz.underlying4 rfl rfl (hS.bxc 4 rfl 0)) rfl (kf (ka ?_))))
   refine ko rfl (fun hb_38 => ?_) (fun hb_38 => ?_)
   ·have h := if_t h hb_38
    refine ke (kc (kb 2 rfl ?_))
    obtain ⟨x_16, hx_16, h⟩ := kg h
    refine kk (by kernel_rfl) rfl (c_bignum_NewInt _ 1    _ hx_16) rfl ?_
    rintro _ w ⟨v_17, b_19, rfl, hS1⟩
    have hS := hS.call hS1
    have hG := hS.pick (os' := [OE.bx ba0 [vB x_11.1, v_12], own e32 v_12 x_11.2.1] ++ [OE.bx b_19 [vB x_16.1, v_17], own e32 v_17 x_16.2, OE.bx ba3 [vB x_11.2.2.1, v_14], own e32 v_14 x_11.2.2.2, OE.bx b_5 [vB x_8.1, v_9], own e32 v_9 x_8.2]) [2, 3, 0, 1, 4, 5, 6, 7] (by decide) rfl
    obtain ⟨x_21, hx_21, h⟩ := kg h
    refine kk (by kernel_rfl) rfl (c_bignum_Int_Add_a10 _ x_11.1 x_11.2.1 x_16.1 x_16.2 v_12 v_17 ba0 b_19 _ hG.give (hG.giveO 1 rfl) (hG.giveB 0 rfl) _ hx_21) rfl ?_
    rintro _ w ⟨v_22, rfl, hS1⟩
    have hS := hG.back hS1
    refine kf (ka (kc (kb 3 rfl ?_)))
    have hG := hS.pick (os' := [OE.bx ba3 [vB x_11.2.2.1, v_14], own e32 v_14 x_11.2.2.2] ++ [OE.bx ba0 [vB x_21.1, v_22], own e32 v_22 x_21.2, OE.bx b_19 [vB x_16.1, v_17], own e32 v_17 x_16.2, OE.bx b_5 [vB x_8.1, v_9], own e32 v_9 x_8.2]) [4, 5, 0, 1, 2, 3, 6, 7] (by decide) rfl
    obtain ⟨x_24, hx_24, h⟩ := kg h
    refine kk (by kernel_rfl) rfl (c_bignum_Int_Sub_a10 _ x_11.2.2.1 x_11.2.2.2 x_8.1 x_8.2 v_14 v_9 ba3 b_5 _ hG.give (hG.giveO 5 rfl) (hG.giveB 4 rfl) _ hx_24) rfl ?_
    rintro _ w ⟨v_25, rfl, hS1⟩
    have hS := hG.back hS1
    refine kf (ka ?_)
    exact kn _ (by exact ⟨rfl, rfl, trivial⟩) (hK_48 (x_21.1, x_21.2, x_24.1, x_24.2) _ _ ⟨v_22, v_25, rfl, (hS.pick [3, 2, 1, 0] (by decide) rfl)⟩ h)
   have h := if_f h hb_38
   refine ke (kc (kb 2 rfl ?_))
   obtain ⟨x_27, hx_27, h⟩ := kg h
   refine kk (by kernel_rfl) rfl (c_bignum_NewInt _ 1    _ hx_27) rfl ?_
   rintro _ w ⟨v_28, b_30, rfl, hS1⟩
   have hS := hS.call hS1
   have hG := hS.pick (os' := [OE.bx ba0 [vB x_11.1, v_12], own e32 v_12 x_11.2.1] ++ [OE.bx b_30 [vB x_27.1, v_28], own e32 v_28 x_27.2, OE.bx ba3 [vB x_11.2.2.1, v_14], own e32 v_14 x_11.2.2.2, OE.bx b_5 [vB x_8.1, v_9], own e32 v_9 x_8.2]) [2, 3, 0, 1, 4, 5, 6, 7] (by decide) rfl
   obtain ⟨x_32, hx_32, h⟩ := kg h
   refine kk (by kernel_rfl) rfl (c_bignum_Int_Sub_a10 _ x_11.1 x_11.2.1 x_27.1 x_27.2 v_12 v_28 ba0 b_30 _ hG.give (hG.giveO 1 rfl) (hG.giveB 0 rfl) _ hx_32) rfl ?_
   rintro _ w ⟨v_33, rfl, hS1⟩
   have hS := hG.back hS1
   refine kf (ka (kc (kb 3 rfl ?_)))
   have hG := hS.pick (os' := [OE.bx ba3 [vB x_11.2.2.1, v_14], own e32 v_14 x_11.2.2.2] ++ [OE.bx ba0 [vB x_32.1, v_33], own e32 v_33 x_32.2, OE.bx b_30 [vB x_27.1, v_28], own e32 v_28 x_27.2, OE.bx b_5 [vB x_8.1, v_9], own e32 v_9 x_8.2]) [4, 5, 0, 1, 2, 3, 6, 7] (by decide) rfl
   obtain ⟨x_35, hx_35, h⟩ := kg h
   refine kk (by kernel_rfl) rfl (c_bignum_Int_Add_a10 _ x_11.2.2.1 x_11.2.2.2 x_8.1 x_8.2 v_14 v_9 ba3 b_5 _ hG.give (hG.giveO 5 rfl) (hG.giveB 4 rfl) _ hx_35) rfl ?_
   rintro _ w ⟨v_36, rfl, hS1⟩
   have hS := hG.back hS1
   refine kf (ka ?_)
   exact kn _ (by exact ⟨rfl, rfl, trivial⟩) (hK_48 (x_32.1, x_32.2, x_35.1, x_35.2) _ _ ⟨v_33, v_36, rfl, (hS.pick [3, 2, 1, 0] (by decide) rfl)⟩ h)
  have h := if_f h hb_39
  refine kr (ka ?_)
  exact kn _ (by exact ⟨rfl, rfl, trivial⟩) (hK_48 (x_11.1, x_11.2.1, x_11.2.2.1, x_11.2.2.2) _ _ ⟨v_12, v_14, rfl, (hS.pick [1, 0, 3, 2] (by decide) rfl)⟩ h)
 rintro ⟨x_40, x_41, x_44, x_45⟩ L w hJ h
 try dsimp only at hJ
 obtain ⟨v_42, v_46, rfl, hS⟩ := hJ
 unfold F.bignum_Int_DivMod_a13_K1 at h
 refine ke (kc (kb 4 rfl ?_))
 refine kf (ka (kq ?_))
 cases h
 exact QE_ret2 rfl rfl rfl ⟨v_42, v_46, rfl, hS.pick [1, 0, 3, 2] (by decide) rfl⟩
theorem c_bignum_Int_Mod (w0 : World) (a0_0 : Bool) (a0_1 : List UInt32) (a1_0 : Bool) (a1_1 : List UInt32) (a2_0 : Bool) (a2_1 : List UInt32) (va0_1 : Value) (va1_1 : Value) (va2_1 : Value) (ba0 : Nat) (ba1 : Nat) (ba2 : Nat) (S : List Nat) (hS : St S w0 w0 [OE.bx ba0 [vB a0_0, va0_1], own e32 va0_1 a0_1]) (ha1_1 : RP S w0 e32 va1_1 a1_1) (hBa1 : RB S w0 ba1 [vB a1_0, va1_1]) (ha2_1 : RP S w0 e32 va2_1 a2_1) (hBa2 : RB S w0 ba2 [vB a2_0, va2_1]) (r : Bool × List UInt32)
  (h : F.bignum_Int_Mod a0_0 a0_1 a1_0 a1_1 a2_0 a2_1 = some r) : Calls Tryz.prog 94 #[pB ba0 0, pB ba1 0, pB ba2 0] w0 (Ret fun v w => ∃ u0_1 : Value, v = pB ba0 0 ∧ St S w0 w [OE.bx ba0 [vB r.1, u0_1], own e32 u0_1 r.2]) := by
 refine kz 13 Tryz.func94 rfl rfl rfl ?_
 refine kn [(0, pB ba0 0), (1, pB ba1 0), (2, pB ba2 0)] ⟨rfl, rfl, rfl, trivial⟩ ?_
 unfold F.bignum_Int_Mod at h
 refine ke (kc (kb 1 rfl ?_))
 refine kf (ka (ke (kc (kW (kE (cs := [vB false, .slice none 0 0]) tz62 rfl hS) rfl ?_))))
 rintro _ w ⟨b_3, rfl, hS⟩
 refine kb 3 rfl ?_
 replace hS := hS.nil e32
 have hG := hS.pick (os' := [OE.bx b_3 [vB false, .slice none 0 0], own e32 (.slice none 0 0) [], OE.bx ba0 [vB a0_0, va0_1], own e32 va0_1 a0_1] ++ []) [1, 0, 2, 3] (by decide) rfl
 obtain ⟨x_6, hx_6, h⟩ := kg h
 refine kk (by kernel_rfl) rfl (c_bignum_Int_DivMod _ false [] a1_0 a1_1 a2_0 a2_1 a0_0 a0_1 (.slice none 0 0) va1_1 va2_1 va0_1 b_3 ba1 ba2 ba0 _ hG.give (ha1_1.give (Nat.le_of_ble_eq_true rfl) hG) (hBa1.give hG) (ha2_1.give (Nat.le_of_ble_eq_true rfl) hG) (hBa2.give hG) _ hx_6) rfl ?_
 rintro _ w ⟨v_7, v_9, rfl, hS1⟩
 have hS := hG.back hS1
 refine kf (ka (ke (kc (kb 2 rfl ?_))))
 refine kf (ka (kq ?_))
 cases h
 exact ky rfl rfl ⟨v_9, rfl, hS.pick [2, 3] (by decide) rfl⟩
theorem c_bignum_Int_Mod_a10 (w0 : World) (a0_0 : Bool) (a0_1 : List UInt32) (a2_0 : Bool) (a2_1 : List UInt32) (va0_1 : Value) (va2_1 : Value) (ba0 : Nat) (ba2 : Nat) (S : List Nat) (hS : St S w0 w0 [OE.bx ba0 [vB a0_0, va0_1], own e32 va0_1 a0_1]) (ha2_1 : RP S w0 e32 va2_1 a2_1) (hBa2 : RB S w0 ba2 [vB a2_0, va2_1]) (r : Bool × List UInt32)
  (h : F.bignum_Int_Mod_a10 a0_0 a0_1 a2_0 a2_1 = some r) : Calls Tryz.prog 94 #[pB ba0 0, pB ba0 0, pB ba2 0] w0 (Ret fun v w => ∃ u0_1 : Value, v = pB ba0 0 ∧ St S w0 w [OE.bx ba0 [vB r.1, u0_1], own e32 u0_1 r.2]) := by
 refine kz 13 Tryz.func94 rfl rfl rfl ?_
 refine kn [(0, pB ba0 0), (1, pB ba0 0), (2, pB ba2 0)] ⟨rfl, rfl, rfl, trivial⟩ ?_
 unfold F.bignum_Int_Mod_a10 at h
 refine ke (kc (kb 1 rfl ?_))
 refine kf (ka (ke (kc (kW (kE (cs := [vB false, .slice none 0 0]) tz62 rfl hS) rfl ?_))))
 rintro _ w ⟨b_3, rfl, hS⟩
 refine kb 3 rfl ?_
 replace hS := hS.nil e32
 have hG := hS.pick (os' := [OE.bx b_3 [vB false, .slice none 0 0], own e32 (.slice none 0 0) [], OE.bx ba0 [vB a0_0, va0_1], own e32 va0_1 a0_1] ++ []) [1, 0, 2, 3] (by decide) rfl
 obtain ⟨x_6, hx_6, h⟩ := kg h
 refine kk (by kernel_rfl) rfl (c_bignum_Int_DivMod_a13 _ false [] a2_0 a2_1 a0_0 a0_1 (.slice none 0 0) va2_1 va0_1 b_3 ba2 ba0 _ hG.give (ha2_1.give (Nat.le_of_ble_eq_true rfl) hG) (hBa2.give hG) _ hx_6) rfl ?_
 rintro _ w ⟨v_7, v_9, rfl, hS1⟩
 have hS := hG.back hS1
 refine kf (ka (ke (kc (kb 2 rfl ?_))))
 refine kf (ka (kq ?_))
 cases h
 exact ky rfl rfl ⟨v_9, rfl, hS.pick [2, 3] (by decide) rfl⟩
end Go.Proofs
