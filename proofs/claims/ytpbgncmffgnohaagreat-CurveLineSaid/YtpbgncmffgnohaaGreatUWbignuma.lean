import Derived.Test.YtpbgncmffgnohaaGreatUW0
import Derived.Test.YtpbgncmffgnohaaGreatGkFbignum
set_option linter.unusedVariables false
set_option linter.unusedSimpArgs false
set_option linter.unusedVariables false
set_option maxRecDepth 4000
namespace Go.Proofs
open Go Go.RowKit Go.Gk
theorem c_bignum_trim (w0 : World) (a0 : List UInt32) (va0 : Value) (S : List Nat) (hS : St S w0 w0 [own e32 va0 a0]) (r : List UInt32)
  (h : F.bignum_trim a0 = some r) : Calls Tryz.prog 106 #[va0] w0 (Ret fun v w => ∃ u0 : Value, v = u0 ∧ St S w0 w [own e32 u0 r]) := by
 refine kz 21 Tryz.func106 rfl rfl rfl ?_
 refine kn [(0, va0)] ⟨rfl, trivial⟩ ?_
 unfold F.bignum_trim at h
 refine ke (kc (kb 1 rfl ?_))
 refine kf (ka (ke (kc (kb 1 rfl ?_))))
 refine ki (kB Tryz.underlying24 rfl (hS.ro 0 rfl)) rfl (kb 1 rfl ?_)
 refine kf (ka (ke (kw ?_)))
 refine kn [(0, va0), (3, vI (a0.length : Int))] ⟨rfl, rfl, trivial⟩ ?_
 refine kS (F.bignum_trim_L1 a0) (fun (s : Int) L w => L = [(0, va0), (3, vI s)] ∧ St S w0 w [own e32 va0 a0]) ?_ (a0.length : Int) ⟨rfl, hS⟩ h
 rintro k_12 x_2 L w q_5 hI ih_4 h hk_3
 try dsimp only at hI
 obtain ⟨rfl, hS⟩ := hI
 unfold F.bignum_trim_L1 at h
 refine ke ?_
 refine kO (r := q_5) (fun (g : Bool) L w => L = [(0, va0), (3, vI x_2), (15, vB g)] ∧ St S w0 w [own e32 va0 a0]) (F.bignum_trim_K1 a0 x_2) ?_ ?_
 rotate_left
 ·intro hK_9
  refine kc (kb 3 rfl ?_)
  cases hb_6 : (decide ((0 : Int) < x_2))
  case true =>
   have h := if_t h hb_6
   try simp only [hb_6]
   refine kb 3 rfl ?_
   obtain ⟨x_7, hx_7, h⟩ := kg h
   refine kT (t := 8) rfl rfl (G_ix Tryz.underlying24 ti52 rfl rfl (hS.ro 0 rfl) hx_7) rfl (kT (t := 8) rfl rfl (G_load Tryz.underlying52 rfl rfl (hS.ro 0 rfl) hx_7 rfl) rfl (kT (t := 8) rfl rfl (kt rfl rfl (b_eql32 _ x_7 0)) rfl (kb 1 rfl ?_)))
   refine kf (ka ?_)
   exact kn _ (by exact ⟨rfl, rfl, rfl, trivial⟩) (hK_9 (x_7 == 0) _ _ ⟨rfl, hS⟩ h)
  case false =>
   have h := if_f h hb_6
   try simp only [hb_6]
   refine kb 7 rfl ?_
   refine kf (ka ?_)
   exact kn _ (by exact ⟨rfl, rfl, rfl, trivial⟩) (hK_9 false _ _ ⟨rfl, hS⟩ h)
 rintro x_8 L w hJ h
 try dsimp only at hJ
 obtain ⟨rfl, hS⟩ := hJ
 unfold F.bignum_trim_K1 at h
 refine ko rfl (fun hb_11 => ?_) (fun hb_11 => ?_)
 ·have h := if_t h hb_11
  refine kr (ka (kw ?_))
  refine kc (kb 3 rfl ?_)
  refine kf (kK ?_)
  exact QE_rnd (wpN_le _ (by exact ⟨rfl, rfl, trivial⟩) (ih_4 (wI (x_2 - 1)) _ _ ⟨rfl, hS⟩ (kL h hk_3)))
 have h := if_f h hb_11
 refine kQ ?_
 refine kx (kx ?_)
 have h := kG h hk_3
 refine kR ?_
 refine ka (ke (kc (kb 2 rfl ?_)))
 obtain ⟨hg_10, h⟩ := grd_some h
 refine ki (G_slh Tryz.underlying24 ti52 rfl rfl (hS.ro 0 rfl) (tkO_of hg_10)) rfl (kb 1 rfl ?_)
 refine kf (ka (kq ?_))
 cases h
 replace hS := hS.trunc (i := 0) rfl hg_10.2
 exact ky rfl rfl ⟨slV va0 e32.sz 0 ((x_2 : Int).toNat), rfl, hS.pick [0] (by decide) rfl⟩
theorem c_bignum_words (w0 : World) (a0 : UInt64)   (r : List UInt32)
  (h : F.bignum_words a0 = some r) : Calls Tryz.prog 75 #[v64 a0] w0 (Ret fun v w => St [] w0 w [own e32 v r]) := by
 refine kz 10 Tryz.func75 rfl rfl rfl ?_
 have hS := St.start w0
 refine kn [(0, v64 a0)] ⟨rfl, trivial⟩ ?_
 unfold F.bignum_words at h
 refine ke (kc (kb 1 rfl ?_))
 refine kf (ka (ke (kc (kb 1 rfl ?_))))
 refine ki (kF rfl (cv_64_32 Tryz.underlying94 Tryz.underlying52 a0)) rfl (kb 1 rfl ?_)
 refine ki (kt rfl rfl (b_shr64_64 _ a0 32)) rfl (ki (kF rfl (cv_64_32 Tryz.underlying94 Tryz.underlying52 (shr64 a0 32))) rfl ?_)
 refine kW (OpX_lit (e := e32) (l := ([a0.toUInt32, (shr64 a0 32).toUInt32] : List UInt32)) (vs := [v32 a0.toUInt32, v32 ((shr64 a0 32).toUInt32)]) Tryz.underlying24 ti52 rfl rfl rfl rfl (by decide) (by decide) hS) rfl ?_
 rintro v_1 w hS
 have hG := hS.pick (os' := [own e32 v_1 ([a0.toUInt32, (shr64 a0 32).toUInt32] : List UInt32)] ++ []) [0] (by decide) rfl
 obtain ⟨x_3, hx_3, h⟩ := kg h
 refine kk (by kernel_rfl) rfl (c_bignum_trim _ ([a0.toUInt32, (shr64 a0 32).toUInt32] : List UInt32) v_1  _ hG.give  _ hx_3) rfl ?_
 rintro v_4 w ⟨v_4q, hqv_4, hS1⟩
 rw [← hqv_4] at hS1
 have hS := hG.back hS1
 refine kb 1 rfl ?_
 refine kf (ka (kq ?_))
 cases h
 exact ky rfl rfl (hS.pick [0] (by decide) rfl)
theorem c_bignum_mul (w0 : World) (a0 : List UInt32) (a1 : List UInt32) (va0 : Value) (va1 : Value) (ha0 : RP [] w0 e32 va0 a0) (ha1 : RP [] w0 e32 va1 a1) (r : List UInt32)
  (h : F.bignum_mul a0 a1 = some r) : Calls Tryz.prog 126 #[va0, va1] w0 (Ret fun v w => St [] w0 w [own e32 v r]) := by
 refine kz 75 Tryz.func126 rfl rfl rfl ?_
 have hS := St.start w0
 refine kn [(0, va0), (1, va1)] ⟨rfl, rfl, trivial⟩ ?_
 unfold F.bignum_mul at h
 refine ke (kc (kb 1 rfl ?_))
 refine kf (ka (ke ?_))
 refine kO (r := r) (fun (g : Bool) L w => L = [(0, va0), (1, va1), (16, vB g)] ∧ St [] w0 w []) (F.bignum_mul_K1 a0 a1) ?_ ?_
 rotate_left
 ·intro hK_3
  refine kc (kb 1 rfl ?_)
  refine ki (kB Tryz.underlying24 rfl (ha0.now hS.fr)) rfl (kb 2 rfl ?_)
  cases hb_1 : ((a0.length : Int) == 0)
  case true =>
   have h := if_t h hb_1
   try simp only [hb_1]
   refine kb 4 rfl ?_
   refine kf (ka ?_)
   exact kn _ (by exact ⟨rfl, rfl, rfl, trivial⟩) (hK_3 true _ _ ⟨rfl, hS⟩ h)
  case false =>
   have h := if_f h hb_1
   try simp only [hb_1]
   refine kb 1 rfl ?_
   refine kT (t := 12) rfl rfl (kB Tryz.underlying24 rfl (ha1.now hS.fr)) rfl (kb 2 rfl ?_)
   refine kf (ka ?_)
   exact kn _ (by exact ⟨rfl, rfl, rfl, trivial⟩) (hK_3 ((a1.length : Int) == 0) _ _ ⟨rfl, hS⟩ h)
 rintro x_2 L w hJ h
 try dsimp only at hJ
 obtain ⟨rfl, hS⟩ := hJ
 unfold F.bignum_mul_K1 at h
 refine ko rfl (fun hb_33 => ?_) (fun hb_33 => ?_)
 ·have h := if_t h hb_33
  refine ke (kc (kb 1 rfl ?_))
  refine kf (ka (kq (kv ?_)))
  cases h
  exact ky rfl rfl ((hS.nil e32).pick [0] (by decide) rfl)
 have h := if_f h hb_33
 refine kr (ka (ke (kc (kb 1 rfl ?_))))
 refine ki (kB Tryz.underlying24 rfl (ha0.now hS.fr)) rfl (kb 1 rfl ?_)
 refine ki (kB Tryz.underlying24 rfl (ha1.now hS.fr)) rfl (kb 1 rfl ?_)
 obtain ⟨x_4, hx_4, h⟩ := kg h
 refine kW (G_make (e := e32) Tryz.underlying24 ti52 rfl rfl rfl hS hx_4) rfl ?_
 rintro v_5 w hS
 refine kb 1 rfl ?_
 refine kf (ka (ke (ke (kc (kb 1 rfl ?_)))))
 refine kf (ka (kw ?_))
 refine kn [(0, va0), (1, va1), (5, v_5), (6, vI 0)] ⟨rfl, rfl, rfl, rfl, trivial⟩ ?_
 refine kS (F.bignum_mul_L1 a0 a1) (fun (s : Int × List UInt32) L w => L = [(0, va0), (1, va1), (5, v_5), (6, vI s.1)] ∧ St [] w0 w [own e32 v_5 s.2]) ?_ (0, x_4) ⟨rfl, hS⟩ h
 rintro k_32 ⟨x_7, x_8⟩ L w q_11 hI ih_10 h hk_9
 try dsimp only at hI
 obtain ⟨rfl, hS⟩ := hI
 unfold F.bignum_mul_L1 at h
 refine ke (ke (kc (kb 2 rfl ?_)))
 refine ki (kB Tryz.underlying24 rfl (ha0.now hS.fr)) rfl (kb 1 rfl ?_)
 refine kf (ka ?_)
 refine ko rfl (fun hb_31 => ?_) (fun hb_31 => ?_)
 ·have h := if_t h hb_31
  refine kr (ka (ke (kw ?_)))
  refine ke (kc (kb 1 rfl ?_))
  refine kf (ka (ke (ke (kc (kb 1 rfl ?_)))))
  refine kf (ka (kw ?_))
  refine kn [(0, va0), (1, va1), (5, v_5), (6, vI x_7), (7, v64 0), (8, vI 0)] ⟨rfl, rfl, rfl, rfl, rfl, rfl, trivial⟩ ?_
  refine kS (F.bignum_mul_L2 a0 a1 x_7) (fun (s : UInt64 × Int × List UInt32) L w => L = [(0, va0), (1, va1), (5, v_5), (6, vI x_7), (7, v64 s.1), (8, vI s.2.1)] ∧ St [] w0 w [own e32 v_5 s.2.2]) ?_ (0, 0, x_8) ⟨rfl, hS⟩ h
  rintro k_27 ⟨x_12, x_13, x_14⟩ L w q_17 hI ih_16 h hk_15
  try dsimp only at hI
  obtain ⟨rfl, hS⟩ := hI
  unfold F.bignum_mul_L2 at h
  refine ke (ke (kc (kb 2 rfl ?_)))
  refine ki (kB Tryz.underlying24 rfl (ha1.now hS.fr)) rfl (kb 1 rfl ?_)
  refine kf (ka ?_)
  refine ko rfl (fun hb_26 => ?_) (fun hb_26 => ?_)
  ·have h := if_t h hb_26
   refine kr (ka (ke (kw ?_)))
   refine ke ?_
   refine kN (fun w' => St [] w0 w' [own e32 v_5 x_14]) (fun _ => true) hmix (fun _ _ _ hf => hf.2) (fun _ _ hf => hf) (by kernel_rfl) ?_
   have hS := hS.drew
   show lxE _ _ _ _ _ _ _ [0, 1, 2, 3, 4, 5, 6, 7, 8, 9, 10, 11, 12, 13, 14, 15, 16, 17, 18, 19, 20, 21] _ _
   refine kj hS rfl rfl (fun w hF => km rfl) rfl (kj hS rfl rfl (fun w hF => km rfl) rfl (kj hS rfl rfl (fun w hF => km rfl) rfl ?_))
   obtain ⟨x_18, hx_18, h⟩ := kg h
   refine kj hS rfl rfl (fun w hF => G_ix Tryz.underlying24 ti52 rfl rfl (ha0.now hF.fr) hx_18) rfl (kj hS rfl rfl (fun w hF => G_load Tryz.underlying52 rfl rfl (ha0.now hF.fr) hx_18 rfl) rfl (kj hS rfl rfl (fun w hF => kF rfl (cv_32_64 Tryz.underlying52 Tryz.underlying94 x_18)) rfl (kj hS rfl rfl (fun w hF => km rfl) rfl (kj hS rfl rfl (fun w hF => km rfl) rfl ?_))))
   obtain ⟨x_19, hx_19, h⟩ := kg h
   refine kj hS rfl rfl (fun w hF => G_ix Tryz.underlying24 ti52 rfl rfl (ha1.now hF.fr) hx_19) rfl (kj hS rfl rfl (fun w hF => G_load Tryz.underlying52 rfl rfl (ha1.now hF.fr) hx_19 rfl) rfl (kj hS rfl rfl (fun w hF => kF rfl (cv_32_64 Tryz.underlying52 Tryz.underlying94 x_19)) rfl (kj hS rfl rfl (fun w hF => kt rfl rfl (b_mul64 _ x_18.toUInt64 x_19.toUInt64)) rfl (kj hS rfl rfl (fun w hF => km rfl) rfl (kj hS rfl rfl (fun w hF => km rfl) rfl (kj hS rfl rfl (fun w hF => km rfl) rfl (kj hS rfl rfl (fun w hF => kt rfl rfl (b_iadd _ x_7 x_13)) rfl ?_)))))))
   obtain ⟨x_20, hx_20, h⟩ := kg h
   refine kj hS rfl rfl (fun w hF => G_ix Tryz.underlying24 ti52 rfl rfl (hF.ro 0 rfl) hx_20) rfl (kj hS rfl rfl (fun w hF => G_load Tryz.underlying52 rfl rfl (hF.ro 0 rfl) hx_20 rfl) rfl (kj hS rfl rfl (fun w hF => kF rfl (cv_32_64 Tryz.underlying52 Tryz.underlying94 x_20)) rfl (kj hS rfl rfl (fun w hF => kt rfl rfl (b_add64 _ (x_18.toUInt64 * x_19.toUInt64) x_20.toUInt64)) rfl (kj hS rfl rfl (fun w hF => kt rfl rfl (b_add64 _ x_12 ((x_18.toUInt64 * x_19.toUInt64) + x_20.toUInt64))) rfl ?_))))
   obtain ⟨x_21, hx_21, h⟩ := kI h
   refine kj hS rfl rfl (fun w hF => kA (v := v64 x_21) (by rw [← hx_21]; rfl)) rfl ?_
   refine kY hS ?_
   refine ka (ke (kc (kb 5 rfl ?_)))
   refine ki (kF rfl (cv_64_32 Tryz.underlying94 Tryz.underlying52 x_21)) rfl ?_
   obtain ⟨x_22, hx_22, h⟩ := kg h
   refine ki (G_ix Tryz.underlying24 ti52 rfl rfl (hS.ro 0 rfl) hx_22) rfl (kX (G_storeE (t := x_21.toUInt32) ti52 rfl rfl hS (i := 0) rfl hx_22 rfl) ?_)
   intro w hS
   obtain ⟨x_23, hx_23, h⟩ := kI h
   rw [hx_23] at hS
   refine kf (ka (kc (kb 1 rfl ?_)))
   refine ki (kt rfl rfl (b_shr64_64 _ x_21 32)) rfl (kb 1 rfl ?_)
   refine kf (kK ?_)
   refine ka (kc (kb 3 rfl ?_))
   refine kf ?_
   exact QE_rnd (wpN_le _ (by exact ⟨rfl, rfl, rfl, rfl, rfl, rfl, trivial⟩) (ih_16 (shr64 x_21 32, wI (x_13 + 1), x_23) _ _ ⟨rfl, hS⟩ (kL h hk_15)))
  have h := if_f h hb_26
  refine kQ ?_
  refine kx (kx ?_)
  have h := kG h hk_15
  refine kR ?_
  refine ka (kc (kb 3 rfl ?_))
  refine ki (kB Tryz.underlying24 rfl (ha1.now hS.fr)) rfl (kb 2 rfl ?_)
  refine ki (kF rfl (cv_64_32 Tryz.underlying94 Tryz.underlying52 x_12)) rfl ?_
  obtain ⟨x_24, hx_24, h⟩ := kg h
  refine ki (G_ix Tryz.underlying24 ti52 rfl rfl (hS.ro 0 rfl) hx_24) rfl (kX (G_storeE (t := x_12.toUInt32) ti52 rfl rfl hS (i := 0) rfl hx_24 rfl) ?_)
  intro w hS
  obtain ⟨x_25, hx_25, h⟩ := kI h
  rw [hx_25] at hS
  refine kf (kK ?_)
  refine ka (kc (kb 3 rfl ?_))
  refine kf ?_
  exact QE_rnd (wpN_le _ (by exact ⟨rfl, rfl, rfl, rfl, trivial⟩) (ih_10 (wI (x_7 + 1), x_25) _ _ ⟨rfl, hS⟩ (kL h hk_9)))
 have h := if_f h hb_31
 refine kQ ?_
 refine kx (kx ?_)
 have h := kG h hk_9
 refine kR ?_
 refine ka (ke (kc (kb 1 rfl ?_)))
 have hG := hS.pick (os' := [own e32 v_5 x_8] ++ []) [0] (by decide) rfl
 obtain ⟨x_28, hx_28, h⟩ := kg h
 refine kk (by kernel_rfl) rfl (c_bignum_trim _ x_8 v_5  _ hG.give  _ hx_28) rfl ?_
 rintro v_29 w ⟨v_29q, hqv_29, hS1⟩
 rw [← hqv_29] at hS1
 have hS := hG.back hS1
 refine kb 1 rfl ?_
 refine kf (ka (kq ?_))
 cases h
 exact ky rfl rfl (hS.pick [0] (by decide) rfl)
theorem c_bignum_add (w0 : World) (a0 : List UInt32) (a1 : List UInt32) (va0 : Value) (va1 : Value) (ha0 : RP [] w0 e32 va0 a0) (ha1 : RP [] w0 e32 va1 a1) (r : List UInt32)
  (h : F.bignum_add a0 a1 = some r) : Calls Tryz.prog 73 #[va0, va1] w0 (Ret fun v w => St [] w0 w [own e32 v r]) := by
 refine kz 58 Tryz.func73 rfl rfl rfl ?_
 have hS := St.start w0
 refine kn [(0, va0), (1, va1)] ⟨rfl, rfl, trivial⟩ ?_
 unfold F.bignum_add at h
 refine ke (kc (kb 1 rfl ?_))
 refine kf (ka ?_)
 refine kO (r := r) (fun (g : List UInt32 × List UInt32) L w => ∃ (v_3 : Value) (v_6 : Value), L = [(0, v_3), (1, v_6)] ∧ RP [] w0 e32 v_3 g.1 ∧ RP [] w0 e32 v_6 g.2 ∧ St [] w0 w []) (F.bignum_add_K1) ?_ ?_
 rotate_left
 ·intro hK_8
  refine ke (kc (kb 1 rfl ?_))
  refine ki (kB Tryz.underlying24 rfl (ha0.now hS.fr)) rfl (kb 1 rfl ?_)
  refine ki (kB Tryz.underlying24 rfl (ha1.now hS.fr)) rfl (kb 1 rfl ?_)
  refine kf (ka ?_)
  refine ko rfl (fun hb_1 => ?_) (fun hb_1 => ?_)
  ·have h := if_t h hb_1
   refine kc (kb 4 rfl ?_)
   refine kf (ka ?_)
   exact kn _ (by exact ⟨rfl, rfl, trivial⟩) (hK_8 (a1, a0) _ _ ⟨va1, va0, rfl, ha1, ha0, hS⟩ h)
  have h := if_f h hb_1
  refine kr (ka ?_)
  exact kn _ (by exact ⟨rfl, rfl, trivial⟩) (hK_8 (a0, a1) _ _ ⟨va0, va1, rfl, ha0, ha1, hS⟩ h)
 rintro ⟨x_2, x_5⟩ L w hJ h
 try dsimp only at hJ
 obtain ⟨v_3, v_6, rfl, hR_4, hR_7, hS⟩ := hJ
 unfold F.bignum_add_K1 at h
 refine ke (kc (kb 1 rfl ?_))
 refine ki (kB Tryz.underlying24 rfl (hR_4.now hS.fr)) rfl (kb 1 rfl ?_)
 obtain ⟨x_9, hx_9, h⟩ := kg h
 refine kW (G_make (e := e32) Tryz.underlying24 ti52 rfl rfl rfl hS hx_9) rfl ?_
 rintro v_10 w hS
 refine kb 1 rfl ?_
 refine kf (ka (ke (kc (kb 1 rfl ?_))))
 refine kf (ka (ke (ke (kc (kb 1 rfl ?_)))))
 refine kf (ka (kw ?_))
 refine kn [(0, v_3), (1, v_6), (5, v_10), (6, v64 0), (7, vI 0)] ⟨rfl, rfl, rfl, rfl, rfl, trivial⟩ ?_
 refine kS (F.bignum_add_L1 x_2 x_5) (fun (s : UInt64 × Int × List UInt32) L w => L = [(0, v_3), (1, v_6), (5, v_10), (6, v64 s.1), (7, vI s.2.1)] ∧ St [] w0 w [own e32 v_10 s.2.2]) ?_ (0, 0, x_9) ⟨rfl, hS⟩ h
 rintro k_32 ⟨x_12, x_13, x_14⟩ L w q_17 hI ih_16 h hk_15
 try dsimp only at hI
 obtain ⟨rfl, hS⟩ := hI
 unfold F.bignum_add_L1 at h
 refine ke (ke (kc (kb 2 rfl ?_)))
 refine ki (kB Tryz.underlying24 rfl (hR_4.now hS.fr)) rfl (kb 1 rfl ?_)
 refine kf (ka ?_)
 refine ko rfl (fun hb_31 => ?_) (fun hb_31 => ?_)
 ·have h := if_t h hb_31
  refine kr (ka (ke (kw ?_)))
  refine ke (kc (kb 3 rfl ?_))
  obtain ⟨x_18, hx_18, h⟩ := kg h
  refine ki (G_ix Tryz.underlying24 ti52 rfl rfl (hR_4.now hS.fr) hx_18) rfl (ki (G_load Tryz.underlying52 rfl rfl (hR_4.now hS.fr) hx_18 rfl) rfl (ki (kF rfl (cv_32_64 Tryz.underlying52 Tryz.underlying94 x_18)) rfl (ki (kt rfl rfl (b_add64 _ x_12 x_18.toUInt64)) rfl (kb 1 rfl ?_))))
  refine kf (ka ?_)
  refine kO (r := q_17) (fun (g : UInt64) L w => L = [(0, v_3), (1, v_6), (5, v_10), (6, v64 g), (7, vI x_13)] ∧ St [] w0 w [own e32 v_10 x_14]) (F.bignum_add_K2 x_13 x_14) ?_ ?_
  rotate_left
  ·intro hK_23
   refine ke (kc (kb 2 rfl ?_))
   refine ki (kB Tryz.underlying24 rfl (hR_7.now hS.fr)) rfl (kb 1 rfl ?_)
   refine kf (ka ?_)
   refine ko rfl (fun hb_21 => ?_) (fun hb_21 => ?_)
   ·have h := if_t h hb_21
    refine kc (kb 3 rfl ?_)
    obtain ⟨x_19, hx_19, h⟩ := kg h
    refine ki (G_ix Tryz.underlying24 ti52 rfl rfl (hR_7.now hS.fr) hx_19) rfl (ki (G_load Tryz.underlying52 rfl rfl (hR_7.now hS.fr) hx_19 rfl) rfl (ki (kF rfl (cv_32_64 Tryz.underlying52 Tryz.underlying94 x_19)) rfl (ki (kt rfl rfl (b_add64 _ (x_12 + x_18.toUInt64) x_19.toUInt64)) rfl ?_)))
    obtain ⟨x_20, hx_20, h⟩ := kI h
    refine ki (kA (v := v64 x_20) (by rw [← hx_20]; rfl)) rfl ?_
    refine kf (ka ?_)
    exact kn _ (by exact ⟨rfl, rfl, rfl, rfl, rfl, trivial⟩) (hK_23 x_20 _ _ ⟨rfl, hS⟩ h)
   have h := if_f h hb_21
   refine kr (ka ?_)
   exact kn _ (by exact ⟨rfl, rfl, rfl, rfl, rfl, trivial⟩) (hK_23 (x_12 + x_18.toUInt64) _ _ ⟨rfl, hS⟩ h)
  rintro x_22 L w hJ h
  try dsimp only at hJ
  obtain ⟨rfl, hS⟩ := hJ
  unfold F.bignum_add_K2 at h
  refine ke (kc (kb 3 rfl ?_))
  refine ki (kF rfl (cv_64_32 Tryz.underlying94 Tryz.underlying52 x_22)) rfl ?_
  obtain ⟨x_24, hx_24, h⟩ := kg h
  refine ki (G_ix Tryz.underlying24 ti52 rfl rfl (hS.ro 0 rfl) hx_24) rfl (kX (G_storeE (t := x_22.toUInt32) ti52 rfl rfl hS (i := 0) rfl hx_24 rfl) ?_)
  intro w hS
  obtain ⟨x_25, hx_25, h⟩ := kI h
  rw [hx_25] at hS
  refine kf (ka (kc (kb 1 rfl ?_)))
  refine ki (kt rfl rfl (b_shr64_64 _ x_22 32)) rfl (kb 1 rfl ?_)
  refine kf (kK ?_)
  refine ka (kc (kb 3 rfl ?_))
  refine kf ?_
  exact QE_rnd (wpN_le _ (by exact ⟨rfl, rfl, rfl, rfl, rfl, trivial⟩) (ih_16 (shr64 x_22 32, wI (x_13 + 1), x_25) _ _ ⟨rfl, hS⟩ (kL h hk_15)))
 have h := if_f h hb_31
 refine kQ ?_
 refine kx (kx ?_)
 have h := kG h hk_15
 refine kR ?_
 refine ka (ke (kc (kb 2 rfl ?_)))
 refine ki (kB Tryz.underlying24 rfl (hR_4.now hS.fr)) rfl (kb 1 rfl ?_)
 refine ki (kF rfl (cv_64_32 Tryz.underlying94 Tryz.underlying52 x_12)) rfl ?_
 obtain ⟨x_26, hx_26, h⟩ := kg h
 refine ki (G_ix Tryz.underlying24 ti52 rfl rfl (hS.ro 0 rfl) hx_26) rfl (kX (G_storeE (t := x_12.toUInt32) ti52 rfl rfl hS (i := 0) rfl hx_26 rfl) ?_)
 intro w hS
 obtain ⟨x_27, hx_27, h⟩ := kI h
 rw [hx_27] at hS
 refine kf (ka (ke (kc (kb 1 rfl ?_))))
 have hG := hS.pick (os' := [own e32 v_10 x_27] ++ []) [0] (by decide) rfl
 obtain ⟨x_28, hx_28, h⟩ := kg h
 refine kk (by kernel_rfl) rfl (c_bignum_trim _ x_27 v_10  _ hG.give  _ hx_28) rfl ?_
 rintro v_29 w ⟨v_29q, hqv_29, hS1⟩
 rw [← hqv_29] at hS1
 have hS := hG.back hS1
 refine kb 1 rfl ?_
 refine kf (ka (kq ?_))
 cases h
 exact ky rfl rfl (hS.pick [0] (by decide) rfl)
theorem c_bignum_Int_give (w0 : World) (a0_0 : Bool) (a0_1 : List UInt32) (a1 : Bool) (a2 : List UInt32) (va0_1 : Value) (va2 : Value) (ba0 : Nat) (S : List Nat) (hS : St S w0 w0 [OE.bx ba0 [vB a0_0, va0_1], own e32 va0_1 a0_1, own e32 va2 a2]) (r : Bool × List UInt32)
  (h : F.bignum_Int_give a0_0 a0_1 a1 a2 = some r) : Calls Tryz.prog 76 #[pB ba0 0, vB a1, va2] w0 (Ret fun v w => ∃ u0_1 : Value, v = pB ba0 0 ∧ St S w0 w [OE.bx ba0 [vB r.1, u0_1], own e32 u0_1 r.2]) := by
 refine kz 21 Tryz.func76 rfl rfl rfl ?_
 refine kn [(0, pB ba0 0), (1, vB a1), (2, va2)] ⟨rfl, rfl, rfl, trivial⟩ ?_
 unfold F.bignum_Int_give at h
 refine ke (kc (kb 1 rfl ?_))
 refine kf (ka (ke (kc (kb 2 rfl ?_))))
 refine ki (kJ rfl) rfl (ki (kl (k := 1) Tryz.underlying62 rfl rfl nz24 rfl) rfl (kX (kM (i := 0) (us := [va2]) rfl sz24 rfl rfl (cells_one (hS.ro 2 rfl).one) ⟨(hS.ro 2 rfl).one, trivial⟩ rfl hS) ?_))
 intro w hS
 refine kf (ka ?_)
 refine kO (r := r) (fun (g : Bool) L w => L = [(0, pB ba0 0)] ∧ St S w0 w [OE.bx ba0 [vB g, va2], own e32 va2 a2]) (F.bignum_Int_give_K1 a2) ?_ ?_
 rotate_left
 ·intro hK_6
  refine kc (kb 3 rfl ?_)
  cases hb_4 : a1
  case true =>
   have h := if_t h hb_4
   try simp only [hb_4]
   refine kb 1 rfl ?_
   refine kT (t := 13) rfl rfl (kB Tryz.underlying24 rfl (hS.ro 2 rfl)) rfl (kb 2 rfl ?_)
   refine ki (kJ rfl) rfl (ki (kl (k := 0) Tryz.underlying62 rfl rfl nz4 rfl) rfl (kX (kM (i := 0) (us := [vB (decide ((0 : Int) < (a2.length : Int)))]) rfl sz4 rfl rfl rfl ⟨rfl, trivial⟩ rfl hS) ?_))
   intro w hS
   refine kf (ka ?_)
   exact kn _ (by exact ⟨rfl, trivial⟩) (hK_6 (decide ((0 : Int) < (a2.length : Int))) _ _ ⟨rfl, (hS.pick [0, 2] (by decide) rfl)⟩ h)
  case false =>
   have h := if_f h hb_4
   try simp only [hb_4]
   refine kb 4 rfl ?_
   refine ki (kJ rfl) rfl (ki (kl (k := 0) Tryz.underlying62 rfl rfl nz4 rfl) rfl (kX (kM (i := 0) (us := [vB false]) rfl sz4 rfl rfl rfl ⟨rfl, trivial⟩ rfl hS) ?_))
   intro w hS
   refine kf (ka ?_)
   exact kn _ (by exact ⟨rfl, trivial⟩) (hK_6 false _ _ ⟨rfl, (hS.pick [0, 2] (by decide) rfl)⟩ h)
 rintro x_5 L w hJ h
 try dsimp only at hJ
 obtain ⟨rfl, hS⟩ := hJ
 unfold F.bignum_Int_give_K1 at h
 refine ke (kc (kb 2 rfl ?_))
 refine kf (ka (kq ?_))
 cases h
 exact ky rfl rfl ⟨va2, rfl, hS.pick [0, 1] (by decide) rfl⟩
theorem c_bignum_Int_SetString (w0 : World) (a0_0 : Bool) (a0_1 : List UInt32) (a1 : List UInt8) (a2 : Int) (va0_1 : Value) (ba0 : Nat) (S : List Nat) (hS : St S w0 w0 [OE.bx ba0 [vB a0_0, va0_1], own e32 va0_1 a0_1]) (r : Bool × Bool × List UInt32)
  (h : F.bignum_Int_SetString a0_0 a0_1 a1 a2 = some r) : Calls Tryz.prog 125 #[pB ba0 0, vS a1, vI a2] w0 (Ret fun v w => ∃ u0_1 : Value, v = .tuple #[pB ba0 0, vB r.1] ∧ St S w0 w [OE.bx ba0 [vB r.2.1, u0_1], own e32 u0_1 r.2.2]) := by
 refine kz 124 Tryz.func125 rfl rfl rfl ?_
 refine kn [(0, pB ba0 0), (1, vS a1), (2, vI a2)] ⟨rfl, rfl, rfl, trivial⟩ ?_
 unfold F.bignum_Int_SetString at h
 refine ke (kc (kb 2 rfl ?_))
 refine kf (ka (ke (kc (kb 1 rfl ?_))))
 refine kf (ka ?_)
 refine kO (r := r) (fun (g : List UInt8 × Bool) L w => L = [(0, pB ba0 0), (1, vS g.1), (2, vI a2), (8, vB g.2)] ∧ St S w0 w [OE.bx ba0 [vB a0_0, va0_1], own e32 va0_1 a0_1]) (F.bignum_Int_SetString_K1 a2 a0_0 a0_1) ?_ ?_
 rotate_left
 ·intro hK_14
  refine kO (r := r) (fun (g : Bool) L w => L = [(0, pB ba0 0), (1, vS a1), (2, vI a2), (8, vB false), (25, vB g)] ∧ St S w0 w [OE.bx ba0 [vB a0_0, va0_1], own e32 va0_1 a0_1]) (F.bignum_Int_SetString_K13 a1 a2 a0_0 a0_1) ?_ ?_
  rotate_left
  ·intro hK_8
   refine kc (kb 1 rfl ?_)
   refine ki (OpV_lenS Tryz.underlying9 rfl) rfl (kb 2 rfl ?_)
   cases hb_3 : (decide ((0 : Int) < (a1.length : Int)))
   case true =>
    have h := if_t h hb_3
    try simp only [hb_3]
    refine kb 1 rfl ?_
    obtain ⟨x_4, hx_4, h⟩ := kg h
    refine kT (t := 16) rfl rfl (G_ixS Tryz.underlying9 rfl rfl hx_4) rfl (kT (t := 16) rfl rfl (kt rfl rfl (b_eql8 _ x_4 45)) rfl (kb 1 rfl ?_))
    cases hb_5 : (x_4 == 45)
    case true =>
     have h := if_t h hb_5
     try simp only [hb_5]
     refine kb 5 rfl ?_
     refine kf (ka ?_)
     exact kn _ (by exact ⟨rfl, rfl, rfl, rfl, rfl, trivial⟩) (hK_8 true _ _ ⟨rfl, hS⟩ h)
    case false =>
     have h := if_f h hb_5
     try simp only [hb_5]
     refine kb 1 rfl ?_
     obtain ⟨x_6, hx_6, h⟩ := kg h
     refine kT (t := 20) rfl rfl (G_ixS Tryz.underlying9 rfl rfl hx_6) rfl (kT (t := 20) rfl rfl (kt rfl rfl (b_eql8 _ x_6 43)) rfl (kb 2 rfl ?_))
     refine kf (ka ?_)
     exact kn _ (by exact ⟨rfl, rfl, rfl, rfl, rfl, trivial⟩) (hK_8 (x_6 == 43) _ _ ⟨rfl, hS⟩ h)
   case false =>
    have h := if_f h hb_3
    try simp only [hb_3]
    refine kb 9 rfl ?_
    refine kf (ka ?_)
    exact kn _ (by exact ⟨rfl, rfl, rfl, rfl, rfl, trivial⟩) (hK_8 false _ _ ⟨rfl, hS⟩ h)
  rintro x_7 L w hJ h
  try dsimp only at hJ
  obtain ⟨rfl, hS⟩ := hJ
  unfold F.bignum_Int_SetString_K13 at h
  refine ko rfl (fun hb_11 => ?_) (fun hb_11 => ?_)
  ·have h := if_t h hb_11
   refine ke (kc (kb 1 rfl ?_))
   obtain ⟨x_9, hx_9, h⟩ := kg h
   refine ki (G_ixS Tryz.underlying9 rfl rfl hx_9) rfl (ki (kt rfl rfl (b_eql8 _ x_9 45)) rfl (kb 1 rfl ?_))
   refine kf (ka (kc (kb 1 rfl ?_)))
   obtain ⟨x_10, hx_10, h⟩ := kg h
   refine ki (G_slSl Tryz.underlying9 rfl rfl hx_10) rfl (kb 1 rfl ?_)
   refine kf (ka ?_)
   exact kn _ (by exact ⟨rfl, rfl, rfl, rfl, trivial⟩) (hK_14 (x_10, x_9 == 45) _ _ ⟨rfl, hS⟩ h)
  have h := if_f h hb_11
  refine kr (ka ?_)
  exact kn _ (by exact ⟨rfl, rfl, rfl, rfl, trivial⟩) (hK_14 (a1, false) _ _ ⟨rfl, hS⟩ h)
 rintro ⟨x_12, x_13⟩ L w hJ h
 try dsimp only at hJ
 obtain ⟨rfl, hS⟩ := hJ
 unfold F.bignum_Int_SetString_K1 at h
 refine kO (r := r) (fun (g : List UInt8 × Int) L w => L = [(0, pB ba0 0), (1, vS g.1), (2, vI g.2), (8, vB x_13)] ∧ St S w0 w [OE.bx ba0 [vB a0_0, va0_1], own e32 va0_1 a0_1]) (F.bignum_Int_SetString_K2 a0_0 a0_1 x_13) ?_ ?_
 rotate_left
 ·intro hK_40
  refine ke (kc (kb 2 rfl ?_))
  refine kf (ka ?_)
  refine ko rfl (fun hb_37 => ?_) (fun hb_37 => ?_)
  ·have h := if_t h hb_37
   refine ke (kc (kb 1 rfl ?_))
   refine kf (ka ?_)
   refine kO (r := r) (fun (g : Bool) L w => L = [(0, pB ba0 0), (1, vS x_12), (2, vI 10), (8, vB x_13), (40, vB g)] ∧ St S w0 w [OE.bx ba0 [vB a0_0, va0_1], own e32 va0_1 a0_1]) (F.bignum_Int_SetString_K8 x_12 a0_0 a0_1 x_13) ?_ ?_
   rotate_left
   ·intro hK_18
    refine kc (kb 1 rfl ?_)
    refine ki (OpV_lenS Tryz.underlying9 rfl) rfl (kb 2 rfl ?_)
    cases hb_15 : (decide ((2 : Int) < (x_12.length : Int)))
    case true =>
     have h := if_t h hb_15
     try simp only [hb_15]
     refine kb 1 rfl ?_
     obtain ⟨x_16, hx_16, h⟩ := kg h
     refine kT (t := 36) rfl rfl (G_ixS Tryz.underlying9 rfl rfl hx_16) rfl (kT (t := 36) rfl rfl (kt rfl rfl (b_eql8 _ x_16 48)) rfl (kb 1 rfl ?_))
     refine kf (ka ?_)
     exact kn _ (by exact ⟨rfl, rfl, rfl, rfl, rfl, trivial⟩) (hK_18 (x_16 == 48) _ _ ⟨rfl, hS⟩ h)
    case false =>
     have h := if_f h hb_15
     try simp only [hb_15]
     refine kb 4 rfl ?_
     refine kf (ka ?_)
     exact kn _ (by exact ⟨rfl, rfl, rfl, rfl, rfl, trivial⟩) (hK_18 false _ _ ⟨rfl, hS⟩ h)
   rintro x_17 L w hJ h
   try dsimp only at hJ
   obtain ⟨rfl, hS⟩ := hJ
   unfold F.bignum_Int_SetString_K8 at h
   refine ko rfl (fun hb_36 => ?_) (fun hb_36 => ?_)
   ·have h := if_t h hb_36
    refine kO (r := r) (fun (g : Int) L w => L = [(0, pB ba0 0), (1, vS x_12), (2, vI g), (8, vB x_13)] ∧ St S w0 w [OE.bx ba0 [vB a0_0, va0_1], own e32 va0_1 a0_1]) (F.bignum_Int_SetString_K9 x_12 a0_0 a0_1 x_13) ?_ ?_
    rotate_left
    ·intro hK_33
     refine ke (kc (kb 1 rfl ?_))
     obtain ⟨x_19, hx_19, h⟩ := kg h
     refine ki (G_ixS Tryz.underlying9 rfl rfl hx_19) rfl (kf (ka (kw ?_)))
     refine kO (r := r) (fun (g : Bool) L w => L = [(0, pB ba0 0), (1, vS x_12), (2, vI 10), (8, vB x_13), (42, v8 x_19), (43, vB g)] ∧ St S w0 w [OE.bx ba0 [vB a0_0, va0_1], own e32 va0_1 a0_1]) (F.bignum_Int_SetString_K10 x_19 x_12 a0_0 a0_1 x_13) ?_ ?_
     rotate_left
     ·intro hK_22
      refine ke (kc (ki (kt rfl rfl (b_eql8 _ x_19 120)) rfl (kb 1 rfl ?_)))
      refine kf (ka ?_)
      refine ko rfl (fun hb_20 => ?_) (fun hb_20 => ?_)
      ·have h := if_t h hb_20
       refine kr (ka ?_)
       exact kn _ (by exact ⟨rfl, rfl, rfl, rfl, rfl, rfl, trivial⟩) (hK_22 (x_19 == 120) _ _ ⟨rfl, hS⟩ h)
      have h := if_f h hb_20
      refine kc (ki (kt rfl rfl (b_eql8 _ x_19 88)) rfl (kb 1 rfl ?_))
      refine kf (ka ?_)
      exact kn _ (by exact ⟨rfl, rfl, rfl, rfl, rfl, rfl, trivial⟩) (hK_22 (x_19 == 88) _ _ ⟨rfl, hS⟩ h)
     rintro x_21 L w hJ h
     try dsimp only at hJ
     obtain ⟨rfl, hS⟩ := hJ
     unfold F.bignum_Int_SetString_K10 at h
     refine ko rfl (fun hb_31 => ?_) (fun hb_31 => ?_)
     ·have h := if_t h hb_31
      refine kc (kb 1 rfl ?_)
      refine kf (kK ?_)
      refine ka ?_
      exact kn _ (by exact ⟨rfl, rfl, rfl, rfl, trivial⟩) (hK_33 16 _ _ ⟨rfl, hS⟩ h)
     have h := if_f h hb_31
     refine kO (r := r) (fun (g : Bool) L w => L = [(0, pB ba0 0), (1, vS x_12), (2, vI 10), (8, vB x_13), (42, v8 x_19), (46, vB g)] ∧ St S w0 w [OE.bx ba0 [vB a0_0, va0_1], own e32 va0_1 a0_1]) (F.bignum_Int_SetString_K11 x_19 x_12 a0_0 a0_1 x_13) ?_ ?_
     rotate_left
     ·intro hK_25
      refine ke (kc (ki (kt rfl rfl (b_eql8 _ x_19 98)) rfl (kb 1 rfl ?_)))
      refine kf (ka ?_)
      refine ko rfl (fun hb_23 => ?_) (fun hb_23 => ?_)
      ·have h := if_t h hb_23
       refine kr (ka ?_)
       exact kn _ (by exact ⟨rfl, rfl, rfl, rfl, rfl, rfl, trivial⟩) (hK_25 (x_19 == 98) _ _ ⟨rfl, hS⟩ h)
      have h := if_f h hb_23
      refine kc (ki (kt rfl rfl (b_eql8 _ x_19 66)) rfl (kb 1 rfl ?_))
      refine kf (ka ?_)
      exact kn _ (by exact ⟨rfl, rfl, rfl, rfl, rfl, rfl, trivial⟩) (hK_25 (x_19 == 66) _ _ ⟨rfl, hS⟩ h)
     rintro x_24 L w hJ h
     try dsimp only at hJ
     obtain ⟨rfl, hS⟩ := hJ
     unfold F.bignum_Int_SetString_K11 at h
     refine ko rfl (fun hb_30 => ?_) (fun hb_30 => ?_)
     ·have h := if_t h hb_30
      refine kc (kb 1 rfl ?_)
      refine kf (kK ?_)
      refine ka ?_
      exact kn _ (by exact ⟨rfl, rfl, rfl, rfl, trivial⟩) (hK_33 2 _ _ ⟨rfl, hS⟩ h)
     have h := if_f h hb_30
     refine kO (r := r) (fun (g : Bool) L w => L = [(0, pB ba0 0), (1, vS x_12), (2, vI 10), (8, vB x_13), (49, vB g)] ∧ St S w0 w [OE.bx ba0 [vB a0_0, va0_1], own e32 va0_1 a0_1]) (F.bignum_Int_SetString_K12 x_12 a0_0 a0_1 x_13) ?_ ?_
     rotate_left
     ·intro hK_28
      refine ke (kc (ki (kt rfl rfl (b_eql8 _ x_19 111)) rfl (kb 1 rfl ?_)))
      refine kf (ka ?_)
      refine ko rfl (fun hb_26 => ?_) (fun hb_26 => ?_)
      ·have h := if_t h hb_26
       refine kr (ka ?_)
       exact kn _ (by exact ⟨rfl, rfl, rfl, rfl, rfl, trivial⟩) (hK_28 (x_19 == 111) _ _ ⟨rfl, hS⟩ h)
      have h := if_f h hb_26
      refine kc (ki (kt rfl rfl (b_eql8 _ x_19 79)) rfl (kb 1 rfl ?_))
      refine kf (ka ?_)
      exact kn _ (by exact ⟨rfl, rfl, rfl, rfl, rfl, trivial⟩) (hK_28 (x_19 == 79) _ _ ⟨rfl, hS⟩ h)
     rintro x_27 L w hJ h
     try dsimp only at hJ
     obtain ⟨rfl, hS⟩ := hJ
     unfold F.bignum_Int_SetString_K12 at h
     refine ko rfl (fun hb_29 => ?_) (fun hb_29 => ?_)
     ·have h := if_t h hb_29
      refine kc (kb 1 rfl ?_)
      refine kf (kK ?_)
      refine ka ?_
      exact kn _ (by exact ⟨rfl, rfl, rfl, rfl, trivial⟩) (hK_33 8 _ _ ⟨rfl, hS⟩ h)
     have h := if_f h hb_29
     refine kr (kK ?_)
     refine ka ?_
     exact kn _ (by exact ⟨rfl, rfl, rfl, rfl, trivial⟩) (hK_33 10 _ _ ⟨rfl, hS⟩ h)
    rintro x_32 L w hJ h
    try dsimp only at hJ
    obtain ⟨rfl, hS⟩ := hJ
    unfold F.bignum_Int_SetString_K9 at h
    refine ke (kc (kb 2 rfl ?_))
    refine kf (ka ?_)
    refine ko rfl (fun hb_35 => ?_) (fun hb_35 => ?_)
    ·have h := if_t h hb_35
     refine kc (kb 1 rfl ?_)
     obtain ⟨x_34, hx_34, h⟩ := kg h
     refine ki (G_slSl Tryz.underlying9 rfl rfl hx_34) rfl (kb 1 rfl ?_)
     refine kf (ka ?_)
     exact kn _ (by exact ⟨rfl, rfl, rfl, rfl, trivial⟩) (hK_40 (x_34, x_32) _ _ ⟨rfl, hS⟩ h)
    have h := if_f h hb_35
    refine kr (ka ?_)
    exact kn _ (by exact ⟨rfl, rfl, rfl, rfl, trivial⟩) (hK_40 (x_12, x_32) _ _ ⟨rfl, hS⟩ h)
   have h := if_f h hb_36
   refine kr (ka ?_)
   exact kn _ (by exact ⟨rfl, rfl, rfl, rfl, trivial⟩) (hK_40 (x_12, 10) _ _ ⟨rfl, hS⟩ h)
  have h := if_f h hb_37
  refine kr (ka ?_)
  exact kn _ (by exact ⟨rfl, rfl, rfl, rfl, trivial⟩) (hK_40 (x_12, a2) _ _ ⟨rfl, hS⟩ h)
 rintro ⟨x_38, x_39⟩ L w hJ h
 try dsimp only at hJ
 obtain ⟨rfl, hS⟩ := hJ
 unfold F.bignum_Int_SetString_K2 at h
 refine ke ?_
 refine kO (r := r) (fun (g : Bool) L w => L = [(0, pB ba0 0), (1, vS x_38), (2, vI x_39), (8, vB x_13), (66, vB g)] ∧ St S w0 w [OE.bx ba0 [vB a0_0, va0_1], own e32 va0_1 a0_1]) (F.bignum_Int_SetString_K3 a0_0 a0_1 x_13 x_38 x_39) ?_ ?_
 rotate_left
 ·intro hK_44
  refine kc (kb 1 rfl ?_)
  refine ki (OpV_lenS Tryz.underlying9 rfl) rfl (kb 2 rfl ?_)
  cases hb_41 : ((x_38.length : Int) == 0)
  case true =>
   have h := if_t h hb_41
   try simp only [hb_41]
   refine kb 7 rfl ?_
   refine kf (ka ?_)
   exact kn _ (by exact ⟨rfl, rfl, rfl, rfl, rfl, trivial⟩) (hK_44 true _ _ ⟨rfl, hS⟩ h)
  case false =>
   have h := if_f h hb_41
   try simp only [hb_41]
   refine kb 4 rfl ?_
   cases hb_42 : (decide (x_39 < 2))
   case true =>
    have h := if_t h hb_42
    try simp only [hb_42]
    refine kb 3 rfl ?_
    refine kf (ka ?_)
    exact kn _ (by exact ⟨rfl, rfl, rfl, rfl, rfl, trivial⟩) (hK_44 true _ _ ⟨rfl, hS⟩ h)
   case false =>
    have h := if_f h hb_42
    try simp only [hb_42]
    refine kb 3 rfl ?_
    refine kf (ka ?_)
    exact kn _ (by exact ⟨rfl, rfl, rfl, rfl, rfl, trivial⟩) (hK_44 (decide ((36 : Int) < x_39)) _ _ ⟨rfl, hS⟩ h)
 rintro x_43 L w hJ h
 try dsimp only at hJ
 obtain ⟨rfl, hS⟩ := hJ
 unfold F.bignum_Int_SetString_K3 at h
 refine ko rfl (fun hb_88 => ?_) (fun hb_88 => ?_)
 ·have h := if_t h hb_88
  refine ke (kc (kb 2 rfl ?_))
  refine kf (ka (kq (kv ?_)))
  cases h
 have h := if_f h hb_88
 refine kr (ka (ke (kc (kb 1 rfl ?_))))
 refine kf (ka (ke (ke (kc (kb 1 rfl ?_)))))
 refine kf (ka (kw ?_))
 refine kn [(0, pB ba0 0), (1, vS x_38), (2, vI x_39), (8, vB x_13), (9, .slice none 0 0), (10, vI 0)] ⟨rfl, rfl, rfl, rfl, rfl, rfl, trivial⟩ ?_
 refine kS (F.bignum_Int_SetString_L1 a0_0 a0_1 x_13 x_38 x_39) (fun (s : List UInt32 × Int) L w => ∃ (v_46 : Value), L = [(0, pB ba0 0), (1, vS x_38), (2, vI x_39), (8, vB x_13), (9, v_46), (10, vI s.2)] ∧ St S w0 w [own e32 v_46 s.1, OE.bx ba0 [vB a0_0, va0_1], own e32 va0_1 a0_1]) ?_ ([], 0) ⟨.slice none 0 0, rfl, (hS.nil e32)⟩ h
 rintro k_87 ⟨x_45, x_48⟩ L w q_51 hI ih_50 h hk_49
 try dsimp only at hI
 obtain ⟨v_46, rfl, hS⟩ := hI
 unfold F.bignum_Int_SetString_L1 at h
 refine ke (ke (kc (kb 2 rfl ?_)))
 refine ki (OpV_lenS Tryz.underlying9 rfl) rfl (kb 1 rfl ?_)
 refine kf (ka ?_)
 refine ko rfl (fun hb_86 => ?_) (fun hb_86 => ?_)
 ·have h := if_t h hb_86
  refine kr (ka (ke (kw ?_)))
  refine ke (kc (kb 1 rfl ?_))
  refine kf (ka ?_)
  refine kO (r := q_51) (fun (g : Int) L w => L = [(0, pB ba0 0), (1, vS x_38), (2, vI x_39), (8, vB x_13), (9, v_46), (10, vI x_48), (11, vI g)] ∧ St S w0 w [OE.bx ba0 [vB a0_0, va0_1], own e32 va0_1 a0_1, own e32 v_46 x_45]) (F.bignum_Int_SetString_K4 x_39 x_45 x_48) ?_ ?_
  rotate_left
  ·intro hK_69
   refine ke (kc (kb 2 rfl ?_))
   obtain ⟨x_52, hx_52, h⟩ := kg h
   refine ki (G_ixS Tryz.underlying9 rfl rfl hx_52) rfl (kb 1 rfl ?_)
   refine kf (ka (kw ?_))
   refine kO (r := q_51) (fun (g : Bool) L w => L = [(0, pB ba0 0), (1, vS x_38), (2, vI x_39), (8, vB x_13), (9, v_46), (10, vI x_48), (11, vI 99), (12, v8 x_52), (76, vB g)] ∧ St S w0 w [OE.bx ba0 [vB a0_0, va0_1], own e32 va0_1 a0_1, own e32 v_46 x_45]) (F.bignum_Int_SetString_K5 x_52 x_39 x_45 x_48) ?_ ?_
   rotate_left
   ·intro hK_55
    refine kc (kb 1 rfl ?_)
    refine ki (kt rfl rfl (b_geq8 _ x_52 48)) rfl (kb 1 rfl ?_)
    cases hb_53 : (decide ((48 : UInt8) ≤ x_52))
    case true =>
     have h := if_t h hb_53
     try simp only [hb_53]
     refine kb 1 rfl ?_
     refine kT (t := 79) rfl rfl (kt rfl rfl (b_leq8 _ x_52 57)) rfl (kb 2 rfl ?_)
     refine kf (ka ?_)
     exact kn _ (by exact ⟨rfl, rfl, rfl, rfl, rfl, rfl, rfl, rfl, rfl, trivial⟩) (hK_55 (decide (x_52 ≤ 57)) _ _ ⟨rfl, (hS.pick [1, 2, 0] (by decide) rfl)⟩ h)
    case false =>
     have h := if_f h hb_53
     try simp only [hb_53]
     refine kb 4 rfl ?_
     refine kf (ka ?_)
     exact kn _ (by exact ⟨rfl, rfl, rfl, rfl, rfl, rfl, rfl, rfl, rfl, trivial⟩) (hK_55 false _ _ ⟨rfl, (hS.pick [1, 2, 0] (by decide) rfl)⟩ h)
   rintro x_54 L w hJ h
   try dsimp only at hJ
   obtain ⟨rfl, hS⟩ := hJ
   unfold F.bignum_Int_SetString_K5 at h
   refine ko rfl (fun hb_67 => ?_) (fun hb_67 => ?_)
   ·have h := if_t h hb_67
    refine kc (kb 1 rfl ?_)
    refine ki (kt rfl rfl (b_sub8 _ x_52 48)) rfl (ki (kF rfl (cv_8_i Tryz.underlying5 Tryz.underlying3 (x_52 - 48))) rfl ?_)
    obtain ⟨x_56, hx_56, h⟩ := kI h
    refine ki (kA (v := vI x_56) (by rw [← hx_56]; rfl)) rfl ?_
    refine kf (kK ?_)
    refine ka ?_
    exact kn _ (by exact ⟨rfl, rfl, rfl, rfl, rfl, rfl, rfl, trivial⟩) (hK_69 x_56 _ _ ⟨rfl, hS⟩ h)
   have h := if_f h hb_67
   refine kO (r := q_51) (fun (g : Bool) L w => L = [(0, pB ba0 0), (1, vS x_38), (2, vI x_39), (8, vB x_13), (9, v_46), (10, vI x_48), (11, vI 99), (12, v8 x_52), (86, vB g)] ∧ St S w0 w [OE.bx ba0 [vB a0_0, va0_1], own e32 va0_1 a0_1, own e32 v_46 x_45]) (F.bignum_Int_SetString_K6 x_52 x_39 x_45 x_48) ?_ ?_
   rotate_left
   ·intro hK_59
    refine kc (kb 1 rfl ?_)
    refine ki (kt rfl rfl (b_geq8 _ x_52 97)) rfl (kb 1 rfl ?_)
    cases hb_57 : (decide ((97 : UInt8) ≤ x_52))
    case true =>
     have h := if_t h hb_57
     try simp only [hb_57]
     refine kb 1 rfl ?_
     refine kT (t := 89) rfl rfl (kt rfl rfl (b_leq8 _ x_52 122)) rfl (kb 2 rfl ?_)
     refine kf (ka ?_)
     exact kn _ (by exact ⟨rfl, rfl, rfl, rfl, rfl, rfl, rfl, rfl, rfl, trivial⟩) (hK_59 (decide (x_52 ≤ 122)) _ _ ⟨rfl, hS⟩ h)
    case false =>
     have h := if_f h hb_57
     try simp only [hb_57]
     refine kb 4 rfl ?_
     refine kf (ka ?_)
     exact kn _ (by exact ⟨rfl, rfl, rfl, rfl, rfl, rfl, rfl, rfl, rfl, trivial⟩) (hK_59 false _ _ ⟨rfl, hS⟩ h)
   rintro x_58 L w hJ h
   try dsimp only at hJ
   obtain ⟨rfl, hS⟩ := hJ
   unfold F.bignum_Int_SetString_K6 at h
   refine ko rfl (fun hb_66 => ?_) (fun hb_66 => ?_)
   ·have h := if_t h hb_66
    refine kc (kb 1 rfl ?_)
    refine ki (kt rfl rfl (b_sub8 _ x_52 97)) rfl (ki (kF rfl (cv_8_i Tryz.underlying5 Tryz.underlying3 (x_52 - 97))) rfl (kb 1 rfl ?_))
    obtain ⟨x_60, hx_60, h⟩ := kI h
    refine ki (kA (v := vI x_60) (by rw [← hx_60]; rfl)) rfl ?_
    refine kf (kK ?_)
    refine ka ?_
    exact kn _ (by exact ⟨rfl, rfl, rfl, rfl, rfl, rfl, rfl, trivial⟩) (hK_69 x_60 _ _ ⟨rfl, hS⟩ h)
   have h := if_f h hb_66
   refine kO (r := q_51) (fun (g : Bool) L w => L = [(0, pB ba0 0), (1, vS x_38), (2, vI x_39), (8, vB x_13), (9, v_46), (10, vI x_48), (11, vI 99), (12, v8 x_52), (97, vB g)] ∧ St S w0 w [OE.bx ba0 [vB a0_0, va0_1], own e32 va0_1 a0_1, own e32 v_46 x_45]) (F.bignum_Int_SetString_K7 x_52 x_39 x_45 x_48) ?_ ?_
   rotate_left
   ·intro hK_63
    refine kc (kb 1 rfl ?_)
    refine ki (kt rfl rfl (b_geq8 _ x_52 65)) rfl (kb 1 rfl ?_)
    cases hb_61 : (decide ((65 : UInt8) ≤ x_52))
    case true =>
     have h := if_t h hb_61
     try simp only [hb_61]
     refine kb 1 rfl ?_
     refine kT (t := 100) rfl rfl (kt rfl rfl (b_leq8 _ x_52 90)) rfl (kb 2 rfl ?_)
     refine kf (ka ?_)
     exact kn _ (by exact ⟨rfl, rfl, rfl, rfl, rfl, rfl, rfl, rfl, rfl, trivial⟩) (hK_63 (decide (x_52 ≤ 90)) _ _ ⟨rfl, hS⟩ h)
    case false =>
     have h := if_f h hb_61
     try simp only [hb_61]
     refine kb 4 rfl ?_
     refine kf (ka ?_)
     exact kn _ (by exact ⟨rfl, rfl, rfl, rfl, rfl, rfl, rfl, rfl, rfl, trivial⟩) (hK_63 false _ _ ⟨rfl, hS⟩ h)
   rintro x_62 L w hJ h
   try dsimp only at hJ
   obtain ⟨rfl, hS⟩ := hJ
   unfold F.bignum_Int_SetString_K7 at h
   refine ko rfl (fun hb_65 => ?_) (fun hb_65 => ?_)
   ·have h := if_t h hb_65
    refine kc (kb 1 rfl ?_)
    refine ki (kt rfl rfl (b_sub8 _ x_52 65)) rfl (ki (kF rfl (cv_8_i Tryz.underlying5 Tryz.underlying3 (x_52 - 65))) rfl (kb 1 rfl ?_))
    obtain ⟨x_64, hx_64, h⟩ := kI h
    refine ki (kA (v := vI x_64) (by rw [← hx_64]; rfl)) rfl ?_
    refine kf (kK ?_)
    refine ka ?_
    exact kn _ (by exact ⟨rfl, rfl, rfl, rfl, rfl, rfl, rfl, trivial⟩) (hK_69 x_64 _ _ ⟨rfl, hS⟩ h)
   have h := if_f h hb_65
   refine kr (kK ?_)
   refine ka ?_
   exact kn _ (by exact ⟨rfl, rfl, rfl, rfl, rfl, rfl, rfl, trivial⟩) (hK_69 99 _ _ ⟨rfl, hS⟩ h)
  rintro x_68 L w hJ h
  try dsimp only at hJ
  obtain ⟨rfl, hS⟩ := hJ
  unfold F.bignum_Int_SetString_K4 at h
  refine ke (ke (kc (kb 3 rfl ?_)))
  refine kf (ka ?_)
  refine ko rfl (fun hb_82 => ?_) (fun hb_82 => ?_)
  ·have h := if_t h hb_82
   refine ke (kc (kb 2 rfl ?_))
   refine kf (ka (kq (kv (QE_blk_r ?_))))
   refine kv (kv ?_)
   have h := kG h hk_49
   refine QE_blk_r ?_
   refine kv ?_
   cases h
  have h := if_f h hb_82
  refine kr (ka (kc (kb 2 rfl ?_)))
  refine ki (kF rfl (cv_i_64 Tryz.underlying3 Tryz.underlying94 x_39)) rfl ?_
  obtain ⟨x_70, hx_70, h⟩ := kg h
  refine kk (by kernel_rfl) rfl (c_bignum_words _ (UInt64.ofInt x_39)    _ hx_70) rfl ?_
  rintro v_71 w hS1
  have hS := hS.call hS1
  obtain ⟨x_73, hx_73, h⟩ := kg h
  refine kk (by kernel_rfl) rfl (c_bignum_mul _ x_45 x_70 v_46 v_71  (hS.ro 3 rfl).rp (hS.ro 0 rfl).rp _ hx_73) rfl ?_
  rintro v_74 w hS1
  have hS := hS.call hS1
  refine kb 1 rfl ?_
  refine ki (kF rfl (cv_i_64 Tryz.underlying3 Tryz.underlying94 x_68)) rfl ?_
  obtain ⟨x_76, hx_76, h⟩ := kg h
  refine kk (by kernel_rfl) rfl (c_bignum_words _ (UInt64.ofInt x_68)    _ hx_76) rfl ?_
  rintro v_77 w hS1
  have hS := hS.call hS1
  obtain ⟨x_79, hx_79, h⟩ := kg h
  refine kk (by kernel_rfl) rfl (c_bignum_add _ x_73 x_76 v_74 v_77  (hS.ro 1 rfl).rp (hS.ro 0 rfl).rp _ hx_79) rfl ?_
  rintro v_80 w hS1
  have hS := hS.call hS1
  refine kb 1 rfl ?_
  refine kf (kK ?_)
  refine ka (kc (kb 3 rfl ?_))
  refine kf ?_
  exact QE_rnd (wpN_le _ (by exact ⟨rfl, rfl, rfl, rfl, rfl, rfl, trivial⟩) (ih_50 (x_79, wI (x_48 + 1)) _ _ ⟨v_80, rfl, (hS.pick [0, 4, 5] (by decide) rfl)⟩ (kL h hk_49)))
 have h := if_f h hb_86
 refine kQ ?_
 refine kx (kx ?_)
 have h := kG h hk_49
 refine kR ?_
 refine ka (ke (kc (kb 3 rfl ?_)))
 have hG := hS.pick (os' := [OE.bx ba0 [vB a0_0, va0_1], own e32 va0_1 a0_1, own e32 v_46 x_45] ++ []) [1, 2, 0] (by decide) rfl
 obtain ⟨x_83, hx_83, h⟩ := kg h
 refine kk (by kernel_rfl) rfl (c_bignum_Int_give _ a0_0 a0_1 x_13 x_45 va0_1 v_46 ba0 _ hG.give  _ hx_83) rfl ?_
 rintro _ w ⟨v_84, rfl, hS1⟩
 have hS := hG.back hS1
 refine kb 2 rfl ?_
 refine kf (ka (kq ?_))
 cases h
 exact QE_ret2 rfl rfl rfl ⟨v_84, rfl, hS.pick [0, 1] (by decide) rfl⟩
theorem c_bignum_left (w0 : World) (a0 : List UInt32) (a1 : UInt64) (va0 : Value) (ha0 : RP [] w0 e32 va0 a0) (r : List UInt32)
  (h : F.bignum_left a0 a1 = some r) : Calls Tryz.prog 74 #[va0, v64 a1] w0 (Ret fun v w => St [] w0 w [own e32 v r]) := by
 refine kz 61 Tryz.func74 rfl rfl rfl ?_
 have hS := St.start w0
 refine kn [(0, va0), (1, v64 a1)] ⟨rfl, rfl, trivial⟩ ?_
 unfold F.bignum_left at h
 refine ke (kc (kb 1 rfl ?_))
 refine kf (ka (ke (ke (kc (kb 1 rfl ?_)))))
 refine ki (kB Tryz.underlying24 rfl (ha0.now hS.fr)) rfl (kb 1 rfl ?_)
 refine kf (ka ?_)
 refine ko rfl (fun hb_23 => ?_) (fun hb_23 => ?_)
 ·have h := if_t h hb_23
  refine ke (kc (kb 1 rfl ?_))
  refine kf (ka (kq (kv ?_)))
  cases h
  exact ky rfl rfl ((hS.nil e32).pick [0] (by decide) rfl)
 have h := if_f h hb_23
 refine kr (ka (ke (kc (kb 1 rfl ?_))))
 refine ki (kt rfl rfl (b_quo64 _ a1 32 (by decide))) rfl ?_
 refine ki (kF rfl (cv_64_i Tryz.underlying92 Tryz.underlying3 (a1 / 32))) rfl (kb 1 rfl ?_)
 refine ki (kt rfl rfl (b_rem64 _ a1 32 (by decide))) rfl ?_
 obtain ⟨x_1, hx_1, h⟩ := kI h
 refine ki (kA (v := vI x_1) (by rw [← hx_1]; rfl)) rfl ?_
 refine kb 1 rfl ?_
 refine kf (ka (ke (kc (kb 1 rfl ?_))))
 refine ki (kB Tryz.underlying24 rfl (ha0.now hS.fr)) rfl (kb 3 rfl ?_)
 obtain ⟨x_2, hx_2, h⟩ := kg h
 refine kW (G_make (e := e32) Tryz.underlying24 ti52 rfl rfl rfl hS hx_2) rfl ?_
 rintro v_3 w hS
 refine kb 1 rfl ?_
 refine kf (ka (ke (ke (kc (kb 1 rfl ?_)))))
 refine kf (ka (kw ?_))
 refine kn [(0, va0), (5, vI x_1), (6, v64 (a1 % 32)), (7, v_3), (8, vI 0)] ⟨rfl, rfl, rfl, rfl, rfl, trivial⟩ ?_
 refine kS (F.bignum_left_L1 a0 a1 x_1) (fun (s : Int × List UInt32) L w => L = [(0, va0), (5, vI x_1), (6, v64 (a1 % 32)), (7, v_3), (8, vI s.1)] ∧ St [] w0 w [own e32 v_3 s.2]) ?_ (0, x_2) ⟨rfl, hS⟩ h
 rintro k_22 ⟨x_5, x_6⟩ L w q_9 hI ih_8 h hk_7
 try dsimp only at hI
 obtain ⟨rfl, hS⟩ := hI
 unfold F.bignum_left_L1 at h
 refine ke (ke (kc (kb 2 rfl ?_)))
 refine ki (kB Tryz.underlying24 rfl (ha0.now hS.fr)) rfl (kb 1 rfl ?_)
 refine kf (ka ?_)
 refine ko rfl (fun hb_21 => ?_) (fun hb_21 => ?_)
 ·have h := if_t h hb_21
  refine kr (ka (ke (kw ?_)))
  refine ke (kc (kb 2 rfl ?_))
  obtain ⟨x_10, hx_10, h⟩ := kg h
  refine ki (G_ix Tryz.underlying24 ti52 rfl rfl (ha0.now hS.fr) hx_10) rfl (ki (G_load Tryz.underlying52 rfl rfl (ha0.now hS.fr) hx_10 rfl) rfl (ki (kF rfl (cv_32_64 Tryz.underlying52 Tryz.underlying94 x_10)) rfl (kb 1 rfl ?_)))
  refine ki (kt rfl rfl (b_shl64_64 _ x_10.toUInt64 (a1 % 32))) rfl ?_
  obtain ⟨x_11, hx_11, h⟩ := kI h
  refine ki (kA (v := v64 x_11) (by rw [← hx_11]; rfl)) rfl ?_
  refine kf (ka (ke (kc (kb 4 rfl ?_))))
  obtain ⟨x_12, hx_12, h⟩ := kg h
  refine ki (G_ix Tryz.underlying24 ti52 rfl rfl (hS.ro 0 rfl) hx_12) rfl (ki (G_load Tryz.underlying52 rfl rfl (hS.ro 0 rfl) hx_12 rfl) rfl (kb 1 rfl ?_))
  refine ki (kF rfl (cv_64_32 Tryz.underlying94 Tryz.underlying52 x_11)) rfl (ki (kt rfl rfl (b_or32 _ x_12 x_11.toUInt32)) rfl ?_)
  obtain ⟨x_13, hx_13, h⟩ := kg h
  refine ki (G_ix Tryz.underlying24 ti52 rfl rfl (hS.ro 0 rfl) hx_13) rfl (kX (G_storeE (t := (x_12 ||| x_11.toUInt32)) ti52 rfl rfl hS (i := 0) rfl hx_13 rfl) ?_)
  intro w hS
  obtain ⟨x_14, hx_14, h⟩ := kI h
  rw [hx_14] at hS
  refine kf (ka (kc (kb 5 rfl ?_)))
  obtain ⟨x_15, hx_15, h⟩ := kg h
  refine ki (G_ix Tryz.underlying24 ti52 rfl rfl (hS.ro 0 rfl) hx_15) rfl (ki (G_load Tryz.underlying52 rfl rfl (hS.ro 0 rfl) hx_15 rfl) rfl (kb 1 rfl ?_))
  refine ki (kt rfl rfl (b_shr64_64 _ x_11 32)) rfl (ki (kF rfl (cv_64_32 Tryz.underlying94 Tryz.underlying52 (shr64 x_11 32))) rfl (ki (kt rfl rfl (b_or32 _ x_15 ((shr64 x_11 32).toUInt32))) rfl ?_))
  obtain ⟨x_16, hx_16, h⟩ := kg h
  refine ki (G_ix Tryz.underlying24 ti52 rfl rfl (hS.ro 0 rfl) hx_16) rfl (kX (G_storeE (t := (x_15 ||| ((shr64 x_11 32).toUInt32))) ti52 rfl rfl hS (i := 0) rfl hx_16 rfl) ?_)
  intro w hS
  obtain ⟨x_17, hx_17, h⟩ := kI h
  rw [hx_17] at hS
  refine kf (kK ?_)
  refine ka (kc (kb 3 rfl ?_))
  refine kf ?_
  exact QE_rnd (wpN_le _ (by exact ⟨rfl, rfl, rfl, rfl, rfl, trivial⟩) (ih_8 (wI (x_5 + 1), x_17) _ _ ⟨rfl, hS⟩ (kL h hk_7)))
 have h := if_f h hb_21
 refine kQ ?_
 refine kx (kx ?_)
 have h := kG h hk_7
 refine kR ?_
 refine ka (ke (kc (kb 1 rfl ?_)))
 have hG := hS.pick (os' := [own e32 v_3 x_6] ++ []) [0] (by decide) rfl
 obtain ⟨x_18, hx_18, h⟩ := kg h
 refine kk (by kernel_rfl) rfl (c_bignum_trim _ x_6 v_3  _ hG.give  _ hx_18) rfl ?_
 rintro v_19 w ⟨v_19q, hqv_19, hS1⟩
 rw [← hqv_19] at hS1
 have hS := hG.back hS1
 refine kb 1 rfl ?_
 refine kf (ka (kq ?_))
 cases h
 exact ky rfl rfl (hS.pick [0] (by decide) rfl)
theorem c_bignum_Int_SetBytes (w0 : World) (a0_0 : Bool) (a0_1 : List UInt32) (a1 : List UInt8) (va0_1 : Value) (va1 : Value) (ba0 : Nat) (S : List Nat) (hS : St S w0 w0 [OE.bx ba0 [vB a0_0, va0_1], own e32 va0_1 a0_1]) (ha1 : RP S w0 e8 va1 a1) (r : Bool × List UInt32)
  (h : F.bignum_Int_SetBytes a0_0 a0_1 a1 = some r) : Calls Tryz.prog 36 #[pB ba0 0, va1] w0 (Ret fun v w => ∃ u0_1 : Value, v = pB ba0 0 ∧ St S w0 w [OE.bx ba0 [vB r.1, u0_1], own e32 u0_1 r.2]) := by
 refine kz 25 Tryz.func36 rfl rfl rfl ?_
 refine kn [(0, pB ba0 0), (1, va1)] ⟨rfl, rfl, trivial⟩ ?_
 unfold F.bignum_Int_SetBytes at h
 refine ke (kc (kb 1 rfl ?_))
 refine kf (ka (ke (kc (kb 1 rfl ?_))))
 refine kf (ka (ke (ke (kc (kb 1 rfl ?_)))))
 refine kf (ka (kw ?_))
 refine kn [(0, pB ba0 0), (1, va1), (5, .slice none 0 0), (6, vI 0)] ⟨rfl, rfl, rfl, rfl, trivial⟩ ?_
 refine kS (F.bignum_Int_SetBytes_L1 a0_0 a0_1 a1) (fun (s : List UInt32 × Int) L w => ∃ (v_4 : Value), L = [(0, pB ba0 0), (1, va1), (5, v_4), (6, vI s.2)] ∧ St S w0 w [own e32 v_4 s.1, OE.bx ba0 [vB a0_0, va0_1], own e32 va0_1 a0_1]) ?_ ([], 0) ⟨.slice none 0 0, rfl, (hS.nil e32)⟩ h
 rintro k_24 ⟨x_3, x_6⟩ L w q_9 hI ih_8 h hk_7
 try dsimp only at hI
 obtain ⟨v_4, rfl, hS⟩ := hI
 unfold F.bignum_Int_SetBytes_L1 at h
 refine ke (ke (kc (kb 2 rfl ?_)))
 refine ki (kB Tryz.underlying23 rfl (ha1.now hS.fr)) rfl (kb 1 rfl ?_)
 refine kf (ka ?_)
 refine ko rfl (fun hb_23 => ?_) (fun hb_23 => ?_)
 ·have h := if_t h hb_23
  refine kr (ka (ke (kw ?_)))
  refine kN (fun w' => St S w0 w' [own e32 v_4 x_3, OE.bx ba0 [vB a0_0, va0_1], own e32 va0_1 a0_1]) (fun i => !([1, 7, 8].contains i)) hmix (fun _ _ _ hf => hf.2) (fun _ _ hf => hf) (by kernel_rfl) ?_
  have hS := hS.drew
  show lxE _ _ _ _ _ _ _ [0, 1, 2, 3, 4, 5, 6, 7, 8, 9] _ _
  refine kj hS rfl rfl (fun w hF => km rfl) rfl ?_
  obtain ⟨x_10, hx_10, h⟩ := kg h
  refine kP hS rfl rfl (by kernel_rfl) rfl (c_bignum_left _ x_3 8 v_4  (hS.ro 0 rfl).rp _ hx_10) rfl ?_
  rintro v_11 w hS1
  have hS := hS.call hS1
  refine kj (hS.pick [1, 2, 3] (by decide) rfl) rfl rfl (fun w hF => km rfl) rfl ?_
  refine kj (hS.pick [1, 2, 3] (by decide) rfl) rfl rfl (fun w hF => km rfl) rfl ?_
  obtain ⟨x_13, hx_13, h⟩ := kg h
  refine kj (hS.pick [1, 2, 3] (by decide) rfl) rfl rfl (fun w hF => G_ix Tryz.underlying23 ti5 rfl rfl (ha1.now hF.fr) hx_13) rfl ?_
  refine kj (hS.pick [1, 2, 3] (by decide) rfl) rfl rfl (fun w hF => G_load Tryz.underlying5 rfl rfl (ha1.now hF.fr) hx_13 rfl) rfl ?_
  refine kj (hS.pick [1, 2, 3] (by decide) rfl) rfl rfl (fun w hF => kF rfl (cv_8_64 Tryz.underlying5 Tryz.underlying94 x_13)) rfl ?_
  obtain ⟨x_14, hx_14, h⟩ := kg h
  refine kP (hS.pick [1, 2, 3] (by decide) rfl) rfl rfl (by kernel_rfl) rfl (c_bignum_words _ x_13.toUInt64    _ hx_14) rfl ?_
  rintro v_15 w hS1
  have hS := hS.call hS1
  obtain ⟨x_17, hx_17, h⟩ := kg h
  refine kP (hS.pick [2, 3, 4] (by decide) rfl) rfl rfl (by kernel_rfl) rfl (c_bignum_add _ x_10 x_14 v_11 v_15  (hS.ro 1 rfl).rp (hS.ro 0 rfl).rp _ hx_17) rfl ?_
  rintro v_18 w hS1
  have hS := hS.call hS1
  refine kj (hS.pick [3, 4, 5] (by decide) rfl) rfl rfl (fun w hF => kA rfl) rfl ?_
  refine kY (hS.pick [3, 4, 5] (by decide) rfl) ?_
  refine kK ?_
  refine ka (kc (kb 3 rfl ?_))
  refine kf ?_
  exact QE_rnd (wpN_le _ (by exact ⟨rfl, rfl, rfl, rfl, trivial⟩) (ih_8 (x_17, wI (x_6 + 1)) _ _ ⟨v_18, rfl, (hS.pick [0, 4, 5] (by decide) rfl)⟩ (kL h hk_7)))
 have h := if_f h hb_23
 refine kQ ?_
 refine kx (kx ?_)
 have h := kG h hk_7
 refine kR ?_
 refine ka (ke (kc (kb 2 rfl ?_)))
 have hG := hS.pick (os' := [OE.bx ba0 [vB a0_0, va0_1], own e32 va0_1 a0_1, own e32 v_4 x_3] ++ []) [1, 2, 0] (by decide) rfl
 obtain ⟨x_20, hx_20, h⟩ := kg h
 refine kk (by kernel_rfl) rfl (c_bignum_Int_give _ a0_0 a0_1 false x_3 va0_1 v_4 ba0 _ hG.give  _ hx_20) rfl ?_
 rintro _ w ⟨v_21, rfl, hS1⟩
 have hS := hG.back hS1
 refine kb 1 rfl ?_
 refine kf (ka (kq ?_))
 cases h
 exact ky rfl rfl ⟨v_21, rfl, hS.pick [0, 1] (by decide) rfl⟩
theorem c_bignum_Int_Mul (w0 : World) (a0_0 : Bool) (a0_1 : List UInt32) (a1_0 : Bool) (a1_1 : List UInt32) (a2_0 : Bool) (a2_1 : List UInt32) (va0_1 : Value) (va1_1 : Value) (va2_1 : Value) (ba0 : Nat) (ba1 : Nat) (ba2 : Nat) (S : List Nat) (hS : St S w0 w0 [OE.bx ba0 [vB a0_0, va0_1], own e32 va0_1 a0_1]) (ha1_1 : RP S w0 e32 va1_1 a1_1) (hBa1 : RB S w0 ba1 [vB a1_0, va1_1]) (ha2_1 : RP S w0 e32 va2_1 a2_1) (hBa2 : RB S w0 ba2 [vB a2_0, va2_1]) (r : Bool × List UInt32)
  (h : F.bignum_Int_Mul a0_0 a0_1 a1_0 a1_1 a2_0 a2_1 = some r) : Calls Tryz.prog 102 #[pB ba0 0, pB ba1 0, pB ba2 0] w0 (Ret fun v w => ∃ u0_1 : Value, v = pB ba0 0 ∧ St S w0 w [OE.bx ba0 [vB r.1, u0_1], own e32 u0_1 r.2]) := by
 refine kz 27 Tryz.func102 rfl rfl rfl ?_
 refine kn [(0, pB ba0 0), (1, pB ba1 0), (2, pB ba2 0)] ⟨rfl, rfl, rfl, trivial⟩ ?_
 unfold F.bignum_Int_Mul at h
 refine ke (kc (kb 1 rfl ?_))
 refine kf (ka (ke ?_))
 have hsh1 := (hS.ro 1 rfl).shp
 refine kN (fun w' => St S w0 w' []) (fun i => !([18, 19].contains i)) hmix (fun _ _ _ hf => hf.2) (fun _ _ hf => hf) (by kernel_rfl) ?_
 have hS := hS.drew
 show lxE _ _ _ _ _ _ _ [0, 1, 2, 3, 4, 5, 6, 7, 8, 9, 10, 11, 12, 13, 14, 15, 16, 17, 18, 19, 20] _ _
 refine kj (hS.pick [] (by decide) rfl) rfl rfl (fun w hF => km rfl) rfl ?_
 refine kj (hS.pick [] (by decide) rfl) rfl rfl (fun w hF => km rfl) rfl ?_
 refine kj (hS.pick [] (by decide) rfl) rfl rfl (fun w hF => kJ rfl) rfl ?_
 refine kj (hS.pick [] (by decide) rfl) rfl rfl (fun w hF => kl (k := 0) Tryz.underlying62 rfl rfl nz4 rfl) rfl ?_
 refine kj (hS.pick [] (by decide) rfl) rfl rfl (fun w hF => ku Tryz.underlying4 rfl rfl (hBa1.cell hF.fr 0 rfl)) rfl ?_
 refine kj (hS.pick [] (by decide) rfl) rfl rfl (fun w hF => km rfl) rfl ?_
 refine kj (hS.pick [] (by decide) rfl) rfl rfl (fun w hF => kJ rfl) rfl ?_
 refine kj (hS.pick [] (by decide) rfl) rfl rfl (fun w hF => kl (k := 0) Tryz.underlying62 rfl rfl nz4 rfl) rfl ?_
 refine kj (hS.pick [] (by decide) rfl) rfl rfl (fun w hF => ku Tryz.underlying4 rfl rfl (hBa2.cell hF.fr 0 rfl)) rfl ?_
 refine kj (hS.pick [] (by decide) rfl) rfl rfl (fun w hF => kt rfl rfl (b_bneq _ a1_0 a2_0 Tryz.underlying4 rfl)) rfl ?_
 refine kj (hS.pick [] (by decide) rfl) rfl rfl (fun w hF => km rfl) rfl ?_
 refine kj (hS.pick [] (by decide) rfl) rfl rfl (fun w hF => kJ rfl) rfl ?_
 refine kj (hS.pick [] (by decide) rfl) rfl rfl (fun w hF => kl (k := 1) Tryz.underlying62 rfl rfl nz24 rfl) rfl ?_
 refine kj (hS.pick [] (by decide) rfl) rfl rfl (fun w hF => ku Tryz.underlying24 rfl rfl (hBa1.cell hF.fr 1 rfl)) rfl ?_
 refine kj (hS.pick [] (by decide) rfl) rfl rfl (fun w hF => km rfl) rfl ?_
 refine kj (hS.pick [] (by decide) rfl) rfl rfl (fun w hF => kJ rfl) rfl ?_
 refine kj (hS.pick [] (by decide) rfl) rfl rfl (fun w hF => kl (k := 1) Tryz.underlying62 rfl rfl nz24 rfl) rfl ?_
 refine kj (hS.pick [] (by decide) rfl) rfl rfl (fun w hF => ku Tryz.underlying24 rfl rfl (hBa2.cell hF.fr 1 rfl)) rfl ?_
 obtain ⟨x_3, hx_3, h⟩ := kg h
 refine kP (hS.pick [] (by decide) rfl) rfl rfl (by kernel_rfl) rfl (c_bignum_mul _ a1_1 a2_1 va1_1 va2_1  (ha1_1.now hS.fr).rp (ha2_1.now hS.fr).rp _ hx_3) rfl ?_
 rintro v_4 w hS1
 have hS := hS.call hS1
 have hG := hS.pick (os' := [OE.bx ba0 [vB a0_0, va0_1], own e32 va0_1 a0_1, own e32 v_4 x_3] ++ []) [1, 2, 0] (by decide) rfl
 obtain ⟨x_6, hx_6, h⟩ := kg h
 refine kP (hS.pick [] (by decide) rfl) rfl rfl (by kernel_rfl) rfl (c_bignum_Int_give _ a0_0 a0_1 (a1_0 != a2_0) x_3 va0_1 v_4 ba0 _ hG.give  _ hx_6) rfl ?_
 rintro _ w ⟨v_7, rfl, hS1⟩
 have hS := hG.back hS1
 refine kj (hS.pick [] (by decide) rfl) rfl rfl (fun w hF => kA rfl) rfl ?_
 refine kY (hS.pick [] (by decide) rfl) ?_
 refine ka (kq ?_)
 cases h
 exact ky rfl rfl ⟨v_7, rfl, hS.pick [0, 1] (by decide) rfl⟩
theorem c_bignum_twin (w0 : World) (a0 : List UInt32) (va0 : Value) (ha0 : RP [] w0 e32 va0 a0) (r : List UInt32)
  (h : F.bignum_twin a0 = some r) : Calls Tryz.prog 130 #[va0] w0 (Ret fun v w => St [] w0 w [own e32 v r]) := by
 refine kz 5 Tryz.func130 rfl rfl rfl ?_
 have hS := St.start w0
 refine kn [(0, va0)] ⟨rfl, trivial⟩ ?_
 unfold F.bignum_twin at h
 refine ke (kc (kb 1 rfl ?_))
 refine kf (ka (ke (kc (kb 1 rfl ?_))))
 obtain ⟨x_1, hx_1, h⟩ := kg h
 refine kW (G_append0 Tryz.underlying24 ti52 rfl rfl rfl hS (ha0.now hS.fr) hx_1) rfl ?_
 rintro v_2 w hS
 refine kb 1 rfl ?_
 refine kf (ka (kq ?_))
 cases h
 exact ky rfl rfl (hS.pick [0] (by decide) rfl)
theorem c_bignum_Int_Set (w0 : World) (a0_0 : Bool) (a0_1 : List UInt32) (a1_0 : Bool) (a1_1 : List UInt32) (va0_1 : Value) (va1_1 : Value) (ba0 : Nat) (ba1 : Nat) (S : List Nat) (hS : St S w0 w0 [OE.bx ba0 [vB a0_0, va0_1], own e32 va0_1 a0_1]) (ha1_1 : RP S w0 e32 va1_1 a1_1) (hBa1 : RB S w0 ba1 [vB a1_0, va1_1]) (r : Bool × List UInt32)
  (h : F.bignum_Int_Set a0_0 a0_1 a1_0 a1_1 = some r) : Calls Tryz.prog 134 #[pB ba0 0, pB ba1 0] w0 (Ret fun v w => ∃ u0_1 : Value, v = pB ba0 0 ∧ St S w0 w [OE.bx ba0 [vB r.1, u0_1], own e32 u0_1 r.2]) := by
 refine kz 16 Tryz.func134 rfl rfl rfl ?_
 refine kn [(0, pB ba0 0), (1, pB ba1 0)] ⟨rfl, rfl, trivial⟩ ?_
 unfold F.bignum_Int_Set at h
 refine ke (kc (kb 1 rfl ?_))
 refine kf (ka (ke ?_))
 have hsh1 := (hS.ro 1 rfl).shp
 refine kN (fun w' => St S w0 w' []) (fun i => !([9, 10].contains i)) hmix (fun _ _ _ hf => hf.2) (fun _ _ hf => hf) (by kernel_rfl) ?_
 have hS := hS.drew
 show lxE _ _ _ _ _ _ _ [0, 1, 2, 3, 4, 5, 6, 7, 8, 9, 10, 11] _ _
 refine kj (hS.pick [] (by decide) rfl) rfl rfl (fun w hF => km rfl) rfl ?_
 refine kj (hS.pick [] (by decide) rfl) rfl rfl (fun w hF => km rfl) rfl ?_
 refine kj (hS.pick [] (by decide) rfl) rfl rfl (fun w hF => kJ rfl) rfl ?_
 refine kj (hS.pick [] (by decide) rfl) rfl rfl (fun w hF => kl (k := 0) Tryz.underlying62 rfl rfl nz4 rfl) rfl ?_
 refine kj (hS.pick [] (by decide) rfl) rfl rfl (fun w hF => ku Tryz.underlying4 rfl rfl (hBa1.cell hF.fr 0 rfl)) rfl ?_
 refine kj (hS.pick [] (by decide) rfl) rfl rfl (fun w hF => km rfl) rfl ?_
 refine kj (hS.pick [] (by decide) rfl) rfl rfl (fun w hF => kJ rfl) rfl ?_
 refine kj (hS.pick [] (by decide) rfl) rfl rfl (fun w hF => kl (k := 1) Tryz.underlying62 rfl rfl nz24 rfl) rfl ?_
 refine kj (hS.pick [] (by decide) rfl) rfl rfl (fun w hF => ku Tryz.underlying24 rfl rfl (hBa1.cell hF.fr 1 rfl)) rfl ?_
 obtain ⟨x_3, hx_3, h⟩ := kg h
 refine kP (hS.pick [] (by decide) rfl) rfl rfl (by kernel_rfl) rfl (c_bignum_twin _ a1_1 va1_1  (ha1_1.now hS.fr).rp _ hx_3) rfl ?_
 rintro v_4 w hS1
 have hS := hS.call hS1
 have hG := hS.pick (os' := [OE.bx ba0 [vB a0_0, va0_1], own e32 va0_1 a0_1, own e32 v_4 x_3] ++ []) [1, 2, 0] (by decide) rfl
 obtain ⟨x_6, hx_6, h⟩ := kg h
 refine kP (hS.pick [] (by decide) rfl) rfl rfl (by kernel_rfl) rfl (c_bignum_Int_give _ a0_0 a0_1 a1_0 x_3 va0_1 v_4 ba0 _ hG.give  _ hx_6) rfl ?_
 rintro _ w ⟨v_7, rfl, hS1⟩
 have hS := hG.back hS1
 refine kj (hS.pick [] (by decide) rfl) rfl rfl (fun w hF => kA rfl) rfl ?_
 refine kY (hS.pick [] (by decide) rfl) ?_
 refine ka (kq ?_)
 cases h
 exact ky rfl rfl ⟨v_7, rfl, hS.pick [0, 1] (by decide) rfl⟩
theorem c_bignum_cmp (w0 : World) (a0 : List UInt32) (a1 : List UInt32) (va0 : Value) (va1 : Value) (ha0 : RP [] w0 e32 va0 a0) (ha1 : RP [] w0 e32 va1 a1) (r : Int)
  (h : F.bignum_cmp a0 a1 = some r) : Calls Tryz.prog 105 #[va0, va1] w0 (Ret fun v w => v = vI r ∧ St [] w0 w []) := by
 refine kz 41 Tryz.func105 rfl rfl rfl ?_
 have hS := St.start w0
 refine kn [(0, va0), (1, va1)] ⟨rfl, rfl, trivial⟩ ?_
 unfold F.bignum_cmp at h
 refine ke (kc (kb 1 rfl ?_))
 refine kf (ka (ke (ke (kc (kb 1 rfl ?_)))))
 refine ki (kB Tryz.underlying24 rfl (ha0.now hS.fr)) rfl (kb 1 rfl ?_)
 refine ki (kB Tryz.underlying24 rfl (ha1.now hS.fr)) rfl (kb 1 rfl ?_)
 refine kf (ka ?_)
 refine ko rfl (fun hb_15 => ?_) (fun hb_15 => ?_)
 ·have h := if_t h hb_15
  refine ke (ke (kc (kb 1 rfl ?_)))
  refine ki (kB Tryz.underlying24 rfl (ha0.now hS.fr)) rfl (kb 1 rfl ?_)
  refine ki (kB Tryz.underlying24 rfl (ha1.now hS.fr)) rfl (kb 1 rfl ?_)
  refine kf (ka ?_)
  refine ko rfl (fun hb_1 => ?_) (fun hb_1 => ?_)
  ·have h := if_t h hb_1
   refine ke (kc (kb 1 rfl ?_))
   refine kf (ka (kq (kv (kv ?_))))
   cases h
   exact ky rfl rfl ⟨rfl, hS⟩
  have h := if_f h hb_1
  refine kr (ka (ke (kc (kb 1 rfl ?_))))
  refine kf (ka (kq (kv ?_)))
  cases h
  exact ky rfl rfl ⟨rfl, hS⟩
 have h := if_f h hb_15
 refine kr (ka (ke (ke (kc (kb 1 rfl ?_)))))
 refine ki (kB Tryz.underlying24 rfl (ha0.now hS.fr)) rfl (kb 1 rfl ?_)
 obtain ⟨x_2, hx_2, h⟩ := kI h
 refine ki (kA (v := vI x_2) (by rw [← hx_2]; rfl)) rfl ?_
 refine kf (ka (kw ?_))
 refine kn [(0, va0), (1, va1), (5, vI x_2)] ⟨rfl, rfl, rfl, trivial⟩ ?_
 refine kS (F.bignum_cmp_L1 a0 a1) (fun (s : Int) L w => L = [(0, va0), (1, va1), (5, vI s)] ∧ St [] w0 w []) ?_ x_2 ⟨rfl, hS⟩ h
 rintro k_14 x_3 L w q_6 hI ih_5 h hk_4
 try dsimp only at hI
 obtain ⟨rfl, hS⟩ := hI
 unfold F.bignum_cmp_L1 at h
 refine ke (ke (kc (kb 2 rfl ?_)))
 refine kf (ka ?_)
 refine ko rfl (fun hb_13 => ?_) (fun hb_13 => ?_)
 ·have h := if_t h hb_13
  refine kr (ka (ke (kw ?_)))
  refine ke ?_
  refine kN (fun w' => St [] w0 w' []) (fun _ => true) hmix (fun _ _ _ hf => hf.2) (fun _ _ hf => hf) (by kernel_rfl) ?_
  have hS := hS.drew
  show lxE _ _ _ _ _ _ _ [0, 1, 2, 3, 4, 5, 6, 7, 8] _ _
  refine kj hS rfl rfl (fun w hF => km rfl) rfl (kj hS rfl rfl (fun w hF => km rfl) rfl ?_)
  obtain ⟨x_7, hx_7, h⟩ := kg h
  refine kj hS rfl rfl (fun w hF => G_ix Tryz.underlying24 ti52 rfl rfl (ha0.now hF.fr) hx_7) rfl (kj hS rfl rfl (fun w hF => G_load Tryz.underlying52 rfl rfl (ha0.now hF.fr) hx_7 rfl) rfl (kj hS rfl rfl (fun w hF => km rfl) rfl (kj hS rfl rfl (fun w hF => km rfl) rfl ?_)))
  obtain ⟨x_8, hx_8, h⟩ := kg h
  refine kj hS rfl rfl (fun w hF => G_ix Tryz.underlying24 ti52 rfl rfl (ha1.now hF.fr) hx_8) rfl (kj hS rfl rfl (fun w hF => G_load Tryz.underlying52 rfl rfl (ha1.now hF.fr) hx_8 rfl) rfl (kj hS rfl rfl (fun w hF => kt rfl rfl (b_neq32 _ x_7 x_8)) rfl (kY hS ?_)))
  refine ka ?_
  refine ko rfl (fun hb_12 => ?_) (fun hb_12 => ?_)
  ·have h := if_t h hb_12
   refine ke (ke ?_)
   refine kN (fun w' => St [] w0 w' []) (fun _ => true) hmix (fun _ _ _ hf => hf.2) (fun _ _ hf => hf) (by kernel_rfl) ?_
   have hS := hS.drew
   show lxE _ _ _ _ _ _ _ [0, 1, 2, 3, 4, 5, 6, 7, 8] _ _
   refine kj hS rfl rfl (fun w hF => km rfl) rfl (kj hS rfl rfl (fun w hF => km rfl) rfl ?_)
   obtain ⟨x_9, hx_9, h⟩ := kg h
   refine kj hS rfl rfl (fun w hF => G_ix Tryz.underlying24 ti52 rfl rfl (ha0.now hF.fr) hx_9) rfl (kj hS rfl rfl (fun w hF => G_load Tryz.underlying52 rfl rfl (ha0.now hF.fr) hx_9 rfl) rfl (kj hS rfl rfl (fun w hF => km rfl) rfl (kj hS rfl rfl (fun w hF => km rfl) rfl ?_)))
   obtain ⟨x_10, hx_10, h⟩ := kg h
   refine kj hS rfl rfl (fun w hF => G_ix Tryz.underlying24 ti52 rfl rfl (ha1.now hF.fr) hx_10) rfl (kj hS rfl rfl (fun w hF => G_load Tryz.underlying52 rfl rfl (ha1.now hF.fr) hx_10 rfl) rfl (kj hS rfl rfl (fun w hF => kt rfl rfl (b_lss32 _ x_9 x_10)) rfl (kY hS ?_)))
   refine ka ?_
   refine ko rfl (fun hb_11 => ?_) (fun hb_11 => ?_)
   ·have h := if_t h hb_11
    refine ke (kc (kb 1 rfl ?_))
    refine kf (ka (kq (kv (QE_blk_r ?_))))
    refine kv (kv ?_)
    have h := kG h hk_4
    refine QE_blk_r ?_
    refine kv ?_
    cases h
    exact ky rfl rfl ⟨rfl, hS⟩
   have h := if_f h hb_11
   refine kr (ka (ke (kc (kb 1 rfl ?_))))
   refine kf (ka (kq (QE_blk_r ?_)))
   refine kv (kv ?_)
   have h := kG h hk_4
   refine QE_blk_r ?_
   refine kv ?_
   cases h
   exact ky rfl rfl ⟨rfl, hS⟩
  have h := if_f h hb_12
  refine kr (kK ?_)
  refine ka (kc (kb 3 rfl ?_))
  refine kf ?_
  exact QE_rnd (wpN_le _ (by exact ⟨rfl, rfl, rfl, trivial⟩) (ih_5 (wI (x_3 - 1)) _ _ ⟨rfl, hS⟩ (kL h hk_4)))
 have h := if_f h hb_13
 refine kQ ?_
 refine kx (kx ?_)
 have h := kG h hk_4
 refine kR ?_
 refine ka (ke (kc (kb 1 rfl ?_)))
 refine kf (ka (kq ?_))
 cases h
 exact ky rfl rfl ⟨rfl, hS⟩
theorem c_bignum_plain (w0 : World) (a0 : List UInt32) (va0 : Value) (ha0 : RP [] w0 e32 va0 a0) (r : UInt64)
  (h : F.bignum_plain a0 = some r) : Calls Tryz.prog 156 #[va0] w0 (Ret fun v w => v = v64 r ∧ St [] w0 w []) := by
 refine kz 22 Tryz.func156 rfl rfl rfl ?_
 have hS := St.start w0
 refine kn [(0, va0)] ⟨rfl, trivial⟩ ?_
 unfold F.bignum_plain at h
 refine ke (kc (kb 1 rfl ?_))
 refine kf (ka (ke (kc (kb 1 rfl ?_))))
 refine kf (ka ?_)
 refine kO (r := r) (fun (g : UInt64) L w => L = [(0, va0), (3, v64 g)] ∧ St [] w0 w []) (F.bignum_plain_K1 a0) ?_ ?_
 rotate_left
 ·intro hK_4
  refine ke (kc (kb 1 rfl ?_))
  refine ki (kB Tryz.underlying24 rfl (ha0.now hS.fr)) rfl (kb 1 rfl ?_)
  refine kf (ka ?_)
  refine ko rfl (fun hb_2 => ?_) (fun hb_2 => ?_)
  ·have h := if_t h hb_2
   refine kc (kb 1 rfl ?_)
   obtain ⟨x_1, hx_1, h⟩ := kg h
   refine ki (G_ix Tryz.underlying24 ti52 rfl rfl (ha0.now hS.fr) hx_1) rfl (ki (G_load Tryz.underlying52 rfl rfl (ha0.now hS.fr) hx_1 rfl) rfl (ki (kF rfl (cv_32_64 Tryz.underlying52 Tryz.underlying94 x_1)) rfl (kb 1 rfl ?_)))
   refine kf (ka ?_)
   exact kn _ (by exact ⟨rfl, rfl, trivial⟩) (hK_4 x_1.toUInt64 _ _ ⟨rfl, hS⟩ h)
  have h := if_f h hb_2
  refine kr (ka ?_)
  exact kn _ (by exact ⟨rfl, rfl, trivial⟩) (hK_4 0 _ _ ⟨rfl, hS⟩ h)
 rintro x_3 L w hJ h
 try dsimp only at hJ
 obtain ⟨rfl, hS⟩ := hJ
 unfold F.bignum_plain_K1 at h
 refine kO (r := r) (fun (g : UInt64) L w => L = [(3, v64 g)] ∧ St [] w0 w []) (F.bignum_plain_K2) ?_ ?_
 rotate_left
 ·intro hK_9
  refine ke (kc (kb 1 rfl ?_))
  refine ki (kB Tryz.underlying24 rfl (ha0.now hS.fr)) rfl (kb 1 rfl ?_)
  refine kf (ka ?_)
  refine ko rfl (fun hb_7 => ?_) (fun hb_7 => ?_)
  ·have h := if_t h hb_7
   refine kc (kb 2 rfl ?_)
   obtain ⟨x_5, hx_5, h⟩ := kg h
   refine ki (G_ix Tryz.underlying24 ti52 rfl rfl (ha0.now hS.fr) hx_5) rfl (ki (G_load Tryz.underlying52 rfl rfl (ha0.now hS.fr) hx_5 rfl) rfl (ki (kF rfl (cv_32_64 Tryz.underlying52 Tryz.underlying94 x_5)) rfl (ki (kt rfl rfl (b_shl64_64 _ x_5.toUInt64 32)) rfl (ki (kt rfl rfl (b_or64 _ x_3 (shl64 x_5.toUInt64 32))) rfl ?_))))
   obtain ⟨x_6, hx_6, h⟩ := kI h
   refine ki (kA (v := v64 x_6) (by rw [← hx_6]; rfl)) rfl ?_
   refine kf (ka ?_)
   exact kn _ (by exact ⟨rfl, trivial⟩) (hK_9 x_6 _ _ ⟨rfl, hS⟩ h)
  have h := if_f h hb_7
  refine kr (ka ?_)
  exact kn _ (by exact ⟨rfl, trivial⟩) (hK_9 x_3 _ _ ⟨rfl, hS⟩ h)
 rintro x_8 L w hJ h
 try dsimp only at hJ
 obtain ⟨rfl, hS⟩ := hJ
 unfold F.bignum_plain_K2 at h
 refine ke (kc (kb 2 rfl ?_))
 refine kf (ka (kq ?_))
 cases h
 exact ky rfl rfl ⟨rfl, hS⟩
theorem c_bignum_small (w0 : World) (a0 : List UInt32) (a1 : UInt32) (va0 : Value) (ha0 : RP [] w0 e32 va0 a0) (r : List UInt32 × UInt32)
  (h : F.bignum_small a0 a1 = some r) : Calls Tryz.prog 157 #[va0, v32 a1] w0 (Ret fun v w => ∃ u0 : Value, v = .tuple #[u0, v32 r.2] ∧ St [] w0 w [own e32 u0 r.1]) := by
 refine kz 43 Tryz.func157 rfl rfl rfl ?_
 have hS := St.start w0
 refine kn [(0, va0), (1, v32 a1)] ⟨rfl, rfl, trivial⟩ ?_
 unfold F.bignum_small at h
 refine ke (kc (kb 2 rfl ?_))
 refine kf (ka (ke (kc (kb 1 rfl ?_))))
 refine ki (kB Tryz.underlying24 rfl (ha0.now hS.fr)) rfl ?_
 obtain ⟨x_1, hx_1, h⟩ := kg h
 refine kW (G_make (e := e32) Tryz.underlying24 ti52 rfl rfl rfl hS hx_1) rfl ?_
 rintro v_2 w hS
 refine kb 1 rfl ?_
 refine kf (ka (ke (kc (kb 1 rfl ?_))))
 refine kf (ka (ke (ke (kc (kb 1 rfl ?_)))))
 refine ki (kB Tryz.underlying24 rfl (ha0.now hS.fr)) rfl (kb 1 rfl ?_)
 obtain ⟨x_4, hx_4, h⟩ := kI h
 refine ki (kA (v := vI x_4) (by rw [← hx_4]; rfl)) rfl ?_
 refine kf (ka (kw ?_))
 refine kn [(0, va0), (1, v32 a1), (6, v_2), (7, v64 0), (8, vI x_4)] ⟨rfl, rfl, rfl, rfl, rfl, trivial⟩ ?_
 refine kS (F.bignum_small_L1 a0 a1) (fun (s : UInt64 × Int × List UInt32) L w => L = [(0, va0), (1, v32 a1), (6, v_2), (7, v64 s.1), (8, vI s.2.1)] ∧ St [] w0 w [own e32 v_2 s.2.2]) ?_ (0, x_4, x_1) ⟨rfl, hS⟩ h
 rintro k_21 ⟨x_5, x_6, x_7⟩ L w q_10 hI ih_9 h hk_8
 try dsimp only at hI
 obtain ⟨rfl, hS⟩ := hI
 unfold F.bignum_small_L1 at h
 refine ke (ke (kc (kb 2 rfl ?_)))
 refine kf (ka ?_)
 refine ko rfl (fun hb_20 => ?_) (fun hb_20 => ?_)
 ·have h := if_t h hb_20
  refine kr (ka (ke (kw ?_)))
  refine ke (kc (kb 1 rfl ?_))
  refine ki (kt rfl rfl (b_shl64_64 _ x_5 32)) rfl (kb 2 rfl ?_)
  obtain ⟨x_11, hx_11, h⟩ := kg h
  refine ki (G_ix Tryz.underlying24 ti52 rfl rfl (ha0.now hS.fr) hx_11) rfl (ki (G_load Tryz.underlying52 rfl rfl (ha0.now hS.fr) hx_11 rfl) rfl (ki (kF rfl (cv_32_64 Tryz.underlying52 Tryz.underlying94 x_11)) rfl (ki (kt rfl rfl (b_or64 _ (shl64 x_5 32) x_11.toUInt64)) rfl ?_)))
  obtain ⟨x_12, hx_12, h⟩ := kI h
  refine ki (kA (v := v64 x_12) (by rw [← hx_12]; rfl)) rfl ?_
  refine kf (ka (ke (kc (kb 4 rfl ?_))))
  refine ki (kF rfl (cv_32_64 Tryz.underlying52 Tryz.underlying94 a1)) rfl ?_
  obtain ⟨hg_13, h⟩ := grd_some h
  refine ki (kt rfl rfl (b_quo64 _ x_12 a1.toUInt64 hg_13)) rfl (ki (kF rfl (cv_64_32 Tryz.underlying94 Tryz.underlying52 (x_12 / a1.toUInt64))) rfl ?_)
  obtain ⟨x_14, hx_14, h⟩ := kg h
  refine ki (G_ix Tryz.underlying24 ti52 rfl rfl (hS.ro 0 rfl) hx_14) rfl (kX (G_storeE (t := ((x_12 / a1.toUInt64).toUInt32)) ti52 rfl rfl hS (i := 0) rfl hx_14 rfl) ?_)
  intro w hS
  obtain ⟨x_15, hx_15, h⟩ := kI h
  rw [hx_15] at hS
  refine kf (ka (kc (kb 2 rfl ?_)))
  refine ki (kF rfl (cv_32_64 Tryz.underlying52 Tryz.underlying94 a1)) rfl ?_
  obtain ⟨hg_16, h⟩ := grd_some h
  refine ki (kt rfl rfl (b_rem64 _ x_12 a1.toUInt64 hg_16)) rfl (kb 1 rfl ?_)
  refine kf (kK ?_)
  refine ka (kc (kb 3 rfl ?_))
  refine kf ?_
  exact QE_rnd (wpN_le _ (by exact ⟨rfl, rfl, rfl, rfl, rfl, trivial⟩) (ih_9 (x_12 % a1.toUInt64, wI (x_6 - 1), x_15) _ _ ⟨rfl, hS⟩ (kL h hk_8)))
 have h := if_f h hb_20
 refine kQ ?_
 refine kx (kx ?_)
 have h := kG h hk_8
 refine kR ?_
 refine ka (ke (kc (kb 1 rfl ?_)))
 have hG := hS.pick (os' := [own e32 v_2 x_7] ++ []) [0] (by decide) rfl
 obtain ⟨x_17, hx_17, h⟩ := kg h
 refine kk (by kernel_rfl) rfl (c_bignum_trim _ x_7 v_2  _ hG.give  _ hx_17) rfl ?_
 rintro v_18 w ⟨v_18q, hqv_18, hS1⟩
 rw [← hqv_18] at hS1
 have hS := hG.back hS1
 refine kb 1 rfl ?_
 refine ki (kF rfl (cv_64_32 Tryz.underlying94 Tryz.underlying52 x_5)) rfl (kb 2 rfl ?_)
 refine kf (ka (kq ?_))
 cases h
 exact QE_ret2 rfl rfl rfl ⟨v_18, rfl, hS.pick [0] (by decide) rfl⟩
theorem c_bignum_length (w0 : World) (a0 : List UInt32) (va0 : Value) (ha0 : RP [] w0 e32 va0 a0) (r : Int)
  (h : F.bignum_length a0 = some r) : Calls Tryz.prog 108 #[va0] w0 (Ret fun v w => v = vI r ∧ St [] w0 w []) := by
 refine kz 26 Tryz.func108 rfl rfl rfl ?_
 have hS := St.start w0
 refine kn [(0, va0)] ⟨rfl, trivial⟩ ?_
 unfold F.bignum_length at h
 refine ke (kc (kb 1 rfl ?_))
 refine kf (ka (ke (ke (kc (kb 1 rfl ?_)))))
 refine ki (kB Tryz.underlying24 rfl (ha0.now hS.fr)) rfl (kb 1 rfl ?_)
 refine kf (ka ?_)
 refine ko rfl (fun hb_9 => ?_) (fun hb_9 => ?_)
 ·have h := if_t h hb_9
  refine ke (kc (kb 1 rfl ?_))
  refine kf (ka (kq (kv ?_)))
  cases h
  exact ky rfl rfl ⟨rfl, hS⟩
 have h := if_f h hb_9
 refine kr (ka (ke (kc (kb 1 rfl ?_))))
 refine kf (ka (ke (ke (kc (kb 2 rfl ?_)))))
 refine ki (kB Tryz.underlying24 rfl (ha0.now hS.fr)) rfl (kb 1 rfl ?_)
 obtain ⟨x_1, hx_1, h⟩ := kg h
 refine ki (G_ix Tryz.underlying24 ti52 rfl rfl (ha0.now hS.fr) hx_1) rfl (ki (G_load Tryz.underlying52 rfl rfl (ha0.now hS.fr) hx_1 rfl) rfl (kb 1 rfl ?_))
 refine kf (ka (kw ?_))
 refine kn [(0, va0), (3, vI 0), (4, v32 x_1)] ⟨rfl, rfl, rfl, trivial⟩ ?_
 refine kS (F.bignum_length_L1 a0) (fun (s : Int × UInt32) L w => L = [(0, va0), (3, vI s.1), (4, v32 s.2)] ∧ St [] w0 w []) ?_ (0, x_1) ⟨rfl, hS⟩ h
 rintro k_8 ⟨x_2, x_3⟩ L w q_6 hI ih_5 h hk_4
 try dsimp only at hI
 obtain ⟨rfl, hS⟩ := hI
 unfold F.bignum_length_L1 at h
 refine ke (ke (kc (kb 1 rfl ?_)))
 refine ki (kt rfl rfl (b_neq32 _ x_3 0)) rfl (kf (ka ?_))
 refine ko rfl (fun hb_7 => ?_) (fun hb_7 => ?_)
 ·have h := if_t h hb_7
  refine kr (ka (ke (kw ?_)))
  refine kc (kb 3 rfl ?_)
  refine kf (kK ?_)
  refine ka (kc (kb 1 rfl ?_))
  refine ki (kt rfl rfl (b_shr32_64 _ x_3 1)) rfl (kb 1 rfl ?_)
  refine kf ?_
  exact QE_rnd (wpN_le _ (by exact ⟨rfl, rfl, rfl, trivial⟩) (ih_5 (wI (x_2 + 1), shr32 x_3 1) _ _ ⟨rfl, hS⟩ (kL h hk_4)))
 have h := if_f h hb_7
 refine kQ ?_
 refine kx (kx ?_)
 have h := kG h hk_4
 refine kR ?_
 refine ka (ke (kc (kb 1 rfl ?_)))
 refine ki (kB Tryz.underlying24 rfl (ha0.now hS.fr)) rfl (kb 1 rfl ?_)
 refine ki (kt rfl rfl (b_imul _ (wI ((a0.length : Int) - 1)) 32)) rfl (kb 3 rfl ?_)
 refine kf (ka (kq ?_))
 cases h
 exact ky rfl rfl ⟨rfl, hS⟩
theorem c_bignum_right (w0 : World) (a0 : List UInt32) (a1 : UInt64) (va0 : Value) (ha0 : RP [] w0 e32 va0 a0) (r : List UInt32)
  (h : F.bignum_right a0 a1 = some r) : Calls Tryz.prog 158 #[va0, v64 a1] w0 (Ret fun v w => St [] w0 w [own e32 v r]) := by
 refine kz 64 Tryz.func158 rfl rfl rfl ?_
 have hS := St.start w0
 refine kn [(0, va0), (1, v64 a1)] ⟨rfl, rfl, trivial⟩ ?_
 unfold F.bignum_right at h
 refine ke (kc (kb 1 rfl ?_))
 refine kf (ka (ke (kc (kb 1 rfl ?_))))
 refine ki (kt rfl rfl (b_quo64 _ a1 32 (by decide))) rfl ?_
 refine ki (kF rfl (cv_64_i Tryz.underlying92 Tryz.underlying3 (a1 / 32))) rfl (kb 1 rfl ?_)
 refine ki (kt rfl rfl (b_rem64 _ a1 32 (by decide))) rfl ?_
 obtain ⟨x_1, hx_1, h⟩ := kI h
 refine ki (kA (v := vI x_1) (by rw [← hx_1]; rfl)) rfl ?_
 refine kb 1 rfl ?_
 refine kf (ka (ke (ke (kc (kb 2 rfl ?_)))))
 refine ki (kB Tryz.underlying24 rfl (ha0.now hS.fr)) rfl (kb 1 rfl ?_)
 refine kf (ka ?_)
 refine ko rfl (fun hb_23 => ?_) (fun hb_23 => ?_)
 ·have h := if_t h hb_23
  refine ke (kc (kb 1 rfl ?_))
  refine kf (ka (kq (kv ?_)))
  cases h
  exact ky rfl rfl ((hS.nil e32).pick [0] (by decide) rfl)
 have h := if_f h hb_23
 refine kr (ka (ke (kc (kb 1 rfl ?_))))
 refine ki (kB Tryz.underlying24 rfl (ha0.now hS.fr)) rfl (kb 2 rfl ?_)
 obtain ⟨x_2, hx_2, h⟩ := kg h
 refine kW (G_make (e := e32) Tryz.underlying24 ti52 rfl rfl rfl hS hx_2) rfl ?_
 rintro v_3 w hS
 refine kb 1 rfl ?_
 refine kf (ka (ke (ke (kc (kb 1 rfl ?_)))))
 refine kf (ka (kw ?_))
 refine kn [(0, va0), (5, vI x_1), (6, v64 (a1 % 32)), (7, v_3), (8, vI 0)] ⟨rfl, rfl, rfl, rfl, rfl, trivial⟩ ?_
 refine kS (F.bignum_right_L1 a0 x_1 a1) (fun (s : Int × List UInt32) L w => L = [(0, va0), (5, vI x_1), (6, v64 (a1 % 32)), (7, v_3), (8, vI s.1)] ∧ St [] w0 w [own e32 v_3 s.2]) ?_ (0, x_2) ⟨rfl, hS⟩ h
 rintro k_22 ⟨x_5, x_6⟩ L w q_9 hI ih_8 h hk_7
 try dsimp only at hI
 obtain ⟨rfl, hS⟩ := hI
 unfold F.bignum_right_L1 at h
 refine ke (ke (kc (kb 2 rfl ?_)))
 refine ki (kB Tryz.underlying24 rfl (hS.ro 0 rfl)) rfl (kb 1 rfl ?_)
 refine kf (ka ?_)
 refine ko rfl (fun hb_21 => ?_) (fun hb_21 => ?_)
 ·have h := if_t h hb_21
  refine kr (ka (ke (kw ?_)))
  refine ke (kc (kb 4 rfl ?_))
  obtain ⟨x_10, hx_10, h⟩ := kg h
  refine ki (G_ix Tryz.underlying24 ti52 rfl rfl (ha0.now hS.fr) hx_10) rfl (ki (G_load Tryz.underlying52 rfl rfl (ha0.now hS.fr) hx_10 rfl) rfl (ki (kF rfl (cv_32_64 Tryz.underlying52 Tryz.underlying94 x_10)) rfl (kb 1 rfl ?_)))
  refine kf (ka ?_)
  refine kO (r := q_9) (fun (g : UInt64) L w => L = [(0, va0), (5, vI x_1), (6, v64 (a1 % 32)), (7, v_3), (8, vI x_5), (9, v64 g)] ∧ St [] w0 w [own e32 v_3 x_6]) (F.bignum_right_K1 a1 x_5 x_6) ?_ ?_
  rotate_left
  ·intro hK_15
   refine ke (kc (kb 5 rfl ?_))
   refine ki (kB Tryz.underlying24 rfl (ha0.now hS.fr)) rfl (kb 1 rfl ?_)
   refine kf (ka ?_)
   refine ko rfl (fun hb_13 => ?_) (fun hb_13 => ?_)
   ·have h := if_t h hb_13
    refine kc (kb 6 rfl ?_)
    obtain ⟨x_11, hx_11, h⟩ := kg h
    refine ki (G_ix Tryz.underlying24 ti52 rfl rfl (ha0.now hS.fr) hx_11) rfl (ki (G_load Tryz.underlying52 rfl rfl (ha0.now hS.fr) hx_11 rfl) rfl (ki (kF rfl (cv_32_64 Tryz.underlying52 Tryz.underlying94 x_11)) rfl (ki (kt rfl rfl (b_shl64_64 _ x_11.toUInt64 32)) rfl (ki (kt rfl rfl (b_or64 _ x_10.toUInt64 (shl64 x_11.toUInt64 32))) rfl ?_))))
    obtain ⟨x_12, hx_12, h⟩ := kI h
    refine ki (kA (v := v64 x_12) (by rw [← hx_12]; rfl)) rfl ?_
    refine kf (ka ?_)
    exact kn _ (by exact ⟨rfl, rfl, rfl, rfl, rfl, rfl, trivial⟩) (hK_15 x_12 _ _ ⟨rfl, hS⟩ h)
   have h := if_f h hb_13
   refine kr (ka ?_)
   exact kn _ (by exact ⟨rfl, rfl, rfl, rfl, rfl, rfl, trivial⟩) (hK_15 x_10.toUInt64 _ _ ⟨rfl, hS⟩ h)
  rintro x_14 L w hJ h
  try dsimp only at hJ
  obtain ⟨rfl, hS⟩ := hJ
  unfold F.bignum_right_K1 at h
  refine kc (kb 4 rfl ?_)
  refine ki (kt rfl rfl (b_shr64_64 _ x_14 (a1 % 32))) rfl (ki (kF rfl (cv_64_32 Tryz.underlying94 Tryz.underlying52 (shr64 x_14 ((a1 % 32).toNat)))) rfl ?_)
  obtain ⟨x_16, hx_16, h⟩ := kg h
  refine ki (G_ix Tryz.underlying24 ti52 rfl rfl (hS.ro 0 rfl) hx_16) rfl (kX (G_storeE (t := ((shr64 x_14 ((a1 % 32).toNat)).toUInt32)) ti52 rfl rfl hS (i := 0) rfl hx_16 rfl) ?_)
  intro w hS
  obtain ⟨x_17, hx_17, h⟩ := kI h
  rw [hx_17] at hS
  refine kf (kK ?_)
  refine ka (kc (kb 3 rfl ?_))
  refine kf ?_
  exact QE_rnd (wpN_le _ (by exact ⟨rfl, rfl, rfl, rfl, rfl, trivial⟩) (ih_8 (wI (x_5 + 1), x_17) _ _ ⟨rfl, hS⟩ (kL h hk_7)))
 have h := if_f h hb_21
 refine kQ ?_
 refine kx (kx ?_)
 have h := kG h hk_7
 refine kR ?_
 refine ka (ke (kc (kb 1 rfl ?_)))
 have hG := hS.pick (os' := [own e32 v_3 x_6] ++ []) [0] (by decide) rfl
 obtain ⟨x_18, hx_18, h⟩ := kg h
 refine kk (by kernel_rfl) rfl (c_bignum_trim _ x_6 v_3  _ hG.give  _ hx_18) rfl ?_
 rintro v_19 w ⟨v_19q, hqv_19, hS1⟩
 rw [← hqv_19] at hS1
 have hS := hG.back hS1
 refine kb 1 rfl ?_
 refine kf (ka (kq ?_))
 cases h
 exact ky rfl rfl (hS.pick [0] (by decide) rfl)
end Go.Proofs
