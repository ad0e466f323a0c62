import Derived.Test.YtpbgncmffgnohaaGreatTW0
import Derived.Test.YtpbgncmffgnohaaGreatGkFref7
set_option linter.unusedVariables false
set_option linter.unusedSimpArgs false
set_option linter.unusedVariables false
set_option maxRecDepth 4000
namespace Go.Proofs
open Go Go.RowKit Go.Gk
theorem c_ref7_Trim (w0 : World) (a0 : List UInt32) (va0 : Value) (ha0 : RP [] w0 e32 va0 a0) (r : List UInt32)
  (h : F.ref7_Trim a0 = some r) : Calls Tryz.prog 135 #[va0] w0 (Ret fun v w => St [] w0 w [own e32 v r]) := by
 refine ky 24 Tryz.func135 rfl rfl rfl ?_
 have hS := St.start w0
 refine km [(0, va0)] ⟨rfl, trivial⟩ ?_
 unfold F.ref7_Trim at h
 refine kd (kc (kb 1 rfl ?_))
 refine ke (ka (kd (kc (kb 1 rfl ?_))))
 refine kh (kA Tryz.underlying25 rfl (ha0.now hS.fr)) rfl (kb 1 rfl ?_)
 refine ke (ka (kd (kv ?_)))
 refine km [(0, va0), (3, vI (a0.length : Int))] ⟨rfl, rfl, trivial⟩ ?_
 refine kR (F.ref7_Trim_L1 a0) (fun (s : Int) L w => L = [(0, va0), (3, vI s)] ∧ St [] w0 w []) ?_ (a0.length : Int) ⟨rfl, hS⟩ h
 rintro k_14 x_1 L w q_4 hI ih_3 h hk_2
 try dsimp only at hI
 obtain ⟨rfl, hS⟩ := hI
 unfold F.ref7_Trim_L1 at h
 refine kd ?_
 refine kN (r := q_4) (fun (g : Bool) L w => L = [(0, va0), (3, vI x_1), (16, vB g)] ∧ St [] w0 w []) (F.ref7_Trim_K1 a0 x_1) ?_ ?_
 rotate_left
 ·intro hK_8
  refine kc (kb 3 rfl ?_)
  cases hb_5 : (decide ((0 : Int) < x_1))
  case true =>
   have h := if_t h hb_5
   try simp only [hb_5]
   refine kb 3 rfl ?_
   obtain ⟨x_6, hx_6, h⟩ := kf h
   refine kS (t := 9) rfl rfl (G_ix Tryz.underlying25 ti52 rfl rfl (ha0.now hS.fr) hx_6) rfl (kS (t := 9) rfl rfl (G_load Tryz.underlying52 rfl rfl (ha0.now hS.fr) hx_6 rfl) rfl (kS (t := 9) rfl rfl (kr rfl rfl (b_eql32 _ x_6 0)) rfl (kb 1 rfl ?_)))
   refine ke (ka ?_)
   exact km _ (by exact ⟨rfl, rfl, rfl, trivial⟩) (hK_8 (x_6 == 0) _ _ ⟨rfl, hS⟩ h)
  case false =>
   have h := if_f h hb_5
   try simp only [hb_5]
   refine kb 7 rfl ?_
   refine ke (ka ?_)
   exact km _ (by exact ⟨rfl, rfl, rfl, trivial⟩) (hK_8 false _ _ ⟨rfl, hS⟩ h)
 rintro x_7 L w hJ h
 try dsimp only at hJ
 obtain ⟨rfl, hS⟩ := hJ
 unfold F.ref7_Trim_K1 at h
 refine kn rfl (fun hb_13 => ?_) (fun hb_13 => ?_)
 ·have h := if_t h hb_13
  refine kq (ka (kv ?_))
  refine kc (kb 3 rfl ?_)
  refine ke (kJ ?_)
  exact QE_rnd (wpN_le _ (by exact ⟨rfl, rfl, trivial⟩) (ih_3 (wI (x_1 - 1)) _ _ ⟨rfl, hS⟩ (kK h hk_2)))
 have h := if_f h hb_13
 refine kP ?_
 refine kw (kw ?_)
 have h := kF h hk_2
 refine kQ ?_
 refine ka (kd (kc (kb 1 rfl ?_)))
 refine ke (ka (kd (kc (kb 3 rfl ?_))))
 obtain ⟨x_9, hx_9, h⟩ := kf h
 refine kh (G_slh Tryz.underlying25 ti52 rfl rfl (ha0.now hS.fr) hx_9) rfl ?_
 obtain ⟨x_10, hx_10, h⟩ := kf h
 refine kV (G_append0 Tryz.underlying25 ti52 rfl rfl rfl hS ((ha0.g_slh hx_9).now hS.fr) hx_10) rfl ?_
 rintro v_11 w hS
 refine kb 1 rfl ?_
 refine ke (ka (ko ?_))
 cases h
 exact kx rfl rfl (hS.pick [0] (by decide) rfl)
theorem c_ref7_one (w0 : World)    (r : List UInt32)
  (h : F.ref7_one  = some r) : Calls Tryz.prog 137 #[] w0 (Ret fun v w => St [] w0 w [own e32 v r]) := by
 refine ky 2 Tryz.func137 rfl rfl rfl ?_
 have hS := St.start w0
 refine km [] trivial ?_
 unfold F.ref7_one at h
 refine kd (kc (kb 1 rfl ?_))
 refine ke (ka (kd (kc ?_)))
 refine kV (OpX_lit (e := e32) (l := ([1] : List UInt32)) (vs := [v32 1]) Tryz.underlying25 ti52 rfl rfl rfl rfl (by decide) (by decide) hS) rfl ?_
 rintro v_1 w hS
 refine kb 1 rfl ?_
 refine ke (ka (ko ?_))
 cases h
 exact kx rfl rfl (hS.pick [0] (by decide) rfl)
theorem c_ref7_limb (w0 : World) (a0 : List UInt32) (a1 : Int) (va0 : Value) (ha0 : RP [] w0 e32 va0 a0) (r : UInt64)
  (h : F.ref7_limb a0 a1 = some r) : Calls Tryz.prog 139 #[va0, vI a1] w0 (Ret fun v w => v = v64 r ∧ St [] w0 w []) := by
 refine ky 14 Tryz.func139 rfl rfl rfl ?_
 have hS := St.start w0
 refine km [(0, va0), (1, vI a1)] ⟨rfl, rfl, trivial⟩ ?_
 unfold F.ref7_limb at h
 refine kd (kc (kb 1 rfl ?_))
 refine ke (ka (kd (kd (kc (kb 2 rfl ?_)))))
 refine kh (kA Tryz.underlying25 rfl (ha0.now hS.fr)) rfl (kb 1 rfl ?_)
 refine ke (ka ?_)
 refine kn rfl (fun hb_2 => ?_) (fun hb_2 => ?_)
 ·have h := if_t h hb_2
  refine kd (kc (kb 1 rfl ?_))
  refine ke (ka (ko (ku ?_)))
  cases h
  exact kx rfl rfl ⟨rfl, hS⟩
 have h := if_f h hb_2
 refine kq (ka (kd (kc (kb 2 rfl ?_))))
 obtain ⟨x_1, hx_1, h⟩ := kf h
 refine kh (G_ix Tryz.underlying25 ti52 rfl rfl (ha0.now hS.fr) hx_1) rfl (kh (G_load Tryz.underlying52 rfl rfl (ha0.now hS.fr) hx_1 rfl) rfl (kh (kE rfl (cv_32_64 Tryz.underlying52 Tryz.underlying94 x_1)) rfl (kb 1 rfl ?_)))
 refine ke (ka (ko ?_))
 cases h
 exact kx rfl rfl ⟨rfl, hS⟩
theorem c_ref7_Cmp (w0 : World) (a0 : List UInt32) (a1 : List UInt32) (va0 : Value) (va1 : Value) (ha0 : RP [] w0 e32 va0 a0) (ha1 : RP [] w0 e32 va1 a1) (r : Int)
  (h : F.ref7_Cmp a0 a1 = some r) : Calls Tryz.prog 136 #[va0, va1] w0 (Ret fun v w => v = vI r ∧ St [] w0 w []) := by
 refine ky 30 Tryz.func136 rfl rfl rfl ?_
 have hS := St.start w0
 refine km [(0, va0), (1, va1)] ⟨rfl, rfl, trivial⟩ ?_
 unfold F.ref7_Cmp at h
 refine kd (kc (kb 1 rfl ?_))
 refine ke (ka (kd (kd (kc (kb 1 rfl ?_)))))
 refine kh (kA Tryz.underlying25 rfl (ha0.now hS.fr)) rfl (kb 1 rfl ?_)
 refine kh (kA Tryz.underlying25 rfl (ha1.now hS.fr)) rfl (kh (OpV_max rfl rfl) rfl (kb 1 rfl ?_))
 obtain ⟨x_1, hx_1, h⟩ := kH h
 refine kh (kz (v := vI x_1) (by rw [← hx_1]; rfl)) rfl ?_
 refine ke (ka (kv ?_))
 refine km [(0, va0), (1, va1), (5, vI x_1)] ⟨rfl, rfl, rfl, trivial⟩ ?_
 refine kR (F.ref7_Cmp_L1 a0 a1) (fun (s : Int) L w => L = [(0, va0), (1, va1), (5, vI s)] ∧ St [] w0 w []) ?_ x_1 ⟨rfl, hS⟩ h
 rintro k_13 x_2 L w q_5 hI ih_4 h hk_3
 try dsimp only at hI
 obtain ⟨rfl, hS⟩ := hI
 unfold F.ref7_Cmp_L1 at h
 refine kd (kd (kc (kb 2 rfl ?_)))
 refine ke (ka ?_)
 refine kn rfl (fun hb_12 => ?_) (fun hb_12 => ?_)
 ·have h := if_t h hb_12
  refine kq (ka (kd (kv ?_)))
  refine kd (kd (kc (kb 2 rfl ?_)))
  obtain ⟨x_6, hx_6, h⟩ := kf h
  refine kj (by kernel_rfl) rfl (c_ref7_limb _ a0 x_2 va0  (ha0.now hS.fr).rp _ hx_6) rfl ?_
  rintro _ w ⟨rfl, hS1⟩
  have hS := hS.call hS1
  refine kb 2 rfl ?_
  obtain ⟨x_7, hx_7, h⟩ := kf h
  refine kj (by kernel_rfl) rfl (c_ref7_limb _ a1 x_2 va1  (ha1.now hS.fr).rp _ hx_7) rfl ?_
  rintro _ w ⟨rfl, hS1⟩
  have hS := hS.call hS1
  refine kh (kr rfl rfl (b_lss64 _ x_6 x_7)) rfl (ke (ka ?_))
  refine kn rfl (fun hb_11 => ?_) (fun hb_11 => ?_)
  ·have h := if_t h hb_11
   refine kd (kc (kb 1 rfl ?_))
   refine ke (ka (ko (ku (QE_blk_r ?_))))
   refine ku (ku ?_)
   have h := kF h hk_3
   refine QE_blk_r ?_
   refine ku ?_
   cases h
   exact kx rfl rfl ⟨rfl, hS⟩
  have h := if_f h hb_11
  refine kq (ka (kd (kc (kb 2 rfl ?_))))
  obtain ⟨x_8, hx_8, h⟩ := kf h
  refine kj (by kernel_rfl) rfl (c_ref7_limb _ a0 x_2 va0  (ha0.now hS.fr).rp _ hx_8) rfl ?_
  rintro _ w ⟨rfl, hS1⟩
  have hS := hS.call hS1
  refine kb 2 rfl ?_
  obtain ⟨x_9, hx_9, h⟩ := kf h
  refine kj (by kernel_rfl) rfl (c_ref7_limb _ a1 x_2 va1  (ha1.now hS.fr).rp _ hx_9) rfl ?_
  rintro _ w ⟨rfl, hS1⟩
  have hS := hS.call hS1
  refine kh (kr rfl rfl (b_gtr64 _ x_8 x_9)) rfl (ke (ka ?_))
  refine kn rfl (fun hb_10 => ?_) (fun hb_10 => ?_)
  ·have h := if_t h hb_10
   refine kd (kc (kb 1 rfl ?_))
   refine ke (ka (ko (QE_blk_r ?_)))
   refine ku (ku ?_)
   have h := kF h hk_3
   refine QE_blk_r ?_
   refine ku ?_
   cases h
   exact kx rfl rfl ⟨rfl, hS⟩
  have h := if_f h hb_10
  refine kq (kJ ?_)
  refine ka (kc (kb 3 rfl ?_))
  refine ke ?_
  exact QE_rnd (wpN_le _ (by exact ⟨rfl, rfl, rfl, trivial⟩) (ih_4 (wI (x_2 - 1)) _ _ ⟨rfl, hS⟩ (kK h hk_3)))
 have h := if_f h hb_12
 refine kP ?_
 refine kw (kw ?_)
 have h := kF h hk_3
 refine kQ ?_
 refine ka (kd (kc (kb 1 rfl ?_)))
 refine ke (ka (ko ?_))
 cases h
 exact kx rfl rfl ⟨rfl, hS⟩
theorem c_ref7_wrong (w0 : World) (a0 : List UInt32) (a1 : List (List UInt32)) (va0 : Value) (va1 : Value) (s1 : List SV) (ha0 : RP [] w0 e32 va0 a0) (ha1 : RP [] w0 eV va1 s1) (hl1 : AllRP [] w0 e32 s1 a1) (r : Int)
  (h : F.ref7_wrong a0 a1 = some r) : Calls Tryz.prog 112 #[va0, va1] w0 (Ret fun v w => v = vI r ∧ St [] w0 w []) := by
 refine ky 27 Tryz.func112 rfl rfl rfl ?_
 have hS := St.start w0
 refine km [(0, va0), (1, va1)] ⟨rfl, rfl, trivial⟩ ?_
 unfold F.ref7_wrong at h
 refine kd (kc (kb 1 rfl ?_))
 refine ke (ka (kd (kd (kc (kb 1 rfl ?_)))))
 refine ke (ka (kv ?_))
 refine km [(0, va0), (1, va1), (5, vI 0)] ⟨rfl, rfl, rfl, trivial⟩ ?_
 refine kR (F.ref7_wrong_L1 a0 a1) (fun (s : Int) L w => L = [(0, va0), (1, va1), (5, vI s)] ∧ St [] w0 w []) ?_ 0 ⟨rfl, hS⟩ h
 rintro k_21 x_1 L w q_4 hI ih_3 h hk_2
 try dsimp only at hI
 obtain ⟨rfl, hS⟩ := hI
 unfold F.ref7_wrong_L1 at h
 refine kd (kd (kc (kb 2 rfl ?_)))
 refine kh (L_len Tryz.underlying121 rfl (ha1.now hS.fr) hl1.len) rfl (kb 1 rfl ?_)
 refine ke (ka ?_)
 refine kn rfl (fun hb_20 => ?_) (fun hb_20 => ?_)
 ·have h := if_t h hb_20
  refine kq (ka (kd (kv ?_)))
  refine kd (kc (kb 2 rfl ?_))
  obtain ⟨x_5, hx_5, h⟩ := kf h
  obtain ⟨sv_6, hsv_6, hRsv_6⟩ := hl1.get hx_5
  refine kh (G_ix Tryz.underlying121 ti25 rfl rfl (ha1.now hS.fr) hsv_6) rfl (kh (G_load Tryz.underlying25 rfl rfl (ha1.now hS.fr) hsv_6 rfl) rfl ?_)
  obtain ⟨x_7, hx_7, h⟩ := kf h
  refine kj (by kernel_rfl) rfl (c_ref7_Trim _ x_5 sv_6.v  (hRsv_6.now hS.fr).rp _ hx_7) rfl ?_
  rintro v_8 w hS1
  have hS := hS.call hS1
  refine kh (kA Tryz.underlying25 rfl (hS.ro 0 rfl)) rfl (kb 1 rfl ?_)
  refine ke (ka ?_)
  refine kn rfl (fun hb_10 => ?_) (fun hb_10 => ?_)
  ·have h := if_t h hb_10
   refine kd (kc (kb 1 rfl ?_))
   refine ke (ka (ko (QE_blk_r ?_)))
   refine ku (ku ?_)
   have h := kF h hk_2
   refine QE_blk_r ?_
   refine ku ?_
   cases h
   exact kx rfl rfl ⟨rfl, hS.pick [] (by decide) rfl⟩
  have h := if_f h hb_10
  refine kq (kJ ?_)
  refine ka (kc (kb 3 rfl ?_))
  refine ke ?_
  exact QE_rnd (wpN_le _ (by exact ⟨rfl, rfl, rfl, trivial⟩) (ih_3 (wI (x_1 + 1)) _ _ ⟨rfl, (hS.pick [] (by decide) rfl)⟩ (kK h hk_2)))
 have h := if_f h hb_20
 refine kP ?_
 refine kw (kw ?_)
 have h := kF h hk_2
 refine kQ ?_
 refine ka (kd (kd (kc (kb 1 rfl ?_))))
 obtain ⟨x_11, hx_11, h⟩ := kf h
 refine kj (by kernel_rfl) rfl (c_ref7_Trim _ a0 va0  (ha0.now hS.fr).rp _ hx_11) rfl ?_
 rintro v_12 w hS1
 have hS := hS.call hS1
 refine kh (kA Tryz.underlying25 rfl (hS.ro 0 rfl)) rfl (kb 1 rfl ?_)
 refine ke (ka ?_)
 refine kn rfl (fun hb_19 => ?_) (fun hb_19 => ?_)
 ·have h := if_t h hb_19
  refine kd (kc (kb 1 rfl ?_))
  refine ke (ka (ko (ku ?_)))
  cases h
  exact kx rfl rfl ⟨rfl, hS.pick [] (by decide) rfl⟩
 have h := if_f h hb_19
 refine kq (ka (kd (kd (kc (kb 1 rfl ?_)))))
 obtain ⟨x_14, hx_14, h⟩ := kf h
 refine kj (by kernel_rfl) rfl (c_ref7_one _     _ hx_14) rfl ?_
 rintro v_15 w hS1
 have hS := hS.call hS1
 obtain ⟨x_17, hx_17, h⟩ := kf h
 refine kj (by kernel_rfl) rfl (c_ref7_Cmp _ a0 x_14 va0 v_15  (ha0.now hS.fr).rp (hS.ro 0 rfl).rp _ hx_17) rfl ?_
 rintro _ w ⟨rfl, hS1⟩
 have hS := hS.call hS1
 refine kb 1 rfl ?_
 refine ke (ka ?_)
 refine kn rfl (fun hb_18 => ?_) (fun hb_18 => ?_)
 ·have h := if_t h hb_18
  refine kd (kc (kb 1 rfl ?_))
  refine ke (ka (ko (ku ?_)))
  cases h
  exact kx rfl rfl ⟨rfl, hS.pick [] (by decide) rfl⟩
 have h := if_f h hb_18
 refine kq (ka (kd (kc (kb 1 rfl ?_))))
 refine ke (ka (ko ?_))
 cases h
 exact kx rfl rfl ⟨rfl, hS.pick [] (by decide) rfl⟩
theorem c_ref7_Times (w0 : World) (a0 : List UInt32) (a1 : List UInt32) (va0 : Value) (va1 : Value) (ha0 : RP [] w0 e32 va0 a0) (ha1 : RP [] w0 e32 va1 a1) (r : List UInt32)
  (h : F.ref7_Times a0 a1 = some r) : Calls Tryz.prog 117 #[va0, va1] w0 (Ret fun v w => St [] w0 w [own e32 v r]) := by
 refine ky 69 Tryz.func117 rfl rfl rfl ?_
 have hS := St.start w0
 refine km [(0, va0), (1, va1)] ⟨rfl, rfl, trivial⟩ ?_
 unfold F.ref7_Times at h
 refine kd (kc (kb 1 rfl ?_))
 refine ke (ka (kd (kc (kb 1 rfl ?_))))
 refine kh (kA Tryz.underlying25 rfl (ha0.now hS.fr)) rfl (kb 1 rfl ?_)
 refine kh (kA Tryz.underlying25 rfl (ha1.now hS.fr)) rfl (kb 1 rfl ?_)
 obtain ⟨x_1, hx_1, h⟩ := kf h
 refine kV (G_make (e := e32) Tryz.underlying25 ti52 rfl rfl rfl hS hx_1) rfl ?_
 rintro v_2 w hS
 refine kb 1 rfl ?_
 refine ke (ka (kd (kd (kc (kb 1 rfl ?_)))))
 refine ke (ka (kv ?_))
 refine km [(0, va0), (1, va1), (5, v_2), (6, vI 0)] ⟨rfl, rfl, rfl, rfl, trivial⟩ ?_
 refine kR (F.ref7_Times_L1 a0 a1) (fun (s : Int × List UInt32) L w => L = [(0, va0), (1, va1), (5, v_2), (6, vI s.1)] ∧ St [] w0 w [own e32 v_2 s.2]) ?_ (0, x_1) ⟨rfl, hS⟩ h
 rintro k_29 ⟨x_4, x_5⟩ L w q_8 hI ih_7 h hk_6
 try dsimp only at hI
 obtain ⟨rfl, hS⟩ := hI
 unfold F.ref7_Times_L1 at h
 refine kd (kd (kc (kb 2 rfl ?_)))
 refine kh (kA Tryz.underlying25 rfl (ha0.now hS.fr)) rfl (kb 1 rfl ?_)
 refine ke (ka ?_)
 refine kn rfl (fun hb_28 => ?_) (fun hb_28 => ?_)
 ·have h := if_t h hb_28
  refine kq (ka (kd (kv ?_)))
  refine kd (kc (kb 1 rfl ?_))
  refine ke (ka (kd (kd (kc (kb 1 rfl ?_)))))
  refine ke (ka (kv ?_))
  refine km [(0, va0), (1, va1), (5, v_2), (6, vI x_4), (7, v64 0), (8, vI 0)] ⟨rfl, rfl, rfl, rfl, rfl, rfl, trivial⟩ ?_
  refine kR (F.ref7_Times_L2 a0 a1 x_4) (fun (s : UInt64 × Int × List UInt32) L w => L = [(0, va0), (1, va1), (5, v_2), (6, vI x_4), (7, v64 s.1), (8, vI s.2.1)] ∧ St [] w0 w [own e32 v_2 s.2.2]) ?_ (0, 0, x_5) ⟨rfl, hS⟩ h
  rintro k_24 ⟨x_9, x_10, x_11⟩ L w q_14 hI ih_13 h hk_12
  try dsimp only at hI
  obtain ⟨rfl, hS⟩ := hI
  unfold F.ref7_Times_L2 at h
  refine kd (kd (kc (kb 2 rfl ?_)))
  refine kh (kA Tryz.underlying25 rfl (ha1.now hS.fr)) rfl (kb 1 rfl ?_)
  refine ke (ka ?_)
  refine kn rfl (fun hb_23 => ?_) (fun hb_23 => ?_)
  ·have h := if_t h hb_23
   refine kq (ka (kd (kv ?_)))
   refine kd ?_
   refine kM (fun w' => St [] w0 w' [own e32 v_2 x_11]) (fun _ => true) hmix (fun _ _ _ hf => hf.2) (fun _ _ hf => hf) (by kernel_rfl) ?_
   have hS := hS.drew
   show lxE _ _ _ _ _ _ _ [0, 1, 2, 3, 4, 5, 6, 7, 8, 9, 10, 11, 12, 13, 14, 15, 16, 17, 18, 19, 20, 21] _ _
   refine ki hS rfl rfl (fun w hF => kl rfl) rfl (ki hS rfl rfl (fun w hF => kl rfl) rfl (ki hS rfl rfl (fun w hF => kl rfl) rfl (ki hS rfl rfl (fun w hF => kr rfl rfl (b_iadd _ x_4 x_10)) rfl ?_)))
   obtain ⟨x_15, hx_15, h⟩ := kf h
   refine ki hS rfl rfl (fun w hF => G_ix Tryz.underlying25 ti52 rfl rfl (hF.ro 0 rfl) hx_15) rfl (ki hS rfl rfl (fun w hF => G_load Tryz.underlying52 rfl rfl (hF.ro 0 rfl) hx_15 rfl) rfl (ki hS rfl rfl (fun w hF => kE rfl (cv_32_64 Tryz.underlying52 Tryz.underlying94 x_15)) rfl (ki hS rfl rfl (fun w hF => kl rfl) rfl (ki hS rfl rfl (fun w hF => kl rfl) rfl ?_))))
   obtain ⟨x_16, hx_16, h⟩ := kf h
   refine ki hS rfl rfl (fun w hF => G_ix Tryz.underlying25 ti52 rfl rfl (ha0.now hF.fr) hx_16) rfl (ki hS rfl rfl (fun w hF => G_load Tryz.underlying52 rfl rfl (ha0.now hF.fr) hx_16 rfl) rfl (ki hS rfl rfl (fun w hF => kE rfl (cv_32_64 Tryz.underlying52 Tryz.underlying94 x_16)) rfl (ki hS rfl rfl (fun w hF => kl rfl) rfl (ki hS rfl rfl (fun w hF => kl rfl) rfl ?_))))
   obtain ⟨x_17, hx_17, h⟩ := kf h
   refine ki hS rfl rfl (fun w hF => G_ix Tryz.underlying25 ti52 rfl rfl (ha1.now hF.fr) hx_17) rfl (ki hS rfl rfl (fun w hF => G_load Tryz.underlying52 rfl rfl (ha1.now hF.fr) hx_17 rfl) rfl (ki hS rfl rfl (fun w hF => kE rfl (cv_32_64 Tryz.underlying52 Tryz.underlying94 x_17)) rfl (ki hS rfl rfl (fun w hF => kr rfl rfl (b_mul64 _ x_16.toUInt64 x_17.toUInt64)) rfl (ki hS rfl rfl (fun w hF => kr rfl rfl (b_add64 _ x_15.toUInt64 (x_16.toUInt64 * x_17.toUInt64))) rfl (ki hS rfl rfl (fun w hF => kl rfl) rfl (ki hS rfl rfl (fun w hF => kr rfl rfl (b_add64 _ (x_15.toUInt64 + (x_16.toUInt64 * x_17.toUInt64)) x_9)) rfl ?_))))))
   obtain ⟨x_18, hx_18, h⟩ := kH h
   refine ki hS rfl rfl (fun w hF => kz (v := v64 x_18) (by rw [← hx_18]; rfl)) rfl ?_
   refine kX hS ?_
   refine ka (kd (kc (kb 5 rfl ?_)))
   refine kh (kr rfl rfl (b_and64 _ x_18 4294967295)) rfl (kh (kE rfl (cv_64_32 Tryz.underlying94 Tryz.underlying52 (x_18 &&& 4294967295))) rfl ?_)
   obtain ⟨x_19, hx_19, h⟩ := kf h
   refine kh (G_ix Tryz.underlying25 ti52 rfl rfl (hS.ro 0 rfl) hx_19) rfl (kW (G_storeE (t := ((x_18 &&& 4294967295).toUInt32)) ti52 rfl rfl hS (i := 0) rfl hx_19 rfl) ?_)
   intro w hS
   obtain ⟨x_20, hx_20, h⟩ := kH h
   rw [hx_20] at hS
   refine ke (ka (kc (kb 1 rfl ?_)))
   refine kh (kr rfl rfl (b_shr64_64 _ x_18 32)) rfl (kb 1 rfl ?_)
   refine ke (kJ ?_)
   refine ka (kc (kb 3 rfl ?_))
   refine ke ?_
   exact QE_rnd (wpN_le _ (by exact ⟨rfl, rfl, rfl, rfl, rfl, rfl, trivial⟩) (ih_13 (shr64 x_18 32, wI (x_10 + 1), x_20) _ _ ⟨rfl, hS⟩ (kK h hk_12)))
  have h := if_f h hb_23
  refine kP ?_
  refine kw (kw ?_)
  have h := kF h hk_12
  refine kQ ?_
  refine ka (kc (kb 3 rfl ?_))
  refine kh (kA Tryz.underlying25 rfl (ha1.now hS.fr)) rfl (kb 2 rfl ?_)
  refine kh (kE rfl (cv_64_32 Tryz.underlying94 Tryz.underlying52 x_9)) rfl ?_
  obtain ⟨x_21, hx_21, h⟩ := kf h
  refine kh (G_ix Tryz.underlying25 ti52 rfl rfl (hS.ro 0 rfl) hx_21) rfl (kW (G_storeE (t := x_9.toUInt32) ti52 rfl rfl hS (i := 0) rfl hx_21 rfl) ?_)
  intro w hS
  obtain ⟨x_22, hx_22, h⟩ := kH h
  rw [hx_22] at hS
  refine ke (kJ ?_)
  refine ka (kc (kb 3 rfl ?_))
  refine ke ?_
  exact QE_rnd (wpN_le _ (by exact ⟨rfl, rfl, rfl, rfl, trivial⟩) (ih_7 (wI (x_4 + 1), x_22) _ _ ⟨rfl, hS⟩ (kK h hk_6)))
 have h := if_f h hb_28
 refine kP ?_
 refine kw (kw ?_)
 have h := kF h hk_6
 refine kQ ?_
 refine ka (kd (kc (kb 1 rfl ?_)))
 obtain ⟨x_25, hx_25, h⟩ := kf h
 refine kj (by kernel_rfl) rfl (c_ref7_Trim _ x_5 v_2  (hS.ro 0 rfl).rp _ hx_25) rfl ?_
 rintro v_26 w hS1
 have hS := hS.call hS1
 refine kb 1 rfl ?_
 refine ke (ka (ko ?_))
 cases h
 exact kx rfl rfl (hS.pick [0] (by decide) rfl)
theorem c_ref7_Bit (w0 : World) (a0 : List UInt32) (a1 : Int) (va0 : Value) (ha0 : RP [] w0 e32 va0 a0) (r : Bool)
  (h : F.ref7_Bit a0 a1 = some r) : Calls Tryz.prog 148 #[va0, vI a1] w0 (Ret fun v w => v = vB r ∧ St [] w0 w []) := by
 refine ky 15 Tryz.func148 rfl rfl rfl ?_
 have hS := St.start w0
 refine km [(0, va0), (1, vI a1)] ⟨rfl, rfl, trivial⟩ ?_
 unfold F.ref7_Bit at h
 refine kd (kc (kb 1 rfl ?_))
 refine ke (ka (kd (kc (kb 2 rfl ?_))))
 refine kh (kr rfl rfl (b_iquo _ a1 32 (by decide))) rfl ?_
 obtain ⟨x_1, hx_1, h⟩ := kf h
 refine kj (by kernel_rfl) rfl (c_ref7_limb _ a0 (wI (Int.tdiv a1 32)) va0  (ha0.now hS.fr).rp _ hx_1) rfl ?_
 rintro _ w ⟨rfl, hS1⟩
 have hS := hS.call hS1
 refine kb 1 rfl ?_
 refine kh (kr rfl rfl (b_irem _ a1 32 (by decide))) rfl ?_
 refine kh (kE rfl (cv_i_64 Tryz.underlying3 Tryz.underlying92 (Int.tmod a1 32))) rfl (kh (kr rfl rfl (b_shr64_64 _ x_1 (UInt64.ofInt (Int.tmod a1 32)))) rfl (kh (kr rfl rfl (b_and64 _ (shr64 x_1 ((UInt64.ofInt (Int.tmod a1 32)).toNat)) 1)) rfl (kh (kr rfl rfl (b_eql64 _ ((shr64 x_1 ((UInt64.ofInt (Int.tmod a1 32)).toNat)) &&& 1) 1)) rfl (kb 1 rfl ?_))))
 refine ke (ka (ko ?_))
 cases h
 exact kx rfl rfl ⟨rfl, hS⟩
theorem c_ref7_Divide (w0 : World) (a0 : List UInt32) (a1 : List UInt32) (va0 : Value) (va1 : Value) (ha0 : RP [] w0 e32 va0 a0) (ha1 : RP [] w0 e32 va1 a1) (r : List UInt32 × List UInt32)
  (h : F.ref7_Divide a0 a1 = some r) : Calls Tryz.prog 138 #[va0, va1] w0 (Ret fun v w => ∃ u0 u1 : Value, v = .tuple #[u0, u1] ∧ St [] w0 w [own e32 u0 r.1, own e32 u1 r.2]) := by
 refine ky 110 Tryz.func138 rfl rfl rfl ?_
 have hS := St.start w0
 refine km [(0, va0), (1, va1)] ⟨rfl, rfl, trivial⟩ ?_
 unfold F.ref7_Divide at h
 refine kd (kc (kb 2 rfl ?_))
 refine ke (ka (kd (kc (kb 1 rfl ?_))))
 obtain ⟨x_1, hx_1, h⟩ := kf h
 refine kj (by kernel_rfl) rfl (c_ref7_Trim _ a0 va0  (ha0.now hS.fr).rp _ hx_1) rfl ?_
 rintro v_2 w hS1
 have hS := hS.call hS1
 refine kb 1 rfl ?_
 refine ke (ka (kd (kc (kb 1 rfl ?_))))
 obtain ⟨x_4, hx_4, h⟩ := kf h
 refine kj (by kernel_rfl) rfl (c_ref7_Trim _ a1 va1  (ha1.now hS.fr).rp _ hx_4) rfl ?_
 rintro v_5 w hS1
 have hS := hS.call hS1
 refine kb 1 rfl ?_
 refine ke (ka (kd (kc (kb 1 rfl ?_))))
 refine kh (kA Tryz.underlying25 rfl (hS.ro 1 rfl)) rfl ?_
 obtain ⟨x_7, hx_7, h⟩ := kf h
 refine kV (G_make (e := e32) Tryz.underlying25 ti52 rfl rfl rfl hS hx_7) rfl ?_
 rintro v_8 w hS
 refine kb 1 rfl ?_
 refine ke (ka (kd (kc (kb 1 rfl ?_))))
 refine kh (kA Tryz.underlying25 rfl (hS.ro 1 rfl)) rfl (kb 1 rfl ?_)
 obtain ⟨x_10, hx_10, h⟩ := kf h
 refine kV (G_make (e := e32) Tryz.underlying25 ti52 rfl rfl rfl hS hx_10) rfl ?_
 rintro v_11 w hS
 refine kb 1 rfl ?_
 refine ke (ka (kd (kd (kc (kb 1 rfl ?_)))))
 refine kh (kA Tryz.underlying25 rfl (hS.ro 3 rfl)) rfl (kh (kr rfl rfl (b_imul _ 32 (x_1.length : Int))) rfl (kb 1 rfl ?_))
 obtain ⟨x_13, hx_13, h⟩ := kH h
 refine kh (kz (v := vI x_13) (by rw [← hx_13]; rfl)) rfl ?_
 refine ke (ka (kv ?_))
 refine km [(0, v_2), (1, v_5), (6, v_8), (7, v_11), (8, vI x_13)] ⟨rfl, rfl, rfl, rfl, rfl, trivial⟩ ?_
 refine kR (F.ref7_Divide_L1 x_1 x_4) (fun (s : Int × List UInt32 × List UInt32) L w => L = [(0, v_2), (1, v_5), (6, v_8), (7, v_11), (8, vI s.1)] ∧ St [] w0 w [own e32 v_2 x_1, own e32 v_5 x_4, own e32 v_8 s.2.1, own e32 v_11 s.2.2]) ?_ (x_13, x_7, x_10) ⟨rfl, (hS.pick [3, 2, 1, 0] (by decide) rfl)⟩ h
 rintro k_68 ⟨x_14, x_15, x_16⟩ L w q_19 hI ih_18 h hk_17
 try dsimp only at hI
 obtain ⟨rfl, hS⟩ := hI
 unfold F.ref7_Divide_L1 at h
 refine kd (kd (kc (kb 2 rfl ?_)))
 refine ke (ka ?_)
 refine kn rfl (fun hb_67 => ?_) (fun hb_67 => ?_)
 ·have h := if_t h hb_67
  refine kq (ka ?_)
  refine kN (r := q_19) (fun (g : List UInt32 × List UInt32) L w => L = [(0, v_2), (1, v_5), (6, v_8), (7, v_11), (8, vI x_14)] ∧ St [] w0 w [own e32 v_2 x_1, own e32 v_5 x_4, own e32 v_8 g.1, own e32 v_11 g.2]) (F.ref7_Divide_K1 x_14) ?_ ?_
  rotate_left
  ·intro hK_60
   refine kv ?_
   refine kd (kc (kb 1 rfl ?_))
   refine ke (ka ?_)
   refine kN (r := q_19) (fun (g : UInt32) L w => L = [(0, v_2), (1, v_5), (6, v_8), (7, v_11), (8, vI x_14), (9, v32 g)] ∧ St [] w0 w [own e32 v_2 x_1, own e32 v_5 x_4, own e32 v_8 x_15, own e32 v_11 x_16]) (F.ref7_Divide_K2 x_16 x_4 x_15 x_14) ?_ ?_
   rotate_left
   ·intro hK_23
    refine kd (kc (kb 2 rfl ?_))
    obtain ⟨x_20, hx_20, h⟩ := kf h
    refine kj (by kernel_rfl) rfl (c_ref7_Bit _ x_1 x_14 v_2  (hS.ro 0 rfl).rp _ hx_20) rfl ?_
    rintro _ w ⟨rfl, hS1⟩
    have hS := hS.call hS1
    refine ke (ka ?_)
    refine kn rfl (fun hb_21 => ?_) (fun hb_21 => ?_)
    ·have h := if_t h hb_21
     refine kc (kb 1 rfl ?_)
     refine ke (ka ?_)
     exact km _ (by exact ⟨rfl, rfl, rfl, rfl, rfl, rfl, trivial⟩) (hK_23 1 _ _ ⟨rfl, hS⟩ h)
    have h := if_f h hb_21
    refine kq (ka ?_)
    exact km _ (by exact ⟨rfl, rfl, rfl, rfl, rfl, rfl, trivial⟩) (hK_23 0 _ _ ⟨rfl, hS⟩ h)
   rintro x_22 L w hJ h
   try dsimp only at hJ
   obtain ⟨rfl, hS⟩ := hJ
   unfold F.ref7_Divide_K2 at h
   refine kd (kd (kc (kb 1 rfl ?_)))
   refine ke (ka (kv ?_))
   refine km [(0, v_2), (1, v_5), (6, v_8), (7, v_11), (8, vI x_14), (9, v32 x_22), (10, vI 0)] ⟨rfl, rfl, rfl, rfl, rfl, rfl, rfl, trivial⟩ ?_
   refine kR (F.ref7_Divide_L2 x_4 x_15 x_14) (fun (s : UInt32 × Int × List UInt32) L w => L = [(0, v_2), (1, v_5), (6, v_8), (7, v_11), (8, vI x_14), (9, v32 s.1), (10, vI s.2.1)] ∧ St [] w0 w [own e32 v_2 x_1, own e32 v_5 x_4, own e32 v_8 x_15, own e32 v_11 s.2.2]) ?_ (x_22, 0, x_16) ⟨rfl, hS⟩ h
   rintro k_57 ⟨x_24, x_25, x_26⟩ L w q_29 hI ih_28 h hk_27
   try dsimp only at hI
   obtain ⟨rfl, hS⟩ := hI
   unfold F.ref7_Divide_L2 at h
   refine kd (kd (kc (kb 2 rfl ?_)))
   refine kh (kA Tryz.underlying25 rfl (hS.ro 3 rfl)) rfl (kb 1 rfl ?_)
   refine ke (ka ?_)
   refine kn rfl (fun hb_56 => ?_) (fun hb_56 => ?_)
   ·have h := if_t h hb_56
    refine kq (ka (kd (kv ?_)))
    refine kd (kc (kb 2 rfl ?_))
    obtain ⟨x_30, hx_30, h⟩ := kf h
    refine kh (G_ix Tryz.underlying25 ti52 rfl rfl (hS.ro 3 rfl) hx_30) rfl (kh (G_load Tryz.underlying52 rfl rfl (hS.ro 3 rfl) hx_30 rfl) rfl (kh (kr rfl rfl (b_shr32_64 _ x_30 31)) rfl (kb 1 rfl ?_)))
    refine ke (ka (kd (kc (kb 4 rfl ?_))))
    obtain ⟨x_31, hx_31, h⟩ := kf h
    refine kh (G_ix Tryz.underlying25 ti52 rfl rfl (hS.ro 3 rfl) hx_31) rfl (kh (G_load Tryz.underlying52 rfl rfl (hS.ro 3 rfl) hx_31 rfl) rfl (kh (kr rfl rfl (b_shl32_64 _ x_31 1)) rfl (kb 1 rfl ?_)))
    refine kh (kr rfl rfl (b_or32 _ (shl32 x_31 1) x_24)) rfl ?_
    obtain ⟨x_32, hx_32, h⟩ := kf h
    refine kh (G_ix Tryz.underlying25 ti52 rfl rfl (hS.ro 3 rfl) hx_32) rfl (kW (G_storeE (t := ((shl32 x_31 1) ||| x_24)) ti52 rfl rfl hS (i := 3) rfl hx_32 rfl) ?_)
    intro w hS
    obtain ⟨x_33, hx_33, h⟩ := kH h
    rw [hx_33] at hS
    refine ke (ka (kc (kb 2 rfl ?_)))
    refine ke (kJ ?_)
    refine ka (kc (kb 3 rfl ?_))
    refine ke ?_
    exact QE_rnd (wpN_le _ (by exact ⟨rfl, rfl, rfl, rfl, rfl, rfl, rfl, trivial⟩) (ih_28 (shr32 x_30 31, wI (x_25 + 1), x_33) _ _ ⟨rfl, hS⟩ (kK h hk_27)))
   have h := if_f h hb_56
   refine kP ?_
   refine kw (kw ?_)
   have h := kF h hk_27
   refine kQ ?_
   refine ka (kd (kc (kb 2 rfl ?_)))
   obtain ⟨x_34, hx_34, h⟩ := kf h
   refine kj (by kernel_rfl) rfl (c_ref7_Cmp _ x_26 x_4 v_11 v_5  (hS.ro 3 rfl).rp (hS.ro 1 rfl).rp _ hx_34) rfl ?_
   rintro _ w ⟨rfl, hS1⟩
   have hS := hS.call hS1
   refine kb 1 rfl ?_
   refine ke (ka ?_)
   refine kn rfl (fun hb_55 => ?_) (fun hb_55 => ?_)
   ·have h := if_t h hb_55
    refine kd (kc (kb 1 rfl ?_))
    refine ke (ka (kd (kd (kc (kb 1 rfl ?_)))))
    refine ke (ka (kv ?_))
    refine km [(0, v_2), (1, v_5), (6, v_8), (7, v_11), (8, vI x_14), (12, v64 0), (13, vI 0)] ⟨rfl, rfl, rfl, rfl, rfl, rfl, rfl, trivial⟩ ?_
    refine kR (F.ref7_Divide_L3 x_4 x_14 x_15) (fun (s : UInt64 × Int × List UInt32) L w => L = [(0, v_2), (1, v_5), (6, v_8), (7, v_11), (8, vI x_14), (12, v64 s.1), (13, vI s.2.1)] ∧ St [] w0 w [own e32 v_2 x_1, own e32 v_5 x_4, own e32 v_8 x_15, own e32 v_11 s.2.2]) ?_ (0, 0, x_26) ⟨rfl, hS⟩ h
    rintro k_54 ⟨x_35, x_36, x_37⟩ L w q_40 hI ih_39 h hk_38
    try dsimp only at hI
    obtain ⟨rfl, hS⟩ := hI
    unfold F.ref7_Divide_L3 at h
    refine kd (kd (kc (kb 2 rfl ?_)))
    refine kh (kA Tryz.underlying25 rfl (hS.ro 3 rfl)) rfl (kb 1 rfl ?_)
    refine ke (ka ?_)
    refine kn rfl (fun hb_53 => ?_) (fun hb_53 => ?_)
    ·have h := if_t h hb_53
     refine kq (ka (kd (kv ?_)))
     refine kd (kc (kb 2 rfl ?_))
     obtain ⟨x_41, hx_41, h⟩ := kf h
     refine kj (by kernel_rfl) rfl (c_ref7_limb _ x_4 x_36 v_5  (hS.ro 1 rfl).rp _ hx_41) rfl ?_
     rintro _ w ⟨rfl, hS1⟩
     have hS := hS.call hS1
     refine kb 1 rfl ?_
     refine kh (kr rfl rfl (b_add64 _ x_41 x_35)) rfl (kb 1 rfl ?_)
     refine ke (ka (kd (kc (kb 2 rfl ?_))))
     obtain ⟨x_42, hx_42, h⟩ := kf h
     refine kh (G_ix Tryz.underlying25 ti52 rfl rfl (hS.ro 3 rfl) hx_42) rfl (kh (G_load Tryz.underlying52 rfl rfl (hS.ro 3 rfl) hx_42 rfl) rfl (kh (kE rfl (cv_32_64 Tryz.underlying52 Tryz.underlying94 x_42)) rfl (kb 1 rfl ?_)))
     refine ke (ka (kd (kc (kb 1 rfl ?_))))
     refine ke (ka ?_)
     refine kN (r := q_40) (fun (g : UInt64 × UInt64) L w => L = [(0, v_2), (1, v_5), (6, v_8), (7, v_11), (8, vI x_14), (12, v64 g.1), (13, vI x_36), (14, v64 (x_41 + x_35)), (15, v64 g.2)] ∧ St [] w0 w [own e32 v_2 x_1, own e32 v_5 x_4, own e32 v_8 x_15, own e32 v_11 x_37]) (F.ref7_Divide_K3 x_35 x_36 x_37 x_41) ?_ ?_
     rotate_left
     ·intro hK_47
      refine kd (kc (kb 2 rfl ?_))
      refine kh (kr rfl rfl (b_lss64 _ x_42.toUInt64 (x_41 + x_35))) rfl (ke (ka ?_))
      refine kn rfl (fun hb_44 => ?_) (fun hb_44 => ?_)
      ·have h := if_t h hb_44
       refine kd (kc (kb 1 rfl ?_))
       refine kh (kr rfl rfl (b_add64 _ x_42.toUInt64 4294967296)) rfl ?_
       obtain ⟨x_43, hx_43, h⟩ := kH h
       refine kh (kz (v := v64 x_43) (by rw [← hx_43]; rfl)) rfl ?_
       refine ke (ka (kc (kb 1 rfl ?_)))
       refine ke (ka ?_)
       exact km _ (by exact ⟨rfl, rfl, rfl, rfl, rfl, rfl, rfl, rfl, rfl, trivial⟩) (hK_47 (1, x_43) _ _ ⟨rfl, hS⟩ h)
      have h := if_f h hb_44
      refine kq (ka ?_)
      exact km _ (by exact ⟨rfl, rfl, rfl, rfl, rfl, rfl, rfl, rfl, rfl, trivial⟩) (hK_47 (0, x_42.toUInt64) _ _ ⟨rfl, hS⟩ h)
     rintro ⟨x_45, x_46⟩ L w hJ h
     try dsimp only at hJ
     obtain ⟨rfl, hS⟩ := hJ
     unfold F.ref7_Divide_K3 at h
     refine kc (kb 4 rfl ?_)
     refine kh (kr rfl rfl (b_sub64 _ x_46 (x_41 + x_35))) rfl (kh (kE rfl (cv_64_32 Tryz.underlying94 Tryz.underlying52 (x_46 - (x_41 + x_35)))) rfl ?_)
     obtain ⟨x_48, hx_48, h⟩ := kf h
     refine kh (G_ix Tryz.underlying25 ti52 rfl rfl (hS.ro 3 rfl) hx_48) rfl (kW (G_storeE (t := ((x_46 - (x_41 + x_35)).toUInt32)) ti52 rfl rfl hS (i := 3) rfl hx_48 rfl) ?_)
     intro w hS
     obtain ⟨x_49, hx_49, h⟩ := kH h
     rw [hx_49] at hS
     refine ke (kJ ?_)
     refine ka (kc (kb 3 rfl ?_))
     refine ke ?_
     exact QE_rnd (wpN_le _ (by exact ⟨rfl, rfl, rfl, rfl, rfl, rfl, rfl, trivial⟩) (ih_39 (x_45, wI (x_36 + 1), x_49) _ _ ⟨rfl, hS⟩ (kK h hk_38)))
    have h := if_f h hb_53
    refine kP ?_
    refine kw (kw ?_)
    have h := kF h hk_38
    refine kQ ?_
    refine ka (kc (kb 2 rfl ?_))
    refine kh (kr rfl rfl (b_iquo _ x_14 32 (by decide))) rfl ?_
    refine kb 2 rfl ?_
    refine kh (kr rfl rfl (b_iquo _ x_14 32 (by decide))) rfl ?_
    obtain ⟨x_50, hx_50, h⟩ := kf h
    refine kh (G_ix Tryz.underlying25 ti52 rfl rfl (hS.ro 2 rfl) hx_50) rfl (kh (G_load Tryz.underlying52 rfl rfl (hS.ro 2 rfl) hx_50 rfl) rfl (kb 1 rfl ?_))
    refine kh (kr rfl rfl (b_irem _ x_14 32 (by decide))) rfl ?_
    refine kh (kE rfl (cv_i_64 Tryz.underlying3 Tryz.underlying92 (Int.tmod x_14 32))) rfl (kh (kr rfl rfl (b_shl32_64 _ 1 (UInt64.ofInt (Int.tmod x_14 32)))) rfl (kh (kr rfl rfl (b_or32 _ x_50 (shl32 1 ((UInt64.ofInt (Int.tmod x_14 32)).toNat)))) rfl ?_))
    obtain ⟨x_51, hx_51, h⟩ := kf h
    refine kh (G_ix Tryz.underlying25 ti52 rfl rfl (hS.ro 2 rfl) hx_51) rfl (kW (G_storeE (t := (x_50 ||| (shl32 1 ((UInt64.ofInt (Int.tmod x_14 32)).toNat)))) ti52 rfl rfl hS (i := 2) rfl hx_51 rfl) ?_)
    intro w hS
    obtain ⟨x_52, hx_52, h⟩ := kH h
    rw [hx_52] at hS
    refine ke (kJ ?_)
    refine ka ?_
    exact km _ (by exact ⟨rfl, rfl, rfl, rfl, rfl, trivial⟩) (hK_60 (x_52, x_37) _ _ ⟨rfl, hS⟩ h)
   have h := if_f h hb_55
   refine kq (kJ ?_)
   refine ka ?_
   exact km _ (by exact ⟨rfl, rfl, rfl, rfl, rfl, trivial⟩) (hK_60 (x_15, x_26) _ _ ⟨rfl, hS⟩ h)
  rintro ⟨x_58, x_59⟩ L w hJ h
  try dsimp only at hJ
  obtain ⟨rfl, hS⟩ := hJ
  unfold F.ref7_Divide_K1 at h
  refine kc (kb 3 rfl ?_)
  refine ke ?_
  exact QE_rnd (wpN_le _ (by exact ⟨rfl, rfl, rfl, rfl, rfl, trivial⟩) (ih_18 (wI (x_14 - 1), x_58, x_59) _ _ ⟨rfl, hS⟩ (kK h hk_17)))
 have h := if_f h hb_67
 refine kP ?_
 refine kw (kw ?_)
 have h := kF h hk_17
 refine kQ ?_
 refine ka (kd (kc (kb 1 rfl ?_)))
 obtain ⟨x_61, hx_61, h⟩ := kf h
 refine kj (by kernel_rfl) rfl (c_ref7_Trim _ x_15 v_8  (hS.ro 2 rfl).rp _ hx_61) rfl ?_
 rintro v_62 w hS1
 have hS := hS.call hS1
 refine kb 1 rfl ?_
 obtain ⟨x_64, hx_64, h⟩ := kf h
 refine kj (by kernel_rfl) rfl (c_ref7_Trim _ x_16 v_11  (hS.ro 4 rfl).rp _ hx_64) rfl ?_
 rintro v_65 w hS1
 have hS := hS.call hS1
 refine kb 2 rfl ?_
 refine ke (ka (ko ?_))
 cases h
 exact QE_ret2 rfl rfl rfl ⟨v_62, v_65, rfl, hS.pick [1, 0] (by decide) rfl⟩
theorem c_ref7_rest (w0 : World) (a0 : List UInt32) (a1 : List UInt32) (va0 : Value) (va1 : Value) (ha0 : RP [] w0 e32 va0 a0) (ha1 : RP [] w0 e32 va1 a1) (r : List UInt32)
  (h : F.ref7_rest a0 a1 = some r) : Calls Tryz.prog 113 #[va0, va1] w0 (Ret fun v w => St [] w0 w [own e32 v r]) := by
 refine ky 14 Tryz.func113 rfl rfl rfl ?_
 have hS := St.start w0
 refine km [(0, va0), (1, va1)] ⟨rfl, rfl, trivial⟩ ?_
 unfold F.ref7_rest at h
 refine kd (kc (kb 1 rfl ?_))
 refine ke (ka (kd (kc (kb 2 rfl ?_))))
 obtain ⟨x_1, hx_1, h⟩ := kf h
 refine kj (by kernel_rfl) rfl (c_ref7_Divide _ a0 a1 va0 va1  (ha0.now hS.fr).rp (ha1.now hS.fr).rp _ hx_1) rfl ?_
 rintro _ w ⟨v_2, v_4, rfl, hS1⟩
 have hS := hS.call hS1
 refine kb 5 rfl ?_
 refine ke (ka (kd (kc (kb 2 rfl ?_))))
 refine ke (ka (ko ?_))
 cases h
 exact kx rfl rfl (hS.pick [1] (by decide) rfl)
theorem c_ref7_Mul (w0 : World) (a0 : List UInt32) (a1 : List UInt32) (a2 : List UInt32) (va0 : Value) (va1 : Value) (va2 : Value) (ha0 : RP [] w0 e32 va0 a0) (ha1 : RP [] w0 e32 va1 a1) (ha2 : RP [] w0 e32 va2 a2) (r : List UInt32 × Int)
  (h : F.ref7_Mul a0 a1 a2 = some r) : Calls Tryz.prog 91 #[va0, va1, va2] w0 (Ret fun v w => ∃ u0 : Value, v = .tuple #[u0, vI r.2] ∧ St [] w0 w [own e32 u0 r.1]) := by
 refine ky 22 Tryz.func91 rfl rfl rfl ?_
 have hS := St.start w0
 refine km [(0, va0), (1, va1), (2, va2)] ⟨rfl, rfl, rfl, trivial⟩ ?_
 unfold F.ref7_Mul at h
 refine kd (kc (kb 2 rfl ?_))
 refine ke (ka (kd (kc (kb 3 rfl ?_))))
 refine kV (OpX_lit (e := eV) (l := ([SV.of va0, SV.of va1] : List SV)) (vs := [va0, va1]) Tryz.underlying121 ti25 rfl rfl rfl (fl_eVc (ha0.now hS.fr).sv (fl_eVc (ha1.now hS.fr).sv rfl)) (by decide) (by decide) hS) rfl ?_
 rintro v_1 w hS
 obtain ⟨x_3, hx_3, h⟩ := kf h
 refine kj (by kernel_rfl) rfl (c_ref7_wrong _ a2 [a0, a1] va2 v_1 [SV.of va0, SV.of va1] (ha2.now hS.fr).rp (hS.ro 0 rfl).rp ⟨(ha0.now hS.fr).svrp, (ha1.now hS.fr).svrp, trivial⟩ _ hx_3) rfl ?_
 rintro _ w ⟨rfl, hS1⟩
 have hS := hS.call hS1
 refine kb 1 rfl ?_
 refine ke (ka (kd (kd (kc (kb 2 rfl ?_)))))
 refine ke (ka ?_)
 refine kn rfl (fun hb_10 => ?_) (fun hb_10 => ?_)
 ·have h := if_t h hb_10
  refine kd (kc (kb 3 rfl ?_))
  refine ke (ka (ko (ku ?_)))
  cases h
  exact QE_ret2 rfl rfl rfl ⟨.slice none 0 0, rfl, (hS.nil e32).pick [0] (by decide) rfl⟩
 have h := if_f h hb_10
 refine kq (ka (kd (kc (kb 2 rfl ?_))))
 obtain ⟨x_4, hx_4, h⟩ := kf h
 refine kj (by kernel_rfl) rfl (c_ref7_Times _ a0 a1 va0 va1  (ha0.now hS.fr).rp (ha1.now hS.fr).rp _ hx_4) rfl ?_
 rintro v_5 w hS1
 have hS := hS.call hS1
 refine kb 1 rfl ?_
 obtain ⟨x_7, hx_7, h⟩ := kf h
 refine kj (by kernel_rfl) rfl (c_ref7_rest _ x_4 a2 v_5 va2  (hS.ro 0 rfl).rp (ha2.now hS.fr).rp _ hx_7) rfl ?_
 rintro v_8 w hS1
 have hS := hS.call hS1
 refine kb 2 rfl ?_
 refine ke (ka (ko ?_))
 cases h
 exact QE_ret2 rfl rfl rfl ⟨v_8, rfl, hS.pick [0] (by decide) rfl⟩
theorem c_ref7_Plus (w0 : World) (a0 : List UInt32) (a1 : List UInt32) (va0 : Value) (va1 : Value) (ha0 : RP [] w0 e32 va0 a0) (ha1 : RP [] w0 e32 va1 a1) (r : List UInt32)
  (h : F.ref7_Plus a0 a1 = some r) : Calls Tryz.prog 115 #[va0, va1] w0 (Ret fun v w => St [] w0 w [own e32 v r]) := by
 refine ky 37 Tryz.func115 rfl rfl rfl ?_
 have hS := St.start w0
 refine km [(0, va0), (1, va1)] ⟨rfl, rfl, trivial⟩ ?_
 unfold F.ref7_Plus at h
 refine kd (kc (kb 1 rfl ?_))
 refine ke (ka (kd (kc (kb 1 rfl ?_))))
 refine ke (ka (kd (kc (kb 1 rfl ?_))))
 refine ke (ka (kd (kd (kc (kb 1 rfl ?_)))))
 refine ke (ka (kv ?_))
 refine km [(0, va0), (1, va1), (5, .slice none 0 0), (6, v64 0), (7, vI 0)] ⟨rfl, rfl, rfl, rfl, rfl, trivial⟩ ?_
 refine kR (F.ref7_Plus_L1 a0 a1) (fun (s : List UInt32 × UInt64 × Int) L w => ∃ (v_2 : Value), L = [(0, va0), (1, va1), (5, v_2), (6, v64 s.2.1), (7, vI s.2.2)] ∧ St [] w0 w [own e32 v_2 s.1]) ?_ ([], 0, 0) ⟨.slice none 0 0, rfl, (hS.nil e32)⟩ h
 rintro k_21 ⟨x_1, x_4, x_5⟩ L w q_8 hI ih_7 h hk_6
 try dsimp only at hI
 obtain ⟨v_2, rfl, hS⟩ := hI
 unfold F.ref7_Plus_L1 at h
 refine kd (kd (kc (kb 2 rfl ?_)))
 refine kh (kA Tryz.underlying25 rfl (ha0.now hS.fr)) rfl (kb 1 rfl ?_)
 refine kh (kA Tryz.underlying25 rfl (ha1.now hS.fr)) rfl (kh (OpV_max rfl rfl) rfl (kb 1 rfl ?_))
 refine ke (ka ?_)
 refine kn rfl (fun hb_20 => ?_) (fun hb_20 => ?_)
 ·have h := if_t h hb_20
  refine kq (ka (kd (kv ?_)))
  refine kd (kc (kb 2 rfl ?_))
  obtain ⟨x_9, hx_9, h⟩ := kf h
  refine kj (by kernel_rfl) rfl (c_ref7_limb _ a0 x_5 va0  (ha0.now hS.fr).rp _ hx_9) rfl ?_
  rintro _ w ⟨rfl, hS1⟩
  have hS := hS.call hS1
  refine kb 2 rfl ?_
  obtain ⟨x_10, hx_10, h⟩ := kf h
  refine kj (by kernel_rfl) rfl (c_ref7_limb _ a1 x_5 va1  (ha1.now hS.fr).rp _ hx_10) rfl ?_
  rintro _ w ⟨rfl, hS1⟩
  have hS := hS.call hS1
  refine kh (kr rfl rfl (b_add64 _ x_9 x_10)) rfl (kb 1 rfl ?_)
  refine kh (kr rfl rfl (b_add64 _ (x_9 + x_10) x_4)) rfl (kb 1 rfl ?_)
  refine ke (ka (kd (kc (kb 2 rfl ?_))))
  refine kh (kr rfl rfl (b_and64 _ ((x_9 + x_10) + x_4) 4294967295)) rfl (kh (kE rfl (cv_64_32 Tryz.underlying94 Tryz.underlying52 (((x_9 + x_10) + x_4) &&& 4294967295))) rfl ?_)
  refine kV (OpX_lit (e := e32) (l := ([(((x_9 + x_10) + x_4) &&& 4294967295).toUInt32] : List UInt32)) (vs := [v32 ((((x_9 + x_10) + x_4) &&& 4294967295).toUInt32)]) Tryz.underlying25 ti52 rfl rfl rfl rfl (by decide) (by decide) hS) rfl ?_
  rintro v_11 w hS
  obtain ⟨x_13, hx_13, h⟩ := kf h
  refine kV (G_append Tryz.underlying25 ti52 rfl rfl rfl hS (i := 1) rfl (hS.ro 0 rfl) hx_13) rfl ?_
  rintro v_14 w hS
  refine kb 1 rfl ?_
  refine ke (ka (kc (kb 1 rfl ?_)))
  refine kh (kr rfl rfl (b_shr64_64 _ ((x_9 + x_10) + x_4) 32)) rfl ?_
  obtain ⟨x_16, hx_16, h⟩ := kH h
  refine kh (kz (v := v64 x_16) (by rw [← hx_16]; rfl)) rfl ?_
  refine ke (kJ ?_)
  refine ka (kc (kb 3 rfl ?_))
  refine ke ?_
  exact QE_rnd (wpN_le _ (by exact ⟨rfl, rfl, rfl, rfl, rfl, trivial⟩) (ih_7 (x_13, x_16, wI (x_5 + 1)) _ _ ⟨v_14, rfl, (hS.pick [1] (by decide) rfl)⟩ (kK h hk_6)))
 have h := if_f h hb_20
 refine kP ?_
 refine kw (kw ?_)
 have h := kF h hk_6
 refine kQ ?_
 refine ka (kd (kc (kb 1 rfl ?_)))
 obtain ⟨x_17, hx_17, h⟩ := kf h
 refine kj (by kernel_rfl) rfl (c_ref7_Trim _ x_1 v_2  (hS.ro 0 rfl).rp _ hx_17) rfl ?_
 rintro v_18 w hS1
 have hS := hS.call hS1
 refine kb 1 rfl ?_
 refine ke (ka (ko ?_))
 cases h
 exact kx rfl rfl (hS.pick [0] (by decide) rfl)
theorem c_ref7_Minus (w0 : World) (a0 : List UInt32) (a1 : List UInt32) (va0 : Value) (va1 : Value) (ha0 : RP [] w0 e32 va0 a0) (ha1 : RP [] w0 e32 va1 a1) (r : List UInt32)
  (h : F.ref7_Minus a0 a1 = some r) : Calls Tryz.prog 114 #[va0, va1] w0 (Ret fun v w => St [] w0 w [own e32 v r]) := by
 refine ky 38 Tryz.func114 rfl rfl rfl ?_
 have hS := St.start w0
 refine km [(0, va0), (1, va1)] ⟨rfl, rfl, trivial⟩ ?_
 unfold F.ref7_Minus at h
 refine kd (kc (kb 1 rfl ?_))
 refine ke (ka (kd (kc (kb 1 rfl ?_))))
 refine ke (ka (kd (kc (kb 1 rfl ?_))))
 refine ke (ka (kd (kd (kc (kb 1 rfl ?_)))))
 refine ke (ka (kv ?_))
 refine km [(0, va0), (1, va1), (5, .slice none 0 0), (6, v64 0), (7, vI 0)] ⟨rfl, rfl, rfl, rfl, rfl, trivial⟩ ?_
 refine kR (F.ref7_Minus_L1 a0 a1) (fun (s : List UInt32 × UInt64 × Int) L w => ∃ (v_2 : Value), L = [(0, va0), (1, va1), (5, v_2), (6, v64 s.2.1), (7, vI s.2.2)] ∧ St [] w0 w [own e32 v_2 s.1]) ?_ ([], 0, 0) ⟨.slice none 0 0, rfl, (hS.nil e32)⟩ h
 rintro k_24 ⟨x_1, x_4, x_5⟩ L w q_8 hI ih_7 h hk_6
 try dsimp only at hI
 obtain ⟨v_2, rfl, hS⟩ := hI
 unfold F.ref7_Minus_L1 at h
 refine kd (kd (kc (kb 2 rfl ?_)))
 refine kh (kA Tryz.underlying25 rfl (ha0.now hS.fr)) rfl (kb 1 rfl ?_)
 refine ke (ka ?_)
 refine kn rfl (fun hb_23 => ?_) (fun hb_23 => ?_)
 ·have h := if_t h hb_23
  refine kq (ka (kd (kv ?_)))
  refine kd (kc (kb 2 rfl ?_))
  obtain ⟨x_9, hx_9, h⟩ := kf h
  refine kj (by kernel_rfl) rfl (c_ref7_limb _ a0 x_5 va0  (ha0.now hS.fr).rp _ hx_9) rfl ?_
  rintro _ w ⟨rfl, hS1⟩
  have hS := hS.call hS1
  refine kb 1 rfl ?_
  refine ke (ka (kd (kc (kb 2 rfl ?_))))
  obtain ⟨x_10, hx_10, h⟩ := kf h
  refine kj (by kernel_rfl) rfl (c_ref7_limb _ a1 x_5 va1  (ha1.now hS.fr).rp _ hx_10) rfl ?_
  rintro _ w ⟨rfl, hS1⟩
  have hS := hS.call hS1
  refine kb 1 rfl ?_
  refine kh (kr rfl rfl (b_add64 _ x_10 x_4)) rfl (kb 1 rfl ?_)
  refine ke (ka (kd (kc (kb 1 rfl ?_))))
  refine ke (ka ?_)
  refine kN (r := q_8) (fun (g : UInt64 × UInt64) L w => L = [(0, va0), (1, va1), (5, v_2), (6, v64 g.1), (7, vI x_5), (8, v64 g.2), (9, v64 (x_10 + x_4))] ∧ St [] w0 w [own e32 v_2 x_1]) (F.ref7_Minus_K1 x_1 x_4 x_5 x_10) ?_ ?_
  rotate_left
  ·intro hK_14
   refine kd (kc (kb 2 rfl ?_))
   refine kh (kr rfl rfl (b_lss64 _ x_9 (x_10 + x_4))) rfl (ke (ka ?_))
   refine kn rfl (fun hb_11 => ?_) (fun hb_11 => ?_)
   ·have h := if_t h hb_11
    refine kd (kc (kb 1 rfl ?_))
    refine kh (kr rfl rfl (b_add64 _ x_9 4294967296)) rfl (kb 1 rfl ?_)
    refine ke (ka (kc (kb 1 rfl ?_)))
    refine ke (ka ?_)
    exact km _ (by exact ⟨rfl, rfl, rfl, rfl, rfl, rfl, rfl, trivial⟩) (hK_14 (1, x_9 + 4294967296) _ _ ⟨rfl, hS⟩ h)
   have h := if_f h hb_11
   refine kq (ka ?_)
   exact km _ (by exact ⟨rfl, rfl, rfl, rfl, rfl, rfl, rfl, trivial⟩) (hK_14 (0, x_9) _ _ ⟨rfl, hS⟩ h)
  rintro ⟨x_12, x_13⟩ L w hJ h
  try dsimp only at hJ
  obtain ⟨rfl, hS⟩ := hJ
  unfold F.ref7_Minus_K1 at h
  refine kc (kb 3 rfl ?_)
  refine kh (kr rfl rfl (b_sub64 _ x_13 (x_10 + x_4))) rfl (kh (kE rfl (cv_64_32 Tryz.underlying94 Tryz.underlying52 (x_13 - (x_10 + x_4)))) rfl ?_)
  refine kV (OpX_lit (e := e32) (l := ([(x_13 - (x_10 + x_4)).toUInt32] : List UInt32)) (vs := [v32 ((x_13 - (x_10 + x_4)).toUInt32)]) Tryz.underlying25 ti52 rfl rfl rfl rfl (by decide) (by decide) hS) rfl ?_
  rintro v_15 w hS
  obtain ⟨x_17, hx_17, h⟩ := kf h
  refine kV (G_append Tryz.underlying25 ti52 rfl rfl rfl hS (i := 1) rfl (hS.ro 0 rfl) hx_17) rfl ?_
  rintro v_18 w hS
  refine kb 1 rfl ?_
  refine ke (kJ ?_)
  refine ka (kc (kb 3 rfl ?_))
  refine ke ?_
  exact QE_rnd (wpN_le _ (by exact ⟨rfl, rfl, rfl, rfl, rfl, trivial⟩) (ih_7 (x_17, x_12, wI (x_5 + 1)) _ _ ⟨v_18, rfl, (hS.pick [1] (by decide) rfl)⟩ (kK h hk_6)))
 have h := if_f h hb_23
 refine kP ?_
 refine kw (kw ?_)
 have h := kF h hk_6
 refine kQ ?_
 refine ka (kd (kc (kb 1 rfl ?_)))
 obtain ⟨x_20, hx_20, h⟩ := kf h
 refine kj (by kernel_rfl) rfl (c_ref7_Trim _ x_1 v_2  (hS.ro 0 rfl).rp _ hx_20) rfl ?_
 rintro v_21 w hS1
 have hS := hS.call hS1
 refine kb 1 rfl ?_
 refine ke (ka (ko ?_))
 cases h
 exact kx rfl rfl (hS.pick [0] (by decide) rfl)
theorem c_ref7_Sub (w0 : World) (a0 : List UInt32) (a1 : List UInt32) (a2 : List UInt32) (va0 : Value) (va1 : Value) (va2 : Value) (ha0 : RP [] w0 e32 va0 a0) (ha1 : RP [] w0 e32 va1 a1) (ha2 : RP [] w0 e32 va2 a2) (r : List UInt32 × Int)
  (h : F.ref7_Sub a0 a1 a2 = some r) : Calls Tryz.prog 87 #[va0, va1, va2] w0 (Ret fun v w => ∃ u0 : Value, v = .tuple #[u0, vI r.2] ∧ St [] w0 w [own e32 u0 r.1]) := by
 refine ky 28 Tryz.func87 rfl rfl rfl ?_
 have hS := St.start w0
 refine km [(0, va0), (1, va1), (2, va2)] ⟨rfl, rfl, rfl, trivial⟩ ?_
 unfold F.ref7_Sub at h
 refine kd (kc (kb 2 rfl ?_))
 refine ke (ka (kd (kc (kb 3 rfl ?_))))
 refine kV (OpX_lit (e := eV) (l := ([SV.of va0, SV.of va1] : List SV)) (vs := [va0, va1]) Tryz.underlying121 ti25 rfl rfl rfl (fl_eVc (ha0.now hS.fr).sv (fl_eVc (ha1.now hS.fr).sv rfl)) (by decide) (by decide) hS) rfl ?_
 rintro v_1 w hS
 obtain ⟨x_3, hx_3, h⟩ := kf h
 refine kj (by kernel_rfl) rfl (c_ref7_wrong _ a2 [a0, a1] va2 v_1 [SV.of va0, SV.of va1] (ha2.now hS.fr).rp (hS.ro 0 rfl).rp ⟨(ha0.now hS.fr).svrp, (ha1.now hS.fr).svrp, trivial⟩ _ hx_3) rfl ?_
 rintro _ w ⟨rfl, hS1⟩
 have hS := hS.call hS1
 refine kb 1 rfl ?_
 refine ke (ka (kd (kd (kc (kb 2 rfl ?_)))))
 refine ke (ka ?_)
 refine kn rfl (fun hb_19 => ?_) (fun hb_19 => ?_)
 ·have h := if_t h hb_19
  refine kd (kc (kb 3 rfl ?_))
  refine ke (ka (ko (ku ?_)))
  cases h
  exact QE_ret2 rfl rfl rfl ⟨.slice none 0 0, rfl, (hS.nil e32).pick [0] (by decide) rfl⟩
 have h := if_f h hb_19
 refine kq (ka (kd (kc (kb 2 rfl ?_))))
 obtain ⟨x_4, hx_4, h⟩ := kf h
 refine kj (by kernel_rfl) rfl (c_ref7_rest _ a0 a2 va0 va2  (ha0.now hS.fr).rp (ha2.now hS.fr).rp _ hx_4) rfl ?_
 rintro v_5 w hS1
 have hS := hS.call hS1
 refine kb 1 rfl ?_
 obtain ⟨x_7, hx_7, h⟩ := kf h
 refine kj (by kernel_rfl) rfl (c_ref7_Plus _ x_4 a2 v_5 va2  (hS.ro 0 rfl).rp (ha2.now hS.fr).rp _ hx_7) rfl ?_
 rintro v_8 w hS1
 have hS := hS.call hS1
 refine kb 2 rfl ?_
 obtain ⟨x_10, hx_10, h⟩ := kf h
 refine kj (by kernel_rfl) rfl (c_ref7_rest _ a1 a2 va1 va2  (ha1.now hS.fr).rp (ha2.now hS.fr).rp _ hx_10) rfl ?_
 rintro v_11 w hS1
 have hS := hS.call hS1
 obtain ⟨x_13, hx_13, h⟩ := kf h
 refine kj (by kernel_rfl) rfl (c_ref7_Minus _ x_7 x_10 v_8 v_11  (hS.ro 1 rfl).rp (hS.ro 0 rfl).rp _ hx_13) rfl ?_
 rintro v_14 w hS1
 have hS := hS.call hS1
 refine kb 1 rfl ?_
 obtain ⟨x_16, hx_16, h⟩ := kf h
 refine kj (by kernel_rfl) rfl (c_ref7_rest _ x_13 a2 v_14 va2  (hS.ro 0 rfl).rp (ha2.now hS.fr).rp _ hx_16) rfl ?_
 rintro v_17 w hS1
 have hS := hS.call hS1
 refine kb 2 rfl ?_
 refine ke (ka (ko ?_))
 cases h
 exact QE_ret2 rfl rfl rfl ⟨v_17, rfl, hS.pick [0] (by decide) rfl⟩
theorem c_ref7_Add (w0 : World) (a0 : List UInt32) (a1 : List UInt32) (a2 : List UInt32) (va0 : Value) (va1 : Value) (va2 : Value) (ha0 : RP [] w0 e32 va0 a0) (ha1 : RP [] w0 e32 va1 a1) (ha2 : RP [] w0 e32 va2 a2) (r : List UInt32 × Int)
  (h : F.ref7_Add a0 a1 a2 = some r) : Calls Tryz.prog 90 #[va0, va1, va2] w0 (Ret fun v w => ∃ u0 : Value, v = .tuple #[u0, vI r.2] ∧ St [] w0 w [own e32 u0 r.1]) := by
 refine ky 22 Tryz.func90 rfl rfl rfl ?_
 have hS := St.start w0
 refine km [(0, va0), (1, va1), (2, va2)] ⟨rfl, rfl, rfl, trivial⟩ ?_
 unfold F.ref7_Add at h
 refine kd (kc (kb 2 rfl ?_))
 refine ke (ka (kd (kc (kb 3 rfl ?_))))
 refine kV (OpX_lit (e := eV) (l := ([SV.of va0, SV.of va1] : List SV)) (vs := [va0, va1]) Tryz.underlying121 ti25 rfl rfl rfl (fl_eVc (ha0.now hS.fr).sv (fl_eVc (ha1.now hS.fr).sv rfl)) (by decide) (by decide) hS) rfl ?_
 rintro v_1 w hS
 obtain ⟨x_3, hx_3, h⟩ := kf h
 refine kj (by kernel_rfl) rfl (c_ref7_wrong _ a2 [a0, a1] va2 v_1 [SV.of va0, SV.of va1] (ha2.now hS.fr).rp (hS.ro 0 rfl).rp ⟨(ha0.now hS.fr).svrp, (ha1.now hS.fr).svrp, trivial⟩ _ hx_3) rfl ?_
 rintro _ w ⟨rfl, hS1⟩
 have hS := hS.call hS1
 refine kb 1 rfl ?_
 refine ke (ka (kd (kd (kc (kb 2 rfl ?_)))))
 refine ke (ka ?_)
 refine kn rfl (fun hb_10 => ?_) (fun hb_10 => ?_)
 ·have h := if_t h hb_10
  refine kd (kc (kb 3 rfl ?_))
  refine ke (ka (ko (ku ?_)))
  cases h
  exact QE_ret2 rfl rfl rfl ⟨.slice none 0 0, rfl, (hS.nil e32).pick [0] (by decide) rfl⟩
 have h := if_f h hb_10
 refine kq (ka (kd (kc (kb 2 rfl ?_))))
 obtain ⟨x_4, hx_4, h⟩ := kf h
 refine kj (by kernel_rfl) rfl (c_ref7_Plus _ a0 a1 va0 va1  (ha0.now hS.fr).rp (ha1.now hS.fr).rp _ hx_4) rfl ?_
 rintro v_5 w hS1
 have hS := hS.call hS1
 refine kb 1 rfl ?_
 obtain ⟨x_7, hx_7, h⟩ := kf h
 refine kj (by kernel_rfl) rfl (c_ref7_rest _ x_4 a2 v_5 va2  (hS.ro 0 rfl).rp (ha2.now hS.fr).rp _ hx_7) rfl ?_
 rintro v_8 w hS1
 have hS := hS.call hS1
 refine kb 2 rfl ?_
 refine ke (ka (ko ?_))
 cases h
 exact QE_ret2 rfl rfl rfl ⟨v_8, rfl, hS.pick [0] (by decide) rfl⟩
theorem c_ref7_Inv (w0 : World) (a0 : List UInt32) (a1 : List UInt32) (va0 : Value) (va1 : Value) (ha0 : RP [] w0 e32 va0 a0) (ha1 : RP [] w0 e32 va1 a1) (r : List UInt32 × Int)
  (h : F.ref7_Inv a0 a1 = some r) : Calls Tryz.prog 116 #[va0, va1] w0 (Ret fun v w => ∃ u0 : Value, v = .tuple #[u0, vI r.2] ∧ St [] w0 w [own e32 u0 r.1]) := by
 refine ky 59 Tryz.func116 rfl rfl rfl ?_
 have hS := St.start w0
 have hZ := Fz.start (S := []) (w0 := w0)
 have hTT : TOk [] [] w0 := TOk.nil
 have hA : Rds [] w0 [red e32 va1 a1, red e32 va0 a0] := Rds.cons (RP.kept (Nat.le_of_ble_eq_true rfl) ha1) (Rds.cons (RP.kept (Nat.le_of_ble_eq_true rfl) ha0) (Rds.nil))
 have hP : Off [] [red e32 va1 a1, red e32 va0 a0] := Off.emp
 refine km [(0, va0), (1, va1)] ⟨rfl, rfl, trivial⟩ ?_
 unfold F.ref7_Inv at h
 refine kd (kc (kb 2 rfl ?_))
 refine ke (ka (kd (kc (kb 2 rfl ?_))))
 refine kV (OpX_lit (e := eV) (l := ([SV.of va0] : List SV)) (vs := [va0]) Tryz.underlying121 ti25 rfl rfl rfl (fl_eVc ((hA.rp 0 rfl).now hS.fr).sv rfl) (by decide) (by decide) hS) rfl ?_
 rintro v_1 w hS
 obtain ⟨x_3, hx_3, h⟩ := kf h
 refine kj (by kernel_rfl) rfl (c_ref7_wrong _ a1 [a0] va1 v_1 [SV.of va0] ((hA.rp 1 rfl).now hS.fr).rp (hS.ro 0 rfl).rp ⟨((hA.rp 0 rfl).now hS.fr).svrp, trivial⟩ _ hx_3) rfl ?_
 rintro _ w ⟨rfl, hS1⟩
 have hS := hS.call hS1
 refine kb 1 rfl ?_
 refine ke (ka (kd (kd (kc (kb 2 rfl ?_)))))
 refine ke (ka ?_)
 refine kn rfl (fun hb_60 => ?_) (fun hb_60 => ?_)
 ·have h := if_t h hb_60
  refine kd (kc (kb 3 rfl ?_))
  refine ke (ka (ko (ku ?_)))
  cases h
  replace hS := hZ.st hS
  exact QE_ret2 rfl rfl rfl ⟨.slice none 0 0, rfl, (hS.nil e32).pick [0] (by decide) rfl⟩
 have h := if_f h hb_60
 refine kq (ka (kd (kc (kb 1 rfl ?_))))
 obtain ⟨x_4, hx_4, h⟩ := kf h
 refine kj (by kernel_rfl) rfl (c_ref7_Trim _ a1 va1  ((hA.rp 1 rfl).now hS.fr).rp _ hx_4) rfl ?_
 rintro v_5 w hS1
 have hS := hS.call hS1
 refine kb 1 rfl ?_
 refine ke (ka (kd (kc (kb 2 rfl ?_))))
 refine ke (ka (kd (kc (kb 2 rfl ?_))))
 obtain ⟨x_7, hx_7, h⟩ := kf h
 refine kj (by kernel_rfl) rfl (c_ref7_rest _ a0 x_4 va0 v_5  ((hA.rp 0 rfl).now hS.fr).rp (hS.ro 0 rfl).rp _ hx_7) rfl ?_
 rintro v_8 w hS1
 have hS := hS.call hS1
 refine kb 1 rfl ?_
 refine ke (ka (kd (kc (kb 1 rfl ?_))))
 refine ke (ka (kd (kc ?_)))
 obtain ⟨x_10, hx_10, h⟩ := kf h
 refine kj (by kernel_rfl) rfl (c_ref7_one _     _ hx_10) rfl ?_
 rintro v_11 w hS1
 have hS := hS.call hS1
 refine kb 1 rfl ?_
 refine ke (ka (kd (kv ?_)))
 replace hS := hS.pick (os' := [own e32 v_11 x_10, own e32 v_8 x_7, own e32 v_5 x_4, own eV v_1 ([SV.of va0] : List SV)] ++ []) [0, 1, 2, 3] (by decide) rfl
 obtain ⟨S_13, wb_14, hZ, hA, hP, hS⟩ := hZ.frzT hTT hA hP hS
 refine km [(1, v_5), (7, v_5), (8, v_8), (9, .slice none 0 0), (10, v_11)] ⟨rfl, rfl, rfl, rfl, rfl, trivial⟩ ?_
 refine kR (F.ref7_Inv_L1 x_4) (fun (s : List UInt32 × List UInt32 × List UInt32 × List UInt32) L w => ∃ (v_18 : Value) (v_20 : Value) (v_22 : Value) (v_24 : Value), L = [(1, v_5), (7, v_18), (8, v_20), (9, v_22), (10, v_24)] ∧ SfT [] [] w0 w [red e32 v_24 s.2.2.2, red e32 v_22 s.2.2.1, red e32 v_20 s.2.1, red e32 v_18 s.1, red e32 v_5 x_4] []) ?_ (x_4, x_7, [], x_10) ⟨v_5, v_8, .slice none 0 0, v_11, rfl, (SfT.mk' hZ (Rds.cons (hA.nth 5 rfl) (Rds.cons OE.kept.nil (Rds.cons (hA.nth 4 rfl) (Rds.cons (hA.nth 3 rfl) (Rds.cons (hA.nth 3 rfl) Rds.nil))))) (Off.cons (hP.nth 5 rfl) (Off.cons Off.nilrd (Off.cons (hP.nth 4 rfl) (Off.cons (hP.nth 3 rfl) (Off.cons (hP.nth 3 rfl) Off.nil))))) hS)⟩ h
 rintro k_59 ⟨x_17, x_19, x_21, x_23⟩ L w q_27 hI ih_26 h hk_25
 try dsimp only at hI
 obtain ⟨v_18, v_20, v_22, v_24, rfl, ⟨S_15, wb_16, hZ, hA, hP, hS⟩⟩ := hI
 unfold F.ref7_Inv_L1 at h
 refine kd (kd (kc (kb 1 rfl ?_)))
 refine kh (kA Tryz.underlying25 rfl ((hA.rp 2 rfl).now hS.fr)) rfl (kb 1 rfl ?_)
 refine ke (ka ?_)
 refine kn rfl (fun hb_58 => ?_) (fun hb_58 => ?_)
 ·have h := if_t h hb_58
  refine kq (ka (kv ?_))
  refine kd (kc (kb 2 rfl ?_))
  obtain ⟨x_28, hx_28, h⟩ := kf h
  refine kj (by kernel_rfl) rfl (c_ref7_Divide _ x_17 x_19 v_18 v_20  ((hA.rp 1 rfl).now hS.fr).rp ((hA.rp 2 rfl).now hS.fr).rp _ hx_28) rfl ?_
  rintro _ w ⟨v_29, v_31, rfl, hS1⟩
  have hS := hS.call hS1
  refine kb 5 rfl ?_
  refine ke (ka (kd (kc (kb 2 rfl ?_))))
  obtain ⟨x_33, hx_33, h⟩ := kf h
  refine kj (by kernel_rfl) rfl (c_ref7_Plus _ x_21 x_4 v_22 v_5  ((hA.rp 3 rfl).now hS.fr).rp ((hA.rp 0 rfl).now hS.fr).rp _ hx_33) rfl ?_
  rintro v_34 w hS1
  have hS := hS.call hS1
  refine kb 2 rfl ?_
  obtain ⟨x_36, hx_36, h⟩ := kf h
  refine kj (by kernel_rfl) rfl (c_ref7_Times _ x_28.1 x_23 v_29 v_24  (hS.ro 1 rfl).rp ((hA.rp 4 rfl).now hS.fr).rp _ hx_36) rfl ?_
  rintro v_37 w hS1
  have hS := hS.call hS1
  refine kb 1 rfl ?_
  obtain ⟨x_39, hx_39, h⟩ := kf h
  refine kj (by kernel_rfl) rfl (c_ref7_rest _ x_36 x_4 v_37 v_5  (hS.ro 0 rfl).rp ((hA.rp 0 rfl).now hS.fr).rp _ hx_39) rfl ?_
  rintro v_40 w hS1
  have hS := hS.call hS1
  obtain ⟨x_42, hx_42, h⟩ := kf h
  refine kj (by kernel_rfl) rfl (c_ref7_Minus _ x_33 x_39 v_34 v_40  (hS.ro 2 rfl).rp (hS.ro 0 rfl).rp _ hx_42) rfl ?_
  rintro v_43 w hS1
  have hS := hS.call hS1
  refine kb 1 rfl ?_
  obtain ⟨x_45, hx_45, h⟩ := kf h
  refine kj (by kernel_rfl) rfl (c_ref7_rest _ x_42 x_4 v_43 v_5  (hS.ro 0 rfl).rp ((hA.rp 0 rfl).now hS.fr).rp _ hx_45) rfl ?_
  rintro v_46 w hS1
  have hS := hS.call hS1
  refine kb 1 rfl ?_
  refine ke (ka (kd (kc (kb 2 rfl ?_))))
  refine ke (ka (kd (kc (kb 2 rfl ?_))))
  refine ke (ka (kd (kc (kb 2 rfl ?_))))
  refine ke (ka (kc (kb 2 rfl ?_)))
  refine ke (kJ ?_)
  replace hS := hS.pick (os' := [own e32 v_46 x_45, own e32 v_43 x_42, own e32 v_40 x_39, own e32 v_37 x_36, own e32 v_34 x_33, own e32 v_29 x_28.1, own e32 v_31 x_28.2] ++ []) [0, 1, 2, 3, 4, 5, 6] (by decide) rfl
  obtain ⟨S_48, wb_49, hZ, hA, hP, hS⟩ := hZ.frzT hTT hA hP hS
  exact QE_rnd (wpN_le _ (by exact ⟨rfl, rfl, rfl, rfl, rfl, trivial⟩) (ih_26 (x_19, x_28.2, x_23, x_45) _ _ ⟨v_20, v_31, v_24, v_46, rfl, (SfT.mk' hZ (Rds.cons (hA.nth 11 rfl) (Rds.cons (hA.nth 4 rfl) (Rds.cons (hA.nth 5 rfl) (Rds.cons (hA.nth 2 rfl) (Rds.cons (hA.nth 0 rfl) Rds.nil))))) (Off.cons (hP.nth 11 rfl) (Off.cons (hP.nth 4 rfl) (Off.cons (hP.nth 5 rfl) (Off.cons (hP.nth 2 rfl) (Off.cons (hP.nth 0 rfl) Off.nil))))) hS)⟩ (kK h hk_25)))
 have h := if_f h hb_58
 refine kP ?_
 refine kw (kw ?_)
 have h := kF h hk_25
 refine kQ ?_
 refine ka (kd (kd (kc (kb 1 rfl ?_))))
 obtain ⟨x_50, hx_50, h⟩ := kf h
 refine kj (by kernel_rfl) rfl (c_ref7_one _     _ hx_50) rfl ?_
 rintro v_51 w hS1
 have hS := hS.call hS1
 obtain ⟨x_53, hx_53, h⟩ := kf h
 refine kj (by kernel_rfl) rfl (c_ref7_Cmp _ x_17 x_50 v_18 v_51  ((hA.rp 1 rfl).now hS.fr).rp (hS.ro 0 rfl).rp _ hx_53) rfl ?_
 rintro _ w ⟨rfl, hS1⟩
 have hS := hS.call hS1
 refine kb 1 rfl ?_
 refine ke (ka ?_)
 refine kn rfl (fun hb_57 => ?_) (fun hb_57 => ?_)
 ·have h := if_t h hb_57
  refine kd (kc (kb 2 rfl ?_))
  refine ke (ka (ko (ku ?_)))
  cases h
  replace hS := hZ.st hS
  exact QE_ret2 rfl rfl rfl ⟨.slice none 0 0, rfl, (hS.nil e32).pick [0] (by decide) rfl⟩
 have h := if_f h hb_57
 refine kq (ka (kd (kc (kb 2 rfl ?_))))
 obtain ⟨x_54, hx_54, h⟩ := kf h
 refine kj (by kernel_rfl) rfl (c_ref7_rest _ x_21 x_4 v_22 v_5  ((hA.rp 3 rfl).now hS.fr).rp ((hA.rp 0 rfl).now hS.fr).rp _ hx_54) rfl ?_
 rintro v_55 w hS1
 have hS := hS.call hS1
 refine kb 2 rfl ?_
 refine ke (ka (ko ?_))
 cases h
 replace hS := hZ.st hS
 exact QE_ret2 rfl rfl rfl ⟨v_55, rfl, hS.pick [0] (by decide) rfl⟩
end Go.Proofs
