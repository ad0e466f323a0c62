import Derived.Test.YtpbgncmffgnohaaGreatTW0
import Derived.Test.YtpbgncmffgnohaaGreatGkFref6
set_option linter.unusedVariables false
set_option linter.unusedSimpArgs false
set_option linter.unusedVariables false
set_option maxRecDepth 4000
namespace Go.Proofs
open Go Go.RowKit Go.Gk
theorem c_ref6_limb (w0 : World) (a0 : List UInt32) (a1 : Int) (va0 : Value) (ha0 : RP [] w0 e32 va0 a0) (r : UInt64)
  (h : F.ref6_limb a0 a1 = some r) : Calls Tryz.prog 89 #[va0, vI a1] w0 (Ret fun v w => v = v64 r ∧ St [] w0 w []) := by
 refine ky 14 Tryz.func89 rfl rfl rfl ?_
 have hS := St.start w0
 refine km [(0, va0), (1, vI a1)] ⟨rfl, rfl, trivial⟩ ?_
 unfold F.ref6_limb at h
 refine kd (kc (kb 1 rfl ?_))
 refine ke (ka (kd (kd (kc (kb 2 rfl ?_)))))
 refine kh (kA Tryz.underlying25 rfl (ha0.now hS.fr)) rfl (kb 1 rfl ?_)
 refine ke (ka ?_)
 refine kn rfl (fun hb_2 => ?_) (fun hb_2 => ?_)
 ·have h := if_t h hb_2
  refine kd (kc (kb 1 rfl ?_))
  refine ke (ka (ko (ku ?_)))
  cases h
  exact kx rfl rfl ⟨rfl, hS⟩
 have h := if_f h hb_2
 refine kq (ka (kd (kc (kb 2 rfl ?_))))
 obtain ⟨x_1, hx_1, h⟩ := kf h
 refine kh (G_ix Tryz.underlying25 ti52 rfl rfl (ha0.now hS.fr) hx_1) rfl (kh (G_load Tryz.underlying52 rfl rfl (ha0.now hS.fr) hx_1 rfl) rfl (kh (kE rfl (cv_32_64 Tryz.underlying52 Tryz.underlying94 x_1)) rfl (kb 1 rfl ?_)))
 refine ke (ka (ko ?_))
 cases h
 exact kx rfl rfl ⟨rfl, hS⟩
theorem c_ref6_Cmp (w0 : World) (a0 : List UInt32) (a1 : List UInt32) (va0 : Value) (va1 : Value) (ha0 : RP [] w0 e32 va0 a0) (ha1 : RP [] w0 e32 va1 a1) (r : Int)
  (h : F.ref6_Cmp a0 a1 = some r) : Calls Tryz.prog 54 #[va0, va1] w0 (Ret fun v w => v = vI r ∧ St [] w0 w []) := by
 refine ky 35 Tryz.func54 rfl rfl rfl ?_
 have hS := St.start w0
 refine km [(0, va0), (1, va1)] ⟨rfl, rfl, trivial⟩ ?_
 unfold F.ref6_Cmp at h
 refine kd (kc (kb 1 rfl ?_))
 refine ke (ka (kd (kc (kb 1 rfl ?_))))
 refine kh (kA Tryz.underlying25 rfl (ha0.now hS.fr)) rfl (kb 1 rfl ?_)
 refine ke (ka ?_)
 refine kN (r := r) (fun (g : Int) L w => L = [(0, va0), (1, va1), (5, vI g)] ∧ St [] w0 w []) (F.ref6_Cmp_K1 a0 a1) ?_ ?_
 rotate_left
 ·intro hK_3
  refine kd (kc (kb 1 rfl ?_))
  refine kh (kA Tryz.underlying25 rfl (ha1.now hS.fr)) rfl (kb 2 rfl ?_)
  refine ke (ka ?_)
  refine kn rfl (fun hb_1 => ?_) (fun hb_1 => ?_)
  ·have h := if_t h hb_1
   refine kc (kb 1 rfl ?_)
   refine kh (kA Tryz.underlying25 rfl (ha1.now hS.fr)) rfl (kb 1 rfl ?_)
   refine ke (ka ?_)
   exact km _ (by exact ⟨rfl, rfl, rfl, trivial⟩) (hK_3 (a1.length : Int) _ _ ⟨rfl, hS⟩ h)
  have h := if_f h hb_1
  refine kq (ka ?_)
  exact km _ (by exact ⟨rfl, rfl, rfl, trivial⟩) (hK_3 (a0.length : Int) _ _ ⟨rfl, hS⟩ h)
 rintro x_2 L w hJ h
 try dsimp only at hJ
 obtain ⟨rfl, hS⟩ := hJ
 unfold F.ref6_Cmp_K1 at h
 refine kd (kd (kc (kb 3 rfl ?_)))
 refine ke (ka (kv ?_))
 refine km [(0, va0), (1, va1), (6, vI (wI (x_2 - 1)))] ⟨rfl, rfl, rfl, trivial⟩ ?_
 refine kR (F.ref6_Cmp_L1 a0 a1) (fun (s : Int) L w => L = [(0, va0), (1, va1), (6, vI s)] ∧ St [] w0 w []) ?_ (wI (x_2 - 1)) ⟨rfl, hS⟩ h
 rintro k_13 x_4 L w q_7 hI ih_6 h hk_5
 try dsimp only at hI
 obtain ⟨rfl, hS⟩ := hI
 unfold F.ref6_Cmp_L1 at h
 refine kd (kd (kc (kb 2 rfl ?_)))
 refine ke (ka ?_)
 refine kn rfl (fun hb_12 => ?_) (fun hb_12 => ?_)
 ·have h := if_t h hb_12
  refine kq (ka (kd (kv ?_)))
  refine kd (kc (kb 2 rfl ?_))
  obtain ⟨x_8, hx_8, h⟩ := kf h
  refine kj (by kernel_rfl) rfl (c_ref6_limb _ a0 x_4 va0  (ha0.now hS.fr).rp _ hx_8) rfl ?_
  rintro _ w ⟨rfl, hS1⟩
  have hS := hS.call hS1
  refine kb 1 rfl ?_
  refine ke (ka (kd (kc (kb 2 rfl ?_))))
  obtain ⟨x_9, hx_9, h⟩ := kf h
  refine kj (by kernel_rfl) rfl (c_ref6_limb _ a1 x_4 va1  (ha1.now hS.fr).rp _ hx_9) rfl ?_
  rintro _ w ⟨rfl, hS1⟩
  have hS := hS.call hS1
  refine kb 1 rfl ?_
  refine ke (ka (kd (kd (kc (kb 2 rfl ?_)))))
  refine kh (kr rfl rfl (b_lss64 _ x_8 x_9)) rfl (ke (ka ?_))
  refine kn rfl (fun hb_11 => ?_) (fun hb_11 => ?_)
  ·have h := if_t h hb_11
   refine kd (kc (kb 1 rfl ?_))
   refine ke (ka (ko (ku (QE_blk_r ?_))))
   refine ku (ku ?_)
   have h := kF h hk_5
   refine QE_blk_r ?_
   refine ku ?_
   cases h
   exact kx rfl rfl ⟨rfl, hS⟩
  have h := if_f h hb_11
  refine kq (ka (kd (kc (kb 2 rfl ?_))))
  refine kh (kr rfl rfl (b_gtr64 _ x_8 x_9)) rfl (ke (ka ?_))
  refine kn rfl (fun hb_10 => ?_) (fun hb_10 => ?_)
  ·have h := if_t h hb_10
   refine kd (kc (kb 1 rfl ?_))
   refine ke (ka (ko (QE_blk_r ?_)))
   refine ku (ku ?_)
   have h := kF h hk_5
   refine QE_blk_r ?_
   refine ku ?_
   cases h
   exact kx rfl rfl ⟨rfl, hS⟩
  have h := if_f h hb_10
  refine kq (kJ ?_)
  refine ka (kc (kb 3 rfl ?_))
  refine ke ?_
  exact QE_rnd (wpN_le _ (by exact ⟨rfl, rfl, rfl, trivial⟩) (ih_6 (wI (x_4 - 1)) _ _ ⟨rfl, hS⟩ (kK h hk_5)))
 have h := if_f h hb_12
 refine kP ?_
 refine kw (kw ?_)
 have h := kF h hk_5
 refine kQ ?_
 refine ka (kd (kc (kb 1 rfl ?_)))
 refine ke (ka (ko ?_))
 cases h
 exact kx rfl rfl ⟨rfl, hS⟩
end Go.Proofs
