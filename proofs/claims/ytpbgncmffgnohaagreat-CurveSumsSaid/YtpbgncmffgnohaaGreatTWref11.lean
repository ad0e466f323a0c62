import Derived.Test.YtpbgncmffgnohaaGreatTW0
import Derived.Test.YtpbgncmffgnohaaGreatGkFref11
import Derived.Test.YtpbgncmffgnohaaGreatTWref6
import Derived.Test.YtpbgncmffgnohaaGreatTWref7
set_option linter.unusedVariables false
set_option linter.unusedSimpArgs false
set_option linter.unusedVariables false
set_option maxRecDepth 4000
namespace Go.Proofs
open Go Go.RowKit Go.Gk
theorem c_ref11_Size (w0 : World) (a0 : Int)   (r : Int)
  (h : F.ref11_Size a0 = some r) : Calls Tryz.prog 41 #[vI a0] w0 (Ret fun v w => v = vI r ∧ St [] w0 w []) := by
 refine ky 8 Tryz.func41 rfl rfl rfl ?_
 have hS := St.start w0
 refine km [(0, vI a0)] ⟨rfl, trivial⟩ ?_
 unfold F.ref11_Size at h
 refine kd (kc (kb 1 rfl ?_))
 refine ke (ka (kd (kd (kc (kb 1 rfl ?_)))))
 refine ke (ka (kv ?_))
 refine kd (kc (kb 2 rfl ?_))
 refine ke (ka ?_)
 refine kn rfl (fun hb_2 => ?_) (fun hb_2 => ?_)
 ·have h := if_t h hb_2
  refine kd (kc (kb 1 rfl ?_))
  refine ke (ka (ko (QE_blk_r ?_)))
  refine ku ?_
  cases h
  exact kx rfl rfl ⟨rfl, hS⟩
 have h := if_f h hb_2
 refine kd (kc (kb 2 rfl ?_))
 refine ke (ka ?_)
 refine kn rfl (fun hb_1 => ?_) (fun hb_1 => ?_)
 ·have h := if_t h hb_1
  refine kd (kc (kb 1 rfl ?_))
  refine ke (ka (ko (QE_blk_r ?_)))
  refine ku ?_
  cases h
  exact kx rfl rfl ⟨rfl, hS⟩
 have h := if_f h hb_1
 refine kq (kJ ?_)
 refine ka (kd (kc (kb 1 rfl ?_)))
 refine ke (ka (ko ?_))
 cases h
 exact kx rfl rfl ⟨rfl, hS⟩
theorem c_ref11_Proper (w0 : World) (a0 : List UInt32) (va0 : Value) (ha0 : RP [] w0 e32 va0 a0) (r : List UInt32)
  (h : F.ref11_Proper a0 = some r) : Calls Tryz.prog 53 #[va0] w0 (Ret fun v w => St [] w0 w [own e32 v r]) := by
 refine ky 33 Tryz.func53 rfl rfl rfl ?_
 have hS := St.start w0
 refine km [(0, va0)] ⟨rfl, trivial⟩ ?_
 unfold F.ref11_Proper at h
 refine kd (kc (kb 1 rfl ?_))
 refine ke (ka (kd (kc (kb 1 rfl ?_))))
 refine ke (ka (kd (kc (kb 1 rfl ?_))))
 refine kh (kA Tryz.underlying25 rfl (ha0.now hS.fr)) rfl (kb 1 rfl ?_)
 refine ke (ka (kd (kv ?_)))
 refine km [(0, va0), (3, .slice none 0 0), (4, vI (a0.length : Int))] ⟨rfl, rfl, rfl, trivial⟩ ?_
 refine kR (F.ref11_Proper_L1 a0) (fun (s : Int) L w => L = [(0, va0), (3, .slice none 0 0), (4, vI s)] ∧ St [] w0 w []) ?_ (a0.length : Int) ⟨rfl, hS⟩ h
 rintro k_25 x_1 L w q_4 hI ih_3 h hk_2
 try dsimp only at hI
 obtain ⟨rfl, hS⟩ := hI
 unfold F.ref11_Proper_L1 at h
 refine kd ?_
 refine kN (r := q_4) (fun (g : Bool) L w => L = [(0, va0), (3, .slice none 0 0), (4, vI x_1), (17, vB g)] ∧ St [] w0 w []) (F.ref11_Proper_K1 x_1 a0) ?_ ?_
 rotate_left
 ·intro hK_8
  refine kc (kb 3 rfl ?_)
  cases hb_5 : (decide ((0 : Int) < x_1))
  case true =>
   have h := if_t h hb_5
   try simp only [hb_5]
   refine kb 3 rfl ?_
   obtain ⟨x_6, hx_6, h⟩ := kf h
   refine kS (t := 10) rfl rfl (G_ix Tryz.underlying25 ti52 rfl rfl (ha0.now hS.fr) hx_6) rfl (kS (t := 10) rfl rfl (G_load Tryz.underlying52 rfl rfl (ha0.now hS.fr) hx_6 rfl) rfl (kS (t := 10) rfl rfl (kr rfl rfl (b_eql32 _ x_6 0)) rfl (kb 1 rfl ?_)))
   refine ke (ka ?_)
   exact km _ (by exact ⟨rfl, rfl, rfl, rfl, trivial⟩) (hK_8 (x_6 == 0) _ _ ⟨rfl, hS⟩ h)
  case false =>
   have h := if_f h hb_5
   try simp only [hb_5]
   refine kb 7 rfl ?_
   refine ke (ka ?_)
   exact km _ (by exact ⟨rfl, rfl, rfl, rfl, trivial⟩) (hK_8 false _ _ ⟨rfl, hS⟩ h)
 rintro x_7 L w hJ h
 try dsimp only at hJ
 obtain ⟨rfl, hS⟩ := hJ
 unfold F.ref11_Proper_K1 at h
 refine kn rfl (fun hb_24 => ?_) (fun hb_24 => ?_)
 ·have h := if_t h hb_24
  refine kq (ka (kv ?_))
  refine kc (kb 3 rfl ?_)
  refine ke (kJ ?_)
  exact QE_rnd (wpN_le _ (by exact ⟨rfl, rfl, rfl, trivial⟩) (ih_3 (wI (x_1 - 1)) _ _ ⟨rfl, hS⟩ (kK h hk_2)))
 have h := if_f h hb_24
 refine kP ?_
 refine kw (kw ?_)
 have h := kF h hk_2
 refine kQ ?_
 refine ka (kd (kd (kc (kb 1 rfl ?_))))
 refine ke (ka (kv ?_))
 refine km [(0, va0), (3, .slice none 0 0), (4, vI x_1), (5, vI 0)] ⟨rfl, rfl, rfl, rfl, trivial⟩ ?_
 refine kR (F.ref11_Proper_L2 a0 x_1) (fun (s : List UInt32 × Int) L w => ∃ (v_10 : Value), L = [(0, va0), (3, v_10), (4, vI x_1), (5, vI s.2)] ∧ St [] w0 w [own e32 v_10 s.1]) ?_ ([], 0) ⟨.slice none 0 0, rfl, (hS.nil e32)⟩ h
 rintro k_23 ⟨x_9, x_12⟩ L w q_15 hI ih_14 h hk_13
 try dsimp only at hI
 obtain ⟨v_10, rfl, hS⟩ := hI
 unfold F.ref11_Proper_L2 at h
 refine kd (kd (kc (kb 3 rfl ?_)))
 refine ke (ka ?_)
 refine kn rfl (fun hb_22 => ?_) (fun hb_22 => ?_)
 ·have h := if_t h hb_22
  refine kq (ka (kd (kv ?_)))
  refine kc (kb 3 rfl ?_)
  obtain ⟨x_16, hx_16, h⟩ := kf h
  refine kh (G_ix Tryz.underlying25 ti52 rfl rfl (ha0.now hS.fr) hx_16) rfl (kh (G_load Tryz.underlying52 rfl rfl (ha0.now hS.fr) hx_16 rfl) rfl ?_)
  refine kV (OpX_lit (e := e32) (l := ([x_16] : List UInt32)) (vs := [v32 x_16]) Tryz.underlying25 ti52 rfl rfl rfl rfl (by decide) (by decide) hS) rfl ?_
  rintro v_17 w hS
  obtain ⟨x_19, hx_19, h⟩ := kf h
  refine kV (G_append Tryz.underlying25 ti52 rfl rfl rfl hS (i := 1) rfl (hS.ro 0 rfl) hx_19) rfl ?_
  rintro v_20 w hS
  refine kb 1 rfl ?_
  refine ke (kJ ?_)
  refine ka (kc (kb 3 rfl ?_))
  refine ke ?_
  exact QE_rnd (wpN_le _ (by exact ⟨rfl, rfl, rfl, rfl, trivial⟩) (ih_14 (x_19, wI (x_12 + 1)) _ _ ⟨v_20, rfl, (hS.pick [1] (by decide) rfl)⟩ (kK h hk_13)))
 have h := if_f h hb_22
 refine kP ?_
 refine kw (kw ?_)
 have h := kF h hk_13
 refine kQ ?_
 refine ka (kd (kc (kb 2 rfl ?_)))
 refine ke (ka (ko ?_))
 cases h
 exact kx rfl rfl (hS.pick [0] (by decide) rfl)
theorem c_ref11_digit (w0 : World) (a0 : UInt8)   (r : UInt32)
  (h : F.ref11_digit a0 = some r) : Calls Tryz.prog 82 #[v8 a0] w0 (Ret fun v w => v = v32 r ∧ St [] w0 w []) := by
 refine ky 12 Tryz.func82 rfl rfl rfl ?_
 have hS := St.start w0
 refine km [(0, v8 a0)] ⟨rfl, trivial⟩ ?_
 unfold F.ref11_digit at h
 refine kd (kc (kb 1 rfl ?_))
 refine ke (ka (kd (kd (kc (kb 1 rfl ?_)))))
 refine kh (kr rfl rfl (b_geq8 _ a0 97)) rfl (ke (ka ?_))
 refine kn rfl (fun hb_1 => ?_) (fun hb_1 => ?_)
 ·have h := if_t h hb_1
  refine kd (kc (kb 1 rfl ?_))
  refine kh (kr rfl rfl (b_sub8 _ a0 97)) rfl (kh (kE rfl (cv_8_32 Tryz.underlying5 Tryz.underlying52 (a0 - 97))) rfl (kh (kr rfl rfl (b_add32 _ ((a0 - 97).toUInt32) 10)) rfl (kb 1 rfl ?_)))
  refine ke (ka (ko (ku ?_)))
  cases h
  exact kx rfl rfl ⟨rfl, hS⟩
 have h := if_f h hb_1
 refine kq (ka (kd (kc (kb 1 rfl ?_))))
 refine kh (kr rfl rfl (b_sub8 _ a0 48)) rfl (kh (kE rfl (cv_8_32 Tryz.underlying5 Tryz.underlying52 (a0 - 48))) rfl (kb 1 rfl ?_))
 refine ke (ka (ko ?_))
 cases h
 exact kx rfl rfl ⟨rfl, hS⟩
theorem c_ref11_number (w0 : World) (a0 : List UInt8)   (r : List UInt32)
  (h : F.ref11_number a0 = some r) : Calls Tryz.prog 46 #[vS a0] w0 (Ret fun v w => St [] w0 w [own e32 v r]) := by
 refine ky 32 Tryz.func46 rfl rfl rfl ?_
 have hS := St.start w0
 refine km [(0, vS a0)] ⟨rfl, trivial⟩ ?_
 unfold F.ref11_number at h
 refine kd (kc (kb 1 rfl ?_))
 refine ke (ka (kd (kc (kb 1 rfl ?_))))
 refine ke (ka (kd (kd (kc (kb 1 rfl ?_)))))
 refine kh (OpV_lenS Tryz.underlying9 rfl) rfl (kb 1 rfl ?_)
 refine ke (ka (kv ?_))
 refine km [(0, vS a0), (3, .slice none 0 0), (4, vI (a0.length : Int))] ⟨rfl, rfl, rfl, trivial⟩ ?_
 refine kR (F.ref11_number_L1 a0) (fun (s : List UInt32 × Int) L w => ∃ (v_2 : Value), L = [(0, vS a0), (3, v_2), (4, vI s.2)] ∧ St [] w0 w [own e32 v_2 s.1]) ?_ ([], (a0.length : Int)) ⟨.slice none 0 0, rfl, (hS.nil e32)⟩ h
 rintro k_23 ⟨x_1, x_4⟩ L w q_7 hI ih_6 h hk_5
 try dsimp only at hI
 obtain ⟨v_2, rfl, hS⟩ := hI
 unfold F.ref11_number_L1 at h
 refine kd (kd (kc (kb 2 rfl ?_)))
 refine ke (ka ?_)
 refine kn rfl (fun hb_22 => ?_) (fun hb_22 => ?_)
 ·have h := if_t h hb_22
  refine kq (ka (kd (kv ?_)))
  refine kd (kc (kb 1 rfl ?_))
  refine ke (ka (kd (kd (kc (kb 3 rfl ?_)))))
  refine ke (ka (kv ?_))
  refine km [(0, vS a0), (3, v_2), (4, vI x_4), (5, v32 0), (6, vI (wI (x_4 - 8)))] ⟨rfl, rfl, rfl, rfl, rfl, trivial⟩ ?_
  refine kR (F.ref11_number_L2 a0 x_1 x_4) (fun (s : UInt32 × Int) L w => L = [(0, vS a0), (3, v_2), (4, vI x_4), (5, v32 s.1), (6, vI s.2)] ∧ St [] w0 w [own e32 v_2 x_1]) ?_ (0, wI (x_4 - 8)) ⟨rfl, hS⟩ h
  rintro k_21 ⟨x_8, x_9⟩ L w q_12 hI ih_11 h hk_10
  try dsimp only at hI
  obtain ⟨rfl, hS⟩ := hI
  unfold F.ref11_number_L2 at h
  refine kd (kd (kc (kb 3 rfl ?_)))
  refine ke (ka ?_)
  refine kn rfl (fun hb_20 => ?_) (fun hb_20 => ?_)
  ·have h := if_t h hb_20
   refine kq (ka (kd (kv ?_)))
   refine kc (kb 1 rfl ?_)
   refine kh (kr rfl rfl (b_mul32 _ 16 x_8)) rfl (kb 2 rfl ?_)
   obtain ⟨x_13, hx_13, h⟩ := kf h
   refine kh (G_ixS Tryz.underlying9 rfl rfl hx_13) rfl ?_
   obtain ⟨x_14, hx_14, h⟩ := kf h
   refine kj (by kernel_rfl) rfl (c_ref11_digit _ x_13    _ hx_14) rfl ?_
   rintro _ w ⟨rfl, hS1⟩
   have hS := hS.call hS1
   refine kh (kr rfl rfl (b_add32 _ (16 * x_8) x_14)) rfl (kb 1 rfl ?_)
   refine ke (kJ ?_)
   refine ka (kc (kb 3 rfl ?_))
   refine ke ?_
   exact QE_rnd (wpN_le _ (by exact ⟨rfl, rfl, rfl, rfl, rfl, trivial⟩) (ih_11 ((16 * x_8) + x_14, wI (x_9 + 1)) _ _ ⟨rfl, hS⟩ (kK h hk_10)))
  have h := if_f h hb_20
  refine kP ?_
  refine kw (kw ?_)
  have h := kF h hk_10
  refine kQ ?_
  refine ka (kc (kb 2 rfl ?_))
  refine kV (OpX_lit (e := e32) (l := ([x_8] : List UInt32)) (vs := [v32 x_8]) Tryz.underlying25 ti52 rfl rfl rfl rfl (by decide) (by decide) hS) rfl ?_
  rintro v_15 w hS
  obtain ⟨x_17, hx_17, h⟩ := kf h
  refine kV (G_append Tryz.underlying25 ti52 rfl rfl rfl hS (i := 1) rfl (hS.ro 0 rfl) hx_17) rfl ?_
  rintro v_18 w hS
  refine kb 1 rfl ?_
  refine ke (kJ ?_)
  refine ka (kc (kb 3 rfl ?_))
  refine ke ?_
  exact QE_rnd (wpN_le _ (by exact ⟨rfl, rfl, rfl, trivial⟩) (ih_6 (x_17, wI (x_4 - 8)) _ _ ⟨v_18, rfl, (hS.pick [1] (by decide) rfl)⟩ (kK h hk_5)))
 have h := if_f h hb_22
 refine kP ?_
 refine kw (kw ?_)
 have h := kF h hk_5
 refine kQ ?_
 refine ka (kd (kc (kb 2 rfl ?_)))
 refine ke (ka (ko ?_))
 cases h
 exact kx rfl rfl (hS.pick [0] (by decide) rfl)
theorem c_ref11_Field (w0 : World) (a0 : Int)   (r : List UInt32)
  (h : F.ref11_Field a0 = some r) : Calls Tryz.prog 55 #[vI a0] w0 (Ret fun v w => St [] w0 w [own e32 v r]) := by
 refine ky 10 Tryz.func55 rfl rfl rfl ?_
 have hS := St.start w0
 refine km [(0, vI a0)] ⟨rfl, trivial⟩ ?_
 unfold F.ref11_Field at h
 refine kd (kc (kb 1 rfl ?_))
 refine ke (ka (kd (kd (kc (kb 1 rfl ?_)))))
 refine ke (ka (kv ?_))
 refine kd (kc (kb 2 rfl ?_))
 refine ke (ka ?_)
 refine kn rfl (fun hb_8 => ?_) (fun hb_8 => ?_)
 ·have h := if_t h hb_8
  refine kd (kc ?_)
  obtain ⟨x_1, hx_1, h⟩ := kf h
  refine kj (by kernel_rfl) rfl (c_ref11_number _ [102, 102, 102, 102, 102, 102, 102, 102, 48, 48, 48, 48, 48, 48, 48, 49, 48, 48, 48, 48, 48, 48, 48, 48, 48, 48, 48, 48, 48, 48, 48, 48, 48, 48, 48, 48, 48, 48, 48, 48, 102, 102, 102, 102, 102, 102, 102, 102, 102, 102, 102, 102, 102, 102, 102, 102, 102, 102, 102, 102, 102, 102, 102, 102]    _ hx_1) rfl ?_
  rintro v_2 w hS1
  have hS := hS.call hS1
  refine kb 1 rfl ?_
  refine ke (ka (ko (QE_blk_r ?_)))
  refine ku ?_
  cases h
  exact kx rfl rfl (hS.pick [0] (by decide) rfl)
 have h := if_f h hb_8
 refine kd (kc (kb 2 rfl ?_))
 refine ke (ka ?_)
 refine kn rfl (fun hb_7 => ?_) (fun hb_7 => ?_)
 ·have h := if_t h hb_7
  refine kd (kc ?_)
  obtain ⟨x_4, hx_4, h⟩ := kf h
  refine kj (by kernel_rfl) rfl (c_ref11_number _ [102, 102, 102, 102, 102, 102, 102, 102, 102, 102, 102, 102, 102, 102, 102, 102, 102, 102, 102, 102, 102, 102, 102, 102, 102, 102, 102, 102, 102, 102, 102, 102, 102, 102, 102, 102, 102, 102, 102, 102, 102, 102, 102, 102, 102, 102, 102, 102, 102, 102, 102, 102, 102, 102, 102, 102, 102, 102, 102, 102, 102, 102, 102, 101, 102, 102, 102, 102, 102, 102, 102, 102, 48, 48, 48, 48, 48, 48, 48, 48, 48, 48, 48, 48, 48, 48, 48, 48, 102, 102, 102, 102, 102, 102, 102, 102]    _ hx_4) rfl ?_
  rintro v_5 w hS1
  have hS := hS.call hS1
  refine kb 1 rfl ?_
  refine ke (ka (ko (QE_blk_r ?_)))
  refine ku ?_
  cases h
  exact kx rfl rfl (hS.pick [0] (by decide) rfl)
 have h := if_f h hb_7
 refine kq (kJ ?_)
 refine ka (kd (kc (kb 1 rfl ?_)))
 refine ke (ka (ko ?_))
 cases h
 exact kx rfl rfl ((hS.nil e32).pick [0] (by decide) rfl)
theorem c_ref11_mul (w0 : World) (a0 : Int) (a1 : List UInt32) (a2 : List UInt32) (va1 : Value) (va2 : Value) (ha1 : RP [] w0 e32 va1 a1) (ha2 : RP [] w0 e32 va2 a2) (r : List UInt32)
  (h : F.ref11_mul a0 a1 a2 = some r) : Calls Tryz.prog 57 #[vI a0, va1, va2] w0 (Ret fun v w => St [] w0 w [own e32 v r]) := by
 refine ky 18 Tryz.func57 rfl rfl rfl ?_
 have hS := St.start w0
 refine km [(0, vI a0), (1, va1), (2, va2)] ⟨rfl, rfl, rfl, trivial⟩ ?_
 unfold F.ref11_mul at h
 refine kd (kc (kb 1 rfl ?_))
 refine ke (ka (kd (kc (kb 3 rfl ?_))))
 obtain ⟨x_1, hx_1, h⟩ := kf h
 refine kj (by kernel_rfl) rfl (c_ref11_Field _ a0    _ hx_1) rfl ?_
 rintro v_2 w hS1
 have hS := hS.call hS1
 obtain ⟨x_4, hx_4, h⟩ := kf h
 refine kj (by kernel_rfl) rfl (c_ref7_Mul _ a1 a2 x_1 va1 va2 v_2  (ha1.now hS.fr).rp (ha2.now hS.fr).rp (hS.ro 0 rfl).rp _ hx_4) rfl ?_
 rintro _ w ⟨v_5, rfl, hS1⟩
 have hS := hS.call hS1
 refine kb 5 rfl ?_
 refine ke (ka (kd (kc (kb 2 rfl ?_))))
 refine ke (ka (ko ?_))
 cases h
 exact kx rfl rfl (hS.pick [0] (by decide) rfl)
theorem c_ref11_sub (w0 : World) (a0 : Int) (a1 : List UInt32) (a2 : List UInt32) (va1 : Value) (va2 : Value) (ha1 : RP [] w0 e32 va1 a1) (ha2 : RP [] w0 e32 va2 a2) (r : List UInt32)
  (h : F.ref11_sub a0 a1 a2 = some r) : Calls Tryz.prog 51 #[vI a0, va1, va2] w0 (Ret fun v w => St [] w0 w [own e32 v r]) := by
 refine ky 18 Tryz.func51 rfl rfl rfl ?_
 have hS := St.start w0
 refine km [(0, vI a0), (1, va1), (2, va2)] ⟨rfl, rfl, rfl, trivial⟩ ?_
 unfold F.ref11_sub at h
 refine kd (kc (kb 1 rfl ?_))
 refine ke (ka (kd (kc (kb 3 rfl ?_))))
 obtain ⟨x_1, hx_1, h⟩ := kf h
 refine kj (by kernel_rfl) rfl (c_ref11_Field _ a0    _ hx_1) rfl ?_
 rintro v_2 w hS1
 have hS := hS.call hS1
 obtain ⟨x_4, hx_4, h⟩ := kf h
 refine kj (by kernel_rfl) rfl (c_ref7_Sub _ a1 a2 x_1 va1 va2 v_2  (ha1.now hS.fr).rp (ha2.now hS.fr).rp (hS.ro 0 rfl).rp _ hx_4) rfl ?_
 rintro _ w ⟨v_5, rfl, hS1⟩
 have hS := hS.call hS1
 refine kb 5 rfl ?_
 refine ke (ka (kd (kc (kb 2 rfl ?_))))
 refine ke (ka (ko ?_))
 cases h
 exact kx rfl rfl (hS.pick [0] (by decide) rfl)
theorem c_ref11_b (w0 : World) (a0 : Int)   (r : List UInt32)
  (h : F.ref11_b a0 = some r) : Calls Tryz.prog 58 #[vI a0] w0 (Ret fun v w => St [] w0 w [own e32 v r]) := by
 refine ky 7 Tryz.func58 rfl rfl rfl ?_
 have hS := St.start w0
 refine km [(0, vI a0)] ⟨rfl, trivial⟩ ?_
 unfold F.ref11_b at h
 refine kd (kc (kb 1 rfl ?_))
 refine ke (ka (kd (kd (kc (kb 2 rfl ?_)))))
 refine ke (ka ?_)
 refine kn rfl (fun hb_7 => ?_) (fun hb_7 => ?_)
 ·have h := if_t h hb_7
  refine kd (kc ?_)
  obtain ⟨x_1, hx_1, h⟩ := kf h
  refine kj (by kernel_rfl) rfl (c_ref11_number _ [53, 97, 99, 54, 51, 53, 100, 56, 97, 97, 51, 97, 57, 51, 101, 55, 98, 51, 101, 98, 98, 100, 53, 53, 55, 54, 57, 56, 56, 54, 98, 99, 54, 53, 49, 100, 48, 54, 98, 48, 99, 99, 53, 51, 98, 48, 102, 54, 51, 98, 99, 101, 51, 99, 51, 101, 50, 55, 100, 50, 54, 48, 52, 98]    _ hx_1) rfl ?_
  rintro v_2 w hS1
  have hS := hS.call hS1
  refine kb 1 rfl ?_
  refine ke (ka (ko (ku ?_)))
  cases h
  exact kx rfl rfl (hS.pick [0] (by decide) rfl)
 have h := if_f h hb_7
 refine kq (ka (kd (kc ?_)))
 obtain ⟨x_4, hx_4, h⟩ := kf h
 refine kj (by kernel_rfl) rfl (c_ref11_number _ [98, 51, 51, 49, 50, 102, 97, 55, 101, 50, 51, 101, 101, 55, 101, 52, 57, 56, 56, 101, 48, 53, 54, 98, 101, 51, 102, 56, 50, 100, 49, 57, 49, 56, 49, 100, 57, 99, 54, 101, 102, 101, 56, 49, 52, 49, 49, 50, 48, 51, 49, 52, 48, 56, 56, 102, 53, 48, 49, 51, 56, 55, 53, 97, 99, 54, 53, 54, 51, 57, 56, 100, 56, 97, 50, 101, 100, 49, 57, 100, 50, 97, 56, 53, 99, 56, 101, 100, 100, 51, 101, 99, 50, 97, 101, 102]    _ hx_4) rfl ?_
 rintro v_5 w hS1
 have hS := hS.call hS1
 refine kb 1 rfl ?_
 refine ke (ka (ko ?_))
 cases h
 exact kx rfl rfl (hS.pick [0] (by decide) rfl)
theorem c_ref11_add (w0 : World) (a0 : Int) (a1 : List UInt32) (a2 : List UInt32) (va1 : Value) (va2 : Value) (ha1 : RP [] w0 e32 va1 a1) (ha2 : RP [] w0 e32 va2 a2) (r : List UInt32)
  (h : F.ref11_add a0 a1 a2 = some r) : Calls Tryz.prog 56 #[vI a0, va1, va2] w0 (Ret fun v w => St [] w0 w [own e32 v r]) := by
 refine ky 18 Tryz.func56 rfl rfl rfl ?_
 have hS := St.start w0
 refine km [(0, vI a0), (1, va1), (2, va2)] ⟨rfl, rfl, rfl, trivial⟩ ?_
 unfold F.ref11_add at h
 refine kd (kc (kb 1 rfl ?_))
 refine ke (ka (kd (kc (kb 3 rfl ?_))))
 obtain ⟨x_1, hx_1, h⟩ := kf h
 refine kj (by kernel_rfl) rfl (c_ref11_Field _ a0    _ hx_1) rfl ?_
 rintro v_2 w hS1
 have hS := hS.call hS1
 obtain ⟨x_4, hx_4, h⟩ := kf h
 refine kj (by kernel_rfl) rfl (c_ref7_Add _ a1 a2 x_1 va1 va2 v_2  (ha1.now hS.fr).rp (ha2.now hS.fr).rp (hS.ro 0 rfl).rp _ hx_4) rfl ?_
 rintro _ w ⟨v_5, rfl, hS1⟩
 have hS := hS.call hS1
 refine kb 5 rfl ?_
 refine ke (ka (kd (kc (kb 2 rfl ?_))))
 refine ke (ka (ko ?_))
 cases h
 exact kx rfl rfl (hS.pick [0] (by decide) rfl)
theorem c_ref11_On (w0 : World) (a0 : Int) (a1_0 : List UInt32) (a1_1 : List UInt32) (a1_2 : Bool) (va1_0 : Value) (va1_1 : Value) (ha1_0 : RP [] w0 e32 va1_0 a1_0) (ha1_1 : RP [] w0 e32 va1_1 a1_1) (r : Bool)
  (h : F.ref11_On a0 a1_0 a1_1 a1_2 = some r) : Calls Tryz.prog 25 #[vI a0, .agg #[va1_0, va1_1, vB a1_2]] w0 (Ret fun v w => v = vB r ∧ St [] w0 w []) := by
 refine ky 63 Tryz.func25 rfl rfl rfl ?_
 have hS := St.start w0
 refine km [(0, vI a0), (1, .agg #[va1_0, va1_1, vB a1_2])] ⟨rfl, rfl, trivial⟩ ?_
 unfold F.ref11_On at h
 refine kd (kc (kV (OpX_box (cs := [va1_0, va1_1, vB a1_2]) rfl rfl hS) rfl ?_))
 rintro _ w ⟨b_1, rfl, hS⟩
 refine kb 1 rfl ?_
 refine ke (ka (kd (kd (kc (kb 1 rfl ?_)))))
 obtain ⟨x_3, hx_3, h⟩ := kf h
 refine kj (by kernel_rfl) rfl (c_ref11_Size _ a0    _ hx_3) rfl ?_
 rintro _ w ⟨rfl, hS1⟩
 have hS := hS.call hS1
 refine kb 1 rfl ?_
 refine ke (ka ?_)
 refine kn rfl (fun hb_48 => ?_) (fun hb_48 => ?_)
 ·have h := if_t h hb_48
  refine kd (kc (kb 1 rfl ?_))
  refine ke (ka (ko (ku ?_)))
  cases h
  exact kx rfl rfl ⟨rfl, hS.pick [] (by decide) rfl⟩
 have h := if_f h hb_48
 refine kq (ka (kd (kc (kh (kk (k := 0) Tryz.underlying27 rfl rfl nz25 rfl) rfl (kh (kt Tryz.underlying25 rfl rfl (hS.bxc 0 rfl 0)) rfl ?_)))))
 obtain ⟨x_4, hx_4, h⟩ := kf h
 refine kj (by kernel_rfl) rfl (c_ref11_Proper _ a1_0 va1_0  (ha1_0.now hS.fr).rp _ hx_4) rfl ?_
 rintro v_5 w hS1
 have hS := hS.call hS1
 refine kb 1 rfl ?_
 refine ke (ka (kd (kc (kh (kk (k := 1) Tryz.underlying27 rfl rfl nz25 rfl) rfl (kh (kt Tryz.underlying25 rfl rfl (hS.bxc 1 rfl 1)) rfl ?_)))))
 obtain ⟨x_7, hx_7, h⟩ := kf h
 refine kj (by kernel_rfl) rfl (c_ref11_Proper _ a1_1 va1_1  (ha1_1.now hS.fr).rp _ hx_7) rfl ?_
 rintro v_8 w hS1
 have hS := hS.call hS1
 refine kb 1 rfl ?_
 refine ke (ka (kd (kd (kc (kh (kk (k := 2) Tryz.underlying27 rfl rfl nz4 rfl) rfl (kh (kt Tryz.underlying4 rfl rfl (hS.bxc 2 rfl 2)) rfl (ke (ka ?_))))))))
 refine kn rfl (fun hb_47 => ?_) (fun hb_47 => ?_)
 ·have h := if_t h hb_47
  refine kd (kc (kb 1 rfl ?_))
  refine kh (kA Tryz.underlying25 rfl (hS.ro 1 rfl)) rfl (kb 2 rfl ?_)
  cases hb_10 : ((x_4.length : Int) == 0)
  case true =>
   have h := if_t h hb_10
   try simp only [hb_10]
   refine kb 1 rfl ?_
   refine kS (t := 22) rfl rfl (kA Tryz.underlying25 rfl (hS.ro 0 rfl)) rfl (kb 3 rfl ?_)
   refine ke (ka (ko (ku ?_)))
   cases h
   exact kx rfl rfl ⟨rfl, hS.pick [] (by decide) rfl⟩
  case false =>
   have h := if_f h hb_10
   try simp only [hb_10]
   refine kb 5 rfl ?_
   refine ke (ka (ko (ku ?_)))
   cases h
   exact kx rfl rfl ⟨rfl, hS.pick [] (by decide) rfl⟩
 have h := if_f h hb_47
 refine kq (ka (kd ?_))
 refine kN (r := r) (fun (g : Bool) L w => L = [(0, vI a0), (5, v_5), (6, v_8), (38, vB g)] ∧ St [] w0 w [own e32 v_5 x_4, own e32 v_8 x_7]) (F.ref11_On_K1 a0 x_4 x_7) ?_ ?_
 rotate_left
 ·intro hK_21
  refine kc (kb 2 rfl ?_)
  obtain ⟨x_11, hx_11, h⟩ := kf h
  refine kj (by kernel_rfl) rfl (c_ref11_Field _ a0    _ hx_11) rfl ?_
  rintro v_12 w hS1
  have hS := hS.call hS1
  obtain ⟨x_14, hx_14, h⟩ := kf h
  refine kj (by kernel_rfl) rfl (c_ref6_Cmp _ x_4 x_11 v_5 v_12  (hS.ro 2 rfl).rp (hS.ro 0 rfl).rp _ hx_14) rfl ?_
  rintro _ w ⟨rfl, hS1⟩
  have hS := hS.call hS1
  refine kb 2 rfl ?_
  cases hb_15 : (decide ((0 : Int) ≤ x_14))
  case true =>
   have h := if_t h hb_15
   try simp only [hb_15]
   refine kb 6 rfl ?_
   refine ke (ka ?_)
   exact km _ (by exact ⟨rfl, rfl, rfl, rfl, trivial⟩) (hK_21 true _ _ ⟨rfl, (hS.pick [2, 1] (by decide) rfl)⟩ h)
  case false =>
   have h := if_f h hb_15
   try simp only [hb_15]
   refine kb 2 rfl ?_
   obtain ⟨x_16, hx_16, h⟩ := kf h
   refine wpR_gcall (t := 32) rfl rfl (by kernel_rfl) rfl (c_ref11_Field _ a0    _ hx_16) rfl ?_
   rintro v_17 w hS1
   have hS := hS.call hS1
   obtain ⟨x_19, hx_19, h⟩ := kf h
   refine wpR_gcall (t := 32) rfl rfl (by kernel_rfl) rfl (c_ref6_Cmp _ x_7 x_16 v_8 v_17  (hS.ro 2 rfl).rp (hS.ro 0 rfl).rp _ hx_19) rfl ?_
   rintro _ w ⟨rfl, hS1⟩
   have hS := hS.call hS1
   refine kb 2 rfl ?_
   refine ke (ka ?_)
   exact km _ (by exact ⟨rfl, rfl, rfl, rfl, trivial⟩) (hK_21 (decide ((0 : Int) ≤ x_19)) _ _ ⟨rfl, (hS.pick [3, 2] (by decide) rfl)⟩ h)
 rintro x_20 L w hJ h
 try dsimp only at hJ
 obtain ⟨rfl, hS⟩ := hJ
 unfold F.ref11_On_K1 at h
 refine kn rfl (fun hb_46 => ?_) (fun hb_46 => ?_)
 ·have h := if_t h hb_46
  refine kd (kc (kb 1 rfl ?_))
  refine ke (ka (ko (ku ?_)))
  cases h
  exact kx rfl rfl ⟨rfl, hS.pick [] (by decide) rfl⟩
 have h := if_f h hb_46
 refine kq (ka (kd (kc (kb 7 rfl ?_))))
 obtain ⟨x_22, hx_22, h⟩ := kf h
 refine kj (by kernel_rfl) rfl (c_ref11_mul _ a0 x_4 x_4 v_5 v_5  (hS.ro 0 rfl).rp (hS.ro 0 rfl).rp _ hx_22) rfl ?_
 rintro v_23 w hS1
 have hS := hS.call hS1
 obtain ⟨x_25, hx_25, h⟩ := kf h
 refine kj (by kernel_rfl) rfl (c_ref11_mul _ a0 x_4 x_22 v_5 v_23  (hS.ro 1 rfl).rp (hS.ro 0 rfl).rp _ hx_25) rfl ?_
 rintro v_26 w hS1
 have hS := hS.call hS1
 refine kb 1 rfl ?_
 refine kV (OpX_lit (e := e32) (l := ([3] : List UInt32)) (vs := [v32 3]) Tryz.underlying25 ti52 rfl rfl rfl rfl (by decide) (by decide) hS) rfl ?_
 rintro v_28 w hS
 refine kb 1 rfl ?_
 obtain ⟨x_30, hx_30, h⟩ := kf h
 refine kj (by kernel_rfl) rfl (c_ref11_mul _ a0 ([3] : List UInt32) x_4 v_28 v_5  (hS.ro 0 rfl).rp (hS.ro 3 rfl).rp _ hx_30) rfl ?_
 rintro v_31 w hS1
 have hS := hS.call hS1
 obtain ⟨x_33, hx_33, h⟩ := kf h
 refine kj (by kernel_rfl) rfl (c_ref11_sub _ a0 x_25 x_30 v_26 v_31  (hS.ro 2 rfl).rp (hS.ro 0 rfl).rp _ hx_33) rfl ?_
 rintro v_34 w hS1
 have hS := hS.call hS1
 refine kb 1 rfl ?_
 obtain ⟨x_36, hx_36, h⟩ := kf h
 refine kj (by kernel_rfl) rfl (c_ref11_b _ a0    _ hx_36) rfl ?_
 rintro v_37 w hS1
 have hS := hS.call hS1
 obtain ⟨x_39, hx_39, h⟩ := kf h
 refine kj (by kernel_rfl) rfl (c_ref11_add _ a0 x_33 x_36 v_34 v_37  (hS.ro 1 rfl).rp (hS.ro 0 rfl).rp _ hx_39) rfl ?_
 rintro v_40 w hS1
 have hS := hS.call hS1
 refine kb 1 rfl ?_
 refine ke (ka (kd (kc (kb 3 rfl ?_))))
 obtain ⟨x_42, hx_42, h⟩ := kf h
 refine kj (by kernel_rfl) rfl (c_ref11_mul _ a0 x_7 x_7 v_8 v_8  (hS.ro 8 rfl).rp (hS.ro 8 rfl).rp _ hx_42) rfl ?_
 rintro v_43 w hS1
 have hS := hS.call hS1
 refine kb 1 rfl ?_
 obtain ⟨x_45, hx_45, h⟩ := kf h
 refine kj (by kernel_rfl) rfl (c_ref6_Cmp _ x_42 x_39 v_43 v_40  (hS.ro 0 rfl).rp (hS.ro 1 rfl).rp _ hx_45) rfl ?_
 rintro _ w ⟨rfl, hS1⟩
 have hS := hS.call hS1
 refine kb 2 rfl ?_
 refine ke (ka (ko ?_))
 cases h
 exact kx rfl rfl ⟨rfl, hS.pick [] (by decide) rfl⟩
theorem c_ref11_Base (w0 : World) (a0 : Int)   (r : List UInt32 × List UInt32 × Bool)
  (h : F.ref11_Base a0 = some r) : Calls Tryz.prog 17 #[vI a0] w0 (Ret fun v w => ∃ u0_0 u0_1 : Value, v = .agg #[u0_0, u0_1, vB r.2.2] ∧ St [] w0 w [own e32 u0_0 r.1, own e32 u0_1 r.2.1]) := by
 refine ky 15 Tryz.func17 rfl rfl rfl ?_
 have hS := St.start w0
 refine km [(0, vI a0)] ⟨rfl, trivial⟩ ?_
 unfold F.ref11_Base at h
 refine kd (kc (kV (kD (cs := [.slice none 0 0, .slice none 0 0, vB false]) tz27 rfl hS) rfl ?_))
 rintro _ w ⟨b_1, rfl, hS⟩
 refine ke (ka (kd (kd (kc (kb 1 rfl ?_)))))
 refine ke (ka (kv ?_))
 refine kd (kc (kb 2 rfl ?_))
 refine ke (ka ?_)
 refine kn rfl (fun hb_16 => ?_) (fun hb_16 => ?_)
 ·have h := if_t h hb_16
  refine kd (kc ?_)
  obtain ⟨x_3, hx_3, h⟩ := kf h
  refine kj (by kernel_rfl) rfl (c_ref11_number _ [54, 98, 49, 55, 100, 49, 102, 50, 101, 49, 50, 99, 52, 50, 52, 55, 102, 56, 98, 99, 101, 54, 101, 53, 54, 51, 97, 52, 52, 48, 102, 50, 55, 55, 48, 51, 55, 100, 56, 49, 50, 100, 101, 98, 51, 51, 97, 48, 102, 52, 97, 49, 51, 57, 52, 53, 100, 56, 57, 56, 99, 50, 57, 54]    _ hx_3) rfl ?_
  rintro v_4 w hS1
  have hS := hS.call hS1
  obtain ⟨x_6, hx_6, h⟩ := kf h
  refine kj (by kernel_rfl) rfl (c_ref11_number _ [52, 102, 101, 51, 52, 50, 101, 50, 102, 101, 49, 97, 55, 102, 57, 98, 56, 101, 101, 55, 101, 98, 52, 97, 55, 99, 48, 102, 57, 101, 49, 54, 50, 98, 99, 101, 51, 51, 53, 55, 54, 98, 51, 49, 53, 101, 99, 101, 99, 98, 98, 54, 52, 48, 54, 56, 51, 55, 98, 102, 53, 49, 102, 53]    _ hx_6) rfl ?_
  rintro v_7 w hS1
  have hS := hS.call hS1
  refine kh (OpV_build (vs := [(0, v_4, [v_4]), (1, v_7, [v_7])]) (cells := [v_4, v_7, vB false]) rfl lay27 ⟨(cells_one (hS.ro 1 rfl).one), (cells_one (hS.ro 0 rfl).one), trivial⟩ rfl) rfl ?_
  refine kW (kL (i := 2) (us := [v_4, v_7, vB false]) rfl sz27 rfl rfl rfl ⟨(hS.ro 1 rfl).one, (hS.ro 0 rfl).one, rfl, trivial⟩ rfl hS) ?_
  intro w hS
  refine ke (ka (ko (QE_blk_r ?_)))
  refine ku ?_
  cases h
  exact QE_rv1 rfl ⟨_, rfl, run_ldAgg (us := [v_4, v_7, vB false]) Tryz.underlying27 rfl sz27 (hS.bxs 2 rfl rfl)⟩ ⟨v_4, v_7, rfl, hS.pick [1, 0] (by decide) rfl⟩
 have h := if_f h hb_16
 refine kd (kc (kb 2 rfl ?_))
 refine ke (ka ?_)
 refine kn rfl (fun hb_15 => ?_) (fun hb_15 => ?_)
 ·have h := if_t h hb_15
  refine kd (kc ?_)
  obtain ⟨x_9, hx_9, h⟩ := kf h
  refine kj (by kernel_rfl) rfl (c_ref11_number _ [97, 97, 56, 55, 99, 97, 50, 50, 98, 101, 56, 98, 48, 53, 51, 55, 56, 101, 98, 49, 99, 55, 49, 101, 102, 51, 50, 48, 97, 100, 55, 52, 54, 101, 49, 100, 51, 98, 54, 50, 56, 98, 97, 55, 57, 98, 57, 56, 53, 57, 102, 55, 52, 49, 101, 48, 56, 50, 53, 52, 50, 97, 51, 56, 53, 53, 48, 50, 102, 50, 53, 100, 98, 102, 53, 53, 50, 57, 54, 99, 51, 97, 53, 52, 53, 101, 51, 56, 55, 50, 55, 54, 48, 97, 98, 55]    _ hx_9) rfl ?_
  rintro v_10 w hS1
  have hS := hS.call hS1
  obtain ⟨x_12, hx_12, h⟩ := kf h
  refine kj (by kernel_rfl) rfl (c_ref11_number _ [51, 54, 49, 55, 100, 101, 52, 97, 57, 54, 50, 54, 50, 99, 54, 102, 53, 100, 57, 101, 57, 56, 98, 102, 57, 50, 57, 50, 100, 99, 50, 57, 102, 56, 102, 52, 49, 100, 98, 100, 50, 56, 57, 97, 49, 52, 55, 99, 101, 57, 100, 97, 51, 49, 49, 51, 98, 53, 102, 48, 98, 56, 99, 48, 48, 97, 54, 48, 98, 49, 99, 101, 49, 100, 55, 101, 56, 49, 57, 100, 55, 97, 52, 51, 49, 100, 55, 99, 57, 48, 101, 97, 48, 101, 53, 102]    _ hx_12) rfl ?_
  rintro v_13 w hS1
  have hS := hS.call hS1
  refine kh (OpV_build (vs := [(0, v_10, [v_10]), (1, v_13, [v_13])]) (cells := [v_10, v_13, vB false]) rfl lay27 ⟨(cells_one (hS.ro 1 rfl).one), (cells_one (hS.ro 0 rfl).one), trivial⟩ rfl) rfl ?_
  refine kW (kL (i := 2) (us := [v_10, v_13, vB false]) rfl sz27 rfl rfl rfl ⟨(hS.ro 1 rfl).one, (hS.ro 0 rfl).one, rfl, trivial⟩ rfl hS) ?_
  intro w hS
  refine ke (ka (ko (QE_blk_r ?_)))
  refine ku ?_
  cases h
  exact QE_rv1 rfl ⟨_, rfl, run_ldAgg (us := [v_10, v_13, vB false]) Tryz.underlying27 rfl sz27 (hS.bxs 2 rfl rfl)⟩ ⟨v_10, v_13, rfl, hS.pick [1, 0] (by decide) rfl⟩
 have h := if_f h hb_15
 refine kq (kJ ?_)
 refine ka (kd (kc (kh (OpV_build (vs := []) (cells := [.slice none 0 0, .slice none 0 0, vB false]) rfl lay27 trivial rfl) rfl (kW (kL (i := 0) (us := [.slice none 0 0, .slice none 0 0, vB false]) rfl sz27 rfl rfl rfl ⟨rfl, rfl, rfl, trivial⟩ rfl hS) ?_))))
 intro w hS
 refine ke (ka (ko ?_))
 cases h
 exact QE_rv1 rfl ⟨_, rfl, run_ldAgg (us := [.slice none 0 0, .slice none 0 0, vB false]) Tryz.underlying27 rfl sz27 (hS.bxs 0 rfl rfl)⟩ ⟨.slice none 0 0, .slice none 0 0, rfl, ((hS.nil e32).nil e32).pick [1, 0] (by decide) rfl⟩
theorem c_ref11_proper (w0 : World) (a0_0 : List UInt32) (a0_1 : List UInt32) (a0_2 : Bool) (va0_0 : Value) (va0_1 : Value) (ha0_0 : RP [] w0 e32 va0_0 a0_0) (ha0_1 : RP [] w0 e32 va0_1 a0_1) (r : List UInt32 × List UInt32 × Bool)
  (h : F.ref11_proper a0_0 a0_1 a0_2 = some r) : Calls Tryz.prog 50 #[.agg #[va0_0, va0_1, vB a0_2]] w0 (Ret fun v w => ∃ u0_0 u0_1 : Value, v = .agg #[u0_0, u0_1, vB r.2.2] ∧ St [] w0 w [own e32 u0_0 r.1, own e32 u0_1 r.2.1]) := by
 refine ky 12 Tryz.func50 rfl rfl rfl ?_
 have hS := St.start w0
 refine km [(0, .agg #[va0_0, va0_1, vB a0_2])] ⟨rfl, trivial⟩ ?_
 unfold F.ref11_proper at h
 refine kd (kc (kV (OpX_box (cs := [va0_0, va0_1, vB a0_2]) rfl rfl hS) rfl ?_))
 rintro _ w ⟨b_1, rfl, hS⟩
 refine kV (kD (cs := [.slice none 0 0, .slice none 0 0, vB false]) tz27 rfl hS) rfl ?_
 rintro _ w ⟨b_3, rfl, hS⟩
 refine ke (ka (kd ?_))
 refine wpC_regionS (fun w' => St [] w0 w' [OE.bx b_3 [.slice none 0 0, .slice none 0 0, vB false], OE.bx b_1 [va0_0, va0_1, vB a0_2]]) (fun i => !([2, 5, 9].contains i)) hmix (fun _ _ _ hf => hf.2) (fun _ _ hf => hf) (by kernel_rfl) ?_
 have hS := hS.drew
 show lxE _ _ _ _ _ _ _ [0, 1, 2, 3, 4, 5, 6, 7, 8, 9] _ _
 refine ki hS rfl rfl (fun w hF => kk (k := 0) Tryz.underlying27 rfl rfl nz25 rfl) rfl (ki hS rfl rfl (fun w hF => kt Tryz.underlying25 rfl rfl (hF.bxc 1 rfl 0)) rfl ?_)
 obtain ⟨x_5, hx_5, h⟩ := kf h
 refine kO hS rfl rfl (by kernel_rfl) rfl (c_ref11_Proper _ a0_0 va0_0  (ha0_0.now hS.fr).rp _ hx_5) rfl ?_
 rintro v_6 w hS1
 have hS := hS.call hS1
 have h1_8 := (hS.ro 0 rfl).one
 refine ki (hS.pick [1, 2] (by decide) rfl) rfl rfl (fun w hF => kk (k := 1) Tryz.underlying27 rfl rfl nz25 rfl) rfl ?_
 refine ki (hS.pick [1, 2] (by decide) rfl) rfl rfl (fun w hF => kt Tryz.underlying25 rfl rfl (hF.bxc 1 rfl 1)) rfl ?_
 obtain ⟨x_9, hx_9, h⟩ := kf h
 refine kO (hS.pick [1, 2] (by decide) rfl) rfl rfl (by kernel_rfl) rfl (c_ref11_Proper _ a0_1 va0_1  (ha0_1.now hS.fr).rp _ hx_9) rfl ?_
 rintro v_10 w hS1
 have hS := hS.call hS1
 have h1_12 := (hS.ro 0 rfl).one
 refine ki (hS.pick [2, 3] (by decide) rfl) rfl rfl (fun w hF => kk (k := 2) Tryz.underlying27 rfl rfl nz4 rfl) rfl ?_
 refine ki (hS.pick [2, 3] (by decide) rfl) rfl rfl (fun w hF => kt Tryz.underlying4 rfl rfl (hF.bxc 1 rfl 2)) rfl ?_
 refine ki (hS.pick [2, 3] (by decide) rfl) rfl rfl (fun w hF => OpV_build (vs := [(0, v_6, [v_6]), (1, v_10, [v_10]), (2, vB a0_2, [vB a0_2])]) (cells := [v_6, v_10, vB a0_2]) rfl lay27 ⟨(cells_one h1_8), (cells_one h1_12), rfl, trivial⟩ rfl) rfl ?_
 refine kZ (hS.pick [2, 3] (by decide) rfl) rfl rfl (kL (i := 2) (us := [v_6, v_10, vB a0_2]) rfl sz27 rfl rfl rfl ⟨(hS.ro 1 rfl).one, (hS.ro 0 rfl).one, rfl, trivial⟩ rfl hS) ?_
 intro w hS
 refine kX trivial ?_
 refine ka (ko ?_)
 cases h
 exact QE_rv1 rfl ⟨_, rfl, run_ldAgg (us := [v_6, v_10, vB a0_2]) Tryz.underlying27 rfl sz27 (hS.bxs 2 rfl rfl)⟩ ⟨v_6, v_10, rfl, hS.pick [1, 0] (by decide) rfl⟩
theorem c_ref11_Neg (w0 : World) (a0 : Int) (a1_0 : List UInt32) (a1_1 : List UInt32) (a1_2 : Bool) (va1_0 : Value) (va1_1 : Value) (ha1_0 : RP [] w0 e32 va1_0 a1_0) (ha1_1 : RP [] w0 e32 va1_1 a1_1) (r : List UInt32 × List UInt32 × Bool × Int)
  (h : F.ref11_Neg a0 a1_0 a1_1 a1_2 = some r) : Calls Tryz.prog 22 #[vI a0, .agg #[va1_0, va1_1, vB a1_2]] w0 (Ret fun v w => ∃ u0_0 u0_1 : Value, v = .tuple #[.agg #[u0_0, u0_1, vB r.2.2.1], vI r.2.2.2] ∧ St [] w0 w [own e32 u0_0 r.1, own e32 u0_1 r.2.1]) := by
 refine ky 23 Tryz.func22 rfl rfl rfl ?_
 have hS := St.start w0
 refine km [(0, vI a0), (1, .agg #[va1_0, va1_1, vB a1_2])] ⟨rfl, rfl, trivial⟩ ?_
 unfold F.ref11_Neg at h
 refine kd (kc (kV (OpX_box (cs := [va1_0, va1_1, vB a1_2]) rfl rfl hS) rfl ?_))
 rintro _ w ⟨b_1, rfl, hS⟩
 refine kV (kD (cs := [.slice none 0 0, .slice none 0 0, vB false]) tz27 rfl hS) rfl ?_
 rintro _ w ⟨b_3, rfl, hS⟩
 refine kb 1 rfl ?_
 refine ke (ka (kd (kd (kc (kb 1 rfl ?_)))))
 refine kh (kG (us := [va1_0, va1_1, vB a1_2]) Tryz.underlying27 rfl sz27 rfl (hS.bxs 1 rfl rfl)) rfl ?_
 obtain ⟨x_5, hx_5, h⟩ := kf h
 refine kj (by kernel_rfl) rfl (c_ref11_On _ a0 a1_0 a1_1 a1_2 va1_0 va1_1  (ha1_0.now hS.fr).rp (ha1_1.now hS.fr).rp _ hx_5) rfl ?_
 rintro _ w ⟨rfl, hS1⟩
 have hS := hS.call hS1
 refine kb 1 rfl ?_
 refine ke (ka ?_)
 refine kn rfl (fun hb_21 => ?_) (fun hb_21 => ?_)
 ·have h := if_t h hb_21
  refine kd (kc (kh (OpV_build (vs := []) (cells := [.slice none 0 0, .slice none 0 0, vB false]) rfl lay27 trivial rfl) rfl (kW (kL (i := 0) (us := [.slice none 0 0, .slice none 0 0, vB false]) rfl sz27 rfl rfl rfl ⟨rfl, rfl, rfl, trivial⟩ rfl hS) ?_)))
  intro w hS
  refine kb 1 rfl ?_
  refine ke (ka (ko (ku ?_)))
  cases h
  exact QE_rv2 rfl ⟨_, rfl, run_ldAgg (us := [.slice none 0 0, .slice none 0 0, vB false]) Tryz.underlying27 rfl sz27 (hS.bxs 0 rfl rfl)⟩ rfl ⟨.slice none 0 0, .slice none 0 0, rfl, ((hS.nil e32).nil e32).pick [1, 0] (by decide) rfl⟩
 have h := if_f h hb_21
 refine kq (ka (kd (kc (kh (kG (us := [va1_0, va1_1, vB a1_2]) Tryz.underlying27 rfl sz27 rfl (hS.bxs 1 rfl rfl)) rfl ?_))))
 obtain ⟨x_6, hx_6, h⟩ := kf h
 refine kj (by kernel_rfl) rfl (c_ref11_proper _ a1_0 a1_1 a1_2 va1_0 va1_1  (ha1_0.now hS.fr).rp (ha1_1.now hS.fr).rp _ hx_6) rfl ?_
 rintro _ w ⟨v_7, v_9, rfl, hS1⟩
 have hS := hS.call hS1
 refine kV (kD (cs := [.slice none 0 0, .slice none 0 0, vB false]) tz27 rfl hS) rfl ?_
 rintro _ w ⟨b_11, rfl, hS⟩
 refine kW (kL (i := 0) (us := [v_7, v_9, vB x_6.2.2]) rfl sz27 rfl rfl rfl ⟨(hS.ro 1 rfl).one, (hS.ro 2 rfl).one, rfl, trivial⟩ rfl hS) ?_
 intro w hS
 refine ke (ka ?_)
 refine kN (r := r) (fun (g : List UInt32) L w => ∃ (v_18 : Value), L = [(4, pB b_3 0), (6, pB b_11 0)] ∧ St [] w0 w [OE.bx b_3 [.slice none 0 0, .slice none 0 0, vB false], own e32 v_18 g, OE.bx b_11 [v_7, v_18, vB x_6.2.2], own e32 v_7 x_6.1]) (F.ref11_Neg_K1 x_6) ?_ ?_
 rotate_left
 ·intro hK_20
  refine kd (kc (kh (kk (k := 2) Tryz.underlying27 rfl rfl nz4 rfl) rfl (kh (kt Tryz.underlying4 rfl rfl (hS.bxc 0 rfl 2)) rfl (kb 1 rfl ?_))))
  refine ke (ka ?_)
  refine kn rfl (fun hb_16 => ?_) (fun hb_16 => ?_)
  ·have h := if_t h hb_16
   refine kc (kb 1 rfl ?_)
   refine kh (kk (k := 1) Tryz.underlying27 rfl rfl nz25 rfl) rfl (kh (kt Tryz.underlying25 rfl rfl (hS.bxc 0 rfl 1)) rfl ?_)
   obtain ⟨x_13, hx_13, h⟩ := kf h
   refine kj (by kernel_rfl) rfl (c_ref11_sub _ a0 [] x_6.2.1 (.slice none 0 0) v_9  (RO.nil _ e32).rp (hS.ro 2 rfl).rp _ hx_13) rfl ?_
   rintro v_14 w hS1
   have hS := hS.call hS1
   refine kh (kk (k := 1) Tryz.underlying27 rfl rfl nz25 rfl) rfl (kW (kL (i := 1) (us := [v_14]) rfl sz25 rfl rfl (cells_one (hS.ro 0 rfl).one) ⟨(hS.ro 0 rfl).one, trivial⟩ rfl hS) ?_)
   intro w hS
   refine ke (ka ?_)
   exact km _ (by exact ⟨rfl, rfl, trivial⟩) (hK_20 x_13 _ _ ⟨v_14, rfl, (hS.pick [4, 0, 1, 2] (by decide) rfl)⟩ h)
  have h := if_f h hb_16
  refine kq (ka ?_)
  exact km _ (by exact ⟨rfl, rfl, trivial⟩) (hK_20 x_6.2.1 _ _ ⟨v_9, rfl, (hS.pick [3, 2, 0, 1] (by decide) rfl)⟩ h)
 rintro x_17 L w hJ h
 try dsimp only at hJ
 obtain ⟨v_18, rfl, hS⟩ := hJ
 unfold F.ref11_Neg_K1 at h
 refine kd (kc (kh (kG (us := [v_7, v_18, vB x_6.2.2]) Tryz.underlying27 rfl sz27 rfl (hS.bxs 2 rfl rfl)) rfl (kW (kL (i := 0) (us := [v_7, v_18, vB x_6.2.2]) rfl sz27 rfl rfl rfl ⟨(hS.ro 3 rfl).one, (hS.ro 1 rfl).one, rfl, trivial⟩ rfl hS) ?_)))
 intro w hS
 refine kb 1 rfl ?_
 refine ke (ka (ko ?_))
 cases h
 exact QE_rv2 rfl ⟨_, rfl, run_ldAgg (us := [v_7, v_18, vB x_6.2.2]) Tryz.underlying27 rfl sz27 (hS.bxs 0 rfl rfl)⟩ rfl ⟨v_7, v_18, rfl, hS.pick [3, 1] (by decide) rfl⟩
theorem c_ref11_over (w0 : World) (a0 : Int) (a1 : List UInt32) (a2 : List UInt32) (va1 : Value) (va2 : Value) (ha1 : RP [] w0 e32 va1 a1) (ha2 : RP [] w0 e32 va2 a2) (r : List UInt32)
  (h : F.ref11_over a0 a1 a2 = some r) : Calls Tryz.prog 88 #[vI a0, va1, va2] w0 (Ret fun v w => St [] w0 w [own e32 v r]) := by
 refine ky 20 Tryz.func88 rfl rfl rfl ?_
 have hS := St.start w0
 refine km [(0, vI a0), (1, va1), (2, va2)] ⟨rfl, rfl, rfl, trivial⟩ ?_
 unfold F.ref11_over at h
 refine kd (kc (kb 1 rfl ?_))
 refine ke (ka (kd (kc (kb 2 rfl ?_))))
 obtain ⟨x_1, hx_1, h⟩ := kf h
 refine kj (by kernel_rfl) rfl (c_ref11_Field _ a0    _ hx_1) rfl ?_
 rintro v_2 w hS1
 have hS := hS.call hS1
 obtain ⟨x_4, hx_4, h⟩ := kf h
 refine kj (by kernel_rfl) rfl (c_ref7_Inv _ a2 x_1 va2 v_2  (ha2.now hS.fr).rp (hS.ro 0 rfl).rp _ hx_4) rfl ?_
 rintro _ w ⟨v_5, rfl, hS1⟩
 have hS := hS.call hS1
 refine kb 5 rfl ?_
 refine ke (ka (kd (kc (kb 3 rfl ?_))))
 obtain ⟨x_7, hx_7, h⟩ := kf h
 refine kj (by kernel_rfl) rfl (c_ref11_mul _ a0 a1 x_4.1 va1 v_5  (ha1.now hS.fr).rp (hS.ro 0 rfl).rp _ hx_7) rfl ?_
 rintro v_8 w hS1
 have hS := hS.call hS1
 refine kb 1 rfl ?_
 refine ke (ka (ko ?_))
 cases h
 exact kx rfl rfl (hS.pick [0] (by decide) rfl)
theorem c_ref11_Sum (w0 : World) (a0 : Int) (a1_0 : List UInt32) (a1_1 : List UInt32) (a1_2 : Bool) (a2_0 : List UInt32) (a2_1 : List UInt32) (a2_2 : Bool) (va1_0 : Value) (va1_1 : Value) (va2_0 : Value) (va2_1 : Value) (T : List Nat) (hTT : TOk [] T w0) (ha1_0 : RP T w0 e32 va1_0 a1_0) (ha1_1 : RP T w0 e32 va1_1 a1_1) (ha2_0 : RP T w0 e32 va2_0 a2_0) (ha2_1 : RP T w0 e32 va2_1 a2_1) (r : List UInt32 × List UInt32 × Bool)
  (h : F.ref11_Sum a0 a1_0 a1_1 a1_2 a2_0 a2_1 a2_2 = some r) : Calls Tryz.prog 52 #[vI a0, .agg #[va1_0, va1_1, vB a1_2], .agg #[va2_0, va2_1, vB a2_2]] w0 (Ret fun v w => ∃ u0_0 : Value, ∃ u0_1 : Value, v = .agg #[u0_0, u0_1, vB r.2.2] ∧ St [] w0 w [] ∧ Rds T w [red e32 u0_1 r.2.1, red e32 u0_0 r.1]) := by
 refine ky 91 Tryz.func52 rfl rfl rfl ?_
 have hS := St.start w0
 have hZ := Fz.start (S := []) (w0 := w0)
 have hA0 : Rds T w0 [red e32 va2_1 a2_1, red e32 va2_0 a2_0, red e32 va1_1 a1_1, red e32 va1_0 a1_0] := Rds.cons (RP.kept (Nat.le_of_ble_eq_true rfl) ha2_1) (Rds.cons (RP.kept (Nat.le_of_ble_eq_true rfl) ha2_0) (Rds.cons (RP.kept (Nat.le_of_ble_eq_true rfl) ha1_1) (Rds.cons (RP.kept (Nat.le_of_ble_eq_true rfl) ha1_0) (Rds.nil))))
 have hA := hA0.all
 have hP := hA0.off rfl
 refine km [(0, vI a0), (1, .agg #[va1_0, va1_1, vB a1_2]), (2, .agg #[va2_0, va2_1, vB a2_2])] ⟨rfl, rfl, rfl, trivial⟩ ?_
 unfold F.ref11_Sum at h
 refine kd (kc (kV (OpX_box (cs := [va1_0, va1_1, vB a1_2]) rfl rfl hS) rfl ?_))
 rintro _ w ⟨b_1, rfl, hS⟩
 refine kV (OpX_box (cs := [va2_0, va2_1, vB a2_2]) rfl rfl hS) rfl ?_
 rintro _ w ⟨b_3, rfl, hS⟩
 refine kV (kD (cs := [.slice none 0 0, .slice none 0 0, vB false]) tz27 rfl hS) rfl ?_
 rintro _ w ⟨b_5, rfl, hS⟩
 refine ke (ka (kd (kd (kc (kh (kk (k := 2) Tryz.underlying27 rfl rfl nz4 rfl) rfl (kh (kt Tryz.underlying4 rfl rfl (hS.bxc 2 rfl 2)) rfl (ke (ka ?_))))))))
 refine kn rfl (fun hb_74 => ?_) (fun hb_74 => ?_)
 ·have h := if_t h hb_74
  refine kd (kc (kh (kG (us := [va2_0, va2_1, vB a2_2]) Tryz.underlying27 rfl sz27 rfl (hS.bxs 1 rfl rfl)) rfl (kW (kL (i := 0) (us := [va2_0, va2_1, vB a2_2]) rfl sz27 rfl rfl rfl ⟨((hA.rp 2 rfl).now hS.fr).one, ((hA.rp 3 rfl).now hS.fr).one, rfl, trivial⟩ rfl hS) ?_)))
  intro w hS
  refine ke (ka (ko (ku ?_)))
  cases h
  obtain ⟨hS0, hR⟩ := hZ.outT hTT hA hP hS
  exact QE_rv1 rfl ⟨_, rfl, run_ldAgg (us := [va2_0, va2_1, vB a2_2]) Tryz.underlying27 rfl sz27 (hS.bxs 0 rfl rfl)⟩ ⟨va2_0, va2_1, rfl, hS0, (Rds.cons (hR.nth 3 rfl) (Rds.cons (hR.nth 2 rfl) Rds.nil))⟩
 have h := if_f h hb_74
 refine kq (ka (kd (kd (kc (kh (kk (k := 2) Tryz.underlying27 rfl rfl nz4 rfl) rfl (kh (kt Tryz.underlying4 rfl rfl (hS.bxc 1 rfl 2)) rfl (ke (ka ?_))))))))
 refine kn rfl (fun hb_73 => ?_) (fun hb_73 => ?_)
 ·have h := if_t h hb_73
  refine kd (kc (kh (kG (us := [va1_0, va1_1, vB a1_2]) Tryz.underlying27 rfl sz27 rfl (hS.bxs 2 rfl rfl)) rfl (kW (kL (i := 0) (us := [va1_0, va1_1, vB a1_2]) rfl sz27 rfl rfl rfl ⟨((hA.rp 0 rfl).now hS.fr).one, ((hA.rp 1 rfl).now hS.fr).one, rfl, trivial⟩ rfl hS) ?_)))
  intro w hS
  refine ke (ka (ko (ku ?_)))
  cases h
  obtain ⟨hS0, hR⟩ := hZ.outT hTT hA hP hS
  exact QE_rv1 rfl ⟨_, rfl, run_ldAgg (us := [va1_0, va1_1, vB a1_2]) Tryz.underlying27 rfl sz27 (hS.bxs 0 rfl rfl)⟩ ⟨va1_0, va1_1, rfl, hS0, (Rds.cons (hR.nth 1 rfl) (Rds.cons (hR.nth 0 rfl) Rds.nil))⟩
 have h := if_f h hb_73
 refine kq (ka (kd (kc (kb 1 rfl ?_))))
 refine ke (ka ?_)
 refine kN (r := r) (fun (g : List UInt32) L w => ∃ (v_53 : Value), L = [(0, vI a0), (4, pB b_1 0), (5, pB b_3 0), (6, pB b_5 0), (7, v_53)] ∧ SfT [] T w0 w [red e32 va2_1 a2_1, red e32 va2_0 a2_0, red e32 va1_1 a1_1, red e32 va1_0 a1_0, red e32 v_53 g] [OE.bx b_1 [va1_0, va1_1, vB a1_2], OE.bx b_3 [va2_0, va2_1, vB a2_2], OE.bx b_5 [.slice none 0 0, .slice none 0 0, vB false]]) (F.ref11_Sum_K1 a0 a1_0 a1_1 a2_0) ?_ ?_
 rotate_left
 ·intro hK_54
  refine kd (kc (kh (kk (k := 0) Tryz.underlying27 rfl rfl nz25 rfl) rfl (kh (kt Tryz.underlying25 rfl rfl (hS.bxc 2 rfl 0)) rfl (kh (kk (k := 0) Tryz.underlying27 rfl rfl nz25 rfl) rfl (kh (kt Tryz.underlying25 rfl rfl (hS.bxc 1 rfl 0)) rfl ?_)))))
  obtain ⟨x_7, hx_7, h⟩ := kf h
  refine kj (by kernel_rfl) rfl (c_ref6_Cmp _ a1_0 a2_0 va1_0 va2_0  ((hA.rp 0 rfl).now hS.fr).rp ((hA.rp 2 rfl).now hS.fr).rp _ hx_7) rfl ?_
  rintro _ w ⟨rfl, hS1⟩
  have hS := hS.call hS1
  refine kb 1 rfl ?_
  refine ke (ka ?_)
  refine kn rfl (fun hb_49 => ?_) (fun hb_49 => ?_)
  ·have h := if_t h hb_49
   refine kd (kd (kc (kb 1 rfl ?_)))
   refine kh (kk (k := 1) Tryz.underlying27 rfl rfl nz25 rfl) rfl (kh (kt Tryz.underlying25 rfl rfl (hS.bxc 2 rfl 1)) rfl (kh (kk (k := 1) Tryz.underlying27 rfl rfl nz25 rfl) rfl (kh (kt Tryz.underlying25 rfl rfl (hS.bxc 1 rfl 1)) rfl ?_)))
   obtain ⟨x_8, hx_8, h⟩ := kf h
   refine kj (by kernel_rfl) rfl (c_ref11_add _ a0 a1_1 a2_1 va1_1 va2_1  ((hA.rp 1 rfl).now hS.fr).rp ((hA.rp 3 rfl).now hS.fr).rp _ hx_8) rfl ?_
   rintro v_9 w hS1
   have hS := hS.call hS1
   obtain ⟨x_11, hx_11, h⟩ := kf h
   refine kj (by kernel_rfl) rfl (c_ref6_Cmp _ x_8 [] v_9 (.slice none 0 0)  (hS.ro 0 rfl).rp (RO.nil _ e32).rp _ hx_11) rfl ?_
   rintro _ w ⟨rfl, hS1⟩
   have hS := hS.call hS1
   refine kb 1 rfl ?_
   refine ke (ka ?_)
   refine kn rfl (fun hb_37 => ?_) (fun hb_37 => ?_)
   ·have h := if_t h hb_37
    refine kd (kc (kh (OpV_build (vs := [(2, vB true, [vB true])]) (cells := [.slice none 0 0, .slice none 0 0, vB true]) rfl lay27 ⟨rfl, trivial⟩ rfl) rfl (kW (kL (i := 1) (us := [.slice none 0 0, .slice none 0 0, vB true]) rfl sz27 rfl rfl rfl ⟨rfl, rfl, rfl, trivial⟩ rfl hS) ?_)))
    intro w hS
    refine ke (ka (ko (ku (ku ?_))))
    cases h
    obtain ⟨hS0, hR⟩ := hZ.outT hTT hA hP hS
    exact QE_rv1 rfl ⟨_, rfl, run_ldAgg (us := [.slice none 0 0, .slice none 0 0, vB true]) Tryz.underlying27 rfl sz27 (hS.bxs 1 rfl rfl)⟩ ⟨.slice none 0 0, .slice none 0 0, rfl, hS0, (Rds.cons OE.kept.nil (Rds.cons OE.kept.nil Rds.nil))⟩
   have h := if_f h hb_37
   refine kq (ka ?_)
   obtain ⟨x_14, hx_14, h⟩ := kf h
   obtain ⟨x_17, hx_17, h⟩ := kf h
   obtain ⟨x_22, hx_22, h⟩ := kf h
   obtain ⟨x_27, hx_27, h⟩ := kf h
   obtain ⟨x_30, hx_30, h⟩ := kf h
   refine wpC_regionM (es := [red e32 va2_1 a2_1, red e32 va2_0 a2_0, red e32 va1_1 a1_1, red e32 va1_0 a1_0]) (os := [own e32 v_9 x_8, OE.bx b_5 [.slice none 0 0, .slice none 0 0, vB false], OE.bx b_3 [va2_0, va2_1, vB a2_2], OE.bx b_1 [va1_0, va1_1, vB a1_2]]) (fun i => [3, 9, 10, 11, 12, 14, 17, 18].contains i) (fun i => if i = 3 then some 10 else if i = 9 then some 10 else if i = 10 then some 12 else if i = 11 then some 12 else if i = 12 then some 18 else if i = 14 then some 17 else if i = 17 then some 18 else none) (fun i => []) (fun i => []) (fun i => []) (fun i => if i = 3 then (fun h v x y => ∃ v_12 : Value, v = v_12 ∧ x = [own e32 v_12 ([3] : List UInt32)] ∧ y = []) else if i = 9 then (fun h v x y => ∃ v_15 : Value, v = v_15 ∧ x = [own e32 v_15 x_14] ∧ y = []) else if i = 10 then (fun h v x y => ∃ v_18 : Value, v = v_18 ∧ x = [own e32 v_18 x_17] ∧ y = []) else if i = 11 then (fun h v x y => ∃ v_20 : Value, v = v_20 ∧ x = [own e32 v_20 ([3] : List UInt32)] ∧ y = []) else if i = 12 then (fun h v x y => ∃ v_23 : Value, v = v_23 ∧ x = [own e32 v_23 x_22] ∧ y = []) else if i = 14 then (fun h v x y => ∃ v_25 : Value, v = v_25 ∧ x = [own e32 v_25 ([2] : List UInt32)] ∧ y = []) else if i = 17 then (fun h v x y => ∃ v_28 : Value, v = v_28 ∧ x = [own e32 v_28 x_27] ∧ y = []) else (fun h v x y => ∃ v_31 : Value, v = v_31 ∧ x = [own e32 v_31 x_30] ∧ y = [])) (SfT.mk' hZ hA hP hS) (fun k hk => rfl) hTT rfl (fun i => (ite_ns (by rintro h v x y ⟨_, rfl, rfl, rfl⟩; exact ns_all rfl) (ite_ns (by rintro h v x y ⟨_, rfl, rfl, rfl⟩; exact ns_all rfl) (ite_ns (by rintro h v x y ⟨_, rfl, rfl, rfl⟩; exact ns_all rfl) (ite_ns (by rintro h v x y ⟨_, rfl, rfl, rfl⟩; exact ns_all rfl) (ite_ns (by rintro h v x y ⟨_, rfl, rfl, rfl⟩; exact ns_all rfl) (ite_ns (by rintro h v x y ⟨_, rfl, rfl, rfl⟩; exact ns_all rfl) (ite_ns (by rintro h v x y ⟨_, rfl, rfl, rfl⟩; exact ns_all rfl) (by rintro h v x y ⟨_, rfl, rfl, rfl⟩; exact ns_all rfl))))))))) hmix (by kernel_rfl) (by kernel_rfl) ?_
   show lxME _ _ _ _ _ _ _ _ _ _ _ _ _ _ _ [0, 1, 2, 3, 4, 5, 6, 7, 8, 9, 10, 11, 12, 13, 14, 15, 16, 17, 18, 19] _ _
   refine lxME_v rfl rfl (fun w Sb wb hZ hA hP hF => kl rfl) rfl (lxME_v rfl rfl (fun w Sb wb hZ hA hP hF => kl rfl) rfl (lxME_v rfl rfl (fun w Sb wb hZ hA hP hF => kl rfl) rfl ?_))
   refine lxME_new (fun h v x y => ∃ v_12 : Value, v = v_12 ∧ x = [own e32 v_12 ([3] : List UInt32)] ∧ y = []) [] [] [] rfl rfl (fun h v x y => rfl) rfl rfl rfl ⟨_, _, _, undef, rfl, rfl, rfl⟩ (fun w Sl Tl hZ hTT hA hP hS => ?_) rfl ?_
   ·refine opx_imp (OpX_lit (e := e32) (l := ([3] : List UInt32)) (vs := [v32 3]) Tryz.underlying25 ti52 rfl rfl rfl rfl (by decide) (by decide) hS) ?_
    rintro v_12 w hS
    exact ⟨_, _, ⟨v_12, rfl, rfl, rfl⟩, SfT.mk' hZ Rds.nil Off.nil hS⟩
   rintro v_12 x_q y_q ⟨_, rfl, rfl, rfl⟩
   refine lxME_v rfl rfl (fun w Sb wb hZ hA hP hF => kl rfl) rfl (lxME_v rfl rfl (fun w Sb wb hZ hA hP hF => kk (k := 0) Tryz.underlying27 rfl rfl nz25 rfl) rfl (lxME_v rfl rfl (fun w Sb wb hZ hA hP hF => kt Tryz.underlying25 rfl rfl (hF.bxc 3 rfl 0)) rfl (lxME_v rfl rfl (fun w Sb wb hZ hA hP hF => kk (k := 0) Tryz.underlying27 rfl rfl nz25 rfl) rfl (lxME_v rfl rfl (fun w Sb wb hZ hA hP hF => kt Tryz.underlying25 rfl rfl (hF.bxc 3 rfl 0)) rfl ?_))))
   refine lxME_call (fun h v x y => ∃ v_15 : Value, v = v_15 ∧ x = [own e32 v_15 x_14] ∧ y = []) [] [] [] rfl rfl (fun h v x y => rfl) rfl rfl rfl ⟨_, _, _, undef, rfl, rfl, rfl⟩ (by kernel_rfl) rfl (fun w Sl Tl hZ hTT hA hP hS => ?_) rfl ?_
   ·refine calls_ret (c_ref11_mul _ a0 a1_0 a1_0 va1_0 va1_0  ((hA.rp 0 rfl).now hS.fr).rp ((hA.rp 0 rfl).now hS.fr).rp _ hx_14) ?_
    rintro v_15 w hS1
    have hS := hS.call hS1
    exact ⟨_, _, ⟨v_15, rfl, rfl, rfl⟩, SfT.mk' hZ Rds.nil Off.nil hS⟩
   rintro v_15 x_q y_q ⟨_, rfl, rfl, rfl⟩
   refine lxME_call (fun h v x y => ∃ v_18 : Value, v = v_18 ∧ x = [own e32 v_18 x_17] ∧ y = []) [] [own e32 v_12 ([3] : List UInt32), own e32 v_15 x_14] [] rfl rfl (fun h v x y => rfl) rfl rfl rfl ⟨_, _, _, undef, rfl, rfl, rfl⟩ (by kernel_rfl) rfl (fun w Sl Tl hZ hTT hA hP hS => ?_) rfl ?_
   ·refine calls_ret (c_ref11_mul _ a0 ([3] : List UInt32) x_14 v_12 v_15  (hS.ro 0 rfl).rp (hS.ro 1 rfl).rp _ hx_17) ?_
    rintro v_18 w hS1
    have hS := hS.call hS1
    exact ⟨_, _, ⟨v_18, rfl, rfl, rfl⟩, SfT.mk' hZ Rds.nil Off.nil (hS.pick [0, 3, 4, 5, 6] (by decide) rfl)⟩
   rintro v_18 x_q y_q ⟨_, rfl, rfl, rfl⟩
   refine lxME_new (fun h v x y => ∃ v_20 : Value, v = v_20 ∧ x = [own e32 v_20 ([3] : List UInt32)] ∧ y = []) [] [] [] rfl rfl (fun h v x y => rfl) rfl rfl rfl ⟨_, _, _, undef, rfl, rfl, rfl⟩ (fun w Sl Tl hZ hTT hA hP hS => ?_) rfl ?_
   ·refine opx_imp (OpX_lit (e := e32) (l := ([3] : List UInt32)) (vs := [v32 3]) Tryz.underlying25 ti52 rfl rfl rfl rfl (by decide) (by decide) hS) ?_
    rintro v_20 w hS
    exact ⟨_, _, ⟨v_20, rfl, rfl, rfl⟩, SfT.mk' hZ Rds.nil Off.nil hS⟩
   rintro v_20 x_q y_q ⟨_, rfl, rfl, rfl⟩
   refine lxME_call (fun h v x y => ∃ v_23 : Value, v = v_23 ∧ x = [own e32 v_23 x_22] ∧ y = []) [] [own e32 v_18 x_17, own e32 v_20 ([3] : List UInt32)] [] rfl rfl (fun h v x y => rfl) rfl rfl rfl ⟨_, _, _, undef, rfl, rfl, rfl⟩ (by kernel_rfl) rfl (fun w Sl Tl hZ hTT hA hP hS => ?_) rfl ?_
   ·refine calls_ret (c_ref11_sub _ a0 x_17 ([3] : List UInt32) v_18 v_20  (hS.ro 0 rfl).rp (hS.ro 1 rfl).rp _ hx_22) ?_
    rintro v_23 w hS1
    have hS := hS.call hS1
    exact ⟨_, _, ⟨v_23, rfl, rfl, rfl⟩, SfT.mk' hZ Rds.nil Off.nil (hS.pick [0, 3, 4, 5, 6] (by decide) rfl)⟩
   rintro v_23 x_q y_q ⟨_, rfl, rfl, rfl⟩
   refine lxME_v rfl rfl (fun w Sb wb hZ hA hP hF => kl rfl) rfl ?_
   refine lxME_new (fun h v x y => ∃ v_25 : Value, v = v_25 ∧ x = [own e32 v_25 ([2] : List UInt32)] ∧ y = []) [] [] [] rfl rfl (fun h v x y => rfl) rfl rfl rfl ⟨_, _, _, undef, rfl, rfl, rfl⟩ (fun w Sl Tl hZ hTT hA hP hS => ?_) rfl ?_
   ·refine opx_imp (OpX_lit (e := e32) (l := ([2] : List UInt32)) (vs := [v32 2]) Tryz.underlying25 ti52 rfl rfl rfl rfl (by decide) (by decide) hS) ?_
    rintro v_25 w hS
    exact ⟨_, _, ⟨v_25, rfl, rfl, rfl⟩, SfT.mk' hZ Rds.nil Off.nil hS⟩
   rintro v_25 x_q y_q ⟨_, rfl, rfl, rfl⟩
   refine lxME_v rfl rfl (fun w Sb wb hZ hA hP hF => kk (k := 1) Tryz.underlying27 rfl rfl nz25 rfl) rfl (lxME_v rfl rfl (fun w Sb wb hZ hA hP hF => kt Tryz.underlying25 rfl rfl (hF.bxc 3 rfl 1)) rfl ?_)
   refine lxME_call (fun h v x y => ∃ v_28 : Value, v = v_28 ∧ x = [own e32 v_28 x_27] ∧ y = []) [] [own e32 v_25 ([2] : List UInt32)] [] rfl rfl (fun h v x y => rfl) rfl rfl rfl ⟨_, _, _, undef, rfl, rfl, rfl⟩ (by kernel_rfl) rfl (fun w Sl Tl hZ hTT hA hP hS => ?_) rfl ?_
   ·refine calls_ret (c_ref11_mul _ a0 ([2] : List UInt32) a1_1 v_25 va1_1  (hS.ro 0 rfl).rp ((hA.rp 1 rfl).now hS.fr).rp _ hx_27) ?_
    rintro v_28 w hS1
    have hS := hS.call hS1
    exact ⟨_, _, ⟨v_28, rfl, rfl, rfl⟩, SfT.mk' hZ Rds.nil Off.nil (hS.pick [0, 2, 3, 4, 5] (by decide) rfl)⟩
   rintro v_28 x_q y_q ⟨_, rfl, rfl, rfl⟩
   refine lxME_call (fun h v x y => ∃ v_31 : Value, v = v_31 ∧ x = [own e32 v_31 x_30] ∧ y = []) [] [own e32 v_23 x_22, own e32 v_28 x_27] [] rfl rfl (fun h v x y => rfl) rfl rfl rfl ⟨_, _, _, undef, rfl, rfl, rfl⟩ (by kernel_rfl) rfl (fun w Sl Tl hZ hTT hA hP hS => ?_) rfl ?_
   ·refine calls_ret (c_ref11_over _ a0 x_22 x_27 v_23 v_28  (hS.ro 0 rfl).rp (hS.ro 1 rfl).rp _ hx_30) ?_
    rintro v_31 w hS1
    have hS := hS.call hS1
    exact ⟨_, _, ⟨v_31, rfl, rfl, rfl⟩, SfT.mk' hZ Rds.nil Off.nil (hS.pick [0, 3, 4, 5, 6] (by decide) rfl)⟩
   rintro v_31 x_q y_q ⟨_, rfl, rfl, rfl⟩
   refine lxME_v rfl rfl (fun w Sb wb hZ hA hP hF => kz rfl) rfl (lxME_nil fun w hQ => ?_)
   obtain ⟨S_33, wb_34, hZ, hA, hP, hS⟩ := hQ
   refine ka ?_
   replace hS := hS.pick (os' := [own e32 v_31 x_30, own e32 v_9 x_8] ++ [OE.bx b_5 [.slice none 0 0, .slice none 0 0, vB false], OE.bx b_3 [va2_0, va2_1, vB a2_2], OE.bx b_1 [va1_0, va1_1, vB a1_2]]) [0, 1, 2, 3, 4] (by decide) rfl
   obtain ⟨S_35, wb_36, hZ, hA, hP, hS⟩ := hZ.frzT hTT hA hP hS
   exact km _ (by exact ⟨rfl, rfl, rfl, rfl, rfl, trivial⟩) (hK_54 x_30 _ _ ⟨v_31, rfl, (SfT.mk' hZ (Rds.cons (hA.nth 3 rfl) (Rds.cons (hA.nth 2 rfl) (Rds.cons (hA.nth 1 rfl) (Rds.cons (hA.nth 0 rfl) (Rds.cons (hA.nth 5 rfl) Rds.nil))))) (Off.cons (hP.nth 3 rfl) (Off.cons (hP.nth 2 rfl) (Off.cons (hP.nth 1 rfl) (Off.cons (hP.nth 0 rfl) (Off.cons (hP.nth 5 rfl) Off.nil))))) (hS.pick [2, 1, 0] (by decide) rfl))⟩ h)
  have h := if_f h hb_49
  refine kM (fun w' => St [] w0 w' [OE.bx b_5 [.slice none 0 0, .slice none 0 0, vB false], OE.bx b_3 [va2_0, va2_1, vB a2_2], OE.bx b_1 [va1_0, va1_1, vB a1_2]]) (fun i => !([6, 12, 13].contains i)) hmix (fun _ _ _ hf => hf.2) (fun _ _ hf => hf) (by kernel_rfl) ?_
  have hS := hS.drew
  show lxE _ _ _ _ _ _ _ [0, 1, 2, 3, 4, 5, 6, 7, 8, 9, 10, 11, 12, 13, 14] _ _
  refine ki hS rfl rfl (fun w hF => kl rfl) rfl (ki hS rfl rfl (fun w hF => kl rfl) rfl (ki hS rfl rfl (fun w hF => kk (k := 1) Tryz.underlying27 rfl rfl nz25 rfl) rfl (ki hS rfl rfl (fun w hF => kt Tryz.underlying25 rfl rfl (hF.bxc 1 rfl 1)) rfl (ki hS rfl rfl (fun w hF => kk (k := 1) Tryz.underlying27 rfl rfl nz25 rfl) rfl (ki hS rfl rfl (fun w hF => kt Tryz.underlying25 rfl rfl (hF.bxc 2 rfl 1)) rfl ?_)))))
  obtain ⟨x_38, hx_38, h⟩ := kf h
  refine kO hS rfl rfl (by kernel_rfl) rfl (c_ref11_sub _ a0 a2_1 a1_1 va2_1 va1_1  ((hA.rp 3 rfl).now hS.fr).rp ((hA.rp 1 rfl).now hS.fr).rp _ hx_38) rfl ?_
  rintro v_39 w hS1
  have hS := hS.call hS1
  refine ki (hS.pick [1, 2, 3] (by decide) rfl) rfl rfl (fun w hF => kl rfl) rfl ?_
  refine ki (hS.pick [1, 2, 3] (by decide) rfl) rfl rfl (fun w hF => kk (k := 0) Tryz.underlying27 rfl rfl nz25 rfl) rfl ?_
  refine ki (hS.pick [1, 2, 3] (by decide) rfl) rfl rfl (fun w hF => kt Tryz.underlying25 rfl rfl (hF.bxc 1 rfl 0)) rfl ?_
  refine ki (hS.pick [1, 2, 3] (by decide) rfl) rfl rfl (fun w hF => kk (k := 0) Tryz.underlying27 rfl rfl nz25 rfl) rfl ?_
  refine ki (hS.pick [1, 2, 3] (by decide) rfl) rfl rfl (fun w hF => kt Tryz.underlying25 rfl rfl (hF.bxc 2 rfl 0)) rfl ?_
  obtain ⟨x_41, hx_41, h⟩ := kf h
  refine kO (hS.pick [1, 2, 3] (by decide) rfl) rfl rfl (by kernel_rfl) rfl (c_ref11_sub _ a0 a2_0 a1_0 va2_0 va1_0  ((hA.rp 2 rfl).now hS.fr).rp ((hA.rp 0 rfl).now hS.fr).rp _ hx_41) rfl ?_
  rintro v_42 w hS1
  have hS := hS.call hS1
  obtain ⟨x_44, hx_44, h⟩ := kf h
  refine kO (hS.pick [2, 3, 4] (by decide) rfl) rfl rfl (by kernel_rfl) rfl (c_ref11_over _ a0 x_38 x_41 v_39 v_42  (hS.ro 1 rfl).rp (hS.ro 0 rfl).rp _ hx_44) rfl ?_
  rintro v_45 w hS1
  have hS := hS.call hS1
  refine ki (hS.pick [3, 4, 5] (by decide) rfl) rfl rfl (fun w hF => kz rfl) rfl ?_
  refine kX (hS.pick [3, 4, 5] (by decide) rfl) ?_
  refine ka ?_
  replace hS := hS.pick (os' := [own e32 v_45 x_44, own e32 v_42 x_41, own e32 v_39 x_38] ++ [OE.bx b_5 [.slice none 0 0, .slice none 0 0, vB false], OE.bx b_3 [va2_0, va2_1, vB a2_2], OE.bx b_1 [va1_0, va1_1, vB a1_2]]) [0, 1, 2, 3, 4, 5] (by decide) rfl
  obtain ⟨S_47, wb_48, hZ, hA, hP, hS⟩ := hZ.frzT hTT hA hP hS
  exact km _ (by exact ⟨rfl, rfl, rfl, rfl, rfl, trivial⟩) (hK_54 x_44 _ _ ⟨v_45, rfl, (SfT.mk' hZ (Rds.cons (hA.nth 3 rfl) (Rds.cons (hA.nth 2 rfl) (Rds.cons (hA.nth 1 rfl) (Rds.cons (hA.nth 0 rfl) (Rds.cons (hA.nth 6 rfl) Rds.nil))))) (Off.cons (hP.nth 3 rfl) (Off.cons (hP.nth 2 rfl) (Off.cons (hP.nth 1 rfl) (Off.cons (hP.nth 0 rfl) (Off.cons (hP.nth 6 rfl) Off.nil))))) (hS.pick [2, 1, 0] (by decide) rfl))⟩ h)
 rintro x_52 L w hJ h
 try dsimp only at hJ
 obtain ⟨v_53, rfl, ⟨S_50, wb_51, hZ, hA, hP, hS⟩⟩ := hJ
 unfold F.ref11_Sum_K1 at h
 refine kd ?_
 refine kM (fun w' => St S_50 wb_51 w' [OE.bx b_1 [va1_0, va1_1, vB a1_2], OE.bx b_3 [va2_0, va2_1, vB a2_2], OE.bx b_5 [.slice none 0 0, .slice none 0 0, vB false]]) (fun i => !([5, 8, 11].contains i)) hmix (fun _ _ _ hf => hf.2) (fun _ _ hf => hf) (by kernel_rfl) ?_
 have hS := hS.drew
 show lxE _ _ _ _ _ _ _ [0, 1, 2, 3, 4, 5, 6, 7, 8, 9, 10, 11, 12] _ _
 refine ki hS rfl rfl (fun w hF => kl rfl) rfl (ki hS rfl rfl (fun w hF => kl rfl) rfl (ki hS rfl rfl (fun w hF => kl rfl) rfl (ki hS rfl rfl (fun w hF => kl rfl) rfl (ki hS rfl rfl (fun w hF => kl rfl) rfl ?_))))
 obtain ⟨x_55, hx_55, h⟩ := kf h
 refine kO hS rfl rfl (by kernel_rfl) rfl (c_ref11_mul _ a0 x_52 x_52 v_53 v_53  ((hA.rp 0 rfl).now hS.fr).rp ((hA.rp 0 rfl).now hS.fr).rp _ hx_55) rfl ?_
 rintro v_56 w hS1
 have hS := hS.call hS1
 refine ki (hS.pick [1, 2, 3] (by decide) rfl) rfl rfl (fun w hF => kk (k := 0) Tryz.underlying27 rfl rfl nz25 rfl) rfl ?_
 refine ki (hS.pick [1, 2, 3] (by decide) rfl) rfl rfl (fun w hF => kt Tryz.underlying25 rfl rfl (hF.bxc 0 rfl 0)) rfl ?_
 obtain ⟨x_58, hx_58, h⟩ := kf h
 refine kO (hS.pick [1, 2, 3] (by decide) rfl) rfl rfl (by kernel_rfl) rfl (c_ref11_sub _ a0 x_55 a1_0 v_56 va1_0  (hS.ro 0 rfl).rp ((hA.rp 1 rfl).now hS.fr).rp _ hx_58) rfl ?_
 rintro v_59 w hS1
 have hS := hS.call hS1
 refine ki (hS.pick [2, 3, 4] (by decide) rfl) rfl rfl (fun w hF => kk (k := 0) Tryz.underlying27 rfl rfl nz25 rfl) rfl ?_
 refine ki (hS.pick [2, 3, 4] (by decide) rfl) rfl rfl (fun w hF => kt Tryz.underlying25 rfl rfl (hF.bxc 1 rfl 0)) rfl ?_
 obtain ⟨x_61, hx_61, h⟩ := kf h
 refine kO (hS.pick [2, 3, 4] (by decide) rfl) rfl rfl (by kernel_rfl) rfl (c_ref11_sub _ a0 x_58 a2_0 v_59 va2_0  (hS.ro 0 rfl).rp ((hA.rp 3 rfl).now hS.fr).rp _ hx_61) rfl ?_
 rintro v_62 w hS1
 have hS := hS.call hS1
 refine ki (hS.pick [3, 4, 5] (by decide) rfl) rfl rfl (fun w hF => kz rfl) rfl ?_
 refine kX (hS.pick [3, 4, 5] (by decide) rfl) ?_
 refine ka (kd ?_)
 refine kM (fun w' => St S_50 wb_51 w' [own e32 v_62 x_61, own e32 v_59 x_58, own e32 v_56 x_55, OE.bx b_1 [va1_0, va1_1, vB a1_2], OE.bx b_3 [va2_0, va2_1, vB a2_2], OE.bx b_5 [.slice none 0 0, .slice none 0 0, vB false]]) (fun i => !([7, 8, 11].contains i)) hmix (fun _ _ _ hf => hf.2) (fun _ _ hf => hf) (by kernel_rfl) ?_
 have hS := hS.drew
 show lxE _ _ _ _ _ _ _ [0, 1, 2, 3, 4, 5, 6, 7, 8, 9, 10, 11, 12] _ _
 refine ki hS rfl rfl (fun w hF => kl rfl) rfl (ki hS rfl rfl (fun w hF => kl rfl) rfl (ki hS rfl rfl (fun w hF => kl rfl) rfl (ki hS rfl rfl (fun w hF => kl rfl) rfl (ki hS rfl rfl (fun w hF => kk (k := 0) Tryz.underlying27 rfl rfl nz25 rfl) rfl (ki hS rfl rfl (fun w hF => kt Tryz.underlying25 rfl rfl (hF.bxc 3 rfl 0)) rfl (ki hS rfl rfl (fun w hF => kl rfl) rfl ?_))))))
 obtain ⟨x_64, hx_64, h⟩ := kf h
 refine kO hS rfl rfl (by kernel_rfl) rfl (c_ref11_sub _ a0 a1_0 x_61 va1_0 v_62  ((hA.rp 1 rfl).now hS.fr).rp (hS.ro 0 rfl).rp _ hx_64) rfl ?_
 rintro v_65 w hS1
 have hS := hS.call hS1
 obtain ⟨x_67, hx_67, h⟩ := kf h
 refine kO (hS.pick [1, 2, 3, 4, 5, 6] (by decide) rfl) rfl rfl (by kernel_rfl) rfl (c_ref11_mul _ a0 x_52 x_64 v_53 v_65  ((hA.rp 0 rfl).now hS.fr).rp (hS.ro 0 rfl).rp _ hx_67) rfl ?_
 rintro v_68 w hS1
 have hS := hS.call hS1
 refine ki (hS.pick [2, 3, 4, 5, 6, 7] (by decide) rfl) rfl rfl (fun w hF => kk (k := 1) Tryz.underlying27 rfl rfl nz25 rfl) rfl ?_
 refine ki (hS.pick [2, 3, 4, 5, 6, 7] (by decide) rfl) rfl rfl (fun w hF => kt Tryz.underlying25 rfl rfl (hF.bxc 3 rfl 1)) rfl ?_
 obtain ⟨x_70, hx_70, h⟩ := kf h
 refine kO (hS.pick [2, 3, 4, 5, 6, 7] (by decide) rfl) rfl rfl (by kernel_rfl) rfl (c_ref11_sub _ a0 x_67 a1_1 v_68 va1_1  (hS.ro 0 rfl).rp ((hA.rp 2 rfl).now hS.fr).rp _ hx_70) rfl ?_
 rintro v_71 w hS1
 have hS := hS.call hS1
 refine ki (hS.pick [3, 4, 5, 6, 7, 8] (by decide) rfl) rfl rfl (fun w hF => kz rfl) rfl ?_
 refine kX (hS.pick [3, 4, 5, 6, 7, 8] (by decide) rfl) ?_
 refine ka (kd (kc (kb 2 rfl ?_)))
 refine kh (OpV_build (vs := [(0, v_62, [v_62]), (1, v_71, [v_71])]) (cells := [v_62, v_71, vB false]) rfl lay27 ⟨(cells_one (hS.ro 3 rfl).one), (cells_one (hS.ro 0 rfl).one), trivial⟩ rfl) rfl ?_
 refine kW (kL (i := 8) (us := [v_62, v_71, vB false]) rfl sz27 rfl rfl rfl ⟨(hS.ro 3 rfl).one, (hS.ro 0 rfl).one, rfl, trivial⟩ rfl hS) ?_
 intro w hS
 refine ke (ka (ko ?_))
 cases h
 obtain ⟨hS0, hR⟩ := hZ.outT hTT hA hP hS
 exact QE_rv1 rfl ⟨_, rfl, run_ldAgg (us := [v_62, v_71, vB false]) Tryz.underlying27 rfl sz27 (hS.bxs 8 rfl rfl)⟩ ⟨v_62, v_71, rfl, hS0, (Rds.cons (hR.nth 13 rfl) (Rds.cons (hR.nth 10 rfl) Rds.nil))⟩
theorem c_ref11_Add (w0 : World) (a0 : Int) (a1_0 : List UInt32) (a1_1 : List UInt32) (a1_2 : Bool) (a2_0 : List UInt32) (a2_1 : List UInt32) (a2_2 : Bool) (va1_0 : Value) (va1_1 : Value) (va2_0 : Value) (va2_1 : Value) (T : List Nat) (hTT : TOk [] T w0) (ha1_0 : RP T w0 e32 va1_0 a1_0) (ha1_1 : RP T w0 e32 va1_1 a1_1) (ha2_0 : RP T w0 e32 va2_0 a2_0) (ha2_1 : RP T w0 e32 va2_1 a2_1) (r : List UInt32 × List UInt32 × Bool × Int)
  (h : F.ref11_Add a0 a1_0 a1_1 a1_2 a2_0 a2_1 a2_2 = some r) : Calls Tryz.prog 23 #[vI a0, .agg #[va1_0, va1_1, vB a1_2], .agg #[va2_0, va2_1, vB a2_2]] w0 (Ret fun v w => ∃ u0_0 : Value, ∃ u0_1 : Value, v = .tuple #[.agg #[u0_0, u0_1, vB r.2.2.1], vI r.2.2.2] ∧ St [] w0 w [] ∧ Rds T w [red e32 u0_1 r.2.1, red e32 u0_0 r.1]) := by
 refine ky 25 Tryz.func23 rfl rfl rfl ?_
 have hS := St.start w0
 have hZ := Fz.start (S := []) (w0 := w0)
 have hA0 : Rds T w0 [red e32 va2_1 a2_1, red e32 va2_0 a2_0, red e32 va1_1 a1_1, red e32 va1_0 a1_0] := Rds.cons (RP.kept (Nat.le_of_ble_eq_true rfl) ha2_1) (Rds.cons (RP.kept (Nat.le_of_ble_eq_true rfl) ha2_0) (Rds.cons (RP.kept (Nat.le_of_ble_eq_true rfl) ha1_1) (Rds.cons (RP.kept (Nat.le_of_ble_eq_true rfl) ha1_0) (Rds.nil))))
 have hA := hA0.all
 have hP := hA0.off rfl
 refine km [(0, vI a0), (1, .agg #[va1_0, va1_1, vB a1_2]), (2, .agg #[va2_0, va2_1, vB a2_2])] ⟨rfl, rfl, rfl, trivial⟩ ?_
 unfold F.ref11_Add at h
 refine kd (kc (kV (OpX_box (cs := [va1_0, va1_1, vB a1_2]) rfl rfl hS) rfl ?_))
 rintro _ w ⟨b_1, rfl, hS⟩
 refine kV (OpX_box (cs := [va2_0, va2_1, vB a2_2]) rfl rfl hS) rfl ?_
 rintro _ w ⟨b_3, rfl, hS⟩
 refine kV (kD (cs := [.slice none 0 0, .slice none 0 0, vB false]) tz27 rfl hS) rfl ?_
 rintro _ w ⟨b_5, rfl, hS⟩
 refine kb 1 rfl ?_
 refine ke (ka (kd ?_))
 refine kN (r := r) (fun (g : Bool) L w => L = [(0, vI a0), (4, pB b_1 0), (5, pB b_3 0), (6, pB b_5 0), (17, vB g)] ∧ SfT [] T w0 w [red e32 va2_1 a2_1, red e32 va2_0 a2_0, red e32 va1_1 a1_1, red e32 va1_0 a1_0] [OE.bx b_1 [va1_0, va1_1, vB a1_2], OE.bx b_3 [va2_0, va2_1, vB a2_2], OE.bx b_5 [.slice none 0 0, .slice none 0 0, vB false]]) (F.ref11_Add_K1 a0 a1_0 a1_1 a1_2 a2_0 a2_1 a2_2) ?_ ?_
 rotate_left
 ·intro hK_13
  refine kc (kb 1 rfl ?_)
  refine kh (kG (us := [va1_0, va1_1, vB a1_2]) Tryz.underlying27 rfl sz27 rfl (hS.bxs 2 rfl rfl)) rfl ?_
  obtain ⟨x_7, hx_7, h⟩ := kf h
  refine kj (by kernel_rfl) rfl (c_ref11_On _ a0 a1_0 a1_1 a1_2 va1_0 va1_1  ((hA.rp 0 rfl).now hS.fr).rp ((hA.rp 1 rfl).now hS.fr).rp _ hx_7) rfl ?_
  rintro _ w ⟨rfl, hS1⟩
  have hS := hS.call hS1
  refine kb 2 rfl ?_
  cases hb_8 : (!x_7)
  case true =>
   have h := if_t h hb_8
   try simp only [hb_8]
   refine kb 5 rfl ?_
   refine ke (ka ?_)
   exact km _ (by exact ⟨rfl, rfl, rfl, rfl, rfl, trivial⟩) (hK_13 true _ _ ⟨rfl, (SfT.mk' hZ (Rds.cons (hA.nth 3 rfl) (Rds.cons (hA.nth 2 rfl) (Rds.cons (hA.nth 1 rfl) (Rds.cons (hA.nth 0 rfl) Rds.nil)))) (Off.cons (hP.nth 3 rfl) (Off.cons (hP.nth 2 rfl) (Off.cons (hP.nth 1 rfl) (Off.cons (hP.nth 0 rfl) Off.nil)))) (hS.pick [2, 1, 0] (by decide) rfl))⟩ h)
  case false =>
   have h := if_f h hb_8
   try simp only [hb_8]
   refine kb 1 rfl ?_
   refine kS (t := 12) rfl rfl (kG (us := [va2_0, va2_1, vB a2_2]) Tryz.underlying27 rfl sz27 rfl (hS.bxs 1 rfl rfl)) rfl ?_
   obtain ⟨x_9, hx_9, h⟩ := kf h
   refine wpR_gcall (t := 12) rfl rfl (by kernel_rfl) rfl (c_ref11_On _ a0 a2_0 a2_1 a2_2 va2_0 va2_1  ((hA.rp 2 rfl).now hS.fr).rp ((hA.rp 3 rfl).now hS.fr).rp _ hx_9) rfl ?_
   rintro _ w ⟨rfl, hS1⟩
   have hS := hS.call hS1
   refine kb 2 rfl ?_
   refine ke (ka ?_)
   exact km _ (by exact ⟨rfl, rfl, rfl, rfl, rfl, trivial⟩) (hK_13 (!x_9) _ _ ⟨rfl, (SfT.mk' hZ (Rds.cons (hA.nth 3 rfl) (Rds.cons (hA.nth 2 rfl) (Rds.cons (hA.nth 1 rfl) (Rds.cons (hA.nth 0 rfl) Rds.nil)))) (Off.cons (hP.nth 3 rfl) (Off.cons (hP.nth 2 rfl) (Off.cons (hP.nth 1 rfl) (Off.cons (hP.nth 0 rfl) Off.nil)))) (hS.pick [2, 1, 0] (by decide) rfl))⟩ h)
 rintro x_12 L w hJ h
 try dsimp only at hJ
 obtain ⟨rfl, ⟨S_10, wb_11, hZ, hA, hP, hS⟩⟩ := hJ
 unfold F.ref11_Add_K1 at h
 refine kn rfl (fun hb_32 => ?_) (fun hb_32 => ?_)
 ·have h := if_t h hb_32
  refine kd (kc (kh (OpV_build (vs := []) (cells := [.slice none 0 0, .slice none 0 0, vB false]) rfl lay27 trivial rfl) rfl (kW (kL (i := 2) (us := [.slice none 0 0, .slice none 0 0, vB false]) rfl sz27 rfl rfl rfl ⟨rfl, rfl, rfl, trivial⟩ rfl hS) ?_)))
  intro w hS
  refine kb 1 rfl ?_
  refine ke (ka (ko (ku ?_)))
  cases h
  obtain ⟨hS0, hR⟩ := hZ.outT hTT hA hP hS
  exact QE_rv2 rfl ⟨_, rfl, run_ldAgg (us := [.slice none 0 0, .slice none 0 0, vB false]) Tryz.underlying27 rfl sz27 (hS.bxs 2 rfl rfl)⟩ rfl ⟨.slice none 0 0, .slice none 0 0, rfl, hS0, (Rds.cons OE.kept.nil (Rds.cons OE.kept.nil Rds.nil))⟩
 have h := if_f h hb_32
 refine kq (ka (kd ?_))
 obtain ⟨x_14, hx_14, h⟩ := kf h
 obtain ⟨x_19, hx_19, h⟩ := kf h
 obtain ⟨x_24, hx_24, h⟩ := kf h
 refine wpC_regionM (es := [red e32 va2_1 a2_1, red e32 va2_0 a2_0, red e32 va1_1 a1_1, red e32 va1_0 a1_0]) (os := [OE.bx b_1 [va1_0, va1_1, vB a1_2], OE.bx b_3 [va2_0, va2_1, vB a2_2]]) (fun i => [2, 4, 5, 6].contains i) (fun i => if i = 2 then some 5 else if i = 4 then some 5 else none) (fun i => if i = 6 then [5] else []) (fun i => if i = 6 then [OE.bx b_5 [.slice none 0 0, .slice none 0 0, vB false]] else []) (fun i => if i = 6 then [5] else []) (fun i => if i = 2 then (fun h v x y => ∃ v_15 : Value, ∃ v_17 : Value, v = .agg #[v_15, v_17, vB x_14.2.2] ∧ x = [own e32 v_15 x_14.1, own e32 v_17 x_14.2.1] ∧ y = []) else if i = 4 then (fun h v x y => ∃ v_20 : Value, ∃ v_22 : Value, v = .agg #[v_20, v_22, vB x_19.2.2] ∧ x = [own e32 v_20 x_19.1, own e32 v_22 x_19.2.1] ∧ y = []) else if i = 5 then (fun h v x y => ∃ u0_25_0 : Value, ∃ u0_25_1 : Value, v = .agg #[u0_25_0, u0_25_1, vB x_24.2.2] ∧ x = [] ∧ y = [red e32 u0_25_0 x_24.1, red e32 u0_25_1 x_24.2.1]) else (fun h v x y => ∃ u0_25_0 : Value, ∃ u0_25_1 : Value, h = [(.agg #[u0_25_0, u0_25_1, vB x_24.2.2], [], [red e32 u0_25_0 x_24.1, red e32 u0_25_1 x_24.2.1])] ∧ v = undef ∧ x = [OE.bx b_5 [u0_25_0, u0_25_1, vB x_24.2.2]] ∧ y = [red e32 u0_25_0 x_24.1, red e32 u0_25_1 x_24.2.1])) (SfT.mk' hZ hA hP (hS.pick (os' := [OE.bx b_5 [.slice none 0 0, .slice none 0 0, vB false], OE.bx b_1 [va1_0, va1_1, vB a1_2], OE.bx b_3 [va2_0, va2_1, vB a2_2]]) [2, 0, 1] (by decide) rfl)) (fun k hk => (if_neg (fun q => by subst q; exact absurd hk (by decide)))) hTT rfl (fun i => (ite_ns (by rintro h v x y ⟨_, _, rfl, rfl, rfl⟩; exact ns_all rfl) (ite_ns (by rintro h v x y ⟨_, _, rfl, rfl, rfl⟩; exact ns_all rfl) (ite_ns (by rintro h v x y ⟨_, _, rfl, rfl, rfl⟩; exact ns_all rfl) (by rintro h v x y ⟨_, _, _, rfl, rfl, rfl⟩; exact ns_all rfl))))) hmix (by kernel_rfl) (by kernel_rfl) ?_
 show lxME _ _ _ _ _ _ _ _ _ _ _ _ _ _ _ [0, 1, 2, 3, 4, 5, 6, 7] _ _
 refine lxME_v rfl rfl (fun w Sb wb hZ hA hP hF => kl rfl) rfl (lxME_v rfl rfl (fun w Sb wb hZ hA hP hF => kG (us := [va1_0, va1_1, vB a1_2]) Tryz.underlying27 rfl sz27 rfl (hF.bxs 0 rfl rfl)) rfl ?_)
 refine lxME_call (fun h v x y => ∃ v_15 : Value, ∃ v_17 : Value, v = .agg #[v_15, v_17, vB x_14.2.2] ∧ x = [own e32 v_15 x_14.1, own e32 v_17 x_14.2.1] ∧ y = []) [] [] [] rfl rfl (fun h v x y => rfl) rfl rfl rfl ⟨_, _, _, undef, undef, rfl, rfl, rfl⟩ (by kernel_rfl) rfl (fun w Sl Tl hZ hTT hA hP hS => ?_) rfl ?_
 ·refine calls_ret (c_ref11_proper _ a1_0 a1_1 a1_2 va1_0 va1_1  ((hA.rp 0 rfl).now hS.fr).rp ((hA.rp 1 rfl).now hS.fr).rp _ hx_14) ?_
  rintro _ w ⟨v_15, v_17, rfl, hS1⟩
  have hS := hS.call hS1
  exact ⟨_, _, ⟨v_15, v_17, rfl, rfl, rfl⟩, SfT.mk' hZ Rds.nil Off.nil hS⟩
 rintro v_q x_q y_q ⟨v_15, v_17, rfl, rfl, rfl⟩
 refine lxME_v rfl rfl (fun w Sb wb hZ hA hP hF => kG (us := [va2_0, va2_1, vB a2_2]) Tryz.underlying27 rfl sz27 rfl (hF.bxs 1 rfl rfl)) rfl ?_
 refine lxME_call (fun h v x y => ∃ v_20 : Value, ∃ v_22 : Value, v = .agg #[v_20, v_22, vB x_19.2.2] ∧ x = [own e32 v_20 x_19.1, own e32 v_22 x_19.2.1] ∧ y = []) [] [] [] rfl rfl (fun h v x y => rfl) rfl rfl rfl ⟨_, _, _, undef, undef, rfl, rfl, rfl⟩ (by kernel_rfl) rfl (fun w Sl Tl hZ hTT hA hP hS => ?_) rfl ?_
 ·refine calls_ret (c_ref11_proper _ a2_0 a2_1 a2_2 va2_0 va2_1  ((hA.rp 2 rfl).now hS.fr).rp ((hA.rp 3 rfl).now hS.fr).rp _ hx_19) ?_
  rintro _ w ⟨v_20, v_22, rfl, hS1⟩
  have hS := hS.call hS1
  exact ⟨_, _, ⟨v_20, v_22, rfl, rfl, rfl⟩, SfT.mk' hZ Rds.nil Off.nil hS⟩
 rintro v_q x_q y_q ⟨v_20, v_22, rfl, rfl, rfl⟩
 refine lxME_call (fun h v x y => ∃ u0_25_0 : Value, ∃ u0_25_1 : Value, v = .agg #[u0_25_0, u0_25_1, vB x_24.2.2] ∧ x = [] ∧ y = [red e32 u0_25_0 x_24.1, red e32 u0_25_1 x_24.2.1]) [] [own e32 v_15 x_14.1, own e32 v_17 x_14.2.1, own e32 v_20 x_19.1, own e32 v_22 x_19.2.1] [] rfl rfl (fun h v x y => rfl) rfl rfl rfl ⟨_, _, _, undef, undef, rfl, rfl, rfl⟩ (by kernel_rfl) rfl (fun w Sl Tl hZ hTT hA hP hS => ?_) rfl ?_
 ·replace hS := hS.pick (os' := [own e32 v_15 x_14.1, own e32 v_17 x_14.2.1, own e32 v_20 x_19.1, own e32 v_22 x_19.2.1] ++ [OE.bx b_1 [va1_0, va1_1, vB a1_2], OE.bx b_3 [va2_0, va2_1, vB a2_2]]) [0, 1, 2, 3, 4, 5] (by decide) rfl
  obtain ⟨hZ, hA, hP, hS⟩ := hZ.frzK hTT hA hP hS
  refine calls_ret (c_ref11_Sum _ a0 x_14.1 x_14.2.1 x_14.2.2 x_19.1 x_19.2.1 x_19.2.2 v_15 v_17 v_20 v_22  _ (hZ.okT hTT hS) (hA.rpT hP 7 rfl) (hA.rpT hP 6 rfl) (hA.rpT hP 5 rfl) (hA.rpT hP 4 rfl) _ hx_24) ?_
  rintro _ w ⟨u0_25_0, u0_25_1, rfl, hS1, hR1⟩
  obtain ⟨S_28, wb_29, hZ, hA, hP, hS⟩ := hZ.callK hA hP hS hS1 hR1 rfl
  exact ⟨_, _, ⟨u0_25_0, u0_25_1, rfl, rfl, rfl⟩, SfT.mk' hZ (Rds.cons (hA.nth 8 rfl) (Rds.cons (hA.nth 9 rfl) Rds.nil)) (Off.cons (hP.nth 8 rfl) (Off.cons (hP.nth 9 rfl) Off.nil)) hS⟩
 rintro v_q x_q y_q ⟨u0_25_0, u0_25_1, rfl, rfl, rfl⟩
 refine lxME_y (fun h v x y => ∃ u0_25_0 : Value, ∃ u0_25_1 : Value, h = [(.agg #[u0_25_0, u0_25_1, vB x_24.2.2], [], [red e32 u0_25_0 x_24.1, red e32 u0_25_1 x_24.2.1])] ∧ v = undef ∧ x = [OE.bx b_5 [u0_25_0, u0_25_1, vB x_24.2.2]] ∧ y = [red e32 u0_25_0 x_24.1, red e32 u0_25_1 x_24.2.1]) [(.agg #[u0_25_0, u0_25_1, vB x_24.2.2], [], [red e32 u0_25_0 x_24.1, red e32 u0_25_1 x_24.2.1])] [OE.bx b_5 [.slice none 0 0, .slice none 0 0, vB false]] [red e32 u0_25_0 x_24.1, red e32 u0_25_1 x_24.2.1] rfl rfl (fun h v x y => rfl) rfl rfl rfl ⟨_, _, _, u0_25_0, u0_25_1, rfl, rfl, rfl, rfl⟩ (fun w Sl Tl hZ hTT hA hP hS => ?_) ?_
 ·refine opy_imp (kL (i := 0) (us := [u0_25_0, u0_25_1, vB x_24.2.2]) rfl sz27 rfl rfl rfl ⟨((hA.rp 5 rfl).now hS.fr).one, ((hA.rp 4 rfl).now hS.fr).one, rfl, trivial⟩ rfl hS) ?_
  intro w hS
  exact ⟨_, _, ⟨u0_25_0, u0_25_1, rfl, rfl, rfl, rfl⟩, SfT.mk' hZ (Rds.cons (hA.nth 5 rfl) (Rds.cons (hA.nth 4 rfl) Rds.nil)) (Off.cons (hP.nth 5 rfl) (Off.cons (hP.nth 4 rfl) Off.nil)) hS⟩
 rintro v_q x_q y_q ⟨u0_25_0', u0_25_1', hh, rfl, rfl, rfl⟩
 replace hh : ([(.agg #[u0_25_0, u0_25_1, vB x_24.2.2], [], [red e32 u0_25_0 x_24.1, red e32 u0_25_1 x_24.2.1])] : List Th) = [(.agg #[u0_25_0', u0_25_1', vB x_24.2.2], [], [red e32 u0_25_0' x_24.1, red e32 u0_25_1' x_24.2.1])] := hh
 cases hh
 refine lxME_v rfl rfl (fun w Sb wb hZ hA hP hF => kz rfl) rfl (lxME_nil fun w hQ => ?_)
 obtain ⟨S_30, wb_31, hZ, hA, hP, hS⟩ := hQ
 refine ka (ko ?_)
 cases h
 obtain ⟨hS0, hR⟩ := hZ.outT hTT hA hP hS
 exact QE_rv2 rfl ⟨_, rfl, run_ldAgg (us := [u0_25_0, u0_25_1, vB x_24.2.2]) Tryz.underlying27 rfl sz27 (hS.bxs 0 rfl rfl)⟩ rfl ⟨u0_25_0, u0_25_1, rfl, hS0, (Rds.cons (hR.nth 4 rfl) (Rds.cons (hR.nth 5 rfl) Rds.nil))⟩
end Go.Proofs
