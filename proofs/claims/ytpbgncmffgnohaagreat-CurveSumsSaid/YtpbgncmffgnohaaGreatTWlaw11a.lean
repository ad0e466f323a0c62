import Derived.Test.YtpbgncmffgnohaaGreatTW0
import Derived.Test.YtpbgncmffgnohaaGreatGkFlaw11
set_option linter.unusedVariables false
set_option linter.unusedSimpArgs false
set_option linter.unusedVariables false
set_option maxRecDepth 4000
namespace Go.Proofs
open Go Go.RowKit Go.Gk
theorem c_law11_marked (w0 : World) (a0 : List UInt32) (va0 : Value) (ha0 : RP [] w0 e32 va0 a0) (r : (List UInt32 × Nat))
  (h : F.law11_marked a0 = some r) : Calls Tryz.prog 33 #[va0] w0 (Ret fun v w => ∃ u0 : Value, v = slV u0 e32.sz 0 r.2 ∧ r.2 ≤ r.1.length ∧ St [] w0 w [own e32 u0 r.1]) := by
 refine ky 33 Tryz.func33 rfl rfl rfl ?_
 have hS := St.start w0
 refine km [(0, va0)] ⟨rfl, trivial⟩ ?_
 unfold F.law11_marked at h
 refine kd (kc (kb 1 rfl ?_))
 refine ke (ka (kd (kc (kb 1 rfl ?_))))
 refine ke (ka (kd (kd (kc (kb 1 rfl ?_)))))
 refine ke (ka (kv ?_))
 refine km [(0, va0), (3, .slice none 0 0), (4, vI 0)] ⟨rfl, rfl, rfl, trivial⟩ ?_
 refine kR (F.law11_marked_L1 a0) (fun (s : List UInt32 × Int) L w => ∃ (v_2 : Value), L = [(0, va0), (3, v_2), (4, vI s.2)] ∧ St [] w0 w [own e32 v_2 s.1]) ?_ ([], 0) ⟨.slice none 0 0, rfl, (hS.nil e32)⟩ h
 rintro k_30 ⟨x_1, x_4⟩ L w q_7 hI ih_6 h hk_5
 try dsimp only at hI
 obtain ⟨v_2, rfl, hS⟩ := hI
 unfold F.law11_marked_L1 at h
 refine kd (kd (kc (kb 2 rfl ?_)))
 refine kh (kA Tryz.underlying25 rfl (ha0.now hS.fr)) rfl (kb 1 rfl ?_)
 refine ke (ka ?_)
 refine kn rfl (fun hb_29 => ?_) (fun hb_29 => ?_)
 ·have h := if_t h hb_29
  refine kq (ka (kd (kv ?_)))
  refine kc (kb 3 rfl ?_)
  obtain ⟨x_8, hx_8, h⟩ := kf h
  refine kh (G_ix Tryz.underlying25 ti52 rfl rfl (ha0.now hS.fr) hx_8) rfl (kh (G_load Tryz.underlying52 rfl rfl (ha0.now hS.fr) hx_8 rfl) rfl ?_)
  refine kV (OpX_lit (e := e32) (l := ([x_8] : List UInt32)) (vs := [v32 x_8]) Tryz.underlying25 ti52 rfl rfl rfl rfl (by decide) (by decide) hS) rfl ?_
  rintro v_9 w hS
  obtain ⟨x_11, hx_11, h⟩ := kf h
  refine kV (G_append Tryz.underlying25 ti52 rfl rfl rfl hS (i := 1) rfl (hS.ro 0 rfl) hx_11) rfl ?_
  rintro v_12 w hS
  refine kb 1 rfl ?_
  refine ke (kJ ?_)
  refine ka (kc (kb 3 rfl ?_))
  refine ke ?_
  exact QE_rnd (wpN_le _ (by exact ⟨rfl, rfl, rfl, trivial⟩) (ih_6 (x_11, wI (x_4 + 1)) _ _ ⟨v_12, rfl, (hS.pick [1] (by decide) rfl)⟩ (kK h hk_5)))
 have h := if_f h hb_29
 refine kP ?_
 refine kw (kw ?_)
 have h := kF h hk_5
 refine kQ ?_
 refine ka (kd (kd (kc (kb 1 rfl ?_))))
 refine ke (ka (kv ?_))
 refine km [(0, va0), (3, v_2), (5, vI 0)] ⟨rfl, rfl, rfl, trivial⟩ ?_
 refine kR (F.law11_marked_L2 a0) (fun (s : List UInt32 × Int) L w => ∃ (v_15 : Value), L = [(0, va0), (3, v_15), (5, vI s.2)] ∧ St [] w0 w [own e32 v_15 s.1]) ?_ (x_1, 0) ⟨v_2, rfl, hS⟩ h
 rintro k_28 ⟨x_14, x_17⟩ L w q_20 hI ih_19 h hk_18
 try dsimp only at hI
 obtain ⟨v_15, rfl, hS⟩ := hI
 unfold F.law11_marked_L2 at h
 refine kd (kd (kc (kb 2 rfl ?_)))
 refine ke (ka ?_)
 refine kn rfl (fun hb_27 => ?_) (fun hb_27 => ?_)
 ·have h := if_t h hb_27
  refine kq (ka (kd (kv ?_)))
  refine kc (kb 3 rfl ?_)
  refine kh (kE rfl (cv_i_32 Tryz.underlying3 Tryz.underlying52 (wI (7000 + x_17)))) rfl ?_
  refine kV (OpX_lit (e := e32) (l := ([UInt32.ofInt (wI (7000 + x_17))] : List UInt32)) (vs := [v32 (UInt32.ofInt (wI (7000 + x_17)))]) Tryz.underlying25 ti52 rfl rfl rfl rfl (by decide) (by decide) hS) rfl ?_
  rintro v_21 w hS
  obtain ⟨x_23, hx_23, h⟩ := kf h
  refine kV (G_append Tryz.underlying25 ti52 rfl rfl rfl hS (i := 1) rfl (hS.ro 0 rfl) hx_23) rfl ?_
  rintro v_24 w hS
  refine kb 1 rfl ?_
  refine ke (kJ ?_)
  refine ka (kc (kb 3 rfl ?_))
  refine ke ?_
  exact QE_rnd (wpN_le _ (by exact ⟨rfl, rfl, rfl, trivial⟩) (ih_19 (x_23, wI (x_17 + 1)) _ _ ⟨v_24, rfl, (hS.pick [1] (by decide) rfl)⟩ (kK h hk_18)))
 have h := if_f h hb_27
 refine kP ?_
 refine kw (kw ?_)
 have h := kF h hk_18
 refine kQ ?_
 refine ka (kd (kc (kb 2 rfl ?_)))
 refine kh (kA Tryz.underlying25 rfl (ha0.now hS.fr)) rfl ?_
 obtain ⟨hg_26, h⟩ := grd_some h
 refine kh (G_slh Tryz.underlying25 ti52 rfl rfl (hS.ro 0 rfl) (tkO_of hg_26)) rfl (kb 1 rfl ?_)
 refine ke (ka (ko ?_))
 cases h
 exact kx rfl rfl ⟨v_15, rfl, hg_26.2, hS.pick [0] (by decide) rfl⟩
theorem c_law11_lent (w0 : World) (a0_0 : List UInt32) (a0_1 : List UInt32) (a0_2 : Bool) (va0_0 : Value) (va0_1 : Value) (ha0_0 : RP [] w0 e32 va0_0 a0_0) (ha0_1 : RP [] w0 e32 va0_1 a0_1) (r : (List UInt32 × Nat) × (List UInt32 × Nat) × Bool)
  (h : F.law11_lent a0_0 a0_1 a0_2 = some r) : Calls Tryz.prog 6 #[.agg #[va0_0, va0_1, vB a0_2]] w0 (Ret fun v w => ∃ u0_0 u0_1 : Value, v = .agg #[slV u0_0 e32.sz 0 r.1.2, slV u0_1 e32.sz 0 r.2.1.2, vB r.2.2] ∧ r.1.2 ≤ r.1.1.length ∧ r.2.1.2 ≤ r.2.1.1.length ∧ St [] w0 w [own e32 u0_0 r.1.1, own e32 u0_1 r.2.1.1]) := by
 refine ky 12 Tryz.func6 rfl rfl rfl ?_
 have hS := St.start w0
 refine km [(0, .agg #[va0_0, va0_1, vB a0_2])] ⟨rfl, trivial⟩ ?_
 unfold F.law11_lent at h
 refine kd (kc (kV (OpX_box (cs := [va0_0, va0_1, vB a0_2]) rfl rfl hS) rfl ?_))
 rintro _ w ⟨b_1, rfl, hS⟩
 refine kV (kD (cs := [.slice none 0 0, .slice none 0 0, vB false]) tz27 rfl hS) rfl ?_
 rintro _ w ⟨b_3, rfl, hS⟩
 refine ke (ka (kd ?_))
 refine wpC_regionS (fun w' => St [] w0 w' [OE.bx b_3 [.slice none 0 0, .slice none 0 0, vB false], OE.bx b_1 [va0_0, va0_1, vB a0_2]]) (fun i => !([2, 5, 9].contains i)) hmix (fun _ _ _ hf => hf.2) (fun _ _ hf => hf) (by kernel_rfl) ?_
 have hS := hS.drew
 show lxE _ _ _ _ _ _ _ [0, 1, 2, 3, 4, 5, 6, 7, 8, 9] _ _
 refine ki hS rfl rfl (fun w hF => kk (k := 0) Tryz.underlying27 rfl rfl nz25 rfl) rfl (ki hS rfl rfl (fun w hF => kt Tryz.underlying25 rfl rfl (hF.bxc 1 rfl 0)) rfl ?_)
 obtain ⟨x_5, hx_5, h⟩ := kf h
 refine kO hS rfl rfl (by kernel_rfl) rfl (c_law11_marked _ a0_0 va0_0  (ha0_0.now hS.fr).rp _ hx_5) rfl ?_
 rintro _ w ⟨v_6, rfl, hk_8, hS1⟩
 have hS := hS.call hS1
 have h1_9 := ((hS.ro 0 rfl).tk hk_8).one
 refine ki (hS.pick [1, 2] (by decide) rfl) rfl rfl (fun w hF => kk (k := 1) Tryz.underlying27 rfl rfl nz25 rfl) rfl ?_
 refine ki (hS.pick [1, 2] (by decide) rfl) rfl rfl (fun w hF => kt Tryz.underlying25 rfl rfl (hF.bxc 1 rfl 1)) rfl ?_
 obtain ⟨x_10, hx_10, h⟩ := kf h
 refine kO (hS.pick [1, 2] (by decide) rfl) rfl rfl (by kernel_rfl) rfl (c_law11_marked _ a0_1 va0_1  (ha0_1.now hS.fr).rp _ hx_10) rfl ?_
 rintro _ w ⟨v_11, rfl, hk_13, hS1⟩
 have hS := hS.call hS1
 have h1_14 := ((hS.ro 0 rfl).tk hk_13).one
 refine ki (hS.pick [2, 3] (by decide) rfl) rfl rfl (fun w hF => kk (k := 2) Tryz.underlying27 rfl rfl nz4 rfl) rfl ?_
 refine ki (hS.pick [2, 3] (by decide) rfl) rfl rfl (fun w hF => kt Tryz.underlying4 rfl rfl (hF.bxc 1 rfl 2)) rfl ?_
 refine ki (hS.pick [2, 3] (by decide) rfl) rfl rfl (fun w hF => OpV_build (vs := [(0, slV v_6 e32.sz 0 x_5.2, [slV v_6 e32.sz 0 x_5.2]), (1, slV v_11 e32.sz 0 x_10.2, [slV v_11 e32.sz 0 x_10.2]), (2, vB a0_2, [vB a0_2])]) (cells := [slV v_6 e32.sz 0 x_5.2, slV v_11 e32.sz 0 x_10.2, vB a0_2]) rfl lay27 ⟨(cells_one h1_9), (cells_one h1_14), rfl, trivial⟩ rfl) rfl ?_
 refine kZ (hS.pick [2, 3] (by decide) rfl) rfl rfl (kL (i := 2) (us := [slV v_6 e32.sz 0 x_5.2, slV v_11 e32.sz 0 x_10.2, vB a0_2]) rfl sz27 rfl rfl rfl ⟨((hS.ro 1 rfl).tk hk_8).one, ((hS.ro 0 rfl).tk hk_13).one, rfl, trivial⟩ rfl hS) ?_
 intro w hS
 refine kX trivial ?_
 refine ka (ko ?_)
 cases h
 exact QE_rv1 rfl ⟨_, rfl, run_ldAgg (us := [slV v_6 e32.sz 0 x_5.2, slV v_11 e32.sz 0 x_10.2, vB a0_2]) Tryz.underlying27 rfl sz27 (hS.bxs 2 rfl rfl)⟩ ⟨v_6, v_11, rfl, hk_8, hk_13, hS.pick [1, 0] (by decide) rfl⟩
theorem c_law11_sameNat (w0 : World) (a0 : List UInt32) (a1 : List UInt32) (va0 : Value) (va1 : Value) (ha0 : RP [] w0 e32 va0 a0) (ha1 : RP [] w0 e32 va1 a1) (r : Bool)
  (h : F.law11_sameNat a0 a1 = some r) : Calls Tryz.prog 44 #[va0, va1] w0 (Ret fun v w => v = vB r ∧ St [] w0 w []) := by
 refine ky 26 Tryz.func44 rfl rfl rfl ?_
 have hS := St.start w0
 refine km [(0, va0), (1, va1)] ⟨rfl, rfl, trivial⟩ ?_
 unfold F.law11_sameNat at h
 refine kd (kc (kb 1 rfl ?_))
 refine ke (ka (kd (kd (kc (kb 1 rfl ?_)))))
 refine kh (kA Tryz.underlying25 rfl (ha0.now hS.fr)) rfl (kb 1 rfl ?_)
 refine kh (kA Tryz.underlying25 rfl (ha1.now hS.fr)) rfl (kb 1 rfl ?_)
 refine ke (ka ?_)
 refine kn rfl (fun hb_10 => ?_) (fun hb_10 => ?_)
 ·have h := if_t h hb_10
  refine kd (kc (kb 1 rfl ?_))
  refine ke (ka (ko (ku ?_)))
  cases h
  exact kx rfl rfl ⟨rfl, hS⟩
 have h := if_f h hb_10
 refine kq (ka (kd (kd (kc (kb 1 rfl ?_)))))
 refine ke (ka (kv ?_))
 refine km [(0, va0), (1, va1), (5, vI 0)] ⟨rfl, rfl, rfl, trivial⟩ ?_
 refine kR (F.law11_sameNat_L1 a0 a1) (fun (s : Int) L w => L = [(0, va0), (1, va1), (5, vI s)] ∧ St [] w0 w []) ?_ 0 ⟨rfl, hS⟩ h
 rintro k_9 x_1 L w q_4 hI ih_3 h hk_2
 try dsimp only at hI
 obtain ⟨rfl, hS⟩ := hI
 unfold F.law11_sameNat_L1 at h
 refine kd (kd (kc (kb 2 rfl ?_)))
 refine kh (kA Tryz.underlying25 rfl (ha0.now hS.fr)) rfl (kb 1 rfl ?_)
 refine ke (ka ?_)
 refine kn rfl (fun hb_8 => ?_) (fun hb_8 => ?_)
 ·have h := if_t h hb_8
  refine kq (ka (kd (kv ?_)))
  refine kd ?_
  refine kM (fun w' => St [] w0 w' []) (fun _ => true) hmix (fun _ _ _ hf => hf.2) (fun _ _ hf => hf) (by kernel_rfl) ?_
  have hS := hS.drew
  show lxE _ _ _ _ _ _ _ [0, 1, 2, 3, 4, 5, 6, 7, 8] _ _
  refine ki hS rfl rfl (fun w hF => kl rfl) rfl (ki hS rfl rfl (fun w hF => kl rfl) rfl ?_)
  obtain ⟨x_5, hx_5, h⟩ := kf h
  refine ki hS rfl rfl (fun w hF => G_ix Tryz.underlying25 ti52 rfl rfl (ha0.now hF.fr) hx_5) rfl (ki hS rfl rfl (fun w hF => G_load Tryz.underlying52 rfl rfl (ha0.now hF.fr) hx_5 rfl) rfl (ki hS rfl rfl (fun w hF => kl rfl) rfl (ki hS rfl rfl (fun w hF => kl rfl) rfl ?_)))
  obtain ⟨x_6, hx_6, h⟩ := kf h
  refine ki hS rfl rfl (fun w hF => G_ix Tryz.underlying25 ti52 rfl rfl (ha1.now hF.fr) hx_6) rfl (ki hS rfl rfl (fun w hF => G_load Tryz.underlying52 rfl rfl (ha1.now hF.fr) hx_6 rfl) rfl (ki hS rfl rfl (fun w hF => kr rfl rfl (b_neq32 _ x_5 x_6)) rfl (kX hS ?_)))
  refine ka ?_
  refine kn rfl (fun hb_7 => ?_) (fun hb_7 => ?_)
  ·have h := if_t h hb_7
   refine kd (kc (kb 1 rfl ?_))
   refine ke (ka (ko (QE_blk_r ?_)))
   refine ku (ku ?_)
   have h := kF h hk_2
   refine QE_blk_r ?_
   refine ku ?_
   cases h
   exact kx rfl rfl ⟨rfl, hS⟩
  have h := if_f h hb_7
  refine kq (kJ ?_)
  refine ka (kc (kb 3 rfl ?_))
  refine ke ?_
  exact QE_rnd (wpN_le _ (by exact ⟨rfl, rfl, rfl, trivial⟩) (ih_3 (wI (x_1 + 1)) _ _ ⟨rfl, hS⟩ (kK h hk_2)))
 have h := if_f h hb_8
 refine kP ?_
 refine kw (kw ?_)
 have h := kF h hk_2
 refine kQ ?_
 refine ka (kd (kc (kb 1 rfl ?_)))
 refine ke (ka (ko ?_))
 cases h
 exact kx rfl rfl ⟨rfl, hS⟩
theorem c_law11_same (w0 : World) (a0_0 : List UInt32) (a0_1 : List UInt32) (a0_2 : Bool) (a1_0 : List UInt32) (a1_1 : List UInt32) (a1_2 : Bool) (va0_0 : Value) (va0_1 : Value) (va1_0 : Value) (va1_1 : Value) (ha0_0 : RP [] w0 e32 va0_0 a0_0) (ha0_1 : RP [] w0 e32 va0_1 a0_1) (ha1_0 : RP [] w0 e32 va1_0 a1_0) (ha1_1 : RP [] w0 e32 va1_1 a1_1) (r : Bool)
  (h : F.law11_same a0_0 a0_1 a0_2 a1_0 a1_1 a1_2 = some r) : Calls Tryz.prog 12 #[.agg #[va0_0, va0_1, vB a0_2], .agg #[va1_0, va1_1, vB a1_2]] w0 (Ret fun v w => v = vB r ∧ St [] w0 w []) := by
 refine ky 24 Tryz.func12 rfl rfl rfl ?_
 have hS := St.start w0
 refine km [(0, .agg #[va0_0, va0_1, vB a0_2]), (1, .agg #[va1_0, va1_1, vB a1_2])] ⟨rfl, rfl, trivial⟩ ?_
 unfold F.law11_same at h
 refine kd (kc (kV (OpX_box (cs := [va0_0, va0_1, vB a0_2]) rfl rfl hS) rfl ?_))
 rintro _ w ⟨b_1, rfl, hS⟩
 refine kV (OpX_box (cs := [va1_0, va1_1, vB a1_2]) rfl rfl hS) rfl ?_
 rintro _ w ⟨b_3, rfl, hS⟩
 refine kb 1 rfl ?_
 refine ke (ka (kd (kc (kh (kk (k := 2) Tryz.underlying27 rfl rfl nz4 rfl) rfl (kh (kt Tryz.underlying4 rfl rfl (hS.bxc 1 rfl 2)) rfl (kh (kk (k := 2) Tryz.underlying27 rfl rfl nz4 rfl) rfl (kh (kt Tryz.underlying4 rfl rfl (hS.bxc 0 rfl 2)) rfl (kh (kr rfl rfl (b_beql _ a0_2 a1_2 Tryz.underlying4 rfl)) rfl ?_))))))))
 refine kb 1 rfl ?_
 cases hb_5 : (a0_2 == a1_2)
 case true =>
  have h := if_t h hb_5
  try simp only [hb_5]
  refine kS (t := 10) rfl rfl (kk (k := 0) Tryz.underlying27 rfl rfl nz25 rfl) rfl (kS (t := 10) rfl rfl (kt Tryz.underlying25 rfl rfl (hS.bxc 1 rfl 0)) rfl (kS (t := 10) rfl rfl (kk (k := 0) Tryz.underlying27 rfl rfl nz25 rfl) rfl (kS (t := 10) rfl rfl (kt Tryz.underlying25 rfl rfl (hS.bxc 0 rfl 0)) rfl ?_)))
  obtain ⟨x_6, hx_6, h⟩ := kf h
  refine wpR_gcall (t := 10) rfl rfl (by kernel_rfl) rfl (c_law11_sameNat _ a0_0 a1_0 va0_0 va1_0  (ha0_0.now hS.fr).rp (ha1_0.now hS.fr).rp _ hx_6) rfl ?_
  rintro _ w ⟨rfl, hS1⟩
  have hS := hS.call hS1
  refine kb 2 rfl ?_
  cases hb_7 : x_6
  case true =>
   have h := if_t h hb_7
   try simp only [hb_7]
   refine kS (t := 17) rfl rfl (kk (k := 1) Tryz.underlying27 rfl rfl nz25 rfl) rfl (kS (t := 17) rfl rfl (kt Tryz.underlying25 rfl rfl (hS.bxc 1 rfl 1)) rfl (kS (t := 17) rfl rfl (kk (k := 1) Tryz.underlying27 rfl rfl nz25 rfl) rfl (kS (t := 17) rfl rfl (kt Tryz.underlying25 rfl rfl (hS.bxc 0 rfl 1)) rfl ?_)))
   obtain ⟨x_8, hx_8, h⟩ := kf h
   refine wpR_gcall (t := 17) rfl rfl (by kernel_rfl) rfl (c_law11_sameNat _ a0_1 a1_1 va0_1 va1_1  (ha0_1.now hS.fr).rp (ha1_1.now hS.fr).rp _ hx_8) rfl ?_
   rintro _ w ⟨rfl, hS1⟩
   have hS := hS.call hS1
   refine kb 2 rfl ?_
   refine ke (ka (ko ?_))
   cases h
   exact kx rfl rfl ⟨rfl, hS.pick [] (by decide) rfl⟩
  case false =>
   have h := if_f h hb_7
   try simp only [hb_7]
   refine kb 7 rfl ?_
   refine ke (ka (ko ?_))
   cases h
   exact kx rfl rfl ⟨rfl, hS.pick [] (by decide) rfl⟩
 case false =>
  have h := if_f h hb_5
  try simp only [hb_5]
  refine kb 14 rfl ?_
  refine ke (ka (ko ?_))
  cases h
  exact kx rfl rfl ⟨rfl, hS.pick [] (by decide) rfl⟩
theorem c_law11_whole (w0 : World) (a0 : List UInt32) (k0 : Nat) (a1 : List UInt32) (va0 : Value) (va1 : Value) (ha0 : RP [] w0 e32 va0 a0) (hk0 : k0 ≤ a0.length) (ha1 : RP [] w0 e32 va1 a1) (r : Bool)
  (h : F.law11_whole a0 k0 a1 = some r) : Calls Tryz.prog 45 #[slV va0 e32.sz 0 k0, va1] w0 (Ret fun v w => v = vB r ∧ St [] w0 w []) := by
 refine ky 30 Tryz.func45 rfl rfl rfl ?_
 have hS := St.start w0
 refine km [(0, slV va0 e32.sz 0 k0), (1, va1)] ⟨rfl, rfl, trivial⟩ ?_
 unfold F.law11_whole at h
 refine kd (kc (kb 1 rfl ?_))
 refine ke (ka (kd (kc (kb 2 rfl ?_))))
 refine kh (kA Tryz.underlying25 rfl (ha1.now hS.fr)) rfl (kb 1 rfl ?_)
 obtain ⟨hg_1, h⟩ := grd_some h
 refine kh (G_slh_room Tryz.underlying25 ti52 rfl rfl (ha0.now hS.fr) (tkO_of hg_1)) rfl (kb 1 rfl ?_)
 refine ke (ka (kd (kd (kc (kb 1 rfl ?_)))))
 refine ke (ka (kv ?_))
 refine km [(0, slV va0 e32.sz 0 k0), (1, va1), (5, slV va0 e32.sz 0 ((wI ((a1.length : Int) + 40) : Int).toNat)), (6, vI 0)] ⟨rfl, rfl, rfl, rfl, trivial⟩ ?_
 refine kR (F.law11_whole_L1 a0 k0 a1) (fun (s : Int) L w => L = [(0, slV va0 e32.sz 0 k0), (1, va1), (5, slV va0 e32.sz 0 ((wI ((a1.length : Int) + 40) : Int).toNat)), (6, vI s)] ∧ St [] w0 w []) ?_ 0 ⟨rfl, hS⟩ h
 rintro k_10 x_2 L w q_5 hI ih_4 h hk_3
 try dsimp only at hI
 obtain ⟨rfl, hS⟩ := hI
 unfold F.law11_whole_L1 at h
 refine kd (kd (kc (kb 2 rfl ?_)))
 refine ke (ka ?_)
 refine kn rfl (fun hb_9 => ?_) (fun hb_9 => ?_)
 ·have h := if_t h hb_9
  refine kq (ka (kd (kv ?_)))
  refine kd (kc (kb 2 rfl ?_))
  refine kh (kA Tryz.underlying25 rfl (ha1.now hS.fr)) rfl (kb 2 rfl ?_)
  obtain ⟨x_6, hx_6, h⟩ := kf h
  refine kh (G_ix_room Tryz.underlying25 ti52 rfl rfl (ha0.now hS.fr) hg_1.2 hx_6) rfl (kh (G_load Tryz.underlying52 rfl rfl (ha0.now hS.fr) (getO_take hx_6) rfl) rfl (kb 2 rfl ?_))
  refine kh (kE rfl (cv_i_32 Tryz.underlying3 Tryz.underlying52 (wI (7000 + x_2)))) rfl (kh (kr rfl rfl (b_neq32 _ x_6 (UInt32.ofInt (wI (7000 + x_2))))) rfl (ke (ka ?_)))
  refine kn rfl (fun hb_7 => ?_) (fun hb_7 => ?_)
  ·have h := if_t h hb_7
   refine kd (kc (kb 1 rfl ?_))
   refine ke (ka (ko (QE_blk_r ?_)))
   refine ku (ku ?_)
   have h := kF h hk_3
   refine QE_blk_r ?_
   refine ku ?_
   cases h
   exact kx rfl rfl ⟨rfl, hS⟩
  have h := if_f h hb_7
  refine kq (kJ ?_)
  refine ka (kc (kb 3 rfl ?_))
  refine ke ?_
  exact QE_rnd (wpN_le _ (by exact ⟨rfl, rfl, rfl, rfl, trivial⟩) (ih_4 (wI (x_2 + 1)) _ _ ⟨rfl, hS⟩ (kK h hk_3)))
 have h := if_f h hb_9
 refine kP ?_
 refine kw (kw ?_)
 have h := kF h hk_3
 refine kQ ?_
 refine ka (kd (kc (kb 2 rfl ?_)))
 obtain ⟨x_8, hx_8, h⟩ := kf h
 refine kj (by kernel_rfl) rfl (c_law11_sameNat _ (a0.take k0) a1 (slV va0 e32.sz 0 k0) va1  ((ha0.now hS.fr).tk hk0).rp (ha1.now hS.fr).rp _ hx_8) rfl ?_
 rintro _ w ⟨rfl, hS1⟩
 have hS := hS.call hS1
 refine kb 1 rfl ?_
 refine ke (ka (ko ?_))
 cases h
 exact kx rfl rfl ⟨rfl, hS⟩
theorem c_law11_still (w0 : World) (a0_0 : List UInt32) (k0_0 : Nat) (a0_1 : List UInt32) (k0_1 : Nat) (a0_2 : Bool) (a1_0 : List UInt32) (a1_1 : List UInt32) (a1_2 : Bool) (va0_0 : Value) (va0_1 : Value) (va1_0 : Value) (va1_1 : Value) (ha0_0 : RP [] w0 e32 va0_0 a0_0) (hk0_0 : k0_0 ≤ a0_0.length) (ha0_1 : RP [] w0 e32 va0_1 a0_1) (hk0_1 : k0_1 ≤ a0_1.length) (ha1_0 : RP [] w0 e32 va1_0 a1_0) (ha1_1 : RP [] w0 e32 va1_1 a1_1) (r : Bool)
  (h : F.law11_still a0_0 k0_0 a0_1 k0_1 a0_2 a1_0 a1_1 a1_2 = some r) : Calls Tryz.prog 14 #[.agg #[slV va0_0 e32.sz 0 k0_0, slV va0_1 e32.sz 0 k0_1, vB a0_2], .agg #[va1_0, va1_1, vB a1_2]] w0 (Ret fun v w => v = vB r ∧ St [] w0 w []) := by
 refine ky 24 Tryz.func14 rfl rfl rfl ?_
 have hS := St.start w0
 refine km [(0, .agg #[slV va0_0 e32.sz 0 k0_0, slV va0_1 e32.sz 0 k0_1, vB a0_2]), (1, .agg #[va1_0, va1_1, vB a1_2])] ⟨rfl, rfl, trivial⟩ ?_
 unfold F.law11_still at h
 refine kd (kc (kV (OpX_box (cs := [slV va0_0 e32.sz 0 k0_0, slV va0_1 e32.sz 0 k0_1, vB a0_2]) rfl rfl hS) rfl ?_))
 rintro _ w ⟨b_1, rfl, hS⟩
 refine kV (OpX_box (cs := [va1_0, va1_1, vB a1_2]) rfl rfl hS) rfl ?_
 rintro _ w ⟨b_3, rfl, hS⟩
 refine kb 1 rfl ?_
 refine ke (ka (kd (kc (kh (kk (k := 2) Tryz.underlying27 rfl rfl nz4 rfl) rfl (kh (kt Tryz.underlying4 rfl rfl (hS.bxc 1 rfl 2)) rfl (kh (kk (k := 2) Tryz.underlying27 rfl rfl nz4 rfl) rfl (kh (kt Tryz.underlying4 rfl rfl (hS.bxc 0 rfl 2)) rfl (kh (kr rfl rfl (b_beql _ a0_2 a1_2 Tryz.underlying4 rfl)) rfl ?_))))))))
 refine kb 1 rfl ?_
 cases hb_5 : (a0_2 == a1_2)
 case true =>
  have h := if_t h hb_5
  try simp only [hb_5]
  refine kS (t := 10) rfl rfl (kk (k := 0) Tryz.underlying27 rfl rfl nz25 rfl) rfl (kS (t := 10) rfl rfl (kt Tryz.underlying25 rfl rfl (hS.bxc 1 rfl 0)) rfl (kS (t := 10) rfl rfl (kk (k := 0) Tryz.underlying27 rfl rfl nz25 rfl) rfl (kS (t := 10) rfl rfl (kt Tryz.underlying25 rfl rfl (hS.bxc 0 rfl 0)) rfl ?_)))
  obtain ⟨x_6, hx_6, h⟩ := kf h
  refine wpR_gcall (t := 10) rfl rfl (by kernel_rfl) rfl (c_law11_whole _ a0_0 k0_0 a1_0 va0_0 va1_0  (ha0_0.now hS.fr).rp hk0_0 (ha1_0.now hS.fr).rp _ hx_6) rfl ?_
  rintro _ w ⟨rfl, hS1⟩
  have hS := hS.call hS1
  refine kb 2 rfl ?_
  cases hb_7 : x_6
  case true =>
   have h := if_t h hb_7
   try simp only [hb_7]
   refine kS (t := 17) rfl rfl (kk (k := 1) Tryz.underlying27 rfl rfl nz25 rfl) rfl (kS (t := 17) rfl rfl (kt Tryz.underlying25 rfl rfl (hS.bxc 1 rfl 1)) rfl (kS (t := 17) rfl rfl (kk (k := 1) Tryz.underlying27 rfl rfl nz25 rfl) rfl (kS (t := 17) rfl rfl (kt Tryz.underlying25 rfl rfl (hS.bxc 0 rfl 1)) rfl ?_)))
   obtain ⟨x_8, hx_8, h⟩ := kf h
   refine wpR_gcall (t := 17) rfl rfl (by kernel_rfl) rfl (c_law11_whole _ a0_1 k0_1 a1_1 va0_1 va1_1  (ha0_1.now hS.fr).rp hk0_1 (ha1_1.now hS.fr).rp _ hx_8) rfl ?_
   rintro _ w ⟨rfl, hS1⟩
   have hS := hS.call hS1
   refine kb 2 rfl ?_
   refine ke (ka (ko ?_))
   cases h
   exact kx rfl rfl ⟨rfl, hS.pick [] (by decide) rfl⟩
  case false =>
   have h := if_f h hb_7
   try simp only [hb_7]
   refine kb 7 rfl ?_
   refine ke (ka (ko ?_))
   cases h
   exact kx rfl rfl ⟨rfl, hS.pick [] (by decide) rfl⟩
 case false =>
  have h := if_f h hb_5
  try simp only [hb_5]
  refine kb 14 rfl ?_
  refine ke (ka (ko ?_))
  cases h
  exact kx rfl rfl ⟨rfl, hS.pick [] (by decide) rfl⟩
theorem c_law11_spoil (w0 : World) (a0_0 : List UInt32) (a0_1 : List UInt32) (a0_2 : Bool) (va0_0 : Value) (va0_1 : Value) (S : List Nat) (hS : St S w0 w0 [own e32 va0_0 a0_0, own e32 va0_1 a0_1]) (r : Bool)
  (h : F.law11_spoil a0_0 a0_1 a0_2 = some r) : Calls Tryz.prog 16 #[.agg #[va0_0, va0_1, vB a0_2]] w0 (Ret fun v w => v = vB r ∧ St S w0 w []) := by
 refine ky 97 Tryz.func16 rfl rfl rfl ?_
 refine km [(0, .agg #[va0_0, va0_1, vB a0_2])] ⟨rfl, trivial⟩ ?_
 unfold F.law11_spoil at h
 refine kd (kc (kV (OpX_box (cs := [va0_0, va0_1, vB a0_2]) rfl rfl hS) rfl ?_))
 rintro _ w ⟨b_3, rfl, hS⟩
 refine kb 1 rfl ?_
 refine ke (ka (kd (kd (kc (kb 1 rfl ?_)))))
 refine ke (ka (kv ?_))
 refine km [(1, pB b_3 0), (3, vI 0)] ⟨rfl, rfl, trivial⟩ ?_
 refine kR (F.law11_spoil_L1 a0_1) (fun (s : Int × List UInt32) L w => L = [(1, pB b_3 0), (3, vI s.1)] ∧ St S w0 w [OE.bx b_3 [va0_0, va0_1, vB a0_2], own e32 va0_0 s.2, own e32 va0_1 a0_1]) ?_ (0, a0_0) ⟨rfl, hS⟩ h
 rintro k_84 ⟨x_5, x_6⟩ L w q_9 hI ih_8 h hk_7
 try dsimp only at hI
 obtain ⟨rfl, hS⟩ := hI
 unfold F.law11_spoil_L1 at h
 refine kd (kd (kc (kb 1 rfl ?_)))
 refine kh (kk (k := 0) Tryz.underlying27 rfl rfl nz25 rfl) rfl (kh (kt Tryz.underlying25 rfl rfl (hS.bxc 0 rfl 0)) rfl (kh (kA Tryz.underlying25 rfl (hS.ro 1 rfl)) rfl (kb 1 rfl ?_)))
 refine ke (ka ?_)
 refine kn rfl (fun hb_83 => ?_) (fun hb_83 => ?_)
 ·have h := if_t h hb_83
  refine kq (ka (kd (kv ?_)))
  refine kc (kh (kk (k := 0) Tryz.underlying27 rfl rfl nz25 rfl) rfl (kh (kt Tryz.underlying25 rfl rfl (hS.bxc 0 rfl 0)) rfl (kb 1 rfl ?_)))
  obtain ⟨x_10, hx_10, h⟩ := kf h
  refine kh (G_ix Tryz.underlying25 ti52 rfl rfl (hS.ro 1 rfl) hx_10) rfl (kW (G_storeE (t := 11) ti52 rfl rfl hS (i := 1) rfl hx_10 rfl) ?_)
  intro w hS
  obtain ⟨x_11, hx_11, h⟩ := kH h
  rw [hx_11] at hS
  refine ke (kJ ?_)
  refine ka (kc (kb 3 rfl ?_))
  refine ke ?_
  exact QE_rnd (wpN_le _ (by exact ⟨rfl, rfl, trivial⟩) (ih_8 (wI (x_5 + 1), x_11) _ _ ⟨rfl, hS⟩ (kK h hk_7)))
 have h := if_f h hb_83
 refine kP ?_
 refine kw (kw ?_)
 have h := kF h hk_7
 refine kQ ?_
 refine ka (kd (kd (kc (kb 1 rfl ?_))))
 refine ke (ka (kv ?_))
 refine km [(1, pB b_3 0), (4, vI 0)] ⟨rfl, rfl, trivial⟩ ?_
 refine kR (F.law11_spoil_L2 x_6) (fun (s : Int × List UInt32) L w => L = [(1, pB b_3 0), (4, vI s.1)] ∧ St S w0 w [OE.bx b_3 [va0_0, va0_1, vB a0_2], own e32 va0_0 x_6, own e32 va0_1 s.2]) ?_ (0, a0_1) ⟨rfl, hS⟩ h
 rintro k_82 ⟨x_12, x_13⟩ L w q_16 hI ih_15 h hk_14
 try dsimp only at hI
 obtain ⟨rfl, hS⟩ := hI
 unfold F.law11_spoil_L2 at h
 refine kd (kd (kc (kb 1 rfl ?_)))
 refine kh (kk (k := 1) Tryz.underlying27 rfl rfl nz25 rfl) rfl (kh (kt Tryz.underlying25 rfl rfl (hS.bxc 0 rfl 1)) rfl (kh (kA Tryz.underlying25 rfl (hS.ro 2 rfl)) rfl (kb 1 rfl ?_)))
 refine ke (ka ?_)
 refine kn rfl (fun hb_81 => ?_) (fun hb_81 => ?_)
 ·have h := if_t h hb_81
  refine kq (ka (kd (kv ?_)))
  refine kc (kh (kk (k := 1) Tryz.underlying27 rfl rfl nz25 rfl) rfl (kh (kt Tryz.underlying25 rfl rfl (hS.bxc 0 rfl 1)) rfl (kb 1 rfl ?_)))
  obtain ⟨x_17, hx_17, h⟩ := kf h
  refine kh (G_ix Tryz.underlying25 ti52 rfl rfl (hS.ro 2 rfl) hx_17) rfl (kW (G_storeE (t := 12) ti52 rfl rfl hS (i := 2) rfl hx_17 rfl) ?_)
  intro w hS
  obtain ⟨x_18, hx_18, h⟩ := kH h
  rw [hx_18] at hS
  refine ke (kJ ?_)
  refine ka (kc (kb 3 rfl ?_))
  refine ke ?_
  exact QE_rnd (wpN_le _ (by exact ⟨rfl, rfl, trivial⟩) (ih_15 (wI (x_12 + 1), x_18) _ _ ⟨rfl, hS⟩ (kK h hk_14)))
 have h := if_f h hb_81
 refine kP ?_
 refine kw (kw ?_)
 have h := kF h hk_14
 refine kQ ?_
 refine ka (kd (kc (kh (kk (k := 0) Tryz.underlying27 rfl rfl nz25 rfl) rfl (kh (kt Tryz.underlying25 rfl rfl (hS.bxc 0 rfl 0)) rfl (kb 1 rfl ?_)))))
 have hA_20 := (hS.ro 1 rfl).tw
 replace hS := hS.twin 1 rfl
 refine ke (ka (kd (kc (kh (kk (k := 1) Tryz.underlying27 rfl rfl nz25 rfl) rfl (kh (kt Tryz.underlying25 rfl rfl (hS.bxc 1 rfl 1)) rfl (kb 1 rfl ?_))))))
 have hA_22 := (hS.ro 3 rfl).tw
 replace hS := hS.twin 3 rfl
 refine ke (ka (kd (kd (kc (kb 1 rfl ?_)))))
 refine ke (ka (kv ?_))
 refine km [(1, pB b_3 0), (5, va0_0), (6, va0_1), (7, vI 0)] ⟨rfl, rfl, rfl, rfl, trivial⟩ ?_
 refine kR (F.law11_spoil_L3 x_6 x_13) (fun (s : List UInt32 × List UInt32 × Int) L w => ∃ (v_24 : Value) (v_27 : Value) (b_30 : Nat) (b_32 : Nat), L = [(1, pB b_3 0), (5, v_24), (6, v_27), (7, vI s.2.2)] ∧ Tw va0_0 x_6 v_24 s.1 b_30 ∧ Tw va0_1 x_13 v_27 s.2.1 b_32 ∧ St S w0 w [own e32 v_24 s.1, own e32 v_27 s.2.1, OE.bx b_3 [va0_0, va0_1, vB a0_2], twE e32 va0_0 x_6 b_30, twE e32 va0_1 x_13 b_32]) ?_ (x_6, x_13, 0) ⟨va0_0, va0_1, 0, 0, rfl, hA_20, hA_22, (hS.pick [3, 4, 2, 1, 0] (by decide) rfl)⟩ h
 rintro k_80 ⟨x_23, x_26, x_29⟩ L w q_36 hI ih_35 h hk_34
 try dsimp only at hI
 obtain ⟨v_24, v_27, b_30, b_32, rfl, hA_31, hA_33, hS⟩ := hI
 unfold F.law11_spoil_L3 at h
 refine kd (kd (kc (kb 2 rfl ?_)))
 refine ke (ka ?_)
 refine kn rfl (fun hb_79 => ?_) (fun hb_79 => ?_)
 ·have h := if_t h hb_79
  refine kq (ka (kd (kv ?_)))
  refine kd (kc (kb 1 rfl ?_))
  refine kV (OpX_lit (e := e32) (l := ([13] : List UInt32)) (vs := [v32 13]) Tryz.underlying25 ti52 rfl rfl rfl rfl (by decide) (by decide) hS) rfl ?_
  rintro v_37 w hS
  obtain ⟨x_39, hx_39, h⟩ := kf h
  refine kV (G_append_tw Tryz.underlying25 ti52 rfl rfl rfl hS (i := 1) (j := 4) rfl rfl hA_31 (hS.ro 0 rfl) hx_39) rfl ?_
  rintro v_40 w ⟨b_41, hA_42, hS⟩
  refine kb 1 rfl ?_
  refine ke (ka (kc (kb 1 rfl ?_)))
  refine kV (OpX_lit (e := e32) (l := ([14] : List UInt32)) (vs := [v32 14]) Tryz.underlying25 ti52 rfl rfl rfl rfl (by decide) (by decide) hS) rfl ?_
  rintro v_44 w hS
  obtain ⟨x_46, hx_46, h⟩ := kf h
  refine kV (G_append_tw Tryz.underlying25 ti52 rfl rfl rfl hS (i := 3) (j := 6) rfl rfl hA_33 (hS.ro 0 rfl) hx_46) rfl ?_
  rintro v_47 w ⟨b_48, hA_49, hS⟩
  refine kb 1 rfl ?_
  refine ke (kJ ?_)
  refine ka (kc (kb 3 rfl ?_))
  refine ke ?_
  exact QE_rnd (wpN_le _ (by exact ⟨rfl, rfl, rfl, rfl, trivial⟩) (ih_35 (x_39, x_46, wI (x_29 + 1)) _ _ ⟨v_40, v_47, b_41, b_48, rfl, hA_42, hA_49, (hS.pick [2, 3, 4, 5, 6] (by decide) rfl)⟩ (kK h hk_34)))
 have h := if_f h hb_79
 refine kP ?_
 refine kw (kw ?_)
 have h := kF h hk_34
 refine kQ ?_
 refine ka (kd (kd (kc (kb 1 rfl ?_))))
 refine ke (ka (kv ?_))
 refine km [(1, pB b_3 0), (5, v_24), (6, v_27), (8, vI 0)] ⟨rfl, rfl, rfl, rfl, trivial⟩ ?_
 refine kR (F.law11_spoil_L4 x_6 x_13 x_23 x_26) (fun (s : Int) L w => L = [(1, pB b_3 0), (5, v_24), (6, v_27), (8, vI s)] ∧ St S w0 w [OE.bx b_3 [va0_0, va0_1, vB a0_2], twE e32 va0_0 x_6 b_30, own e32 v_24 x_23, twE e32 va0_1 x_13 b_32, own e32 v_27 x_26]) ?_ 0 ⟨rfl, (hS.pick [2, 3, 0, 4, 1] (by decide) rfl)⟩ h
 rintro k_78 x_51 L w q_54 hI ih_53 h hk_52
 try dsimp only at hI
 obtain ⟨rfl, hS⟩ := hI
 unfold F.law11_spoil_L4 at h
 refine kd (kd (kc (kb 1 rfl ?_)))
 refine kh (kk (k := 0) Tryz.underlying27 rfl rfl nz25 rfl) rfl (kh (kt Tryz.underlying25 rfl rfl (hS.bxc 0 rfl 0)) rfl (kh (kA Tryz.underlying25 rfl (hS.twro hA_31 2 1 rfl rfl)) rfl (kb 1 rfl ?_)))
 refine ke (ka ?_)
 refine kn rfl (fun hb_77 => ?_) (fun hb_77 => ?_)
 ·have h := if_t h hb_77
  refine kq (ka (kd (kv ?_)))
  refine kd (kc (kh (kk (k := 0) Tryz.underlying27 rfl rfl nz25 rfl) rfl (kh (kt Tryz.underlying25 rfl rfl (hS.bxc 0 rfl 0)) rfl (kb 1 rfl ?_))))
  obtain ⟨x_55, hx_55, h⟩ := kf h
  refine kh (G_ix Tryz.underlying25 ti52 rfl rfl (hS.twro hA_31 2 1 rfl rfl) hx_55) rfl (kh (G_load Tryz.underlying52 rfl rfl (hS.twro hA_31 2 1 rfl rfl) hx_55 rfl) rfl (kh (kr rfl rfl (b_neq32 _ x_55 11)) rfl (ke (ka ?_))))
  refine kn rfl (fun hb_56 => ?_) (fun hb_56 => ?_)
  ·have h := if_t h hb_56
   refine kd (kc (kb 1 rfl ?_))
   refine ke (ka (ko (QE_blk_r ?_)))
   refine ku (ku ?_)
   have h := kF h hk_52
   refine QE_blk_r ?_
   refine ku ?_
   cases h
   exact kx rfl rfl ⟨rfl, hS.pick [] (by decide) rfl⟩
  have h := if_f h hb_56
  refine kq (kJ ?_)
  refine ka (kc (kb 3 rfl ?_))
  refine ke ?_
  exact QE_rnd (wpN_le _ (by exact ⟨rfl, rfl, rfl, rfl, trivial⟩) (ih_53 (wI (x_51 + 1)) _ _ ⟨rfl, hS⟩ (kK h hk_52)))
 have h := if_f h hb_77
 refine kP ?_
 refine kw (kw ?_)
 have h := kF h hk_52
 refine kQ ?_
 refine ka (kd (kd (kc (kb 1 rfl ?_))))
 refine ke (ka (kv ?_))
 refine km [(1, pB b_3 0), (5, v_24), (6, v_27), (9, vI 0)] ⟨rfl, rfl, rfl, rfl, trivial⟩ ?_
 refine kR (F.law11_spoil_L5 x_13 x_6 x_23 x_26) (fun (s : Int) L w => L = [(1, pB b_3 0), (5, v_24), (6, v_27), (9, vI s)] ∧ St S w0 w [OE.bx b_3 [va0_0, va0_1, vB a0_2], twE e32 va0_0 x_6 b_30, own e32 v_24 x_23, twE e32 va0_1 x_13 b_32, own e32 v_27 x_26]) ?_ 0 ⟨rfl, hS⟩ h
 rintro k_76 x_57 L w q_60 hI ih_59 h hk_58
 try dsimp only at hI
 obtain ⟨rfl, hS⟩ := hI
 unfold F.law11_spoil_L5 at h
 refine kd (kd (kc (kb 1 rfl ?_)))
 refine kh (kk (k := 1) Tryz.underlying27 rfl rfl nz25 rfl) rfl (kh (kt Tryz.underlying25 rfl rfl (hS.bxc 0 rfl 1)) rfl (kh (kA Tryz.underlying25 rfl (hS.twro hA_33 4 3 rfl rfl)) rfl (kb 1 rfl ?_)))
 refine ke (ka ?_)
 refine kn rfl (fun hb_75 => ?_) (fun hb_75 => ?_)
 ·have h := if_t h hb_75
  refine kq (ka (kd (kv ?_)))
  refine kd (kc (kh (kk (k := 1) Tryz.underlying27 rfl rfl nz25 rfl) rfl (kh (kt Tryz.underlying25 rfl rfl (hS.bxc 0 rfl 1)) rfl (kb 1 rfl ?_))))
  obtain ⟨x_61, hx_61, h⟩ := kf h
  refine kh (G_ix Tryz.underlying25 ti52 rfl rfl (hS.twro hA_33 4 3 rfl rfl) hx_61) rfl (kh (G_load Tryz.underlying52 rfl rfl (hS.twro hA_33 4 3 rfl rfl) hx_61 rfl) rfl (kh (kr rfl rfl (b_neq32 _ x_61 12)) rfl (ke (ka ?_))))
  refine kn rfl (fun hb_62 => ?_) (fun hb_62 => ?_)
  ·have h := if_t h hb_62
   refine kd (kc (kb 1 rfl ?_))
   refine ke (ka (ko (QE_blk_r ?_)))
   refine ku (ku ?_)
   have h := kF h hk_58
   refine QE_blk_r ?_
   refine ku ?_
   cases h
   exact kx rfl rfl ⟨rfl, hS.pick [] (by decide) rfl⟩
  have h := if_f h hb_62
  refine kq (kJ ?_)
  refine ka (kc (kb 3 rfl ?_))
  refine ke ?_
  exact QE_rnd (wpN_le _ (by exact ⟨rfl, rfl, rfl, rfl, trivial⟩) (ih_59 (wI (x_57 + 1)) _ _ ⟨rfl, hS⟩ (kK h hk_58)))
 have h := if_f h hb_75
 refine kP ?_
 refine kw (kw ?_)
 have h := kF h hk_58
 refine kQ ?_
 refine ka (kd (kd (kc (kb 1 rfl ?_))))
 refine ke (ka (kv ?_))
 refine km [(1, pB b_3 0), (5, v_24), (6, v_27), (10, vI 0)] ⟨rfl, rfl, rfl, rfl, trivial⟩ ?_
 refine kR (F.law11_spoil_L6 x_6 x_13 x_23 x_26) (fun (s : Int) L w => L = [(1, pB b_3 0), (5, v_24), (6, v_27), (10, vI s)] ∧ St S w0 w [OE.bx b_3 [va0_0, va0_1, vB a0_2], twE e32 va0_0 x_6 b_30, own e32 v_24 x_23, twE e32 va0_1 x_13 b_32, own e32 v_27 x_26]) ?_ 0 ⟨rfl, hS⟩ h
 rintro k_74 x_63 L w q_66 hI ih_65 h hk_64
 try dsimp only at hI
 obtain ⟨rfl, hS⟩ := hI
 unfold F.law11_spoil_L6 at h
 refine kd (kd (kc (kb 2 rfl ?_)))
 refine ke (ka ?_)
 refine kn rfl (fun hb_73 => ?_) (fun hb_73 => ?_)
 ·have h := if_t h hb_73
  refine kq (ka (kd (kv ?_)))
  refine kN (r := q_66) (fun (g : Bool) L w => L = [(1, pB b_3 0), (5, v_24), (6, v_27), (10, vI x_63), (96, vB g)] ∧ St S w0 w [OE.bx b_3 [va0_0, va0_1, vB a0_2], twE e32 va0_0 x_6 b_30, own e32 v_24 x_23, twE e32 va0_1 x_13 b_32, own e32 v_27 x_26]) (F.law11_spoil_K1 x_63) ?_ ?_
  rotate_left
  ·intro hK_71
   refine kc (kb 1 rfl ?_)
   refine kh (kk (k := 0) Tryz.underlying27 rfl rfl nz25 rfl) rfl (kh (kt Tryz.underlying25 rfl rfl (hS.bxc 0 rfl 0)) rfl (kh (kA Tryz.underlying25 rfl (hS.twro hA_31 2 1 rfl rfl)) rfl (kb 2 rfl ?_)))
   obtain ⟨x_67, hx_67, h⟩ := kf h
   refine kh (G_ix Tryz.underlying25 ti52 rfl rfl (hS.ro 2 rfl) hx_67) rfl (kh (G_load Tryz.underlying52 rfl rfl (hS.ro 2 rfl) hx_67 rfl) rfl (kh (kr rfl rfl (b_neq32 _ x_67 13)) rfl (kb 1 rfl ?_)))
   cases hb_68 : (x_67 != 13)
   case true =>
    have h := if_t h hb_68
    try simp only [hb_68]
    refine kb 10 rfl ?_
    refine ke (ka ?_)
    exact km _ (by exact ⟨rfl, rfl, rfl, rfl, rfl, trivial⟩) (hK_71 true _ _ ⟨rfl, hS⟩ h)
   case false =>
    have h := if_f h hb_68
    try simp only [hb_68]
    refine kb 1 rfl ?_
    refine kS (t := 86) rfl rfl (kk (k := 1) Tryz.underlying27 rfl rfl nz25 rfl) rfl (kS (t := 86) rfl rfl (kt Tryz.underlying25 rfl rfl (hS.bxc 0 rfl 1)) rfl (kS (t := 86) rfl rfl (kA Tryz.underlying25 rfl (hS.twro hA_33 4 3 rfl rfl)) rfl (kb 2 rfl ?_)))
    obtain ⟨x_69, hx_69, h⟩ := kf h
    refine kS (t := 86) rfl rfl (G_ix Tryz.underlying25 ti52 rfl rfl (hS.ro 4 rfl) hx_69) rfl (kS (t := 86) rfl rfl (G_load Tryz.underlying52 rfl rfl (hS.ro 4 rfl) hx_69 rfl) rfl (kS (t := 86) rfl rfl (kr rfl rfl (b_neq32 _ x_69 14)) rfl (kb 1 rfl ?_)))
    refine ke (ka ?_)
    exact km _ (by exact ⟨rfl, rfl, rfl, rfl, rfl, trivial⟩) (hK_71 (x_69 != 14) _ _ ⟨rfl, hS⟩ h)
  rintro x_70 L w hJ h
  try dsimp only at hJ
  obtain ⟨rfl, hS⟩ := hJ
  unfold F.law11_spoil_K1 at h
  refine kn rfl (fun hb_72 => ?_) (fun hb_72 => ?_)
  ·have h := if_t h hb_72
   refine kd (kc (kb 1 rfl ?_))
   refine ke (ka (ko (QE_blk_r ?_)))
   refine ku (ku ?_)
   have h := kF h hk_64
   refine QE_blk_r ?_
   refine ku ?_
   cases h
   exact kx rfl rfl ⟨rfl, hS.pick [] (by decide) rfl⟩
  have h := if_f h hb_72
  refine kq (kJ ?_)
  refine ka (kc (kb 3 rfl ?_))
  refine ke ?_
  exact QE_rnd (wpN_le _ (by exact ⟨rfl, rfl, rfl, rfl, trivial⟩) (ih_65 (wI (x_63 + 1)) _ _ ⟨rfl, hS⟩ (kK h hk_64)))
 have h := if_f h hb_73
 refine kP ?_
 refine kw (kw ?_)
 have h := kF h hk_64
 refine kQ ?_
 refine ka (kd (kc (kb 1 rfl ?_)))
 refine ke (ka (ko ?_))
 cases h
 exact kx rfl rfl ⟨rfl, hS.pick [] (by decide) rfl⟩
theorem c_law11_over (w0 : World) (a0_0 : List UInt32) (a0_1 : List UInt32) (a0_2 : Bool) (a1_0 : List UInt32) (a1_1 : List UInt32) (a1_2 : Bool) (va0_0 : Value) (va0_1 : Value) (va1_0 : Value) (va1_1 : Value) (S : List Nat) (hS : St S w0 w0 [own e32 va0_0 a0_0, own e32 va0_1 a0_1]) (ha1_0 : RP S w0 e32 va1_0 a1_0) (ha1_1 : RP S w0 e32 va1_1 a1_1) (r : List UInt32 × List UInt32)
  (h : F.law11_over a0_0 a0_1 a0_2 a1_0 a1_1 a1_2 = some r) : Calls Tryz.prog 18 #[.agg #[va0_0, va0_1, vB a0_2], .agg #[va1_0, va1_1, vB a1_2]] w0 (Ret fun v w => v = .tuple #[] ∧ St S w0 w [own e32 va0_0 r.1, own e32 va0_1 r.2]) := by
 refine ky 56 Tryz.func18 rfl rfl rfl ?_
 refine km [(0, .agg #[va0_0, va0_1, vB a0_2]), (1, .agg #[va1_0, va1_1, vB a1_2])] ⟨rfl, rfl, trivial⟩ ?_
 unfold F.law11_over at h
 refine kd (kc (kV (OpX_box (cs := [va0_0, va0_1, vB a0_2]) rfl rfl hS) rfl ?_))
 rintro _ w ⟨b_3, rfl, hS⟩
 refine kV (OpX_box (cs := [va1_0, va1_1, vB a1_2]) rfl rfl hS) rfl ?_
 rintro _ w ⟨b_5, rfl, hS⟩
 refine ke (ka (kd (kd (kc (kb 1 rfl ?_)))))
 refine ke (ka (kv ?_))
 refine km [(2, pB b_3 0), (3, pB b_5 0), (4, vI 0)] ⟨rfl, rfl, rfl, trivial⟩ ?_
 refine kR (F.law11_over_L1 a0_1 a1_0 a1_1) (fun (s : Int × List UInt32) L w => L = [(2, pB b_3 0), (3, pB b_5 0), (4, vI s.1)] ∧ St S w0 w [OE.bx b_3 [va0_0, va0_1, vB a0_2], own e32 va0_0 s.2, own e32 va0_1 a0_1, OE.bx b_5 [va1_0, va1_1, vB a1_2]]) ?_ (0, a0_0) ⟨rfl, (hS.pick [1, 2, 3, 0] (by decide) rfl)⟩ h
 rintro k_36 ⟨x_7, x_8⟩ L w q_11 hI ih_10 h hk_9
 try dsimp only at hI
 obtain ⟨rfl, hS⟩ := hI
 unfold F.law11_over_L1 at h
 refine kd (kd (kc (kb 1 rfl ?_)))
 refine kh (kk (k := 0) Tryz.underlying27 rfl rfl nz25 rfl) rfl (kh (kt Tryz.underlying25 rfl rfl (hS.bxc 0 rfl 0)) rfl (kh (kA Tryz.underlying25 rfl (hS.ro 1 rfl)) rfl (kb 1 rfl ?_)))
 refine ke (ka ?_)
 refine kn rfl (fun hb_35 => ?_) (fun hb_35 => ?_)
 ·have h := if_t h hb_35
  refine kq (ka ?_)
  refine kN (r := q_11) (fun (g : List UInt32) L w => L = [(2, pB b_3 0), (3, pB b_5 0), (4, vI x_7)] ∧ St S w0 w [OE.bx b_3 [va0_0, va0_1, vB a0_2], own e32 va0_0 g, own e32 va0_1 a0_1, OE.bx b_5 [va1_0, va1_1, vB a1_2]]) (F.law11_over_K1 x_7) ?_ ?_
  rotate_left
  ·intro hK_19
   refine kv ?_
   refine kd (kc (kh (kk (k := 0) Tryz.underlying27 rfl rfl nz25 rfl) rfl (kh (kt Tryz.underlying25 rfl rfl (hS.bxc 0 rfl 0)) rfl (kb 1 rfl ?_))))
   obtain ⟨x_12, hx_12, h⟩ := kf h
   refine kh (G_ix Tryz.underlying25 ti52 rfl rfl (hS.ro 1 rfl) hx_12) rfl (kW (G_storeE (t := 0) ti52 rfl rfl hS (i := 1) rfl hx_12 rfl) ?_)
   intro w hS
   obtain ⟨x_13, hx_13, h⟩ := kH h
   rw [hx_13] at hS
   refine ke (ka (kd (kc (kb 1 rfl ?_))))
   refine kh (kk (k := 0) Tryz.underlying27 rfl rfl nz25 rfl) rfl (kh (kt Tryz.underlying25 rfl rfl (hS.bxc 3 rfl 0)) rfl (kh (kA Tryz.underlying25 rfl (ha1_0.now hS.fr)) rfl (kb 1 rfl ?_)))
   refine ke (ka ?_)
   refine kn rfl (fun hb_17 => ?_) (fun hb_17 => ?_)
   ·have h := if_t h hb_17
    refine wpC_regionS (fun w' => St S w0 w' [OE.bx b_3 [va0_0, va0_1, vB a0_2], own e32 va0_0 x_13, own e32 va0_1 a0_1, OE.bx b_5 [va1_0, va1_1, vB a1_2]]) (fun i => !([9].contains i)) hmix (fun _ _ _ hf => hf.2) (fun _ _ hf => hf) (by kernel_rfl) ?_
    have hS := hS.drew
    show lxE _ _ _ _ _ _ _ [0, 1, 2, 3, 4, 5, 6, 7, 8, 9] _ _
    refine ki hS rfl rfl (fun w hF => kk (k := 0) Tryz.underlying27 rfl rfl nz25 rfl) rfl (ki hS rfl rfl (fun w hF => kt Tryz.underlying25 rfl rfl (hF.bxc 0 rfl 0)) rfl (ki hS rfl rfl (fun w hF => kl rfl) rfl (ki hS rfl rfl (fun w hF => kk (k := 0) Tryz.underlying27 rfl rfl nz25 rfl) rfl (ki hS rfl rfl (fun w hF => kt Tryz.underlying25 rfl rfl (hF.bxc 3 rfl 0)) rfl (ki hS rfl rfl (fun w hF => kl rfl) rfl ?_)))))
    obtain ⟨x_14, hx_14, h⟩ := kf h
    refine ki hS rfl rfl (fun w hF => G_ix Tryz.underlying25 ti52 rfl rfl (ha1_0.now hF.fr) hx_14) rfl (ki hS rfl rfl (fun w hF => G_load Tryz.underlying52 rfl rfl (ha1_0.now hF.fr) hx_14 rfl) rfl ?_)
    obtain ⟨x_15, hx_15, h⟩ := kf h
    refine ki hS rfl rfl (fun w hF => G_ix Tryz.underlying25 ti52 rfl rfl (hF.ro 1 rfl) hx_15) rfl (kZ hS rfl rfl (G_storeE (t := x_14) ti52 rfl rfl hS (i := 1) rfl hx_15 rfl) ?_)
    intro w hS
    obtain ⟨x_16, hx_16, h⟩ := kH h
    rw [hx_16] at hS
    refine kX trivial ?_
    refine kJ ?_
    refine ka ?_
    exact km _ (by exact ⟨rfl, rfl, rfl, trivial⟩) (hK_19 x_16 _ _ ⟨rfl, hS⟩ h)
   have h := if_f h hb_17
   refine kq (kJ ?_)
   refine ka ?_
   exact km _ (by exact ⟨rfl, rfl, rfl, trivial⟩) (hK_19 x_13 _ _ ⟨rfl, hS⟩ h)
  rintro x_18 L w hJ h
  try dsimp only at hJ
  obtain ⟨rfl, hS⟩ := hJ
  unfold F.law11_over_K1 at h
  refine kc (kb 3 rfl ?_)
  refine ke ?_
  exact QE_rnd (wpN_le _ (by exact ⟨rfl, rfl, rfl, trivial⟩) (ih_10 (wI (x_7 + 1), x_18) _ _ ⟨rfl, hS⟩ (kK h hk_9)))
 have h := if_f h hb_35
 refine kP ?_
 refine kw (kw ?_)
 have h := kF h hk_9
 refine kQ ?_
 refine ka (kd (kc (kb 1 rfl ?_)))
 refine ke (ka (kv ?_))
 refine km [(2, pB b_3 0), (3, pB b_5 0), (5, vI 0)] ⟨rfl, rfl, rfl, trivial⟩ ?_
 refine kR (F.law11_over_L2 a1_1 x_8) (fun (s : Int × List UInt32) L w => L = [(2, pB b_3 0), (3, pB b_5 0), (5, vI s.1)] ∧ St S w0 w [OE.bx b_3 [va0_0, va0_1, vB a0_2], own e32 va0_0 x_8, own e32 va0_1 s.2, OE.bx b_5 [va1_0, va1_1, vB a1_2]]) ?_ (0, a0_1) ⟨rfl, hS⟩ h
 rintro k_34 ⟨x_20, x_21⟩ L w q_24 hI ih_23 h hk_22
 try dsimp only at hI
 obtain ⟨rfl, hS⟩ := hI
 unfold F.law11_over_L2 at h
 refine kd (kd (kc (kb 1 rfl ?_)))
 refine kh (kk (k := 1) Tryz.underlying27 rfl rfl nz25 rfl) rfl (kh (kt Tryz.underlying25 rfl rfl (hS.bxc 0 rfl 1)) rfl (kh (kA Tryz.underlying25 rfl (hS.ro 2 rfl)) rfl (kb 1 rfl ?_)))
 refine ke (ka ?_)
 refine kn rfl (fun hb_33 => ?_) (fun hb_33 => ?_)
 ·have h := if_t h hb_33
  refine kq (ka ?_)
  refine kN (r := q_24) (fun (g : List UInt32) L w => L = [(2, pB b_3 0), (3, pB b_5 0), (5, vI x_20)] ∧ St S w0 w [OE.bx b_3 [va0_0, va0_1, vB a0_2], own e32 va0_0 x_8, own e32 va0_1 g, OE.bx b_5 [va1_0, va1_1, vB a1_2]]) (F.law11_over_K2 x_20) ?_ ?_
  rotate_left
  ·intro hK_32
   refine kv ?_
   refine kd (kc (kh (kk (k := 1) Tryz.underlying27 rfl rfl nz25 rfl) rfl (kh (kt Tryz.underlying25 rfl rfl (hS.bxc 0 rfl 1)) rfl (kb 1 rfl ?_))))
   obtain ⟨x_25, hx_25, h⟩ := kf h
   refine kh (G_ix Tryz.underlying25 ti52 rfl rfl (hS.ro 2 rfl) hx_25) rfl (kW (G_storeE (t := 0) ti52 rfl rfl hS (i := 2) rfl hx_25 rfl) ?_)
   intro w hS
   obtain ⟨x_26, hx_26, h⟩ := kH h
   rw [hx_26] at hS
   refine ke (ka (kd (kc (kb 1 rfl ?_))))
   refine kh (kk (k := 1) Tryz.underlying27 rfl rfl nz25 rfl) rfl (kh (kt Tryz.underlying25 rfl rfl (hS.bxc 3 rfl 1)) rfl (kh (kA Tryz.underlying25 rfl (ha1_1.now hS.fr)) rfl (kb 1 rfl ?_)))
   refine ke (ka ?_)
   refine kn rfl (fun hb_30 => ?_) (fun hb_30 => ?_)
   ·have h := if_t h hb_30
    refine wpC_regionS (fun w' => St S w0 w' [OE.bx b_3 [va0_0, va0_1, vB a0_2], own e32 va0_0 x_8, own e32 va0_1 x_26, OE.bx b_5 [va1_0, va1_1, vB a1_2]]) (fun i => !([9].contains i)) hmix (fun _ _ _ hf => hf.2) (fun _ _ hf => hf) (by kernel_rfl) ?_
    have hS := hS.drew
    show lxE _ _ _ _ _ _ _ [0, 1, 2, 3, 4, 5, 6, 7, 8, 9] _ _
    refine ki hS rfl rfl (fun w hF => kk (k := 1) Tryz.underlying27 rfl rfl nz25 rfl) rfl (ki hS rfl rfl (fun w hF => kt Tryz.underlying25 rfl rfl (hF.bxc 0 rfl 1)) rfl (ki hS rfl rfl (fun w hF => kl rfl) rfl (ki hS rfl rfl (fun w hF => kk (k := 1) Tryz.underlying27 rfl rfl nz25 rfl) rfl (ki hS rfl rfl (fun w hF => kt Tryz.underlying25 rfl rfl (hF.bxc 3 rfl 1)) rfl (ki hS rfl rfl (fun w hF => kl rfl) rfl ?_)))))
    obtain ⟨x_27, hx_27, h⟩ := kf h
    refine ki hS rfl rfl (fun w hF => G_ix Tryz.underlying25 ti52 rfl rfl (ha1_1.now hF.fr) hx_27) rfl (ki hS rfl rfl (fun w hF => G_load Tryz.underlying52 rfl rfl (ha1_1.now hF.fr) hx_27 rfl) rfl ?_)
    obtain ⟨x_28, hx_28, h⟩ := kf h
    refine ki hS rfl rfl (fun w hF => G_ix Tryz.underlying25 ti52 rfl rfl (hF.ro 2 rfl) hx_28) rfl (kZ hS rfl rfl (G_storeE (t := x_27) ti52 rfl rfl hS (i := 2) rfl hx_28 rfl) ?_)
    intro w hS
    obtain ⟨x_29, hx_29, h⟩ := kH h
    rw [hx_29] at hS
    refine kX trivial ?_
    refine kJ ?_
    refine ka ?_
    exact km _ (by exact ⟨rfl, rfl, rfl, trivial⟩) (hK_32 x_29 _ _ ⟨rfl, hS⟩ h)
   have h := if_f h hb_30
   refine kq (kJ ?_)
   refine ka ?_
   exact km _ (by exact ⟨rfl, rfl, rfl, trivial⟩) (hK_32 x_26 _ _ ⟨rfl, hS⟩ h)
  rintro x_31 L w hJ h
  try dsimp only at hJ
  obtain ⟨rfl, hS⟩ := hJ
  unfold F.law11_over_K2 at h
  refine kc (kb 3 rfl ?_)
  refine ke ?_
  exact QE_rnd (wpN_le _ (by exact ⟨rfl, rfl, rfl, trivial⟩) (ih_23 (wI (x_20 + 1), x_31) _ _ ⟨rfl, hS⟩ (kK h hk_22)))
 have h := if_f h hb_33
 refine kP ?_
 refine kw (kw ?_)
 have h := kF h hk_22
 refine kQ ?_
 cases h
 exact QE_end0 rfl ⟨rfl, hS.pick [1, 2] (by decide) rfl⟩
theorem c_law11_copied (w0 : World) (a0_0 : List UInt32) (a0_1 : List UInt32) (a0_2 : Bool) (va0_0 : Value) (va0_1 : Value) (ha0_0 : RP [] w0 e32 va0_0 a0_0) (ha0_1 : RP [] w0 e32 va0_1 a0_1) (r : List UInt32 × List UInt32 × Bool)
  (h : F.law11_copied a0_0 a0_1 a0_2 = some r) : Calls Tryz.prog 19 #[.agg #[va0_0, va0_1, vB a0_2]] w0 (Ret fun v w => ∃ u0_0 u0_1 : Value, v = .agg #[u0_0, u0_1, vB r.2.2] ∧ St [] w0 w [own e32 u0_0 r.1, own e32 u0_1 r.2.1]) := by
 refine ky 44 Tryz.func19 rfl rfl rfl ?_
 have hS := St.start w0
 refine km [(0, .agg #[va0_0, va0_1, vB a0_2])] ⟨rfl, trivial⟩ ?_
 unfold F.law11_copied at h
 refine kd (kc (kV (OpX_box (cs := [va0_0, va0_1, vB a0_2]) rfl rfl hS) rfl ?_))
 rintro _ w ⟨b_1, rfl, hS⟩
 refine kV (kD (cs := [.slice none 0 0, .slice none 0 0, vB false]) tz27 rfl hS) rfl ?_
 rintro _ w ⟨b_3, rfl, hS⟩
 refine ke (ka (kd (kc (kh (kk (k := 2) Tryz.underlying27 rfl rfl nz4 rfl) rfl (kh (kt Tryz.underlying4 rfl rfl (hS.bxc 1 rfl 2)) rfl (kh (OpV_build (vs := [(2, vB a0_2, [vB a0_2])]) (cells := [.slice none 0 0, .slice none 0 0, vB a0_2]) rfl lay27 ⟨rfl, trivial⟩ rfl) rfl (kV (kD (cs := [.slice none 0 0, .slice none 0 0, vB false]) tz27 rfl hS) rfl ?_)))))))
 rintro _ w ⟨b_5, rfl, hS⟩
 refine kW (kL (i := 0) (us := [.slice none 0 0, .slice none 0 0, vB a0_2]) rfl sz27 rfl rfl rfl ⟨rfl, rfl, rfl, trivial⟩ rfl hS) ?_
 intro w hS
 refine ke (ka (kd (kd (kc (kb 1 rfl ?_)))))
 refine ke (ka (kv ?_))
 refine km [(1, pB b_1 0), (2, pB b_3 0), (3, pB b_5 0), (4, vI 0)] ⟨rfl, rfl, rfl, rfl, trivial⟩ ?_
 refine kR (F.law11_copied_L1 a0_0 a0_1 a0_2) (fun (s : Int × List UInt32) L w => ∃ (v_9 : Value), L = [(1, pB b_1 0), (2, pB b_3 0), (3, pB b_5 0), (4, vI s.1)] ∧ St [] w0 w [OE.bx b_1 [va0_0, va0_1, vB a0_2], OE.bx b_3 [.slice none 0 0, .slice none 0 0, vB false], own e32 v_9 s.2, OE.bx b_5 [v_9, .slice none 0 0, vB a0_2]]) ?_ (0, []) ⟨.slice none 0 0, rfl, ((hS.nil e32).pick [3, 2, 0, 1] (by decide) rfl)⟩ h
 rintro k_36 ⟨x_7, x_8⟩ L w q_13 hI ih_12 h hk_11
 try dsimp only at hI
 obtain ⟨v_9, rfl, hS⟩ := hI
 unfold F.law11_copied_L1 at h
 refine kd (kd (kc (kb 1 rfl ?_)))
 refine kh (kk (k := 0) Tryz.underlying27 rfl rfl nz25 rfl) rfl (kh (kt Tryz.underlying25 rfl rfl (hS.bxc 0 rfl 0)) rfl (kh (kA Tryz.underlying25 rfl (ha0_0.now hS.fr)) rfl (kb 1 rfl ?_)))
 refine ke (ka ?_)
 refine kn rfl (fun hb_35 => ?_) (fun hb_35 => ?_)
 ·have h := if_t h hb_35
  refine kq (ka (kd (kv ?_)))
  have hsh2 := (hS.ro 2 rfl).shp
  refine wpC_regionS (fun w' => St [] w0 w' [OE.bx b_1 [va0_0, va0_1, vB a0_2], OE.bx b_3 [.slice none 0 0, .slice none 0 0, vB false], OE.bx b_5 [v_9, .slice none 0 0, vB a0_2]]) (fun i => !([7, 8, 10].contains i)) hmix (fun _ _ _ hf => hf.2) (fun _ _ hf => hf) (by kernel_rfl) ?_
  have hS := hS.drew
  show lxE _ _ _ _ _ _ _ [0, 1, 2, 3, 4, 5, 6, 7, 8, 9, 10] _ _
  refine ki (hS.pick [0, 1, 3] (by decide) rfl) rfl rfl (fun w hF => kk (k := 0) Tryz.underlying27 rfl rfl nz25 rfl) rfl ?_
  refine ki (hS.pick [0, 1, 3] (by decide) rfl) rfl rfl (fun w hF => kt Tryz.underlying25 rfl rfl (hF.bxc 2 rfl 0)) rfl ?_
  refine ki (hS.pick [0, 1, 3] (by decide) rfl) rfl rfl (fun w hF => kk (k := 0) Tryz.underlying27 rfl rfl nz25 rfl) rfl ?_
  refine ki (hS.pick [0, 1, 3] (by decide) rfl) rfl rfl (fun w hF => kt Tryz.underlying25 rfl rfl (hF.bxc 0 rfl 0)) rfl ?_
  refine ki (hS.pick [0, 1, 3] (by decide) rfl) rfl rfl (fun w hF => kl rfl) rfl ?_
  obtain ⟨x_14, hx_14, h⟩ := kf h
  refine ki (hS.pick [0, 1, 3] (by decide) rfl) rfl rfl (fun w hF => G_ix Tryz.underlying25 ti52 rfl rfl (ha0_0.now hF.fr) hx_14) rfl ?_
  refine ki (hS.pick [0, 1, 3] (by decide) rfl) rfl rfl (fun w hF => G_load Tryz.underlying52 rfl rfl (ha0_0.now hF.fr) hx_14 rfl) rfl ?_
  refine kY (hS.pick [0, 1, 3] (by decide) rfl) rfl rfl (OpX_lit (e := e32) (l := ([x_14] : List UInt32)) (vs := [v32 x_14]) Tryz.underlying25 ti52 rfl rfl rfl rfl (by decide) (by decide) hS) rfl ?_
  rintro v_15 w hS
  obtain ⟨x_17, hx_17, h⟩ := kf h
  refine kY (hS.pick [1, 2, 4] (by decide) rfl) rfl rfl (G_append Tryz.underlying25 ti52 rfl rfl rfl hS (i := 3) rfl (hS.ro 0 rfl) hx_17) rfl ?_
  rintro v_18 w hS
  refine ki (hS.pick [1, 2, 4] (by decide) rfl) rfl rfl (fun w hF => kk (k := 0) Tryz.underlying27 rfl rfl nz25 rfl) rfl ?_
  refine kZ (hS.pick [1, 2, 4] (by decide) rfl) rfl rfl (kL (i := 4) (us := [v_18]) rfl sz25 rfl rfl (cells_one (hS.ro 3 rfl).one) ⟨(hS.ro 3 rfl).one, trivial⟩ rfl hS) ?_
  intro w hS
  refine kX trivial ?_
  refine kJ ?_
  refine ka (kc (kb 3 rfl ?_))
  refine ke ?_
  exact QE_rnd (wpN_le _ (by exact ⟨rfl, rfl, rfl, rfl, trivial⟩) (ih_12 (wI (x_7 + 1), x_17) _ _ ⟨v_18, rfl, (hS.pick [1, 2, 3, 4] (by decide) rfl)⟩ (kK h hk_11)))
 have h := if_f h hb_35
 refine kP ?_
 refine kw (kw ?_)
 have h := kF h hk_11
 refine kQ ?_
 refine ka (kd (kd (kc (kb 1 rfl ?_))))
 refine ke (ka (kv ?_))
 refine km [(1, pB b_1 0), (2, pB b_3 0), (3, pB b_5 0), (5, vI 0)] ⟨rfl, rfl, rfl, rfl, trivial⟩ ?_
 refine kR (F.law11_copied_L2 a0_1 a0_2 x_8) (fun (s : Int × List UInt32) L w => ∃ (v_22 : Value), L = [(1, pB b_1 0), (2, pB b_3 0), (3, pB b_5 0), (5, vI s.1)] ∧ St [] w0 w [OE.bx b_1 [va0_0, va0_1, vB a0_2], OE.bx b_3 [.slice none 0 0, .slice none 0 0, vB false], own e32 v_22 s.2, OE.bx b_5 [v_9, v_22, vB a0_2], own e32 v_9 x_8]) ?_ (0, []) ⟨.slice none 0 0, rfl, ((hS.nil e32).pick [1, 2, 0, 4, 3] (by decide) rfl)⟩ h
 rintro k_34 ⟨x_20, x_21⟩ L w q_26 hI ih_25 h hk_24
 try dsimp only at hI
 obtain ⟨v_22, rfl, hS⟩ := hI
 unfold F.law11_copied_L2 at h
 refine kd (kd (kc (kb 1 rfl ?_)))
 refine kh (kk (k := 1) Tryz.underlying27 rfl rfl nz25 rfl) rfl (kh (kt Tryz.underlying25 rfl rfl (hS.bxc 0 rfl 1)) rfl (kh (kA Tryz.underlying25 rfl (ha0_1.now hS.fr)) rfl (kb 1 rfl ?_)))
 refine ke (ka ?_)
 refine kn rfl (fun hb_33 => ?_) (fun hb_33 => ?_)
 ·have h := if_t h hb_33
  refine kq (ka (kd (kv ?_)))
  have hsh2 := (hS.ro 2 rfl).shp
  refine wpC_regionS (fun w' => St [] w0 w' [OE.bx b_1 [va0_0, va0_1, vB a0_2], OE.bx b_3 [.slice none 0 0, .slice none 0 0, vB false], OE.bx b_5 [v_9, v_22, vB a0_2], own e32 v_9 x_8]) (fun i => !([7, 8, 10].contains i)) hmix (fun _ _ _ hf => hf.2) (fun _ _ hf => hf) (by kernel_rfl) ?_
  have hS := hS.drew
  show lxE _ _ _ _ _ _ _ [0, 1, 2, 3, 4, 5, 6, 7, 8, 9, 10] _ _
  refine ki (hS.pick [0, 1, 3, 4] (by decide) rfl) rfl rfl (fun w hF => kk (k := 1) Tryz.underlying27 rfl rfl nz25 rfl) rfl ?_
  refine ki (hS.pick [0, 1, 3, 4] (by decide) rfl) rfl rfl (fun w hF => kt Tryz.underlying25 rfl rfl (hF.bxc 2 rfl 1)) rfl ?_
  refine ki (hS.pick [0, 1, 3, 4] (by decide) rfl) rfl rfl (fun w hF => kk (k := 1) Tryz.underlying27 rfl rfl nz25 rfl) rfl ?_
  refine ki (hS.pick [0, 1, 3, 4] (by decide) rfl) rfl rfl (fun w hF => kt Tryz.underlying25 rfl rfl (hF.bxc 0 rfl 1)) rfl ?_
  refine ki (hS.pick [0, 1, 3, 4] (by decide) rfl) rfl rfl (fun w hF => kl rfl) rfl ?_
  obtain ⟨x_27, hx_27, h⟩ := kf h
  refine ki (hS.pick [0, 1, 3, 4] (by decide) rfl) rfl rfl (fun w hF => G_ix Tryz.underlying25 ti52 rfl rfl (ha0_1.now hF.fr) hx_27) rfl ?_
  refine ki (hS.pick [0, 1, 3, 4] (by decide) rfl) rfl rfl (fun w hF => G_load Tryz.underlying52 rfl rfl (ha0_1.now hF.fr) hx_27 rfl) rfl ?_
  refine kY (hS.pick [0, 1, 3, 4] (by decide) rfl) rfl rfl (OpX_lit (e := e32) (l := ([x_27] : List UInt32)) (vs := [v32 x_27]) Tryz.underlying25 ti52 rfl rfl rfl rfl (by decide) (by decide) hS) rfl ?_
  rintro v_28 w hS
  obtain ⟨x_30, hx_30, h⟩ := kf h
  refine kY (hS.pick [1, 2, 4, 5] (by decide) rfl) rfl rfl (G_append Tryz.underlying25 ti52 rfl rfl rfl hS (i := 3) rfl (hS.ro 0 rfl) hx_30) rfl ?_
  rintro v_31 w hS
  refine ki (hS.pick [1, 2, 4, 5] (by decide) rfl) rfl rfl (fun w hF => kk (k := 1) Tryz.underlying27 rfl rfl nz25 rfl) rfl ?_
  refine kZ (hS.pick [1, 2, 4, 5] (by decide) rfl) rfl rfl (kL (i := 4) (us := [v_31]) rfl sz25 rfl rfl (cells_one (hS.ro 3 rfl).one) ⟨(hS.ro 3 rfl).one, trivial⟩ rfl hS) ?_
  intro w hS
  refine kX trivial ?_
  refine kJ ?_
  refine ka (kc (kb 3 rfl ?_))
  refine ke ?_
  exact QE_rnd (wpN_le _ (by exact ⟨rfl, rfl, rfl, rfl, trivial⟩) (ih_25 (wI (x_20 + 1), x_30) _ _ ⟨v_31, rfl, (hS.pick [1, 2, 3, 4, 5] (by decide) rfl)⟩ (kK h hk_24)))
 have h := if_f h hb_33
 refine kP ?_
 refine kw (kw ?_)
 have h := kF h hk_24
 refine kQ ?_
 refine ka (kd (kc (kh (kG (us := [v_9, v_22, vB a0_2]) Tryz.underlying27 rfl sz27 rfl (hS.bxs 3 rfl rfl)) rfl (kW (kL (i := 1) (us := [v_9, v_22, vB a0_2]) rfl sz27 rfl rfl rfl ⟨(hS.ro 4 rfl).one, (hS.ro 2 rfl).one, rfl, trivial⟩ rfl hS) ?_))))
 intro w hS
 refine ke (ka (ko ?_))
 cases h
 exact QE_rv1 rfl ⟨_, rfl, run_ldAgg (us := [v_9, v_22, vB a0_2]) Tryz.underlying27 rfl sz27 (hS.bxs 1 rfl rfl)⟩ ⟨v_9, v_22, rfl, hS.pick [4, 2] (by decide) rfl⟩
end Go.Proofs
