import Derived.Test.YtpbgncmffgnohaaTW0
import Derived.Test.YtpbgncmffgnohaaGkFnat
import Derived.Test.YtpbgncmffgnohaaTWlib
set_option linter.unusedVariables false
set_option linter.unusedSimpArgs false
set_option linter.unusedVariables false
set_option maxRecDepth 4000
namespace Go.Proofs
open Go Go.RowKit Go.Gk
theorem c_nat_proper (w0 : World) (a0 : List UInt32) (va0 : Value) (ha0 : RP [] w0 e32 va0 a0) (r : Nat)
  (h : F.nat_proper a0 = some r) : Calls Try.prog 62 #[va0] w0 (Ret fun v w => v = slV3 va0 e32.sz 0 r r ∧ r ≤ a0.length ∧ St [] w0 w []) := by
 refine ky 26 Try.func62 rfl rfl rfl ?_
 have hS := St.start w0
 refine km [(0, va0)] ⟨rfl, trivial⟩ ?_
 unfold F.nat_proper at h
 refine kd (kc (kb 1 rfl ?_))
 refine ke (ka (kd (kv ?_)))
 refine km [(0, slV va0 e32.sz 0 a0.length)] ⟨(congrArg some ha0.1.full), trivial⟩ ?_
 refine kR (F.nat_proper_L1 a0) (fun (s : Nat) L w => L = [(0, slV va0 e32.sz 0 s)] ∧ s ≤ a0.length ∧ St [] w0 w []) ?_ a0.length ⟨rfl, (Nat.le_refl _), hS⟩ h
 rintro k_13 x_1 L w q_5 hI ih_4 h hk_3
 try dsimp only at hI
 obtain ⟨rfl, hK_2, hS⟩ := hI
 unfold F.nat_proper_L1 at h
 refine kd ?_
 refine kN (r := q_5) (fun (g : Bool) L w => L = [(0, slV va0 e32.sz 0 x_1), (14, vB g)] ∧ St [] w0 w []) (F.nat_proper_K1 a0 x_1) ?_ ?_
 rotate_left
 ·intro hK_9
  refine kc (kb 1 rfl ?_)
  refine kh (kA Try.underlying23 rfl ((ha0.now hS.fr).tk hK_2)) rfl (kb 2 rfl ?_)
  cases hb_6 : (decide ((0 : Int) < ((a0.take x_1).length : Int)))
  case true =>
   have h := if_t h hb_6
   try simp only [hb_6]
   refine kb 2 rfl ?_
   refine kS (t := 6) rfl rfl (kA Try.underlying23 rfl ((ha0.now hS.fr).tk hK_2)) rfl (kb 1 rfl ?_)
   obtain ⟨x_7, hx_7, h⟩ := kf h
   refine kS (t := 6) rfl rfl (G_ix_room Try.underlying23 ti52 rfl rfl (ha0.now hS.fr) hK_2 hx_7) rfl (kS (t := 6) rfl rfl (G_load Try.underlying52 rfl rfl (ha0.now hS.fr) (getO_take hx_7) rfl) rfl (kS (t := 6) rfl rfl (kr rfl rfl (b_eql32 _ x_7 0)) rfl (kb 1 rfl ?_)))
   refine ke (ka ?_)
   exact km _ (by exact ⟨rfl, rfl, trivial⟩) (hK_9 (x_7 == 0) _ _ ⟨rfl, hS⟩ h)
  case false =>
   have h := if_f h hb_6
   try simp only [hb_6]
   refine kb 8 rfl ?_
   refine ke (ka ?_)
   exact km _ (by exact ⟨rfl, rfl, trivial⟩) (hK_9 false _ _ ⟨rfl, hS⟩ h)
 rintro x_8 L w hJ h
 try dsimp only at hJ
 obtain ⟨rfl, hS⟩ := hJ
 unfold F.nat_proper_K1 at h
 refine kn rfl (fun hb_12 => ?_) (fun hb_12 => ?_)
 ·have h := if_t h hb_12
  refine kq (ka (kv ?_))
  refine kc (kb 2 rfl ?_)
  refine kh (kA Try.underlying23 rfl ((ha0.now hS.fr).tk hK_2)) rfl (kb 1 rfl ?_)
  obtain ⟨hg_10, h⟩ := grd_some h
  refine kh (G_slh_room Try.underlying23 ti52 rfl rfl (ha0.now hS.fr) (tkO_of hg_10)) rfl (kb 1 rfl ?_)
  refine ke (kJ ?_)
  exact QE_rnd (wpN_le _ (by exact ⟨rfl, trivial⟩) (ih_4 ((wI (((a0.take x_1).length : Int) - 1) : Int).toNat) _ _ ⟨rfl, hg_10.2, hS⟩ (kK h hk_3)))
 have h := if_f h hb_12
 refine kP ?_
 refine kw (kw ?_)
 have h := kF h hk_3
 refine kQ ?_
 refine ka (kd (kc (kb 2 rfl ?_)))
 refine kh (kA Try.underlying23 rfl ((ha0.now hS.fr).tk hK_2)) rfl (kb 1 rfl ?_)
 refine kh (kA Try.underlying23 rfl ((ha0.now hS.fr).tk hK_2)) rfl ?_
 obtain ⟨hg_11, h⟩ := grd_some h
 refine kh (G_slh3 Try.underlying23 ti52 rfl rfl rfl ((ha0.now hS.fr).tk hK_2) hg_11) rfl (kb 1 rfl ?_)
 refine ke (ka (ko ?_))
 cases h
 exact kx rfl rfl ⟨(ha0.1.cut3 _ _), (Nat.le_trans hg_11.2.1 (len_take_le _ _)), hS⟩
theorem c_nat_FromBytes (w0 : World) (a0 : List UInt8) (va0 : Value) (ha0 : RP [] w0 e8 va0 a0) (r : List UInt32)
  (h : F.nat_FromBytes a0 = some r) : Calls Try.prog 52 #[va0] w0 (Ret fun v w => St [] w0 w [own e32 v r]) := by
 refine ky 40 Try.func52 rfl rfl rfl ?_
 have hS := St.start w0
 refine km [(0, va0)] ⟨rfl, trivial⟩ ?_
 unfold F.nat_FromBytes at h
 refine kd (kc (kb 1 rfl ?_))
 refine ke (ka (kd (kc (kb 1 rfl ?_))))
 refine kh (kA Try.underlying41 rfl (ha0.now hS.fr)) rfl (kb 1 rfl ?_)
 refine kh (kr rfl rfl (b_iquo _ (wI ((a0.length : Int) + 3)) 4 (by decide))) rfl ?_
 obtain ⟨x_1, hx_1, h⟩ := kf h
 refine kV (G_make (e := e32) Try.underlying23 ti52 rfl rfl rfl hS hx_1) rfl ?_
 rintro v_2 w hS
 refine kb 1 rfl ?_
 refine ke (ka (kd (kd (kc (kb 1 rfl ?_)))))
 refine kh (kA Try.underlying41 rfl (ha0.now hS.fr)) rfl (kb 1 rfl ?_)
 refine ke (ka (kv ?_))
 refine km [(0, va0), (3, v_2), (12, va0), (13, vI (a0.length : Int)), (14, vI 0)] ⟨rfl, rfl, rfl, rfl, rfl, trivial⟩ ?_
 refine kR (F.nat_FromBytes_L1 a0) (fun (s : Int × List UInt32) L w => L = [(0, va0), (3, v_2), (12, va0), (13, vI (a0.length : Int)), (14, vI s.1)] ∧ St [] w0 w [own e32 v_2 s.2]) ?_ (0, x_1) ⟨rfl, hS⟩ h
 rintro k_18 ⟨x_4, x_5⟩ L w q_8 hI ih_7 h hk_6
 try dsimp only at hI
 obtain ⟨rfl, hS⟩ := hI
 unfold F.nat_FromBytes_L1 at h
 refine kd (kc (kb 1 rfl ?_))
 refine ke (ka (kd ?_))
 refine kn rfl (fun hb_17 => ?_) (fun hb_17 => ?_)
 ·have h := if_t h hb_17
  refine kq (ka (kd (kv ?_)))
  refine kd (kc (kb 1 rfl ?_))
  obtain ⟨x_9, hx_9, h⟩ := kf h
  refine kh (G_ix Try.underlying41 ti5 rfl rfl (ha0.now hS.fr) hx_9) rfl (kh (G_load Try.underlying5 rfl rfl (ha0.now hS.fr) hx_9 rfl) rfl (kb 2 rfl ?_))
  refine ke (ka (kd (kc (kb 1 rfl ?_))))
  refine kh (kA Try.underlying41 rfl (ha0.now hS.fr)) rfl (kb 3 rfl ?_)
  obtain ⟨x_10, hx_10, h⟩ := kH h
  refine kh (kz (v := vI x_10) (by rw [← hx_10]; rfl)) rfl ?_
  refine ke (ka ?_)
  refine wpC_regionS (fun w' => St [] w0 w' [own e32 v_2 x_5]) (fun i => !([13].contains i)) hmix (fun _ _ _ hf => hf.2) (fun _ _ hf => hf) (by kernel_rfl) ?_
  have hS := hS.drew
  show lxE _ _ _ _ _ _ _ [0, 1, 2, 3, 4, 5, 6, 7, 8, 9, 10, 11, 12, 13] _ _
  refine ki hS rfl rfl (fun w hF => kl rfl) rfl (ki hS rfl rfl (fun w hF => kl rfl) rfl ?_)
  refine ki hS rfl rfl (fun w hF => kr rfl rfl (b_iquo _ x_10 4 (by decide))) rfl ?_
  obtain ⟨x_11, hx_11, h⟩ := kf h
  refine ki hS rfl rfl (fun w hF => G_ix Try.underlying23 ti52 rfl rfl (hF.ro 0 rfl) hx_11) rfl (ki hS rfl rfl (fun w hF => G_load Try.underlying52 rfl rfl (hF.ro 0 rfl) hx_11 rfl) rfl (ki hS rfl rfl (fun w hF => kl rfl) rfl (ki hS rfl rfl (fun w hF => kE rfl (cv_8_32 Try.underlying5 Try.underlying52 x_9)) rfl (ki hS rfl rfl (fun w hF => kl rfl) rfl ?_))))
  refine ki hS rfl rfl (fun w hF => kr rfl rfl (b_irem _ x_10 4 (by decide))) rfl ?_
  refine ki hS rfl rfl (fun w hF => kr rfl rfl (b_imul _ 8 (Int.tmod x_10 4))) rfl ?_
  obtain ⟨hg_12, h⟩ := grd_some h
  refine ki hS rfl rfl (fun w hF => kr rfl rfl (b_shl32_i _ x_9.toUInt32 (wI (8 * (Int.tmod x_10 4))) hg_12)) rfl (ki hS rfl rfl (fun w hF => kr rfl rfl (b_or32 _ x_11 (shl32 x_9.toUInt32 (((wI (8 * (Int.tmod x_10 4)))).toNat)))) rfl ?_)
  obtain ⟨x_13, hx_13, h⟩ := kf h
  refine ki hS rfl rfl (fun w hF => G_ix Try.underlying23 ti52 rfl rfl (hF.ro 0 rfl) hx_13) rfl (kZ hS rfl rfl (G_storeE (t := (x_11 ||| (shl32 x_9.toUInt32 (((wI (8 * (Int.tmod x_10 4)))).toNat)))) ti52 rfl rfl hS (i := 0) rfl hx_13 rfl) ?_)
  intro w hS
  obtain ⟨x_14, hx_14, h⟩ := kH h
  rw [hx_14] at hS
  refine kX trivial ?_
  refine kJ ?_
  refine ka (kc (kb 2 rfl ?_))
  refine ke ?_
  exact QE_rnd (wpN_le _ (by exact ⟨rfl, rfl, rfl, rfl, rfl, trivial⟩) (ih_7 (wI (x_4 + 1), x_14) _ _ ⟨rfl, hS⟩ (kK h hk_6)))
 have h := if_f h hb_17
 refine kP ?_
 refine kw (kw ?_)
 have h := kF h hk_6
 refine kQ ?_
 refine ka (kd (kc (kb 1 rfl ?_)))
 obtain ⟨x_15, hx_15, h⟩ := kf h
 refine kj (by kernel_rfl) rfl (c_nat_proper _ x_5 v_2  (hS.ro 0 rfl).rp _ hx_15) rfl ?_
 rintro _ w ⟨rfl, hk_16, hS1⟩
 have hS := hS.call hS1
 refine kb 1 rfl ?_
 refine ke (ka (ko ?_))
 cases h
 replace hS := hS.trunc3 (i := 0) rfl hk_16
 exact kx rfl rfl (hS.pick [0] (by decide) rfl)
theorem c_nat_value (w0 : World) (a0 : List UInt32) (va0 : Value) (ha0 : RP [] w0 e32 va0 a0) (r : Nat)
  (h : F.nat_value a0 = some r) : Calls Try.prog 53 #[va0] w0 (Ret fun v w => v = slV3 va0 e32.sz 0 r r ∧ r ≤ a0.length ∧ St [] w0 w []) := by
 refine ky 5 Try.func53 rfl rfl rfl ?_
 have hS := St.start w0
 refine km [(0, va0)] ⟨rfl, trivial⟩ ?_
 unfold F.nat_value at h
 refine kd (kc (kb 1 rfl ?_))
 refine ke (ka (kd (kc (kb 1 rfl ?_))))
 obtain ⟨x_1, hx_1, h⟩ := kf h
 refine kj (by kernel_rfl) rfl (c_nat_proper _ a0 va0  (ha0.now hS.fr).rp _ hx_1) rfl ?_
 rintro _ w ⟨rfl, hk_2, hS1⟩
 have hS := hS.call hS1
 refine kb 1 rfl ?_
 refine ke (ka (ko ?_))
 cases h
 exact kx rfl rfl ⟨rfl, hk_2, hS⟩
theorem c_nat_Bits (w0 : World) (a0 : List UInt32) (va0 : Value) (ha0 : RP [] w0 e32 va0 a0) (r : Int)
  (h : F.nat_Bits a0 = some r) : Calls Try.prog 31 #[va0] w0 (Ret fun v w => v = vI r ∧ St [] w0 w []) := by
 refine ky 21 Try.func31 rfl rfl rfl ?_
 have hS := St.start w0
 refine km [(0, va0)] ⟨rfl, trivial⟩ ?_
 unfold F.nat_Bits at h
 refine kd (kc (kb 1 rfl ?_))
 refine ke (ka (kd (kc (kb 1 rfl ?_))))
 obtain ⟨x_1, hx_1, h⟩ := kf h
 refine kj (by kernel_rfl) rfl (c_nat_value _ a0 va0  (ha0.now hS.fr).rp _ hx_1) rfl ?_
 rintro _ w ⟨rfl, hk_2, hS1⟩
 have hS := hS.call hS1
 refine kb 1 rfl ?_
 refine ke (ka (kd (kd (kc (kb 1 rfl ?_)))))
 refine kh (kA Try.underlying23 rfl ((ha0.tk3 hk_2).now hS.fr)) rfl (kb 1 rfl ?_)
 refine ke (ka ?_)
 refine kn rfl (fun hb_5 => ?_) (fun hb_5 => ?_)
 ·have h := if_t h hb_5
  refine kd (kc (kb 1 rfl ?_))
  refine ke (ka (ko (ku ?_)))
  cases h
  exact kx rfl rfl ⟨rfl, hS⟩
 have h := if_f h hb_5
 refine kq (ka (kd (kc (kb 1 rfl ?_))))
 refine kh (kA Try.underlying23 rfl ((ha0.tk3 hk_2).now hS.fr)) rfl (kb 1 rfl ?_)
 refine kh (kr rfl rfl (b_imul _ 32 (wI (((a0.take x_1).length : Int) - 1)))) rfl (kb 2 rfl ?_)
 refine kh (kA Try.underlying23 rfl ((ha0.tk3 hk_2).now hS.fr)) rfl (kb 1 rfl ?_)
 obtain ⟨x_3, hx_3, h⟩ := kf h
 refine kh (G_ix Try.underlying23 ti52 rfl rfl ((ha0.tk3 hk_2).now hS.fr) hx_3) rfl (kh (G_load Try.underlying52 rfl rfl ((ha0.tk3 hk_2).now hS.fr) hx_3 rfl) rfl ?_)
 obtain ⟨x_4, hx_4, h⟩ := kf h
 refine kj (by kernel_rfl) rfl (c_math_bits_Len32 _ x_3    _ hx_4) rfl ?_
 rintro _ w ⟨rfl, hS1⟩
 have hS := hS.call hS1
 refine kb 2 rfl ?_
 refine ke (ka (ko ?_))
 cases h
 exact kx rfl rfl ⟨rfl, hS⟩
theorem c_nat_fill (w0 : World) (a0 : List UInt8) (a1 : List UInt32) (va0 : Value) (va1 : Value) (S : List Nat) (hS : St S w0 w0 [own e8 va0 a0]) (ha1 : RP S w0 e32 va1 a1) (r : List UInt8)
  (h : F.nat_fill a0 a1 = some r) : Calls Try.prog 116 #[va0, va1] w0 (Ret fun v w => v = .tuple #[] ∧ St S w0 w [own e8 va0 r]) := by
 refine ky 38 Try.func116 rfl rfl rfl ?_
 refine km [(0, va0), (1, va1)] ⟨rfl, rfl, trivial⟩ ?_
 unfold F.nat_fill at h
 refine kd (kc (kb 1 rfl ?_))
 refine kh (kA Try.underlying41 rfl (hS.ro 0 rfl)) rfl (kb 1 rfl ?_)
 refine ke (ka (kv ?_))
 refine km [(0, va0), (1, va1), (7, vI (a0.length : Int)), (8, vI 0)] ⟨rfl, rfl, rfl, rfl, trivial⟩ ?_
 refine kR (F.nat_fill_L1 a0 a1) (fun (s : Int × List UInt8) L w => L = [(0, va0), (1, va1), (7, vI (a0.length : Int)), (8, vI s.1)] ∧ St S w0 w [own e8 va0 s.2]) ?_ (0, a0) ⟨rfl, hS⟩ h
 rintro k_18 ⟨x_2, x_3⟩ L w q_6 hI ih_5 h hk_4
 try dsimp only at hI
 obtain ⟨rfl, hS⟩ := hI
 unfold F.nat_fill_L1 at h
 refine kd (kc (kb 1 rfl ?_))
 refine ke (ka (kd ?_))
 refine kn rfl (fun hb_17 => ?_) (fun hb_17 => ?_)
 ·have h := if_t h hb_17
  refine kq (ka ?_)
  refine kN (r := q_6) (fun (g : List UInt8) L w => L = [(0, va0), (1, va1), (7, vI (a0.length : Int)), (8, vI x_2)] ∧ St S w0 w [own e8 va0 g]) (F.nat_fill_K1 x_2) ?_ ?_
  rotate_left
  ·intro hK_16
   refine kv ?_
   refine kd (kc (kb 2 rfl ?_))
   refine ke (ka (kd (kc (kb 1 rfl ?_))))
   refine kh (kA Try.underlying41 rfl (hS.ro 0 rfl)) rfl (kb 3 rfl ?_)
   obtain ⟨x_7, hx_7, h⟩ := kH h
   refine kh (kz (v := vI x_7) (by rw [← hx_7]; rfl)) rfl ?_
   refine ke (ka (kd (kc (kb 2 rfl ?_))))
   obtain ⟨x_8, hx_8, h⟩ := kf h
   refine kh (G_ix Try.underlying41 ti5 rfl rfl (hS.ro 0 rfl) hx_8) rfl (kW (G_storeE (t := 0) ti5 rfl rfl hS (i := 0) rfl hx_8 rfl) ?_)
   intro w hS
   obtain ⟨x_9, hx_9, h⟩ := kH h
   rw [hx_9] at hS
   refine ke (ka (kd (kc (kb 1 rfl ?_))))
   refine kh (kr rfl rfl (b_iquo _ x_7 4 (by decide))) rfl ?_
   refine kb 1 rfl ?_
   refine kh (kA Try.underlying23 rfl (ha1.now hS.fr)) rfl (kb 1 rfl ?_)
   refine ke (ka ?_)
   refine kn rfl (fun hb_14 => ?_) (fun hb_14 => ?_)
   ·have h := if_t h hb_14
    refine kc (kb 4 rfl ?_)
    refine kh (kr rfl rfl (b_iquo _ x_7 4 (by decide))) rfl ?_
    obtain ⟨x_10, hx_10, h⟩ := kf h
    refine kh (G_ix Try.underlying23 ti52 rfl rfl (ha1.now hS.fr) hx_10) rfl (kh (G_load Try.underlying52 rfl rfl (ha1.now hS.fr) hx_10 rfl) rfl (kb 1 rfl ?_))
    refine kh (kr rfl rfl (b_irem _ x_7 4 (by decide))) rfl ?_
    refine kh (kr rfl rfl (b_imul _ 8 (Int.tmod x_7 4))) rfl ?_
    obtain ⟨hg_11, h⟩ := grd_some h
    refine kh (kr rfl rfl (b_shr32_i _ x_10 (wI (8 * (Int.tmod x_7 4))) hg_11)) rfl (kh (kE rfl (cv_32_8 Try.underlying52 Try.underlying5 (shr32 x_10 (((wI (8 * (Int.tmod x_7 4)))).toNat)))) rfl ?_)
    obtain ⟨x_12, hx_12, h⟩ := kf h
    refine kh (G_ix Try.underlying41 ti5 rfl rfl (hS.ro 0 rfl) hx_12) rfl (kW (G_storeE (t := ((shr32 x_10 (((wI (8 * (Int.tmod x_7 4)))).toNat)).toUInt8)) ti5 rfl rfl hS (i := 0) rfl hx_12 rfl) ?_)
    intro w hS
    obtain ⟨x_13, hx_13, h⟩ := kH h
    rw [hx_13] at hS
    refine ke (kJ ?_)
    refine ka ?_
    exact km _ (by exact ⟨rfl, rfl, rfl, rfl, trivial⟩) (hK_16 x_13 _ _ ⟨rfl, hS⟩ h)
   have h := if_f h hb_14
   refine kq (kJ ?_)
   refine ka ?_
   exact km _ (by exact ⟨rfl, rfl, rfl, rfl, trivial⟩) (hK_16 x_9 _ _ ⟨rfl, hS⟩ h)
  rintro x_15 L w hJ h
  try dsimp only at hJ
  obtain ⟨rfl, hS⟩ := hJ
  unfold F.nat_fill_K1 at h
  refine kc (kb 2 rfl ?_)
  refine ke ?_
  exact QE_rnd (wpN_le _ (by exact ⟨rfl, rfl, rfl, rfl, trivial⟩) (ih_5 (wI (x_2 + 1), x_15) _ _ ⟨rfl, hS⟩ (kK h hk_4)))
 have h := if_f h hb_17
 refine kP ?_
 refine kw (kw ?_)
 have h := kF h hk_4
 refine kQ ?_
 cases h
 exact QE_end0 rfl ⟨rfl, hS.pick [0] (by decide) rfl⟩
theorem c_nat_Bytes (w0 : World) (a0 : List UInt32) (va0 : Value) (ha0 : RP [] w0 e32 va0 a0) (r : List UInt8)
  (h : F.nat_Bytes a0 = some r) : Calls Try.prog 103 #[va0] w0 (Ret fun v w => St [] w0 w [own e8 v r]) := by
 refine ky 16 Try.func103 rfl rfl rfl ?_
 have hS := St.start w0
 refine km [(0, va0)] ⟨rfl, trivial⟩ ?_
 unfold F.nat_Bytes at h
 refine kd (kc (kb 1 rfl ?_))
 refine ke (ka (kd (kc (kb 1 rfl ?_))))
 obtain ⟨x_1, hx_1, h⟩ := kf h
 refine kj (by kernel_rfl) rfl (c_nat_Bits _ a0 va0  (ha0.now hS.fr).rp _ hx_1) rfl ?_
 rintro _ w ⟨rfl, hS1⟩
 have hS := hS.call hS1
 refine kb 1 rfl ?_
 refine kh (kr rfl rfl (b_iquo _ (wI (x_1 + 7)) 8 (by decide))) rfl ?_
 obtain ⟨x_2, hx_2, h⟩ := kH h
 refine kh (kz (v := vI x_2) (by rw [← hx_2]; rfl)) rfl ?_
 refine ke (ka (kd (kc (kb 1 rfl ?_))))
 obtain ⟨x_3, hx_3, h⟩ := kf h
 refine kV (G_make (e := e8) Try.underlying41 ti5 rfl rfl rfl hS hx_3) rfl ?_
 rintro v_4 w hS
 refine kb 1 rfl ?_
 refine ke (ka (kd (kc (kb 2 rfl ?_))))
 obtain ⟨x_6, hx_6, h⟩ := kf h
 refine kj (by kernel_rfl) rfl (c_nat_value _ a0 va0  (ha0.now hS.fr).rp _ hx_6) rfl ?_
 rintro _ w ⟨rfl, hk_7, hS1⟩
 have hS := hS.call hS1
 have hG := hS.pick (os' := [own e8 v_4 x_3] ++ []) [0] (by decide) rfl
 obtain ⟨x_8, hx_8, h⟩ := kf h
 refine kj (by kernel_rfl) rfl (c_nat_fill _ x_3 (a0.take x_6) v_4 (slV3 va0 e32.sz 0 x_6 x_6)  _ hG.give ((ha0.tk3 hk_7).give (Nat.le_of_ble_eq_true rfl) hG) _ hx_8) rfl ?_
 rintro _ w ⟨rfl, hS1⟩
 have hS := hG.back hS1
 refine ke (ka (kd (kc (kb 2 rfl ?_))))
 refine ke (ka (ko ?_))
 cases h
 exact kx rfl rfl (hS.pick [0] (by decide) rfl)
theorem c_nat_Add (w0 : World) (a0 : List UInt32) (a1 : List UInt32) (va0 : Value) (va1 : Value) (ha0 : RP [] w0 e32 va0 a0) (ha1 : RP [] w0 e32 va1 a1) (r : List UInt32)
  (h : F.nat_Add a0 a1 = some r) : Calls Try.prog 32 #[va0, va1] w0 (Ret fun v w => St [] w0 w [own e32 v r]) := by
 refine ky 64 Try.func32 rfl rfl rfl ?_
 have hS := St.start w0
 refine km [(0, va0), (1, va1)] ⟨rfl, rfl, trivial⟩ ?_
 unfold F.nat_Add at h
 refine kd (kc (kb 1 rfl ?_))
 refine ke (ka (kd (kc (kb 1 rfl ?_))))
 obtain ⟨x_1, hx_1, h⟩ := kf h
 refine kj (by kernel_rfl) rfl (c_nat_value _ a0 va0  (ha0.now hS.fr).rp _ hx_1) rfl ?_
 rintro _ w ⟨rfl, hk_2, hS1⟩
 have hS := hS.call hS1
 refine kb 1 rfl ?_
 obtain ⟨x_3, hx_3, h⟩ := kf h
 refine kj (by kernel_rfl) rfl (c_nat_value _ a1 va1  (ha1.now hS.fr).rp _ hx_3) rfl ?_
 rintro _ w ⟨rfl, hk_4, hS1⟩
 have hS := hS.call hS1
 refine kb 2 rfl ?_
 refine ke (ka ?_)
 refine kN (r := r) (fun (g : List UInt32 × List UInt32) L w => ∃ (v_7 : Value) (v_10 : Value), L = [(5, v_7), (6, v_10)] ∧ RP [] w0 e32 v_7 g.1 ∧ RP [] w0 e32 v_10 g.2 ∧ St [] w0 w []) (F.nat_Add_K1) ?_ ?_
 rotate_left
 ·intro hK_12
  refine kd (kc (kb 1 rfl ?_))
  refine kh (kA Try.underlying23 rfl ((ha0.tk3 hk_2).now hS.fr)) rfl (kb 1 rfl ?_)
  refine kh (kA Try.underlying23 rfl ((ha1.tk3 hk_4).now hS.fr)) rfl (kb 1 rfl ?_)
  refine ke (ka ?_)
  refine kn rfl (fun hb_5 => ?_) (fun hb_5 => ?_)
  ·have h := if_t h hb_5
   refine kc (kb 4 rfl ?_)
   refine ke (ka ?_)
   exact km _ (by exact ⟨rfl, rfl, trivial⟩) (hK_12 (a1.take x_3, a0.take x_1) _ _ ⟨slV3 va1 e32.sz 0 x_3 x_3, slV3 va0 e32.sz 0 x_1 x_1, rfl, (ha1.tk3 hk_4), (ha0.tk3 hk_2), hS⟩ h)
  have h := if_f h hb_5
  refine kq (ka ?_)
  exact km _ (by exact ⟨rfl, rfl, trivial⟩) (hK_12 (a0.take x_1, a1.take x_3) _ _ ⟨slV3 va0 e32.sz 0 x_1 x_1, slV3 va1 e32.sz 0 x_3 x_3, rfl, (ha0.tk3 hk_2), (ha1.tk3 hk_4), hS⟩ h)
 rintro ⟨x_6, x_9⟩ L w hJ h
 try dsimp only at hJ
 obtain ⟨v_7, v_10, rfl, hR_8, hR_11, hS⟩ := hJ
 unfold F.nat_Add_K1 at h
 refine kd (kc (kb 1 rfl ?_))
 refine kh (kA Try.underlying23 rfl (hR_8.now hS.fr)) rfl (kb 1 rfl ?_)
 obtain ⟨x_13, hx_13, h⟩ := kf h
 refine kV (G_make (e := e32) Try.underlying23 ti52 rfl rfl rfl hS hx_13) rfl ?_
 rintro v_14 w hS
 refine kb 1 rfl ?_
 refine ke (ka (kd (kc (kb 1 rfl ?_))))
 refine ke (ka (kd (kd (kc (kb 1 rfl ?_)))))
 refine kh (kA Try.underlying23 rfl (hR_8.now hS.fr)) rfl (kb 1 rfl ?_)
 refine ke (ka (kv ?_))
 refine km [(5, v_7), (6, v_10), (7, v_14), (8, v64 0), (26, v_7), (27, vI (x_6.length : Int)), (28, vI 0)] ⟨rfl, rfl, rfl, rfl, rfl, rfl, rfl, trivial⟩ ?_
 refine kR (F.nat_Add_L1 x_6 x_9) (fun (s : UInt64 × Int × List UInt32) L w => L = [(5, v_7), (6, v_10), (7, v_14), (8, v64 s.1), (26, v_7), (27, vI (x_6.length : Int)), (28, vI s.2.1)] ∧ St [] w0 w [own e32 v_14 s.2.2]) ?_ (0, 0, x_13) ⟨rfl, hS⟩ h
 rintro k_35 ⟨x_16, x_17, x_18⟩ L w q_21 hI ih_20 h hk_19
 try dsimp only at hI
 obtain ⟨rfl, hS⟩ := hI
 unfold F.nat_Add_L1 at h
 refine kd (kc (kb 1 rfl ?_))
 refine ke (ka (kd ?_))
 refine kn rfl (fun hb_34 => ?_) (fun hb_34 => ?_)
 ·have h := if_t h hb_34
  refine kq (ka (kd (kv ?_)))
  refine kd (kc (kb 1 rfl ?_))
  obtain ⟨x_22, hx_22, h⟩ := kf h
  refine kh (G_ix Try.underlying23 ti52 rfl rfl (hR_8.now hS.fr) hx_22) rfl (kh (G_load Try.underlying52 rfl rfl (hR_8.now hS.fr) hx_22 rfl) rfl (kb 2 rfl ?_))
  refine ke (ka (kd (kc (kb 2 rfl ?_))))
  refine kh (kE rfl (cv_32_64 Try.underlying52 Try.underlying87 x_22)) rfl (kh (kr rfl rfl (b_add64 _ x_16 x_22.toUInt64)) rfl (kb 1 rfl ?_))
  refine ke (ka ?_)
  refine kN (r := q_21) (fun (g : UInt64) L w => L = [(5, v_7), (6, v_10), (7, v_14), (8, v64 g), (9, vI x_17), (26, v_7), (27, vI (x_6.length : Int)), (28, vI x_17)] ∧ St [] w0 w [own e32 v_14 x_18]) (F.nat_Add_K2 x_17 x_18) ?_ ?_
  rotate_left
  ·intro hK_27
   refine kd (kc (kb 2 rfl ?_))
   refine kh (kA Try.underlying23 rfl (hR_11.now hS.fr)) rfl (kb 1 rfl ?_)
   refine ke (ka ?_)
   refine kn rfl (fun hb_25 => ?_) (fun hb_25 => ?_)
   ·have h := if_t h hb_25
    refine kc (kb 3 rfl ?_)
    obtain ⟨x_23, hx_23, h⟩ := kf h
    refine kh (G_ix Try.underlying23 ti52 rfl rfl (hR_11.now hS.fr) hx_23) rfl (kh (G_load Try.underlying52 rfl rfl (hR_11.now hS.fr) hx_23 rfl) rfl (kh (kE rfl (cv_32_64 Try.underlying52 Try.underlying87 x_23)) rfl (kh (kr rfl rfl (b_add64 _ (x_16 + x_22.toUInt64) x_23.toUInt64)) rfl ?_)))
    obtain ⟨x_24, hx_24, h⟩ := kH h
    refine kh (kz (v := v64 x_24) (by rw [← hx_24]; rfl)) rfl ?_
    refine ke (ka ?_)
    exact km _ (by exact ⟨rfl, rfl, rfl, rfl, rfl, rfl, rfl, rfl, trivial⟩) (hK_27 x_24 _ _ ⟨rfl, hS⟩ h)
   have h := if_f h hb_25
   refine kq (ka ?_)
   exact km _ (by exact ⟨rfl, rfl, rfl, rfl, rfl, rfl, rfl, rfl, trivial⟩) (hK_27 (x_16 + x_22.toUInt64) _ _ ⟨rfl, hS⟩ h)
  rintro x_26 L w hJ h
  try dsimp only at hJ
  obtain ⟨rfl, hS⟩ := hJ
  unfold F.nat_Add_K2 at h
  refine kd (kc (kb 3 rfl ?_))
  refine kh (kE rfl (cv_64_32 Try.underlying87 Try.underlying52 x_26)) rfl ?_
  obtain ⟨x_28, hx_28, h⟩ := kf h
  refine kh (G_ix Try.underlying23 ti52 rfl rfl (hS.ro 0 rfl) hx_28) rfl (kW (G_storeE (t := x_26.toUInt32) ti52 rfl rfl hS (i := 0) rfl hx_28 rfl) ?_)
  intro w hS
  obtain ⟨x_29, hx_29, h⟩ := kH h
  rw [hx_29] at hS
  refine ke (ka (kc (kb 1 rfl ?_)))
  refine kh (kr rfl rfl (b_shr64_64 _ x_26 32)) rfl (kb 1 rfl ?_)
  refine ke (kJ ?_)
  refine ka (kc (kb 2 rfl ?_))
  refine ke ?_
  exact QE_rnd (wpN_le _ (by exact ⟨rfl, rfl, rfl, rfl, rfl, rfl, rfl, trivial⟩) (ih_20 (shr64 x_26 32, wI (x_17 + 1), x_29) _ _ ⟨rfl, hS⟩ (kK h hk_19)))
 have h := if_f h hb_34
 refine kP ?_
 refine kw (kw ?_)
 have h := kF h hk_19
 refine kQ ?_
 refine ka (kd (kc (kb 2 rfl ?_)))
 refine kh (kA Try.underlying23 rfl (hR_8.now hS.fr)) rfl (kb 1 rfl ?_)
 refine kh (kE rfl (cv_64_32 Try.underlying87 Try.underlying52 x_16)) rfl ?_
 obtain ⟨x_30, hx_30, h⟩ := kf h
 refine kh (G_ix Try.underlying23 ti52 rfl rfl (hS.ro 0 rfl) hx_30) rfl (kW (G_storeE (t := x_16.toUInt32) ti52 rfl rfl hS (i := 0) rfl hx_30 rfl) ?_)
 intro w hS
 obtain ⟨x_31, hx_31, h⟩ := kH h
 rw [hx_31] at hS
 refine ke (ka (kd (kc (kb 1 rfl ?_))))
 obtain ⟨x_32, hx_32, h⟩ := kf h
 refine kj (by kernel_rfl) rfl (c_nat_proper _ x_31 v_14  (hS.ro 0 rfl).rp _ hx_32) rfl ?_
 rintro _ w ⟨rfl, hk_33, hS1⟩
 have hS := hS.call hS1
 refine kb 1 rfl ?_
 refine ke (ka (ko ?_))
 cases h
 replace hS := hS.trunc3 (i := 0) rfl hk_33
 exact kx rfl rfl (hS.pick [0] (by decide) rfl)
end Go.Proofs
