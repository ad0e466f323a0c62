import Derived.Test.YtpbgncmffgnohaaGreatUW0
import Derived.Test.YtpbgncmffgnohaaGreatGkFnat
import Derived.Test.YtpbgncmffgnohaaGreatUWlib
set_option linter.unusedVariables false
set_option linter.unusedSimpArgs false
set_option linter.unusedVariables false
set_option maxRecDepth 4000
namespace Go.Proofs
open Go Go.RowKit Go.Gk
theorem c_nat_proper (w0 : World) (a0 : List UInt32) (va0 : Value) (ha0 : RP [] w0 e32 va0 a0) (r : Nat)
  (h : F.nat_proper a0 = some r) : Calls Tryz.prog 77 #[va0] w0 (Ret fun v w => v = slV3 va0 e32.sz 0 r r ∧ r ≤ a0.length ∧ St [] w0 w []) := by
 refine kz 26 Tryz.func77 rfl rfl rfl ?_
 have hS := St.start w0
 refine kn [(0, va0)] ⟨rfl, trivial⟩ ?_
 unfold F.nat_proper at h
 refine ke (kc (kb 1 rfl ?_))
 refine kf (ka (ke (kw ?_)))
 refine kn [(0, slV va0 e32.sz 0 a0.length)] ⟨(congrArg some ha0.1.full), trivial⟩ ?_
 refine kS (F.nat_proper_L1 a0) (fun (s : Nat) L w => L = [(0, slV va0 e32.sz 0 s)] ∧ s ≤ a0.length ∧ St [] w0 w []) ?_ a0.length ⟨rfl, (Nat.le_refl _), hS⟩ h
 rintro k_13 x_1 L w q_5 hI ih_4 h hk_3
 try dsimp only at hI
 obtain ⟨rfl, hK_2, hS⟩ := hI
 unfold F.nat_proper_L1 at h
 refine ke ?_
 refine kO (r := q_5) (fun (g : Bool) L w => L = [(0, slV va0 e32.sz 0 x_1), (14, vB g)] ∧ St [] w0 w []) (F.nat_proper_K1 a0 x_1) ?_ ?_
 rotate_left
 ·intro hK_9
  refine kc (kb 1 rfl ?_)
  refine ki (kB Tryz.underlying24 rfl ((ha0.now hS.fr).tk hK_2)) rfl (kb 2 rfl ?_)
  cases hb_6 : (decide ((0 : Int) < ((a0.take x_1).length : Int)))
  case true =>
   have h := if_t h hb_6
   try simp only [hb_6]
   refine kb 2 rfl ?_
   refine kT (t := 6) rfl rfl (kB Tryz.underlying24 rfl ((ha0.now hS.fr).tk hK_2)) rfl (kb 1 rfl ?_)
   obtain ⟨x_7, hx_7, h⟩ := kg h
   refine kT (t := 6) rfl rfl (G_ix_room Tryz.underlying24 ti52 rfl rfl (ha0.now hS.fr) hK_2 hx_7) rfl (kT (t := 6) rfl rfl (G_load Tryz.underlying52 rfl rfl (ha0.now hS.fr) (getO_take hx_7) rfl) rfl (kT (t := 6) rfl rfl (kt rfl rfl (b_eql32 _ x_7 0)) rfl (kb 1 rfl ?_)))
   refine kf (ka ?_)
   exact kn _ (by exact ⟨rfl, rfl, trivial⟩) (hK_9 (x_7 == 0) _ _ ⟨rfl, hS⟩ h)
  case false =>
   have h := if_f h hb_6
   try simp only [hb_6]
   refine kb 8 rfl ?_
   refine kf (ka ?_)
   exact kn _ (by exact ⟨rfl, rfl, trivial⟩) (hK_9 false _ _ ⟨rfl, hS⟩ h)
 rintro x_8 L w hJ h
 try dsimp only at hJ
 obtain ⟨rfl, hS⟩ := hJ
 unfold F.nat_proper_K1 at h
 refine ko rfl (fun hb_12 => ?_) (fun hb_12 => ?_)
 ·have h := if_t h hb_12
  refine kr (ka (kw ?_))
  refine kc (kb 2 rfl ?_)
  refine ki (kB Tryz.underlying24 rfl ((ha0.now hS.fr).tk hK_2)) rfl (kb 1 rfl ?_)
  obtain ⟨hg_10, h⟩ := grd_some h
  refine ki (G_slh_room Tryz.underlying24 ti52 rfl rfl (ha0.now hS.fr) (tkO_of hg_10)) rfl (kb 1 rfl ?_)
  refine kf (kK ?_)
  exact QE_rnd (wpN_le _ (by exact ⟨rfl, trivial⟩) (ih_4 ((wI (((a0.take x_1).length : Int) - 1) : Int).toNat) _ _ ⟨rfl, hg_10.2, hS⟩ (kL h hk_3)))
 have h := if_f h hb_12
 refine kQ ?_
 refine kx (kx ?_)
 have h := kG h hk_3
 refine kR ?_
 refine ka (ke (kc (kb 2 rfl ?_)))
 refine ki (kB Tryz.underlying24 rfl ((ha0.now hS.fr).tk hK_2)) rfl (kb 1 rfl ?_)
 refine ki (kB Tryz.underlying24 rfl ((ha0.now hS.fr).tk hK_2)) rfl ?_
 obtain ⟨hg_11, h⟩ := grd_some h
 refine ki (G_slh3 Tryz.underlying24 ti52 rfl rfl rfl ((ha0.now hS.fr).tk hK_2) hg_11) rfl (kb 1 rfl ?_)
 refine kf (ka (kq ?_))
 cases h
 exact ky rfl rfl ⟨(ha0.1.cut3 _ _), (Nat.le_trans hg_11.2.1 (len_take_le _ _)), hS⟩
theorem c_nat_FromBytes (w0 : World) (a0 : List UInt8) (va0 : Value) (ha0 : RP [] w0 e8 va0 a0) (r : List UInt32)
  (h : F.nat_FromBytes a0 = some r) : Calls Tryz.prog 37 #[va0] w0 (Ret fun v w => St [] w0 w [own e32 v r]) := by
 refine kz 40 Tryz.func37 rfl rfl rfl ?_
 have hS := St.start w0
 refine kn [(0, va0)] ⟨rfl, trivial⟩ ?_
 unfold F.nat_FromBytes at h
 refine ke (kc (kb 1 rfl ?_))
 refine kf (ka (ke (kc (kb 1 rfl ?_))))
 refine ki (kB Tryz.underlying23 rfl (ha0.now hS.fr)) rfl (kb 1 rfl ?_)
 refine ki (kt rfl rfl (b_iquo _ (wI ((a0.length : Int) + 3)) 4 (by decide))) rfl ?_
 obtain ⟨x_1, hx_1, h⟩ := kg h
 refine kW (G_make (e := e32) Tryz.underlying24 ti52 rfl rfl rfl hS hx_1) rfl ?_
 rintro v_2 w hS
 refine kb 1 rfl ?_
 refine kf (ka (ke (ke (kc (kb 1 rfl ?_)))))
 refine ki (kB Tryz.underlying23 rfl (ha0.now hS.fr)) rfl (kb 1 rfl ?_)
 refine kf (ka (kw ?_))
 refine kn [(0, va0), (3, v_2), (12, va0), (13, vI (a0.length : Int)), (14, vI 0)] ⟨rfl, rfl, rfl, rfl, rfl, trivial⟩ ?_
 refine kS (F.nat_FromBytes_L1 a0) (fun (s : Int × List UInt32) L w => L = [(0, va0), (3, v_2), (12, va0), (13, vI (a0.length : Int)), (14, vI s.1)] ∧ St [] w0 w [own e32 v_2 s.2]) ?_ (0, x_1) ⟨rfl, hS⟩ h
 rintro k_18 ⟨x_4, x_5⟩ L w q_8 hI ih_7 h hk_6
 try dsimp only at hI
 obtain ⟨rfl, hS⟩ := hI
 unfold F.nat_FromBytes_L1 at h
 refine ke (kc (kb 1 rfl ?_))
 refine kf (ka (ke ?_))
 refine ko rfl (fun hb_17 => ?_) (fun hb_17 => ?_)
 ·have h := if_t h hb_17
  refine kr (ka (ke (kw ?_)))
  refine ke (kc (kb 1 rfl ?_))
  obtain ⟨x_9, hx_9, h⟩ := kg h
  refine ki (G_ix Tryz.underlying23 ti5 rfl rfl (ha0.now hS.fr) hx_9) rfl (ki (G_load Tryz.underlying5 rfl rfl (ha0.now hS.fr) hx_9 rfl) rfl (kb 2 rfl ?_))
  refine kf (ka (ke (kc (kb 1 rfl ?_))))
  refine ki (kB Tryz.underlying23 rfl (ha0.now hS.fr)) rfl (kb 3 rfl ?_)
  obtain ⟨x_10, hx_10, h⟩ := kI h
  refine ki (kA (v := vI x_10) (by rw [← hx_10]; rfl)) rfl ?_
  refine kf (ka ?_)
  refine wpC_regionS (fun w' => St [] w0 w' [own e32 v_2 x_5]) (fun i => !([13].contains i)) hmix (fun _ _ _ hf => hf.2) (fun _ _ hf => hf) (by kernel_rfl) ?_
  have hS := hS.drew
  show lxE _ _ _ _ _ _ _ [0, 1, 2, 3, 4, 5, 6, 7, 8, 9, 10, 11, 12, 13] _ _
  refine kj hS rfl rfl (fun w hF => km rfl) rfl (kj hS rfl rfl (fun w hF => km rfl) rfl ?_)
  refine kj hS rfl rfl (fun w hF => kt rfl rfl (b_iquo _ x_10 4 (by decide))) rfl ?_
  obtain ⟨x_11, hx_11, h⟩ := kg h
  refine kj hS rfl rfl (fun w hF => G_ix Tryz.underlying24 ti52 rfl rfl (hF.ro 0 rfl) hx_11) rfl (kj hS rfl rfl (fun w hF => G_load Tryz.underlying52 rfl rfl (hF.ro 0 rfl) hx_11 rfl) rfl (kj hS rfl rfl (fun w hF => km rfl) rfl (kj hS rfl rfl (fun w hF => kF rfl (cv_8_32 Tryz.underlying5 Tryz.underlying52 x_9)) rfl (kj hS rfl rfl (fun w hF => km rfl) rfl ?_))))
  refine kj hS rfl rfl (fun w hF => kt rfl rfl (b_irem _ x_10 4 (by decide))) rfl ?_
  refine kj hS rfl rfl (fun w hF => kt rfl rfl (b_imul _ 8 (Int.tmod x_10 4))) rfl ?_
  obtain ⟨hg_12, h⟩ := grd_some h
  refine kj hS rfl rfl (fun w hF => kt rfl rfl (b_shl32_i _ x_9.toUInt32 (wI (8 * (Int.tmod x_10 4))) hg_12)) rfl (kj hS rfl rfl (fun w hF => kt rfl rfl (b_or32 _ x_11 (shl32 x_9.toUInt32 (((wI (8 * (Int.tmod x_10 4)))).toNat)))) rfl ?_)
  obtain ⟨x_13, hx_13, h⟩ := kg h
  refine kj hS rfl rfl (fun w hF => G_ix Tryz.underlying24 ti52 rfl rfl (hF.ro 0 rfl) hx_13) rfl (ka1 hS rfl rfl (G_storeE (t := (x_11 ||| (shl32 x_9.toUInt32 (((wI (8 * (Int.tmod x_10 4)))).toNat)))) ti52 rfl rfl hS (i := 0) rfl hx_13 rfl) ?_)
  intro w hS
  obtain ⟨x_14, hx_14, h⟩ := kI h
  rw [hx_14] at hS
  refine kY trivial ?_
  refine kK ?_
  refine ka (kc (kb 2 rfl ?_))
  refine kf ?_
  exact QE_rnd (wpN_le _ (by exact ⟨rfl, rfl, rfl, rfl, rfl, trivial⟩) (ih_7 (wI (x_4 + 1), x_14) _ _ ⟨rfl, hS⟩ (kL h hk_6)))
 have h := if_f h hb_17
 refine kQ ?_
 refine kx (kx ?_)
 have h := kG h hk_6
 refine kR ?_
 refine ka (ke (kc (kb 1 rfl ?_)))
 obtain ⟨x_15, hx_15, h⟩ := kg h
 refine kk (by kernel_rfl) rfl (c_nat_proper _ x_5 v_2  (hS.ro 0 rfl).rp _ hx_15) rfl ?_
 rintro _ w ⟨rfl, hk_16, hS1⟩
 have hS := hS.call hS1
 refine kb 1 rfl ?_
 refine kf (ka (kq ?_))
 cases h
 replace hS := hS.trunc3 (i := 0) rfl hk_16
 exact ky rfl rfl (hS.pick [0] (by decide) rfl)
theorem c_nat_value (w0 : World) (a0 : List UInt32) (va0 : Value) (ha0 : RP [] w0 e32 va0 a0) (r : Nat)
  (h : F.nat_value a0 = some r) : Calls Tryz.prog 61 #[va0] w0 (Ret fun v w => v = slV3 va0 e32.sz 0 r r ∧ r ≤ a0.length ∧ St [] w0 w []) := by
 refine kz 5 Tryz.func61 rfl rfl rfl ?_
 have hS := St.start w0
 refine kn [(0, va0)] ⟨rfl, trivial⟩ ?_
 unfold F.nat_value at h
 refine ke (kc (kb 1 rfl ?_))
 refine kf (ka (ke (kc (kb 1 rfl ?_))))
 obtain ⟨x_1, hx_1, h⟩ := kg h
 refine kk (by kernel_rfl) rfl (c_nat_proper _ a0 va0  (ha0.now hS.fr).rp _ hx_1) rfl ?_
 rintro _ w ⟨rfl, hk_2, hS1⟩
 have hS := hS.call hS1
 refine kb 1 rfl ?_
 refine kf (ka (kq ?_))
 cases h
 exact ky rfl rfl ⟨rfl, hk_2, hS⟩
theorem c_nat_Bits (w0 : World) (a0 : List UInt32) (va0 : Value) (ha0 : RP [] w0 e32 va0 a0) (r : Int)
  (h : F.nat_Bits a0 = some r) : Calls Tryz.prog 118 #[va0] w0 (Ret fun v w => v = vI r ∧ St [] w0 w []) := by
 refine kz 21 Tryz.func118 rfl rfl rfl ?_
 have hS := St.start w0
 refine kn [(0, va0)] ⟨rfl, trivial⟩ ?_
 unfold F.nat_Bits at h
 refine ke (kc (kb 1 rfl ?_))
 refine kf (ka (ke (kc (kb 1 rfl ?_))))
 obtain ⟨x_1, hx_1, h⟩ := kg h
 refine kk (by kernel_rfl) rfl (c_nat_value _ a0 va0  (ha0.now hS.fr).rp _ hx_1) rfl ?_
 rintro _ w ⟨rfl, hk_2, hS1⟩
 have hS := hS.call hS1
 refine kb 1 rfl ?_
 refine kf (ka (ke (ke (kc (kb 1 rfl ?_)))))
 refine ki (kB Tryz.underlying24 rfl ((ha0.tk3 hk_2).now hS.fr)) rfl (kb 1 rfl ?_)
 refine kf (ka ?_)
 refine ko rfl (fun hb_5 => ?_) (fun hb_5 => ?_)
 ·have h := if_t h hb_5
  refine ke (kc (kb 1 rfl ?_))
  refine kf (ka (kq (kv ?_)))
  cases h
  exact ky rfl rfl ⟨rfl, hS⟩
 have h := if_f h hb_5
 refine kr (ka (ke (kc (kb 1 rfl ?_))))
 refine ki (kB Tryz.underlying24 rfl ((ha0.tk3 hk_2).now hS.fr)) rfl (kb 1 rfl ?_)
 refine ki (kt rfl rfl (b_imul _ 32 (wI (((a0.take x_1).length : Int) - 1)))) rfl (kb 2 rfl ?_)
 refine ki (kB Tryz.underlying24 rfl ((ha0.tk3 hk_2).now hS.fr)) rfl (kb 1 rfl ?_)
 obtain ⟨x_3, hx_3, h⟩ := kg h
 refine ki (G_ix Tryz.underlying24 ti52 rfl rfl ((ha0.tk3 hk_2).now hS.fr) hx_3) rfl (ki (G_load Tryz.underlying52 rfl rfl ((ha0.tk3 hk_2).now hS.fr) hx_3 rfl) rfl ?_)
 obtain ⟨x_4, hx_4, h⟩ := kg h
 refine kk (by kernel_rfl) rfl (c_math_bits_Len32 _ x_3    _ hx_4) rfl ?_
 rintro _ w ⟨rfl, hS1⟩
 have hS := hS.call hS1
 refine kb 2 rfl ?_
 refine kf (ka (kq ?_))
 cases h
 exact ky rfl rfl ⟨rfl, hS⟩
theorem c_nat_fill (w0 : World) (a0 : List UInt8) (a1 : List UInt32) (va0 : Value) (va1 : Value) (S : List Nat) (hS : St S w0 w0 [own e8 va0 a0]) (ha1 : RP S w0 e32 va1 a1) (r : List UInt8)
  (h : F.nat_fill a0 a1 = some r) : Calls Tryz.prog 146 #[va0, va1] w0 (Ret fun v w => v = .tuple #[] ∧ St S w0 w [own e8 va0 r]) := by
 refine kz 38 Tryz.func146 rfl rfl rfl ?_
 refine kn [(0, va0), (1, va1)] ⟨rfl, rfl, trivial⟩ ?_
 unfold F.nat_fill at h
 refine ke (kc (kb 1 rfl ?_))
 refine ki (kB Tryz.underlying23 rfl (hS.ro 0 rfl)) rfl (kb 1 rfl ?_)
 refine kf (ka (kw ?_))
 refine kn [(0, va0), (1, va1), (7, vI (a0.length : Int)), (8, vI 0)] ⟨rfl, rfl, rfl, rfl, trivial⟩ ?_
 refine kS (F.nat_fill_L1 a0 a1) (fun (s : Int × List UInt8) L w => L = [(0, va0), (1, va1), (7, vI (a0.length : Int)), (8, vI s.1)] ∧ St S w0 w [own e8 va0 s.2]) ?_ (0, a0) ⟨rfl, hS⟩ h
 rintro k_18 ⟨x_2, x_3⟩ L w q_6 hI ih_5 h hk_4
 try dsimp only at hI
 obtain ⟨rfl, hS⟩ := hI
 unfold F.nat_fill_L1 at h
 refine ke (kc (kb 1 rfl ?_))
 refine kf (ka (ke ?_))
 refine ko rfl (fun hb_17 => ?_) (fun hb_17 => ?_)
 ·have h := if_t h hb_17
  refine kr (ka ?_)
  refine kO (r := q_6) (fun (g : List UInt8) L w => L = [(0, va0), (1, va1), (7, vI (a0.length : Int)), (8, vI x_2)] ∧ St S w0 w [own e8 va0 g]) (F.nat_fill_K1 x_2) ?_ ?_
  rotate_left
  ·intro hK_16
   refine kw ?_
   refine ke (kc (kb 2 rfl ?_))
   refine kf (ka (ke (kc (kb 1 rfl ?_))))
   refine ki (kB Tryz.underlying23 rfl (hS.ro 0 rfl)) rfl (kb 3 rfl ?_)
   obtain ⟨x_7, hx_7, h⟩ := kI h
   refine ki (kA (v := vI x_7) (by rw [← hx_7]; rfl)) rfl ?_
   refine kf (ka (ke (kc (kb 2 rfl ?_))))
   obtain ⟨x_8, hx_8, h⟩ := kg h
   refine ki (G_ix Tryz.underlying23 ti5 rfl rfl (hS.ro 0 rfl) hx_8) rfl (kX (G_storeE (t := 0) ti5 rfl rfl hS (i := 0) rfl hx_8 rfl) ?_)
   intro w hS
   obtain ⟨x_9, hx_9, h⟩ := kI h
   rw [hx_9] at hS
   refine kf (ka (ke (kc (kb 1 rfl ?_))))
   refine ki (kt rfl rfl (b_iquo _ x_7 4 (by decide))) rfl ?_
   refine kb 1 rfl ?_
   refine ki (kB Tryz.underlying24 rfl (ha1.now hS.fr)) rfl (kb 1 rfl ?_)
   refine kf (ka ?_)
   refine ko rfl (fun hb_14 => ?_) (fun hb_14 => ?_)
   ·have h := if_t h hb_14
    refine kc (kb 4 rfl ?_)
    refine ki (kt rfl rfl (b_iquo _ x_7 4 (by decide))) rfl ?_
    obtain ⟨x_10, hx_10, h⟩ := kg h
    refine ki (G_ix Tryz.underlying24 ti52 rfl rfl (ha1.now hS.fr) hx_10) rfl (ki (G_load Tryz.underlying52 rfl rfl (ha1.now hS.fr) hx_10 rfl) rfl (kb 1 rfl ?_))
    refine ki (kt rfl rfl (b_irem _ x_7 4 (by decide))) rfl ?_
    refine ki (kt rfl rfl (b_imul _ 8 (Int.tmod x_7 4))) rfl ?_
    obtain ⟨hg_11, h⟩ := grd_some h
    refine ki (kt rfl rfl (b_shr32_i _ x_10 (wI (8 * (Int.tmod x_7 4))) hg_11)) rfl (ki (kF rfl (cv_32_8 Tryz.underlying52 Tryz.underlying5 (shr32 x_10 (((wI (8 * (Int.tmod x_7 4)))).toNat)))) rfl ?_)
    obtain ⟨x_12, hx_12, h⟩ := kg h
    refine ki (G_ix Tryz.underlying23 ti5 rfl rfl (hS.ro 0 rfl) hx_12) rfl (kX (G_storeE (t := ((shr32 x_10 (((wI (8 * (Int.tmod x_7 4)))).toNat)).toUInt8)) ti5 rfl rfl hS (i := 0) rfl hx_12 rfl) ?_)
    intro w hS
    obtain ⟨x_13, hx_13, h⟩ := kI h
    rw [hx_13] at hS
    refine kf (kK ?_)
    refine ka ?_
    exact kn _ (by exact ⟨rfl, rfl, rfl, rfl, trivial⟩) (hK_16 x_13 _ _ ⟨rfl, hS⟩ h)
   have h := if_f h hb_14
   refine kr (kK ?_)
   refine ka ?_
   exact kn _ (by exact ⟨rfl, rfl, rfl, rfl, trivial⟩) (hK_16 x_9 _ _ ⟨rfl, hS⟩ h)
  rintro x_15 L w hJ h
  try dsimp only at hJ
  obtain ⟨rfl, hS⟩ := hJ
  unfold F.nat_fill_K1 at h
  refine kc (kb 2 rfl ?_)
  refine kf ?_
  exact QE_rnd (wpN_le _ (by exact ⟨rfl, rfl, rfl, rfl, trivial⟩) (ih_5 (wI (x_2 + 1), x_15) _ _ ⟨rfl, hS⟩ (kL h hk_4)))
 have h := if_f h hb_17
 refine kQ ?_
 refine kx (kx ?_)
 have h := kG h hk_4
 refine kR ?_
 cases h
 exact QE_end0 rfl ⟨rfl, hS.pick [0] (by decide) rfl⟩
theorem c_nat_Bytes (w0 : World) (a0 : List UInt32) (va0 : Value) (ha0 : RP [] w0 e32 va0 a0) (r : List UInt8)
  (h : F.nat_Bytes a0 = some r) : Calls Tryz.prog 129 #[va0] w0 (Ret fun v w => St [] w0 w [own e8 v r]) := by
 refine kz 16 Tryz.func129 rfl rfl rfl ?_
 have hS := St.start w0
 refine kn [(0, va0)] ⟨rfl, trivial⟩ ?_
 unfold F.nat_Bytes at h
 refine ke (kc (kb 1 rfl ?_))
 refine kf (ka (ke (kc (kb 1 rfl ?_))))
 obtain ⟨x_1, hx_1, h⟩ := kg h
 refine kk (by kernel_rfl) rfl (c_nat_Bits _ a0 va0  (ha0.now hS.fr).rp _ hx_1) rfl ?_
 rintro _ w ⟨rfl, hS1⟩
 have hS := hS.call hS1
 refine kb 1 rfl ?_
 refine ki (kt rfl rfl (b_iquo _ (wI (x_1 + 7)) 8 (by decide))) rfl ?_
 obtain ⟨x_2, hx_2, h⟩ := kI h
 refine ki (kA (v := vI x_2) (by rw [← hx_2]; rfl)) rfl ?_
 refine kf (ka (ke (kc (kb 1 rfl ?_))))
 obtain ⟨x_3, hx_3, h⟩ := kg h
 refine kW (G_make (e := e8) Tryz.underlying23 ti5 rfl rfl rfl hS hx_3) rfl ?_
 rintro v_4 w hS
 refine kb 1 rfl ?_
 refine kf (ka (ke (kc (kb 2 rfl ?_))))
 obtain ⟨x_6, hx_6, h⟩ := kg h
 refine kk (by kernel_rfl) rfl (c_nat_value _ a0 va0  (ha0.now hS.fr).rp _ hx_6) rfl ?_
 rintro _ w ⟨rfl, hk_7, hS1⟩
 have hS := hS.call hS1
 have hG := hS.pick (os' := [own e8 v_4 x_3] ++ []) [0] (by decide) rfl
 obtain ⟨x_8, hx_8, h⟩ := kg h
 refine kk (by kernel_rfl) rfl (c_nat_fill _ x_3 (a0.take x_6) v_4 (slV3 va0 e32.sz 0 x_6 x_6)  _ hG.give ((ha0.tk3 hk_7).give (Nat.le_of_ble_eq_true rfl) hG) _ hx_8) rfl ?_
 rintro _ w ⟨rfl, hS1⟩
 have hS := hG.back hS1
 refine kf (ka (ke (kc (kb 2 rfl ?_))))
 refine kf (ka (kq ?_))
 cases h
 exact ky rfl rfl (hS.pick [0] (by decide) rfl)
theorem c_nat_Cmp (w0 : World) (a0 : List UInt32) (a1 : List UInt32) (va0 : Value) (va1 : Value) (ha0 : RP [] w0 e32 va0 a0) (ha1 : RP [] w0 e32 va1 a1) (r : Int)
  (h : F.nat_Cmp a0 a1 = some r) : Calls Tryz.prog 27 #[va0, va1] w0 (Ret fun v w => v = vI r ∧ St [] w0 w []) := by
 refine kz 51 Tryz.func27 rfl rfl rfl ?_
 have hS := St.start w0
 refine kn [(0, va0), (1, va1)] ⟨rfl, rfl, trivial⟩ ?_
 unfold F.nat_Cmp at h
 refine ke (kc (kb 1 rfl ?_))
 refine kf (ka (ke (kc (kb 1 rfl ?_))))
 obtain ⟨x_1, hx_1, h⟩ := kg h
 refine kk (by kernel_rfl) rfl (c_nat_value _ a0 va0  (ha0.now hS.fr).rp _ hx_1) rfl ?_
 rintro _ w ⟨rfl, hk_2, hS1⟩
 have hS := hS.call hS1
 refine kb 1 rfl ?_
 obtain ⟨x_3, hx_3, h⟩ := kg h
 refine kk (by kernel_rfl) rfl (c_nat_value _ a1 va1  (ha1.now hS.fr).rp _ hx_3) rfl ?_
 rintro _ w ⟨rfl, hk_4, hS1⟩
 have hS := hS.call hS1
 refine kb 2 rfl ?_
 refine kf (ka (ke (kw ?_)))
 refine ke (kc (kb 1 rfl ?_))
 refine ki (kB Tryz.underlying24 rfl ((ha0.tk3 hk_2).now hS.fr)) rfl (kb 1 rfl ?_)
 refine ki (kB Tryz.underlying24 rfl ((ha1.tk3 hk_4).now hS.fr)) rfl (kb 2 rfl ?_)
 refine kf (ka ?_)
 refine ko rfl (fun hb_19 => ?_) (fun hb_19 => ?_)
 ·have h := if_t h hb_19
  refine ke (kc (kb 1 rfl ?_))
  refine kf (ka (kq (QE_blk_r ?_)))
  refine kv ?_
  cases h
  exact ky rfl rfl ⟨rfl, hS⟩
 have h := if_f h hb_19
 refine ke (kc (kb 1 rfl ?_))
 refine ki (kB Tryz.underlying24 rfl ((ha0.tk3 hk_2).now hS.fr)) rfl (kb 1 rfl ?_)
 refine ki (kB Tryz.underlying24 rfl ((ha1.tk3 hk_4).now hS.fr)) rfl (kb 2 rfl ?_)
 refine kf (ka ?_)
 refine ko rfl (fun hb_18 => ?_) (fun hb_18 => ?_)
 ·have h := if_t h hb_18
  refine ke (kc (kb 1 rfl ?_))
  refine kf (ka (kq (QE_blk_r ?_)))
  refine kv ?_
  cases h
  exact ky rfl rfl ⟨rfl, hS⟩
 have h := if_f h hb_18
 refine kr (kK ?_)
 refine ka (ke (ke (kc (kb 1 rfl ?_))))
 refine ki (kB Tryz.underlying24 rfl ((ha0.tk3 hk_2).now hS.fr)) rfl (kb 1 rfl ?_)
 obtain ⟨x_5, hx_5, h⟩ := kI h
 refine ki (kA (v := vI x_5) (by rw [← hx_5]; rfl)) rfl ?_
 refine kf (ka (kw ?_))
 refine kn [(5, slV3 va0 e32.sz 0 x_1 x_1), (6, slV3 va1 e32.sz 0 x_3 x_3), (7, vI x_5)] ⟨rfl, rfl, rfl, trivial⟩ ?_
 refine kS (F.nat_Cmp_L1 a0 a1 x_1 x_3) (fun (s : Int) L w => L = [(5, slV3 va0 e32.sz 0 x_1 x_1), (6, slV3 va1 e32.sz 0 x_3 x_3), (7, vI s)] ∧ St [] w0 w []) ?_ x_5 ⟨rfl, hS⟩ h
 rintro k_17 x_6 L w q_9 hI ih_8 h hk_7
 try dsimp only at hI
 obtain ⟨rfl, hS⟩ := hI
 unfold F.nat_Cmp_L1 at h
 refine ke (ke (kc (kb 2 rfl ?_)))
 refine kf (ka ?_)
 refine ko rfl (fun hb_16 => ?_) (fun hb_16 => ?_)
 ·have h := if_t h hb_16
  refine kr (ka (ke (kw ?_)))
  refine kw ?_
  refine ke ?_
  refine kN (fun w' => St [] w0 w' []) (fun _ => true) hmix (fun _ _ _ hf => hf.2) (fun _ _ hf => hf) (by kernel_rfl) ?_
  have hS := hS.drew
  show lxE _ _ _ _ _ _ _ [0, 1, 2, 3, 4, 5, 6, 7, 8, 9] _ _
  refine kj hS rfl rfl (fun w hF => km rfl) rfl (kj hS rfl rfl (fun w hF => km rfl) rfl ?_)
  obtain ⟨x_10, hx_10, h⟩ := kg h
  refine kj hS rfl rfl (fun w hF => G_ix Tryz.underlying24 ti52 rfl rfl ((ha0.tk3 hk_2).now hF.fr) hx_10) rfl (kj hS rfl rfl (fun w hF => G_load Tryz.underlying52 rfl rfl ((ha0.tk3 hk_2).now hF.fr) hx_10 rfl) rfl (kj hS rfl rfl (fun w hF => km rfl) rfl (kj hS rfl rfl (fun w hF => km rfl) rfl ?_)))
  obtain ⟨x_11, hx_11, h⟩ := kg h
  refine kj hS rfl rfl (fun w hF => G_ix Tryz.underlying24 ti52 rfl rfl ((ha1.tk3 hk_4).now hF.fr) hx_11) rfl (kj hS rfl rfl (fun w hF => G_load Tryz.underlying52 rfl rfl ((ha1.tk3 hk_4).now hF.fr) hx_11 rfl) rfl (kj hS rfl rfl (fun w hF => kt rfl rfl (b_lss32 _ x_10 x_11)) rfl (kj hS rfl rfl (fun w hF => kA rfl) rfl (kY hS ?_))))
  refine ka ?_
  refine ko rfl (fun hb_15 => ?_) (fun hb_15 => ?_)
  ·have h := if_t h hb_15
   refine ke (kc (kb 1 rfl ?_))
   refine kf (ka (kq (QE_blk_r ?_)))
   refine QE_blk_r ?_
   refine kv (kv ?_)
   have h := kG h hk_7
   refine QE_blk_r ?_
   refine kv ?_
   cases h
   exact ky rfl rfl ⟨rfl, hS⟩
  have h := if_f h hb_15
  refine ke ?_
  refine kN (fun w' => St [] w0 w' []) (fun _ => true) hmix (fun _ _ _ hf => hf.2) (fun _ _ hf => hf) (by kernel_rfl) ?_
  have hS := hS.drew
  show lxE _ _ _ _ _ _ _ [0, 1, 2, 3, 4, 5, 6, 7, 8, 9] _ _
  refine kj hS rfl rfl (fun w hF => km rfl) rfl (kj hS rfl rfl (fun w hF => km rfl) rfl ?_)
  obtain ⟨x_12, hx_12, h⟩ := kg h
  refine kj hS rfl rfl (fun w hF => G_ix Tryz.underlying24 ti52 rfl rfl ((ha0.tk3 hk_2).now hF.fr) hx_12) rfl (kj hS rfl rfl (fun w hF => G_load Tryz.underlying52 rfl rfl ((ha0.tk3 hk_2).now hF.fr) hx_12 rfl) rfl (kj hS rfl rfl (fun w hF => km rfl) rfl (kj hS rfl rfl (fun w hF => km rfl) rfl ?_)))
  obtain ⟨x_13, hx_13, h⟩ := kg h
  refine kj hS rfl rfl (fun w hF => G_ix Tryz.underlying24 ti52 rfl rfl ((ha1.tk3 hk_4).now hF.fr) hx_13) rfl (kj hS rfl rfl (fun w hF => G_load Tryz.underlying52 rfl rfl ((ha1.tk3 hk_4).now hF.fr) hx_13 rfl) rfl (kj hS rfl rfl (fun w hF => kt rfl rfl (b_gtr32 _ x_12 x_13)) rfl (kj hS rfl rfl (fun w hF => kA rfl) rfl (kY hS ?_))))
  refine ka ?_
  refine ko rfl (fun hb_14 => ?_) (fun hb_14 => ?_)
  ·have h := if_t h hb_14
   refine ke (kc (kb 1 rfl ?_))
   refine kf (ka (kq (QE_blk_r ?_)))
   refine QE_blk_r ?_
   refine kv (kv ?_)
   have h := kG h hk_7
   refine QE_blk_r ?_
   refine kv ?_
   cases h
   exact ky rfl rfl ⟨rfl, hS⟩
  have h := if_f h hb_14
  refine kr (kK ?_)
  refine kK ?_
  refine ka (kc (kb 3 rfl ?_))
  refine kf ?_
  exact QE_rnd (wpN_le _ (by exact ⟨rfl, rfl, rfl, trivial⟩) (ih_8 (wI (x_6 - 1)) _ _ ⟨rfl, hS⟩ (kL h hk_7)))
 have h := if_f h hb_16
 refine kQ ?_
 refine kx (kx ?_)
 have h := kG h hk_7
 refine kR ?_
 refine ka (ke (kc (kb 1 rfl ?_)))
 refine kf (ka (kq ?_))
 cases h
 exact ky rfl rfl ⟨rfl, hS⟩
theorem c_nat_short (w0 : World) (a0 : List UInt32) (a1 : UInt32) (va0 : Value) (ha0 : RP [] w0 e32 va0 a0) (r : List UInt32 × UInt32)
  (h : F.nat_short a0 a1 = some r) : Calls Tryz.prog 143 #[va0, v32 a1] w0 (Ret fun v w => ∃ u0 : Value, v = .tuple #[u0, v32 r.2] ∧ St [] w0 w [own e32 u0 r.1]) := by
 refine kz 34 Tryz.func143 rfl rfl rfl ?_
 have hS := St.start w0
 refine kn [(0, va0), (1, v32 a1)] ⟨rfl, rfl, trivial⟩ ?_
 unfold F.nat_short at h
 refine ke (kc (kb 2 rfl ?_))
 refine kf (ka (ke (kc (kb 1 rfl ?_))))
 refine ki (kB Tryz.underlying24 rfl (ha0.now hS.fr)) rfl ?_
 obtain ⟨x_1, hx_1, h⟩ := kg h
 refine kW (G_make (e := e32) Tryz.underlying24 ti52 rfl rfl rfl hS hx_1) rfl ?_
 rintro v_2 w hS
 refine kb 1 rfl ?_
 refine kf (ka (ke (kc (kb 1 rfl ?_))))
 refine kf (ka (ke (ke (kc (kb 1 rfl ?_)))))
 refine ki (kB Tryz.underlying24 rfl (ha0.now hS.fr)) rfl (kb 1 rfl ?_)
 obtain ⟨x_4, hx_4, h⟩ := kI h
 refine ki (kA (v := vI x_4) (by rw [← hx_4]; rfl)) rfl ?_
 refine kf (ka (kw ?_))
 refine kn [(0, va0), (1, v32 a1), (6, v_2), (7, v32 0), (8, vI x_4)] ⟨rfl, rfl, rfl, rfl, rfl, trivial⟩ ?_
 refine kS (F.nat_short_L1 a0 a1) (fun (s : UInt32 × Int × List UInt32) L w => L = [(0, va0), (1, v32 a1), (6, v_2), (7, v32 s.1), (8, vI s.2.1)] ∧ St [] w0 w [own e32 v_2 s.2.2]) ?_ (0, x_4, x_1) ⟨rfl, hS⟩ h
 rintro k_16 ⟨x_5, x_6, x_7⟩ L w q_10 hI ih_9 h hk_8
 try dsimp only at hI
 obtain ⟨rfl, hS⟩ := hI
 unfold F.nat_short_L1 at h
 refine ke (ke (kc (kb 2 rfl ?_)))
 refine kf (ka ?_)
 refine ko rfl (fun hb_15 => ?_) (fun hb_15 => ?_)
 ·have h := if_t h hb_15
  refine kr (ka (ke (kw ?_)))
  refine kc (kb 5 rfl ?_)
  obtain ⟨x_11, hx_11, h⟩ := kg h
  refine ki (G_ix Tryz.underlying24 ti52 rfl rfl (ha0.now hS.fr) hx_11) rfl (ki (G_load Tryz.underlying52 rfl rfl (ha0.now hS.fr) hx_11 rfl) rfl (kb 1 rfl ?_))
  obtain ⟨x_12, hx_12, h⟩ := kg h
  refine kk (by kernel_rfl) rfl (c_math_bits_Div32 _ x_5 x_11 a1    _ hx_12) rfl ?_
  rintro _ w ⟨rfl, hS1⟩
  have hS := hS.call hS1
  refine kb 3 rfl ?_
  obtain ⟨x_13, hx_13, h⟩ := kg h
  refine ki (G_ix Tryz.underlying24 ti52 rfl rfl (hS.ro 0 rfl) hx_13) rfl (kX (G_storeE (t := x_12.1) ti52 rfl rfl hS (i := 0) rfl hx_13 rfl) ?_)
  intro w hS
  obtain ⟨x_14, hx_14, h⟩ := kI h
  rw [hx_14] at hS
  refine kb 1 rfl ?_
  refine kf (kK ?_)
  refine ka (kc (kb 3 rfl ?_))
  refine kf ?_
  exact QE_rnd (wpN_le _ (by exact ⟨rfl, rfl, rfl, rfl, rfl, trivial⟩) (ih_9 (x_12.2, wI (x_6 - 1), x_14) _ _ ⟨rfl, hS⟩ (kL h hk_8)))
 have h := if_f h hb_15
 refine kQ ?_
 refine kx (kx ?_)
 have h := kG h hk_8
 refine kR ?_
 refine ka (ke (kc (kb 4 rfl ?_)))
 refine kf (ka (kq ?_))
 cases h
 exact QE_ret2 rfl rfl rfl ⟨v_2, rfl, hS.pick [0] (by decide) rfl⟩
theorem c_nat_FromUint (w0 : World) (a0 : UInt64)   (r : List UInt32)
  (h : F.nat_FromUint a0 = some r) : Calls Tryz.prog 144 #[v64 a0] w0 (Ret fun v w => St [] w0 w [own e32 v r]) := by
 refine kz 10 Tryz.func144 rfl rfl rfl ?_
 have hS := St.start w0
 refine kn [(0, v64 a0)] ⟨rfl, trivial⟩ ?_
 unfold F.nat_FromUint at h
 refine ke (kc (kb 1 rfl ?_))
 refine kf (ka (ke (kc (kb 1 rfl ?_))))
 refine ki (kF rfl (cv_64_32 Tryz.underlying94 Tryz.underlying52 a0)) rfl (kb 1 rfl ?_)
 refine ki (kt rfl rfl (b_shr64_64 _ a0 32)) rfl (ki (kF rfl (cv_64_32 Tryz.underlying94 Tryz.underlying52 (shr64 a0 32))) rfl ?_)
 refine kW (OpX_lit (e := e32) (l := ([a0.toUInt32, (shr64 a0 32).toUInt32] : List UInt32)) (vs := [v32 a0.toUInt32, v32 ((shr64 a0 32).toUInt32)]) Tryz.underlying24 ti52 rfl rfl rfl rfl (by decide) (by decide) hS) rfl ?_
 rintro v_1 w hS
 obtain ⟨x_3, hx_3, h⟩ := kg h
 refine kk (by kernel_rfl) rfl (c_nat_proper _ ([a0.toUInt32, (shr64 a0 32).toUInt32] : List UInt32) v_1  (hS.ro 0 rfl).rp _ hx_3) rfl ?_
 rintro _ w ⟨rfl, hk_4, hS1⟩
 have hS := hS.call hS1
 refine kb 1 rfl ?_
 refine kf (ka (kq ?_))
 cases h
 replace hS := hS.trunc3 (i := 0) rfl hk_4
 exact ky rfl rfl (hS.pick [0] (by decide) rfl)
theorem c_nat_up (w0 : World) (a0 : List UInt32) (lo0 : Nat) (hi0 : Nat) (a1 : List UInt32) (a2 : Int) (va0 : Value) (va1 : Value) (vp0 : Value) (S : List Nat) (hS : St S w0 w0 [own e32 va0 a0]) (hp0 : Part va0 e32.sz lo0 hi0 vp0) (ha1 : RP S w0 e32 va1 a1) (r : List UInt32)
  (h : F.nat_up a0 lo0 hi0 a1 a2 = some r) : Calls Tryz.prog 152 #[vp0, va1, vI a2] w0 (Ret fun v w => v = .tuple #[] ∧ St S w0 w [own e32 va0 r]) := by
 refine kz 37 Tryz.func152 rfl rfl rfl ?_
 refine kn [(0, vp0), (1, va1), (2, vI a2)] ⟨rfl, rfl, rfl, trivial⟩ ?_
 unfold F.nat_up at h
 refine ke (kc (kb 1 rfl ?_))
 refine kf (ka (ke (kc (kb 1 rfl ?_))))
 refine ki (kB Tryz.underlying24 rfl ((hS.ro 0 rfl).po hp0)) rfl (kb 1 rfl ?_)
 refine kf (ka (kw ?_))
 refine kn [(0, vp0), (1, va1), (2, vI a2), (6, v32 0), (10, vI (((a0.drop lo0).take (hi0 - lo0)).length : Int)), (11, vI 0)] ⟨rfl, rfl, rfl, rfl, rfl, rfl, trivial⟩ ?_
 refine kS (F.nat_up_L1 lo0 hi0 a0 a1 a2) (fun (s : UInt32 × Int × List UInt32) L w => L = [(0, vp0), (1, va1), (2, vI a2), (6, v32 s.1), (10, vI (((a0.drop lo0).take (hi0 - lo0)).length : Int)), (11, vI s.2.1)] ∧ St S w0 w [own e32 va0 s.2.2]) ?_ (0, 0, a0) ⟨rfl, hS⟩ h
 rintro k_18 ⟨x_2, x_3, x_4⟩ L w q_7 hI ih_6 h hk_5
 try dsimp only at hI
 obtain ⟨rfl, hS⟩ := hI
 unfold F.nat_up_L1 at h
 refine ke (kc (kb 1 rfl ?_))
 refine kf (ka (ke ?_))
 refine ko rfl (fun hb_17 => ?_) (fun hb_17 => ?_)
 ·have h := if_t h hb_17
  refine kr (ka (ke (kw ?_)))
  refine ke (kc (kb 2 rfl ?_))
  refine kf (ka (ke (kc (kb 1 rfl ?_))))
  refine kf (ka ?_)
  refine kO (r := q_7) (fun (g : UInt32) L w => L = [(0, vp0), (1, va1), (2, vI a2), (6, v32 x_2), (7, vI x_3), (8, v32 g), (10, vI (((a0.drop lo0).take (hi0 - lo0)).length : Int)), (11, vI x_3)] ∧ St S w0 w [own e32 va0 x_4]) (F.nat_up_K1 lo0 hi0 a2 x_2 x_3 x_4) ?_ ?_
  rotate_left
  ·intro hK_11
   refine ke (kc (kb 2 rfl ?_))
   refine ki (kB Tryz.underlying24 rfl (ha1.now hS.fr)) rfl (kb 1 rfl ?_)
   refine kf (ka ?_)
   refine ko rfl (fun hb_9 => ?_) (fun hb_9 => ?_)
   ·have h := if_t h hb_9
    refine kc (kb 2 rfl ?_)
    obtain ⟨x_8, hx_8, h⟩ := kg h
    refine ki (G_ix Tryz.underlying24 ti52 rfl rfl (ha1.now hS.fr) hx_8) rfl (ki (G_load Tryz.underlying52 rfl rfl (ha1.now hS.fr) hx_8 rfl) rfl (kb 1 rfl ?_))
    refine kf (ka ?_)
    exact kn _ (by exact ⟨rfl, rfl, rfl, rfl, rfl, rfl, rfl, rfl, trivial⟩) (hK_11 x_8 _ _ ⟨rfl, hS⟩ h)
   have h := if_f h hb_9
   refine kr (ka ?_)
   exact kn _ (by exact ⟨rfl, rfl, rfl, rfl, rfl, rfl, rfl, rfl, trivial⟩) (hK_11 0 _ _ ⟨rfl, hS⟩ h)
  rintro x_10 L w hJ h
  try dsimp only at hJ
  obtain ⟨rfl, hS⟩ := hJ
  unfold F.nat_up_K1 at h
  refine ke (kc (kb 4 rfl ?_))
  obtain ⟨hg_12, h⟩ := grd_some h
  refine ki (kt rfl rfl (b_shl32_i _ x_10 a2 hg_12)) rfl (kb 1 rfl ?_)
  refine ki (kt rfl rfl (b_or32 _ (shl32 x_10 ((a2).toNat)) x_2)) rfl ?_
  obtain ⟨x_13, hx_13, h⟩ := kg h
  refine ki (G_ix Tryz.underlying24 ti52 rfl rfl ((hS.ro 0 rfl).po hp0) hx_13) rfl (kX (G_storeP (t := ((shl32 x_10 ((a2).toNat)) ||| x_2)) ti52 rfl rfl hS (i := 0) rfl hp0 hx_13 rfl) ?_)
  intro w hS
  obtain ⟨x_14, hx_14, h⟩ := kI h
  rw [hx_14] at hS
  refine kf (ka (kc (kb 1 rfl ?_)))
  refine ki (kF rfl (cv_32_64 Tryz.underlying52 Tryz.underlying94 x_10)) rfl (kb 1 rfl ?_)
  obtain ⟨hg_15, h⟩ := grd_some h
  refine ki (kt rfl rfl (b_shl64_i _ x_10.toUInt64 a2 hg_15)) rfl (ki (kt rfl rfl (b_shr64_64 _ (shl64 x_10.toUInt64 ((a2).toNat)) 32)) rfl (ki (kF rfl (cv_64_32 Tryz.underlying94 Tryz.underlying52 (shr64 (shl64 x_10.toUInt64 ((a2).toNat)) 32))) rfl ?_))
  obtain ⟨x_16, hx_16, h⟩ := kI h
  refine ki (kA (v := v32 x_16) (by rw [← hx_16]; rfl)) rfl ?_
  refine kf (kK ?_)
  refine ka (kc (kb 2 rfl ?_))
  refine kf ?_
  exact QE_rnd (wpN_le _ (by exact ⟨rfl, rfl, rfl, rfl, rfl, rfl, trivial⟩) (ih_6 (x_16, wI (x_3 + 1), x_14) _ _ ⟨rfl, hS⟩ (kL h hk_5)))
 have h := if_f h hb_17
 refine kQ ?_
 refine kx (kx ?_)
 have h := kG h hk_5
 refine kR ?_
 cases h
 exact QE_end0 rfl ⟨rfl, hS.pick [0] (by decide) rfl⟩
theorem c_nat_estimate (w0 : World) (a0 : List UInt32) (a1 : List UInt32) (va0 : Value) (va1 : Value) (ha0 : RP [] w0 e32 va0 a0) (ha1 : RP [] w0 e32 va1 a1) (r : UInt64)
  (h : F.nat_estimate a0 a1 = some r) : Calls Tryz.prog 153 #[va0, va1] w0 (Ret fun v w => v = v64 r ∧ St [] w0 w []) := by
 refine kz 75 Tryz.func153 rfl rfl rfl ?_
 have hS := St.start w0
 refine kn [(0, va0), (1, va1)] ⟨rfl, rfl, trivial⟩ ?_
 unfold F.nat_estimate at h
 refine ke (kc (kb 1 rfl ?_))
 refine kf (ka (ke (kc (kb 1 rfl ?_))))
 refine ki (kB Tryz.underlying24 rfl (ha1.now hS.fr)) rfl (kb 1 rfl ?_)
 refine kf (ka (ke ?_))
 refine kN (fun w' => St [] w0 w' []) (fun _ => true) hmix (fun _ _ _ hf => hf.2) (fun _ _ hf => hf) (by kernel_rfl) ?_
 have hS := hS.drew
 show lxE _ _ _ _ _ _ _ [0, 1, 2, 3, 4, 5, 6, 7, 8, 9, 10, 11, 12, 13] _ _
 refine kj hS rfl rfl (fun w hF => km rfl) rfl (kj hS rfl rfl (fun w hF => km rfl) rfl ?_)
 obtain ⟨x_1, hx_1, h⟩ := kg h
 refine kj hS rfl rfl (fun w hF => G_ix Tryz.underlying24 ti52 rfl rfl (ha0.now hF.fr) hx_1) rfl (kj hS rfl rfl (fun w hF => G_load Tryz.underlying52 rfl rfl (ha0.now hF.fr) hx_1 rfl) rfl (kj hS rfl rfl (fun w hF => kF rfl (cv_32_64 Tryz.underlying52 Tryz.underlying94 x_1)) rfl (kj hS rfl rfl (fun w hF => kt rfl rfl (b_shl64_64 _ x_1.toUInt64 32)) rfl (kj hS rfl rfl (fun w hF => km rfl) rfl (kj hS rfl rfl (fun w hF => km rfl) rfl (kj hS rfl rfl (fun w hF => kt rfl rfl (b_isub _ (a1.length : Int) 1)) rfl ?_))))))
 obtain ⟨x_2, hx_2, h⟩ := kg h
 refine kj hS rfl rfl (fun w hF => G_ix Tryz.underlying24 ti52 rfl rfl (ha0.now hF.fr) hx_2) rfl (kj hS rfl rfl (fun w hF => G_load Tryz.underlying52 rfl rfl (ha0.now hF.fr) hx_2 rfl) rfl (kj hS rfl rfl (fun w hF => kF rfl (cv_32_64 Tryz.underlying52 Tryz.underlying94 x_2)) rfl (kj hS rfl rfl (fun w hF => kt rfl rfl (b_or64 _ (shl64 x_1.toUInt64 32) x_2.toUInt64)) rfl ?_)))
 obtain ⟨x_3, hx_3, h⟩ := kI h
 refine kj hS rfl rfl (fun w hF => kA (v := v64 x_3) (by rw [← hx_3]; rfl)) rfl ?_
 refine kY hS ?_
 refine ka (ke ?_)
 refine kN (fun w' => St [] w0 w' []) (fun _ => true) hmix (fun _ _ _ hf => hf.2) (fun _ _ hf => hf) (by kernel_rfl) ?_
 have hS := hS.drew
 show lxE _ _ _ _ _ _ _ [0, 1, 2, 3, 4, 5, 6, 7, 8, 9, 10, 11, 12, 13, 14, 15, 16, 17] _ _
 refine kj hS rfl rfl (fun w hF => km rfl) rfl (kj hS rfl rfl (fun w hF => km rfl) rfl (kj hS rfl rfl (fun w hF => km rfl) rfl (kj hS rfl rfl (fun w hF => kt rfl rfl (b_isub _ (a1.length : Int) 1)) rfl ?_)))
 obtain ⟨x_4, hx_4, h⟩ := kg h
 refine kj hS rfl rfl (fun w hF => G_ix Tryz.underlying24 ti52 rfl rfl (ha1.now hF.fr) hx_4) rfl (kj hS rfl rfl (fun w hF => G_load Tryz.underlying52 rfl rfl (ha1.now hF.fr) hx_4 rfl) rfl (kj hS rfl rfl (fun w hF => kF rfl (cv_32_64 Tryz.underlying52 Tryz.underlying94 x_4)) rfl ?_))
 obtain ⟨hg_5, h⟩ := grd_some h
 refine kj hS rfl rfl (fun w hF => kt rfl rfl (b_quo64 _ x_3 x_4.toUInt64 hg_5)) rfl (kj hS rfl rfl (fun w hF => km rfl) rfl (kj hS rfl rfl (fun w hF => km rfl) rfl (kj hS rfl rfl (fun w hF => km rfl) rfl (kj hS rfl rfl (fun w hF => kt rfl rfl (b_isub _ (a1.length : Int) 1)) rfl ?_))))
 obtain ⟨x_6, hx_6, h⟩ := kg h
 refine kj hS rfl rfl (fun w hF => G_ix Tryz.underlying24 ti52 rfl rfl (ha1.now hF.fr) hx_6) rfl (kj hS rfl rfl (fun w hF => G_load Tryz.underlying52 rfl rfl (ha1.now hF.fr) hx_6 rfl) rfl (kj hS rfl rfl (fun w hF => kF rfl (cv_32_64 Tryz.underlying52 Tryz.underlying94 x_6)) rfl ?_))
 obtain ⟨hg_7, h⟩ := grd_some h
 refine kj hS rfl rfl (fun w hF => kt rfl rfl (b_rem64 _ x_3 x_6.toUInt64 hg_7)) rfl (kj hS rfl rfl (fun w hF => kA rfl) rfl (kj hS rfl rfl (fun w hF => kA rfl) rfl (kY hS ?_)))
 refine ka ?_
 refine kO (r := r) (fun (g : UInt64) L w => L = [(7, v64 g)] ∧ St [] w0 w []) (F.nat_estimate_K1) ?_ ?_
 rotate_left
 ·intro hK_23
  refine kw ?_
  refine kn [(0, va0), (1, va1), (5, vI (a1.length : Int)), (7, v64 (x_3 / x_4.toUInt64)), (8, v64 (x_3 % x_6.toUInt64))] ⟨rfl, rfl, rfl, rfl, rfl, trivial⟩ ?_
  refine kS (F.nat_estimate_L1 a0 a1) (fun (s : UInt64 × UInt64) L w => L = [(0, va0), (1, va1), (5, vI (a1.length : Int)), (7, v64 s.1), (8, v64 s.2)] ∧ St [] w0 w []) ?_ (x_3 / x_4.toUInt64, x_3 % x_6.toUInt64) ⟨rfl, hS⟩ h
  rintro k_21 ⟨x_8, x_9⟩ L w q_12 hI ih_11 h hk_10
  try dsimp only at hI
  obtain ⟨rfl, hS⟩ := hI
  unfold F.nat_estimate_L1 at h
  refine ke ?_
  refine kO (r := q_12) (fun (g : Bool) L w => L = [(0, va0), (1, va1), (5, vI (a1.length : Int)), (7, v64 x_8), (8, v64 x_9), (61, vB g)] ∧ St [] w0 w []) (F.nat_estimate_K2 a1 x_8 x_9) ?_ ?_
  rotate_left
  ·intro hK_17
   refine kN (fun w' => St [] w0 w' []) (fun _ => true) hmix (fun _ _ _ hf => hf.2) (fun _ _ hf => hf) (by kernel_rfl) ?_
   have hS := hS.drew
   show lxE _ _ _ _ _ _ _ [0, 1, 2, 3, 4, 5, 6, 7, 8, 9, 10, 11, 12, 13, 14, 15, 16, 17, 18, 19, 20, 21] _ _
   refine kj hS rfl rfl (fun w hF => km rfl) rfl (kj hS rfl rfl (fun w hF => kt rfl rfl (b_geq64 _ x_8 4294967296)) rfl (kj hS rfl rfl (fun w hF => km rfl) rfl ?_))
   cases hb_13 : (decide ((4294967296 : UInt64) ≤ x_8))
   case true =>
    have h := if_t h hb_13
    try simp only [hb_13]
    refine kD (b := true) (t := 42) hS rfl rfl rfl rfl rfl rfl (kD (b := true) (t := 42) hS rfl rfl rfl rfl rfl rfl (kD (b := true) (t := 42) hS rfl rfl rfl rfl rfl rfl (kD (b := true) (t := 42) hS rfl rfl rfl rfl rfl rfl (kD (b := true) (t := 42) hS rfl rfl rfl rfl rfl rfl (kD (b := true) (t := 42) hS rfl rfl rfl rfl rfl rfl (kD (b := true) (t := 42) hS rfl rfl rfl rfl rfl rfl (kD (b := true) (t := 42) hS rfl rfl rfl rfl rfl rfl (kD (b := true) (t := 42) hS rfl rfl rfl rfl rfl rfl ?_))))))))
    refine kD (b := true) (t := 42) hS rfl rfl rfl rfl rfl rfl (kD (b := true) (t := 42) hS rfl rfl rfl rfl rfl rfl (kD (b := true) (t := 42) hS rfl rfl rfl rfl rfl rfl (kD (b := true) (t := 42) hS rfl rfl rfl rfl rfl rfl (kD (b := true) (t := 42) hS rfl rfl rfl rfl rfl rfl (kD (b := true) (t := 42) hS rfl rfl rfl rfl rfl rfl (kD (b := true) (t := 42) hS rfl rfl rfl rfl rfl rfl (kD (b := true) (t := 42) hS rfl rfl rfl rfl rfl rfl (kD (b := true) (t := 42) hS rfl rfl rfl rfl rfl rfl ?_))))))))
    refine kj hS rfl rfl (fun w hF => kd1 rfl rfl) rfl (kY hS ?_)
    refine ka ?_
    exact kn _ (by exact ⟨rfl, rfl, rfl, rfl, rfl, rfl, trivial⟩) (hK_17 true _ _ ⟨rfl, hS⟩ h)
   case false =>
    have h := if_f h hb_13
    try simp only [hb_13]
    refine kb1 (t := 42) hS rfl rfl rfl rfl (fun w hF => km rfl) rfl (kb1 (t := 42) hS rfl rfl rfl rfl (fun w hF => km rfl) rfl (kb1 (t := 42) hS rfl rfl rfl rfl (fun w hF => km rfl) rfl (kb1 (t := 42) hS rfl rfl rfl rfl (fun w hF => kt rfl rfl (b_isub _ (a1.length : Int) 2)) rfl ?_)))
    obtain ⟨x_14, hx_14, h⟩ := kg h
    refine kb1 (t := 42) hS rfl rfl rfl rfl (fun w hF => G_ix Tryz.underlying24 ti52 rfl rfl (ha1.now hF.fr) hx_14) rfl (kb1 (t := 42) hS rfl rfl rfl rfl (fun w hF => G_load Tryz.underlying52 rfl rfl (ha1.now hF.fr) hx_14 rfl) rfl (kb1 (t := 42) hS rfl rfl rfl rfl (fun w hF => kF rfl (cv_32_64 Tryz.underlying52 Tryz.underlying94 x_14)) rfl (kb1 (t := 42) hS rfl rfl rfl rfl (fun w hF => kt rfl rfl (b_mul64 _ x_8 x_14.toUInt64)) rfl (kb1 (t := 42) hS rfl rfl rfl rfl (fun w hF => km rfl) rfl (kb1 (t := 42) hS rfl rfl rfl rfl (fun w hF => kt rfl rfl (b_shl64_64 _ x_9 32)) rfl (kb1 (t := 42) hS rfl rfl rfl rfl (fun w hF => km rfl) rfl (kb1 (t := 42) hS rfl rfl rfl rfl (fun w hF => km rfl) rfl (kb1 (t := 42) hS rfl rfl rfl rfl (fun w hF => kt rfl rfl (b_isub _ (a1.length : Int) 2)) rfl ?_))))))))
    obtain ⟨x_15, hx_15, h⟩ := kg h
    refine kb1 (t := 42) hS rfl rfl rfl rfl (fun w hF => G_ix Tryz.underlying24 ti52 rfl rfl (ha0.now hF.fr) hx_15) rfl (kb1 (t := 42) hS rfl rfl rfl rfl (fun w hF => G_load Tryz.underlying52 rfl rfl (ha0.now hF.fr) hx_15 rfl) rfl (kb1 (t := 42) hS rfl rfl rfl rfl (fun w hF => kF rfl (cv_32_64 Tryz.underlying52 Tryz.underlying94 x_15)) rfl (kb1 (t := 42) hS rfl rfl rfl rfl (fun w hF => kt rfl rfl (b_or64 _ (shl64 x_9 32) x_15.toUInt64)) rfl (kb1 (t := 42) hS rfl rfl rfl rfl (fun w hF => kt rfl rfl (b_gtr64 _ (x_8 * x_14.toUInt64) ((shl64 x_9 32) ||| x_15.toUInt64))) rfl (kj hS rfl rfl (fun w hF => ke1 rfl rfl) rfl (kY hS ?_))))))
    refine ka ?_
    exact kn _ (by exact ⟨rfl, rfl, rfl, rfl, rfl, rfl, trivial⟩) (hK_17 (decide (((shl64 x_9 32) ||| x_15.toUInt64) < (x_8 * x_14.toUInt64))) _ _ ⟨rfl, hS⟩ h)
  rintro x_16 L w hJ h
  try dsimp only at hJ
  obtain ⟨rfl, hS⟩ := hJ
  unfold F.nat_estimate_K2 at h
  refine ko rfl (fun hb_20 => ?_) (fun hb_20 => ?_)
  ·have h := if_t h hb_20
   refine kr (ka (kw ?_))
   refine ke (kc (kb 1 rfl ?_))
   refine ki (kt rfl rfl (b_sub64 _ x_8 1)) rfl (kb 1 rfl ?_)
   refine kf (ka (ke (kc (kb 4 rfl ?_))))
   obtain ⟨x_18, hx_18, h⟩ := kg h
   refine ki (G_ix Tryz.underlying24 ti52 rfl rfl (ha1.now hS.fr) hx_18) rfl (ki (G_load Tryz.underlying52 rfl rfl (ha1.now hS.fr) hx_18 rfl) rfl (ki (kF rfl (cv_32_64 Tryz.underlying52 Tryz.underlying94 x_18)) rfl (ki (kt rfl rfl (b_add64 _ x_9 x_18.toUInt64)) rfl (kb 1 rfl ?_))))
   refine kf (ka (ke (kc (kb 1 rfl ?_))))
   refine ki (kt rfl rfl (b_geq64 _ (x_9 + x_18.toUInt64) 4294967296)) rfl (kf (ka ?_))
   refine ko rfl (fun hb_19 => ?_) (fun hb_19 => ?_)
   ·have h := if_t h hb_19
    refine kQ ?_
    refine QE_blk_o rfl ?_
    refine kx ?_
    have h := kG h hk_10
    refine kR ?_
    refine ka ?_
    exact kn _ (by exact ⟨rfl, trivial⟩) (hK_23 (x_8 - 1) _ _ ⟨rfl, hS⟩ h)
   have h := if_f h hb_19
   refine kr (kK ?_)
   exact QE_rnd (wpN_le _ (by exact ⟨rfl, rfl, rfl, rfl, rfl, trivial⟩) (ih_11 (x_8 - 1, x_9 + x_18.toUInt64) _ _ ⟨rfl, hS⟩ (kL h hk_10)))
  have h := if_f h hb_20
  refine kQ ?_
  refine kx (kx ?_)
  have h := kG h hk_10
  refine kR ?_
  refine ka ?_
  exact kn _ (by exact ⟨rfl, trivial⟩) (hK_23 x_8 _ _ ⟨rfl, hS⟩ h)
 rintro x_22 L w hJ h
 try dsimp only at hJ
 obtain ⟨rfl, hS⟩ := hJ
 unfold F.nat_estimate_K1 at h
 refine ke (kc (kb 2 rfl ?_))
 refine kf (ka (kq ?_))
 cases h
 exact ky rfl rfl ⟨rfl, hS⟩
theorem c_nat_below (w0 : World) (a0 : List UInt32) (a1 : List UInt32) (va0 : Value) (va1 : Value) (ha0 : RP [] w0 e32 va0 a0) (ha1 : RP [] w0 e32 va1 a1) (r : Bool)
  (h : F.nat_below a0 a1 = some r) : Calls Tryz.prog 154 #[va0, va1] w0 (Ret fun v w => v = vB r ∧ St [] w0 w []) := by
 refine kz 31 Tryz.func154 rfl rfl rfl ?_
 have hS := St.start w0
 refine kn [(0, va0), (1, va1)] ⟨rfl, rfl, trivial⟩ ?_
 unfold F.nat_below at h
 refine ke (kc (kb 1 rfl ?_))
 refine kf (ka (ke (ke (kc (kb 1 rfl ?_)))))
 refine ki (kB Tryz.underlying24 rfl (ha0.now hS.fr)) rfl (kb 1 rfl ?_)
 obtain ⟨x_1, hx_1, h⟩ := kI h
 refine ki (kA (v := vI x_1) (by rw [← hx_1]; rfl)) rfl ?_
 refine kf (ka (kw ?_))
 refine kn [(0, va0), (1, va1), (5, vI x_1)] ⟨rfl, rfl, rfl, trivial⟩ ?_
 refine kS (F.nat_below_L1 a0 a1) (fun (s : Int) L w => L = [(0, va0), (1, va1), (5, vI s)] ∧ St [] w0 w []) ?_ x_1 ⟨rfl, hS⟩ h
 rintro k_12 x_2 L w q_5 hI ih_4 h hk_3
 try dsimp only at hI
 obtain ⟨rfl, hS⟩ := hI
 unfold F.nat_below_L1 at h
 refine ke (ke (kc (kb 2 rfl ?_)))
 refine kf (ka ?_)
 refine ko rfl (fun hb_11 => ?_) (fun hb_11 => ?_)
 ·have h := if_t h hb_11
  refine kr (ka (ke (kw ?_)))
  refine ke ?_
  refine kN (fun w' => St [] w0 w' []) (fun _ => true) hmix (fun _ _ _ hf => hf.2) (fun _ _ hf => hf) (by kernel_rfl) ?_
  have hS := hS.drew
  show lxE _ _ _ _ _ _ _ [0, 1, 2, 3, 4, 5, 6, 7, 8] _ _
  refine kj hS rfl rfl (fun w hF => km rfl) rfl (kj hS rfl rfl (fun w hF => km rfl) rfl ?_)
  obtain ⟨x_6, hx_6, h⟩ := kg h
  refine kj hS rfl rfl (fun w hF => G_ix Tryz.underlying24 ti52 rfl rfl (ha0.now hF.fr) hx_6) rfl (kj hS rfl rfl (fun w hF => G_load Tryz.underlying52 rfl rfl (ha0.now hF.fr) hx_6 rfl) rfl (kj hS rfl rfl (fun w hF => km rfl) rfl (kj hS rfl rfl (fun w hF => km rfl) rfl ?_)))
  obtain ⟨x_7, hx_7, h⟩ := kg h
  refine kj hS rfl rfl (fun w hF => G_ix Tryz.underlying24 ti52 rfl rfl (ha1.now hF.fr) hx_7) rfl (kj hS rfl rfl (fun w hF => G_load Tryz.underlying52 rfl rfl (ha1.now hF.fr) hx_7 rfl) rfl (kj hS rfl rfl (fun w hF => kt rfl rfl (b_neq32 _ x_6 x_7)) rfl (kY hS ?_)))
  refine ka ?_
  refine ko rfl (fun hb_10 => ?_) (fun hb_10 => ?_)
  ·have h := if_t h hb_10
   refine ke ?_
   refine kN (fun w' => St [] w0 w' []) (fun _ => true) hmix (fun _ _ _ hf => hf.2) (fun _ _ hf => hf) (by kernel_rfl) ?_
   have hS := hS.drew
   show lxE _ _ _ _ _ _ _ [0, 1, 2, 3, 4, 5, 6, 7, 8, 9] _ _
   refine kj hS rfl rfl (fun w hF => km rfl) rfl (kj hS rfl rfl (fun w hF => km rfl) rfl ?_)
   obtain ⟨x_8, hx_8, h⟩ := kg h
   refine kj hS rfl rfl (fun w hF => G_ix Tryz.underlying24 ti52 rfl rfl (ha0.now hF.fr) hx_8) rfl (kj hS rfl rfl (fun w hF => G_load Tryz.underlying52 rfl rfl (ha0.now hF.fr) hx_8 rfl) rfl (kj hS rfl rfl (fun w hF => km rfl) rfl (kj hS rfl rfl (fun w hF => km rfl) rfl ?_)))
   obtain ⟨x_9, hx_9, h⟩ := kg h
   refine kj hS rfl rfl (fun w hF => G_ix Tryz.underlying24 ti52 rfl rfl (ha1.now hF.fr) hx_9) rfl (kj hS rfl rfl (fun w hF => G_load Tryz.underlying52 rfl rfl (ha1.now hF.fr) hx_9 rfl) rfl (kj hS rfl rfl (fun w hF => kt rfl rfl (b_lss32 _ x_8 x_9)) rfl (kj hS rfl rfl (fun w hF => kA rfl) rfl (kY hS ?_))))
   refine ka (kq (QE_blk_r ?_))
   refine kv (kv ?_)
   have h := kG h hk_3
   refine QE_blk_r ?_
   refine kv ?_
   cases h
   exact ky rfl rfl ⟨rfl, hS⟩
  have h := if_f h hb_10
  refine kr (kK ?_)
  refine ka (kc (kb 3 rfl ?_))
  refine kf ?_
  exact QE_rnd (wpN_le _ (by exact ⟨rfl, rfl, rfl, trivial⟩) (ih_4 (wI (x_2 - 1)) _ _ ⟨rfl, hS⟩ (kL h hk_3)))
 have h := if_f h hb_11
 refine kQ ?_
 refine kx (kx ?_)
 have h := kG h hk_3
 refine kR ?_
 refine ka (ke (kc (kb 1 rfl ?_)))
 refine kf (ka (kq ?_))
 cases h
 exact ky rfl rfl ⟨rfl, hS⟩
theorem c_nat_take (w0 : World) (a0 : List UInt32) (lo0 : Nat) (hi0 : Nat) (a1 : List UInt32) (va0 : Value) (va1 : Value) (vp0 : Value) (S : List Nat) (hS : St S w0 w0 [own e32 va0 a0]) (hp0 : Part va0 e32.sz lo0 hi0 vp0) (ha1 : RP S w0 e32 va1 a1) (r : UInt32 × List UInt32)
  (h : F.nat_take a0 lo0 hi0 a1 = some r) : Calls Tryz.prog 142 #[vp0, va1] w0 (Ret fun v w => v = v32 r.1 ∧ St S w0 w [own e32 va0 r.2]) := by
 refine kz 36 Tryz.func142 rfl rfl rfl ?_
 refine kn [(0, vp0), (1, va1)] ⟨rfl, rfl, trivial⟩ ?_
 unfold F.nat_take at h
 refine ke (kc (kb 1 rfl ?_))
 refine kf (ka (ke (kc (kb 1 rfl ?_))))
 refine kf (ka (ke (ke (kc (kb 1 rfl ?_)))))
 refine ki (kB Tryz.underlying24 rfl ((hS.ro 0 rfl).po hp0)) rfl (kb 1 rfl ?_)
 refine kf (ka (kw ?_))
 refine kn [(0, vp0), (1, va1), (5, v32 0), (9, vI (((a0.drop lo0).take (hi0 - lo0)).length : Int)), (10, vI 0)] ⟨rfl, rfl, rfl, rfl, rfl, trivial⟩ ?_
 refine kS (F.nat_take_L1 lo0 hi0 a0 a1) (fun (s : UInt32 × Int × List UInt32) L w => L = [(0, vp0), (1, va1), (5, v32 s.1), (9, vI (((a0.drop lo0).take (hi0 - lo0)).length : Int)), (10, vI s.2.1)] ∧ St S w0 w [own e32 va0 s.2.2]) ?_ (0, 0, a0) ⟨rfl, hS⟩ h
 rintro k_17 ⟨x_2, x_3, x_4⟩ L w q_7 hI ih_6 h hk_5
 try dsimp only at hI
 obtain ⟨rfl, hS⟩ := hI
 unfold F.nat_take_L1 at h
 refine ke (kc (kb 1 rfl ?_))
 refine kf (ka (ke ?_))
 refine ko rfl (fun hb_16 => ?_) (fun hb_16 => ?_)
 ·have h := if_t h hb_16
  refine kr (ka (ke (kw ?_)))
  refine ke (kc (kb 2 rfl ?_))
  refine kf (ka (ke (kc (kb 1 rfl ?_))))
  refine kf (ka ?_)
  refine kO (r := q_7) (fun (g : UInt32) L w => L = [(0, vp0), (1, va1), (5, v32 x_2), (6, vI x_3), (7, v32 g), (9, vI (((a0.drop lo0).take (hi0 - lo0)).length : Int)), (10, vI x_3)] ∧ St S w0 w [own e32 va0 x_4]) (F.nat_take_K1 lo0 hi0 x_2 x_3 x_4) ?_ ?_
  rotate_left
  ·intro hK_11
   refine ke (kc (kb 2 rfl ?_))
   refine ki (kB Tryz.underlying24 rfl (ha1.now hS.fr)) rfl (kb 1 rfl ?_)
   refine kf (ka ?_)
   refine ko rfl (fun hb_9 => ?_) (fun hb_9 => ?_)
   ·have h := if_t h hb_9
    refine kc (kb 2 rfl ?_)
    obtain ⟨x_8, hx_8, h⟩ := kg h
    refine ki (G_ix Tryz.underlying24 ti52 rfl rfl (ha1.now hS.fr) hx_8) rfl (ki (G_load Tryz.underlying52 rfl rfl (ha1.now hS.fr) hx_8 rfl) rfl (kb 1 rfl ?_))
    refine kf (ka ?_)
    exact kn _ (by exact ⟨rfl, rfl, rfl, rfl, rfl, rfl, rfl, trivial⟩) (hK_11 x_8 _ _ ⟨rfl, hS⟩ h)
   have h := if_f h hb_9
   refine kr (ka ?_)
   exact kn _ (by exact ⟨rfl, rfl, rfl, rfl, rfl, rfl, rfl, trivial⟩) (hK_11 0 _ _ ⟨rfl, hS⟩ h)
  rintro x_10 L w hJ h
  try dsimp only at hJ
  obtain ⟨rfl, hS⟩ := hJ
  unfold F.nat_take_K1 at h
  refine kc (kb 4 rfl ?_)
  obtain ⟨x_12, hx_12, h⟩ := kg h
  refine ki (G_ix Tryz.underlying24 ti52 rfl rfl ((hS.ro 0 rfl).po hp0) hx_12) rfl (ki (G_load Tryz.underlying52 rfl rfl ((hS.ro 0 rfl).po hp0) hx_12 rfl) rfl (kb 2 rfl ?_))
  obtain ⟨x_13, hx_13, h⟩ := kg h
  refine kk (by kernel_rfl) rfl (c_math_bits_Sub32 _ x_12 x_10 x_2    _ hx_13) rfl ?_
  rintro _ w ⟨rfl, hS1⟩
  have hS := hS.call hS1
  refine kb 3 rfl ?_
  obtain ⟨x_14, hx_14, h⟩ := kg h
  refine ki (G_ix Tryz.underlying24 ti52 rfl rfl ((hS.ro 0 rfl).po hp0) hx_14) rfl (kX (G_storeP (t := x_13.1) ti52 rfl rfl hS (i := 0) rfl hp0 hx_14 rfl) ?_)
  intro w hS
  obtain ⟨x_15, hx_15, h⟩ := kI h
  rw [hx_15] at hS
  refine kb 1 rfl ?_
  refine kf (kK ?_)
  refine ka (kc (kb 2 rfl ?_))
  refine kf ?_
  exact QE_rnd (wpN_le _ (by exact ⟨rfl, rfl, rfl, rfl, rfl, trivial⟩) (ih_6 (x_13.2, wI (x_3 + 1), x_15) _ _ ⟨rfl, hS⟩ (kL h hk_5)))
 have h := if_f h hb_16
 refine kQ ?_
 refine kx (kx ?_)
 have h := kG h hk_5
 refine kR ?_
 refine ka (ke (kc (kb 2 rfl ?_)))
 refine kf (ka (kq ?_))
 cases h
 exact ky rfl rfl ⟨rfl, hS.pick [0] (by decide) rfl⟩
theorem c_nat_down (w0 : World) (a0 : List UInt32) (a1 : Int) (va0 : Value) (S : List Nat) (hS : St S w0 w0 [own e32 va0 a0]) (r : List UInt32)
  (h : F.nat_down a0 a1 = some r) : Calls Tryz.prog 155 #[va0, vI a1] w0 (Ret fun v w => v = .tuple #[] ∧ St S w0 w [own e32 va0 r]) := by
 refine kz 38 Tryz.func155 rfl rfl rfl ?_
 refine kn [(0, va0), (1, vI a1)] ⟨rfl, rfl, trivial⟩ ?_
 unfold F.nat_down at h
 refine ke (kc (kb 1 rfl ?_))
 refine ki (kB Tryz.underlying24 rfl (hS.ro 0 rfl)) rfl (kb 1 rfl ?_)
 refine kf (ka (kw ?_))
 refine kn [(0, va0), (1, vI a1), (7, vI (a0.length : Int)), (8, vI 0)] ⟨rfl, rfl, rfl, rfl, trivial⟩ ?_
 refine kS (F.nat_down_L1 a0 a1) (fun (s : Int × List UInt32) L w => L = [(0, va0), (1, vI a1), (7, vI (a0.length : Int)), (8, vI s.1)] ∧ St S w0 w [own e32 va0 s.2]) ?_ (0, a0) ⟨rfl, hS⟩ h
 rintro k_17 ⟨x_2, x_3⟩ L w q_6 hI ih_5 h hk_4
 try dsimp only at hI
 obtain ⟨rfl, hS⟩ := hI
 unfold F.nat_down_L1 at h
 refine ke (kc (kb 1 rfl ?_))
 refine kf (ka (ke ?_))
 refine ko rfl (fun hb_16 => ?_) (fun hb_16 => ?_)
 ·have h := if_t h hb_16
  refine kr (ka (ke (kw ?_)))
  refine ke (kc (kb 2 rfl ?_))
  refine kf (ka (ke (kc (kb 2 rfl ?_))))
  obtain ⟨x_7, hx_7, h⟩ := kg h
  refine ki (G_ix Tryz.underlying24 ti52 rfl rfl (hS.ro 0 rfl) hx_7) rfl (ki (G_load Tryz.underlying52 rfl rfl (hS.ro 0 rfl) hx_7 rfl) rfl (ki (kF rfl (cv_32_64 Tryz.underlying52 Tryz.underlying94 x_7)) rfl (kb 1 rfl ?_)))
  refine kf (ka ?_)
  refine kO (r := q_6) (fun (g : UInt64) L w => L = [(0, va0), (1, vI a1), (4, vI x_2), (5, v64 g), (7, vI (a0.length : Int)), (8, vI x_2)] ∧ St S w0 w [own e32 va0 x_3]) (F.nat_down_K1 a1 x_2 x_3) ?_ ?_
  rotate_left
  ·intro hK_12
   refine ke (kc (kb 3 rfl ?_))
   refine ki (kB Tryz.underlying24 rfl (hS.ro 0 rfl)) rfl (kb 1 rfl ?_)
   refine kf (ka ?_)
   refine ko rfl (fun hb_10 => ?_) (fun hb_10 => ?_)
   ·have h := if_t h hb_10
    refine kc (kb 4 rfl ?_)
    obtain ⟨x_8, hx_8, h⟩ := kg h
    refine ki (G_ix Tryz.underlying24 ti52 rfl rfl (hS.ro 0 rfl) hx_8) rfl (ki (G_load Tryz.underlying52 rfl rfl (hS.ro 0 rfl) hx_8 rfl) rfl (ki (kF rfl (cv_32_64 Tryz.underlying52 Tryz.underlying94 x_8)) rfl (ki (kt rfl rfl (b_shl64_64 _ x_8.toUInt64 32)) rfl (ki (kt rfl rfl (b_or64 _ x_7.toUInt64 (shl64 x_8.toUInt64 32))) rfl ?_))))
    obtain ⟨x_9, hx_9, h⟩ := kI h
    refine ki (kA (v := v64 x_9) (by rw [← hx_9]; rfl)) rfl ?_
    refine kf (ka ?_)
    exact kn _ (by exact ⟨rfl, rfl, rfl, rfl, rfl, rfl, trivial⟩) (hK_12 x_9 _ _ ⟨rfl, hS⟩ h)
   have h := if_f h hb_10
   refine kr (ka ?_)
   exact kn _ (by exact ⟨rfl, rfl, rfl, rfl, rfl, rfl, trivial⟩) (hK_12 x_7.toUInt64 _ _ ⟨rfl, hS⟩ h)
  rintro x_11 L w hJ h
  try dsimp only at hJ
  obtain ⟨rfl, hS⟩ := hJ
  unfold F.nat_down_K1 at h
  refine kc (kb 4 rfl ?_)
  obtain ⟨hg_13, h⟩ := grd_some h
  refine ki (kt rfl rfl (b_shr64_i _ x_11 a1 hg_13)) rfl (ki (kF rfl (cv_64_32 Tryz.underlying94 Tryz.underlying52 (shr64 x_11 ((a1).toNat)))) rfl ?_)
  obtain ⟨x_14, hx_14, h⟩ := kg h
  refine ki (G_ix Tryz.underlying24 ti52 rfl rfl (hS.ro 0 rfl) hx_14) rfl (kX (G_storeE (t := ((shr64 x_11 ((a1).toNat)).toUInt32)) ti52 rfl rfl hS (i := 0) rfl hx_14 rfl) ?_)
  intro w hS
  obtain ⟨x_15, hx_15, h⟩ := kI h
  rw [hx_15] at hS
  refine kf (kK ?_)
  refine ka (kc (kb 2 rfl ?_))
  refine kf ?_
  exact QE_rnd (wpN_le _ (by exact ⟨rfl, rfl, rfl, rfl, trivial⟩) (ih_5 (wI (x_2 + 1), x_15) _ _ ⟨rfl, hS⟩ (kL h hk_4)))
 have h := if_f h hb_16
 refine kQ ?_
 refine kx (kx ?_)
 have h := kG h hk_4
 refine kR ?_
 cases h
 exact QE_end0 rfl ⟨rfl, hS.pick [0] (by decide) rfl⟩
theorem c_nat_long (w0 : World) (a0 : List UInt32) (a1 : List UInt32) (va0 : Value) (va1 : Value) (ha0 : RP [] w0 e32 va0 a0) (ha1 : RP [] w0 e32 va1 a1) (r : List UInt32 × (List UInt32 × Nat))
  (h : F.nat_long a0 a1 = some r) : Calls Tryz.prog 145 #[va0, va1] w0 (Ret fun v w => ∃ u0 u1 : Value, v = .tuple #[u0, slV u1 e32.sz 0 r.2.2] ∧ r.2.2 ≤ r.2.1.length ∧ St [] w0 w [own e32 u0 r.1, own e32 u1 r.2.1]) := by
 refine kz 125 Tryz.func145 rfl rfl rfl ?_
 have hS := St.start w0
 refine kn [(0, va0), (1, va1)] ⟨rfl, rfl, trivial⟩ ?_
 unfold F.nat_long at h
 refine ke (kc (kb 2 rfl ?_))
 refine kf (ka (ke (kc (kb 2 rfl ?_))))
 refine ki (kB Tryz.underlying24 rfl (ha1.now hS.fr)) rfl (kb 1 rfl ?_)
 obtain ⟨x_1, hx_1, h⟩ := kg h
 refine ki (G_ix Tryz.underlying24 ti52 rfl rfl (ha1.now hS.fr) hx_1) rfl (ki (G_load Tryz.underlying52 rfl rfl (ha1.now hS.fr) hx_1 rfl) rfl ?_)
 obtain ⟨x_2, hx_2, h⟩ := kg h
 refine kk (by kernel_rfl) rfl (c_math_bits_LeadingZeros32 _ x_1    _ hx_2) rfl ?_
 rintro _ w ⟨rfl, hS1⟩
 have hS := hS.call hS1
 refine kb 1 rfl ?_
 refine kf (ka (ke (kc (kb 1 rfl ?_))))
 refine ki (kB Tryz.underlying24 rfl (ha1.now hS.fr)) rfl ?_
 obtain ⟨x_3, hx_3, h⟩ := kg h
 refine kW (G_make (e := e32) Tryz.underlying24 ti52 rfl rfl rfl hS hx_3) rfl ?_
 rintro v_4 w hS
 refine kb 1 rfl ?_
 refine kf (ka (ke (kc (kb 3 rfl ?_))))
 have hG := hS.pick (os' := [own e32 v_4 x_3] ++ []) [0] (by decide) rfl
 obtain ⟨x_6, hx_6, h⟩ := kg h
 refine kk (by kernel_rfl) rfl (c_nat_up _ x_3 0 x_3.length a1 x_2 v_4 va1 v_4  _ hG.give (hS.ro 0 rfl).whole (ha1.give (Nat.le_of_ble_eq_true rfl) hG) _ hx_6) rfl ?_
 rintro _ w ⟨rfl, hS1⟩
 have hS := hG.back hS1
 refine kf (ka (ke (kc (kb 1 rfl ?_))))
 refine ki (kB Tryz.underlying24 rfl (ha0.now hS.fr)) rfl (kb 1 rfl ?_)
 obtain ⟨x_7, hx_7, h⟩ := kg h
 refine kW (G_make (e := e32) Tryz.underlying24 ti52 rfl rfl rfl hS hx_7) rfl ?_
 rintro v_8 w hS
 refine kb 1 rfl ?_
 refine kf (ka (ke (kc (kb 3 rfl ?_))))
 have hG := hS.pick (os' := [own e32 v_8 x_7] ++ [own e32 v_4 x_6]) [0, 1] (by decide) rfl
 obtain ⟨x_10, hx_10, h⟩ := kg h
 refine kk (by kernel_rfl) rfl (c_nat_up _ x_7 0 x_7.length a0 x_2 v_8 va0 v_8  _ hG.give (hS.ro 0 rfl).whole (ha0.give (Nat.le_of_ble_eq_true rfl) hG) _ hx_10) rfl ?_
 rintro _ w ⟨rfl, hS1⟩
 have hS := hG.back hS1
 refine kf (ka (ke (kc (kb 1 rfl ?_))))
 refine ki (kB Tryz.underlying24 rfl (hS.ro 1 rfl)) rfl (kb 1 rfl ?_)
 refine kf (ka (ke (kc (kb 1 rfl ?_))))
 refine ki (kB Tryz.underlying24 rfl (ha0.now hS.fr)) rfl (kb 3 rfl ?_)
 obtain ⟨x_11, hx_11, h⟩ := kg h
 refine kW (G_make (e := e32) Tryz.underlying24 ti52 rfl rfl rfl hS hx_11) rfl ?_
 rintro v_12 w hS
 refine kb 1 rfl ?_
 refine kf (ka (ke (kc (kb 2 rfl ?_))))
 obtain ⟨x_14, hx_14, h⟩ := kg h
 refine kW (G_make (e := e32) Tryz.underlying24 ti52 rfl rfl rfl hS hx_14) rfl ?_
 rintro v_15 w hS
 refine kb 1 rfl ?_
 refine kf (ka (ke (ke (kc (kb 1 rfl ?_)))))
 refine ki (kB Tryz.underlying24 rfl (hS.ro 1 rfl)) rfl (kb 1 rfl ?_)
 obtain ⟨x_17, hx_17, h⟩ := kI h
 refine ki (kA (v := vI x_17) (by rw [← hx_17]; rfl)) rfl ?_
 refine kf (ka (kw ?_))
 refine kn [(6, vI x_2), (7, v_4), (8, v_8), (9, vI (x_6.length : Int)), (10, v_12), (11, v_15), (12, vI x_17)] ⟨rfl, rfl, rfl, rfl, rfl, rfl, rfl, trivial⟩ ?_
 refine kS (F.nat_long_L1 x_2 x_6) (fun (s : Int × List UInt32 × List UInt32 × List UInt32) L w => L = [(6, vI x_2), (7, v_4), (8, v_8), (9, vI (x_6.length : Int)), (10, v_12), (11, v_15), (12, vI s.1)] ∧ St [] w0 w [own e32 v_4 x_6, own e32 v_8 s.2.1, own e32 v_12 s.2.2.1, own e32 v_15 s.2.2.2]) ?_ (x_17, x_10, x_11, x_14) ⟨rfl, (hS.pick [3, 2, 1, 0] (by decide) rfl)⟩ h
 rintro k_57 ⟨x_18, x_19, x_20, x_21⟩ L w q_24 hI ih_23 h hk_22
 try dsimp only at hI
 obtain ⟨rfl, hS⟩ := hI
 unfold F.nat_long_L1 at h
 refine ke (ke (kc (kb 2 rfl ?_)))
 refine kf (ka ?_)
 refine ko rfl (fun hb_56 => ?_) (fun hb_56 => ?_)
 ·have h := if_t h hb_56
  refine kr (ka (ke (kw ?_)))
  refine wpC_scope ?_
  refine ke (kc (kb 6 rfl ?_))
  obtain ⟨x_25, hx_25, h⟩ := kg h
  refine ki (G_sl Tryz.underlying24 ti52 rfl rfl rfl (hS.ro 1 rfl) hx_25) rfl (kb 1 rfl ?_)
  obtain ⟨x_26, hx_26, h⟩ := kg h
  refine kk (by kernel_rfl) rfl (c_nat_estimate _ x_25 x_6 (slV v_8 e32.sz ((x_18 : Int).toNat) ((wI ((wI (x_18 + (x_6.length : Int))) + 1) : Int).toNat)) v_4  ((hS.ro 1 rfl).g_sl hx_25).rp (hS.ro 0 rfl).rp _ hx_26) rfl ?_
  rintro _ w ⟨rfl, hS1⟩
  have hS := hS.call hS1
  refine kb 1 rfl ?_
  refine kf (ka (ke (wpC_label ?_)))
  refine ka (ke (kw ?_))
  refine kn [(6, vI x_2), (7, v_4), (8, v_8), (9, vI (x_6.length : Int)), (10, v_12), (11, v_15), (12, vI x_18), (13, v64 x_26)] ⟨rfl, rfl, rfl, rfl, rfl, rfl, rfl, rfl, trivial⟩ ?_
  refine kS (F.nat_long_L2 x_6 x_18 x_19 x_20) (fun (s : UInt64 × List UInt32) L w => L = [(6, vI x_2), (7, v_4), (8, v_8), (9, vI (x_6.length : Int)), (10, v_12), (11, v_15), (12, vI x_18), (13, v64 s.1)] ∧ St [] w0 w [own e32 v_4 x_6, own e32 v_8 x_19, own e32 v_12 x_20, own e32 v_15 s.2]) ?_ (x_26, x_21) ⟨rfl, hS⟩ h
  rintro k_53 ⟨x_27, x_28⟩ L w q_31 hI ih_30 h hk_29
  try dsimp only at hI
  obtain ⟨rfl, hS⟩ := hI
  unfold F.nat_long_L2 at h
  refine kw ?_
  refine ke (kc (kb 1 rfl ?_))
  refine kf (ka (ke (ke (kc (kb 1 rfl ?_)))))
  refine ki (kB Tryz.underlying24 rfl (hS.ro 0 rfl)) rfl (kb 1 rfl ?_)
  refine kf (ka (kw ?_))
  refine kn [(6, vI x_2), (7, v_4), (8, v_8), (9, vI (x_6.length : Int)), (10, v_12), (11, v_15), (12, vI x_18), (13, v64 x_27), (14, v64 0), (66, v_4), (67, vI (x_6.length : Int)), (68, vI 0)] ⟨rfl, rfl, rfl, rfl, rfl, rfl, rfl, rfl, rfl, rfl, rfl, rfl, trivial⟩ ?_
  refine kS (F.nat_long_L3 x_6 x_18 x_19 x_20 x_27) (fun (s : UInt64 × Int × List UInt32) L w => L = [(6, vI x_2), (7, v_4), (8, v_8), (9, vI (x_6.length : Int)), (10, v_12), (11, v_15), (12, vI x_18), (13, v64 x_27), (14, v64 s.1), (66, v_4), (67, vI (x_6.length : Int)), (68, vI s.2.1)] ∧ St [] w0 w [own e32 v_4 x_6, own e32 v_8 x_19, own e32 v_12 x_20, own e32 v_15 s.2.2]) ?_ (0, 0, x_28) ⟨rfl, hS⟩ h
  rintro k_52 ⟨x_32, x_33, x_34⟩ L w q_37 hI ih_36 h hk_35
  try dsimp only at hI
  obtain ⟨rfl, hS⟩ := hI
  unfold F.nat_long_L3 at h
  refine ke (kc (kb 1 rfl ?_))
  refine kf (ka (ke ?_))
  refine ko rfl (fun hb_51 => ?_) (fun hb_51 => ?_)
  ·have h := if_t h hb_51
   refine kr (ka (ke (kw ?_)))
   refine ke (kc (kb 1 rfl ?_))
   obtain ⟨x_38, hx_38, h⟩ := kg h
   refine ki (G_ix Tryz.underlying24 ti52 rfl rfl (hS.ro 0 rfl) hx_38) rfl (ki (G_load Tryz.underlying52 rfl rfl (hS.ro 0 rfl) hx_38 rfl) rfl (kb 2 rfl ?_))
   refine kf (ka (ke (kc (kb 3 rfl ?_))))
   refine ki (kF rfl (cv_32_64 Tryz.underlying52 Tryz.underlying94 x_38)) rfl (ki (kt rfl rfl (b_mul64 _ x_27 x_38.toUInt64)) rfl (ki (kt rfl rfl (b_add64 _ x_32 (x_27 * x_38.toUInt64))) rfl ?_))
   obtain ⟨x_39, hx_39, h⟩ := kI h
   refine ki (kA (v := v64 x_39) (by rw [← hx_39]; rfl)) rfl ?_
   refine kf (ka (ke (kc (kb 3 rfl ?_))))
   refine ki (kF rfl (cv_64_32 Tryz.underlying94 Tryz.underlying52 x_39)) rfl ?_
   obtain ⟨x_40, hx_40, h⟩ := kg h
   refine ki (G_ix Tryz.underlying24 ti52 rfl rfl (hS.ro 3 rfl) hx_40) rfl (kX (G_storeE (t := x_39.toUInt32) ti52 rfl rfl hS (i := 3) rfl hx_40 rfl) ?_)
   intro w hS
   obtain ⟨x_41, hx_41, h⟩ := kI h
   rw [hx_41] at hS
   refine kf (ka (kc (kb 1 rfl ?_)))
   refine ki (kt rfl rfl (b_shr64_64 _ x_39 32)) rfl (kb 1 rfl ?_)
   refine kf (kK ?_)
   refine ka (kc (kb 2 rfl ?_))
   refine kf ?_
   exact QE_rnd (wpN_le _ (by exact ⟨rfl, rfl, rfl, rfl, rfl, rfl, rfl, rfl, rfl, rfl, rfl, rfl, trivial⟩) (ih_36 (shr64 x_39 32, wI (x_33 + 1), x_41) _ _ ⟨rfl, hS⟩ (kL h hk_35)))
  have h := if_f h hb_51
  refine kQ ?_
  refine kx (kx ?_)
  have h := kG h hk_35
  refine kR ?_
  refine ka (ke (kc (kb 3 rfl ?_)))
  refine ki (kF rfl (cv_64_32 Tryz.underlying94 Tryz.underlying52 x_32)) rfl ?_
  obtain ⟨x_42, hx_42, h⟩ := kg h
  refine ki (G_ix Tryz.underlying24 ti52 rfl rfl (hS.ro 3 rfl) hx_42) rfl (kX (G_storeE (t := x_32.toUInt32) ti52 rfl rfl hS (i := 3) rfl hx_42 rfl) ?_)
  intro w hS
  obtain ⟨x_43, hx_43, h⟩ := kI h
  rw [hx_43] at hS
  refine kf (ka (ke (ke (kc (kb 6 rfl ?_)))))
  obtain ⟨x_44, hx_44, h⟩ := kg h
  refine ki (G_sl Tryz.underlying24 ti52 rfl rfl rfl (hS.ro 1 rfl) hx_44) rfl (kb 1 rfl ?_)
  obtain ⟨x_45, hx_45, h⟩ := kg h
  refine kk (by kernel_rfl) rfl (c_nat_below _ x_44 x_43 (slV v_8 e32.sz ((x_18 : Int).toNat) ((wI ((wI (x_18 + (x_6.length : Int))) + 1) : Int).toNat)) v_15  ((hS.ro 1 rfl).g_sl hx_44).rp (hS.ro 3 rfl).rp _ hx_45) rfl ?_
  rintro _ w ⟨rfl, hS1⟩
  have hS := hS.call hS1
  refine kb 1 rfl ?_
  refine kf (ka ?_)
  refine ko rfl (fun hb_50 => ?_) (fun hb_50 => ?_)
  ·have h := if_t h hb_50
   refine kQ ?_
   refine kx (QE_blk_o rfl ?_)
   refine kx ?_
   have h := kG h hk_29
   refine kR ?_
   refine ka (ke (kc (kb 6 rfl ?_)))
   obtain ⟨x_46, hx_46, h⟩ := kg h
   refine ki (G_sl Tryz.underlying24 ti52 rfl rfl rfl (hS.ro 1 rfl) hx_46) rfl (kb 1 rfl ?_)
   have hG := hS.pick (os' := [own e32 v_8 x_19] ++ [own e32 v_4 x_6, own e32 v_12 x_20, own e32 v_15 x_43]) [1, 0, 2, 3] (by decide) rfl
   obtain ⟨x_47, hx_47, h⟩ := kg h
   refine kk (by kernel_rfl) rfl (c_nat_take _ x_19 ((x_18 : Int).toNat) ((wI ((wI (x_18 + (x_6.length : Int))) + 1) : Int).toNat) x_43 v_8 v_15 (slV v_8 e32.sz ((x_18 : Int).toNat) ((wI ((wI (x_18 + (x_6.length : Int))) + 1) : Int).toNat))  _ hG.give ((hS.ro 1 rfl).part (by have := (slO_some hx_46).1; omega) (slO_some hx_46).1.2.2) (hG.giveO 2 rfl) _ hx_47) rfl ?_
   rintro _ w ⟨rfl, hS1⟩
   have hS := hG.back hS1
   refine kf (ka (kc (kb 3 rfl ?_)))
   refine ki (kF rfl (cv_64_32 Tryz.underlying94 Tryz.underlying52 x_27)) rfl ?_
   obtain ⟨x_48, hx_48, h⟩ := kg h
   refine ki (G_ix Tryz.underlying24 ti52 rfl rfl (hS.ro 2 rfl) hx_48) rfl (kX (G_storeE (t := x_27.toUInt32) ti52 rfl rfl hS (i := 2) rfl hx_48 rfl) ?_)
   intro w hS
   obtain ⟨x_49, hx_49, h⟩ := kI h
   rw [hx_49] at hS
   refine kf (QE_scp_n ?_)
   refine kK ?_
   refine ka (kc (kb 3 rfl ?_))
   refine kf ?_
   exact QE_rnd (wpN_le _ (by exact ⟨rfl, rfl, rfl, rfl, rfl, rfl, rfl, trivial⟩) (ih_23 (wI (x_18 - 1), x_47.2, x_49, x_43) _ _ ⟨rfl, (hS.pick [1, 0, 2, 3] (by decide) rfl)⟩ (kL h hk_22)))
  have h := if_f h hb_50
  refine kr (ka (kc (kb 1 rfl ?_)))
  refine ki (kt rfl rfl (b_sub64 _ x_27 1)) rfl (kb 1 rfl ?_)
  refine kf (kK ?_)
  exact QE_rnd (wpN_le _ (by exact ⟨rfl, rfl, rfl, rfl, rfl, rfl, rfl, rfl, trivial⟩) (ih_30 (x_27 - 1, x_43) _ _ ⟨rfl, hS⟩ (kL h hk_29)))
 have h := if_f h hb_56
 refine kQ ?_
 refine kx (kx ?_)
 have h := kG h hk_22
 refine kR ?_
 refine ka (ke (kc (kb 2 rfl ?_)))
 have hG := hS.pick (os' := [own e32 v_8 x_19] ++ [own e32 v_4 x_6, own e32 v_12 x_20, own e32 v_15 x_21]) [1, 0, 2, 3] (by decide) rfl
 obtain ⟨x_54, hx_54, h⟩ := kg h
 refine kk (by kernel_rfl) rfl (c_nat_down _ x_19 x_2 v_8  _ hG.give  _ hx_54) rfl ?_
 rintro _ w ⟨rfl, hS1⟩
 have hS := hG.back hS1
 refine kf (ka (ke ?_))
 refine kN (fun w' => St [] w0 w' [own e32 v_8 x_54, own e32 v_4 x_6, own e32 v_12 x_20, own e32 v_15 x_21]) (fun _ => true) hmix (fun _ _ _ hf => hf.2) (fun _ _ hf => hf) (by kernel_rfl) ?_
 have hS := hS.drew
 show lxE _ _ _ _ _ _ _ [0, 1, 2, 3, 4, 5] _ _
 refine kj hS rfl rfl (fun w hF => km rfl) rfl (kj hS rfl rfl (fun w hF => km rfl) rfl (kj hS rfl rfl (fun w hF => km rfl) rfl ?_))
 obtain ⟨hg_55, h⟩ := grd_some h
 refine kj hS rfl rfl (fun w hF => G_slh Tryz.underlying24 ti52 rfl rfl (hF.ro 0 rfl) (tkO_of hg_55)) rfl (kj hS rfl rfl (fun w hF => kA rfl) rfl (kj hS rfl rfl (fun w hF => kA rfl) rfl (kY hS ?_)))
 refine ka (kq ?_)
 cases h
 exact QE_ret2 rfl rfl rfl ⟨v_12, v_8, rfl, hg_55.2, hS.pick [2, 0] (by decide) rfl⟩
theorem c_nat_DivMod (w0 : World) (a0 : List UInt32) (a1 : List UInt32) (va0 : Value) (va1 : Value) (ha0 : RP [] w0 e32 va0 a0) (ha1 : RP [] w0 e32 va1 a1) (r : List UInt32 × List UInt32 × Int)
  (h : F.nat_DivMod a0 a1 = some r) : Calls Tryz.prog 124 #[va0, va1] w0 (Ret fun v w => ∃ u0 u1 : Value, v = .tuple #[u0, u1, vI r.2.2] ∧ St [] w0 w [own e32 u0 r.1, own e32 u1 r.2.1]) := by
 refine kz 55 Tryz.func124 rfl rfl rfl ?_
 have hS := St.start w0
 refine kn [(0, va0), (1, va1)] ⟨rfl, rfl, trivial⟩ ?_
 unfold F.nat_DivMod at h
 refine ke (kc (kb 3 rfl ?_))
 refine kf (ka (ke (kc (kb 1 rfl ?_))))
 obtain ⟨x_1, hx_1, h⟩ := kg h
 refine kk (by kernel_rfl) rfl (c_nat_value _ a0 va0  (ha0.now hS.fr).rp _ hx_1) rfl ?_
 rintro _ w ⟨rfl, hk_2, hS1⟩
 have hS := hS.call hS1
 refine kb 1 rfl ?_
 obtain ⟨x_3, hx_3, h⟩ := kg h
 refine kk (by kernel_rfl) rfl (c_nat_value _ a1 va1  (ha1.now hS.fr).rp _ hx_3) rfl ?_
 rintro _ w ⟨rfl, hk_4, hS1⟩
 have hS := hS.call hS1
 refine kb 2 rfl ?_
 refine kf (ka (ke (kw ?_)))
 refine ke (kc (kb 1 rfl ?_))
 refine ki (kB Tryz.underlying24 rfl ((ha1.tk3 hk_4).now hS.fr)) rfl (kb 2 rfl ?_)
 refine kf (ka ?_)
 refine ko rfl (fun hb_30 => ?_) (fun hb_30 => ?_)
 ·have h := if_t h hb_30
  refine ke (kc (kb 3 rfl ?_))
  refine kf (ka (kq (QE_blk_r ?_)))
  refine kv ?_
  cases h
  exact QE_ret3 rfl rfl rfl rfl ⟨.slice none 0 0, .slice none 0 0, rfl, ((hS.nil e32).nil e32).pick [1, 0] (by decide) rfl⟩
 have h := if_f h hb_30
 refine ke (kc (kb 2 rfl ?_))
 obtain ⟨x_5, hx_5, h⟩ := kg h
 refine kk (by kernel_rfl) rfl (c_nat_Cmp _ a0 a1 va0 va1  (ha0.now hS.fr).rp (ha1.now hS.fr).rp _ hx_5) rfl ?_
 rintro _ w ⟨rfl, hS1⟩
 have hS := hS.call hS1
 refine kb 2 rfl ?_
 refine kf (ka ?_)
 refine ko rfl (fun hb_29 => ?_) (fun hb_29 => ?_)
 ·have h := if_t h hb_29
  refine ke (kc (kb 1 rfl ?_))
  obtain ⟨x_6, hx_6, h⟩ := kg h
  refine kW (G_append0T Tryz.underlying25 Tryz.underlying24 ti52 rfl rfl rfl hS ((ha0.tk3 hk_2).now hS.fr) hx_6) rfl ?_
  rintro v_7 w hS
  refine kb 3 rfl ?_
  refine kf (ka (kq (QE_blk_r ?_)))
  refine kv ?_
  cases h
  exact QE_ret3 rfl rfl rfl rfl ⟨.slice none 0 0, v_7, rfl, (hS.nil e32).pick [0, 1] (by decide) rfl⟩
 have h := if_f h hb_29
 refine ke (kc (kb 1 rfl ?_))
 refine ki (kB Tryz.underlying24 rfl ((ha1.tk3 hk_4).now hS.fr)) rfl (kb 2 rfl ?_)
 refine kf (ka ?_)
 refine ko rfl (fun hb_28 => ?_) (fun hb_28 => ?_)
 ·have h := if_t h hb_28
  refine ke (kc (kb 2 rfl ?_))
  obtain ⟨x_9, hx_9, h⟩ := kg h
  refine ki (G_ix Tryz.underlying24 ti52 rfl rfl ((ha1.tk3 hk_4).now hS.fr) hx_9) rfl (ki (G_load Tryz.underlying52 rfl rfl ((ha1.tk3 hk_4).now hS.fr) hx_9 rfl) rfl ?_)
  obtain ⟨x_10, hx_10, h⟩ := kg h
  refine kk (by kernel_rfl) rfl (c_nat_short _ (a0.take x_1) x_9 (slV3 va0 e32.sz 0 x_1 x_1)  ((ha0.tk3 hk_2).now hS.fr).rp _ hx_10) rfl ?_
  rintro _ w ⟨v_11, rfl, hS1⟩
  have hS := hS.call hS1
  refine kb 5 rfl ?_
  refine kf (ka (ke (kc (kb 1 rfl ?_))))
  obtain ⟨x_13, hx_13, h⟩ := kg h
  refine kk (by kernel_rfl) rfl (c_nat_proper _ x_10.1 v_11  (hS.ro 0 rfl).rp _ hx_13) rfl ?_
  rintro _ w ⟨rfl, hk_14, hS1⟩
  have hS := hS.call hS1
  refine kb 1 rfl ?_
  refine ki (kF rfl (cv_32_64 Tryz.underlying52 Tryz.underlying94 x_10.2)) rfl ?_
  obtain ⟨x_15, hx_15, h⟩ := kg h
  refine kk (by kernel_rfl) rfl (c_nat_FromUint _ x_10.2.toUInt64    _ hx_15) rfl ?_
  rintro v_16 w hS1
  have hS := hS.call hS1
  refine kb 3 rfl ?_
  refine kf (ka (kq (QE_blk_r ?_)))
  refine kv ?_
  cases h
  replace hS := hS.trunc3 (i := 1) rfl hk_14
  exact QE_ret3 rfl rfl rfl rfl ⟨slV3 v_11 e32.sz 0 x_13 x_13, v_16, rfl, hS.pick [1, 0] (by decide) rfl⟩
 have h := if_f h hb_28
 refine kr (kK ?_)
 refine ka (ke (kc (kb 2 rfl ?_)))
 obtain ⟨x_18, hx_18, h⟩ := kg h
 refine kk (by kernel_rfl) rfl (c_nat_long _ (a0.take x_1) (a1.take x_3) (slV3 va0 e32.sz 0 x_1 x_1) (slV3 va1 e32.sz 0 x_3 x_3)  ((ha0.tk3 hk_2).now hS.fr).rp ((ha1.tk3 hk_4).now hS.fr).rp _ hx_18) rfl ?_
 rintro _ w ⟨v_19, v_21, rfl, hk_23, hS1⟩
 have hS := hS.call hS1
 refine kb 5 rfl ?_
 refine kf (ka (ke (kc (kb 1 rfl ?_))))
 obtain ⟨x_24, hx_24, h⟩ := kg h
 refine kk (by kernel_rfl) rfl (c_nat_proper _ x_18.1 v_19  (hS.ro 0 rfl).rp _ hx_24) rfl ?_
 rintro _ w ⟨rfl, hk_25, hS1⟩
 have hS := hS.call hS1
 refine kb 1 rfl ?_
 replace hS := hS.trunc (i := 1) rfl hk_23
 obtain ⟨x_26, hx_26, h⟩ := kg h
 refine kk (by kernel_rfl) rfl (c_nat_proper _ (x_18.2.1.take x_18.2.2) (slV v_21 e32.sz 0 x_18.2.2)  (hS.ro 1 rfl).rp _ hx_26) rfl ?_
 rintro _ w ⟨rfl, hk_27, hS1⟩
 have hS := hS.call hS1
 refine kb 3 rfl ?_
 refine kf (ka (kq ?_))
 cases h
 replace hS := hS.trunc3 (i := 0) rfl hk_25
 replace hS := hS.trunc3 (i := 1) rfl hk_27
 exact QE_ret3 rfl rfl rfl rfl ⟨slV3 v_19 e32.sz 0 x_24 x_24, slV3 (slV v_21 e32.sz 0 x_18.2.2) e32.sz 0 x_26 x_26, rfl, hS.pick [0, 1] (by decide) rfl⟩
theorem c_nat_Sub (w0 : World) (a0 : List UInt32) (a1 : List UInt32) (va0 : Value) (va1 : Value) (ha0 : RP [] w0 e32 va0 a0) (ha1 : RP [] w0 e32 va1 a1) (r : List UInt32 × Bool)
  (h : F.nat_Sub a0 a1 = some r) : Calls Tryz.prog 123 #[va0, va1] w0 (Ret fun v w => ∃ u0 : Value, v = .tuple #[u0, vB r.2] ∧ St [] w0 w [own e32 u0 r.1]) := by
 refine kz 28 Tryz.func123 rfl rfl rfl ?_
 have hS := St.start w0
 refine kn [(0, va0), (1, va1)] ⟨rfl, rfl, trivial⟩ ?_
 unfold F.nat_Sub at h
 refine ke (kc (kb 2 rfl ?_))
 refine kf (ka (ke (ke (kc (kb 2 rfl ?_)))))
 obtain ⟨x_1, hx_1, h⟩ := kg h
 refine kk (by kernel_rfl) rfl (c_nat_Cmp _ a0 a1 va0 va1  (ha0.now hS.fr).rp (ha1.now hS.fr).rp _ hx_1) rfl ?_
 rintro _ w ⟨rfl, hS1⟩
 have hS := hS.call hS1
 refine kb 1 rfl ?_
 refine kf (ka ?_)
 refine ko rfl (fun hb_13 => ?_) (fun hb_13 => ?_)
 ·have h := if_t h hb_13
  refine ke (kc (kb 2 rfl ?_))
  refine kf (ka (kq (kv ?_)))
  cases h
  exact QE_ret2 rfl rfl rfl ⟨.slice none 0 0, rfl, (hS.nil e32).pick [0] (by decide) rfl⟩
 have h := if_f h hb_13
 refine kr (ka (ke (kc (kb 1 rfl ?_))))
 obtain ⟨x_2, hx_2, h⟩ := kg h
 refine kk (by kernel_rfl) rfl (c_nat_value _ a0 va0  (ha0.now hS.fr).rp _ hx_2) rfl ?_
 rintro _ w ⟨rfl, hk_3, hS1⟩
 have hS := hS.call hS1
 refine kb 1 rfl ?_
 obtain ⟨x_4, hx_4, h⟩ := kg h
 refine kk (by kernel_rfl) rfl (c_nat_value _ a1 va1  (ha1.now hS.fr).rp _ hx_4) rfl ?_
 rintro _ w ⟨rfl, hk_5, hS1⟩
 have hS := hS.call hS1
 refine kb 2 rfl ?_
 refine kf (ka (ke (kc (kb 1 rfl ?_))))
 refine ki (kB Tryz.underlying24 rfl ((ha0.tk3 hk_3).now hS.fr)) rfl ?_
 obtain ⟨x_6, hx_6, h⟩ := kg h
 refine kW (G_make (e := e32) Tryz.underlying24 ti52 rfl rfl rfl hS hx_6) rfl ?_
 rintro v_7 w hS
 refine kb 1 rfl ?_
 refine kf (ka (ke (kc (kb 2 rfl ?_))))
 refine kW (G_copy (e := e32) Tryz.underlying24 ti52 rfl rfl rfl hS (i := 0) rfl ((ha0.tk3 hk_3).now hS.fr)) rfl ?_
 rintro v_q w ⟨hv_q, hS⟩
 subst v_q
 obtain ⟨x_9, hx_9, h⟩ := kI h
 rw [hx_9] at hS
 refine kf (ka (ke (kc (kb 2 rfl ?_))))
 have hG := hS.pick (os' := [own e32 v_7 x_9] ++ []) [0] (by decide) rfl
 obtain ⟨x_10, hx_10, h⟩ := kg h
 refine kk (by kernel_rfl) rfl (c_nat_take _ x_9 0 x_9.length (a1.take x_4) v_7 (slV3 va1 e32.sz 0 x_4 x_4) v_7  _ hG.give (hS.ro 0 rfl).whole ((ha1.tk3 hk_5).give (Nat.le_of_ble_eq_true rfl) hG) _ hx_10) rfl ?_
 rintro _ w ⟨rfl, hS1⟩
 have hS := hG.back hS1
 refine kf (ka (ke (kc (kb 1 rfl ?_))))
 obtain ⟨x_11, hx_11, h⟩ := kg h
 refine kk (by kernel_rfl) rfl (c_nat_proper _ x_10.2 v_7  (hS.ro 0 rfl).rp _ hx_11) rfl ?_
 rintro _ w ⟨rfl, hk_12, hS1⟩
 have hS := hS.call hS1
 refine kb 2 rfl ?_
 refine kf (ka (kq ?_))
 cases h
 replace hS := hS.trunc3 (i := 0) rfl hk_12
 exact QE_ret2 rfl rfl rfl ⟨slV3 v_7 e32.sz 0 x_11 x_11, rfl, hS.pick [0] (by decide) rfl⟩
theorem c_nat_Add (w0 : World) (a0 : List UInt32) (a1 : List UInt32) (va0 : Value) (va1 : Value) (ha0 : RP [] w0 e32 va0 a0) (ha1 : RP [] w0 e32 va1 a1) (r : List UInt32)
  (h : F.nat_Add a0 a1 = some r) : Calls Tryz.prog 98 #[va0, va1] w0 (Ret fun v w => St [] w0 w [own e32 v r]) := by
 refine kz 64 Tryz.func98 rfl rfl rfl ?_
 have hS := St.start w0
 refine kn [(0, va0), (1, va1)] ⟨rfl, rfl, trivial⟩ ?_
 unfold F.nat_Add at h
 refine ke (kc (kb 1 rfl ?_))
 refine kf (ka (ke (kc (kb 1 rfl ?_))))
 obtain ⟨x_1, hx_1, h⟩ := kg h
 refine kk (by kernel_rfl) rfl (c_nat_value _ a0 va0  (ha0.now hS.fr).rp _ hx_1) rfl ?_
 rintro _ w ⟨rfl, hk_2, hS1⟩
 have hS := hS.call hS1
 refine kb 1 rfl ?_
 obtain ⟨x_3, hx_3, h⟩ := kg h
 refine kk (by kernel_rfl) rfl (c_nat_value _ a1 va1  (ha1.now hS.fr).rp _ hx_3) rfl ?_
 rintro _ w ⟨rfl, hk_4, hS1⟩
 have hS := hS.call hS1
 refine kb 2 rfl ?_
 refine kf (ka ?_)
 refine kO (r := r) (fun (g : List UInt32 × List UInt32) L w => ∃ (v_7 : Value) (v_10 : Value), L = [(5, v_7), (6, v_10)] ∧ RP [] w0 e32 v_7 g.1 ∧ RP [] w0 e32 v_10 g.2 ∧ St [] w0 w []) (F.nat_Add_K1) ?_ ?_
 rotate_left
 ·intro hK_12
  refine ke (kc (kb 1 rfl ?_))
  refine ki (kB Tryz.underlying24 rfl ((ha0.tk3 hk_2).now hS.fr)) rfl (kb 1 rfl ?_)
  refine ki (kB Tryz.underlying24 rfl ((ha1.tk3 hk_4).now hS.fr)) rfl (kb 1 rfl ?_)
  refine kf (ka ?_)
  refine ko rfl (fun hb_5 => ?_) (fun hb_5 => ?_)
  ·have h := if_t h hb_5
   refine kc (kb 4 rfl ?_)
   refine kf (ka ?_)
   exact kn _ (by exact ⟨rfl, rfl, trivial⟩) (hK_12 (a1.take x_3, a0.take x_1) _ _ ⟨slV3 va1 e32.sz 0 x_3 x_3, slV3 va0 e32.sz 0 x_1 x_1, rfl, (ha1.tk3 hk_4), (ha0.tk3 hk_2), hS⟩ h)
  have h := if_f h hb_5
  refine kr (ka ?_)
  exact kn _ (by exact ⟨rfl, rfl, trivial⟩) (hK_12 (a0.take x_1, a1.take x_3) _ _ ⟨slV3 va0 e32.sz 0 x_1 x_1, slV3 va1 e32.sz 0 x_3 x_3, rfl, (ha0.tk3 hk_2), (ha1.tk3 hk_4), hS⟩ h)
 rintro ⟨x_6, x_9⟩ L w hJ h
 try dsimp only at hJ
 obtain ⟨v_7, v_10, rfl, hR_8, hR_11, hS⟩ := hJ
 unfold F.nat_Add_K1 at h
 refine ke (kc (kb 1 rfl ?_))
 refine ki (kB Tryz.underlying24 rfl (hR_8.now hS.fr)) rfl (kb 1 rfl ?_)
 obtain ⟨x_13, hx_13, h⟩ := kg h
 refine kW (G_make (e := e32) Tryz.underlying24 ti52 rfl rfl rfl hS hx_13) rfl ?_
 rintro v_14 w hS
 refine kb 1 rfl ?_
 refine kf (ka (ke (kc (kb 1 rfl ?_))))
 refine kf (ka (ke (ke (kc (kb 1 rfl ?_)))))
 refine ki (kB Tryz.underlying24 rfl (hR_8.now hS.fr)) rfl (kb 1 rfl ?_)
 refine kf (ka (kw ?_))
 refine kn [(5, v_7), (6, v_10), (7, v_14), (8, v64 0), (26, v_7), (27, vI (x_6.length : Int)), (28, vI 0)] ⟨rfl, rfl, rfl, rfl, rfl, rfl, rfl, trivial⟩ ?_
 refine kS (F.nat_Add_L1 x_6 x_9) (fun (s : UInt64 × Int × List UInt32) L w => L = [(5, v_7), (6, v_10), (7, v_14), (8, v64 s.1), (26, v_7), (27, vI (x_6.length : Int)), (28, vI s.2.1)] ∧ St [] w0 w [own e32 v_14 s.2.2]) ?_ (0, 0, x_13) ⟨rfl, hS⟩ h
 rintro k_35 ⟨x_16, x_17, x_18⟩ L w q_21 hI ih_20 h hk_19
 try dsimp only at hI
 obtain ⟨rfl, hS⟩ := hI
 unfold F.nat_Add_L1 at h
 refine ke (kc (kb 1 rfl ?_))
 refine kf (ka (ke ?_))
 refine ko rfl (fun hb_34 => ?_) (fun hb_34 => ?_)
 ·have h := if_t h hb_34
  refine kr (ka (ke (kw ?_)))
  refine ke (kc (kb 1 rfl ?_))
  obtain ⟨x_22, hx_22, h⟩ := kg h
  refine ki (G_ix Tryz.underlying24 ti52 rfl rfl (hR_8.now hS.fr) hx_22) rfl (ki (G_load Tryz.underlying52 rfl rfl (hR_8.now hS.fr) hx_22 rfl) rfl (kb 2 rfl ?_))
  refine kf (ka (ke (kc (kb 2 rfl ?_))))
  refine ki (kF rfl (cv_32_64 Tryz.underlying52 Tryz.underlying94 x_22)) rfl (ki (kt rfl rfl (b_add64 _ x_16 x_22.toUInt64)) rfl (kb 1 rfl ?_))
  refine kf (ka ?_)
  refine kO (r := q_21) (fun (g : UInt64) L w => L = [(5, v_7), (6, v_10), (7, v_14), (8, v64 g), (9, vI x_17), (26, v_7), (27, vI (x_6.length : Int)), (28, vI x_17)] ∧ St [] w0 w [own e32 v_14 x_18]) (F.nat_Add_K2 x_17 x_18) ?_ ?_
  rotate_left
  ·intro hK_27
   refine ke (kc (kb 2 rfl ?_))
   refine ki (kB Tryz.underlying24 rfl (hR_11.now hS.fr)) rfl (kb 1 rfl ?_)
   refine kf (ka ?_)
   refine ko rfl (fun hb_25 => ?_) (fun hb_25 => ?_)
   ·have h := if_t h hb_25
    refine kc (kb 3 rfl ?_)
    obtain ⟨x_23, hx_23, h⟩ := kg h
    refine ki (G_ix Tryz.underlying24 ti52 rfl rfl (hR_11.now hS.fr) hx_23) rfl (ki (G_load Tryz.underlying52 rfl rfl (hR_11.now hS.fr) hx_23 rfl) rfl (ki (kF rfl (cv_32_64 Tryz.underlying52 Tryz.underlying94 x_23)) rfl (ki (kt rfl rfl (b_add64 _ (x_16 + x_22.toUInt64) x_23.toUInt64)) rfl ?_)))
    obtain ⟨x_24, hx_24, h⟩ := kI h
    refine ki (kA (v := v64 x_24) (by rw [← hx_24]; rfl)) rfl ?_
    refine kf (ka ?_)
    exact kn _ (by exact ⟨rfl, rfl, rfl, rfl, rfl, rfl, rfl, rfl, trivial⟩) (hK_27 x_24 _ _ ⟨rfl, hS⟩ h)
   have h := if_f h hb_25
   refine kr (ka ?_)
   exact kn _ (by exact ⟨rfl, rfl, rfl, rfl, rfl, rfl, rfl, rfl, trivial⟩) (hK_27 (x_16 + x_22.toUInt64) _ _ ⟨rfl, hS⟩ h)
  rintro x_26 L w hJ h
  try dsimp only at hJ
  obtain ⟨rfl, hS⟩ := hJ
  unfold F.nat_Add_K2 at h
  refine ke (kc (kb 3 rfl ?_))
  refine ki (kF rfl (cv_64_32 Tryz.underlying94 Tryz.underlying52 x_26)) rfl ?_
  obtain ⟨x_28, hx_28, h⟩ := kg h
  refine ki (G_ix Tryz.underlying24 ti52 rfl rfl (hS.ro 0 rfl) hx_28) rfl (kX (G_storeE (t := x_26.toUInt32) ti52 rfl rfl hS (i := 0) rfl hx_28 rfl) ?_)
  intro w hS
  obtain ⟨x_29, hx_29, h⟩ := kI h
  rw [hx_29] at hS
  refine kf (ka (kc (kb 1 rfl ?_)))
  refine ki (kt rfl rfl (b_shr64_64 _ x_26 32)) rfl (kb 1 rfl ?_)
  refine kf (kK ?_)
  refine ka (kc (kb 2 rfl ?_))
  refine kf ?_
  exact QE_rnd (wpN_le _ (by exact ⟨rfl, rfl, rfl, rfl, rfl, rfl, rfl, trivial⟩) (ih_20 (shr64 x_26 32, wI (x_17 + 1), x_29) _ _ ⟨rfl, hS⟩ (kL h hk_19)))
 have h := if_f h hb_34
 refine kQ ?_
 refine kx (kx ?_)
 have h := kG h hk_19
 refine kR ?_
 refine ka (ke (kc (kb 2 rfl ?_)))
 refine ki (kB Tryz.underlying24 rfl (hR_8.now hS.fr)) rfl (kb 1 rfl ?_)
 refine ki (kF rfl (cv_64_32 Tryz.underlying94 Tryz.underlying52 x_16)) rfl ?_
 obtain ⟨x_30, hx_30, h⟩ := kg h
 refine ki (G_ix Tryz.underlying24 ti52 rfl rfl (hS.ro 0 rfl) hx_30) rfl (kX (G_storeE (t := x_16.toUInt32) ti52 rfl rfl hS (i := 0) rfl hx_30 rfl) ?_)
 intro w hS
 obtain ⟨x_31, hx_31, h⟩ := kI h
 rw [hx_31] at hS
 refine kf (ka (ke (kc (kb 1 rfl ?_))))
 obtain ⟨x_32, hx_32, h⟩ := kg h
 refine kk (by kernel_rfl) rfl (c_nat_proper _ x_31 v_14  (hS.ro 0 rfl).rp _ hx_32) rfl ?_
 rintro _ w ⟨rfl, hk_33, hS1⟩
 have hS := hS.call hS1
 refine kb 1 rfl ?_
 refine kf (ka (kq ?_))
 cases h
 replace hS := hS.trunc3 (i := 0) rfl hk_33
 exact ky rfl rfl (hS.pick [0] (by decide) rfl)
end Go.Proofs
