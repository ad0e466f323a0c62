import Derived.Test.YtpbgncmffgnohaaGreatUW0
import Derived.Test.YtpbgncmffgnohaaGreatGkFnat
import Derived.Test.YtpbgncmffgnohaaGreatUWnata
set_option linter.unusedVariables false
set_option linter.unusedSimpArgs false
set_option linter.unusedVariables false
set_option maxRecDepth 4000
namespace Go.Proofs
open Go Go.RowKit Go.Gk
theorem c_nat_Mul (w0 : World) (a0 : List UInt32) (a1 : List UInt32) (va0 : Value) (va1 : Value) (ha0 : RP [] w0 e32 va0 a0) (ha1 : RP [] w0 e32 va1 a1) (r : List UInt32)
  (h : F.nat_Mul a0 a1 = some r) : Calls Tryz.prog 99 #[va0, va1] w0 (Ret fun v w => St [] w0 w [own e32 v r]) := by
 refine kz 73 Tryz.func99 rfl rfl rfl ?_
 have hS := St.start w0
 refine kn [(0, va0), (1, va1)] ⟨rfl, rfl, trivial⟩ ?_
 unfold F.nat_Mul at h
 refine ke (kc (kb 1 rfl ?_))
 refine kf (ka (ke (kc (kb 1 rfl ?_))))
 obtain ⟨x_1, hx_1, h⟩ := kg h
 refine kk (by kernel_rfl) rfl (c_nat_value _ a0 va0  (ha0.now hS.fr).rp _ hx_1) rfl ?_
 rintro _ w ⟨rfl, hk_2, hS1⟩
 have hS := hS.call hS1
 refine kb 1 rfl ?_
 obtain ⟨x_3, hx_3, h⟩ := kg h
 refine kk (by kernel_rfl) rfl (c_nat_value _ a1 va1  (ha1.now hS.fr).rp _ hx_3) rfl ?_
 rintro _ w ⟨rfl, hk_4, hS1⟩
 have hS := hS.call hS1
 refine kb 2 rfl ?_
 refine kf (ka (ke (kc (kb 1 rfl ?_))))
 refine ki (kB Tryz.underlying24 rfl ((ha0.tk3 hk_2).now hS.fr)) rfl (kb 1 rfl ?_)
 refine ki (kB Tryz.underlying24 rfl ((ha1.tk3 hk_4).now hS.fr)) rfl (kb 1 rfl ?_)
 obtain ⟨x_5, hx_5, h⟩ := kg h
 refine kW (G_make (e := e32) Tryz.underlying24 ti52 rfl rfl rfl hS hx_5) rfl ?_
 rintro v_6 w hS
 refine kb 1 rfl ?_
 refine kf (ka (ke (ke (kc (kb 1 rfl ?_)))))
 refine ki (kB Tryz.underlying24 rfl ((ha0.tk3 hk_2).now hS.fr)) rfl (kb 1 rfl ?_)
 refine kf (ka (kw ?_))
 refine kn [(6, slV3 va1 e32.sz 0 x_3 x_3), (7, v_6), (23, slV3 va0 e32.sz 0 x_1 x_1), (24, vI ((a0.take x_1).length : Int)), (25, vI 0)] ⟨rfl, rfl, rfl, rfl, rfl, trivial⟩ ?_
 refine kS (F.nat_Mul_L1 a0 x_1 a1 x_3) (fun (s : Int × List UInt32) L w => L = [(6, slV3 va1 e32.sz 0 x_3 x_3), (7, v_6), (23, slV3 va0 e32.sz 0 x_1 x_1), (24, vI ((a0.take x_1).length : Int)), (25, vI s.1)] ∧ St [] w0 w [own e32 v_6 s.2]) ?_ (0, x_5) ⟨rfl, hS⟩ h
 rintro k_32 ⟨x_8, x_9⟩ L w q_12 hI ih_11 h hk_10
 try dsimp only at hI
 obtain ⟨rfl, hS⟩ := hI
 unfold F.nat_Mul_L1 at h
 refine ke (kc (kb 1 rfl ?_))
 refine kf (ka (ke ?_))
 refine ko rfl (fun hb_31 => ?_) (fun hb_31 => ?_)
 ·have h := if_t h hb_31
  refine kr (ka (ke (kw ?_)))
  refine ke (kc (kb 1 rfl ?_))
  obtain ⟨x_13, hx_13, h⟩ := kg h
  refine ki (G_ix Tryz.underlying24 ti52 rfl rfl ((ha0.tk3 hk_2).now hS.fr) hx_13) rfl (ki (G_load Tryz.underlying52 rfl rfl ((ha0.tk3 hk_2).now hS.fr) hx_13 rfl) rfl (kb 2 rfl ?_))
  refine kf (ka (ke (kc (kb 1 rfl ?_))))
  refine kf (ka (ke (ke (kc (kb 1 rfl ?_)))))
  refine ki (kB Tryz.underlying24 rfl ((ha1.tk3 hk_4).now hS.fr)) rfl (kb 1 rfl ?_)
  refine kf (ka (kw ?_))
  refine kn [(6, slV3 va1 e32.sz 0 x_3 x_3), (7, v_6), (8, vI x_8), (9, v32 x_13), (10, v64 0), (23, slV3 va0 e32.sz 0 x_1 x_1), (24, vI ((a0.take x_1).length : Int)), (25, vI x_8), (30, slV3 va1 e32.sz 0 x_3 x_3), (31, vI ((a1.take x_3).length : Int)), (32, vI 0)] ⟨rfl, rfl, rfl, rfl, rfl, rfl, rfl, rfl, rfl, rfl, rfl, trivial⟩ ?_
  refine kS (F.nat_Mul_L2 a1 x_3 x_8 x_13) (fun (s : UInt64 × Int × List UInt32) L w => L = [(6, slV3 va1 e32.sz 0 x_3 x_3), (7, v_6), (8, vI x_8), (9, v32 x_13), (10, v64 s.1), (23, slV3 va0 e32.sz 0 x_1 x_1), (24, vI ((a0.take x_1).length : Int)), (25, vI x_8), (30, slV3 va1 e32.sz 0 x_3 x_3), (31, vI ((a1.take x_3).length : Int)), (32, vI s.2.1)] ∧ St [] w0 w [own e32 v_6 s.2.2]) ?_ (0, 0, x_9) ⟨rfl, hS⟩ h
  rintro k_28 ⟨x_14, x_15, x_16⟩ L w q_19 hI ih_18 h hk_17
  try dsimp only at hI
  obtain ⟨rfl, hS⟩ := hI
  unfold F.nat_Mul_L2 at h
  refine ke (kc (kb 1 rfl ?_))
  refine kf (ka (ke ?_))
  refine ko rfl (fun hb_27 => ?_) (fun hb_27 => ?_)
  ·have h := if_t h hb_27
   refine kr (ka (ke (kw ?_)))
   refine ke (kc (kb 1 rfl ?_))
   obtain ⟨x_20, hx_20, h⟩ := kg h
   refine ki (G_ix Tryz.underlying24 ti52 rfl rfl ((ha1.tk3 hk_4).now hS.fr) hx_20) rfl (ki (G_load Tryz.underlying52 rfl rfl ((ha1.tk3 hk_4).now hS.fr) hx_20 rfl) rfl (kb 2 rfl ?_))
   refine kf (ka (ke (kc (kb 2 rfl ?_))))
   refine ki (kF rfl (cv_32_64 Tryz.underlying52 Tryz.underlying94 x_13)) rfl (kb 1 rfl ?_)
   refine ki (kF rfl (cv_32_64 Tryz.underlying52 Tryz.underlying94 x_20)) rfl (ki (kt rfl rfl (b_mul64 _ x_13.toUInt64 x_20.toUInt64)) rfl (kb 4 rfl ?_))
   obtain ⟨x_21, hx_21, h⟩ := kg h
   refine ki (G_ix Tryz.underlying24 ti52 rfl rfl (hS.ro 0 rfl) hx_21) rfl (ki (G_load Tryz.underlying52 rfl rfl (hS.ro 0 rfl) hx_21 rfl) rfl (ki (kF rfl (cv_32_64 Tryz.underlying52 Tryz.underlying94 x_21)) rfl (ki (kt rfl rfl (b_add64 _ (x_13.toUInt64 * x_20.toUInt64) x_21.toUInt64)) rfl (ki (kt rfl rfl (b_add64 _ x_14 ((x_13.toUInt64 * x_20.toUInt64) + x_21.toUInt64))) rfl ?_))))
   obtain ⟨x_22, hx_22, h⟩ := kI h
   refine ki (kA (v := v64 x_22) (by rw [← hx_22]; rfl)) rfl ?_
   refine kf (ka (ke (kc (kb 5 rfl ?_))))
   refine ki (kF rfl (cv_64_32 Tryz.underlying94 Tryz.underlying52 x_22)) rfl ?_
   obtain ⟨x_23, hx_23, h⟩ := kg h
   refine ki (G_ix Tryz.underlying24 ti52 rfl rfl (hS.ro 0 rfl) hx_23) rfl (kX (G_storeE (t := x_22.toUInt32) ti52 rfl rfl hS (i := 0) rfl hx_23 rfl) ?_)
   intro w hS
   obtain ⟨x_24, hx_24, h⟩ := kI h
   rw [hx_24] at hS
   refine kf (ka (kc (kb 1 rfl ?_)))
   refine ki (kt rfl rfl (b_shr64_64 _ x_22 32)) rfl (kb 1 rfl ?_)
   refine kf (kK ?_)
   refine ka (kc (kb 2 rfl ?_))
   refine kf ?_
   exact QE_rnd (wpN_le _ (by exact ⟨rfl, rfl, rfl, rfl, rfl, rfl, rfl, rfl, rfl, rfl, rfl, trivial⟩) (ih_18 (shr64 x_22 32, wI (x_15 + 1), x_24) _ _ ⟨rfl, hS⟩ (kL h hk_17)))
  have h := if_f h hb_27
  refine kQ ?_
  refine kx (kx ?_)
  have h := kG h hk_17
  refine kR ?_
  refine ka (kc (kb 3 rfl ?_))
  refine ki (kB Tryz.underlying24 rfl ((ha1.tk3 hk_4).now hS.fr)) rfl (kb 2 rfl ?_)
  refine ki (kF rfl (cv_64_32 Tryz.underlying94 Tryz.underlying52 x_14)) rfl ?_
  obtain ⟨x_25, hx_25, h⟩ := kg h
  refine ki (G_ix Tryz.underlying24 ti52 rfl rfl (hS.ro 0 rfl) hx_25) rfl (kX (G_storeE (t := x_14.toUInt32) ti52 rfl rfl hS (i := 0) rfl hx_25 rfl) ?_)
  intro w hS
  obtain ⟨x_26, hx_26, h⟩ := kI h
  rw [hx_26] at hS
  refine kf (kK ?_)
  refine ka (kc (kb 2 rfl ?_))
  refine kf ?_
  exact QE_rnd (wpN_le _ (by exact ⟨rfl, rfl, rfl, rfl, rfl, trivial⟩) (ih_11 (wI (x_8 + 1), x_26) _ _ ⟨rfl, hS⟩ (kL h hk_10)))
 have h := if_f h hb_31
 refine kQ ?_
 refine kx (kx ?_)
 have h := kG h hk_10
 refine kR ?_
 refine ka (ke (kc (kb 1 rfl ?_)))
 obtain ⟨x_29, hx_29, h⟩ := kg h
 refine kk (by kernel_rfl) rfl (c_nat_proper _ x_9 v_6  (hS.ro 0 rfl).rp _ hx_29) rfl ?_
 rintro _ w ⟨rfl, hk_30, hS1⟩
 have hS := hS.call hS1
 refine kb 1 rfl ?_
 refine kf (ka (kq ?_))
 cases h
 replace hS := hS.trunc3 (i := 0) rfl hk_30
 exact ky rfl rfl (hS.pick [0] (by decide) rfl)
end Go.Proofs
