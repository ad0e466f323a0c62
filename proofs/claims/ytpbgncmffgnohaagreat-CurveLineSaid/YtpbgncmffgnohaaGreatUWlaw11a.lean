import Derived.Test.YtpbgncmffgnohaaGreatUW0
import Derived.Test.YtpbgncmffgnohaaGreatGkFlaw11
set_option linter.unusedVariables false
set_option linter.unusedSimpArgs false
set_option linter.unusedVariables false
set_option maxRecDepth 4000
namespace Go.Proofs
open Go Go.RowKit Go.Gk
theorem c_law11_sameNat (w0 : World) (a0 : List UInt32) (a1 : List UInt32) (va0 : Value) (va1 : Value) (ha0 : RP [] w0 e32 va0 a0) (ha1 : RP [] w0 e32 va1 a1) (r : Bool)
  (h : F.law11_sameNat a0 a1 = some r) : Calls Tryz.prog 44 #[va0, va1] w0 (Ret fun v w => v = vB r ∧ St [] w0 w []) := by
 refine kz 26 Tryz.func44 rfl rfl rfl ?_
 have hS := St.start w0
 refine kn [(0, va0), (1, va1)] ⟨rfl, rfl, trivial⟩ ?_
 unfold F.law11_sameNat at h
 refine ke (kc (kb 1 rfl ?_))
 refine kf (ka (ke (ke (kc (kb 1 rfl ?_)))))
 refine ki (kB Tryz.underlying25 rfl (ha0.now hS.fr)) rfl (kb 1 rfl ?_)
 refine ki (kB Tryz.underlying25 rfl (ha1.now hS.fr)) rfl (kb 1 rfl ?_)
 refine kf (ka ?_)
 refine ko rfl (fun hb_10 => ?_) (fun hb_10 => ?_)
 ·have h := if_t h hb_10
  refine ke (kc (kb 1 rfl ?_))
  refine kf (ka (kq (kv ?_)))
  cases h
  exact ky rfl rfl ⟨rfl, hS⟩
 have h := if_f h hb_10
 refine kr (ka (ke (ke (kc (kb 1 rfl ?_)))))
 refine kf (ka (kw ?_))
 refine kn [(0, va0), (1, va1), (5, vI 0)] ⟨rfl, rfl, rfl, trivial⟩ ?_
 refine kS (F.law11_sameNat_L1 a0 a1) (fun (s : Int) L w => L = [(0, va0), (1, va1), (5, vI s)] ∧ St [] w0 w []) ?_ 0 ⟨rfl, hS⟩ h
 rintro k_9 x_1 L w q_4 hI ih_3 h hk_2
 try dsimp only at hI
 obtain ⟨rfl, hS⟩ := hI
 unfold F.law11_sameNat_L1 at h
 refine ke (ke (kc (kb 2 rfl ?_)))
 refine ki (kB Tryz.underlying25 rfl (ha0.now hS.fr)) rfl (kb 1 rfl ?_)
 refine kf (ka ?_)
 refine ko rfl (fun hb_8 => ?_) (fun hb_8 => ?_)
 ·have h := if_t h hb_8
  refine kr (ka (ke (kw ?_)))
  refine ke ?_
  refine kN (fun w' => St [] w0 w' []) (fun _ => true) hmix (fun _ _ _ hf => hf.2) (fun _ _ hf => hf) (by kernel_rfl) ?_
  have hS := hS.drew
  show lxE _ _ _ _ _ _ _ [0, 1, 2, 3, 4, 5, 6, 7, 8] _ _
  refine kj hS rfl rfl (fun w hF => km rfl) rfl (kj hS rfl rfl (fun w hF => km rfl) rfl ?_)
  obtain ⟨x_5, hx_5, h⟩ := kg h
  refine kj hS rfl rfl (fun w hF => G_ix Tryz.underlying25 ti52 rfl rfl (ha0.now hF.fr) hx_5) rfl (kj hS rfl rfl (fun w hF => G_load Tryz.underlying52 rfl rfl (ha0.now hF.fr) hx_5 rfl) rfl (kj hS rfl rfl (fun w hF => km rfl) rfl (kj hS rfl rfl (fun w hF => km rfl) rfl ?_)))
  obtain ⟨x_6, hx_6, h⟩ := kg h
  refine kj hS rfl rfl (fun w hF => G_ix Tryz.underlying25 ti52 rfl rfl (ha1.now hF.fr) hx_6) rfl (kj hS rfl rfl (fun w hF => G_load Tryz.underlying52 rfl rfl (ha1.now hF.fr) hx_6 rfl) rfl (kj hS rfl rfl (fun w hF => kt rfl rfl (b_neq32 _ x_5 x_6)) rfl (kY hS ?_)))
  refine ka ?_
  refine ko rfl (fun hb_7 => ?_) (fun hb_7 => ?_)
  ·have h := if_t h hb_7
   refine ke (kc (kb 1 rfl ?_))
   refine kf (ka (kq (QE_blk_r ?_)))
   refine kv (kv ?_)
   have h := kG h hk_2
   refine QE_blk_r ?_
   refine kv ?_
   cases h
   exact ky rfl rfl ⟨rfl, hS⟩
  have h := if_f h hb_7
  refine kr (kK ?_)
  refine ka (kc (kb 3 rfl ?_))
  refine kf ?_
  exact QE_rnd (wpN_le _ (by exact ⟨rfl, rfl, rfl, trivial⟩) (ih_3 (wI (x_1 + 1)) _ _ ⟨rfl, hS⟩ (kL h hk_2)))
 have h := if_f h hb_8
 refine kQ ?_
 refine kx (kx ?_)
 have h := kG h hk_2
 refine kR ?_
 refine ka (ke (kc (kb 1 rfl ?_)))
 refine kf (ka (kq ?_))
 cases h
 exact ky rfl rfl ⟨rfl, hS⟩
theorem c_law11_same (w0 : World) (a0_0 : List UInt32) (a0_1 : List UInt32) (a0_2 : Bool) (a1_0 : List UInt32) (a1_1 : List UInt32) (a1_2 : Bool) (va0_0 : Value) (va0_1 : Value) (va1_0 : Value) (va1_1 : Value) (ha0_0 : RP [] w0 e32 va0_0 a0_0) (ha0_1 : RP [] w0 e32 va0_1 a0_1) (ha1_0 : RP [] w0 e32 va1_0 a1_0) (ha1_1 : RP [] w0 e32 va1_1 a1_1) (r : Bool)
  (h : F.law11_same a0_0 a0_1 a0_2 a1_0 a1_1 a1_2 = some r) : Calls Tryz.prog 12 #[.agg #[va0_0, va0_1, vB a0_2], .agg #[va1_0, va1_1, vB a1_2]] w0 (Ret fun v w => v = vB r ∧ St [] w0 w []) := by
 refine kz 24 Tryz.func12 rfl rfl rfl ?_
 have hS := St.start w0
 refine kn [(0, .agg #[va0_0, va0_1, vB a0_2]), (1, .agg #[va1_0, va1_1, vB a1_2])] ⟨rfl, rfl, trivial⟩ ?_
 unfold F.law11_same at h
 refine ke (kc (kW (OpX_box (cs := [va0_0, va0_1, vB a0_2]) rfl rfl hS) rfl ?_))
 rintro _ w ⟨b_1, rfl, hS⟩
 refine kW (OpX_box (cs := [va1_0, va1_1, vB a1_2]) rfl rfl hS) rfl ?_
 rintro _ w ⟨b_3, rfl, hS⟩
 refine kb 1 rfl ?_
 refine kf (ka (ke (kc (ki (kl (k := 2) Tryz.underlying27 rfl rfl nz4 rfl) rfl (ki (ku Tryz.underlying4 rfl rfl (hS.bxc 1 rfl 2)) rfl (ki (kl (k := 2) Tryz.underlying27 rfl rfl nz4 rfl) rfl (ki (ku Tryz.underlying4 rfl rfl (hS.bxc 0 rfl 2)) rfl (ki (kt rfl rfl (b_beql _ a0_2 a1_2 Tryz.underlying4 rfl)) rfl ?_))))))))
 refine kb 1 rfl ?_
 cases hb_5 : (a0_2 == a1_2)
 case true =>
  have h := if_t h hb_5
  try simp only [hb_5]
  refine kT (t := 10) rfl rfl (kl (k := 0) Tryz.underlying27 rfl rfl nz25 rfl) rfl (kT (t := 10) rfl rfl (ku Tryz.underlying25 rfl rfl (hS.bxc 1 rfl 0)) rfl (kT (t := 10) rfl rfl (kl (k := 0) Tryz.underlying27 rfl rfl nz25 rfl) rfl (kT (t := 10) rfl rfl (ku Tryz.underlying25 rfl rfl (hS.bxc 0 rfl 0)) rfl ?_)))
  obtain ⟨x_6, hx_6, h⟩ := kg h
  refine wpR_gcall (t := 10) rfl rfl (by kernel_rfl) rfl (c_law11_sameNat _ a0_0 a1_0 va0_0 va1_0  (ha0_0.now hS.fr).rp (ha1_0.now hS.fr).rp _ hx_6) rfl ?_
  rintro _ w ⟨rfl, hS1⟩
  have hS := hS.call hS1
  refine kb 2 rfl ?_
  cases hb_7 : x_6
  case true =>
   have h := if_t h hb_7
   try simp only [hb_7]
   refine kT (t := 17) rfl rfl (kl (k := 1) Tryz.underlying27 rfl rfl nz25 rfl) rfl (kT (t := 17) rfl rfl (ku Tryz.underlying25 rfl rfl (hS.bxc 1 rfl 1)) rfl (kT (t := 17) rfl rfl (kl (k := 1) Tryz.underlying27 rfl rfl nz25 rfl) rfl (kT (t := 17) rfl rfl (ku Tryz.underlying25 rfl rfl (hS.bxc 0 rfl 1)) rfl ?_)))
   obtain ⟨x_8, hx_8, h⟩ := kg h
   refine wpR_gcall (t := 17) rfl rfl (by kernel_rfl) rfl (c_law11_sameNat _ a0_1 a1_1 va0_1 va1_1  (ha0_1.now hS.fr).rp (ha1_1.now hS.fr).rp _ hx_8) rfl ?_
   rintro _ w ⟨rfl, hS1⟩
   have hS := hS.call hS1
   refine kb 2 rfl ?_
   refine kf (ka (kq ?_))
   cases h
   exact ky rfl rfl ⟨rfl, hS.pick [] (by decide) rfl⟩
  case false =>
   have h := if_f h hb_7
   try simp only [hb_7]
   refine kb 7 rfl ?_
   refine kf (ka (kq ?_))
   cases h
   exact ky rfl rfl ⟨rfl, hS.pick [] (by decide) rfl⟩
 case false =>
  have h := if_f h hb_5
  try simp only [hb_5]
  refine kb 14 rfl ?_
  refine kf (ka (kq ?_))
  cases h
  exact ky rfl rfl ⟨rfl, hS.pick [] (by decide) rfl⟩
end Go.Proofs
