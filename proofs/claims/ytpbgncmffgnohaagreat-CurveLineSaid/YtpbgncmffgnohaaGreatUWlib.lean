import Derived.Test.YtpbgncmffgnohaaGreatUW0
import Derived.Test.YtpbgncmffgnohaaGreatGkFlib
set_option linter.unusedVariables false
set_option linter.unusedSimpArgs false
set_option linter.unusedVariables false
set_option maxRecDepth 4000
namespace Go.Proofs
open Go Go.RowKit Go.Gk
theorem c_math_bits_Len32 (w0 : World) (a0 : UInt32)   (r : Int)
  (h : F.math_bits_Len32 a0 = some r) : Calls Tryz.prog 140 #[v32 a0] w0 (Ret fun v w => v = vI r ∧ St [] w0 w []) := by
 refine kz 19 Tryz.func140 rfl rfl rfl ?_
 have hS := St.start w0
 refine kn [(0, v32 a0)] ⟨rfl, trivial⟩ ?_
 unfold F.math_bits_Len32 at h
 refine ke (kc (kb 1 rfl ?_))
 refine kf (ka ?_)
 refine kO (r := r) (fun (g : UInt32 × Int) L w => L = [(0, v32 g.1), (2, vI g.2)] ∧ St [] w0 w []) (F.math_bits_Len32_K1) ?_ ?_
 rotate_left
 ·intro hK_4
  refine ke (kc (kb 1 rfl ?_))
  refine ki (kt rfl rfl (b_geq32 _ a0 65536)) rfl (kf (ka ?_))
  refine ko rfl (fun hb_1 => ?_) (fun hb_1 => ?_)
  ·have h := if_t h hb_1
   refine ke (kc (kb 1 rfl ?_))
   refine ki (kt rfl rfl (b_shr32_64 _ a0 16)) rfl (kb 1 rfl ?_)
   refine kf (ka (kc (kb 1 rfl ?_)))
   refine kf (ka ?_)
   exact kn _ (by exact ⟨rfl, rfl, trivial⟩) (hK_4 (shr32 a0 16, 16) _ _ ⟨rfl, hS⟩ h)
  have h := if_f h hb_1
  refine kr (ka ?_)
  exact kn _ (by exact ⟨rfl, rfl, trivial⟩) (hK_4 (a0, 0) _ _ ⟨rfl, hS⟩ h)
 rintro ⟨x_2, x_3⟩ L w hJ h
 try dsimp only at hJ
 obtain ⟨rfl, hS⟩ := hJ
 unfold F.math_bits_Len32_K1 at h
 refine kO (r := r) (fun (g : UInt32 × Int) L w => L = [(0, v32 g.1), (2, vI g.2)] ∧ St [] w0 w []) (F.math_bits_Len32_K2) ?_ ?_
 rotate_left
 ·intro hK_8
  refine ke (kc (kb 1 rfl ?_))
  refine ki (kt rfl rfl (b_geq32 _ x_2 256)) rfl (kf (ka ?_))
  refine ko rfl (fun hb_5 => ?_) (fun hb_5 => ?_)
  ·have h := if_t h hb_5
   refine ke (kc (kb 1 rfl ?_))
   refine ki (kt rfl rfl (b_shr32_64 _ x_2 8)) rfl (kb 1 rfl ?_)
   refine kf (ka (kc (kb 3 rfl ?_)))
   refine kf (ka ?_)
   exact kn _ (by exact ⟨rfl, rfl, trivial⟩) (hK_8 (shr32 x_2 8, wI (x_3 + 8)) _ _ ⟨rfl, hS⟩ h)
  have h := if_f h hb_5
  refine kr (ka ?_)
  exact kn _ (by exact ⟨rfl, rfl, trivial⟩) (hK_8 (x_2, x_3) _ _ ⟨rfl, hS⟩ h)
 rintro ⟨x_6, x_7⟩ L w hJ h
 try dsimp only at hJ
 obtain ⟨rfl, hS⟩ := hJ
 unfold F.math_bits_Len32_K2 at h
 refine ke (kc (kb 2 rfl ?_))
 refine ki (kF rfl (cv_32_8 Tryz.underlying52 Tryz.underlying5 x_6)) rfl ?_
 obtain ⟨x_9, hx_9, h⟩ := kg h
 refine ki (G_ixS Tryz.underlying9 rfl rfl hx_9) rfl (ki (kF rfl (cv_8_i Tryz.underlying5 Tryz.underlying3 x_9)) rfl (kb 1 rfl ?_))
 obtain ⟨x_10, hx_10, h⟩ := kI h
 refine ki (kA (v := vI x_10) (by rw [← hx_10]; rfl)) rfl ?_
 refine kf (ka (kq ?_))
 cases h
 exact ky rfl rfl ⟨rfl, hS⟩
theorem c_math_bits_Div32 (w0 : World) (a0 : UInt32) (a1 : UInt32) (a2 : UInt32)   (r : UInt32 × UInt32)
  (h : F.math_bits_Div32 a0 a1 a2 = some r) : Calls Tryz.prog 150 #[v32 a0, v32 a1, v32 a2] w0 (Ret fun v w => v = .tuple #[v32 r.1, v32 r.2] ∧ St [] w0 w []) := by
 refine kz 33 Tryz.func150 rfl rfl rfl ?_
 have hS := St.start w0
 refine kn [(0, v32 a0), (1, v32 a1), (2, v32 a2)] ⟨rfl, rfl, rfl, trivial⟩ ?_
 unfold F.math_bits_Div32 at h
 refine ke (kc (kb 2 rfl ?_))
 refine kf (ka (ke ?_))
 refine kO (r := r) (fun (g : Bool) L w => L = [(0, v32 a0), (1, v32 a1), (2, v32 a2), (15, vB g)] ∧ St [] w0 w []) (F.math_bits_Div32_K1 a0 a1 a2) ?_ ?_
 rotate_left
 ·intro hK_3
  refine kc (kb 1 rfl ?_)
  refine ki (kt rfl rfl (b_neq32 _ a2 0)) rfl (kb 1 rfl ?_)
  cases hb_1 : (a2 != 0)
  case true =>
   have h := if_t h hb_1
   try simp only [hb_1]
   refine kb 2 rfl ?_
   refine kT (t := 11) rfl rfl (kt rfl rfl (b_leq32 _ a2 a0)) rfl (kb 1 rfl ?_)
   refine kf (ka ?_)
   exact kn _ (by exact ⟨rfl, rfl, rfl, rfl, trivial⟩) (hK_3 (decide (a2 ≤ a0)) _ _ ⟨rfl, hS⟩ h)
  case false =>
   have h := if_f h hb_1
   try simp only [hb_1]
   refine kb 4 rfl ?_
   refine kf (ka ?_)
   exact kn _ (by exact ⟨rfl, rfl, rfl, rfl, trivial⟩) (hK_3 false _ _ ⟨rfl, hS⟩ h)
 rintro x_2 L w hJ h
 try dsimp only at hJ
 obtain ⟨rfl, hS⟩ := hJ
 unfold F.math_bits_Div32_K1 at h
 refine ko rfl (fun hb_9 => ?_) (fun hb_9 => ?_)
 ·have h := if_t h hb_9
  cases h
 have h := if_f h hb_9
 refine kr (ka (ke (kc (kb 1 rfl ?_))))
 refine ki (kF rfl (cv_32_64 Tryz.underlying52 Tryz.underlying94 a0)) rfl (ki (kt rfl rfl (b_shl64_64 _ a0.toUInt64 32)) rfl (kb 1 rfl ?_))
 refine ki (kF rfl (cv_32_64 Tryz.underlying52 Tryz.underlying94 a1)) rfl (ki (kt rfl rfl (b_or64 _ (shl64 a0.toUInt64 32) a1.toUInt64)) rfl ?_)
 obtain ⟨x_4, hx_4, h⟩ := kI h
 refine ki (kA (v := v64 x_4) (by rw [← hx_4]; rfl)) rfl ?_
 refine kf (ka (ke ?_))
 refine kN (fun w' => St [] w0 w' []) (fun _ => true) hmix (fun _ _ _ hf => hf.2) (fun _ _ hf => hf) (by kernel_rfl) ?_
 have hS := hS.drew
 show lxE _ _ _ _ _ _ _ [0, 1, 2, 3, 4, 5, 6, 7, 8, 9, 10, 11] _ _
 refine kj hS rfl rfl (fun w hF => km rfl) rfl (kj hS rfl rfl (fun w hF => km rfl) rfl (kj hS rfl rfl (fun w hF => kF rfl (cv_32_64 Tryz.underlying52 Tryz.underlying94 a2)) rfl ?_))
 obtain ⟨hg_5, h⟩ := grd_some h
 refine kj hS rfl rfl (fun w hF => kt rfl rfl (b_quo64 _ x_4 a2.toUInt64 hg_5)) rfl (kj hS rfl rfl (fun w hF => kF rfl (cv_64_32 Tryz.underlying94 Tryz.underlying52 (x_4 / a2.toUInt64))) rfl (kj hS rfl rfl (fun w hF => km rfl) rfl (kj hS rfl rfl (fun w hF => km rfl) rfl (kj hS rfl rfl (fun w hF => kF rfl (cv_32_64 Tryz.underlying52 Tryz.underlying94 a2)) rfl ?_))))
 obtain ⟨hg_6, h⟩ := grd_some h
 refine kj hS rfl rfl (fun w hF => kt rfl rfl (b_rem64 _ x_4 a2.toUInt64 hg_6)) rfl (kj hS rfl rfl (fun w hF => kF rfl (cv_64_32 Tryz.underlying94 Tryz.underlying52 (x_4 % a2.toUInt64))) rfl ?_)
 obtain ⟨x_7, hx_7, h⟩ := kI h
 refine kj hS rfl rfl (fun w hF => kA (v := v32 x_7) (by rw [← hx_7]; rfl)) rfl ?_
 obtain ⟨x_8, hx_8, h⟩ := kI h
 refine kj hS rfl rfl (fun w hF => kA (v := v32 x_8) (by rw [← hx_8]; rfl)) rfl ?_
 refine kY hS ?_
 refine ka (kq ?_)
 cases h
 exact QE_ret2 rfl rfl rfl ⟨rfl, hS⟩
theorem c_math_bits_LeadingZeros32 (w0 : World) (a0 : UInt32)   (r : Int)
  (h : F.math_bits_LeadingZeros32 a0 = some r) : Calls Tryz.prog 151 #[v32 a0] w0 (Ret fun v w => v = vI r ∧ St [] w0 w []) := by
 refine kz 6 Tryz.func151 rfl rfl rfl ?_
 have hS := St.start w0
 refine kn [(0, v32 a0)] ⟨rfl, trivial⟩ ?_
 unfold F.math_bits_LeadingZeros32 at h
 refine ke (kc (kb 1 rfl ?_))
 refine kf (ka (ke (kc (kb 1 rfl ?_))))
 obtain ⟨x_1, hx_1, h⟩ := kg h
 refine kk (by kernel_rfl) rfl (c_math_bits_Len32 _ a0    _ hx_1) rfl ?_
 rintro _ w ⟨rfl, hS1⟩
 have hS := hS.call hS1
 refine kb 2 rfl ?_
 refine kf (ka (kq ?_))
 cases h
 exact ky rfl rfl ⟨rfl, hS⟩
theorem c_math_bits_Sub32 (w0 : World) (a0 : UInt32) (a1 : UInt32) (a2 : UInt32)   (r : UInt32 × UInt32)
  (h : F.math_bits_Sub32 a0 a1 a2 = some r) : Calls Tryz.prog 149 #[v32 a0, v32 a1, v32 a2] w0 (Ret fun v w => v = .tuple #[v32 r.1, v32 r.2] ∧ St [] w0 w []) := by
 refine kz 25 Tryz.func149 rfl rfl rfl ?_
 have hS := St.start w0
 refine kn [(0, v32 a0), (1, v32 a1), (2, v32 a2)] ⟨rfl, rfl, rfl, trivial⟩ ?_
 unfold F.math_bits_Sub32 at h
 refine ke (kc (kb 2 rfl ?_))
 refine kf (ka (ke (kc (kb 2 rfl ?_))))
 refine ki (kt rfl rfl (b_sub32 _ a0 a1)) rfl (kb 1 rfl ?_)
 refine ki (kt rfl rfl (b_sub32 _ (a0 - a1) a2)) rfl (kb 1 rfl ?_)
 refine kf (ka (ke (kc (kb 1 rfl ?_))))
 refine ki (kc1 rfl (u_xor32 a0)) rfl (kb 1 rfl ?_)
 refine ki (kt rfl rfl (b_and32 _ (~~~ a0) a1)) rfl (kb 2 rfl ?_)
 refine ki (kt rfl rfl (b_xor32 _ a0 a1)) rfl (ki (kc1 rfl (u_xor32 (a0 ^^^ a1))) rfl (kb 1 rfl ?_))
 refine ki (kt rfl rfl (b_and32 _ (~~~ (a0 ^^^ a1)) ((a0 - a1) - a2))) rfl (ki (kt rfl rfl (b_or32 _ ((~~~ a0) &&& a1) ((~~~ (a0 ^^^ a1)) &&& ((a0 - a1) - a2)))) rfl (ki (kt rfl rfl (b_shr32_64 _ (((~~~ a0) &&& a1) ||| ((~~~ (a0 ^^^ a1)) &&& ((a0 - a1) - a2))) 31)) rfl ?_))
 obtain ⟨x_1, hx_1, h⟩ := kI h
 refine ki (kA (v := v32 x_1) (by rw [← hx_1]; rfl)) rfl ?_
 refine kf (ka (kq ?_))
 cases h
 exact QE_ret2 rfl rfl rfl ⟨rfl, hS⟩
end Go.Proofs
