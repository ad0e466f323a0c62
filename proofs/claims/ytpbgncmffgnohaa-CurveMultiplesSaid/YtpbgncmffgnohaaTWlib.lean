import Derived.Test.YtpbgncmffgnohaaTW0
import Derived.Test.YtpbgncmffgnohaaGkFlib
set_option linter.unusedVariables false
set_option linter.unusedSimpArgs false
set_option linter.unusedVariables false
set_option maxRecDepth 4000
namespace Go.Proofs
open Go Go.RowKit Go.Gk
theorem c_math_bits_Len32 (w0 : World) (a0 : UInt32)   (r : Int)
  (h : F.math_bits_Len32 a0 = some r) : Calls Try.prog 61 #[v32 a0] w0 (Ret fun v w => v = vI r ∧ St [] w0 w []) := by
 refine ky 19 Try.func61 rfl rfl rfl ?_
 have hS := St.start w0
 refine km [(0, v32 a0)] ⟨rfl, trivial⟩ ?_
 unfold F.math_bits_Len32 at h
 refine kd (kc (kb 1 rfl ?_))
 refine ke (ka ?_)
 refine kN (r := r) (fun (g : UInt32 × Int) L w => L = [(0, v32 g.1), (2, vI g.2)] ∧ St [] w0 w []) (F.math_bits_Len32_K1) ?_ ?_
 rotate_left
 ·intro hK_4
  refine kd (kc (kb 1 rfl ?_))
  refine kh (kr rfl rfl (b_geq32 _ a0 65536)) rfl (ke (ka ?_))
  refine kn rfl (fun hb_1 => ?_) (fun hb_1 => ?_)
  ·have h := if_t h hb_1
   refine kd (kc (kb 1 rfl ?_))
   refine kh (kr rfl rfl (b_shr32_64 _ a0 16)) rfl (kb 1 rfl ?_)
   refine ke (ka (kc (kb 1 rfl ?_)))
   refine ke (ka ?_)
   exact km _ (by exact ⟨rfl, rfl, trivial⟩) (hK_4 (shr32 a0 16, 16) _ _ ⟨rfl, hS⟩ h)
  have h := if_f h hb_1
  refine kq (ka ?_)
  exact km _ (by exact ⟨rfl, rfl, trivial⟩) (hK_4 (a0, 0) _ _ ⟨rfl, hS⟩ h)
 rintro ⟨x_2, x_3⟩ L w hJ h
 try dsimp only at hJ
 obtain ⟨rfl, hS⟩ := hJ
 unfold F.math_bits_Len32_K1 at h
 refine kN (r := r) (fun (g : UInt32 × Int) L w => L = [(0, v32 g.1), (2, vI g.2)] ∧ St [] w0 w []) (F.math_bits_Len32_K2) ?_ ?_
 rotate_left
 ·intro hK_8
  refine kd (kc (kb 1 rfl ?_))
  refine kh (kr rfl rfl (b_geq32 _ x_2 256)) rfl (ke (ka ?_))
  refine kn rfl (fun hb_5 => ?_) (fun hb_5 => ?_)
  ·have h := if_t h hb_5
   refine kd (kc (kb 1 rfl ?_))
   refine kh (kr rfl rfl (b_shr32_64 _ x_2 8)) rfl (kb 1 rfl ?_)
   refine ke (ka (kc (kb 3 rfl ?_)))
   refine ke (ka ?_)
   exact km _ (by exact ⟨rfl, rfl, trivial⟩) (hK_8 (shr32 x_2 8, wI (x_3 + 8)) _ _ ⟨rfl, hS⟩ h)
  have h := if_f h hb_5
  refine kq (ka ?_)
  exact km _ (by exact ⟨rfl, rfl, trivial⟩) (hK_8 (x_2, x_3) _ _ ⟨rfl, hS⟩ h)
 rintro ⟨x_6, x_7⟩ L w hJ h
 try dsimp only at hJ
 obtain ⟨rfl, hS⟩ := hJ
 unfold F.math_bits_Len32_K2 at h
 refine kd (kc (kb 2 rfl ?_))
 refine kh (kE rfl (cv_32_8 Try.underlying52 Try.underlying5 x_6)) rfl ?_
 obtain ⟨x_9, hx_9, h⟩ := kf h
 refine kh (G_ixS Try.underlying9 rfl rfl hx_9) rfl (kh (kE rfl (cv_8_i Try.underlying5 Try.underlying3 x_9)) rfl (kb 1 rfl ?_))
 obtain ⟨x_10, hx_10, h⟩ := kH h
 refine kh (kz (v := vI x_10) (by rw [← hx_10]; rfl)) rfl ?_
 refine ke (ka (ko ?_))
 cases h
 exact kx rfl rfl ⟨rfl, hS⟩
end Go.Proofs
