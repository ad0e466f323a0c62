import Derived.Test.YtpbgncmffgnohaaGreatGkUG
set_option linter.unusedVariables false
set_option linter.unusedSimpArgs false

section
set_option linter.unusedSimpArgs false
set_option linter.unusedVariables false
namespace Go.Gk.Bn
open Go Go.Gk Go.Gk.Sh
theorem onN_lt {p b x y : Nat} (h : onN p b x y = true) : x < p ∧ y < p := by
  unfold onN at h
  simp only [Bool.and_eq_true, decide_eq_true_eq] at h
  exact ⟨h.1, h.2.1⟩
end Go.Gk.Bn
end

section
set_option linter.unusedSimpArgs false
set_option linter.unusedVariables false
namespace Go.Gk.Bn
open Go Go.Gk Go.Gk.Sh
end Go.Gk.Bn
end
