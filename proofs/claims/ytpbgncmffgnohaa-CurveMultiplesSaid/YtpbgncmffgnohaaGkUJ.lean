import Derived.Test.YtpbgncmffgnohaaGkUG
set_option linter.unusedVariables false
set_option linter.unusedSimpArgs false

section
set_option linter.unusedSimpArgs false
set_option linter.unusedVariables false
namespace Go.Gk.Bn
open Go Go.Gk Go.Gk.Sh
def nS (c : Int) : Nat := if c = 1 then 32 else 48
def decT (c : Int) (x y : List UInt8) : List UInt32 × List UInt32 × Bool × Int :=
  if isC c ∧ x.length = nS c ∧ y.length = nS c ∧ onN (cP c) (cB c) (beN x) (beN y) = true then (limbs (beN x), limbs (beN y), false, 0) else ([], [], false, 93)
def encT (c : Int) (X Y : List UInt32) (inf : Bool) : List UInt8 × List UInt8 × Int :=
  if onS c X Y inf = true ∧ inf = false then (beB (nS c) (val X), beB (nS c) (val Y), 0) else ([], [], 93)
theorem onN_lt {p b x y : Nat} (h : onN p b x y = true) : x < p ∧ y < p := by
  unfold onN at h
  simp only [Bool.and_eq_true, decide_eq_true_eq] at h
  exact ⟨h.1, h.2.1⟩
end Go.Gk.Bn
end

section
set_option linter.unusedSimpArgs false
set_option linter.unusedVariables false
namespace Go.Gk.Bn
open Go Go.Gk Go.Gk.Sh
def mbw (i : Nat) : UInt8 := UInt8.ofInt (wI (90 + (i : Int)))
def mb60 (n : Nat) : List UInt8 := (List.range n).map mbw
end Go.Gk.Bn
end
