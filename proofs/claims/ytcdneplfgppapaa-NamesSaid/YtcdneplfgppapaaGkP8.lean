/- The closed sentence: the constants' numbers. No program. -/
import Derived.Test.YtcdneplfgppapaaGkP0
import Derived.Test.YtcdneplfgppapaaGkFtop
set_option linter.unusedSimpArgs false
namespace Go.Gk

theorem loop_upS' {σ ρ : Type} {f : σ → Option (σ ⊕ ρ)} {n : Nat} {r : ρ} (st : Nat → σ) (hstep : ∀ i, i < n → f (st i) = some (.inl (st (i + 1)))) (hend : f (st n) = some (.inr r)) :
    ∀ i, i ≤ n → loop f (st i) = some r := by
  intro i hi
  induction h : n - i generalizing i with
  | zero =>
    have : i = n := by omega
    subst this
    exact loop_inr hend
  | succ k ih =>
    rw [loop_inl (hstep i (by omega))]
    exact ih (i + 1) (by omega) (by omega)

theorem top_limits_eq : F.top_limits = some true := by
  unfold F.top_limits
  refine loop_upS' (n := 20) (fun i => (i : Int)) (fun i hi => ?_) rfl 0 (by omega)
  unfold F.top_limits_L1
  dsimp only
  rw [if_pos (by simp; omega), getO_lt (by simp; omega), bind_some', bind_some', if_neg (by simp)]
  rw [show wI ((i : Int) + 1) = ((i + 1 : Nat) : Int) by rw [wI_in] <;> omega]; rfl

theorem top_Names_eq : F.top_Names = some true := by
  have h1 : F.top_numbers = F.top_wanted := by
    unfold F.top_numbers
    repeat rw [apO_ok (by simp), bind_some']
    rfl
  unfold F.top_Names
  rw [h1]
  unfold F.top_wanted
  rw [bind_some', bind_some', if_neg (by simp)]
  generalize hl : ([0, 10, 11, 12, 20, 21, 22, 30, 31, 32, 33, 34, 60, 61, 80, 90, 91, 92, 93, 100, 101, 102, 103, 104, 105, 110, 111, 112, 113, 120, 130, 131, 132, 133, 134, 135, 136, 137, 140, 141, 150, 151, 152, 153, 160, 161, 162, 163, 170, 180, 181, 190, 1, 2, 3, 4, 5, 6, 7, 1, 2, 3, 0, 1, 2, 3, 4, 5, 6, 7, 8, 9, 10, 11, 12, 0, 1, 2, 3, 4, 0, 1, 2, 3, 1, 2, 3, 4, 5, 6, 7, 8, 9, 10, 11, 200, 201, 210, 211, 220, 221, 230, 231, 232, 233, 234, 240, 241, 242, 250] : List Int) = l
  have hlen : l.length = 110 := by rw [← hl]; rfl
  refine loop_upS' (n := 110) (fun i => (i : Int)) (fun i hi => ?_) ?_ 0 (by omega)
  · unfold F.top_Names_L1
    dsimp only
    rw [if_pos (by simp; omega), getO_lt (by omega), bind_some', bind_some', if_neg (by simp)]
    rw [show wI ((i : Int) + 1) = ((i + 1 : Nat) : Int) by rw [wI_in] <;> omega]; rfl
  · unfold F.top_Names_L1
    dsimp only
    rw [if_neg (by simp; omega), top_limits_eq]; rfl
end Go.Gk
