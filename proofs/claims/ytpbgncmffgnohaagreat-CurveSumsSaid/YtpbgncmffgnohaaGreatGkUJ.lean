import Derived.Test.YtpbgncmffgnohaaGreatGkUG
set_option linter.unusedVariables false
set_option linter.unusedSimpArgs false

section
set_option linter.unusedSimpArgs false
set_option linter.unusedVariables false
namespace Go.Gk.Bn
open Go Go.Gk Go.Gk.Sh
def nS (c : Int) : Nat := if c = 1 then 32 else 48
def decT (c : Int) (x y : List UInt8) : List UInt32 × List UInt32 × Bool × Int :=
  if isC c ∧ x.length = nS c ∧ y.length = nS c ∧ onN (cP c) (cB c) (beN x) (beN y) = true then (limbs (beN x), limbs (beN y), false, 0) else ([], [], false, 93)
def encT (c : Int) (X Y : List UInt32) (inf : Bool) : List UInt8 × List UInt8 × Int :=
  if onS c X Y inf = true ∧ inf = false then (beB (nS c) (val X), beB (nS c) (val Y), 0) else ([], [], 93)
theorem onN_lt {p b x y : Nat} (h : onN p b x y = true) : x < p ∧ y < p := by
  unfold onN at h
  simp only [Bool.and_eq_true, decide_eq_true_eq] at h
  exact ⟨h.1, h.2.1⟩
end Go.Gk.Bn
end

section
set_option linter.unusedSimpArgs false
set_option linter.unusedVariables false
namespace Go.Gk.Bn
open Go Go.Gk Go.Gk.Sh
def mbw (i : Nat) : UInt8 := UInt8.ofInt (wI (90 + (i : Int)))
def mb60 (n : Nat) : List UInt8 := (List.range n).map mbw
theorem copied_eq (X Y : List UInt32) (q : Bool) (hX : X.length ≤ 50000000000000) (hY : Y.length ≤ 50000000000000) : F.law11_copied X Y q = some (X, Y, q) := by
  have e2 : loop (F.law11_copied_L2 Y q X) (0, []) = some (X, Y, q) := by
    have e := loop_foldI (f := F.law11_copied_L2 Y q X) (fun (x : List UInt32) i => ((i : Int), x)) (fun i x => i ≤ Y.length → x = Y.take i) (fun x i => x ++ [Y.getD i 0]) 0 Y.length (X := fun x => some (X, Y, q))
      (fun i x _ hi hx => by
        have hx := hx (by omega)
        refine ⟨?_, fun _ => by rw [hx, take_succ_D (by omega)]⟩
        have w4 : wI ((i : Int) + 1) = ((i + 1 : Nat) : Int) := by rw [wI_in (by omega) (by omega)]; rfl
        unfold F.law11_copied_L2
        dsimp only
        rw [if_pos (decide_eq_true (by omega)), getO_D hi 0, kg, apO_ok (by rw [hx]; simp; omega), kg, w4]; rfl)
      (fun x hx => by
        have hx := hx (Nat.le_refl _)
        rw [List.take_length] at hx
        unfold F.law11_copied_L2
        dsimp only
        rw [if_neg (by simp), hx])
      Y.length 0 [] (Nat.le_refl _) (by omega) (fun _ => by simp)
    exact e
  have e := loop_foldI (f := F.law11_copied_L1 X Y q) (fun (x : List UInt32) i => ((i : Int), x)) (fun i x => i ≤ X.length → x = X.take i) (fun x i => x ++ [X.getD i 0]) 0 X.length (X := fun x => some (X, Y, q))
    (fun i x _ hi hx => by
      have hx := hx (by omega)
      refine ⟨?_, fun _ => by rw [hx, take_succ_D (by omega)]⟩
      have w4 : wI ((i : Int) + 1) = ((i + 1 : Nat) : Int) := by rw [wI_in (by omega) (by omega)]; rfl
      unfold F.law11_copied_L1
      dsimp only
      rw [if_pos (decide_eq_true (by omega)), getO_D hi 0, kg, apO_ok (by rw [hx]; simp; omega), kg, w4]; rfl)
    (fun x hx => by
      have hx := hx (Nat.le_refl _)
      rw [List.take_length] at hx
      unfold F.law11_copied_L1
      dsimp only
      rw [if_neg (by simp), hx, e2])
    X.length 0 [] (Nat.le_refl _) (by omega) (fun _ => by simp)
  exact e
theorem over_eq (X Y : List UInt32) (q : Bool) (g h : List UInt32) (q' : Bool) (hX : X.length ≤ 50000000000000) (hY : Y.length ≤ 50000000000000) : ∃ X' Y', F.law11_over X Y q g h q' = some (X', Y') ∧ X'.length = X.length ∧ Y'.length = Y.length := by
  have l2 : ∀ (X' : List UInt32) (k i : Nat) (R : List UInt32), i + k = Y.length → R.length = Y.length → ∃ Y', loop (F.law11_over_L2 h X') ((i : Int), R) = some (X', Y') ∧ Y'.length = Y.length := by
    intro X' k
    induction k with
    | zero =>
      intro i R hi hR
      refine ⟨R, ?_, hR⟩
      refine loop_inr ?_
      unfold F.law11_over_L2
      dsimp only
      rw [if_neg (by simp only [decide_eq_true_eq]; omega)]; rfl
    | succ k ih =>
      intro i R hi hR
      have w4 : wI ((i : Int) + 1) = ((i + 1 : Nat) : Int) := by rw [wI_in (by omega) (by omega)]; rfl
      by_cases hg : i < h.length
      · have hst : F.law11_over_L2 h X' ((i : Int), R) = some (.inl (((i + 1 : Nat) : Int), (R.set i 0).set i (h.getD i 0))) := by
          unfold F.law11_over_L2
          dsimp only
          rw [if_pos (decide_eq_true (by omega)), getO_D (show i < R.length by omega) 0, kg, olet_eq, if_pos (decide_eq_true (by omega)), getO_D hg 0, kg, Int.toNat_natCast, getO_D (show i < (R.set i 0).length by simp; omega) 0, kg, olet_eq]
          unfold F.law11_over_K2
          rw [w4]; rfl
        rw [loop_inl hst]
        exact ih (i + 1) _ (by omega) (by simpa using hR)
      · have hst : F.law11_over_L2 h X' ((i : Int), R) = some (.inl (((i + 1 : Nat) : Int), R.set i 0)) := by
          unfold F.law11_over_L2
          dsimp only
          rw [if_pos (decide_eq_true (by omega)), getO_D (show i < R.length by omega) 0, kg, olet_eq, if_neg (by simp only [decide_eq_true_eq]; omega), Int.toNat_natCast]
          unfold F.law11_over_K2
          rw [w4]; rfl
        rw [loop_inl hst]
        exact ih (i + 1) _ (by omega) (by simpa using hR)
  have l1 : ∀ (k i : Nat) (R : List UInt32), i + k = X.length → R.length = X.length → ∃ X' Y', loop (F.law11_over_L1 Y g h) ((i : Int), R) = some (X', Y') ∧ X'.length = X.length ∧ Y'.length = Y.length := by
    intro k
    induction k with
    | zero =>
      intro i R hi hR
      obtain ⟨Y', h1, h2⟩ := l2 R Y.length 0 Y (by omega) rfl
      refine ⟨R, Y', ?_, hR, h2⟩
      have hst : F.law11_over_L1 Y g h ((i : Int), R) = oinr (loop (F.law11_over_L2 h R) (0, Y)) := by
        unfold F.law11_over_L1
        dsimp only
        rw [if_neg (by simp only [decide_eq_true_eq]; omega)]
      rw [loop_oinr' hst]; exact h1
    | succ k ih =>
      intro i R hi hR
      have w4 : wI ((i : Int) + 1) = ((i + 1 : Nat) : Int) := by rw [wI_in (by omega) (by omega)]; rfl
      by_cases hg : i < g.length
      · have hst : F.law11_over_L1 Y g h ((i : Int), R) = some (.inl (((i + 1 : Nat) : Int), (R.set i 0).set i (g.getD i 0))) := by
          unfold F.law11_over_L1
          dsimp only
          rw [if_pos (decide_eq_true (by omega)), getO_D (show i < R.length by omega) 0, kg, olet_eq, if_pos (decide_eq_true (by omega)), getO_D hg 0, kg, Int.toNat_natCast, getO_D (show i < (R.set i 0).length by simp; omega) 0, kg, olet_eq]
          unfold F.law11_over_K1
          rw [w4]; rfl
        rw [loop_inl hst]
        exact ih (i + 1) _ (by omega) (by simpa using hR)
      · have hst : F.law11_over_L1 Y g h ((i : Int), R) = some (.inl (((i + 1 : Nat) : Int), R.set i 0)) := by
          unfold F.law11_over_L1
          dsimp only
          rw [if_pos (decide_eq_true (by omega)), getO_D (show i < R.length by omega) 0, kg, olet_eq, if_neg (by simp only [decide_eq_true_eq]; omega), Int.toNat_natCast]
          unfold F.law11_over_K1
          rw [w4]; rfl
        rw [loop_inl hst]
        exact ih (i + 1) _ (by omega) (by simpa using hR)
  exact l1 X.length 0 X (by omega) rfl
end Go.Gk.Bn
end
