import Derived.Test.YtmmlnghanonbjaaGkP0
set_option linter.unusedVariables false
set_option linter.unusedSimpArgs false
set_option linter.unusedSimpArgs false
set_option linter.unusedVariables false
namespace Go.Gk
open Go
theorem loop_oinr' {σ ρ : Type} {f : σ → Option (σ ⊕ ρ)} {s : σ} {X : Option ρ} (h : f s = oinr X) : loop f s = X := by
  rw [loop_eq, h]
  cases X <;> rfl
theorem fill_loop {τ ρ : Type} {f : Int × List τ → Option ((Int × List τ) ⊕ ρ)} {c : τ} {X : List τ → Option ρ}
    (hf : ∀ i l, f (i, l) = if decide (i < (l.length : Int)) = true then (obind (getO l i) fun _ => olet (l.set i.toNat c) fun y => oinl (wI (i + 1), y)) else oinr (X l))
    (l : List τ) (hl : l.length ≤ 4611686018427387904) : loop f (0, l) = X (List.replicate l.length c) := by
  have key : ∀ (r i : Nat) (m : List τ), i + r = m.length → m.length = l.length → m.take i = List.replicate i c → loop f ((i : Int), m) = X (List.replicate l.length c) := by
    intro r
    induction r with
    | zero =>
      intro i m h1 h2 h3
      have : m = List.replicate l.length c := by
        rw [← h2, show m.length = i by omega, ← h3, List.take_of_length_le (by omega)]
      have hd : decide ((i : Int) < (m.length : Int)) = false := decide_eq_false (by omega)
      refine loop_oinr' ?_
      rw [hf, hd, ← this]
      rfl
    | succ r ih =>
      intro i m h1 h2 h3
      have hi : i < m.length := by omega
      have hd : decide ((i : Int) < (m.length : Int)) = true := decide_eq_true (by omega)
      have hs : f ((i : Int), m) = some (.inl (((i + 1 : Nat) : Int), m.set i c)) := by
        rw [hf, hd, getO_lt hi]
        simp only [if_true, bind_some', olet_eq, Int.toNat_natCast]
        rw [wI_in (by omega) (by omega)]
        rfl
      rw [loop_inl hs]
      refine ih (i + 1) _ (by simp; omega) (by simp; omega) ?_
      rw [List.take_set, List.take_succ_eq_append_getElem hi, h3, List.set_append_right _ _ (by simp)]
      simp [List.replicate_succ']
  exact key l.length 0 l (by simp) rfl (by simp)
theorem more_loop {τ ρ : Type} {f : List τ × Int → Option ((List τ × Int) ⊕ ρ)} {c : τ} {X : List τ → Option ρ} {bytes : Nat}
    (hf : ∀ l k, f (l, k) = if decide (k < 70) = true then (obind (apO bytes l [c]) fun y => oinl (y, wI (k + 1))) else oinr (X l))
    (l : List τ) (hl : (l.length + 70) * bytes ≤ 225000000000000) : loop f (l, 0) = X (l ++ List.replicate 70 c) := by
  have key : ∀ (r i : Nat), i + r = 70 → loop f (l ++ List.replicate i c, (i : Int)) = X (l ++ List.replicate 70 c) := by
    intro r
    induction r with
    | zero =>
      intro i h1
      have hd : decide ((i : Int) < 70) = false := decide_eq_false (by omega)
      have : i = 70 := by omega
      subst this
      refine loop_oinr' ?_
      rw [hf, hd]
      rfl
    | succ r ih =>
      intro i h1
      have hd : decide ((i : Int) < 70) = true := decide_eq_true (by omega)
      have hs : f (l ++ List.replicate i c, (i : Int)) = some (.inl (l ++ List.replicate (i + 1) c, ((i + 1 : Nat) : Int))) := by
        rw [hf, hd, apO_ok (Nat.le_trans (Nat.mul_le_mul_right _ (by simp; omega)) hl)]
        simp only [if_true, bind_some']
        rw [wI_in (by omega) (by omega), List.append_assoc, ← List.replicate_succ']
        rfl
      rw [loop_inl hs]
      exact ih (i + 1) (by omega)
  simpa using key 70 0 (by omega)
theorem look_loop {f : Int → Option (Int ⊕ Bool)} {τ : Type} {X : Option Bool} (n : Nat) (c d : τ) (pc pd : τ → Bool) (hc : pc c = false) (hdd : pd d = false) (hn : n ≤ 4611686018427387904)
    (hf : ∀ i, f i = if decide (i < ((List.replicate n c ++ List.replicate 70 d).length : Int)) = true then
      (if decide (i < ((List.replicate n c).length : Int)) = true then
        (obind (getO (List.replicate n c) i) fun x =>
          if pc x = true then (if true = true then oinr (some false) else oinl (wI (i + 1)))
          else (obind (getO (List.replicate n c ++ List.replicate 70 d) i) fun y =>
            if pc y = true then (if true = true then oinr (some false) else oinl (wI (i + 1)))
            else (if decide (((List.replicate n c).length : Int) ≤ i) = true then (obind (getO (List.replicate n c ++ List.replicate 70 d) i) fun z => if pd z = true then oinr (some false) else oinl (wI (i + 1)))
              else (if false = true then oinr (some false) else oinl (wI (i + 1))))))
      else (if decide (((List.replicate n c).length : Int) ≤ i) = true then (obind (getO (List.replicate n c ++ List.replicate 70 d) i) fun z => if pd z = true then oinr (some false) else oinl (wI (i + 1)))
        else (if false = true then oinr (some false) else oinl (wI (i + 1)))))
      else oinr X) : loop f 0 = X := by
  have key : ∀ (r i : Nat), i + r = n + 70 → loop f (i : Int) = X := by
    intro r
    induction r with
    | zero =>
      intro i h1
      have hd : decide ((i : Int) < ((List.replicate n c ++ List.replicate 70 d).length : Int)) = false := decide_eq_false (by simp; omega)
      refine loop_oinr' ?_
      rw [hf, hd]
      rfl
    | succ r ih =>
      intro i h1
      have hd : decide ((i : Int) < ((List.replicate n c ++ List.replicate 70 d).length : Int)) = true := decide_eq_true (by simp; omega)
      have hw : wI ((i : Int) + 1) = ((i + 1 : Nat) : Int) := by rw [wI_in (by omega) (by omega)]; rfl
      have hs : f (i : Int) = some (.inl (((i + 1 : Nat) : Int))) := by
        rw [hf, hd, hw]
        have hi2 : i < (List.replicate n c ++ List.replicate 70 d).length := by simp; omega
        by_cases h : i < n
        · have h2 : decide ((i : Int) < ((List.replicate n c).length : Int)) = true := decide_eq_true (by simp; omega)
          have h3 : decide (((List.replicate n c).length : Int) ≤ (i : Int)) = false := decide_eq_false (by simp; omega)
          have g1 : getO (List.replicate n c) (i : Int) = some c := by rw [getO_lt (by simpa using h)]; simp
          have g2 : getO (List.replicate n c ++ List.replicate 70 d) (i : Int) = some c := by rw [getO_lt hi2, List.getElem_append_left (by simpa using h), List.getElem_replicate]
          rw [h2, h3, g1, g2]
          simp only [bind_some', if_true, hc, Bool.false_eq_true, if_false]
          rfl
        · have h2 : decide ((i : Int) < ((List.replicate n c).length : Int)) = false := decide_eq_false (by simp; omega)
          have h3 : decide (((List.replicate n c).length : Int) ≤ (i : Int)) = true := decide_eq_true (by simp; omega)
          have g2 : getO (List.replicate n c ++ List.replicate 70 d) (i : Int) = some d := by rw [getO_lt hi2, List.getElem_append_right (by simp; omega), List.getElem_replicate]
          rw [h2, h3, g2]
          simp only [bind_some', if_true, hdd, Bool.false_eq_true, if_false]
          rfl
      rw [loop_inl hs]
      exact ih (i + 1) (by omega)
  exact key (n + 70) 0 (by omega)
theorem look_to {f : Int → Option (Int ⊕ Bool)} {τ : Type} {X r : Option Bool} (n : Nat) (c d : τ) (pc pd : τ → Bool) (hc : pc c = false) (hdd : pd d = false) (hn : n ≤ 4611686018427387904)
    (hf : ∀ i, f i = if decide (i < ((List.replicate n c ++ List.replicate 70 d).length : Int)) = true then
      (if decide (i < ((List.replicate n c).length : Int)) = true then
        (obind (getO (List.replicate n c) i) fun x =>
          if pc x = true then (if true = true then oinr (some false) else oinl (wI (i + 1)))
          else (obind (getO (List.replicate n c ++ List.replicate 70 d) i) fun y =>
            if pc y = true then (if true = true then oinr (some false) else oinl (wI (i + 1)))
            else (if decide (((List.replicate n c).length : Int) ≤ i) = true then (obind (getO (List.replicate n c ++ List.replicate 70 d) i) fun z => if pd z = true then oinr (some false) else oinl (wI (i + 1)))
              else (if false = true then oinr (some false) else oinl (wI (i + 1))))))
      else (if decide (((List.replicate n c).length : Int) ≤ i) = true then (obind (getO (List.replicate n c ++ List.replicate 70 d) i) fun z => if pd z = true then oinr (some false) else oinl (wI (i + 1)))
        else (if false = true then oinr (some false) else oinl (wI (i + 1)))))
      else oinr X) (hX : X = r) : loop f 0 = r := (look_loop n c d pc pd hc hdd hn hf).trans hX
end Go.Gk
