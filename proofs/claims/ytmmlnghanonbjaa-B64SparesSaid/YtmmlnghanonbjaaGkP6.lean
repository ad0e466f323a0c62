import Derived.Test.YtmmlnghanonbjaaGkP5
set_option linter.unusedVariables false
set_option linter.unusedSimpArgs false
set_option linter.unusedSimpArgs false
set_option linter.unusedVariables false
namespace Go.Gk
theorem law1_same_eq (x y : List UInt8) (hx : x.length < 225000000000000) : F.law1_same x y = some (decide (x = y)) := by
  unfold F.law1_same
  by_cases hl : x.length = y.length
  · rw [if_neg (by simp [hl])]
    have key : ∀ m i, i + m = x.length → loop (F.law1_same_L1 x y) (i : Int) = some (decide (x.drop i = y.drop i)) := by
      intro m
      induction m with
      | zero =>
        intro i hi
        refine loop_inr ?_
        unfold F.law1_same_L1
        dsimp only
        rw [if_neg (by simp; omega), List.drop_eq_nil_of_le (by omega), List.drop_eq_nil_of_le (by omega)]
        simp [oinr]
      | succ m ih =>
        intro i hi
        have h1 : i < x.length := by omega
        have h2 : i < y.length := by omega
        rw [List.drop_eq_getElem_cons h1, List.drop_eq_getElem_cons h2]
        by_cases he : x[i] = y[i]
        · rw [loop_inl (s' := ((i + 1 : Nat) : Int))]
          · rw [ih (i + 1) (by omega), he]; simp only [List.cons.injEq, true_and]
          · unfold F.law1_same_L1
            dsimp only
            rw [if_pos (by simp; omega), getO_lt h1, bind_some', getO_lt h2, bind_some', if_neg (by simp [he]), step_int i (by omega)]; rfl
        · refine loop_inr ?_
          unfold F.law1_same_L1
          dsimp only
          rw [if_pos (by simp; omega), getO_lt h1, bind_some', getO_lt h2, bind_some', if_pos (by simp [he])]
          simp only [List.cons.injEq, he, false_and, decide_false]; rfl
    simpa using key x.length 0 (by omega)
  · rw [if_pos (by simp; omega)]
    have : x ≠ y := fun e => hl (by rw [e])
    simp [this]
theorem law1_same_self (x : List UInt8) (hx : x.length < 225000000000000) : F.law1_same x x = some true := by rw [law1_same_eq x x hx]; simp
theorem law1_roomy_eq (l : List UInt8) (hl : l.length ≤ 140737488355328) : F.law1_roomy l = some (l ++ List.replicate 9 165, l.length) := by
  unfold F.law1_roomy
  have e1 : wI ((l.length : Int) + 9) = ((l.length + 9 : Nat) : Int) := by rw [wI_in] <;> omega
  rw [e1, mkO_ok (by omega), bind_some', olet_eq]
  have e2 : cpL (List.replicate ((l.length + 9 : Nat) : Int).toNat (0 : UInt8)) l 0 (List.replicate ((l.length + 9 : Nat) : Int).toNat (0 : UInt8)).length = l ++ List.replicate 9 0 := by
    unfold cpL
    rw [List.length_replicate, Int.toNat_natCast, List.take_zero, List.nil_append, Nat.sub_zero, Nat.zero_add, List.take_of_length_le (by omega), show min l.length (l.length + 9) = l.length by omega, List.drop_replicate, show l.length + 9 - l.length = 9 by omega]
  rw [e2]
  have key : ∀ m j, j + m = 9 → loop (F.law1_roomy_L1 l) (((l.length + j : Nat) : Int), l ++ List.replicate j 165 ++ List.replicate m 0) = some (l ++ List.replicate 9 165, l.length) := by
    intro m
    induction m with
    | zero =>
      intro j hj
      refine loop_inr ?_
      unfold F.law1_roomy_L1
      dsimp only
      have : j = 9 := by omega
      subst this
      rw [if_neg (by simp), grd_true _ (by simp)]
      simp [oinr]
    | succ m ih =>
      intro j hj
      rw [loop_inl (s' := (((l.length + (j + 1) : Nat) : Int), l ++ List.replicate (j + 1) 165 ++ List.replicate m 0))]
      · exact ih (j + 1) (by omega)
      · unfold F.law1_roomy_L1
        dsimp only
        have hlen : l.length + j < (l ++ List.replicate j (165 : UInt8) ++ List.replicate (m + 1) 0).length := by simp
        have e3 : wI (((l.length + j : Nat) : Int) + 1) = ((l.length + (j + 1) : Nat) : Int) := by rw [wI_in] <;> omega
        rw [if_pos (by simp; omega), getO_lt hlen, bind_some', olet_eq, e3, Int.toNat_natCast]
        have e4 : (l ++ List.replicate j (165 : UInt8) ++ List.replicate (m + 1) 0).set (l.length + j) 165 = l ++ List.replicate (j + 1) 165 ++ List.replicate m 0 := by
          rw [List.set_append_right _ _ (by simp)]
          rw [List.replicate_succ' (n := j)]
          simp [List.replicate_succ]
        rw [e4]; rfl
  simpa [List.replicate] using key 9 0 rfl
theorem tri_quad {sg : List UInt8} (hs : SgOk sg) (a b c : UInt8) : quad sg (sg6 sg (tri a b c / 262144)) (sg6 sg (tri a b c / 4096 % 64)) (sg6 sg (tri a b c / 64 % 64)) (sg6 sg (tri a b c % 64)) = tri a b c := by
  have := tri_lt a b c
  unfold quad
  rw [hs.inv _ (by omega), hs.inv _ (by omega), hs.inv _ (by omega), hs.inv _ (by omega)]
  omega
theorem u8_eq (a : UInt8) (n : Nat) (h : n % 256 = a.toNat) : UInt8.ofNat n = a := by
  apply UInt8.toNat_inj.1
  rw [UInt8.toNat_ofNat']; exact h
theorem read_spell {sg : List UInt8} (hs : SgOk sg) : ∀ l, readL sg (spellL sg l) = l ∧ restL sg (spellL sg l) = true ∧ ∀ c ∈ spellL sg l, c ∈ sg
  | a :: b :: c :: r => by
    obtain ⟨h1, h2, h3⟩ := read_spell hs r
    have ha := a.toNat_lt; have hb := b.toNat_lt; have hc := c.toNat_lt
    have ht := tri_lt a b c
    refine ⟨?_, ?_, ?_⟩
    · simp only [spellL, readL, tri_quad hs, h1]
      rw [u8_eq a _ (by unfold tri; omega), u8_eq b _ (by unfold tri; omega), u8_eq c _ (by unfold tri; omega)]
    · simp only [spellL, restL, h2]
    · intro x hx
      simp only [spellL, List.mem_cons] at hx
      rcases hx with rfl | rfl | rfl | rfl | hx
      · exact sg6_mem hs (by omega)
      · exact sg6_mem hs (by omega)
      · exact sg6_mem hs (by omega)
      · exact sg6_mem hs (by omega)
      · exact h3 x hx
  | [a, b] => by
    have ha := a.toNat_lt; have hb := b.toNat_lt
    have i1 := hs.inv (a.toNat / 4) (by omega); have i2 := hs.inv (a.toNat % 4 * 16 + b.toNat / 16) (by omega); have i3 := hs.inv (b.toNat % 16 * 4) (by omega)
    refine ⟨?_, ?_, ?_⟩
    · simp only [spellL, readL, tri3, i1, i2, i3]
      rw [u8_eq a _ (by omega), u8_eq b _ (by omega)]
    · simp only [spellL, restL, tri3, i1, i2, i3, beq_iff_eq]; omega
    · intro x hx
      simp only [spellL, List.mem_cons, List.not_mem_nil, or_false] at hx
      rcases hx with rfl | rfl | rfl
      · exact sg6_mem hs (by omega)
      · exact sg6_mem hs (by omega)
      · exact sg6_mem hs (by omega)
  | [a] => by
    have ha := a.toNat_lt
    have i1 := hs.inv (a.toNat / 4) (by omega); have i2 := hs.inv (a.toNat % 4 * 16) (by omega)
    refine ⟨?_, ?_, ?_⟩
    · simp only [spellL, readL, duo2, i1, i2]
      rw [u8_eq a _ (by omega)]
    · simp only [spellL, restL, duo2, i1, i2, beq_iff_eq]; omega
    · intro x hx
      simp only [spellL, List.mem_cons, List.not_mem_nil, or_false] at hx
      rcases hx with rfl | rfl
      · exact sg6_mem hs (by omega)
      · exact sg6_mem hs (by omega)
  | [] => by simp [spellL, readL, restL]
theorem decU_spell (l : List UInt8) : decU (spellL urlS l) = (l, 0, 0) := by
  obtain ⟨h1, h2, h3⟩ := read_spell urlS_ok l
  have hl := spellL_length urlS l
  unfold decU
  rw [badAt_good h3]
  dsimp only
  rw [if_neg (by omega), if_pos h2, h1]
theorem stdEnd_fill (s : List UInt8) (hs : ∀ c ∈ s, c ∈ stdS) (h1 : s.length % 4 ≠ 1) : stdEnd (fillL s) = s.length ∧ (fillL s).take s.length = s ∧ (fillL s).length % 4 = 0 := by
  have hn : ∀ q, q < s.length → s.getD q 0 ≠ 61 := by
    intro q hq e
    have := hs _ (getD_mem hq)
    rw [e] at this
    revert this; decide
  have h4 : s.length % 4 = 0 ∨ s.length % 4 = 2 ∨ s.length % 4 = 3 := by omega
  refine ⟨?_, by simp [fillL], by simp [fillL]; omega⟩
  have hget : ∀ q, q < s.length → (fillL s).getD q 0 = s.getD q 0 := by
    intro q hq
    simp [fillL, List.getD, List.getElem?_append_left hq]
  have hget2 : ∀ q, s.length ≤ q → q < (fillL s).length → (fillL s).getD q 0 = 61 := by
    intro q h2 h3
    rw [getD_lt h3]
    simp only [fillL]
    rw [List.getElem_append_right h2, List.getElem_replicate]
  unfold stdEnd
  rcases h4 with h4 | h4 | h4
  · have hl : (fillL s).length = s.length := by simp [fillL, h4]
    rw [if_neg]
    · exact hl
    · rintro ⟨h5, h6⟩
      rw [hget _ (by omega), hl] at h6
      exact hn _ (by omega) h6
  · have hl : (fillL s).length = s.length + 2 := by simp [fillL, h4]
    rw [if_pos ⟨by omega, hget2 _ (by omega) (by omega)⟩, if_pos ⟨by omega, hget2 _ (by omega) (by omega)⟩]
    omega
  · have hl : (fillL s).length = s.length + 1 := by simp [fillL, h4]
    rw [if_pos ⟨by omega, hget2 _ (by omega) (by omega)⟩, if_neg]
    · omega
    · rintro ⟨h5, h6⟩
      rw [hget _ (by omega)] at h6
      exact hn _ (by omega) h6
theorem decS_spell (l : List UInt8) : decS (fillL (spellL stdS l)) = (l, 0, 0) := by
  obtain ⟨h1, h2, h3⟩ := read_spell stdS_ok l
  have hl := spellL_length stdS l
  obtain ⟨h4, h5, h6⟩ := stdEnd_fill _ h3 (by omega)
  unfold decS
  rw [h4, h5, badAt_good h3]
  dsimp only
  rw [if_neg (by omega), if_pos h2, h1]
end Go.Gk
