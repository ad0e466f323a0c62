import Derived.Test.YtpbgncmffgnohaaGreatGkFref6
import Derived.Test.YtpbgncmffgnohaaGreatGkFref7
import Derived.Test.YtpbgncmffgnohaaGreatGkUA
set_option linter.unusedVariables false
set_option linter.unusedSimpArgs false

section
set_option linter.unusedSimpArgs false
set_option linter.unusedVariables false
namespace Go.Gk.Bn
open Go Go.Gk Go.Gk.Sh
theorem limb7 (a : List UInt32) (i : Nat) : F.ref7_limb a (i : Int) = some (a.getD i 0).toUInt64 := by
  unfold F.ref7_limb
  by_cases h : a.length ≤ i
  · rw [if_pos (decide_eq_true (by omega)), getD_beyond h]; rfl
  · rw [if_neg (by simp only [decide_eq_true_eq]; omega), getO_D (show i < a.length by omega) 0, kg]
theorem limb6 (a : List UInt32) (i : Nat) : F.ref6_limb a (i : Int) = some (a.getD i 0).toUInt64 := by
  unfold F.ref6_limb
  by_cases h : a.length ≤ i
  · rw [if_pos (decide_eq_true (by omega)), getD_beyond h]; rfl
  · rw [if_neg (by simp only [decide_eq_true_eq]; omega), getO_D (show i < a.length by omega) 0, kg]
theorem lt64 (x y : UInt32) : x.toUInt64 < y.toUInt64 ↔ x.toNat < y.toNat := by rw [UInt64.lt_iff_toNat_lt, up32, up32]
theorem Trim7_eq (a : List UInt32) (ha : a.length ≤ 50000000000000) : F.ref7_Trim a = some (limbs (val a)) := by
  unfold F.ref7_Trim
  obtain ⟨n, hn, ht, hl⟩ := trim_loop (f := F.ref7_Trim_L1 a) a (fun x_1 => obind (tkO a (x_1 : Int)) fun x_9 => obind (apO 4 [] x_9) fun x_10 => some x_10) (by omega) (fun n hn => by
    unfold F.ref7_Trim_L1 F.ref7_Trim_K1
    by_cases h0 : n = 0
    · subst h0
      rw [if_neg (by simp), if_neg (by simp)]
      rfl
    · have w1 : wI ((n : Int) - 1) = ((n - 1 : Nat) : Int) := by rw [wI_in (by omega) (by omega)]; omega
      rw [if_pos (decide_eq_true (by omega)), w1, getO_D (show n - 1 < a.length by omega) 0, kg]
      by_cases hz : a.getD (n - 1) 0 = 0
      · rw [if_pos (show n ≠ 0 ∧ a.getD (n - 1) 0 = 0 from ⟨h0, hz⟩), if_pos (show (a.getD (n - 1) 0 == 0) = true from by rw [hz]; rfl)]; rfl
      · rw [if_neg (show ¬ (n ≠ 0 ∧ a.getD (n - 1) 0 = 0) from fun h => hz h.2), if_neg (show ¬ (a.getD (n - 1) 0 == 0) = true from fun h => hz (eq_of_beq h))])
  have hap : apO 4 [] (a.take n) = some (a.take n) := by unfold apO; rw [if_pos (by simp; omega)]; simp
  rw [hl, tkO_ok hn, kg, hap, kg, ht]
theorem cmp_top (a b : List UInt32) (k : Nat) (h : val (a.drop (k + 1)) = val (b.drop (k + 1))) (hlt : (a.getD k 0).toNat < (b.getD k 0).toNat) : val a < val b := by
  have h1 := val_drop a k; have h2 := val_drop b k
  have h3 : val (a.drop k) < val (b.drop k) := by omega
  rw [← val_div, ← val_div] at h3
  exact Nat.lt_of_not_le fun hle => by have := Nat.div_le_div_right (c := 4294967296 ^ k) hle; omega
theorem Cmp7_eq (a b : List UInt32) (ha : a.length ≤ 4611686018427387904) (hb : b.length ≤ 4611686018427387904) : F.ref7_Cmp a b = some (cmpN (val a) (val b)) := by
  unfold F.ref7_Cmp
  obtain ⟨m, hm⟩ : ∃ m, max a.length b.length = m := ⟨_, rfl⟩
  have w0 : wI ((max (a.length : Int) (b.length : Int)) - 1) = (m : Int) - 1 := by rw [wI_in (by omega) (by omega)]; omega
  rw [w0, olet_eq]
  have key : ∀ k, k ≤ m → val (a.drop k) = val (b.drop k) → loop (F.ref7_Cmp_L1 a b) ((k : Int) - 1) = some (cmpN (val a) (val b)) := by
    intro k
    induction k with
    | zero =>
      intro _ h
      rw [List.drop_zero, List.drop_zero] at h
      refine loop_inr ?_
      unfold F.ref7_Cmp_L1 cmpN
      rw [if_neg (by decide), h, if_neg (by omega), if_pos rfl]; rfl
    | succ k ih =>
      intro hk h
      have e1 : (((k + 1 : Nat) : Int)) - 1 = (k : Int) := by omega
      rw [e1]
      have hL : F.ref7_Cmp_L1 a b (k : Int) = if (a.getD k 0).toNat < (b.getD k 0).toNat then some (.inr (-1)) else if (b.getD k 0).toNat < (a.getD k 0).toNat then some (.inr 1) else some (.inl ((k : Int) - 1)) := by
        unfold F.ref7_Cmp_L1
        rw [if_pos (decide_eq_true (by omega)), limb7, kg, limb7, kg]
        by_cases h1 : (a.getD k 0).toNat < (b.getD k 0).toNat
        · rw [if_pos (decide_eq_true ((lt64 _ _).2 h1)), if_pos h1]; rfl
        · rw [if_neg (by rw [decide_eq_true_eq, lt64]; exact h1), if_neg h1, kg, kg]
          by_cases h2 : (b.getD k 0).toNat < (a.getD k 0).toNat
          · rw [if_pos (decide_eq_true ((lt64 _ _).2 h2)), if_pos h2]; rfl
          · rw [if_neg (by rw [decide_eq_true_eq, lt64]; exact h2), if_neg h2, wI_in (by omega) (by omega)]; rfl
      by_cases h1 : (a.getD k 0).toNat < (b.getD k 0).toNat
      · rw [if_pos h1] at hL
        have := cmp_top a b k h h1
        rw [loop_inr hL]; unfold cmpN; rw [if_pos this]
      · rw [if_neg h1] at hL
        by_cases h2 : (b.getD k 0).toNat < (a.getD k 0).toNat
        · rw [if_pos h2] at hL
          have := cmp_top b a k h.symm h2
          rw [loop_inr hL]; unfold cmpN; rw [if_neg (by omega), if_neg (by omega)]
        · rw [if_neg h2] at hL
          rw [loop_inl hL]
          refine ih (by omega) ?_
          rw [val_drop a k, val_drop b k, h]; omega
  exact key m (Nat.le_refl _) (by rw [List.drop_of_length_le (by omega), List.drop_of_length_le (by omega)])
theorem Cmp6_eq (a b : List UInt32) (ha : a.length ≤ 4611686018427387904) (hb : b.length ≤ 4611686018427387904) : F.ref6_Cmp a b = some (cmpN (val a) (val b)) := by
  have key : ∀ k : Nat, k ≤ 4611686018427387904 → val (a.drop k) = val (b.drop k) → loop (F.ref6_Cmp_L1 a b) ((k : Int) - 1) = some (cmpN (val a) (val b)) := by
    intro k
    induction k with
    | zero =>
      intro _ h
      rw [List.drop_zero, List.drop_zero] at h
      refine loop_inr ?_
      unfold F.ref6_Cmp_L1 cmpN
      rw [if_neg (by decide), h, if_neg (by omega), if_pos rfl]; rfl
    | succ k ih =>
      intro hk h
      have e1 : (((k + 1 : Nat) : Int)) - 1 = (k : Int) := by omega
      rw [e1]
      have hL : F.ref6_Cmp_L1 a b (k : Int) = if (a.getD k 0).toNat < (b.getD k 0).toNat then some (.inr (-1)) else if (b.getD k 0).toNat < (a.getD k 0).toNat then some (.inr 1) else some (.inl ((k : Int) - 1)) := by
        unfold F.ref6_Cmp_L1
        rw [if_pos (decide_eq_true (by omega)), limb6, kg, limb6, kg]
        by_cases h1 : (a.getD k 0).toNat < (b.getD k 0).toNat
        · rw [if_pos (decide_eq_true ((lt64 _ _).2 h1)), if_pos h1]; rfl
        · rw [if_neg (by rw [decide_eq_true_eq, lt64]; exact h1), if_neg h1]
          by_cases h2 : (b.getD k 0).toNat < (a.getD k 0).toNat
          · rw [if_pos (decide_eq_true ((lt64 _ _).2 h2)), if_pos h2]; rfl
          · rw [if_neg (by rw [decide_eq_true_eq, lt64]; exact h2), if_neg h2, wI_in (by omega) (by omega)]; rfl
      by_cases h1 : (a.getD k 0).toNat < (b.getD k 0).toNat
      · rw [if_pos h1] at hL
        have := cmp_top a b k h h1
        rw [loop_inr hL]; unfold cmpN; rw [if_pos this]
      · rw [if_neg h1] at hL
        by_cases h2 : (b.getD k 0).toNat < (a.getD k 0).toNat
        · rw [if_pos h2] at hL
          have := cmp_top b a k h.symm h2
          rw [loop_inr hL]; unfold cmpN; rw [if_neg (by omega), if_neg (by omega)]
        · rw [if_neg h2] at hL
          rw [loop_inl hL]
          refine ih (by omega) ?_
          rw [val_drop a k, val_drop b k, h]; omega
  have k1 : ∀ m : Nat, m ≤ 4611686018427387904 → a.length ≤ m → b.length ≤ m → F.ref6_Cmp_K1 a b (m : Int) = some (cmpN (val a) (val b)) := by
    intro m hm h1 h2
    have w0 : wI ((m : Int) - 1) = (m : Int) - 1 := wI_in (by omega) (by omega)
    show loop (F.ref6_Cmp_L1 a b) (wI ((m : Int) - 1)) = _
    rw [w0]
    exact key m hm (by rw [List.drop_of_length_le h1, List.drop_of_length_le h2])
  unfold F.ref6_Cmp
  by_cases h : a.length < b.length
  · rw [if_pos (decide_eq_true (by omega))]; exact k1 _ hb (by omega) (Nat.le_refl _)
  · rw [if_neg (by simp only [decide_eq_true_eq]; omega)]; exact k1 _ ha (Nat.le_refl _) (by omega)
def wrg (m : List UInt32) (l : List (List UInt32)) : Int := if (l.any fun a => decide (128 < (limbs (val a)).length)) = true then 10 else if 128 < (limbs (val m)).length then 10 else if val m ≤ 1 then 60 else 0
theorem wrong2_eq (m a b : List UInt32) (hm : m.length ≤ 50000000000000) (ha : a.length ≤ 50000000000000) (hb : b.length ≤ 50000000000000) (hma : (limbs (val a)).length ≤ 128) (hmb : (limbs (val b)).length ≤ 128) (hmm : (limbs (val m)).length ≤ 128) (h1 : 1 < val m) :
    F.ref7_wrong m [a, b] = some 0 := by
  unfold F.ref7_wrong
  have s0 : F.ref7_wrong_L1 m [a, b] 0 = some (.inl 1) := by
    unfold F.ref7_wrong_L1
    rw [if_pos (by simp), getO_lit0, kg, Trim7_eq a ha, kg, if_neg (by simp only [decide_eq_true_eq]; omega)]; rfl
  have s1 : F.ref7_wrong_L1 m [a, b] 1 = some (.inl 2) := by
    unfold F.ref7_wrong_L1
    rw [if_pos (by simp), getO_lit1, kg, Trim7_eq b hb, kg, if_neg (by simp only [decide_eq_true_eq]; omega)]; rfl
  have s2 : F.ref7_wrong_L1 m [a, b] 2 = oinr (some 0) := by
    unfold F.ref7_wrong_L1
    rw [if_neg (by simp), Trim7_eq m hm, kg, if_neg (by simp only [decide_eq_true_eq]; omega)]
    unfold F.ref7_one
    have hv1 : val [1] = 1 := rfl
    have hc : cmpN (val m) 1 = 1 := by unfold cmpN; rw [if_neg (by omega), if_neg (by omega)]
    rw [kg, Cmp7_eq _ _ (by omega) (by simp), kg, hv1, hc, if_neg (by decide)]
  rw [loop_inl s0, loop_inl s1, loop_oinr' s2]
theorem and32 (s : UInt64) : (s &&& 4294967295).toUInt32 = s.toUInt32 := by
  apply UInt32.toNat_inj.1
  rw [lo32, lo32, UInt64.toNat_and]
  have : (4294967295 : UInt64).toNat = 2 ^ 32 - 1 := rfl
  rw [this, Nat.and_two_pow_sub_one_eq_mod]
  omega
theorem Plus_eq (a b : List UInt32) (ha : a.length ≤ 40000000000000) (hb : b.length ≤ 40000000000000) : F.ref7_Plus a b = some (limbs (val a + val b)) := by
  obtain ⟨m, hm⟩ : ∃ m, max a.length b.length = m := ⟨_, rfl⟩
  have hmx : max (a.length : Int) (b.length : Int) = (m : Int) := by omega
  unfold F.ref7_Plus
  have hstep : ∀ (x : List UInt32 × UInt64) (i : Nat), x.2.toNat ≤ 1 → ((a.getD i 0).toUInt64 + (b.getD i 0).toUInt64) + x.2 = x.2 + (a.getD i 0).toUInt64 + (b.getD i 0).toUInt64 := fun x i _ => by
    rw [UInt64.add_comm _ x.2, UInt64.add_assoc]
  have e := loop_foldI (f := F.ref7_Plus_L1 a b) (fun (x : List UInt32 × UInt64) i => (x.1, x.2, (i : Int)))
    (fun i x => x.1.length = i ∧ val x.1 + 4294967296 ^ i * x.2.toNat = val (a.take i) + val (b.take i) ∧ x.2.toNat ≤ 1) (addS a b) 0 (m + 1)
    (X := fun x => some (limbs (val x.1)))
    (fun i x _ hi hx => by
      obtain ⟨h1, h2, h3⟩ := hx
      refine ⟨?_, addS_val h1 h2 h3⟩
      have w1 : wI ((i : Int) + 1) = ((i + 1 : Nat) : Int) := by rw [wI_in (by omega) (by omega)]; rfl
      unfold F.ref7_Plus_L1
      dsimp only
      rw [hmx, if_pos (decide_eq_true (by omega)), limb7, kg, limb7, kg, hstep x i h3, and32, apO_ok (by simp; omega), kg, olet_eq, w1]
      rfl)
    (fun x hx => by
      obtain ⟨h1, h2, h3⟩ := hx
      unfold F.ref7_Plus_L1
      dsimp only
      rw [hmx, if_neg (by simp only [decide_eq_true_eq]; omega), Trim7_eq _ (by omega), kg])
    (m + 1) 0 ([], 0) (Nat.le_refl _) (by omega) ⟨rfl, by simp [val], by decide⟩
  have hI := fold_invI (fun i (x : List UInt32 × UInt64) => x.1.length = i ∧ val x.1 + 4294967296 ^ i * x.2.toNat = val (a.take i) + val (b.take i) ∧ x.2.toNat ≤ 1) (addS a b) (fun i x hx => addS_val hx.1 hx.2.1 hx.2.2) (m + 1) 0 ([], 0) ⟨rfl, by simp [val], by decide⟩
  obtain ⟨x, hx⟩ : ∃ x, (List.range' 0 (m + 1)).foldl (addS a b) ([], 0) = x := ⟨_, rfl⟩
  rw [hx] at hI e
  obtain ⟨h1, h2, h3⟩ := hI
  rw [Nat.zero_add, List.take_of_length_le (by omega), List.take_of_length_le (by omega)] at h2
  refine e.trans ?_
  -- no carry is left
  have ha2 : val a < 4294967296 ^ m := Nat.lt_of_lt_of_le (val_lt a) (Nat.pow_le_pow_right (by decide) (by omega))
  have hb2 : val b < 4294967296 ^ m := Nat.lt_of_lt_of_le (val_lt b) (Nat.pow_le_pow_right (by decide) (by omega))
  have hp := Nat.pow_pos (n := m) (show 0 < 4294967296 by decide)
  have h0 : x.2.toNat = 0 := by
    rcases Nat.eq_zero_or_pos x.2.toNat with h | h
    · exact h
    · have : 4294967296 ^ (m + 1) * 1 ≤ 4294967296 ^ (m + 1) * x.2.toNat := Nat.mul_le_mul_left _ h
      rw [Nat.pow_succ] at this h2
      omega
  rw [h0, Nat.mul_zero, Nat.add_zero] at h2
  rw [h2]
end Go.Gk.Bn
end

section
set_option linter.unusedSimpArgs false
set_option linter.unusedVariables false
namespace Go.Gk.Bn
open Go Go.Gk Go.Gk.Sh
theorem brw (u v : UInt32) (c : UInt64) (hc : c.toNat ≤ 1) :
    (u.toUInt64 < v.toUInt64 + c ↔ u.toNat < v.toNat + c.toNat) ∧ (u.toNat < v.toNat + c.toNat → ((u.toUInt64 + 4294967296) - (v.toUInt64 + c)).toUInt32.toNat + v.toNat + c.toNat = u.toNat + 4294967296) ∧
      (¬ u.toNat < v.toNat + c.toNat → (u.toUInt64 - (v.toUInt64 + c)).toUInt32.toNat + v.toNat + c.toNat = u.toNat) := by
  have hu := w_lt u; have hv := w_lt v
  have e1 : (v.toUInt64 + c).toNat = v.toNat + c.toNat := by rw [add64 _ _ (by rw [up32]; omega), up32]
  have e2 : (4294967296 : UInt64).toNat = 4294967296 := rfl
  have e3 : (u.toUInt64 + 4294967296).toNat = u.toNat + 4294967296 := by rw [add64 _ _ (by rw [up32, e2]; omega), up32, e2]
  refine ⟨by rw [UInt64.lt_iff_toNat_lt, e1, up32], fun h => ?_, fun h => ?_⟩
  · rw [lo32, UInt64.toNat_sub_of_le _ _ (by rw [UInt64.le_iff_toNat_le, e1, e3]; omega), e1, e3]; omega
  · rw [lo32, UInt64.toNat_sub_of_le _ _ (by rw [UInt64.le_iff_toNat_le, e1, up32]; omega), e1, up32]; omega
def mnW (u v : UInt32) (c : UInt64) : UInt32 := if u.toUInt64 < v.toUInt64 + c then ((u.toUInt64 + 4294967296) - (v.toUInt64 + c)).toUInt32 else (u.toUInt64 - (v.toUInt64 + c)).toUInt32
def mnC (u v : UInt32) (c : UInt64) : UInt64 := if u.toUInt64 < v.toUInt64 + c then 1 else 0
theorem mn_val (u v : UInt32) (c : UInt64) (hc : c.toNat ≤ 1) : (mnW u v c).toNat + v.toNat + c.toNat = u.toNat + 4294967296 * (mnC u v c).toNat ∧ (mnC u v c).toNat ≤ 1 := by
  obtain ⟨h1, h2, h3⟩ := brw u v c hc
  unfold mnW mnC
  by_cases h : u.toNat < v.toNat + c.toNat
  · rw [if_pos (h1.2 h), if_pos (h1.2 h)]
    have : (1 : UInt64).toNat = 1 := rfl
    rw [this]; exact ⟨by have := h2 h; omega, by omega⟩
  · rw [if_neg (fun hh => h (h1.1 hh)), if_neg (fun hh => h (h1.1 hh))]
    have : (0 : UInt64).toNat = 0 := rfl
    rw [this]; exact ⟨by have := h3 h; omega, by omega⟩
def mnS (a b : List UInt32) (x : List UInt32 × UInt64) (i : Nat) : List UInt32 × UInt64 := (x.1 ++ [mnW (a.getD i 0) (b.getD i 0) x.2], mnC (a.getD i 0) (b.getD i 0) x.2)
theorem mnS_val {a b : List UInt32} {x : List UInt32 × UInt64} {i : Nat} (h1 : x.1.length = i) (h2 : val x.1 + val (b.take i) = val (a.take i) + 4294967296 ^ i * x.2.toNat) (h3 : x.2.toNat ≤ 1) :
    (mnS a b x i).1.length = i + 1 ∧ val (mnS a b x i).1 + val (b.take (i + 1)) = val (a.take (i + 1)) + 4294967296 ^ (i + 1) * (mnS a b x i).2.toNat ∧ (mnS a b x i).2.toNat ≤ 1 := by
  obtain ⟨e1, e2⟩ := mn_val (a.getD i 0) (b.getD i 0) x.2 h3
  unfold mnS
  refine ⟨by simp [h1], ?_, e2⟩
  simp only
  rw [val_snoc, h1, val_take_succ, val_take_succ]
  have := congrArg (4294967296 ^ i * ·) e1
  simp only [Nat.mul_add] at this
  rw [Nat.pow_succ, Nat.mul_assoc]
  omega
theorem Minus_eq (a b : List UInt32) (ha : a.length ≤ 50000000000000) (hv : val b ≤ val a) : F.ref7_Minus a b = some (limbs (val a - val b)) := by
  unfold F.ref7_Minus
  have e := loop_foldI (f := F.ref7_Minus_L1 a b) (fun (x : List UInt32 × UInt64) i => (x.1, x.2, (i : Int)))
    (fun i x => x.1.length = i ∧ val x.1 + val (b.take i) = val (a.take i) + 4294967296 ^ i * x.2.toNat ∧ x.2.toNat ≤ 1) (mnS a b) 0 a.length
    (X := fun x => some (limbs (val x.1)))
    (fun i x _ hi hx => by
      obtain ⟨h1, h2, h3⟩ := hx
      refine ⟨?_, mnS_val h1 h2 h3⟩
      have w1 : wI ((i : Int) + 1) = ((i + 1 : Nat) : Int) := by rw [wI_in (by omega) (by omega)]; rfl
      unfold F.ref7_Minus_L1
      dsimp only
      rw [if_pos (decide_eq_true (by omega)), limb7, kg, limb7, kg]
      unfold mnS mnW mnC
      by_cases h : (a.getD i 0).toUInt64 < (b.getD i 0).toUInt64 + x.2
      · rw [if_pos (decide_eq_true h), if_pos h, if_pos h]
        unfold F.ref7_Minus_K1
        dsimp only
        rw [apO_ok (by simp; omega), kg, w1]; rfl
      · rw [if_neg (by simpa using h), if_neg h, if_neg h]
        unfold F.ref7_Minus_K1
        dsimp only
        rw [apO_ok (by simp; omega), kg, w1]; rfl)
    (fun x hx => by
      unfold F.ref7_Minus_L1
      dsimp only
      rw [if_neg (by simp), Trim7_eq _ (by omega), kg])
    a.length 0 ([], 0) (Nat.le_refl _) (by omega) ⟨rfl, by simp [val], by simp⟩
  refine e.trans ?_
  obtain ⟨h1, h2, h3⟩ := fold_invI (fun i (x : List UInt32 × UInt64) => x.1.length = i ∧ val x.1 + val (b.take i) = val (a.take i) + 4294967296 ^ i * x.2.toNat ∧ x.2.toNat ≤ 1) (mnS a b)
    (fun i x hx => mnS_val hx.1 hx.2.1 hx.2.2) a.length 0 ([], 0) ⟨rfl, by simp [val], by simp⟩
  obtain ⟨y, hy⟩ : ∃ y, (List.range' 0 a.length).foldl (mnS a b) ([], 0) = y := ⟨_, rfl⟩
  rw [hy] at h1 h2 h3 ⊢
  rw [Nat.zero_add] at h1 h2
  have hb : val (b.take a.length) = val b := by
    by_cases hl : a.length ≤ b.length
    · have h4 := val_take_drop b a.length hl
      rw [drop_zero_of (Nat.lt_of_le_of_lt hv (val_lt a)), Nat.mul_zero, Nat.add_zero] at h4
      exact h4.symm
    · rw [List.take_of_length_le (by omega)]
  rw [List.take_length, hb] at h2
  have hlt := val_lt y.1
  rw [h1] at hlt
  have hc : y.2.toNat = 0 := by
    rcases Nat.eq_zero_or_pos y.2.toNat with h | h
    · exact h
    · have : y.2.toNat = 1 := by omega
      rw [this, Nat.mul_one] at h2
      omega
  rw [hc, Nat.mul_zero, Nat.add_zero] at h2
  rw [show val y.1 = val a - val b by omega]
theorem mul7_comm (c r p : UInt64) : r + p + c = c + (p + r) := by rw [UInt64.add_comm _ c, UInt64.add_comm r p]
theorem Times_inner (a b : List UInt32) (i : Nat) (r : List UInt32) (hi : i < a.length) (hl : r.length = a.length + b.length) (hz : ∀ k, i + b.length ≤ k → r.getD k 0 = 0) (hs : a.length + b.length ≤ 50000000000000) :
    ∃ r', loop (F.ref7_Times_L2 a b (i : Int)) (0, 0, r) = some (.inl (((i + 1 : Nat) : Int), r')) ∧ r'.length = a.length + b.length ∧ (∀ k, i + 1 + b.length ≤ k → r'.getD k 0 = 0) ∧ val r' = val r + 4294967296 ^ i * ((a.getD i 0).toNat * val b) := by
  have h0 : MulI (a.getD i 0) b i (a.length + b.length) r 0 (0, r) := ⟨hl, hz, by simp [val], by simp⟩
  have e := loop_foldI (f := F.ref7_Times_L2 a b (i : Int)) (fun (x : UInt64 × List UInt32) j => (x.1, (j : Int), x.2)) (fun j x => j ≤ b.length → MulI (a.getD i 0) b i (a.length + b.length) r j x) (mulS (a.getD i 0) b i) 0 b.length
    (X := fun x => some (.inl (((i + 1 : Nat) : Int), x.2.set (i + b.length) x.1.toUInt32)))
    (fun j x _ hj hx => by
      have hx := hx (by omega)
      refine ⟨?_, fun _ => mulS_inv (by omega) hj hx⟩
      obtain ⟨h1, h2, h3, h4⟩ := hx
      have w1 : wI ((i : Int) + (j : Int)) = ((i + j : Nat) : Int) := by rw [wI_in (by omega) (by omega)]; rfl
      have w2 : wI ((j : Int) + 1) = ((j + 1 : Nat) : Int) := by rw [wI_in (by omega) (by omega)]; rfl
      unfold F.ref7_Times_L2
      dsimp only
      rw [if_pos (decide_eq_true (by omega)), w1, getO_D (show i + j < x.2.length by omega) 0, kg, getO_D hi 0, kg, getO_D hj 0, kg, olet_eq, kg, olet_eq, Int.toNat_natCast, w2, and32, mul7_comm]
      rfl)
    (fun x hx => by
      obtain ⟨h1, h2, h3, h4⟩ := hx (Nat.le_refl _)
      have w1 : wI ((i : Int) + (b.length : Int)) = ((i + b.length : Nat) : Int) := by rw [wI_in (by omega) (by omega)]; rfl
      have w2 : wI ((i : Int) + 1) = ((i + 1 : Nat) : Int) := by rw [wI_in (by omega) (by omega)]; rfl
      unfold F.ref7_Times_L2
      dsimp only
      rw [if_neg (by simp), w1, getO_D (show i + b.length < x.2.length by omega) 0, kg, olet_eq, Int.toNat_natCast, w2]
      rfl)
    b.length 0 (0, r) (Nat.le_refl _) (by omega) (fun _ => h0)
  have hI := fold_invI (fun j (x : UInt64 × List UInt32) => j ≤ b.length → MulI (a.getD i 0) b i (a.length + b.length) r j x) (mulS (a.getD i 0) b i) (fun j x hx => fun hj => mulS_inv (by omega) (by omega) (hx (by omega))) b.length 0 (0, r) (fun _ => h0)
  obtain ⟨y, hy⟩ : ∃ y, (List.range' 0 b.length).foldl (mulS (a.getD i 0) b i) (0, r) = y := ⟨_, rfl⟩
  rw [hy] at hI e
  rw [Nat.zero_add] at hI
  obtain ⟨h1, h2, h3, h4⟩ := hI (Nat.le_refl _)
  refine ⟨_, e, by simpa using h1, fun k hk => ?_, ?_⟩
  · rw [getD_set (by omega)]; exact h2 k (by omega)
  · have hv := val_set y.2 (i + b.length) y.1.toUInt32 (by omega)
    rw [h2 _ (Nat.le_refl _)] at hv
    have : (0 : UInt32).toNat = 0 := rfl
    rw [this, Nat.mul_zero, Nat.add_zero] at hv
    rw [List.take_length] at h3
    rw [hv, lo32, Nat.mod_eq_of_lt (by omega), h3]
theorem Times_eq (a b : List UInt32) (hs : a.length + b.length ≤ 50000000000000) : F.ref7_Times a b = some (limbs (val a * val b)) := by
  unfold F.ref7_Times
  rw [wI_in (by omega) (by omega), mkO_ok (by omega), kg, show ((a.length : Int) + (b.length : Int)).toNat = a.length + b.length by omega]
  have key : ∀ (k i : Nat) (r : List UInt32), i + k = a.length → r.length = a.length + b.length → (∀ k, i + b.length ≤ k → r.getD k 0 = 0) → val r = val (a.take i) * val b → loop (F.ref7_Times_L1 a b) ((i : Int), r) = some (limbs (val a * val b)) := by
    intro k
    induction k with
    | zero =>
      intro i r h h1 h2 h3
      have : i = a.length := by omega
      subst this
      refine loop_inr ?_
      unfold F.ref7_Times_L1
      dsimp only
      rw [if_neg (by simp), Trim7_eq _ (by omega), kg, h3, List.take_length]; rfl
    | succ k ih =>
      intro i r h h1 h2 h3
      obtain ⟨r', e1, e2, e3, e4⟩ := Times_inner a b i r (by omega) h1 h2 hs
      have hst : F.ref7_Times_L1 a b ((i : Int), r) = some (.inl (((i + 1 : Nat) : Int), r')) := by
        unfold F.ref7_Times_L1
        dsimp only
        rw [if_pos (decide_eq_true (by omega)), e1]
      rw [loop_inl hst]
      refine ih (i + 1) r' (by omega) e2 (fun k hk => e3 k (by omega)) ?_
      rw [e4, h3, val_take_succ, Nat.add_mul, Nat.mul_assoc]
  exact key a.length 0 _ (by omega) (by simp) (fun k _ => by
    rw [List.getD_eq_getElem?_getD, List.getElem?_replicate]; split <;> rfl) (by rw [val_replicate0]; simp [val])
theorem word_bit (l : List UInt32) (i : Nat) : (l.getD (i / 32) 0).toNat / 2 ^ (i % 32) % 2 = val l / 2 ^ i % 2 := by
  have h1 : (2 : Nat) ^ i = 4294967296 ^ (i / 32) * 2 ^ (i % 32) := by
    rw [show (4294967296 : Nat) = 2 ^ 32 from rfl, ← Nat.pow_mul, ← Nat.pow_add]; congr 1; omega
  rw [h1, ← Nat.div_div_eq_div_mul, val_div, val_drop]
  obtain ⟨R, hR⟩ : ∃ R, val (l.drop (i / 32 + 1)) = R := ⟨_, rfl⟩
  obtain ⟨w, hw⟩ : ∃ w, (l.getD (i / 32) 0).toNat = w := ⟨_, rfl⟩
  obtain ⟨s, hs⟩ : ∃ s, i % 32 = s := ⟨_, rfl⟩
  rw [hR, hw, hs]
  have hp := pow_split (s := s) (by omega)
  rw [← hp, Nat.mul_assoc, Nat.add_mul_div_left _ _ (Nat.two_pow_pos s)]
  have h2 : (2 : Nat) ^ (32 - s) = 2 * 2 ^ (32 - s - 1) := by rw [Nat.mul_comm, ← Nat.pow_succ]; congr 1; omega
  rw [h2, Nat.mul_assoc]
  omega
theorem Bit7_eq (a : List UInt32) (i : Nat) (hi : i ≤ 4611686018427387904) : F.ref7_Bit a (i : Int) = some (decide (val a / 2 ^ i % 2 = 1)) := by
  unfold F.ref7_Bit
  have w1 : wI (Int.tdiv (i : Int) 32) = ((i / 32 : Nat) : Int) := by rw [Int.tdiv_eq_ediv_of_nonneg (by omega), wI_in (by omega) (by omega)]; omega
  have w2 : (UInt64.ofInt (Int.tmod (i : Int) 32)).toNat = i % 32 := by
    rw [Int.tmod_eq_emod_of_nonneg (by omega), UInt64.ofInt, UInt64.toNat_ofNat']; omega
  rw [w1, limb7, kg, w2]
  congr 1
  have h1 : ((shr64 (a.getD (i / 32) 0).toUInt64 (i % 32)) &&& 1).toNat = val a / 2 ^ i % 2 := by
    rw [UInt64.toNat_and, shr64_toNat, up32, Nat.min_eq_left (by omega), ← word_bit]
    have : (1 : UInt64).toNat = 2 ^ 1 - 1 := rfl
    rw [this, Nat.and_two_pow_sub_one_eq_mod]
  by_cases h : val a / 2 ^ i % 2 = 1
  · rw [decide_eq_true h, beq_iff_eq]
    apply UInt64.toNat_inj.1
    rw [h1, h]; rfl
  · rw [decide_eq_false h, beq_eq_false_iff_ne]
    intro hh
    rw [hh] at h1
    exact h h1.symm
def dbS (x : UInt32 × List UInt32) (k : Nat) : UInt32 × List UInt32 := (shr32 (x.2.getD k 0) 31, x.2.set k ((shl32 (x.2.getD k 0) 1) ||| x.1))
def DBI (r : List UInt32) (c k : Nat) (x : UInt32 × List UInt32) : Prop :=
  x.2.length = r.length ∧ (∀ j, k ≤ j → x.2.getD j 0 = r.getD j 0) ∧ val x.2 + 4294967296 ^ k * x.1.toNat = val r + val (r.take k) + c ∧ x.1.toNat ≤ 1
theorem dbS_inv {r : List UInt32} {c k : Nat} {x : UInt32 × List UInt32} (hk : k < r.length) (h : DBI r c k x) : DBI r c (k + 1) (dbS x k) := by
  obtain ⟨h1, h2, h3, h4⟩ := h
  have hw := w_lt (x.2.getD k 0)
  have e1 : (shr32 (x.2.getD k 0) 31).toNat = (x.2.getD k 0).toNat / 2147483648 := by rw [shr32_toNat]; rfl
  have e2 : (shl32 (x.2.getD k 0) 1).toNat = (x.2.getD k 0).toNat * 2 % 4294967296 := by rw [shl32_toNat]; rfl
  have e3 : ((shl32 (x.2.getD k 0) 1) ||| x.1).toNat = (x.2.getD k 0).toNat * 2 % 4294967296 + x.1.toNat := by
    rw [UInt32.toNat_or, or_add 1 (by rw [e2]; omega) (by omega), e2]
  unfold dbS
  refine ⟨by simpa using h1, fun j hj => ?_, ?_, by simp only [e1]; omega⟩
  · simp only
    rw [getD_set (by omega)]; exact h2 j (by omega)
  · simp only
    have hv := val_set x.2 k ((shl32 (x.2.getD k 0) 1) ||| x.1) (by omega)
    rw [val_take_succ, ← h2 k (Nat.le_refl _), e1]
    rw [e3] at hv
    have : (x.2.getD k 0).toNat * 2 = (x.2.getD k 0).toNat * 2 % 4294967296 + 4294967296 * ((x.2.getD k 0).toNat / 2147483648) := by omega
    have := congrArg (4294967296 ^ k * ·) this
    simp only [Nat.mul_add] at this
    rw [Nat.mul_add] at hv
    rw [Nat.pow_succ, Nat.mul_assoc]
    have e5 : 4294967296 ^ k * ((x.2.getD k 0).toNat * 2) = 4294967296 ^ k * (x.2.getD k 0).toNat + 4294967296 ^ k * (x.2.getD k 0).toNat := by rw [← Nat.mul_assoc]; omega
    omega
def tkS (d : List UInt32) (x : UInt64 × List UInt32) (k : Nat) : UInt64 × List UInt32 := (mnC (x.2.getD k 0) (d.getD k 0) x.1, x.2.set k (mnW (x.2.getD k 0) (d.getD k 0) x.1))
def TKI (d r : List UInt32) (k : Nat) (x : UInt64 × List UInt32) : Prop :=
  x.2.length = r.length ∧ (∀ j, k ≤ j → x.2.getD j 0 = r.getD j 0) ∧ val x.2 + val (d.take k) = val r + 4294967296 ^ k * x.1.toNat ∧ x.1.toNat ≤ 1
theorem tkS_inv {d r : List UInt32} {k : Nat} {x : UInt64 × List UInt32} (hk : k < r.length) (h : TKI d r k x) : TKI d r (k + 1) (tkS d x k) := by
  obtain ⟨h1, h2, h3, h4⟩ := h
  obtain ⟨e1, e2⟩ := mn_val (x.2.getD k 0) (d.getD k 0) x.1 h4
  unfold tkS
  refine ⟨by simpa using h1, fun j hj => ?_, ?_, e2⟩
  · simp only
    rw [getD_set (by omega)]; exact h2 j (by omega)
  · simp only
    have hv := val_set x.2 k (mnW (x.2.getD k 0) (d.getD k 0) x.1) (by omega)
    rw [val_take_succ]
    have := congrArg (4294967296 ^ k * ·) e1
    simp only [Nat.mul_add] at this
    rw [Nat.pow_succ, Nat.mul_assoc]
    omega
theorem or_bit (x : UInt32) (s : Nat) (hs : s < 32) (hx : x.toNat % 2 ^ (s + 1) = 0) : (x ||| shl32 1 s).toNat = x.toNat + 2 ^ s := by
  have e : (shl32 1 s).toNat = 2 ^ s := by
    rw [shl32_toNat, Nat.min_eq_left (by omega)]
    have : (1 : UInt32).toNat = 1 := rfl
    rw [this, Nat.one_mul, Nat.mod_eq_of_lt]
    exact Nat.pow_lt_pow_right (by decide) (n := 32) hs
  rw [UInt32.toNat_or, or_add (s + 1) hx (by rw [e]; exact Nat.pow_lt_pow_right (by decide) (by omega)), e]
theorem mod_bits {l : List UInt32} {q t : Nat} (ht : t ≤ 32) (h : val l % 2 ^ (32 * q + t) = 0) : (l.getD q 0).toNat % 2 ^ t = 0 := by
  have h1 : val l / 2 ^ (32 * q) % 2 ^ t = 0 := by
    rw [Nat.pow_add] at h
    have := Nat.mod_mul_right_div_self (val l) (2 ^ (32 * q)) (2 ^ t)
    rw [h, Nat.zero_div] at this
    exact this.symm
  rw [Nat.pow_mul, show (2 : Nat) ^ 32 = 4294967296 from rfl, val_div, val_drop] at h1
  have h2 : (4294967296 : Nat) = 2 ^ t * 2 ^ (32 - t) := by rw [← Nat.pow_add, show t + (32 - t) = 32 by omega]
  rw [h2, Nat.mul_assoc, Nat.add_mul_mod_self_left] at h1
  exact h1
theorem dv_round (a d : List UInt32) (i : Nat) (q r : List UInt32) (hr : r.length = d.length + 1) (hrd : val r < val d) (hq : i / 32 < q.length) (hqz : val q % 2 ^ (i + 1) = 0) (hi : i ≤ 4611686018427387) (hd : d.length ≤ 1000000000000) (hql : q.length ≤ 1000000000000) :
    ∃ q' r', F.ref7_Divide_L1 a d ((i : Int), q, r) = some (.inl ((i : Int) - 1, q', r')) ∧ q'.length = q.length ∧ r'.length = r.length ∧ val r' < val d ∧ val q' % 2 ^ i = 0 ∧
      ∃ e, val q' = val q + 2 ^ i * e ∧ e ≤ 1 ∧ val r' + e * val d = 2 * val r + val a / 2 ^ i % 2 := by
  obtain ⟨c, hc⟩ : ∃ c, val a / 2 ^ i % 2 = c := ⟨_, rfl⟩
  have hc1 : c ≤ 1 := by omega
  have hdl := val_lt d
  have w1 : wI ((i : Int) - 1) = (i : Int) - 1 := wI_in (by omega) (by omega)
  have w5 : wI (Int.tdiv (i : Int) 32) = ((i / 32 : Nat) : Int) := by rw [Int.tdiv_eq_ediv_of_nonneg (by omega), wI_in (by omega) (by omega)]; omega
  have w2 : (UInt64.ofInt (Int.tmod (i : Int) 32)).toNat = i % 32 := by
    rw [Int.tmod_eq_emod_of_nonneg (by omega), UInt64.ofInt, UInt64.toNat_ofNat']; omega
  have hqz' : val q % 2 ^ i = 0 := by
    have h1 : (2 : Nat) ^ (i + 1) = 2 ^ i * 2 := Nat.pow_succ ..
    rw [h1, Nat.mod_mul] at hqz
    omega
  -- from the doubled rest on
  have fin : ∀ y : UInt32 × List UInt32, DBI r c r.length y → ∃ q' r', (obind (F.ref7_Cmp y.2 d) fun x_34 => if (decide ((0 : Int) ≤ x_34)) = true then loop (F.ref7_Divide_L3 d (i : Int) q) (0, 0, y.2) else F.ref7_Divide_K1 (i : Int) (q, y.2)) = some (.inl ((i : Int) - 1, q', r')) ∧ q'.length = q.length ∧ r'.length = r.length ∧ val r' < val d ∧ val q' % 2 ^ i = 0 ∧
      ∃ e, val q' = val q + 2 ^ i * e ∧ e ≤ 1 ∧ val r' + e * val d = 2 * val r + c := by
    rintro ⟨y1, y⟩ ⟨h1, h2, h3, h4⟩
    simp only at h1 h2 h3 h4 ⊢
    rw [List.take_length] at h3
    have hy0 : y1.toNat = 0 := by
      rcases Nat.eq_zero_or_pos y1.toNat with h | h
      · exact h
      · have : 4294967296 ^ r.length * 1 ≤ 4294967296 ^ r.length * y1.toNat := Nat.mul_le_mul_left _ h
        rw [hr, Nat.pow_succ] at this
        rw [hr, Nat.pow_succ] at h3
        omega
    rw [hy0, Nat.mul_zero, Nat.add_zero] at h3
    rw [Cmp7_eq _ _ (by omega) (by omega), kg]
    unfold cmpN
    by_cases hlt : val y < val d
    · rw [if_pos hlt, if_neg (by decide)]
      unfold F.ref7_Divide_K1
      dsimp only
      rw [w1]
      exact ⟨q, y, rfl, rfl, h1, hlt, hqz', 0, by omega, by omega, by omega⟩
    · rw [if_neg hlt, if_pos (by split <;> decide)]
      have g0 : TKI d y 0 (0, y) := ⟨rfl, fun _ _ => rfl, by simp [val], by simp⟩
      have e := loop_foldI (f := F.ref7_Divide_L3 d (i : Int) q) (fun (x : UInt64 × List UInt32) k => (x.1, (k : Int), x.2)) (fun k x => k ≤ y.length → TKI d y k x) (tkS d) 0 y.length
        (X := fun x => some (.inl ((i : Int) - 1, q.set (i / 32) (q.getD (i / 32) 0 ||| shl32 1 (i % 32)), x.2)))
        (fun k x _ hk hx => by
          have hx := hx (by omega)
          refine ⟨?_, fun _ => tkS_inv hk hx⟩
          have hxl := hx.1
          have w4 : wI ((k : Int) + 1) = ((k + 1 : Nat) : Int) := by rw [wI_in (by omega) (by omega)]; rfl
          unfold F.ref7_Divide_L3
          dsimp only
          rw [if_pos (decide_eq_true (by omega)), limb7, kg, getO_D (show k < x.2.length by omega) 0, kg]
          unfold tkS mnC mnW
          by_cases h : (x.2.getD k 0).toUInt64 < (d.getD k 0).toUInt64 + x.1
          · rw [if_pos (decide_eq_true h), if_pos h, if_pos h, olet_eq]
            unfold F.ref7_Divide_K3
            dsimp only
            rw [getO_D (show k < x.2.length by omega) 0, kg, olet_eq, Int.toNat_natCast, w4]; rfl
          · rw [if_neg (by simpa using h), if_neg h, if_neg h]
            unfold F.ref7_Divide_K3
            dsimp only
            rw [getO_D (show k < x.2.length by omega) 0, kg, olet_eq, Int.toNat_natCast, w4]; rfl)
        (fun x hx => by
          have hxl := (hx (Nat.le_refl _)).1
          unfold F.ref7_Divide_L3
          dsimp only
          rw [if_neg (by simp only [decide_eq_true_eq]; omega), w5, getO_D hq 0, kg, kg, olet_eq, Int.toNat_natCast, w2]
          unfold F.ref7_Divide_K1
          dsimp only
          rw [w1]; rfl)
        y.length 0 (0, y) (Nat.le_refl _) (by omega) (fun _ => g0)
      have hI := fold_invI (fun k (x : UInt64 × List UInt32) => k ≤ y.length → TKI d y k x) (tkS d) (fun k x hx => fun hk => tkS_inv (by omega) (hx (by omega))) y.length 0 (0, y) (fun _ => g0)
      obtain ⟨z, hz⟩ : ∃ z, (List.range' 0 y.length).foldl (tkS d) (0, y) = z := ⟨_, rfl⟩
      rw [hz] at hI e
      rw [Nat.zero_add] at hI
      obtain ⟨k1, k2, k3, k4⟩ := hI (Nat.le_refl _)
      rw [List.take_of_length_le (by omega)] at k3
      have hzl := val_lt z.2
      have hz0 : z.1.toNat = 0 := by
        rcases Nat.eq_zero_or_pos z.1.toNat with h | h
        · exact h
        · have : 4294967296 ^ y.length * 1 ≤ 4294967296 ^ y.length * z.1.toNat := Nat.mul_le_mul_left _ h
          rw [k1] at hzl
          omega
      rw [hz0, Nat.mul_zero, Nat.add_zero] at k3
      have hob := or_bit (q.getD (i / 32) 0) (i % 32) (by omega) (mod_bits (by omega) (by rw [show 32 * (i / 32) + (i % 32 + 1) = i + 1 by omega]; exact hqz))
      have hv := val_set q (i / 32) (q.getD (i / 32) 0 ||| shl32 1 (i % 32)) hq
      rw [hob, Nat.mul_add] at hv
      have hp : 4294967296 ^ (i / 32) * 2 ^ (i % 32) = 2 ^ i := by
        rw [show (4294967296 : Nat) = 2 ^ 32 from rfl, ← Nat.pow_mul, ← Nat.pow_add]; congr 1; omega
      rw [hp] at hv
      have hqv : val (q.set (i / 32) (q.getD (i / 32) 0 ||| shl32 1 (i % 32))) = val q + 2 ^ i * 1 := by omega
      refine ⟨_, _, e, by simp, by omega, by omega, ?_, 1, hqv, by omega, by omega⟩
      rw [hqv, Nat.add_mul_mod_self_left]; exact hqz'
  have run : ∀ x0 : UInt32, x0.toNat = c → ∃ q' r', F.ref7_Divide_K2 r d q (i : Int) x0 = some (.inl ((i : Int) - 1, q', r')) ∧ q'.length = q.length ∧ r'.length = r.length ∧ val r' < val d ∧ val q' % 2 ^ i = 0 ∧
      ∃ e, val q' = val q + 2 ^ i * e ∧ e ≤ 1 ∧ val r' + e * val d = 2 * val r + c := by
    intro x0 hx0
    unfold F.ref7_Divide_K2
    have g0 : DBI r c 0 (x0, r) := ⟨rfl, fun _ _ => rfl, by simp [val, hx0], by simp only; omega⟩
    have e := loop_foldI (f := F.ref7_Divide_L2 d q (i : Int)) (fun (x : UInt32 × List UInt32) k => (x.1, (k : Int), x.2)) (fun k x => k ≤ r.length → DBI r c k x) dbS 0 r.length
      (X := fun y => obind (F.ref7_Cmp y.2 d) fun x_34 => if (decide ((0 : Int) ≤ x_34)) = true then loop (F.ref7_Divide_L3 d (i : Int) q) (0, 0, y.2) else F.ref7_Divide_K1 (i : Int) (q, y.2))
      (fun k x _ hk hx => by
        have hx := hx (by omega)
        refine ⟨?_, fun _ => dbS_inv hk hx⟩
        have hxl := hx.1
        have w4 : wI ((k : Int) + 1) = ((k + 1 : Nat) : Int) := by rw [wI_in (by omega) (by omega)]; rfl
        unfold F.ref7_Divide_L2
        dsimp only
        rw [if_pos (decide_eq_true (by omega)), getO_D (show k < x.2.length by omega) 0, kg, kg, kg, olet_eq, Int.toNat_natCast, w4]; rfl)
      (fun x hx => by
        have hxl := (hx (Nat.le_refl _)).1
        unfold F.ref7_Divide_L2
        dsimp only
        rw [if_neg (by simp only [decide_eq_true_eq]; omega)])
      r.length 0 (x0, r) (Nat.le_refl _) (by omega) (fun _ => g0)
    have hI := fold_invI (fun k (x : UInt32 × List UInt32) => k ≤ r.length → DBI r c k x) dbS (fun k x hx => fun hk => dbS_inv (by omega) (hx (by omega))) r.length 0 (x0, r) (fun _ => g0)
    rw [Nat.zero_add] at hI
    obtain ⟨q', r', f1, f2⟩ := fin _ (hI (Nat.le_refl _))
    exact ⟨q', r', e.trans f1, f2⟩
  unfold F.ref7_Divide_L1
  dsimp only
  rw [if_pos (decide_eq_true (by omega)), Bit7_eq _ _ (by omega), kg, hc]
  by_cases h1 : c = 1
  · rw [if_pos (decide_eq_true h1)]; exact run 1 (by rw [h1]; rfl)
  · rw [if_neg (by simpa using h1)]; exact run 0 (by rw [show c = 0 by omega]; rfl)
theorem div_step2 {A q d r i e c q' r' : Nat} (h : A / 2 ^ (i + 1) = q / 2 ^ (i + 1) * d + r) (hq : q % 2 ^ (i + 1) = 0) (hq' : q' = q + 2 ^ i * e) (he : e ≤ 1) (hc : A / 2 ^ i % 2 = c) (hr : r' + e * d = 2 * r + c) : A / 2 ^ i = q' / 2 ^ i * d + r' := by
  have hp := Nat.two_pow_pos i
  have hs : (2 : Nat) ^ (i + 1) = 2 ^ i * 2 := Nat.pow_succ ..
  have a1 : A / 2 ^ i = 2 * (A / 2 ^ (i + 1)) + c := by
    rw [hs, ← Nat.div_div_eq_div_mul]; omega
  obtain ⟨k, hk⟩ : ∃ k, q = 2 ^ (i + 1) * k := ⟨q / 2 ^ (i + 1), by have := Nat.div_add_mod q (2 ^ (i + 1)); omega⟩
  have a2 : q / 2 ^ (i + 1) = k := by rw [hk, Nat.mul_div_cancel_left _ (Nat.two_pow_pos _)]
  have a3 : q' / 2 ^ i = 2 * k + e := by
    rw [hq', hk, hs, Nat.mul_assoc, ← Nat.mul_add, Nat.mul_div_cancel_left _ hp]
  rw [a1, h, a2, a3, Nat.add_mul, Nat.mul_assoc, Nat.mul_add]
  omega
theorem Divide_eq (a d : List UInt32) (ha : a.length ≤ 1000000000000) (hd : d.length ≤ 1000000000000) (h0 : val d ≠ 0) : F.ref7_Divide a d = some (limbs (val a / val d), limbs (val a % val d)) := by
  have ha1 : (limbs (val a)).length ≤ a.length := limbs_len_le (val_lt a)
  have hd1 : (limbs (val d)).length ≤ d.length := limbs_len_le (val_lt d)
  unfold F.ref7_Divide
  rw [Trim7_eq _ (by omega), kg, Trim7_eq _ (by omega), kg]
  obtain ⟨A, hA⟩ : ∃ A, limbs (val a) = A := ⟨_, rfl⟩
  obtain ⟨D, hD⟩ : ∃ D, limbs (val d) = D := ⟨_, rfl⟩
  have vA : val A = val a := by rw [← hA, kB]
  have vD : val D = val d := by rw [← hD, kB]
  rw [hA] at ha1 ⊢; rw [hD] at hd1 ⊢
  rw [← vA, ← vD]
  rw [← vD] at h0
  have w1 : wI ((D.length : Int) + 1) = ((D.length + 1 : Nat) : Int) := by rw [wI_in (by omega) (by omega)]; rfl
  have w2 : wI ((wI (32 * (A.length : Int))) - 1) = ((32 * A.length : Nat) : Int) - 1 := by rw [wI_in (x := 32 * (A.length : Int)) (by omega) (by omega), wI_in (by omega) (by omega)]; omega
  rw [mkO_ok (by omega), kg, w1, mkO_ok (by omega), kg, w2, olet_eq, Int.toNat_natCast, Int.toNat_natCast]
  have key : ∀ (k : Nat) (q r : List UInt32), k ≤ 32 * A.length → q.length = A.length → r.length = D.length + 1 → val r < val D → val q % 2 ^ k = 0 → val A / 2 ^ k = val q / 2 ^ k * val D + val r →
      loop (F.ref7_Divide_L1 A D) ((k : Int) - 1, q, r) = some (limbs (val A / val D), limbs (val A % val D)) := by
    intro k
    induction k with
    | zero =>
      intro q r hk h1 h2 h3 h4 h5
      refine loop_inr ?_
      unfold F.ref7_Divide_L1
      dsimp only
      rw [Nat.pow_zero, Nat.div_one, Nat.div_one] at h5
      have e1 : val A / val D = val q := by rw [h5, Nat.add_comm, Nat.add_mul_div_right _ _ (by omega), Nat.div_eq_of_lt h3, Nat.zero_add]
      have e2 : val A % val D = val r := by rw [h5, Nat.add_comm, Nat.add_mul_mod_self_right, Nat.mod_eq_of_lt h3]
      rw [if_neg (by decide), Trim7_eq _ (by omega), kg, Trim7_eq _ (by omega), kg, e1, e2]; rfl
    | succ k ih =>
      intro q r hk h1 h2 h3 h4 h5
      obtain ⟨q', r', f1, f2, f3, f4, f5, e, f6, f7, f8⟩ := dv_round A D k q r h2 h3 (by omega) h4 (by omega) (by omega) (by omega)
      rw [show (((k + 1 : Nat) : Int)) - 1 = (k : Int) by omega, loop_inl f1]
      exact ih q' r' (by omega) (by omega) (by omega) f4 f5 (div_step2 h5 h4 f6 f7 rfl f8)
  have hz : val A / 2 ^ (32 * A.length) = 0 := by
    rw [Nat.pow_mul, show (2 : Nat) ^ 32 = 4294967296 from rfl]; exact Nat.div_eq_of_lt (val_lt A)
  exact key (32 * A.length) _ _ (Nat.le_refl _) (by simp) (by simp) (by rw [val_replicate0]; omega) (by rw [val_replicate0]; simp) (by rw [hz, val_replicate0, val_replicate0]; simp)
theorem rest_eq (a m : List UInt32) (ha : a.length ≤ 1000000000000) (hm : m.length ≤ 1000000000000) (h0 : val m ≠ 0) : F.ref7_rest a m = some (limbs (val a % val m)) := by
  unfold F.ref7_rest
  rw [Divide_eq a m ha hm h0, kg]
theorem small7 {a : List UInt32} (h : a.length ≤ 128) : (limbs (val a)).length ≤ 128 := Nat.le_trans (limbs_len_le (val_lt a)) h
theorem Mul7_eq (a b m : List UInt32) (ha : a.length ≤ 128) (hb : b.length ≤ 128) (hm : m.length ≤ 128) (h1 : 1 < val m) : F.ref7_Mul a b m = some (limbs (val a * val b % val m), 0) := by
  unfold F.ref7_Mul
  have h := limbs_mul (val a) (val b)
  have s1 := small7 ha; have s2 := small7 hb
  rw [wrong2_eq m a b (by omega) (by omega) (by omega) s1 s2 (small7 hm) h1, kg, if_neg (by decide), Times_eq _ _ (by omega), kg, rest_eq _ _ (by omega) (by omega) (by omega), kg, kB]
theorem Add7_eq (a b m : List UInt32) (ha : a.length ≤ 128) (hb : b.length ≤ 128) (hm : m.length ≤ 128) (h1 : 1 < val m) : F.ref7_Add a b m = some (limbs ((val a + val b) % val m), 0) := by
  unfold F.ref7_Add
  have h := limbs_add (val a) (val b)
  have s1 := small7 ha; have s2 := small7 hb
  rw [wrong2_eq m a b (by omega) (by omega) (by omega) s1 s2 (small7 hm) h1, kg, if_neg (by decide), Plus_eq _ _ (by omega) (by omega), kg, rest_eq _ _ (by omega) (by omega) (by omega), kg, kB]
theorem Sub7_eq (a b m : List UInt32) (ha : a.length ≤ 128) (hb : b.length ≤ 128) (hm : m.length ≤ 128) (h1 : 1 < val m) : F.ref7_Sub a b m = some (limbs ((val a % val m + val m - val b % val m) % val m), 0) := by
  unfold F.ref7_Sub
  have s1 := small7 ha; have s2 := small7 hb; have s3 := small7 hm
  have m1 := Nat.mod_lt (val a) (show 0 < val m by omega)
  have m2 := Nat.mod_lt (val b) (show 0 < val m by omega)
  have l1 : (limbs (val a % val m)).length ≤ 128 := Nat.le_trans (limbs_mono (Nat.mod_le _ _)) s1
  have l2 : (limbs (val b % val m)).length ≤ 128 := Nat.le_trans (limbs_mono (Nat.mod_le _ _)) s2
  have l3 := limbs_add (val a % val m) (val m)
  have l4 : (limbs (val a % val m + val m - val b % val m)).length ≤ (limbs (val a % val m + val m)).length := limbs_mono (Nat.sub_le _ _)
  rw [wrong2_eq m a b (by omega) (by omega) (by omega) s1 s2 s3 h1, kg, if_neg (by decide), rest_eq _ _ (by omega) (by omega) (by omega), kg, Plus_eq _ _ (by omega) (by omega), kg, rest_eq _ _ (by omega) (by omega) (by omega), kg,
    Minus_eq _ _ (by rw [kB]; omega) (by rw [kB, kB, kB]; omega), kg, kB, kB, kB, rest_eq _ _ (by omega) (by omega) (by omega), kg, kB]
end Go.Gk.Bn
end
