import Derived.Test.YtpbgncmffgnohaaGkUG
set_option linter.unusedVariables false
set_option linter.unusedSimpArgs false

section
set_option linter.unusedSimpArgs false
set_option linter.unusedVariables false
namespace Go.Gk.Bn
open Go Go.Gk Go.Gk.Sh
theorem beB_pad {v k m : Nat} (h : v < 256 ^ k) (hkm : k ≤ m) : List.replicate (m - k) 0 ++ beB k v = beB m v := by
  refine beN_inj (by simp [beB_len]; omega) ?_
  rw [beN_zeros, beN_beB, beN_beB, Nat.mod_eq_of_lt h, Nat.mod_eq_of_lt (Nat.lt_of_lt_of_le h (Nat.pow_le_pow_right (by decide) hkm))]
def nS (c : Int) : Nat := if c = 1 then 32 else 48
theorem cS_n (c : Int) : cS c = ((nS c : Nat) : Int) := by unfold cS nS; split <;> rfl
theorem nS4 (c : Int) : nS c = 4 * (nS c / 4) ∧ nS c ≤ 48 ∧ 0 < nS c := by unfold nS; split <;> decide
def decT (c : Int) (x y : List UInt8) : List UInt32 × List UInt32 × Bool × Int :=
  if isC c ∧ x.length = nS c ∧ y.length = nS c ∧ onN (cP c) (cB c) (beN x) (beN y) = true then (limbs (beN x), limbs (beN y), false, 0) else ([], [], false, 93)
theorem nl_beN (x : List UInt8) (h : x.length ≤ 48) : nl (beN x : Int) ≤ 1000 := by
  unfold nl; rw [Int.natAbs_natCast]
  have := limbs_len_bytes (beN_lt x); omega
theorem Decode_eq (c : Int) (x y : List UInt8) : F.curve_Decode c x y = some (decT c x y) := by
  obtain ⟨s1, s2, _, _, _, s6, _⟩ := c_small c
  have hp := cP_nl c
  obtain ⟨n1, n2, n3⟩ := nS4 c
  have kt : F.curve_Decode_K1 x y true = some ([], [], false, 93) := rfl
  unfold F.curve_Decode decT
  rw [of_eq, kg]
  by_cases hc : isC c
  · rw [if_pos hc]
    show (if ((x.length : Int) != cS c) = true then _ else _) = _
    rw [cS_n]
    by_cases h1 : x.length = nS c
    · rw [if_neg (by rw [h1]; simp)]
      show (if ((y.length : Int) != cS c) = true then _ else _) = _
      rw [cS_n]
      by_cases h2 : y.length = nS c
      · rw [if_neg (by rw [h2]; simp), SetBytes_eq _ _ x (by omega), kg, SetBytes_eq _ _ y (by omega), kg]
        have h := on_eq (cP c) (cB c) (bi (cN c : Int)).1 (bi (cN c : Int)).2 (bi (cX c : Int)).1 (bi (cX c : Int)).2 (bi (cY c : Int)).1 (bi (cY c : Int)).2 (cS c) (by omega) (by omega) s2 (beN x) (beN y) (by have := nl_beN x (by omega); omega) (by have := nl_beN y (by omega); omega)
        show obind (F.curve_group_on (bi (cP c : Int)).1 (bi (cP c : Int)).2 (bi (cB c : Int)).1 (bi (cB c : Int)).2 (bi (cN c : Int)).1 (bi (cN c : Int)).2 (bi (cX c : Int)).1 (bi (cX c : Int)).2 (bi (cY c : Int)).1 (bi (cY c : Int)).2 (cS c) _ _ _ _) _ = _
        rw [h, kg]
        cases ho : onN (cP c) (cB c) (beN x) (beN y) with
        | true =>
          rw [if_pos ⟨hc, h1, h2, rfl⟩]
          unfold F.curve_Decode_K1
          rw [if_neg (by decide), FromBytes_eq x (by omega), kg, FromBytes_eq y (by omega), kg]
        | false =>
          rw [if_neg (fun h => by cases h.2.2.2)]
          exact kt
      · rw [if_pos (by simp only [bne_iff_ne]; omega), if_neg (fun h => h2 h.2.2.1)]; exact kt
    · rw [if_pos (by simp only [bne_iff_ne]; omega), if_neg (fun h => h1 h.2.1)]; exact kt
  · rw [if_neg hc, if_neg (fun h => hc h.1)]; rfl
def encT (c : Int) (X Y : List UInt32) (inf : Bool) : List UInt8 × List UInt8 × Int :=
  if onS c X Y inf = true ∧ inf = false then (beB (nS c) (val X), beB (nS c) (val Y), 0) else ([], [], 93)
theorem p_bytes (c : Int) (hc : isC c) : cP c < 256 ^ nS c := by
  rcases hc with h | h <;> subst h <;> decide +kernel
theorem onN_lt {p b x y : Nat} (h : onN p b x y = true) : x < p ∧ y < p := by
  unfold onN at h
  simp only [Bool.and_eq_true, decide_eq_true_eq] at h
  exact ⟨h.1, h.2.1⟩
theorem fill2_eq (n m : Nat) (hn : nl (n : Int) ≤ 1000) (hm : m ≤ 1000) (h : n < 256 ^ m) : F.curve_fill (bi (n : Int)).1 (bi (n : Int)).2 (List.replicate m 0) = some (beB m n) := by
  have hk := nby_of h
  unfold F.curve_fill
  have w1 : wI ((m : Int) - ((nby n : Nat) : Int)) = ((m - nby n : Nat) : Int) := by rw [wI_in (by omega) (by omega)]; omega
  rw [Bytes_eq _ (by omega), kg, Int.natAbs_natCast, olet_eq, List.length_replicate, List.length_replicate, beB_len, w1]
  have hd : drO (List.replicate m (0 : UInt8)) ((m - nby n : Nat) : Int) = some ((List.replicate m (0 : UInt8)).drop (m - nby n)) := by
    unfold drO; rw [if_pos (by simp), Int.toNat_natCast]
  rw [hd, kg, olet_eq, Int.toNat_natCast]
  congr 1
  have t1 : (List.replicate m (0 : UInt8)).take (m - nby n) = List.replicate (m - nby n) 0 := by rw [List.take_replicate, Nat.min_eq_left (by omega)]
  have t2 : (beB (nby n) n).take (nby n) = beB (nby n) n := List.take_of_length_le (by rw [beB_len]; exact Nat.le_refl _)
  have t3 : (List.replicate m (0 : UInt8)).drop (m - nby n + nby n) = [] := List.drop_of_length_le (by simp; omega)
  unfold cpL
  rw [show m - (m - nby n) = nby n by omega, t1, t2, beB_len, Nat.min_self, t3, List.append_nil, beB_pad (nby_lt n) hk]
theorem Encode_eq (c : Int) (X Y : List UInt32) (inf : Bool) (hX : X.length ≤ 35184372087808) (hY : Y.length ≤ 35184372087808) : F.curve_Encode c X Y inf = some (encT c X Y inf) := by
  obtain ⟨n1, n2, n3⟩ := nS4 c
  have hp := cP_nl c
  unfold F.curve_Encode encT
  rw [take_eq2 c X Y inf hX hY, kg]
  by_cases hc : isC c
  · rw [if_pos hc]
    dsimp only
    show (if (!onS c X Y inf) = true then _ else _) = _
    cases ho : onS c X Y inf with
    | false =>
      rw [if_pos (by decide), if_neg (fun h => by cases h.1)]
      unfold F.curve_Encode_K1
      rw [if_pos rfl]
    | true =>
      rw [if_neg (by decide)]
      cases inf with
      | true =>
        rw [if_neg (fun h => by cases h.2)]
        show obind (F.bignum_Int_Sign false []) _ = _
        have : F.bignum_Int_Sign false [] = some 0 := rfl
        rw [this, kg]
        unfold F.curve_Encode_K1
        rw [if_pos (by rfl)]
      | false =>
        rw [if_pos ⟨rfl, rfl⟩]
        show obind (F.bignum_Int_Sign (bi 1).1 (bi 1).2) _ = _
        rw [Sign_eq, kg, if_neg (by decide), if_neg (by decide)]
        unfold F.curve_Encode_K1
        rw [if_neg (by decide)]
        have ho2 := ho
        unfold onS at ho2
        rw [if_pos hc, if_neg (by decide)] at ho2
        obtain ⟨hx, hy⟩ := onN_lt ho2
        have hpb := p_bytes c hc
        have nx : nl (val X : Int) ≤ 1000 := by have := nl_mono (show ((val X : Int)).natAbs ≤ ((cP c : Int)).natAbs by omega); omega
        have ny : nl (val Y : Int) ≤ 1000 := by have := nl_mono (show ((val Y : Int)).natAbs ≤ ((cP c : Int)).natAbs by omega); omega
        show (obind (mkO 1 (cS c) (cS c) (0 : UInt8)) fun x_22 => obind (F.curve_fill (bi (val X : Int)).1 (bi (val X : Int)).2 x_22) fun x_25 => obind (mkO 1 (cS c) (cS c) (0 : UInt8)) fun x_28 => obind (F.curve_fill (bi (val Y : Int)).1 (bi (val Y : Int)).2 x_28) fun x_31 => some (x_25, x_31, (0 : Int))) = _
        rw [cS_n, mkO_ok (by omega), kg, Int.toNat_natCast, fill2_eq _ _ nx (by omega) (by omega), kg, kg, fill2_eq _ _ ny (by omega) (by omega), kg]
  · rw [if_neg hc]
    have : onS c X Y inf = false := by unfold onS; rw [if_neg hc]
    have e : (if false = true ∧ inf = false then (beB (nS c) (val X), beB (nS c) (val Y), (0 : Int)) else ([], [], 93)) = ([], [], 93) := if_neg (fun h => by cases h.1)
    rw [this, e]
    rfl
end Go.Gk.Bn
end

section
set_option linter.unusedSimpArgs false
set_option linter.unusedVariables false
namespace Go.Gk.Bn
open Go Go.Gk Go.Gk.Sh
def mbw (i : Nat) : UInt8 := UInt8.ofInt (wI (90 + (i : Int)))
def mb60 (n : Nat) : List UInt8 := (List.range n).map mbw
theorem sameBytes_eq (a : List UInt8) (ha : a.length ≤ 4611686018427387904) : F.law11_sameBytes a a = some true := by
  unfold F.law11_sameBytes
  rw [if_neg (by simp)]
  refine loop_up0 (n := a.length) (fun i hi => ?_) ?_
  · unfold F.law11_sameBytes_L1
    rw [if_pos (decide_eq_true (by omega)), getO_D hi 0, kg, kg, if_neg (by simp), wI_in (by omega) (by omega)]; rfl
  · unfold F.law11_sameBytes_L1
    rw [if_neg (by simp)]; rfl
theorem decT_len (c : Int) (x y : List UInt8) : (decT c x y).1.length ≤ 12 ∧ (decT c x y).2.1.length ≤ 12 := by
  obtain ⟨n1, n2, n3⟩ := nS4 c
  unfold decT
  split
  · rename_i h
    have h1 := limbs_len_bytes (beN_lt x); have h2 := limbs_len_bytes (beN_lt y)
    exact ⟨by simp only; omega, by simp only; omega⟩
  · simp
end Go.Gk.Bn
end
