import Derived.Test.YtpbgncmffgnohaaGreatGkUG
set_option linter.unusedVariables false
set_option linter.unusedSimpArgs false

section
set_option linter.unusedSimpArgs false
set_option linter.unusedVariables false
namespace Go.Gk.Bn
open Go Go.Gk Go.Gk.Sh
theorem byteAt_eq (a : List UInt32) (i : Nat) (hi : i ≤ 4611686018427387904) : F.ref6_byteAt a (i : Int) = some (UInt8.ofNat (val a / 256 ^ i)) := by
  unfold F.ref6_byteAt
  have w1 : wI (Int.tdiv (i : Int) 4) = ((i / 4 : Nat) : Int) := by rw [Int.tdiv_eq_ediv_of_nonneg (by omega), wI_in (by omega) (by omega)]; omega
  have w2 : Int.tmod (i : Int) 4 = ((i % 4 : Nat) : Int) := by rw [Int.tmod_eq_emod_of_nonneg (by omega)]; omega
  rw [w1, limb6, bind_some']
  obtain ⟨w, hw⟩ : ∃ w, a.getD (i / 4) 0 = w := ⟨_, rfl⟩
  rw [hw]
  have hwl := w_lt w
  have key : ∀ (k j : Nat) (u : UInt64), j + k = i % 4 → u.toNat = w.toNat / 256 ^ j → loop (F.ref6_byteAt_L1 (i : Int)) (u, (j : Int)) = some (UInt8.ofNat (w.toNat / 256 ^ (i % 4))) := by
    intro k
    induction k with
    | zero =>
      intro j u hj hu
      refine loop_inr ?_
      unfold F.ref6_byteAt_L1
      dsimp only
      rw [w2, if_neg (by simp only [decide_eq_true_eq]; omega)]
      show some (Sum.inr _) = some (Sum.inr _)
      congr 2
      apply UInt8.toNat_inj.1
      have e256 : (256 : UInt64).toNat = 256 := rfl
      have e8 : (2 : Nat) ^ 8 = 256 := rfl
      rw [UInt64.toNat_toUInt8, UInt64.toNat_mod, e256, hu, UInt8.toNat_ofNat', e8, show j = i % 4 by omega]; omega
    | succ k ih =>
      intro j u hj hu
      have w4 : wI ((j : Int) + 1) = ((j + 1 : Nat) : Int) := by rw [wI_in (by omega) (by omega)]; rfl
      have hst : F.ref6_byteAt_L1 (i : Int) (u, (j : Int)) = some (.inl (u / 256, ((j + 1 : Nat) : Int))) := by
        unfold F.ref6_byteAt_L1
        dsimp only
        rw [w2, if_pos (decide_eq_true (by omega)), w4]; rfl
      rw [loop_inl hst]
      refine ih (j + 1) _ (by omega) ?_
      have e256 : (256 : UInt64).toNat = 256 := rfl
      rw [UInt64.toNat_div, e256, hu, Nat.div_div_eq_div_mul, Nat.pow_succ]
  have h := key (i % 4) 0 w.toUInt64 (by omega) (by rw [up32, Nat.pow_zero, Nat.div_one])
  rw [show ((0 : Nat) : Int) = 0 from rfl] at h
  rw [h]
  congr 1
  rw [← word_byte, hw]
  apply UInt8.toNat_inj.1
  have e8 : (2 : Nat) ^ 8 = 256 := rfl
  rw [UInt8.toNat_ofNat', UInt32.toNat_toUInt8, shr32_toNat, Nat.min_eq_left (by omega), Nat.pow_mul, e8]
theorem beB_low (k n : Nat) : beB (k + 1) n = UInt8.ofNat (n / 256 ^ k) :: beB k n := rfl
theorem rBytes_eq (a : List UInt32) (ha : a.length ≤ 35184372087808) : ∃ k, F.ref6_Bytes a = some (beB k (val a)) ∧ val a < 256 ^ k ∧ (k = 0 ∨ 256 ^ (k - 1) ≤ val a) := by
  have out : ∀ (k : Nat) (o : List UInt8), o.length + k ≤ 140737488351232 → loop (F.ref6_Bytes_L2 a) (o, (k : Int) - 1) = some (o ++ beB k (val a)) := by
    intro k
    induction k with
    | zero =>
      intro o ho
      refine loop_inr ?_
      unfold F.ref6_Bytes_L2
      dsimp only
      rw [if_neg (by decide)]
      simp [beB, oinr]
    | succ k ih =>
      intro o ho
      have w1 : wI ((k : Int) - 1) = (k : Int) - 1 := wI_in (by omega) (by omega)
      have hst : F.ref6_Bytes_L2 a (o, (((k + 1 : Nat) : Int)) - 1) = some (.inl (o ++ [UInt8.ofNat (val a / 256 ^ k)], (k : Int) - 1)) := by
        unfold F.ref6_Bytes_L2
        dsimp only
        rw [show (((k + 1 : Nat) : Int)) - 1 = (k : Int) by omega, if_pos (decide_eq_true (by omega)), byteAt_eq _ _ (by omega), bind_some', apO_ok (by simp; omega), bind_some', w1]; rfl
      rw [loop_inl hst, ih _ (by simp; omega), beB_low, List.append_assoc]; rfl
  have key : ∀ k : Nat, k ≤ 4 * a.length → val a < 256 ^ k → ∃ m, loop (F.ref6_Bytes_L1 a) (k : Int) = some (beB m (val a)) ∧ val a < 256 ^ m ∧ (m = 0 ∨ 256 ^ (m - 1) ≤ val a) := by
    intro k
    induction k with
    | zero =>
      intro hk hv
      refine ⟨0, ?_, hv, .inl rfl⟩
      have hL : F.ref6_Bytes_L1 a ((0 : Nat) : Int) = oinr (loop (F.ref6_Bytes_L2 a) ([], wI (((0 : Nat) : Int) - 1))) := rfl
      rw [loop_oinr' hL, wI_in (by decide) (by decide), out 0 [] (by simp)]; rfl
    | succ k ih =>
      intro hk hv
      have w1 : wI (((k + 1 : Nat) : Int) - 1) = (k : Int) := by rw [wI_in (by omega) (by omega)]; omega
      have hL : F.ref6_Bytes_L1 a ((k + 1 : Nat) : Int) = F.ref6_Bytes_K1 ((k + 1 : Nat) : Int) a (UInt8.ofNat (val a / 256 ^ k) == 0) := by
        unfold F.ref6_Bytes_L1
        rw [if_pos (decide_eq_true (by omega)), w1, byteAt_eq _ _ (by omega), bind_some']
      have hq : val a / 256 ^ k < 256 := by
        rw [Nat.div_lt_iff_lt_mul (Nat.pow_pos (by decide)), Nat.mul_comm, ← Nat.pow_succ]; exact hv
      have hb : (UInt8.ofNat (val a / 256 ^ k) == 0) = decide (val a / 256 ^ k = 0) := by
        obtain ⟨z, hz⟩ : ∃ z, val a / 256 ^ k = z := ⟨_, rfl⟩
        rw [hz] at hq ⊢
        by_cases h : z = 0
        · rw [h, decide_eq_true rfl]; rfl
        · rw [decide_eq_false h, beq_eq_false_iff_ne]
          intro h0
          have := congrArg UInt8.toNat h0
          rw [UInt8.toNat_ofNat'] at this
          have e0 : (0 : UInt8).toNat = 0 := rfl
          omega
      rw [hb] at hL
      unfold F.ref6_Bytes_K1 at hL
      by_cases h : val a / 256 ^ k = 0
      · rw [decide_eq_true h, if_pos rfl, w1] at hL
        obtain ⟨m, h1, h2⟩ := ih (by omega) (by
          rcases Nat.lt_or_ge (val a) (256 ^ k) with h3 | h3
          · exact h3
          · have := Nat.div_pos h3 (Nat.pow_pos (by decide)); omega)
        exact ⟨m, (loop_inl hL).trans h1, h2⟩
      · rw [decide_eq_false h, if_neg (by decide), w1] at hL
        refine ⟨k + 1, ?_, hv, .inr ?_⟩
        · have := out (k + 1) [] (by simp; omega)
          rw [show (((k + 1 : Nat) : Int)) - 1 = (k : Int) by omega] at this
          rw [loop_oinr' hL, this]; rfl
        · rw [Nat.add_sub_cancel]
          rcases Nat.lt_or_ge (val a) (256 ^ k) with h3 | h3
          · exact absurd (Nat.div_eq_of_lt h3) h
          · exact h3
  have w0 : wI (4 * (a.length : Int)) = ((4 * a.length : Nat) : Int) := by rw [wI_in (by omega) (by omega)]; omega
  obtain ⟨m, h1, h2⟩ := key (4 * a.length) (Nat.le_refl _) (by have := val_lt a; rwa [show (4294967296 : Nat) = 256 ^ 4 from rfl, ← Nat.pow_mul] at this)
  exact ⟨m, by unfold F.ref6_Bytes; rw [w0, olet_eq, h1], h2⟩
theorem beB_pad {v k m : Nat} (h : v < 256 ^ k) (hkm : k ≤ m) : List.replicate (m - k) 0 ++ beB k v = beB m v := by
  refine beN_inj (by simp [beB_len]; omega) ?_
  rw [beN_zeros, beN_beB, beN_beB, Nat.mod_eq_of_lt h, Nat.mod_eq_of_lt (Nat.lt_of_lt_of_le h (Nat.pow_le_pow_right (by decide) hkm))]
theorem Fixed_eq (a : List UInt32) (m : Nat) (ha : a.length ≤ 35184372087808) (hm : m ≤ 1000) (hv : val a < 256 ^ m) : F.ref6_Fixed a (m : Int) = some (beB m (val a), true) := by
  obtain ⟨k, h1, h2, h3⟩ := rBytes_eq a ha
  have hk : k ≤ m := by
    rcases Nat.lt_or_ge m k with h | h
    · exfalso
      rcases h3 with h3 | h3
      · omega
      · have := Nat.pow_le_pow_right (show 0 < 256 by decide) (show m ≤ k - 1 by omega)
        omega
    · exact h
  have w1 : wI ((m : Int) - (k : Int)) = ((m - k : Nat) : Int) := by rw [wI_in (by omega) (by omega)]; omega
  unfold F.ref6_Fixed
  rw [h1, bind_some', if_neg (by simp only [decide_eq_true_eq]; omega), if_neg (by simp only [decide_eq_true_eq]; omega), beB_len, decide_eq_false (by omega)]
  unfold F.ref6_Fixed_K1
  rw [if_neg (by decide), beB_len, w1, mkO_ok (by omega), bind_some', Int.toNat_natCast, apO_ok (by simp [beB_len]; omega), bind_some', beB_pad h2 hk]
theorem Proper6_eq (a : List UInt32) (ha : a.length ≤ 50000000000000) : F.ref6_Proper a = some (limbs (val a)) := by
  have h : F.ref6_Proper a = F.ref11_Proper a := rfl
  rw [h, Proper_eq a ha]
theorem limb_bytes (s : List UInt8) (L : List UInt32) (i : Nat) (hi : i + 4 ≤ s.length) (hsl : s.length ≤ 1000) (hL : L.length ≤ 1000) :
    ∃ w : UInt32, loop (F.ref6_FromBytes_L2 s L ((i + 4 : Nat) : Int)) (0, (i : Int)) = some (.inl (L ++ [w], (i : Int))) ∧ w.toNat = beN ((s.drop i).take 4) := by
  have key : ∀ (k : Nat) (acc : UInt32) (j : Nat), j + k = 4 → acc.toNat = beN ((s.drop i).take j) → ∃ w : UInt32, loop (F.ref6_FromBytes_L2 s L ((i + 4 : Nat) : Int)) (acc, ((i + j : Nat) : Int)) = some (.inl (L ++ [w], (i : Int))) ∧ w.toNat = beN ((s.drop i).take 4) := by
    intro k
    induction k with
    | zero =>
      intro acc j hj hacc
      have : j = 4 := by omega
      subst this
      refine ⟨acc, ?_, hacc⟩
      refine loop_inr ?_
      have w1 : wI (((i + 4 : Nat) : Int) - 4) = (i : Int) := by rw [wI_in (by omega) (by omega)]; omega
      unfold F.ref6_FromBytes_L2
      dsimp only
      rw [if_neg (by simp), apO_ok (by simp; omega), bind_some', w1]; rfl
    | succ k ih =>
      intro acc j hj hacc
      have hij : i + j < s.length := by omega
      have w1 : wI (((i + j : Nat) : Int) + 1) = ((i + (j + 1) : Nat) : Int) := by rw [wI_in (by omega) (by omega)]; omega
      have hst : F.ref6_FromBytes_L2 s L ((i + 4 : Nat) : Int) (acc, ((i + j : Nat) : Int)) = some (.inl ((acc * 256) + (s.getD (i + j) 0).toUInt32, ((i + (j + 1) : Nat) : Int))) := by
        unfold F.ref6_FromBytes_L2
        dsimp only
        rw [if_pos (decide_eq_true (by omega)), if_pos (decide_eq_true (by omega)), getO_D hij 0, bind_some', olet_eq]
        unfold F.ref6_FromBytes_K1
        rw [w1]; rfl
      rw [loop_inl hst]
      refine ih _ (j + 1) (by omega) ?_
      have e1 : (s.drop i).getD j 0 = s.getD (i + j) 0 := by
        rw [List.getD_eq_getElem?_getD, List.getElem?_drop, ← List.getD_eq_getElem?_getD]
      have h2 := beN_lt ((s.drop i).take (j + 1))
      rw [List.length_take, List.length_drop, Nat.min_eq_left (by omega)] at h2
      have h3 : (256 : Nat) ^ (j + 1) ≤ 256 ^ 4 := Nat.pow_le_pow_right (by decide) (by omega)
      have h4 : (256 : Nat) ^ 4 = 4294967296 := rfl
      rw [beN_take_succ _ (by rw [List.length_drop]; omega), e1] at h2 ⊢
      have e256 : (256 : UInt32).toNat = 256 := rfl
      rw [UInt32.toNat_add, UInt32.toNat_mul, e256, hacc, UInt8.toNat_toUInt32]
      omega
  have := key 4 0 0 rfl (by simp [beN])
  simpa using this
theorem rFromBytes_eq (s : List UInt8) (m : Nat) (hl : s.length = 4 * m) (hm : m ≤ 100) : F.ref6_FromBytes s = some (limbs (beN s)) := by
  have key : ∀ (k : Nat) (L : List UInt32), k ≤ m → L.length = m - k → val L = beN (s.drop (4 * k)) → loop (F.ref6_FromBytes_L1 s) (L, ((4 * k : Nat) : Int)) = some (limbs (beN s)) := by
    intro k
    induction k with
    | zero =>
      intro L hk h1 h2
      refine loop_inr ?_
      unfold F.ref6_FromBytes_L1
      dsimp only
      rw [if_neg (by decide), Proper6_eq _ (by omega), bind_some', h2, List.drop_zero]; rfl
    | succ k ih =>
      intro L hk h1 h2
      obtain ⟨w, e1, e2⟩ := limb_bytes s L (4 * k) (by omega) (by omega) (by omega)
      have hst : F.ref6_FromBytes_L1 s (L, ((4 * (k + 1) : Nat) : Int)) = some (.inl (L ++ [w], ((4 * k : Nat) : Int))) := by
        have w1 : wI (((4 * (k + 1) : Nat) : Int) - 4) = ((4 * k : Nat) : Int) := by rw [wI_in (by omega) (by omega)]; omega
        unfold F.ref6_FromBytes_L1
        dsimp only
        rw [if_pos (decide_eq_true (by omega)), w1]
        exact e1
      rw [loop_inl hst]
      refine ih _ (by omega) (by simp; omega) ?_
      have e3 := List.take_append_drop 4 (s.drop (4 * k))
      rw [List.drop_drop] at e3
      rw [val_snoc, h1, ← e3, beN_append, ← e2, List.length_drop, h2, show 4 * k + 4 = 4 * (k + 1) by omega, show s.length - 4 * (k + 1) = 4 * (m - (k + 1)) by omega, Nat.pow_mul, show (256 : Nat) ^ 4 = 4294967296 from rfl, Nat.mul_comm w.toNat]
      omega
  unfold F.ref6_FromBytes
  rw [show (s.length : Int) = ((4 * m : Nat) : Int) by omega]
  exact key m [] (Nat.le_refl _) (by simp) (by rw [List.drop_of_length_le (by omega)]; rfl)
def nS (c : Int) : Nat := if c = 1 then 32 else 48
theorem cS_n (c : Int) : cS c = ((nS c : Nat) : Int) := by unfold cS nS; split <;> rfl
theorem nS4 (c : Int) : nS c = 4 * (nS c / 4) ∧ nS c ≤ 48 ∧ 0 < nS c := by unfold nS; split <;> decide
def decT (c : Int) (x y : List UInt8) : List UInt32 × List UInt32 × Bool × Int :=
  if isC c ∧ x.length = nS c ∧ y.length = nS c ∧ onN (cP c) (cB c) (beN x) (beN y) = true then (limbs (beN x), limbs (beN y), false, 0) else ([], [], false, 93)
theorem nl_beN (x : List UInt8) (h : x.length ≤ 48) : nl (beN x : Int) ≤ 1000 := by
  unfold nl; rw [Int.natAbs_natCast]
  have := limbs_len_bytes (beN_lt x); omega
theorem Decode_eq (c : Int) (x y : List UInt8) : F.curve_Decode c x y = some (decT c x y) := by
  obtain ⟨s1, s2, _, _, _, s6, _⟩ := c_small c
  have hp := cP_nl c
  obtain ⟨n1, n2, n3⟩ := nS4 c
  have kt : F.curve_Decode_K1 x y true = some ([], [], false, 93) := rfl
  unfold F.curve_Decode decT
  rw [of_eq, bind_some']
  by_cases hc : isC c
  · rw [if_pos hc]
    show (if ((x.length : Int) != cS c) = true then _ else _) = _
    rw [cS_n]
    by_cases h1 : x.length = nS c
    · rw [if_neg (by rw [h1]; simp)]
      show (if ((y.length : Int) != cS c) = true then _ else _) = _
      rw [cS_n]
      by_cases h2 : y.length = nS c
      · rw [if_neg (by rw [h2]; simp), SetBytes_eq _ _ x (by omega), bind_some', SetBytes_eq _ _ y (by omega), bind_some']
        have h := on_eq (cP c) (cB c) (bi (cN c : Int)).1 (bi (cN c : Int)).2 (bi (cX c : Int)).1 (bi (cX c : Int)).2 (bi (cY c : Int)).1 (bi (cY c : Int)).2 (cS c) (by omega) (by omega) s2 (beN x) (beN y) (by have := nl_beN x (by omega); omega) (by have := nl_beN y (by omega); omega)
        show obind (F.curve_group_on (bi (cP c : Int)).1 (bi (cP c : Int)).2 (bi (cB c : Int)).1 (bi (cB c : Int)).2 (bi (cN c : Int)).1 (bi (cN c : Int)).2 (bi (cX c : Int)).1 (bi (cX c : Int)).2 (bi (cY c : Int)).1 (bi (cY c : Int)).2 (cS c) _ _ _ _) _ = _
        rw [h, bind_some']
        cases ho : onN (cP c) (cB c) (beN x) (beN y) with
        | true =>
          rw [if_pos ⟨hc, h1, h2, rfl⟩]
          unfold F.curve_Decode_K1
          rw [if_neg (by decide), FromBytes_eq x (by omega), bind_some', FromBytes_eq y (by omega), bind_some']
        | false =>
          rw [if_neg (fun h => by cases h.2.2.2)]
          exact kt
      · rw [if_pos (by simp only [bne_iff_ne]; omega), if_neg (fun h => h2 h.2.2.1)]; exact kt
    · rw [if_pos (by simp only [bne_iff_ne]; omega), if_neg (fun h => h1 h.2.1)]; exact kt
  · rw [if_neg hc, if_neg (fun h => hc h.1)]; rfl
theorem rDecode_eq (c : Int) (x y : List UInt8) : F.ref11_Decode c x y = some (decT c x y) := by
  obtain ⟨n1, n2, n3⟩ := nS4 c
  have kt : F.ref11_Decode_K1 c x y true = some ([], [], false, 93) := rfl
  unfold F.ref11_Decode decT
  rw [rSize_eq, bind_some']
  by_cases hc : isC c
  · rw [if_pos hc, cS_n, if_neg (by rw [beq_iff_eq]; omega), bind_some']
    by_cases h1 : x.length = nS c
    · rw [if_neg (by rw [h1]; simp), bind_some']
      by_cases h2 : y.length = nS c
      · have hb : ((y.length : Int) != ((nS c : Nat) : Int)) = false := by rw [h2]; simp
        rw [hb]
        unfold F.ref11_Decode_K1
        have lx := limbs_len_bytes (beN_lt x); have ly := limbs_len_bytes (beN_lt y)
        rw [if_neg (by decide), rFromBytes_eq x (nS c / 4) (by omega) (by omega), bind_some', rFromBytes_eq y (nS c / 4) (by omega) (by omega), bind_some', rOn_eq c _ _ false (by omega) (by omega), bind_some']
        have hon : onS c (limbs (beN x)) (limbs (beN y)) false = onN (cP c) (cB c) (beN x) (beN y) := by unfold onS; rw [if_pos hc, if_neg (by decide), val_limbs, val_limbs]
        rw [hon]
        cases ho : onN (cP c) (cB c) (beN x) (beN y) with
        | true => rw [if_neg (by decide), if_pos ⟨hc, h1, h2, rfl⟩]
        | false => rw [if_pos (by decide), if_neg (fun h => by cases h.2.2.2)]
      · have hb : ((y.length : Int) != ((nS c : Nat) : Int)) = true := by simp only [bne_iff_ne]; omega
        rw [hb, if_neg (fun h => h2 h.2.2.1)]; exact kt
    · rw [if_pos (by simp only [bne_iff_ne]; omega), if_neg (fun h => h1 h.2.1)]; exact kt
  · rw [if_neg hc, if_pos (by rfl), if_neg (fun h => hc h.1)]; exact kt
def encT (c : Int) (X Y : List UInt32) (inf : Bool) : List UInt8 × List UInt8 × Int :=
  if onS c X Y inf = true ∧ inf = false then (beB (nS c) (val X), beB (nS c) (val Y), 0) else ([], [], 93)
theorem p_bytes (c : Int) (hc : isC c) : cP c < 256 ^ nS c := by
  rcases hc with h | h <;> subst h <;> decide +kernel
theorem onN_lt {p b x y : Nat} (h : onN p b x y = true) : x < p ∧ y < p := by
  unfold onN at h
  simp only [Bool.and_eq_true, decide_eq_true_eq] at h
  exact ⟨h.1, h.2.1⟩
theorem fill2_eq (n m : Nat) (hn : nl (n : Int) ≤ 1000) (hm : m ≤ 1000) (h : n < 256 ^ m) : F.curve_fill (bi (n : Int)).1 (bi (n : Int)).2 (List.replicate m 0) = some (beB m n) := by
  have hk := nby_of h
  unfold F.curve_fill
  have w1 : wI ((m : Int) - ((nby n : Nat) : Int)) = ((m - nby n : Nat) : Int) := by rw [wI_in (by omega) (by omega)]; omega
  rw [Bytes_eq _ (by omega), bind_some', Int.natAbs_natCast, olet_eq, List.length_replicate, List.length_replicate, beB_len, w1]
  have hd : drO (List.replicate m (0 : UInt8)) ((m - nby n : Nat) : Int) = some ((List.replicate m (0 : UInt8)).drop (m - nby n)) := by
    unfold drO; rw [if_pos (by simp), Int.toNat_natCast]
  rw [hd, bind_some', olet_eq, Int.toNat_natCast]
  congr 1
  have t1 : (List.replicate m (0 : UInt8)).take (m - nby n) = List.replicate (m - nby n) 0 := by rw [List.take_replicate, Nat.min_eq_left (by omega)]
  have t2 : (beB (nby n) n).take (nby n) = beB (nby n) n := List.take_of_length_le (by rw [beB_len]; exact Nat.le_refl _)
  have t3 : (List.replicate m (0 : UInt8)).drop (m - nby n + nby n) = [] := List.drop_of_length_le (by simp; omega)
  unfold cpL
  rw [show m - (m - nby n) = nby n by omega, t1, t2, beB_len, Nat.min_self, t3, List.append_nil, beB_pad (nby_lt n) hk]
theorem Encode_eq (c : Int) (X Y : List UInt32) (inf : Bool) (hX : X.length ≤ 35184372087808) (hY : Y.length ≤ 35184372087808) : F.curve_Encode c X Y inf = some (encT c X Y inf) := by
  obtain ⟨n1, n2, n3⟩ := nS4 c
  have hp := cP_nl c
  unfold F.curve_Encode encT
  rw [take_eq2 c X Y inf hX hY, bind_some']
  by_cases hc : isC c
  · rw [if_pos hc]
    dsimp only
    show (if (!onS c X Y inf) = true then _ else _) = _
    cases ho : onS c X Y inf with
    | false =>
      rw [if_pos (by decide), if_neg (fun h => by cases h.1)]
      unfold F.curve_Encode_K1
      rw [if_pos rfl]
    | true =>
      rw [if_neg (by decide)]
      cases inf with
      | true =>
        rw [if_neg (fun h => by cases h.2)]
        show obind (F.bignum_Int_Sign false []) _ = _
        have : F.bignum_Int_Sign false [] = some 0 := rfl
        rw [this, bind_some']
        unfold F.curve_Encode_K1
        rw [if_pos (by rfl)]
      | false =>
        rw [if_pos ⟨rfl, rfl⟩]
        show obind (F.bignum_Int_Sign (bi 1).1 (bi 1).2) _ = _
        rw [Sign_eq, bind_some', if_neg (by decide), if_neg (by decide)]
        unfold F.curve_Encode_K1
        rw [if_neg (by decide)]
        have ho2 := ho
        unfold onS at ho2
        rw [if_pos hc, if_neg (by decide)] at ho2
        obtain ⟨hx, hy⟩ := onN_lt ho2
        have hpb := p_bytes c hc
        have nx : nl (val X : Int) ≤ 1000 := by have := nl_mono (show ((val X : Int)).natAbs ≤ ((cP c : Int)).natAbs by omega); omega
        have ny : nl (val Y : Int) ≤ 1000 := by have := nl_mono (show ((val Y : Int)).natAbs ≤ ((cP c : Int)).natAbs by omega); omega
        show (obind (mkO 1 (cS c) (cS c) (0 : UInt8)) fun x_22 => obind (F.curve_fill (bi (val X : Int)).1 (bi (val X : Int)).2 x_22) fun x_25 => obind (mkO 1 (cS c) (cS c) (0 : UInt8)) fun x_28 => obind (F.curve_fill (bi (val Y : Int)).1 (bi (val Y : Int)).2 x_28) fun x_31 => some (x_25, x_31, (0 : Int))) = _
        rw [cS_n, mkO_ok (by omega), bind_some', Int.toNat_natCast, fill2_eq _ _ nx (by omega) (by omega), bind_some', bind_some', fill2_eq _ _ ny (by omega) (by omega), bind_some']
  · rw [if_neg hc]
    have : onS c X Y inf = false := by unfold onS; rw [if_neg hc]
    have e : (if false = true ∧ inf = false then (beB (nS c) (val X), beB (nS c) (val Y), (0 : Int)) else ([], [], 93)) = ([], [], 93) := if_neg (fun h => by cases h.1)
    rw [this, e]
    rfl
theorem rEncode_eq (c : Int) (X Y : List UInt32) (inf : Bool) (hX : X.length ≤ 35184372087808) (hY : Y.length ≤ 35184372087808) : F.ref11_Encode c X Y inf = some (encT c X Y inf) := by
  obtain ⟨n1, n2, n3⟩ := nS4 c
  have kt : F.ref11_Encode_K1 c X Y true = some ([], [], 93) := rfl
  unfold F.ref11_Encode encT
  cases inf with
  | true => rw [if_pos rfl, if_neg (fun h => by cases h.2)]; exact kt
  | false =>
    rw [if_neg (by decide), rOn_eq c X Y false (by omega) (by omega), bind_some']
    cases ho : onS c X Y false with
    | false => rw [if_neg (fun h => by cases h.1)]; exact kt
    | true =>
      have hc : isC c := by
        by_cases h : isC c
        · exact h
        · unfold onS at ho; rw [if_neg h] at ho; cases ho
      have ho2 := ho
      unfold onS at ho2
      rw [if_pos hc, if_neg (by decide)] at ho2
      obtain ⟨hx, hy⟩ := onN_lt ho2
      have hpb := p_bytes c hc
      rw [if_pos ⟨rfl, rfl⟩]
      unfold F.ref11_Encode_K1
      rw [if_neg (by decide), rSize_eq, if_pos hc, cS_n, bind_some', Fixed_eq X _ hX (by omega) (by omega), bind_some', bind_some', Fixed_eq Y _ hY (by omega) (by omega), bind_some']
end Go.Gk.Bn
end

section
set_option linter.unusedSimpArgs false
set_option linter.unusedVariables false
namespace Go.Gk.Bn
open Go Go.Gk Go.Gk.Sh
def mbw (i : Nat) : UInt8 := UInt8.ofInt (wI (90 + (i : Int)))
def mb60 (n : Nat) : List UInt8 := (List.range n).map mbw
theorem mb60_succ (n : Nat) : mb60 (n + 1) = mb60 n ++ [mbw n] := by unfold mb60; rw [List.range_succ, List.map_append]; rfl
theorem mb60_len (n : Nat) : (mb60 n).length = n := by unfold mb60; simp
theorem mb60_getD {n i : Nat} (h : i < n) : (mb60 n).getD i 0 = mbw i := by
  unfold mb60
  rw [List.getD_eq_getElem?_getD, List.getElem?_map, List.getElem?_range h]; rfl
theorem take_succ_D8 {a : List UInt8} {i : Nat} (h : i < a.length) : a.take (i + 1) = a.take i ++ [a.getD i 0] := by
  rw [List.take_add_one, List.getD_eq_getElem?_getD, List.getElem?_eq_getElem h]; rfl
theorem lentBytes_eq (a : List UInt8) (ha : a.length ≤ 200000000000000) : F.law11_lentBytes a = some (a ++ mb60 60, a.length) := by
  have e2 := loop_foldI (f := F.law11_lentBytes_L2 a) (fun (x : List UInt8) i => (x, (i : Int))) (fun i x => i ≤ 60 → x = a ++ mb60 i) (fun x i => x ++ [mbw i]) 0 60
    (X := fun x => some (a ++ mb60 60, a.length))
    (fun i x _ hi hx => by
      have hx := hx (by omega)
      refine ⟨?_, fun _ => by rw [hx, mb60_succ, List.append_assoc]⟩
      have w4 : wI ((i : Int) + 1) = ((i + 1 : Nat) : Int) := by rw [wI_in (by omega) (by omega)]; rfl
      unfold F.law11_lentBytes_L2
      dsimp only
      rw [if_pos (decide_eq_true (by omega)), apO_ok (by rw [hx]; simp [mb60_len]; omega), bind_some', w4]; rfl)
    (fun x hx => by
      have hx := hx (Nat.le_refl _)
      unfold F.law11_lentBytes_L2
      dsimp only
      rw [if_neg (by decide), grd_true _ (by rw [hx]; simp), Int.toNat_natCast, hx])
    60 0 a (Nat.le_refl _) (by omega) (fun _ => by simp [mb60])
  have e1 := loop_foldI (f := F.law11_lentBytes_L1 a) (fun (x : List UInt8) i => (x, (i : Int))) (fun i x => i ≤ a.length → x = a.take i) (fun x i => x ++ [a.getD i 0]) 0 a.length
    (X := fun x => some (a ++ mb60 60, a.length))
    (fun i x _ hi hx => by
      have hx := hx (by omega)
      refine ⟨?_, fun _ => by rw [hx, take_succ_D8 (by omega)]⟩
      have w4 : wI ((i : Int) + 1) = ((i + 1 : Nat) : Int) := by rw [wI_in (by omega) (by omega)]; rfl
      unfold F.law11_lentBytes_L1
      dsimp only
      rw [if_pos (decide_eq_true (by omega)), getO_D hi 0, bind_some', apO_ok (by rw [hx]; simp; omega), bind_some', w4]; rfl)
    (fun x hx => by
      have hx := hx (Nat.le_refl _)
      rw [List.take_length] at hx
      unfold F.law11_lentBytes_L1
      dsimp only
      rw [if_neg (by simp), hx, show (0 : Int) = ((0 : Nat) : Int) from rfl, e2])
    a.length 0 [] (Nat.le_refl _) (by omega) (fun _ => by simp)
  unfold F.law11_lentBytes
  exact e1
theorem sameBytes_eq (a : List UInt8) (ha : a.length ≤ 4611686018427387904) : F.law11_sameBytes a a = some true := by
  unfold F.law11_sameBytes
  rw [if_neg (by simp)]
  refine loop_up0 (n := a.length) (fun i hi => ?_) ?_
  · unfold F.law11_sameBytes_L1
    rw [if_pos (decide_eq_true (by omega)), getO_D hi 0, bind_some', bind_some', if_neg (by simp), wI_in (by omega) (by omega)]; rfl
  · unfold F.law11_sameBytes_L1
    rw [if_neg (by simp)]; rfl
theorem wholeBytes_eq (a : List UInt8) (ha : a.length ≤ 200000000000000) : F.law11_wholeBytes (a ++ mb60 60) a.length a = some true := by
  have w0 : wI ((a.length : Int) + 60) = ((a.length + 60 : Nat) : Int) := by rw [wI_in (by omega) (by omega)]; rfl
  have hl : (a ++ mb60 60).length = a.length + 60 := by rw [List.length_append, mb60_len]
  unfold F.law11_wholeBytes
  rw [w0, grd_true _ (by omega)]
  refine loop_up0 (n := 60) (fun i hi => ?_) ?_
  · have w1 : wI ((a.length : Int) + (i : Int)) = ((a.length + i : Nat) : Int) := by rw [wI_in (by omega) (by omega)]; rfl
    unfold F.law11_wholeBytes_L1
    rw [if_pos (decide_eq_true (by omega)), w0, Int.toNat_natCast, w1, List.take_of_length_le (by omega), getO_D (show a.length + i < (a ++ mb60 60).length by omega) 0, bind_some']
    have : (a ++ mb60 60).getD (a.length + i) 0 = mbw i := by
      rw [List.getD_eq_getElem?_getD, List.getElem?_append_right (by omega), Nat.add_sub_cancel_left, ← List.getD_eq_getElem?_getD, mb60_getD hi]
    rw [this, if_neg (by unfold mbw; simp), wI_in (by omega) (by omega)]; rfl
  · unfold F.law11_wholeBytes_L1
    rw [if_neg (by decide), List.take_left, sameBytes_eq a (by omega), bind_some']; rfl
theorem copied_eq (X Y : List UInt32) (q : Bool) (hX : X.length ≤ 50000000000000) (hY : Y.length ≤ 50000000000000) : F.law11_copied X Y q = some (X, Y, q) := by
  have e2 : loop (F.law11_copied_L2 Y q X) (0, []) = some (X, Y, q) := by
    have e := loop_foldI (f := F.law11_copied_L2 Y q X) (fun (x : List UInt32) i => ((i : Int), x)) (fun i x => i ≤ Y.length → x = Y.take i) (fun x i => x ++ [Y.getD i 0]) 0 Y.length (X := fun x => some (X, Y, q))
      (fun i x _ hi hx => by
        have hx := hx (by omega)
        refine ⟨?_, fun _ => by rw [hx, take_succ_D (by omega)]⟩
        have w4 : wI ((i : Int) + 1) = ((i + 1 : Nat) : Int) := by rw [wI_in (by omega) (by omega)]; rfl
        unfold F.law11_copied_L2
        dsimp only
        rw [if_pos (decide_eq_true (by omega)), getO_D hi 0, bind_some', apO_ok (by rw [hx]; simp; omega), bind_some', w4]; rfl)
      (fun x hx => by
        have hx := hx (Nat.le_refl _)
        rw [List.take_length] at hx
        unfold F.law11_copied_L2
        dsimp only
        rw [if_neg (by simp), hx])
      Y.length 0 [] (Nat.le_refl _) (by omega) (fun _ => by simp)
    exact e
  have e := loop_foldI (f := F.law11_copied_L1 X Y q) (fun (x : List UInt32) i => ((i : Int), x)) (fun i x => i ≤ X.length → x = X.take i) (fun x i => x ++ [X.getD i 0]) 0 X.length (X := fun x => some (X, Y, q))
    (fun i x _ hi hx => by
      have hx := hx (by omega)
      refine ⟨?_, fun _ => by rw [hx, take_succ_D (by omega)]⟩
      have w4 : wI ((i : Int) + 1) = ((i + 1 : Nat) : Int) := by rw [wI_in (by omega) (by omega)]; rfl
      unfold F.law11_copied_L1
      dsimp only
      rw [if_pos (decide_eq_true (by omega)), getO_D hi 0, bind_some', apO_ok (by rw [hx]; simp; omega), bind_some', w4]; rfl)
    (fun x hx => by
      have hx := hx (Nat.le_refl _)
      rw [List.take_length] at hx
      unfold F.law11_copied_L1
      dsimp only
      rw [if_neg (by simp), hx, e2])
    X.length 0 [] (Nat.le_refl _) (by omega) (fun _ => by simp)
  exact e
theorem over_eq (X Y : List UInt32) (q : Bool) (g h : List UInt32) (q' : Bool) (hX : X.length ≤ 50000000000000) (hY : Y.length ≤ 50000000000000) : ∃ X' Y', F.law11_over X Y q g h q' = some (X', Y') ∧ X'.length = X.length ∧ Y'.length = Y.length := by
  have l2 : ∀ (X' : List UInt32) (k i : Nat) (R : List UInt32), i + k = Y.length → R.length = Y.length → ∃ Y', loop (F.law11_over_L2 h X') ((i : Int), R) = some (X', Y') ∧ Y'.length = Y.length := by
    intro X' k
    induction k with
    | zero =>
      intro i R hi hR
      refine ⟨R, ?_, hR⟩
      refine loop_inr ?_
      unfold F.law11_over_L2
      dsimp only
      rw [if_neg (by simp only [decide_eq_true_eq]; omega)]; rfl
    | succ k ih =>
      intro i R hi hR
      have w4 : wI ((i : Int) + 1) = ((i + 1 : Nat) : Int) := by rw [wI_in (by omega) (by omega)]; rfl
      by_cases hg : i < h.length
      · have hst : F.law11_over_L2 h X' ((i : Int), R) = some (.inl (((i + 1 : Nat) : Int), (R.set i 0).set i (h.getD i 0))) := by
          unfold F.law11_over_L2
          dsimp only
          rw [if_pos (decide_eq_true (by omega)), getO_D (show i < R.length by omega) 0, bind_some', olet_eq, if_pos (decide_eq_true (by omega)), getO_D hg 0, bind_some', Int.toNat_natCast, getO_D (show i < (R.set i 0).length by simp; omega) 0, bind_some', olet_eq]
          unfold F.law11_over_K2
          rw [w4]; rfl
        rw [loop_inl hst]
        exact ih (i + 1) _ (by omega) (by simpa using hR)
      · have hst : F.law11_over_L2 h X' ((i : Int), R) = some (.inl (((i + 1 : Nat) : Int), R.set i 0)) := by
          unfold F.law11_over_L2
          dsimp only
          rw [if_pos (decide_eq_true (by omega)), getO_D (show i < R.length by omega) 0, bind_some', olet_eq, if_neg (by simp only [decide_eq_true_eq]; omega), Int.toNat_natCast]
          unfold F.law11_over_K2
          rw [w4]; rfl
        rw [loop_inl hst]
        exact ih (i + 1) _ (by omega) (by simpa using hR)
  have l1 : ∀ (k i : Nat) (R : List UInt32), i + k = X.length → R.length = X.length → ∃ X' Y', loop (F.law11_over_L1 Y g h) ((i : Int), R) = some (X', Y') ∧ X'.length = X.length ∧ Y'.length = Y.length := by
    intro k
    induction k with
    | zero =>
      intro i R hi hR
      obtain ⟨Y', h1, h2⟩ := l2 R Y.length 0 Y (by omega) rfl
      refine ⟨R, Y', ?_, hR, h2⟩
      have hst : F.law11_over_L1 Y g h ((i : Int), R) = oinr (loop (F.law11_over_L2 h R) (0, Y)) := by
        unfold F.law11_over_L1
        dsimp only
        rw [if_neg (by simp only [decide_eq_true_eq]; omega)]
      rw [loop_oinr' hst]; exact h1
    | succ k ih =>
      intro i R hi hR
      have w4 : wI ((i : Int) + 1) = ((i + 1 : Nat) : Int) := by rw [wI_in (by omega) (by omega)]; rfl
      by_cases hg : i < g.length
      · have hst : F.law11_over_L1 Y g h ((i : Int), R) = some (.inl (((i + 1 : Nat) : Int), (R.set i 0).set i (g.getD i 0))) := by
          unfold F.law11_over_L1
          dsimp only
          rw [if_pos (decide_eq_true (by omega)), getO_D (show i < R.length by omega) 0, bind_some', olet_eq, if_pos (decide_eq_true (by omega)), getO_D hg 0, bind_some', Int.toNat_natCast, getO_D (show i < (R.set i 0).length by simp; omega) 0, bind_some', olet_eq]
          unfold F.law11_over_K1
          rw [w4]; rfl
        rw [loop_inl hst]
        exact ih (i + 1) _ (by omega) (by simpa using hR)
      · have hst : F.law11_over_L1 Y g h ((i : Int), R) = some (.inl (((i + 1 : Nat) : Int), R.set i 0)) := by
          unfold F.law11_over_L1
          dsimp only
          rw [if_pos (decide_eq_true (by omega)), getO_D (show i < R.length by omega) 0, bind_some', olet_eq, if_neg (by simp only [decide_eq_true_eq]; omega), Int.toNat_natCast]
          unfold F.law11_over_K1
          rw [w4]; rfl
        rw [loop_inl hst]
        exact ih (i + 1) _ (by omega) (by simpa using hR)
  exact l1 X.length 0 X (by omega) rfl
theorem fillset8 (v : UInt8) (a : List UInt8) (i : Nat) (h : i < a.length) : (List.replicate i v ++ a.drop i).set i v = List.replicate (i + 1) v ++ a.drop (i + 1) := by
  rw [List.drop_eq_getElem_cons h, List.set_append_right _ _ (by simp), List.length_replicate, Nat.sub_self, List.set_cons_zero, List.replicate_succ', List.append_assoc]; rfl
theorem rep_getD8 (v : UInt8) {n i : Nat} (h : i < n) : (List.replicate n v).getD i 0 = v := by
  rw [List.getD_eq_getElem?_getD, List.getElem?_replicate, if_pos h]; rfl
theorem rep2_getD8 (v u : UInt8) (n : Nat) {m i : Nat} (h : i < m) : (List.replicate n v ++ List.replicate m u).getD (n + i) 0 = u := by
  rw [List.getD_eq_getElem?_getD, List.getElem?_append_right (by simp), List.length_replicate, Nat.add_sub_cancel_left, ← List.getD_eq_getElem?_getD, rep_getD8 u h]
theorem codes_loops (x_27 x_39 x_51 : List UInt8 × List UInt8 × Int) (a1 a2 : List UInt8) (X Y : List UInt32) (q : Bool) (x_3 : (List UInt32 × Nat) × (List UInt32 × Nat) × Bool) (x_12 x_16 : List UInt8 × Nat) (x_20 x_32 x_44 : List UInt32 × List UInt32 × Bool × Int) (c : Int)
    (R : Option Bool) (n : Nat) (h1 : x_27.1.length = n) (h2 : x_27.2.1.length = n) (hn : n ≤ 1000)
    (hR : F.law11_CurveCodes_L5 a1 a2 X Y q x_3 x_12 x_16 x_20 x_32 x_39 x_44 x_51 (List.replicate n 21) (List.replicate n 22) (List.replicate n 21 ++ List.replicate 80 23) (List.replicate n 22 ++ List.replicate 80 24) c ((80 : Nat) : Int) = oinr R) :
    loop (F.law11_CurveCodes_L1 x_27 a1 a2 X Y q x_3 x_12 x_16 x_20 x_32 x_39 x_44 x_51 c) (0, x_27.1) = R := by
  have e5 : loop (F.law11_CurveCodes_L5 a1 a2 X Y q x_3 x_12 x_16 x_20 x_32 x_39 x_44 x_51 (List.replicate n 21) (List.replicate n 22) (List.replicate n 21 ++ List.replicate 80 23) (List.replicate n 22 ++ List.replicate 80 24) c) 0 = R := by
    have key : ∀ k i : Nat, i + k = 80 → loop (F.law11_CurveCodes_L5 a1 a2 X Y q x_3 x_12 x_16 x_20 x_32 x_39 x_44 x_51 (List.replicate n 21) (List.replicate n 22) (List.replicate n 21 ++ List.replicate 80 23) (List.replicate n 22 ++ List.replicate 80 24) c) (i : Int) = R := by
      intro k
      induction k with
      | zero => intro i hi; rw [show i = 80 by omega]; exact loop_oinr' hR
      | succ k ih =>
        intro i hi
        have w1 : wI (((List.replicate n (21 : UInt8)).length : Int) + (i : Int)) = ((n + i : Nat) : Int) := by rw [List.length_replicate, wI_in (by omega) (by omega)]; rfl
        have w2 : wI (((List.replicate n (22 : UInt8)).length : Int) + (i : Int)) = ((n + i : Nat) : Int) := by rw [List.length_replicate, wI_in (by omega) (by omega)]; rfl
        have w4 : wI ((i : Int) + 1) = ((i + 1 : Nat) : Int) := by rw [wI_in (by omega) (by omega)]; rfl
        have hst : F.law11_CurveCodes_L5 a1 a2 X Y q x_3 x_12 x_16 x_20 x_32 x_39 x_44 x_51 (List.replicate n 21) (List.replicate n 22) (List.replicate n 21 ++ List.replicate 80 23) (List.replicate n 22 ++ List.replicate 80 24) c (i : Int) = some (.inl ((i + 1 : Nat) : Int)) := by
          unfold F.law11_CurveCodes_L5
          rw [if_pos (decide_eq_true (by omega)), w1, getO_D (by simp; omega) 0, bind_some', rep2_getD8 _ _ _ (by omega), if_neg (by decide), w2, getO_D (by simp; omega) 0, bind_some', rep2_getD8 _ _ _ (by omega)]
          unfold F.law11_CurveCodes_K3
          rw [if_neg (by decide), w4]; rfl
        rw [loop_inl hst]; exact ih (i + 1) (by omega)
    exact key 80 0 rfl
  have e4 : loop (F.law11_CurveCodes_L4 (List.replicate n 21) (List.replicate n 22) a1 a2 X Y q x_3 x_12 x_16 x_20 x_32 x_39 x_44 x_51 (List.replicate n 21 ++ List.replicate 80 23) (List.replicate n 22 ++ List.replicate 80 24) c) 0 = R := by
    have key : ∀ k i : Nat, i + k = n → loop (F.law11_CurveCodes_L4 (List.replicate n 21) (List.replicate n 22) a1 a2 X Y q x_3 x_12 x_16 x_20 x_32 x_39 x_44 x_51 (List.replicate n 21 ++ List.replicate 80 23) (List.replicate n 22 ++ List.replicate 80 24) c) (i : Int) = R := by
      intro k
      induction k with
      | zero =>
        intro i hi
        have hst : F.law11_CurveCodes_L4 (List.replicate n 21) (List.replicate n 22) a1 a2 X Y q x_3 x_12 x_16 x_20 x_32 x_39 x_44 x_51 (List.replicate n 21 ++ List.replicate 80 23) (List.replicate n 22 ++ List.replicate 80 24) c (i : Int) = oinr R := by
          unfold F.law11_CurveCodes_L4
          rw [if_neg (by simp; omega), e5]
        exact loop_oinr' hst
      | succ k ih =>
        intro i hi
        have w4 : wI ((i : Int) + 1) = ((i + 1 : Nat) : Int) := by rw [wI_in (by omega) (by omega)]; rfl
        have hst : F.law11_CurveCodes_L4 (List.replicate n 21) (List.replicate n 22) a1 a2 X Y q x_3 x_12 x_16 x_20 x_32 x_39 x_44 x_51 (List.replicate n 21 ++ List.replicate 80 23) (List.replicate n 22 ++ List.replicate 80 24) c (i : Int) = some (.inl ((i + 1 : Nat) : Int)) := by
          unfold F.law11_CurveCodes_L4
          rw [if_pos (decide_eq_true (by simp; omega)), getO_D (by simp; omega) 0, bind_some', rep_getD8 _ (by omega), if_neg (by decide), getO_D (by simp; omega) 0, bind_some', rep_getD8 _ (by omega)]
          unfold F.law11_CurveCodes_K2
          rw [if_neg (by decide), w4]; rfl
        rw [loop_inl hst]; exact ih (i + 1) (by omega)
    exact key n 0 (by omega)
  have e3 : loop (F.law11_CurveCodes_L3 (List.replicate n 21) (List.replicate n 22) a1 a2 X Y q x_3 x_12 x_16 x_20 x_32 x_39 x_44 x_51 c) (List.replicate n 21, List.replicate n 22, 0) = R := by
    have e := loop_foldI (f := F.law11_CurveCodes_L3 (List.replicate n 21) (List.replicate n 22) a1 a2 X Y q x_3 x_12 x_16 x_20 x_32 x_39 x_44 x_51 c) (fun (x : List UInt8 × List UInt8) i => (x.1, x.2, (i : Int))) (fun i x => x.1 = List.replicate n 21 ++ List.replicate i 23 ∧ x.2 = List.replicate n 22 ++ List.replicate i 24)
      (fun x i => (x.1 ++ [23], x.2 ++ [24])) 0 80 (X := fun x => R)
      (fun i x _ hi hx => by
        obtain ⟨h1, h2⟩ := hx
        refine ⟨?_, ?_, ?_⟩
        · have w4 : wI ((i : Int) + 1) = ((i + 1 : Nat) : Int) := by rw [wI_in (by omega) (by omega)]; rfl
          unfold F.law11_CurveCodes_L3
          dsimp only
          rw [if_pos (decide_eq_true (by omega)), apO_ok (by rw [h1]; simp; omega), bind_some', apO_ok (by rw [h2]; simp; omega), bind_some', w4]; rfl
        · simp only; rw [h1, List.replicate_succ', List.append_assoc]
        · simp only; rw [h2, List.replicate_succ', List.append_assoc])
      (fun x hx => by
        obtain ⟨h1, h2⟩ := hx
        unfold F.law11_CurveCodes_L3
        dsimp only
        rw [if_neg (by decide), h1, h2, e4])
      80 0 (List.replicate n 21, List.replicate n 22) (Nat.le_refl _) (by omega) ⟨by simp, by simp⟩
    exact e
  have e2 : loop (F.law11_CurveCodes_L2 (List.replicate n 21) a1 a2 X Y q x_3 x_12 x_16 x_20 x_32 x_39 x_44 x_51 c) (0, x_27.2.1) = R := by
    have e := loop_foldI (f := F.law11_CurveCodes_L2 (List.replicate n 21) a1 a2 X Y q x_3 x_12 x_16 x_20 x_32 x_39 x_44 x_51 c) (fun (x : List UInt8) i => ((i : Int), x)) (fun i x => i ≤ n → x = List.replicate i 22 ++ x_27.2.1.drop i) (fun x i => x.set i 22) 0 n (X := fun x => R)
      (fun i x _ hi hx => by
        have hx := hx (by omega)
        have hxl : x.length = n := by rw [hx]; simp; omega
        refine ⟨?_, fun _ => by rw [hx, fillset8 _ _ _ (by omega)]⟩
        have w4 : wI ((i : Int) + 1) = ((i + 1 : Nat) : Int) := by rw [wI_in (by omega) (by omega)]; rfl
        unfold F.law11_CurveCodes_L2
        dsimp only
        rw [if_pos (decide_eq_true (by omega)), getO_D (show i < x.length by omega) 0, bind_some', olet_eq, Int.toNat_natCast, w4]; rfl)
      (fun x hx => by
        have hx := hx (Nat.le_refl _)
        rw [List.drop_of_length_le (by omega), List.append_nil] at hx
        unfold F.law11_CurveCodes_L2
        dsimp only
        rw [hx, if_neg (by simp), e3])
      n 0 x_27.2.1 (Nat.le_refl _) (by omega) (fun _ => by simp)
    exact e
  have e := loop_foldI (f := F.law11_CurveCodes_L1 x_27 a1 a2 X Y q x_3 x_12 x_16 x_20 x_32 x_39 x_44 x_51 c) (fun (x : List UInt8) i => ((i : Int), x)) (fun i x => i ≤ n → x = List.replicate i 21 ++ x_27.1.drop i) (fun x i => x.set i 21) 0 n (X := fun x => R)
    (fun i x _ hi hx => by
      have hx := hx (by omega)
      have hxl : x.length = n := by rw [hx]; simp; omega
      refine ⟨?_, fun _ => by rw [hx, fillset8 _ _ _ (by omega)]⟩
      have w4 : wI ((i : Int) + 1) = ((i + 1 : Nat) : Int) := by rw [wI_in (by omega) (by omega)]; rfl
      unfold F.law11_CurveCodes_L1
      dsimp only
      rw [if_pos (decide_eq_true (by omega)), getO_D (show i < x.length by omega) 0, bind_some', olet_eq, Int.toNat_natCast, w4]; rfl)
    (fun x hx => by
      have hx := hx (Nat.le_refl _)
      rw [List.drop_of_length_le (by omega), List.append_nil] at hx
      unfold F.law11_CurveCodes_L1
      dsimp only
      rw [hx, if_neg (by simp), e2])
    n 0 x_27.1 (Nat.le_refl _) (by omega) (fun _ => by simp)
  exact e
theorem decT_len (c : Int) (x y : List UInt8) : (decT c x y).1.length ≤ 12 ∧ (decT c x y).2.1.length ≤ 12 := by
  obtain ⟨n1, n2, n3⟩ := nS4 c
  unfold decT
  split
  · rename_i h
    have h1 := limbs_len_bytes (beN_lt x); have h2 := limbs_len_bytes (beN_lt y)
    exact ⟨by simp only; omega, by simp only; omega⟩
  · simp
theorem encT_len (c : Int) (X Y : List UInt32) (q : Bool) : ∃ n, n ≤ 48 ∧ (encT c X Y q).1.length = n ∧ (encT c X Y q).2.1.length = n := by
  obtain ⟨n1, n2, n3⟩ := nS4 c
  unfold encT
  split
  · exact ⟨nS c, n2, beB_len _ _, beB_len _ _⟩
  · exact ⟨0, by omega, rfl, rfl⟩
theorem codes_last (c : Int) (X Y : List UInt32) (q : Bool) (x y : List UInt8) (hX : X.length ≤ 35184372087808) (hY : Y.length ≤ 35184372087808) (hx : x.length ≤ 140737488351232) (hy : y.length ≤ 140737488351232) :
    F.law11_CurveCodes_K4 c (x ++ mb60 60, x.length) (y ++ mb60 60, y.length) ((X ++ mk40 40, X.length), (Y ++ mk40 40, Y.length), q) false = some true := by
  obtain ⟨r1, hr1⟩ : ∃ r : List UInt8 × Nat, (x ++ mb60 60, x.length) = r := ⟨_, rfl⟩
  obtain ⟨r2, hr2⟩ : ∃ r : List UInt8 × Nat, (y ++ mb60 60, y.length) = r := ⟨_, rfl⟩
  obtain ⟨g, hg⟩ : ∃ g : List UInt32 × List UInt32 × Bool, (if isC c then (limbs (cX c), limbs (cY c), false) else ([], [], false)) = g := ⟨_, rfl⟩
  obtain ⟨s1, s2, s3, s4, s5, _⟩ := c_small c
  have lg1 : g.1.length ≤ 12 := by rw [← hg]; split; exact limbs12 c (Nat.le_of_lt s4); simp
  have lg2 : g.2.1.length ≤ 12 := by rw [← hg]; split; exact limbs12 c (Nat.le_of_lt s5); simp
  have n1 : r1.2 = x.length := by rw [← hr1]
  have n2 : r2.2 = y.length := by rw [← hr2]
  have m1 : r1.1.length = x.length + 60 := by rw [← hr1]; simp [mb60_len]
  have m2 : r2.1.length = y.length + 60 := by rw [← hr2]; simp [mb60_len]
  have tX : (X ++ mk40 40).take X.length = X := List.take_left
  have tY : (Y ++ mk40 40).take Y.length = Y := List.take_left
  rw [hr1, hr2]
  obtain ⟨b, hb⟩ : ∃ b, encT c g.1 g.2.1 g.2.2 = b := ⟨_, rfl⟩
  -- at the end
  have fin : ∀ R S : List UInt8, R.length = r1.1.length → S.length = r2.1.length → F.law11_CurveCodes_L7 c ((X ++ mk40 40, X.length), (Y ++ mk40 40, Y.length), q) r1 r2 b R ((r2.2 : Nat), S) = oinr (some true) := by
    intro R S hR hS
    have l1 : (R.take r1.2).length = x.length := by rw [List.length_take]; omega
    have l2 : (S.take r2.2).length = y.length := by rw [List.length_take]; omega
    obtain ⟨X', Y', ho, hX', hY'⟩ := over_eq X Y q g.1 g.2.1 g.2.2 (by omega) (by omega)
    have t1 : X'.take X.length = X' := List.take_of_length_le (by omega)
    have t2 : Y'.take Y.length = Y' := List.take_of_length_le (by omega)
    have t3 : (R.take r1.2 ++ mb60 60).take (R.take r1.2).length = R.take r1.2 := List.take_left
    have t4 : (S.take r2.2 ++ mb60 60).take (S.take r2.2).length = S.take r2.2 := List.take_left
    obtain ⟨d1, d2⟩ := decT_len c (R.take r1.2) (S.take r2.2)
    obtain ⟨k, hk, k1, k2⟩ := encT_len c X' Y' q
    unfold F.law11_CurveCodes_L7
    dsimp only
    rw [if_neg (by simp only [decide_eq_true_eq]; omega), rBase_eq, hg, bind_some', tX, tY, ho, bind_some', lentBytes_eq _ (by omega), bind_some', lentBytes_eq _ (by omega), bind_some']
    dsimp only
    rw [t3, t4, rDecode_eq, bind_some', copied_eq X' Y' q (by omega) (by omega), bind_some']
    dsimp only
    rw [rEncode_eq c X' Y' q (by omega) (by omega), bind_some', Decode_eq, bind_some', Encode_eq c X' Y' q (by omega) (by omega), bind_some', same_eq _ _ _ (by omega) (by omega), bind_some', if_pos rfl, if_pos (by simp), sameBytes_eq _ (by omega), bind_some', if_pos rfl, sameBytes_eq _ (by omega), bind_some', if_pos rfl]
    simp
  have l7 : ∀ (R : List UInt8), R.length = r1.1.length → ∀ (k i : Nat) (S : List UInt8), i + k = r2.2 → S.length = r2.1.length → loop (F.law11_CurveCodes_L7 c ((X ++ mk40 40, X.length), (Y ++ mk40 40, Y.length), q) r1 r2 b R) ((i : Int), S) = some true := by
    intro R hR k
    induction k with
    | zero => intro i S hi hS; rw [show i = r2.2 by omega]; exact loop_oinr' (fin R S hR hS)
    | succ k ih =>
      intro i S hi hS
      have w4 : wI ((i : Int) + 1) = ((i + 1 : Nat) : Int) := by rw [wI_in (by omega) (by omega)]; rfl
      by_cases hbl : i < b.2.1.length
      · have hst : F.law11_CurveCodes_L7 c ((X ++ mk40 40, X.length), (Y ++ mk40 40, Y.length), q) r1 r2 b R ((i : Int), S) = some (.inl (((i + 1 : Nat) : Int), (S.set i 0).set i (b.2.1.getD i 0))) := by
          unfold F.law11_CurveCodes_L7
          dsimp only
          rw [if_pos (decide_eq_true (by rw [List.length_take]; omega)), getO_D (show i < (S.take r2.2).length by rw [List.length_take]; omega) 0, bind_some', olet_eq, if_pos (decide_eq_true (by omega)), getO_D hbl 0, bind_some', Int.toNat_natCast, getO_D (show i < ((S.set i 0).take r2.2).length by rw [List.length_take, List.length_set]; omega) 0, bind_some', olet_eq]
          unfold F.law11_CurveCodes_K6
          rw [w4]; rfl
        rw [loop_inl hst]
        exact ih (i + 1) _ (by omega) (by simpa using hS)
      · have hst : F.law11_CurveCodes_L7 c ((X ++ mk40 40, X.length), (Y ++ mk40 40, Y.length), q) r1 r2 b R ((i : Int), S) = some (.inl (((i + 1 : Nat) : Int), S.set i 0)) := by
          unfold F.law11_CurveCodes_L7
          dsimp only
          rw [if_pos (decide_eq_true (by rw [List.length_take]; omega)), getO_D (show i < (S.take r2.2).length by rw [List.length_take]; omega) 0, bind_some', olet_eq, if_neg (by simp only [decide_eq_true_eq]; omega), Int.toNat_natCast]
          unfold F.law11_CurveCodes_K6
          rw [w4]; rfl
        rw [loop_inl hst]
        exact ih (i + 1) _ (by omega) (by simpa using hS)
  have l6 : ∀ (k i : Nat) (R : List UInt8), i + k = r1.2 → R.length = r1.1.length → loop (F.law11_CurveCodes_L6 r1 r2 b c ((X ++ mk40 40, X.length), (Y ++ mk40 40, Y.length), q)) ((i : Int), R) = some true := by
    intro k
    induction k with
    | zero =>
      intro i R hi hR
      have hst : F.law11_CurveCodes_L6 r1 r2 b c ((X ++ mk40 40, X.length), (Y ++ mk40 40, Y.length), q) ((i : Int), R) = oinr (loop (F.law11_CurveCodes_L7 c ((X ++ mk40 40, X.length), (Y ++ mk40 40, Y.length), q) r1 r2 b R) (0, r2.1)) := by
        unfold F.law11_CurveCodes_L6
        dsimp only
        rw [if_neg (by simp only [decide_eq_true_eq]; rw [List.length_take]; omega)]
      rw [loop_oinr' hst]
      exact l7 R hR r2.2 0 r2.1 (by omega) rfl
    | succ k ih =>
      intro i R hi hR
      have w4 : wI ((i : Int) + 1) = ((i + 1 : Nat) : Int) := by rw [wI_in (by omega) (by omega)]; rfl
      by_cases hbl : i < b.1.length
      · have hst : F.law11_CurveCodes_L6 r1 r2 b c ((X ++ mk40 40, X.length), (Y ++ mk40 40, Y.length), q) ((i : Int), R) = some (.inl (((i + 1 : Nat) : Int), (R.set i 0).set i (b.1.getD i 0))) := by
          unfold F.law11_CurveCodes_L6
          dsimp only
          rw [if_pos (decide_eq_true (by rw [List.length_take]; omega)), getO_D (show i < (R.take r1.2).length by rw [List.length_take]; omega) 0, bind_some', olet_eq, if_pos (decide_eq_true (by omega)), getO_D hbl 0, bind_some', Int.toNat_natCast, getO_D (show i < ((R.set i 0).take r1.2).length by rw [List.length_take, List.length_set]; omega) 0, bind_some', olet_eq]
          unfold F.law11_CurveCodes_K5
          rw [w4]; rfl
        rw [loop_inl hst]
        exact ih (i + 1) _ (by omega) (by simpa using hR)
      · have hst : F.law11_CurveCodes_L6 r1 r2 b c ((X ++ mk40 40, X.length), (Y ++ mk40 40, Y.length), q) ((i : Int), R) = some (.inl (((i + 1 : Nat) : Int), R.set i 0)) := by
          unfold F.law11_CurveCodes_L6
          dsimp only
          rw [if_pos (decide_eq_true (by rw [List.length_take]; omega)), getO_D (show i < (R.take r1.2).length by rw [List.length_take]; omega) 0, bind_some', olet_eq, if_neg (by simp only [decide_eq_true_eq]; omega), Int.toNat_natCast]
          unfold F.law11_CurveCodes_K5
          rw [w4]; rfl
        rw [loop_inl hst]
        exact ih (i + 1) _ (by omega) (by simpa using hR)
  unfold F.law11_CurveCodes_K4
  rw [if_neg (by decide), rBase_eq, hg, bind_some', rEncode_eq c _ _ _ (by omega) (by omega), hb, bind_some']
  exact l6 r1.2 0 r1.1 (by omega) rfl
theorem law11_CurveCodes_eq (c : Int) (x y : List UInt8) (X Y : List UInt32) (q : Bool) (hx : x.length ≤ 140737488351232) (hy : y.length ≤ 140737488351232) (hX : X.length ≤ 35184372087808) (hY : Y.length ≤ 35184372087808) : F.law11_CurveCodes c x y X Y q = some true := by
  obtain ⟨d1, d2⟩ := decT_len c x y
  obtain ⟨n, hn, k1, k2⟩ := encT_len c X Y q
  have tX : (X ++ mk40 40).take X.length = X := List.take_left
  have tY : (Y ++ mk40 40).take Y.length = Y := List.take_left
  have tx : (x ++ mb60 60).take x.length = x := List.take_left
  have ty : (y ++ mb60 60).take y.length = y := List.take_left
  unfold F.law11_CurveCodes
  rw [lent_eq X Y q (by omega) (by omega), bind_some', lentBytes_eq x (by omega), bind_some', lentBytes_eq y (by omega), bind_some']
  dsimp only
  rw [tX, tY, tx, ty, Decode_eq, bind_some', Encode_eq c X Y q hX hY, bind_some', bind_some', bind_some', rDecode_eq, bind_some', rEncode_eq c X Y q hX hY, bind_some', same_eq _ _ _ (by omega) (by omega), bind_some', if_neg (by decide), if_neg (by simp),
    sameBytes_eq _ (by omega), bind_some', if_neg (by decide), sameBytes_eq _ (by omega), bind_some', if_neg (by decide), if_neg (by simp), still_eq X Y q (by omega) (by omega), bind_some', if_neg (by decide), wholeBytes_eq x (by omega), bind_some', if_neg (by decide), wholeBytes_eq y (by omega), bind_some']
  unfold F.law11_CurveCodes_K1
  rw [if_neg (by decide)]
  refine codes_loops _ _ _ _ _ _ _ _ _ _ _ _ _ _ _ _ n k1 k2 (by omega) ?_
  unfold F.law11_CurveCodes_L5
  rw [if_neg (by decide), spoil_eq _ _ _ (by omega) (by omega), bind_some', if_neg (by decide)]
  dsimp only
  rw [still_eq X Y q (by omega) (by omega), bind_some', if_neg (by decide), wholeBytes_eq x (by omega), bind_some', if_neg (by decide), wholeBytes_eq y (by omega), bind_some', if_neg (by decide), same_eq _ _ _ (by omega) (by omega), bind_some', if_neg (by decide),
    sameBytes_eq _ (by omega), bind_some', if_neg (by decide), sameBytes_eq _ (by omega), bind_some', Bool.not_true, codes_last c X Y q x y hX hY hx hy]
end Go.Gk.Bn
end
