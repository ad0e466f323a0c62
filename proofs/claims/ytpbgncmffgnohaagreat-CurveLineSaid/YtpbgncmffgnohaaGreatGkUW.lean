import Derived.Test.YtpbgncmffgnohaaGreatGkUR
import Derived.Test.YtpbgncmffgnohaaGreatGkFmodn
set_option linter.unusedVariables false
set_option linter.unusedSimpArgs false

section
set_option linter.unusedSimpArgs false
set_option linter.unusedVariables false
set_option linter.unusedSectionVars false
namespace Go.Gk.Bn
open Go Go.Gk Go.Gk.Sh
theorem top_iff (x : UInt32) : x.toBitVec.msb = decide (2147483648 ≤ x.toNat) := by
  rw [BitVec.msb_eq_decide]; rfl
theorem top_shr (x : UInt32) : (shr32 x 31).toNat = if x.toBitVec.msb = true then 1 else 0 := by
  have hx := w_lt x
  have : (shr32 x 31).toNat = x.toNat / 2147483648 := by
    unfold shr32
    rw [UInt32.toNat_ofNat', show min 31 32 = 31 from rfl]
    omega
  rw [this, top_iff]
  by_cases h : 2147483648 ≤ x.toNat
  · rw [if_pos (decide_eq_true h)]; omega
  · rw [if_neg (by rw [decide_eq_true_eq]; exact h)]; omega
theorem Sub32_eq (a b c : UInt32) (hc : c.toNat ≤ 1) : ∃ d e : UInt32, F.math_bits_Sub32 a b c = some (d, e) ∧ e.toNat ≤ 1 ∧ d.toNat + b.toNat + c.toNat = a.toNat + 4294967296 * e.toNat := by
  refine ⟨(a - b) - c, _, rfl, ?_⟩
  obtain ⟨d, hd⟩ : ∃ d, (a - b) - c = d := ⟨_, rfl⟩
  rw [hd]
  have hdv : d.toNat = (4294967296 - c.toNat + (4294967296 - b.toNat + a.toNat) % 4294967296) % 4294967296 := by rw [← hd, UInt32.toNat_sub, UInt32.toNat_sub]
  have ha := w_lt a; have hb := w_lt b; have hdl := w_lt d
  rw [top_shr]
  have e1 : (((~~~ a) &&& b) ||| ((~~~ (a ^^^ b)) &&& d)).toBitVec.msb = ((!a.toBitVec.msb && b.toBitVec.msb) || (!(a.toBitVec.msb != b.toBitVec.msb) && d.toBitVec.msb)) := by
    simp [BitVec.msb_or, BitVec.msb_and, BitVec.msb_xor, BitVec.msb_not]
  rw [e1, top_iff, top_iff, top_iff]
  by_cases h1 : 2147483648 ≤ a.toNat <;> by_cases h2 : 2147483648 ≤ b.toNat <;> by_cases h3 : 2147483648 ≤ d.toNat <;> simp only [h1, h2, h3, decide_true, decide_false] <;> simp <;> omega
theorem mid_len {l : List UInt32} {lo hi : Nat} (h1 : lo ≤ hi) (h2 : hi ≤ l.length) : ((l.drop lo).take (hi - lo)).length = hi - lo := by
  rw [List.length_take, List.length_drop]; omega
theorem mid_get {l : List UInt32} {lo hi i : Nat} (h2 : hi ≤ l.length) (hi' : i < hi - lo) : getO ((l.drop lo).take (hi - lo)) (i : Int) = some (l.getD (lo + i) 0) := by
  rw [getO_D (show i < ((l.drop lo).take (hi - lo)).length by rw [List.length_take, List.length_drop]; omega) 0]
  congr 1
  rw [List.getD_eq_getElem?_getD, List.getElem?_take_of_lt hi', List.getElem?_drop, ← List.getD_eq_getElem?_getD]
def TkI (u y : List UInt32) (lo i : Nat) (x : UInt32 × List UInt32) : Prop :=
  x.2.length = u.length ∧ x.1.toNat ≤ 1 ∧ (∀ k, lo + i ≤ k → x.2.getD k 0 = u.getD k 0) ∧ val x.2 + 4294967296 ^ lo * val (y.take i) = val u + 4294967296 ^ (lo + i) * x.1.toNat
theorem take_eqN (u y : List UInt32) (lo hi : Nat) (h1 : lo ≤ hi) (h2 : hi ≤ u.length) (hu : u.length ≤ 4611686018427387904) (hy : y.length ≤ 4611686018427387904) :
    ∃ r, F.nat_take u lo hi y = some r ∧ TkI u y lo (hi - lo) r := by
  have key : ∀ (k i : Nat) (x : UInt32 × List UInt32), i + k = hi - lo → TkI u y lo i x → ∃ r, loop (F.nat_take_L1 lo hi u y) (x.1, (i : Int), x.2) = some r ∧ TkI u y lo (hi - lo) r := by
    intro k
    induction k with
    | zero =>
      intro i x hi' hx
      have : i = hi - lo := by omega
      subst this
      refine ⟨x, loop_oinr' ?_, hx⟩
      unfold F.nat_take_L1
      dsimp only
      rw [mid_len h1 h2, if_neg (by rw [decide_eq_true_eq]; omega)]
    | succ k ih =>
      intro i x hi' hx
      obtain ⟨g1, g2, g3, g4⟩ := hx
      have hin : i < hi - lo := by omega
      have w4 : wI ((i : Int) + 1) = ((i + 1 : Nat) : Int) := by rw [wI_in (by omega) (by omega)]; rfl
      obtain ⟨d, e, s1, s2, s3⟩ := Sub32_eq (x.2.getD (lo + i) 0) (y.getD i 0) x.1 g2
      have hst : F.nat_take_L1 lo hi u y (x.1, (i : Int), x.2) = some (.inl (e, ((i + 1 : Nat) : Int), x.2.set (lo + i) d)) := by
        have hK : F.nat_take_K1 lo hi x.1 (i : Int) x.2 (y.getD i 0) = some (.inl (e, ((i + 1 : Nat) : Int), x.2.set (lo + i) d)) := by
          unfold F.nat_take_K1
          rw [mid_get (by omega) hin, kh, s1, kh, kh, olet_eq, w4, Int.toNat_natCast]; rfl
        unfold F.nat_take_L1
        dsimp only
        rw [mid_len h1 h2, if_pos (decide_eq_true (by omega))]
        by_cases hb : i < y.length
        · rw [if_pos (decide_eq_true (by omega)), getO_D hb 0, kh, hK]
        · rw [if_neg (by rw [decide_eq_true_eq]; omega)]
          have : y.getD i 0 = 0 := by rw [List.getD_eq_getElem?_getD, List.getElem?_eq_none (by omega)]; rfl
          rw [this] at hK; exact hK
      rw [loop_inl hst]
      refine ih (i + 1) (e, x.2.set (lo + i) d) (by omega) ⟨by simpa using g1, s2, fun k' hk => ?_, ?_⟩
      · show (x.2.set (lo + i) d).getD k' 0 = _
        rw [getD_set (by omega)]; exact g3 k' (by omega)
      · show val (x.2.set (lo + i) d) + _ = _ + _ * e.toNat
        have hv := val_set x.2 (lo + i) d (by omega)
        rw [val_take_succ y i, Nat.mul_add, ← Nat.mul_assoc, ← Nat.pow_add, show lo + (i + 1) = (lo + i) + 1 by omega, Nat.pow_succ]
        obtain ⟨Pw, hP⟩ : ∃ Pw, (4294967296 : Nat) ^ (lo + i) = Pw := ⟨_, rfl⟩
        rw [hP] at g4 hv ⊢
        have e1 := congrArg (fun z => Pw * z) s3
        simp only [Nat.mul_add] at e1
        rw [Nat.mul_assoc]
        omega
  exact key (hi - lo) 0 (0, u) (by omega) ⟨rfl, Nat.zero_le 1, fun _ _ => rfl, by simp [val]⟩
theorem take_leN (u y : List UInt32) (lo hi : Nat) (h1 : lo ≤ hi) (h2 : hi ≤ u.length) (hu : u.length ≤ 4611686018427387904) (hy : y.length ≤ hi - lo) (hlt : val u < 4294967296 ^ hi) (hle : 4294967296 ^ lo * val y ≤ val u) :
    ∃ c u', F.nat_take u lo hi y = some (c, u') ∧ u'.length = u.length ∧ val u' + 4294967296 ^ lo * val y = val u := by
  obtain ⟨⟨c, u'⟩, r1, r2, r3, r4, r5⟩ := take_eqN u y lo hi h1 h2 hu (by omega)
  dsimp only at r2 r3 r4 r5
  rw [List.take_of_length_le hy, show lo + (hi - lo) = hi by omega] at r5
  refine ⟨c, u', r1, r2, ?_⟩
  have hz : val u' < 4294967296 ^ hi := val_lt_of fun k hk => by rw [r4 k (by omega)]; exact zero_of hlt k hk
  rcases Nat.lt_or_ge c.toNat 1 with h | h
  · have : c.toNat = 0 := by omega
    rw [this] at r5; omega
  · have : c.toNat = 1 := by omega
    rw [this] at r5; omega
theorem cpL_all (n : Nat) (l : List UInt32) (h : l.length = n) : cpL (List.replicate n 0) l 0 (List.replicate n (0 : UInt32)).length = l := by
  unfold cpL
  simp only [List.length_replicate, Nat.sub_zero, Nat.zero_add, h, Nat.min_self, List.take_zero, List.nil_append]
  rw [List.take_of_length_le (by omega), List.drop_of_length_le (by simp), List.append_nil]
theorem nSub_eq (a b : List UInt32) (ha : a.length ≤ 40000000000000) (hb : b.length ≤ 40000000000000) : F.nat_Sub a b = some (if val a < val b then ([], false) else (limbs (val a - val b), true)) := by
  obtain ⟨m, h1, h2, h3⟩ := value_eq a (by omega)
  obtain ⟨m', h4, h5, h6⟩ := value_eq b (by omega)
  have la : (limbs (val a)).length ≤ a.length := limbs_len_le (val_lt a)
  unfold F.nat_Sub
  rw [nCmp_eq a b (by omega) (by omega), kh]
  by_cases hl : val a < val b
  · rw [if_pos hl]; unfold cmpN; rw [if_pos hl, if_pos (by decide)]
  · rw [if_neg hl]; unfold cmpN
    rw [if_neg hl, if_neg (by split <;> decide), h1, kh, h4, kh, h3, h6, mkO_ok (by omega), kh, Int.toNat_natCast, olet_eq, cpL_all _ _ rfl]
    have hba : (limbs (val b)).length ≤ (limbs (val a)).length := limbs_mono (by omega)
    obtain ⟨c, u', t1, t2, t3⟩ := take_leN (limbs (val a)) (limbs (val b)) 0 (limbs (val a)).length (Nat.zero_le _) (Nat.le_refl _) (by omega) (by omega) (val_lt _) (by rw [kC, kC]; omega)
    rw [t1, kh]
    obtain ⟨k, p1, p2, p3⟩ := proper_eq u' (by omega)
    dsimp only
    rw [p1, kh, p3]
    rw [kC, kC, Nat.pow_zero, Nat.one_mul] at t3
    rw [show val u' = val a - val b by omega]
def MuI (x : UInt32) (y o : List UInt32) (i j : Nat) (s : UInt64 × List UInt32) : Prop :=
  s.2.length = o.length ∧ s.1.toNat ≤ 4294967295 ∧ (∀ k, i + j ≤ k → s.2.getD k 0 = o.getD k 0) ∧ val s.2 + 4294967296 ^ (i + j) * s.1.toNat = val o + 4294967296 ^ i * (x.toNat * val (y.take j))
theorem nmul_inner (a b : List UInt32) (m : Nat) (i : Nat) (x : UInt32) (y o : List UInt32) (hy : b.take m = y) (ho : i + y.length < o.length) (hol : o.length ≤ 4611686018427387904) :
    ∃ c o', MuI x y o i y.length (c, o') ∧ loop (F.nat_Mul_L2 b m (i : Int) x) (0, 0, o) = some (.inl (((i + 1 : Nat) : Int), o'.set (i + y.length) c.toUInt32)) := by
  have key : ∀ (k j : Nat) (s : UInt64 × List UInt32), j + k = y.length → MuI x y o i j s → ∃ c o', MuI x y o i y.length (c, o') ∧ loop (F.nat_Mul_L2 b m (i : Int) x) (s.1, (j : Int), s.2) = some (.inl (((i + 1 : Nat) : Int), o'.set (i + y.length) c.toUInt32)) := by
    intro k
    induction k with
    | zero =>
      intro j s hj hs
      have : j = y.length := by omega
      subst this
      refine ⟨s.1, s.2, hs, loop_oinr' ?_⟩
      have w1 : wI ((i : Int) + (y.length : Int)) = ((i + y.length : Nat) : Int) := by rw [wI_in (by omega) (by omega)]; omega
      have w2 : wI ((i : Int) + 1) = ((i + 1 : Nat) : Int) := by rw [wI_in (by omega) (by omega)]; rfl
      unfold F.nat_Mul_L2
      dsimp only
      have := hs.1
      rw [hy, if_neg (by rw [decide_eq_true_eq]; omega), w1, w2, getO_D (show i + y.length < s.2.length by omega) 0, kh, olet_eq, Int.toNat_natCast]; rfl
    | succ k ih =>
      intro j s hj hs
      obtain ⟨g1, g2, g3, g4⟩ := hs
      have w1 : wI ((i : Int) + (j : Int)) = ((i + j : Nat) : Int) := by rw [wI_in (by omega) (by omega)]; omega
      have w2 : wI ((j : Int) + 1) = ((j + 1 : Nat) : Int) := by rw [wI_in (by omega) (by omega)]; rfl
      obtain ⟨t, ht⟩ : ∃ t, s.1 + ((x.toUInt64 * (y.getD j 0).toUInt64) + (s.2.getD (i + j) 0).toUInt64) = t := ⟨_, rfl⟩
      have hst : F.nat_Mul_L2 b m (i : Int) x (s.1, (j : Int), s.2) = some (.inl (shr64 t 32, ((j + 1 : Nat) : Int), s.2.set (i + j) t.toUInt32)) := by
        unfold F.nat_Mul_L2
        dsimp only
        rw [hy, if_pos (decide_eq_true (by omega)), getO_D (show j < y.length by omega) 0, kh, w1, getO_D (show i + j < s.2.length by omega) 0, kh, olet_eq, ht, kh, olet_eq, w2, Int.toNat_natCast]; rfl
      rw [loop_inl hst]
      have x1 := w_lt x; have x2 := w_lt (y.getD j 0); have x3 := w_lt (s.2.getD (i + j) 0)
      have hp := Nat.mul_le_mul (show x.toNat ≤ 4294967295 by omega) (show (y.getD j 0).toNat ≤ 4294967295 by omega)
      have m1 : (x.toUInt64 * (y.getD j 0).toUInt64).toNat = x.toNat * (y.getD j 0).toNat := by rw [mul64 _ _ (by rw [up32, up32]; omega), up32, up32]
      have m2 : (x.toUInt64 * (y.getD j 0).toUInt64 + (s.2.getD (i + j) 0).toUInt64).toNat = x.toNat * (y.getD j 0).toNat + (s.2.getD (i + j) 0).toNat := by rw [add64 _ _ (by rw [m1, up32]; omega), m1, up32]
      have m3 : t.toNat = s.1.toNat + (x.toNat * (y.getD j 0).toNat + (s.2.getD (i + j) 0).toNat) := by rw [← ht, add64 _ _ (by rw [m2]; omega), m2]
      have c1 : (shr64 t 32).toNat = t.toNat / 4294967296 := by rw [shr64_toNat]; rfl
      refine ih (j + 1) (shr64 t 32, s.2.set (i + j) t.toUInt32) (by omega) ⟨by simpa using g1, by show (shr64 t 32).toNat ≤ _; rw [c1]; omega, fun k' hk => ?_, ?_⟩
      · show (s.2.set (i + j) t.toUInt32).getD k' 0 = _
        rw [getD_set (by omega)]; exact g3 k' (by omega)
      · show val (s.2.set (i + j) t.toUInt32) + _ * (shr64 t 32).toNat = _
        have hv := val_set s.2 (i + j) t.toUInt32 (by omega)
        rw [lo32] at hv
        rw [val_take_succ y j, Nat.mul_add, Nat.mul_add, c1, show i + (j + 1) = (i + j) + 1 by omega, Nat.pow_succ]
        have e0 : 4294967296 ^ i * (x.toNat * (4294967296 ^ j * (y.getD j 0).toNat)) = 4294967296 ^ (i + j) * (x.toNat * (y.getD j 0).toNat) := by
          rw [Nat.pow_add, Nat.mul_left_comm x.toNat, Nat.mul_assoc]
        rw [e0]
        obtain ⟨Pw, hP⟩ : ∃ Pw, (4294967296 : Nat) ^ (i + j) = Pw := ⟨_, rfl⟩
        rw [hP] at g4 hv ⊢
        have hd := Nat.div_add_mod t.toNat 4294967296
        have e3 : Pw * (t.toNat % 4294967296) + Pw * 4294967296 * (t.toNat / 4294967296) = Pw * t.toNat := by
          rw [Nat.mul_assoc, ← Nat.mul_add, Nat.add_comm, hd]
        have e4 : Pw * t.toNat = Pw * s.1.toNat + (Pw * (x.toNat * (y.getD j 0).toNat) + Pw * (s.2.getD (i + j) 0).toNat) := by rw [m3, Nat.mul_add, Nat.mul_add]
        omega
  exact key y.length 0 (0, o) (by omega) ⟨rfl, Nat.zero_le _, fun _ _ => rfl, by simp [val]⟩
theorem nMul_eq (a b : List UInt32) (ha : a.length ≤ 40000000000000) (hb : b.length ≤ 40000000000000) (hs : (limbs (val a)).length + (limbs (val b)).length ≤ 50000000000000) : F.nat_Mul a b = some (limbs (val a * val b)) := by
  obtain ⟨m, h1, h2, h3⟩ := value_eq a (by omega)
  obtain ⟨m', h4, h5, h6⟩ := value_eq b (by omega)
  have la : (limbs (val a)).length ≤ a.length := limbs_len_le (val_lt a)
  have lb : (limbs (val b)).length ≤ b.length := limbs_len_le (val_lt b)
  obtain ⟨x, hx⟩ : ∃ x, limbs (val a) = x := ⟨_, rfl⟩
  obtain ⟨y, hy⟩ : ∃ y, limbs (val b) = y := ⟨_, rfl⟩
  have vx : val x = val a := by rw [← hx, kC]
  have vy : val y = val b := by rw [← hy, kC]
  rw [hx] at h3 la hs; rw [hy] at h6 lb hs
  unfold F.nat_Mul
  have w0 : wI ((x.length : Int) + (y.length : Int)) = ((x.length + y.length : Nat) : Int) := by rw [wI_in (by omega) (by omega)]; omega
  rw [h1, kh, h4, kh, h3, h6, w0, mkO_ok (by omega), kh, Int.toNat_natCast]
  have key : ∀ (k i : Nat) (o : List UInt32), i + k = x.length → o.length = x.length + y.length → (∀ k, i + y.length ≤ k → o.getD k 0 = 0) → val o = val (x.take i) * val y → loop (F.nat_Mul_L1 a m b m') ((i : Int), o) = some (limbs (val a * val b)) := by
    intro k
    induction k with
    | zero =>
      intro i o hi ho _ hv
      have : i = x.length := by omega
      subst this
      refine loop_oinr' ?_
      unfold F.nat_Mul_L1
      dsimp only
      obtain ⟨q, p1, p2, p3⟩ := proper_eq o (by omega)
      rw [h3, if_neg (by rw [decide_eq_true_eq]; omega), p1, kh, p3, hv, List.take_of_length_le (Nat.le_refl _), vx, vy]
    | succ k ih =>
      intro i o hi ho hz hv
      obtain ⟨c, o', ⟨g1, g2, g3, g4⟩, hl⟩ := nmul_inner a b m' i (x.getD i 0) y o h6 (by omega) (by omega)
      dsimp only at g1 g2 g3 g4
      have hst : F.nat_Mul_L1 a m b m' ((i : Int), o) = some (.inl (((i + 1 : Nat) : Int), o'.set (i + y.length) c.toUInt32)) := by
        unfold F.nat_Mul_L1
        dsimp only
        rw [h3, if_pos (decide_eq_true (by omega)), getO_D (show i < x.length by omega) 0, kh, hl]
      rw [loop_inl hst]
      have hov : o'.getD (i + y.length) 0 = 0 := by rw [g3 _ (Nat.le_refl _)]; exact hz _ (Nat.le_refl _)
      have hset := val_set o' (i + y.length) c.toUInt32 (by omega)
      have z0 : (0 : UInt32).toNat = 0 := rfl
      rw [hov, z0, Nat.mul_zero, Nat.add_zero, lo32, Nat.mod_eq_of_lt (by omega)] at hset
      refine ih (i + 1) _ (by omega) (by simpa using (g1.trans ho)) (fun k' hk => ?_) ?_
      · rw [getD_set (by omega), g3 k' (by omega)]; exact hz k' (by omega)
      · rw [hset, g4, List.take_of_length_le (Nat.le_refl _), hv, val_take_succ x i, Nat.add_mul, Nat.mul_assoc]
  exact key x.length 0 (List.replicate (x.length + y.length) 0) (by omega) (by simp) (fun k _ => by rw [List.getD_eq_getElem?_getD]; by_cases hk : k < x.length + y.length <;> simp [hk]) (by rw [val_replicate0]; simp [val])
end Go.Gk.Bn
end

section
set_option linter.unusedSimpArgs false
set_option linter.unusedVariables false
set_option linter.unusedSectionVars false
namespace Go.Gk.Bn
open Go Go.Gk Go.Gk.Sh
theorem Div32_eq (a b d : UInt32) (h : a.toNat < d.toNat) : ∃ q r : UInt32, F.math_bits_Div32 a b d = some (q, r) ∧ q.toNat = (4294967296 * a.toNat + b.toNat) / d.toNat ∧ r.toNat = (4294967296 * a.toNat + b.toNat) % d.toNat := by
  have hb := w_lt b; have hd := w_lt d
  have hd0 : ¬ d.toUInt64 = 0 := fun h0 => by
    have := congrArg UInt64.toNat h0
    rw [up32] at this; simp at this; omega
  have hne : (d != 0) = true := by
    rw [bne_iff_ne]; intro h0; rw [h0] at h; simp at h
  have hle : ¬ d ≤ a := fun h1 => by have := UInt32.le_iff_toNat_le.1 h1; omega
  refine ⟨(((shl64 a.toUInt64 32) ||| b.toUInt64) / d.toUInt64).toUInt32, (((shl64 a.toUInt64 32) ||| b.toUInt64) % d.toUInt64).toUInt32, ?_, ?_, ?_⟩
  rotate_left
  · show ((((shl64 a.toUInt64 32) ||| b.toUInt64) / d.toUInt64).toUInt32).toNat = _
    rw [lo32, UInt64.toNat_div, or32n, up32, Nat.mod_eq_of_lt]
    exact Nat.div_lt_of_lt_mul (by rw [Nat.mul_comm]; omega)
  · show ((((shl64 a.toUInt64 32) ||| b.toUInt64) % d.toUInt64).toUInt32).toNat = _
    rw [lo32, UInt64.toNat_mod, or32n, up32, Nat.mod_eq_of_lt]
    exact Nat.lt_trans (Nat.mod_lt _ (by omega)) hd
  · unfold F.math_bits_Div32 F.math_bits_Div32_K1
    dsimp only
    rw [if_pos hne, if_neg (by rw [decide_eq_true_eq]; exact hle), olet_eq, grd_true _ hd0, grd_true _ hd0, olet_eq, olet_eq]
theorem nShort_eq (x : List UInt32) (d : UInt32) (hd : d.toNat ≠ 0) (hx : x.length ≤ 50000000000000) : ∃ q r, F.nat_short x d = some (q, r) ∧ q.length = x.length ∧ val q = val x / d.toNat ∧ r.toNat = val x % d.toNat := by
  unfold F.nat_short
  rw [mkO_ok (by omega), kh, olet_eq, Int.toNat_natCast, wI_in (by omega) (by omega)]
  have key : ∀ (k : Nat) (o : List UInt32) (r : UInt32), k ≤ x.length → o.length = x.length → r.toNat < d.toNat → val (o.drop k) * d.toNat + r.toNat = val (x.drop k) → ∃ q r', loop (F.nat_short_L1 x d) (r, (k : Int) - 1, o) = some (q, r') ∧ q.length = x.length ∧ r'.toNat < d.toNat ∧ val q * d.toNat + r'.toNat = val x := by
    intro k
    induction k with
    | zero =>
      intro o r hk ho hr hv
      refine ⟨o, r, loop_oinr' ?_, ho, hr, by simpa using hv⟩
      unfold F.nat_short_L1
      dsimp only
      rw [if_neg (by decide)]
    | succ k ih =>
      intro o r hk ho hr hv
      have e1 : (((k + 1 : Nat) : Int)) - 1 = (k : Int) := by omega
      obtain ⟨q1, r1, s1, s2, s3⟩ := Div32_eq r (x.getD k 0) d hr
      have w : wI ((k : Int) - 1) = (k : Int) - 1 := wI_in (by omega) (by omega)
      have hst : F.nat_short_L1 x d (r, (k : Int), o) = some (.inl (r1, (k : Int) - 1, o.set k q1)) := by
        unfold F.nat_short_L1
        dsimp only
        rw [if_pos (decide_eq_true (by omega)), getO_D (show k < x.length by omega) 0, kh, s1, kh, getO_D (show k < o.length by omega) 0, kh, olet_eq, w, Int.toNat_natCast]; rfl
      rw [e1, loop_inl hst]
      refine ih (o.set k q1) r1 (by omega) (by simpa using ho) (by rw [s3]; exact Nat.mod_lt _ (by omega)) ?_
      have hdr : val ((o.set k q1).drop k) = q1.toNat + 4294967296 * val (o.drop (k + 1)) := by
        rw [val_drop, List.drop_set_of_lt (by omega)]
        congr 2
        rw [List.getD_eq_getElem?_getD, List.getElem?_set_self (by omega)]; rfl
      rw [hdr, val_drop x k, ← hv, s2, s3]
      have hdm := Nat.div_add_mod (4294967296 * r.toNat + (x.getD k 0).toNat) d.toNat
      rw [Nat.add_mul, Nat.mul_comm (_ / _), Nat.mul_assoc, Nat.mul_add]
      omega
  obtain ⟨q, r, h1, h2, h3, h4⟩ := key x.length (List.replicate x.length 0) 0 (Nat.le_refl _) (by simp) (by show 0 < _; omega) (by rw [List.drop_of_length_le (by simp), List.drop_of_length_le (by omega)]; simp [val])
  refine ⟨q, r, h1, h2, ?_, ?_⟩
  · rw [← h4, Nat.add_comm, Nat.add_mul_div_right _ _ (by omega), Nat.div_eq_of_lt h3, Nat.zero_add]
  · rw [← h4, Nat.add_comm, Nat.add_mul_mod_self_right, Nat.mod_eq_of_lt h3]
theorem shl_or (x c : UInt32) {s : Nat} (hs : s < 32) (hc : c.toNat < 2 ^ s) : (shl32 x s ||| c).toNat = x.toNat * 2 ^ s % 4294967296 + c.toNat := by
  rw [UInt32.toNat_or, shl32_toNat, Nat.min_eq_left (by omega)]
  have hp := pow_split hs
  have e : x.toNat * 2 ^ s % 4294967296 = 2 ^ s * (x.toNat % 2 ^ (32 - s)) := by
    rw [Nat.mul_comm, ← hp, Nat.mul_mod_mul_left]
  rw [e, Nat.two_pow_add_eq_or_of_lt hc]
theorem shl_up (x : UInt32) {s : Nat} (hs : s < 32) : ((shr64 (shl64 x.toUInt64 s) 32).toUInt32).toNat = x.toNat * 2 ^ s / 4294967296 ∧ x.toNat * 2 ^ s / 4294967296 < 2 ^ s := by
  have hx := w_lt x
  have h1 : x.toNat * 2 ^ s < 4294967296 * 2 ^ s := Nat.mul_lt_mul_of_pos_right hx (Nat.two_pow_pos s)
  have h2 : 2 ^ s < 2 ^ 32 := Nat.pow_lt_pow_right (by decide) hs
  have h3 : x.toNat * 2 ^ s / 4294967296 < 2 ^ s := Nat.div_lt_of_lt_mul h1
  refine ⟨?_, h3⟩
  rw [lo32, shr64_toNat, shl64_toNat, up32, Nat.min_eq_left (by omega), show (2 : Nat) ^ min 32 64 = 4294967296 from rfl]
  rw [Nat.mod_eq_of_lt (b := 18446744073709551616) (by omega), Nat.mod_eq_of_lt (by omega)]
def UpI (u x : List UInt32) (lo s i : Nat) (t : UInt32 × List UInt32) : Prop :=
  t.2.length = u.length ∧ t.2.take lo = u.take lo ∧ (∀ k, lo + i ≤ k → t.2.getD k 0 = u.getD k 0) ∧ t.1.toNat < 2 ^ s ∧ val ((t.2.drop lo).take i) + 4294967296 ^ i * t.1.toNat = 2 ^ s * val (x.take i)
theorem up_eqN (u x : List UInt32) (lo hi s : Nat) (hs : s < 32) (h1 : lo ≤ hi) (h2 : hi ≤ u.length) (hu : u.length ≤ 4611686018427387904) (hx : x.length ≤ 4611686018427387904) :
    ∃ c u', F.nat_up u lo hi x (s : Int) = some u' ∧ UpI u x lo s (hi - lo) (c, u') := by
  have key : ∀ (k i : Nat) (t : UInt32 × List UInt32), i + k = hi - lo → UpI u x lo s i t → ∃ c u', loop (F.nat_up_L1 lo hi u x (s : Int)) (t.1, (i : Int), t.2) = some u' ∧ UpI u x lo s (hi - lo) (c, u') := by
    intro k
    induction k with
    | zero =>
      intro i t hi' ht
      have : i = hi - lo := by omega
      subst this
      refine ⟨t.1, t.2, loop_oinr' ?_, ht⟩
      unfold F.nat_up_L1
      dsimp only
      rw [mid_len h1 h2, if_neg (by rw [decide_eq_true_eq]; omega)]
    | succ k ih =>
      intro i t hi' ht
      obtain ⟨g1, g2, g3, g4, g5⟩ := ht
      have hin : i < hi - lo := by omega
      have w4 : wI ((i : Int) + 1) = ((i + 1 : Nat) : Int) := by rw [wI_in (by omega) (by omega)]; rfl
      obtain ⟨z, hz⟩ : ∃ z, shl32 (x.getD i 0) s ||| t.1 = z := ⟨_, rfl⟩
      obtain ⟨c, hc⟩ : ∃ c, (shr64 (shl64 (x.getD i 0).toUInt64 s) 32).toUInt32 = c := ⟨_, rfl⟩
      have hzv := shl_or (x.getD i 0) t.1 hs g4
      have hcv := shl_up (x.getD i 0) hs
      rw [hz] at hzv; rw [hc] at hcv
      have hK : F.nat_up_K1 lo hi (s : Int) t.1 (i : Int) t.2 (x.getD i 0) = some (.inl (c, ((i + 1 : Nat) : Int), t.2.set (lo + i) z)) := by
        unfold F.nat_up_K1
        dsimp only
        rw [grd_true _ (by omega), mid_get (by omega) hin, kh, olet_eq, Int.toNat_natCast, hz, grd_true _ (by omega), olet_eq, hc, w4, Int.toNat_natCast]; rfl
      have hst : F.nat_up_L1 lo hi u x (s : Int) (t.1, (i : Int), t.2) = some (.inl (c, ((i + 1 : Nat) : Int), t.2.set (lo + i) z)) := by
        unfold F.nat_up_L1
        dsimp only
        rw [mid_len h1 h2, if_pos (decide_eq_true (by omega))]
        by_cases hb : i < x.length
        · rw [if_pos (decide_eq_true (by omega)), getO_D hb 0, kh, hK]
        · rw [if_neg (by rw [decide_eq_true_eq]; omega)]
          rw [getD_beyond (by omega)] at hK; exact hK
      rw [loop_inl hst]
      refine ih (i + 1) (c, t.2.set (lo + i) z) (by omega) ⟨by simpa using g1, ?_, fun k' hk => ?_, by show c.toNat < _; rw [hcv.1]; exact hcv.2, ?_⟩
      · show (t.2.set (lo + i) z).take lo = _
        rw [List.take_set_of_le (by omega)]; exact g2
      · show (t.2.set (lo + i) z).getD k' 0 = _
        rw [getD_set (by omega)]; exact g3 k' (by omega)
      · show val (((t.2.set (lo + i) z).drop lo).take (i + 1)) + _ * c.toNat = _
        have e1 : (t.2.set (lo + i) z).drop lo = (t.2.drop lo).set i z := by rw [List.drop_set, if_neg (by omega), show lo + i - lo = i by omega]
        have e2 : ((t.2.drop lo).set i z).getD i 0 = z := by
          rw [List.getD_eq_getElem?_getD, List.getElem?_set_self (by rw [List.length_drop]; omega)]; rfl
        rw [e1, val_take_succ, e2, List.take_set_of_le (by omega), val_take_succ x i, Nat.mul_add, ← g5, hzv, hcv.1, Nat.pow_succ]
        obtain ⟨Pw, hP⟩ : ∃ Pw, (4294967296 : Nat) ^ i = Pw := ⟨_, rfl⟩
        obtain ⟨m, hm⟩ : ∃ m, (x.getD i 0).toNat * 2 ^ s = m := ⟨_, rfl⟩
        rw [hP, hm]
        have hd := Nat.div_add_mod m 4294967296
        have e3 : Pw * (m % 4294967296) + Pw * 4294967296 * (m / 4294967296) = Pw * m := by
          rw [Nat.mul_assoc, ← Nat.mul_add, Nat.add_comm, hd]
        have e4 : 2 ^ s * (Pw * (x.getD i 0).toNat) = Pw * m := by rw [← hm, Nat.mul_left_comm, Nat.mul_comm (2 ^ s)]
        rw [e4, Nat.mul_add]
        omega
  exact key (hi - lo) 0 (0, u) (by omega) ⟨rfl, rfl, fun _ _ => rfl, Nat.two_pow_pos s, by simp [val]⟩
theorem up_all (u x : List UInt32) (s : Nat) (hs : s < 32) (hu : u.length ≤ 4611686018427387904) (hx : x.length ≤ u.length) (hf : 2 ^ s * val x < 4294967296 ^ u.length) :
    ∃ u', F.nat_up u 0 u.length x (s : Int) = some u' ∧ u'.length = u.length ∧ val u' = 2 ^ s * val x := by
  obtain ⟨c, u', r1, r2, r3, r4, r5, r6⟩ := up_eqN u x 0 u.length s hs (Nat.zero_le _) (Nat.le_refl _) hu (by omega)
  dsimp only at r2 r5 r6
  rw [Nat.sub_zero, List.drop_zero, List.take_of_length_le (by omega), List.take_of_length_le hx] at r6
  refine ⟨u', r1, r2, ?_⟩
  rcases Nat.eq_zero_or_pos c.toNat with h | h
  · rw [h] at r6; omega
  · have := Nat.le_mul_of_pos_right (4294967296 ^ u.length) h
    omega
theorem down_eqN (u : List UInt32) (s : Nat) (hs : s < 32) (hu : u.length ≤ 4611686018427387904) : ∃ u', F.nat_down u (s : Int) = some u' ∧ u'.length = u.length ∧ val u' = val u / 2 ^ s := by
  have hps := pow_split hs
  have kd : ∀ i, (val u / 2 ^ s) / 4294967296 ^ i % 4294967296 = ((u.getD i 0).toNat + 4294967296 * (u.getD (i + 1) 0).toNat) / 2 ^ s % 4294967296 := by
    intro i
    rw [Nat.div_div_eq_div_mul, Nat.mul_comm, ← Nat.div_div_eq_div_mul, val_div, val_drop, val_drop]
    have : (u.getD i 0).toNat + 4294967296 * ((u.getD (i + 1) 0).toNat + 4294967296 * val (u.drop (i + 1 + 1))) = ((u.getD i 0).toNat + 4294967296 * (u.getD (i + 1) 0).toNat) + 2 ^ s * (4294967296 * (2 ^ (32 - s) * val (u.drop (i + 1 + 1)))) := by
      have : 2 ^ s * (4294967296 * (2 ^ (32 - s) * val (u.drop (i + 1 + 1)))) = 4294967296 * (4294967296 * val (u.drop (i + 1 + 1))) := by
        rw [Nat.mul_left_comm, ← Nat.mul_assoc (2 ^ s), hps]
      rw [this, Nat.mul_add]; omega
    rw [this, Nat.add_mul_div_left _ _ (Nat.two_pow_pos s), Nat.add_mul_mod_self_left]
  have key : ∀ (k i : Nat) (o : List UInt32), i + k = u.length → o.length = u.length → (∀ j, i ≤ j → o.getD j 0 = u.getD j 0) → val (o.take i) = (val u / 2 ^ s) % 4294967296 ^ i →
      ∃ u', loop (F.nat_down_L1 u (s : Int)) ((i : Int), o) = some u' ∧ u'.length = u.length ∧ val u' = val u / 2 ^ s := by
    intro k
    induction k with
    | zero =>
      intro i o hi ho _ hv
      have : i = u.length := by omega
      subst this
      refine ⟨o, loop_oinr' ?_, ho, ?_⟩
      · unfold F.nat_down_L1
        dsimp only
        rw [if_neg (by rw [decide_eq_true_eq]; omega)]
      · rw [List.take_of_length_le (by omega)] at hv
        rw [hv, Nat.mod_eq_of_lt]
        exact Nat.lt_of_le_of_lt (Nat.div_le_self _ _) (val_lt u)
    | succ k ih =>
      intro i o hi ho hg hv
      have w4 : wI ((i : Int) + 1) = ((i + 1 : Nat) : Int) := by rw [wI_in (by omega) (by omega)]; rfl
      obtain ⟨z, hz⟩ : ∃ z, (shr64 ((u.getD i 0).toUInt64 ||| (shl64 (u.getD (i + 1) 0).toUInt64 32)) s).toUInt32 = z := ⟨_, rfl⟩
      have hzv : z.toNat = ((u.getD i 0).toNat + 4294967296 * (u.getD (i + 1) 0).toNat) / 2 ^ s % 4294967296 := by
        rw [← hz, lo32, shr64_toNat, or32', Nat.min_eq_left (by omega)]
      have hK : ∀ v : UInt64, v = ((u.getD i 0).toUInt64 ||| (shl64 (u.getD (i + 1) 0).toUInt64 32)) → F.nat_down_K1 (s : Int) (i : Int) o v = some (.inl (((i + 1 : Nat) : Int), o.set i z)) := by
        rintro v rfl
        unfold F.nat_down_K1
        dsimp only
        rw [grd_true _ (by omega), getO_D (show i < o.length by omega) 0, kh, olet_eq, Int.toNat_natCast, Int.toNat_natCast, hz, w4]; rfl
      have hst : F.nat_down_L1 u (s : Int) ((i : Int), o) = some (.inl (((i + 1 : Nat) : Int), o.set i z)) := by
        unfold F.nat_down_L1
        dsimp only
        rw [if_pos (decide_eq_true (by omega)), getO_D (show i < o.length by omega) 0, kh, w4, hg i (Nat.le_refl _)]
        by_cases hb : i + 1 < o.length
        · rw [if_pos (decide_eq_true (by omega)), getO_D hb 0, kh, olet_eq, hg (i + 1) (by omega), hK _ rfl]
        · rw [if_neg (by rw [decide_eq_true_eq]; omega), hK _ (by
            apply UInt64.toNat_inj.1
            rw [or32', getD_beyond (a := u) (i := i + 1) (by omega), up32]; rfl)]
      rw [loop_inl hst]
      refine ih (i + 1) (o.set i z) (by omega) (by simpa using ho) (fun j hj => by rw [getD_set (by omega)]; exact hg j (by omega)) ?_
      have e2 : (o.set i z).getD i 0 = z := by
        rw [List.getD_eq_getElem?_getD, List.getElem?_set_self (by omega)]; rfl
      rw [val_take_succ, e2, List.take_set_of_le (by omega), hv, Nat.mod_pow_succ, kd i, hzv]
  exact key u.length 0 u (by omega) rfl (fun _ _ => rfl) (by simp [val, Nat.mod_one])
theorem below_eqN (u v : List UInt32) (hl : u.length = v.length) (hu : u.length ≤ 4611686018427387904) : F.nat_below u v = some (decide (val u < val v)) := by
  have key : ∀ k : Nat, k ≤ u.length → val (u.drop k) = val (v.drop k) → loop (F.nat_below_L1 u v) ((k : Int) - 1) = some (decide (val u < val v)) := by
    intro k
    induction k with
    | zero =>
      intro _ h
      rw [List.drop_zero, List.drop_zero] at h
      refine loop_oinr' ?_
      unfold F.nat_below_L1
      dsimp only
      rw [if_neg (by decide), decide_eq_false (by omega)]
    | succ k ih =>
      intro hk h
      have e1 : (((k + 1 : Nat) : Int)) - 1 = (k : Int) := by omega
      have w : wI ((k : Int) - 1) = (k : Int) - 1 := wI_in (by omega) (by omega)
      rw [e1]
      by_cases hne : u.getD k 0 = v.getD k 0
      · have hL : F.nat_below_L1 u v (k : Int) = some (.inl ((k : Int) - 1)) := by
          unfold F.nat_below_L1
          dsimp only
          rw [if_pos (decide_eq_true (by omega)), getO_D (show k < u.length by omega) 0, kh, getO_D (show k < v.length by omega) 0, kh, if_neg (by rw [hne]; simp), w]; rfl
        rw [loop_inl hL]
        refine ih (by omega) ?_
        rw [val_drop u k, val_drop v k, h, hne]
      · have hL : F.nat_below_L1 u v (k : Int) = oinr (some (decide (u.getD k 0 < v.getD k 0))) := by
          unfold F.nat_below_L1
          dsimp only
          rw [if_pos (decide_eq_true (by omega)), getO_D (show k < u.length by omega) 0, kh, getO_D (show k < v.length by omega) 0, kh, if_pos (by rw [bne_iff_ne]; exact hne), kh, kh]
        rw [loop_oinr' hL]
        congr 1
        by_cases hlt : u.getD k 0 < v.getD k 0
        · rw [decide_eq_true hlt, decide_eq_true (cmp_top u v k h (UInt32.lt_iff_toNat_lt.1 hlt))]
        · have h3 : (v.getD k 0).toNat < (u.getD k 0).toNat := by
            have a1 : ¬ (u.getD k 0).toNat < (v.getD k 0).toNat := fun q => hlt (UInt32.lt_iff_toNat_lt.2 q)
            have a2 : (u.getD k 0).toNat ≠ (v.getD k 0).toNat := fun q => hne (UInt32.toNat_inj.1 q)
            omega
          have := cmp_top v u k h.symm h3
          rw [decide_eq_false hlt, decide_eq_false (by omega)]
  unfold F.nat_below
  rw [olet_eq, wI_in (by omega) (by omega)]
  exact key u.length (Nat.le_refl _) (by rw [List.drop_of_length_le (by omega), List.drop_of_length_le (by omega)])
end Go.Gk.Bn
end

section
set_option linter.unusedSimpArgs false
set_option linter.unusedVariables false
set_option linter.unusedSectionVars false
namespace Go.Gk.Bn
open Go Go.Gk Go.Gk.Sh
theorem nest_loop (v a : List UInt32) (v1 v2 u2 : UInt32) (h K U' V' : Nat) (hn : 2 ≤ v.length) (ha : v.length ≤ a.length) (hs : v.length ≤ 70368744177664)
    (hv1' : v.getD (v.length - 1) 0 = v1) (hv2' : v.getD (v.length - 2) 0 = v2) (hu2 : a.getD (v.length - 2) 0 = u2) (hV : val v = (v1.toNat * 4294967296 + v2.toNat) * K + V') (hU' : U' < K) (hV' : V' < K) (hv1 : 1 ≤ v1.toNat)
    (hlt : (h * 4294967296 + u2.toNat) * K + U' < 4294967296 * val v) (hh : h ≤ v1.toNat * 4294967296 + 4294967295) :
    ∀ (m : Nat) (g r : UInt64), g.toNat = m → h = g.toNat * v1.toNat + r.toNat → r.toNat ≤ 4294967295 → (h * 4294967296 + u2.toNat) * K + U' < (g.toNat + 1) * val v →
      ∃ g' : UInt64, loop (F.nat_estimate_L1 a v) (g, r) = some g' ∧ g'.toNat ≤ 4294967295 ∧ (h * 4294967296 + u2.toNat) * K + U' < (g'.toNat + 1) * val v := by
  have x1 := w_lt v1; have x2 := w_lt v2; have x3 := w_lt u2
  have w1 : wI ((v.length : Int) - 1) = ((v.length - 1 : Nat) : Int) := by rw [wI_in (by omega) (by omega)]; omega
  have w2 : wI ((v.length : Int) - 2) = ((v.length - 2 : Nat) : Int) := by rw [wI_in (by omega) (by omega)]; omega
  intro m
  induction m using Nat.strongRecOn with
  | ind m ih =>
    intro g r hm hgr hr hub
    have down : F.nat_estimate_L1 a v (g, r) = F.nat_estimate_K2 v g r true → (4294967296 ≤ g.toNat ∨ r.toNat * 4294967296 + u2.toNat < g.toNat * v2.toNat) →
        ∃ g' : UInt64, loop (F.nat_estimate_L1 a v) (g, r) = some g' ∧ g'.toNat ≤ 4294967295 ∧ (h * 4294967296 + u2.toNat) * K + U' < (g'.toNat + 1) * val v := by
      intro hL ht
      have hg1 : 1 ≤ g.toNat := by
        rcases Nat.eq_zero_or_pos g.toNat with h0 | h0
        · rw [h0] at ht; omega
        · exact h0
      have hgs : (g - 1).toNat = g.toNat - 1 := by
        rw [UInt64.toNat_sub_of_le _ _ (by rw [UInt64.le_iff_toNat_le]; exact hg1)]; rfl
      have hrs : (r + v1.toUInt64).toNat = r.toNat + v1.toNat := by rw [add64 _ _ (by rw [up32]; omega), up32]
      have hd := est_down (K := K) (V' := V') hgr hU' ht (by rw [← hV]; exact hlt)
      rw [← hV] at hd
      obtain ⟨k, hk⟩ : ∃ k, g.toNat = k + 1 := ⟨g.toNat - 1, by omega⟩
      have hgr2 : h = (g - 1).toNat * v1.toNat + (r + v1.toUInt64).toNat := by
        rw [hgs, hrs, hgr, hk, Nat.add_sub_cancel, Nat.add_mul]; omega
      have hub2 : (h * 4294967296 + u2.toNat) * K + U' < ((g - 1).toNat + 1) * val v := by
        rw [hgs, hk, Nat.add_sub_cancel, ← hk]; exact hd
      unfold F.nat_estimate_K2 at hL
      rw [if_pos rfl, w1, getO_D (show v.length - 1 < v.length by omega) 0, kh, hv1'] at hL
      by_cases hb : 4294967296 ≤ (r + v1.toUInt64).toNat
      · rw [if_pos (decide_eq_true (by rw [UInt64.le_iff_toNat_le]; exact hb))] at hL
        have hgl : (g - 1).toNat < 4294967296 := by
          have : (g - 1).toNat * v1.toNat < 4294967296 * v1.toNat := by omega
          exact Nat.lt_of_mul_lt_mul_right this
        exact ⟨g - 1, loop_oinr' hL, by omega, hub2⟩
      · rw [if_neg (by simp only [decide_eq_true_eq, UInt64.le_iff_toNat_le]; exact hb)] at hL
        obtain ⟨g', q1, q2⟩ := ih (g - 1).toNat (by omega) (g - 1) (r + v1.toUInt64) rfl hgr2 (by omega) hub2
        exact ⟨g', (loop_inl hL).trans q1, q2⟩
    by_cases hg : 4294967296 ≤ g.toNat
    · refine down ?_ (.inl hg)
      unfold F.nat_estimate_L1
      dsimp only
      rw [if_pos (decide_eq_true (by rw [UInt64.le_iff_toNat_le]; exact hg))]
    · have e1 : ((shl64 r 32) ||| u2.toUInt64).toNat = 4294967296 * r.toNat + u2.toNat := or32 _ _ hr
      have hp := Nat.mul_le_mul (show g.toNat ≤ 4294967295 by omega) (show v2.toNat ≤ 4294967295 by omega)
      have e2 : (g * v2.toUInt64).toNat = g.toNat * v2.toNat := by rw [mul64 _ _ (by rw [up32]; omega), up32]
      have hL : F.nat_estimate_L1 a v (g, r) = F.nat_estimate_K2 v g r (decide (((shl64 r 32) ||| u2.toUInt64) < (g * v2.toUInt64))) := by
        unfold F.nat_estimate_L1
        dsimp only
        rw [if_neg (by simp only [decide_eq_true_eq, UInt64.le_iff_toNat_le]; exact hg), w2, getO_D (show v.length - 2 < v.length by omega) 0, kh, getO_D (show v.length - 2 < a.length by omega) 0, kh, hv2', hu2]
      by_cases ht : r.toNat * 4294967296 + u2.toNat < g.toNat * v2.toNat
      · rw [show decide (((shl64 r 32) ||| u2.toUInt64) < (g * v2.toUInt64)) = true from decide_eq_true (by rw [UInt64.lt_iff_toNat_lt, e1, e2]; omega)] at hL
        exact down hL (.inr ht)
      · rw [show decide (((shl64 r 32) ||| u2.toUInt64) < (g * v2.toUInt64)) = false from decide_eq_false (by rw [UInt64.lt_iff_toNat_lt, e1, e2]; omega)] at hL
        unfold F.nat_estimate_K2 at hL
        rw [if_neg (by decide)] at hL
        exact ⟨g, loop_oinr' hL, by omega, hub⟩
theorem estimate_eq (v a : List UInt32) (hn : 2 ≤ v.length) (ha : a.length = v.length + 1) (hs : v.length ≤ 70368744177664) (htop : 2147483648 ≤ (v.getD (v.length - 1) 0).toNat) (hlt : val a < 4294967296 * val v) :
    ∃ g : UInt64, F.nat_estimate a v = some g ∧ g.toNat ≤ 4294967295 ∧ val a < (g.toNat + 1) * val v := by
  obtain ⟨v1, hv1⟩ : ∃ v1, v.getD (v.length - 1) 0 = v1 := ⟨_, rfl⟩
  obtain ⟨v2, hv2⟩ : ∃ v2, v.getD (v.length - 2) 0 = v2 := ⟨_, rfl⟩
  obtain ⟨u0, hu0⟩ : ∃ u0, a.getD (v.length) 0 = u0 := ⟨_, rfl⟩
  obtain ⟨u1, hu1⟩ : ∃ u1, a.getD (v.length - 1) 0 = u1 := ⟨_, rfl⟩
  obtain ⟨u2, hu2⟩ : ∃ u2, a.getD (v.length - 2) 0 = u2 := ⟨_, rfl⟩
  rw [hv1] at htop
  have x1 := w_lt v1; have x2 := w_lt v2; have y0 := w_lt u0; have y1 := w_lt u1; have y2 := w_lt u2
  have eV : val v = (v1.toNat * 4294967296 + v2.toNat) * 4294967296 ^ (v.length - 2) + val (v.take (v.length - 2)) := by
    have := val_take_drop v (v.length - 2) (by omega)
    rw [val_drop, show v.length - 2 + 1 = v.length - 1 by omega, val_drop, show v.length - 1 + 1 = v.length by omega, List.drop_length, val_nil, hv1, hv2] at this
    rw [this, Nat.mul_zero, Nat.add_zero, Nat.mul_comm (4294967296 ^ _), Nat.add_comm v2.toNat, Nat.mul_comm 4294967296 v1.toNat]
    omega
  have hV' : val (v.take (v.length - 2)) < 4294967296 ^ (v.length - 2) := by
    have := val_lt (v.take (v.length - 2))
    rwa [List.length_take, Nat.min_eq_left (by omega)] at this
  obtain ⟨K, hK⟩ : ∃ K, 4294967296 ^ (v.length - 2) = K := ⟨_, rfl⟩
  obtain ⟨U', hU'⟩ : ∃ U', val (a.take (v.length - 2)) = U' := ⟨_, rfl⟩
  have hU'K : U' < K := by
    have := val_lt (a.take (v.length - 2))
    rw [List.length_take, Nat.min_eq_left (by omega)] at this
    rw [← hU', ← hK]; exact this
  obtain ⟨h, hh⟩ : ∃ h, u0.toNat * 4294967296 + u1.toNat = h := ⟨_, rfl⟩
  have eU : val a = (h * 4294967296 + u2.toNat) * K + U' := by
    have h1 := val_take_drop a (v.length - 2) (by omega)
    rw [val_drop a (v.length - 2), show v.length - 2 + 1 = v.length - 1 by omega, val_drop a (v.length - 1), show v.length - 1 + 1 = v.length by omega, val_drop a v.length, List.drop_of_length_le (l := a) (i := v.length + 1) (by omega), val_nil, hU', hK, hu0, hu1, hu2] at h1
    rw [h1, ← hh, Nat.mul_zero, Nat.add_zero, Nat.mul_comm K]
    have : u2.toNat + 4294967296 * (u1.toNat + 4294967296 * u0.toNat) = (u0.toNat * 4294967296 + u1.toNat) * 4294967296 + u2.toNat := by omega
    rw [this]; omega
  rw [hK] at eV hV'
  have hUlt : (h * 4294967296 + u2.toNat) * K + U' < 4294967296 * val v := by rw [← eU]; exact hlt
  have hu0v : u0.toNat ≤ v1.toNat := by
    rcases Nat.lt_or_ge v1.toNat u0.toNat with h1 | h1
    · exfalso
      have a1 : (v1.toNat * 4294967296 + v2.toNat + 1) * K ≤ (u0.toNat * 4294967296) * K := Nat.mul_le_mul_right _ (by omega)
      have a2 : val v < (v1.toNat * 4294967296 + v2.toNat + 1) * K := by rw [eV, Nat.add_mul (v1.toNat * 4294967296 + v2.toNat) 1 K, Nat.one_mul]; exact Nat.add_lt_add_left hV' _
      have a4 := Nat.mul_le_mul_right K (show 4294967296 * (u0.toNat * 4294967296) ≤ h * 4294967296 + u2.toNat by omega)
      rw [Nat.mul_assoc 4294967296] at a4
      omega
    · exact h1
  have hne : ¬ v1.toUInt64 = 0 := by
    intro h0
    have := congrArg UInt64.toNat h0
    rw [up32] at this
    simp at this
    omega
  obtain ⟨H, hH⟩ : ∃ H, (shl64 u0.toUInt64 32) ||| u1.toUInt64 = H := ⟨_, rfl⟩
  have hHn : H.toNat = h := by rw [← hH, or32n, ← hh]; omega
  have hdv : (H / v1.toUInt64).toNat = h / v1.toNat := by rw [UInt64.toNat_div, up32, hHn]
  have hmd : (H % v1.toUInt64).toNat = h % v1.toNat := by rw [UInt64.toNat_mod, up32, hHn]
  have hdm := Nat.div_add_mod h v1.toNat
  have hml := Nat.mod_lt h (show 0 < v1.toNat by omega)
  obtain ⟨g, hg, g1, g2⟩ := nest_loop v a v1 v2 u2 h K U' (val (v.take (v.length - 2))) hn (by omega) hs hv1 hv2 hu2 eV hU'K hV' (by omega) hUlt (by omega) _ (H / v1.toUInt64) (H % v1.toUInt64) rfl
    (by rw [hdv, hmd, Nat.mul_comm]; omega) (by rw [hmd]; omega) (by
      rw [hdv]
      have a1 : h + 1 ≤ (h / v1.toNat + 1) * v1.toNat := by rw [Nat.add_mul, Nat.mul_comm (h / v1.toNat)]; omega
      have a2 : (h + 1) * (4294967296 * K) ≤ (h / v1.toNat + 1) * v1.toNat * (4294967296 * K) := Nat.mul_le_mul_right _ a1
      have a3 : (h / v1.toNat + 1) * (v1.toNat * (4294967296 * K)) ≤ (h / v1.toNat + 1) * val v := by
        refine Nat.mul_le_mul_left _ ?_
        rw [eV, Nat.add_mul, Nat.mul_assoc]; omega
      have a4 : (h * 4294967296 + u2.toNat + 1) * K ≤ (h + 1) * (4294967296 * K) := by
        rw [← Nat.mul_assoc]; exact Nat.mul_le_mul_right _ (by omega)
      rw [Nat.add_mul (h * 4294967296 + u2.toNat) 1 K, Nat.one_mul] at a4
      rw [Nat.mul_assoc] at a2
      omega)
  refine ⟨g, ?_, g1, by rw [eU]; exact g2⟩
  have w1 : wI ((v.length : Int) - 1) = ((v.length - 1 : Nat) : Int) := by rw [wI_in (by omega) (by omega)]; omega
  unfold F.nat_estimate
  rw [getO_D (show v.length < a.length by omega) 0, kh, w1, getO_D (show v.length - 1 < a.length by omega) 0, kh, olet_eq, hu0, hu1, hH, getO_D (show v.length - 1 < v.length by omega) 0, kh, hv1, grd_true _ hne, kh, grd_true _ hne, hg]
def PtI (g : UInt64) (v p : List UInt32) (i : Nat) (s : UInt64 × List UInt32) : Prop :=
  s.2.length = p.length ∧ s.1.toNat ≤ 4294967295 ∧ val (s.2.take i) + 4294967296 ^ i * s.1.toNat = g.toNat * val (v.take i)
theorem part_eq (v u q p : List UInt32) (j : Int) (g : UInt64) (hg : g.toNat ≤ 4294967295) (hp : p.length = v.length + 1) (hv : v.length ≤ 4611686018427387900) :
    ∃ p' : List UInt32, p'.length = v.length + 1 ∧ val p' = g.toNat * val v ∧ loop (F.nat_long_L3 v j u q g) (0, 0, p) =
      obind (slO u j (wI ((wI (j + (v.length : Int))) + 1) : Int)) fun x_44 => obind (F.nat_below x_44 p') fun x_45 =>
        if (!x_45) = true then (oinr (obind (slO u j (wI ((wI (j + (v.length : Int))) + 1) : Int)) fun x_46 => obind (F.nat_take u j.toNat ((wI ((wI (j + (v.length : Int))) + 1) : Int).toNat) p') fun x_47 =>
          obind (getO q j) fun x_48 => olet (q.set j.toNat g.toUInt32) fun x_49 => oinl (wI (j - 1), x_47.2, x_49, p'))) else oinl (g - 1, p') := by
  have key : ∀ (k i : Nat) (s : UInt64 × List UInt32), i + k = v.length → PtI g v p i s → ∃ p' : List UInt32, p'.length = v.length + 1 ∧ val p' = g.toNat * val v ∧ loop (F.nat_long_L3 v j u q g) (s.1, (i : Int), s.2) =
      obind (slO u j (wI ((wI (j + (v.length : Int))) + 1) : Int)) fun x_44 => obind (F.nat_below x_44 p') fun x_45 =>
        if (!x_45) = true then (oinr (obind (slO u j (wI ((wI (j + (v.length : Int))) + 1) : Int)) fun x_46 => obind (F.nat_take u j.toNat ((wI ((wI (j + (v.length : Int))) + 1) : Int).toNat) p') fun x_47 =>
          obind (getO q j) fun x_48 => olet (q.set j.toNat g.toUInt32) fun x_49 => oinl (wI (j - 1), x_47.2, x_49, p'))) else oinl (g - 1, p') := by
    intro k
    induction k with
    | zero =>
      intro i s hi hs
      obtain ⟨g1, g2, g3⟩ := hs
      have : i = v.length := by omega
      subst this
      refine ⟨s.2.set v.length s.1.toUInt32, by simp; omega, ?_, loop_oinr' ?_⟩
      · have e0 : (s.2.set v.length s.1.toUInt32) = (s.2.set v.length s.1.toUInt32).take (v.length + 1) := by rw [List.take_of_length_le (by simp; omega)]
        have e2 : (s.2.set v.length s.1.toUInt32).getD v.length 0 = s.1.toUInt32 := by
          rw [List.getD_eq_getElem?_getD, List.getElem?_set_self (by omega)]; rfl
        rw [e0, val_take_succ, e2, List.take_set_of_le (by omega), lo32, Nat.mod_eq_of_lt (by omega), g3, List.take_of_length_le (Nat.le_refl _)]
      · unfold F.nat_long_L3
        dsimp only
        rw [if_neg (by rw [decide_eq_true_eq]; omega), getO_D (show v.length < s.2.length by omega) 0, kh, olet_eq, Int.toNat_natCast]
    | succ k ih =>
      intro i s hi hs
      obtain ⟨g1, g2, g3⟩ := hs
      have w2 : wI ((i : Int) + 1) = ((i + 1 : Nat) : Int) := by rw [wI_in (by omega) (by omega)]; rfl
      obtain ⟨t, ht⟩ : ∃ t, s.1 + (g * (v.getD i 0).toUInt64) = t := ⟨_, rfl⟩
      have hst : F.nat_long_L3 v j u q g (s.1, (i : Int), s.2) = some (.inl (shr64 t 32, ((i + 1 : Nat) : Int), s.2.set i t.toUInt32)) := by
        unfold F.nat_long_L3
        dsimp only
        rw [if_pos (decide_eq_true (by omega)), getO_D (show i < v.length by omega) 0, kh, olet_eq, ht, getO_D (show i < s.2.length by omega) 0, kh, olet_eq, w2, Int.toNat_natCast]; rfl
      rw [loop_inl hst]
      have x2 := w_lt (v.getD i 0)
      have hpp := Nat.mul_le_mul hg (show (v.getD i 0).toNat ≤ 4294967295 by omega)
      have m1 : (g * (v.getD i 0).toUInt64).toNat = g.toNat * (v.getD i 0).toNat := by rw [mul64 _ _ (by rw [up32]; omega), up32]
      have m3 : t.toNat = s.1.toNat + g.toNat * (v.getD i 0).toNat := by rw [← ht, add64 _ _ (by rw [m1]; omega), m1]
      have c1 : (shr64 t 32).toNat = t.toNat / 4294967296 := by rw [shr64_toNat]; rfl
      refine ih (i + 1) (shr64 t 32, s.2.set i t.toUInt32) (by omega) ⟨by simpa using g1, by show (shr64 t 32).toNat ≤ _; rw [c1]; omega, ?_⟩
      show val ((s.2.set i t.toUInt32).take (i + 1)) + _ * (shr64 t 32).toNat = _
      have e2 : (s.2.set i t.toUInt32).getD i 0 = t.toUInt32 := by
        rw [List.getD_eq_getElem?_getD, List.getElem?_set_self (by omega)]; rfl
      rw [val_take_succ, e2, List.take_set_of_le (by omega), lo32, val_take_succ v i, Nat.mul_add, ← g3, c1, Nat.pow_succ]
      obtain ⟨Pw, hP⟩ : ∃ Pw, (4294967296 : Nat) ^ i = Pw := ⟨_, rfl⟩
      rw [hP]
      have hd := Nat.div_add_mod t.toNat 4294967296
      have e3 : Pw * (t.toNat % 4294967296) + Pw * 4294967296 * (t.toNat / 4294967296) = Pw * t.toNat := by
        rw [Nat.mul_assoc, ← Nat.mul_add, Nat.add_comm, hd]
      have e4 : Pw * t.toNat = Pw * s.1.toNat + Pw * (g.toNat * (v.getD i 0).toNat) := by rw [m3, Nat.mul_add]
      have e5 : g.toNat * (Pw * (v.getD i 0).toNat) = Pw * (g.toNat * (v.getD i 0).toNat) := by rw [Nat.mul_left_comm]
      rw [e5]
      omega
  exact key v.length 0 (0, p) (by omega) ⟨rfl, Nat.zero_le _, by simp [val]⟩
theorem digit_loop (v u q : List UInt32) (j : Nat) (hj : j + v.length < u.length) (hq : j < q.length) (hul : u.length ≤ 4611686018427387900) (hql : q.length ≤ 4611686018427387900) (hvp : 0 < val v) (hu : val u < 4294967296 ^ (j + 1) * val v) :
    ∀ (m : Nat) (g : UInt64) (p : List UInt32), g.toNat = val u / 4294967296 ^ j / val v + m → g.toNat ≤ 4294967295 → p.length = v.length + 1 →
      ∃ (d : UInt64) (u' p' : List UInt32), loop (F.nat_long_L2 v (j : Int) u q) (g, p) = some (.inl ((j : Int) - 1, u', q.set j d.toUInt32, p')) ∧ p'.length = v.length + 1 ∧ u'.length = u.length ∧ d.toNat ≤ 4294967295 ∧
        val u' + 4294967296 ^ j * (d.toNat * val v) = val u ∧ val u' < 4294967296 ^ j * val v := by
  have hvl := val_lt v
  have hu3 : val u < 4294967296 ^ (j + v.length + 1) := by
    have := Nat.mul_lt_mul_of_pos_left hvl (Nat.pow_pos (n := j + 1) (show 0 < 4294967296 by decide))
    rw [← Nat.pow_add, show j + 1 + v.length = j + v.length + 1 by omega] at this
    omega
  have wj : wI ((wI ((j : Int) + (v.length : Int))) + 1) = ((j + v.length + 1 : Nat) : Int) := by
    rw [wI_in (x := (j : Int) + (v.length : Int)) (by omega) (by omega), wI_in (by omega) (by omega)]; omega
  have wk : wI ((j : Int) - 1) = (j : Int) - 1 := wI_in (by omega) (by omega)
  have hsl : slO u (j : Int) ((j + v.length + 1 : Nat) : Int) = some ((u.drop j).take (j + v.length + 1 - j)) := slO_ok (by omega) (by omega)
  have hml : ((u.drop j).take (j + v.length + 1 - j)).length = v.length + 1 := by rw [List.length_take, List.length_drop]; omega
  have hmv : val ((u.drop j).take (j + v.length + 1 - j)) = val u / 4294967296 ^ j := by
    rw [val_div]
    have := val_take_drop (u.drop j) (v.length + 1) (by rw [List.length_drop]; omega)
    rw [List.drop_drop, show j + (v.length + 1) = j + v.length + 1 by omega, drop_zero_of hu3, Nat.mul_zero, Nat.add_zero] at this
    rw [show j + v.length + 1 - j = v.length + 1 by omega, this]
  obtain ⟨M, hM⟩ : ∃ M, val u / 4294967296 ^ j = M := ⟨_, rfl⟩
  have hpos := Nat.pow_pos (n := j) (show 0 < 4294967296 by decide)
  intro m
  induction m with
  | zero =>
    intro g p hgm hg hp
    rw [Nat.add_zero, hM] at hgm
    obtain ⟨p', p1, p2, p3⟩ := part_eq v u q p (j : Int) g hg hp (by omega)
    have hle : g.toNat * val v ≤ M := by rw [hgm]; exact Nat.div_mul_le_self _ _
    have hlow := Nat.div_mul_le_self (val u) (4294967296 ^ j)
    rw [hM, Nat.mul_comm] at hlow
    have hup := Nat.lt_div_mul_add hpos (a := val u)
    rw [hM, Nat.mul_comm] at hup
    obtain ⟨c, u', t1, t2, t3⟩ := take_leN u p' j (j + v.length + 1) (by omega) (by omega) (by omega) (by omega) hu3 (by rw [p2]; exact Nat.le_trans (Nat.mul_le_mul_left _ hle) hlow)
    refine ⟨g, u', p', ?_, p1, t2, hg, by rw [← p2]; exact t3, ?_⟩
    · refine loop_oinr' ?_
      unfold F.nat_long_L2
      dsimp only
      rw [p3, wj, hsl, kh, below_eqN _ _ (by omega) (by omega), kh, hmv, hM, p2, decide_eq_false (by omega), if_pos (by rfl), kh, Int.toNat_natCast, Int.toNat_natCast, t1, kh, getO_D hq 0, kh, olet_eq, wk]
      rfl
    · have h1 : M < (g.toNat + 1) * val v := by
        rw [hgm]
        have := Nat.lt_div_mul_add hvp (a := M)
        rw [Nat.add_mul, Nat.one_mul]; exact this
      rw [Nat.add_mul, Nat.one_mul] at h1
      have h2 := Nat.mul_le_mul_left (4294967296 ^ j) (show M + 1 ≤ g.toNat * val v + val v by omega)
      rw [Nat.mul_add, Nat.mul_one, Nat.mul_add] at h2
      rw [p2] at t3
      omega
  | succ m ih =>
    intro g p hgm hg hp
    rw [hM] at hgm
    obtain ⟨p', p1, p2, p3⟩ := part_eq v u q p (j : Int) g hg hp (by omega)
    have hlt : M < g.toNat * val v := by
      rcases Nat.lt_or_ge M (g.toNat * val v) with h | h
      · exact h
      · have := (Nat.le_div_iff_mul_le hvp).2 h
        omega
    have hg1 : 1 ≤ g.toNat := by
      rcases Nat.eq_zero_or_pos g.toNat with h | h
      · rw [h, Nat.zero_mul] at hlt; omega
      · exact h
    have hgs : (g - 1).toNat = g.toNat - 1 := by
      rw [UInt64.toNat_sub_of_le _ _ (by rw [UInt64.le_iff_toNat_le]; exact hg1)]; rfl
    have hst : F.nat_long_L2 v (j : Int) u q (g, p) = some (.inl (g - 1, p')) := by
      unfold F.nat_long_L2
      dsimp only
      rw [p3, wj, hsl, kh, below_eqN _ _ (by omega) (by omega), kh, hmv, hM, p2, decide_eq_true hlt, if_neg (by decide)]
      rfl
    rw [loop_inl hst]
    exact ih (g - 1) p' (by rw [hgs, hM]; omega) (by omega) p1
theorem long_round (s : Int) (v u q p : List UInt32) (j : Nat) (hn : 2 ≤ v.length) (htop : 2147483648 ≤ (v.getD (v.length - 1) 0).toNat) (hj : j + v.length < u.length) (hq : j < q.length) (hul : u.length ≤ 70368744177664) (hql : q.length ≤ 70368744177664) (hp : p.length = v.length + 1) (hvp : 0 < val v) (hu : val u < 4294967296 ^ (j + 1) * val v) :
    ∃ (d : UInt64) (u' p' : List UInt32), F.nat_long_L1 s v ((j : Int), u, q, p) = some (.inl ((j : Int) - 1, u', q.set j d.toUInt32, p')) ∧ p'.length = v.length + 1 ∧ u'.length = u.length ∧ d.toNat ≤ 4294967295 ∧
        val u' + 4294967296 ^ j * (d.toNat * val v) = val u ∧ val u' < 4294967296 ^ j * val v := by
  have hvl := val_lt v
  have hu3 : val u < 4294967296 ^ (j + v.length + 1) := by
    have := Nat.mul_lt_mul_of_pos_left hvl (Nat.pow_pos (n := j + 1) (show 0 < 4294967296 by decide))
    rw [← Nat.pow_add, show j + 1 + v.length = j + v.length + 1 by omega] at this
    omega
  have wj : wI ((wI ((j : Int) + (v.length : Int))) + 1) = ((j + v.length + 1 : Nat) : Int) := by
    rw [wI_in (x := (j : Int) + (v.length : Int)) (by omega) (by omega), wI_in (by omega) (by omega)]; omega
  have hsl : slO u (j : Int) ((j + v.length + 1 : Nat) : Int) = some ((u.drop j).take (j + v.length + 1 - j)) := slO_ok (by omega) (by omega)
  have hml : ((u.drop j).take (j + v.length + 1 - j)).length = v.length + 1 := by rw [List.length_take, List.length_drop]; omega
  have hmv : val ((u.drop j).take (j + v.length + 1 - j)) = val u / 4294967296 ^ j := by
    rw [val_div]
    have := val_take_drop (u.drop j) (v.length + 1) (by rw [List.length_drop]; omega)
    rw [List.drop_drop, show j + (v.length + 1) = j + v.length + 1 by omega, drop_zero_of hu3, Nat.mul_zero, Nat.add_zero] at this
    rw [show j + v.length + 1 - j = v.length + 1 by omega, this]
  have hpos := Nat.pow_pos (n := j) (show 0 < 4294967296 by decide)
  have hMlt : val u / 4294967296 ^ j < 4294967296 * val v := by
    rw [Nat.div_lt_iff_lt_mul hpos, Nat.mul_comm]
    rw [Nat.pow_succ, Nat.mul_assoc] at hu
    exact hu
  obtain ⟨g, g1, g2, g3⟩ := estimate_eq v _ hn hml (by omega) htop (by rw [hmv]; exact hMlt)
  rw [hmv] at g3
  have hge : val u / 4294967296 ^ j / val v ≤ g.toNat := by
    have := (Nat.div_lt_iff_lt_mul hvp).2 g3
    omega
  obtain ⟨d, u', p', r1, r2⟩ := digit_loop v u q j hj hq (by omega) (by omega) hvp hu (g.toNat - val u / 4294967296 ^ j / val v) g p (by omega) g2 hp
  refine ⟨d, u', p', ?_, r2⟩
  unfold F.nat_long_L1
  dsimp only
  rw [if_pos (decide_eq_true (by omega)), wj, hsl, kh, g1, kh, r1]
theorem long_loop (s : Nat) (v : List UInt32) (A : Nat) (hn : 2 ≤ v.length) (htop : 2147483648 ≤ (v.getD (v.length - 1) 0).toNat) (hs : s < 32) (hvp : 0 < val v) :
    ∀ (k : Nat) (u q p : List UInt32), k + v.length ≤ u.length → k ≤ q.length → u.length ≤ 70368744177664 → q.length ≤ 70368744177664 → p.length = v.length + 1 → (∀ i, i < k → q.getD i 0 = 0) → val q * val v + val u = A → val u < 4294967296 ^ k * val v →
      ∃ q' u' : List UInt32, loop (F.nat_long_L1 (s : Int) v) ((k : Int) - 1, u, q, p) = some (q', (u', v.length)) ∧ q'.length = q.length ∧ u'.length = u.length ∧ val q' = A / val v ∧ val u' = A % val v / 2 ^ s := by
  intro k
  induction k with
  | zero =>
    intro u q p h1 h2 h3 h4 hp h5 h6 h7
    rw [Nat.pow_zero, Nat.one_mul] at h7
    have eq : A / val v = val q := by rw [← h6, Nat.add_comm, Nat.add_mul_div_right _ _ hvp, Nat.div_eq_of_lt h7, Nat.zero_add]
    have er : A % val v = val u := by rw [← h6, Nat.add_comm, Nat.add_mul_mod_self_right, Nat.mod_eq_of_lt h7]
    obtain ⟨u', d1, d2, d3⟩ := down_eqN u s hs (by omega)
    refine ⟨q, u', loop_oinr' ?_, rfl, d2, eq.symm, by rw [er]; exact d3⟩
    unfold F.nat_long_L1
    dsimp only
    rw [if_neg (by decide), d1, kh, Int.toNat_natCast, grd_true _ ⟨by omega, by omega⟩]
  | succ k ih =>
    intro u q p h1 h2 h3 h4 hp h5 h6 h7
    have e1 : (((k + 1 : Nat) : Int)) - 1 = (k : Int) := by omega
    obtain ⟨d, u', p', r1, rp, r2, r5, r3, r4⟩ := long_round (s : Int) v u q p k hn htop (by omega) (by omega) h3 h4 hp hvp h7
    rw [e1, loop_inl r1]
    obtain ⟨q', u'', z1, z2, z3, z4⟩ := ih u' (q.set k d.toUInt32) p' (by omega) (by simp; omega) (by omega) (by simpa using h4) rp (fun i hi => by rw [getD_set (by omega)]; exact h5 i (by omega)) (by
      have hv := val_set q k d.toUInt32 (by omega)
      rw [h5 k (by omega)] at hv
      have z0 : (0 : UInt32).toNat = 0 := rfl
      rw [z0, Nat.mul_zero, Nat.add_zero] at hv
      rw [hv, lo32, Nat.mod_eq_of_lt (by omega), Nat.add_mul, Nat.mul_assoc, ← h6]
      omega) r4
    exact ⟨q', u'', z1, by simpa using z2, by omega, z4⟩
theorem getD_rep (n k : Nat) : (List.replicate n (0 : UInt32)).getD k 0 = 0 := by
  rw [List.getD_eq_getElem?_getD]
  by_cases hk : k < n <;> simp [hk]
theorem nLong_eq (x y : List UInt32) (hy : 2 ≤ y.length) (htop : y.getD (y.length - 1) 0 ≠ 0) (hxy : y.length ≤ x.length) (hx : x.length ≤ 50000000000000) :
    ∃ q u : List UInt32, F.nat_long x y = some (q, (u, y.length)) ∧ q.length ≤ x.length + 1 ∧ u.length = x.length + 1 ∧ val q = val x / val y ∧ val u = val x % val y := by
  obtain ⟨tp, htp⟩ : ∃ tp, y.getD (y.length - 1) 0 = tp := ⟨_, rfl⟩
  rw [htp] at htop
  have ht0 : tp.toNat ≠ 0 := fun h => htop (UInt32.toNat_inj.1 h)
  obtain ⟨b1, b2⟩ := nb_bounds tp.toNat
  obtain ⟨b2, b3⟩ := b2 ht0
  have b4 : nb tp.toNat ≤ 32 := nb_le (w_lt tp)
  obtain ⟨s, hs⟩ : ∃ s, s = 32 - nb tp.toNat := ⟨_, rfl⟩
  have hs32 : s < 32 := by omega
  have hlz : F.math_bits_LeadingZeros32 tp = some (s : Int) := by
    unfold F.math_bits_LeadingZeros32
    rw [Len32_eq, kh, wI_in (by omega) (by omega)]; congr 1; omega
  have ey : val y = val (y.take (y.length - 1)) + 4294967296 ^ (y.length - 1) * tp.toNat := by
    have := val_take_succ y (y.length - 1)
    rw [show y.length - 1 + 1 = y.length by omega, List.take_of_length_le (Nat.le_refl _), htp] at this
    exact this
  have hyl : val (y.take (y.length - 1)) < 4294967296 ^ (y.length - 1) := by
    have := val_lt (y.take (y.length - 1))
    rwa [List.length_take, Nat.min_eq_left (by omega)] at this
  obtain ⟨Q, hQ⟩ : ∃ Q, (4294967296 : Nat) ^ (y.length - 1) = Q := ⟨_, rfl⟩
  have hQy : (4294967296 : Nat) ^ y.length = 4294967296 * Q := by
    have e : (4294967296 : Nat) ^ (y.length - 1 + 1) = 4294967296 ^ (y.length - 1) * 4294967296 := Nat.pow_succ _ _
    rw [show y.length - 1 + 1 = y.length by omega, hQ, Nat.mul_comm] at e
    exact e
  rw [hQ] at ey hyl
  have hp2 : 2 ^ s * (tp.toNat + 1) ≤ 4294967296 := by
    have h1 : 2 ^ s * (tp.toNat + 1) ≤ 2 ^ s * 2 ^ nb tp.toNat := Nat.mul_le_mul_left _ b1
    rw [← Nat.pow_add, show s + nb tp.toNat = 32 by omega] at h1
    exact h1
  have hp3 : 2147483648 ≤ 2 ^ s * tp.toNat := by
    have h1 : 2 ^ s * 2 ^ (nb tp.toNat - 1) ≤ 2 ^ s * tp.toNat := Nat.mul_le_mul_left _ b2
    rw [← Nat.pow_add, show s + (nb tp.toNat - 1) = 31 by omega] at h1
    exact h1
  have hyu : 2 ^ s * val y < 4294967296 ^ y.length := by
    have h1 : val y < (tp.toNat + 1) * Q := by rw [ey, Nat.add_mul, Nat.one_mul, Nat.mul_comm Q]; omega
    have h2 : 2 ^ s * val y < 2 ^ s * ((tp.toNat + 1) * Q) := Nat.mul_lt_mul_of_pos_left h1 (Nat.two_pow_pos s)
    rw [← Nat.mul_assoc] at h2
    have h3 := Nat.mul_le_mul_right Q hp2
    rw [hQy]; omega
  have hyv : 2147483648 * Q ≤ 2 ^ s * val y := by
    have h1 := Nat.mul_le_mul_right Q hp3
    have h2 : 2 ^ s * tp.toNat * Q ≤ 2 ^ s * val y := by
      rw [Nat.mul_assoc]; refine Nat.mul_le_mul_left _ ?_; rw [ey, Nat.mul_comm]; omega
    omega
  have hQp : 0 < Q := by rw [← hQ]; exact Nat.pow_pos (by decide)
  obtain ⟨v, v1, v2, v3⟩ := up_all (List.replicate y.length 0) y s hs32 (by simp; omega) (by simp) (by rw [List.length_replicate]; exact hyu)
  have hx2 : 2 ^ s * val x < 4294967296 ^ (x.length + 1) := by
    have h1 := val_lt x
    have h2 : 2 ^ s ≤ 4294967296 := Nat.le_of_lt (Nat.pow_lt_pow_right (a := 2) (m := s) (n := 32) (by decide) hs32)
    have h3 := Nat.mul_le_mul_right (val x) h2
    rw [Nat.pow_succ]; omega
  obtain ⟨u, u1, u2, u3⟩ := up_all (List.replicate (x.length + 1) 0) x s hs32 (by simp; omega) (by simp) (by rw [List.length_replicate]; exact hx2)
  rw [List.length_replicate] at v2 u2
  have hvtop : 2147483648 ≤ (v.getD (v.length - 1) 0).toNat := by
    have e := val_take_succ v (v.length - 1)
    rw [show v.length - 1 + 1 = v.length by omega, List.take_of_length_le (Nat.le_refl _), v3] at e
    have hl := val_lt (v.take (v.length - 1))
    rw [List.length_take, Nat.min_eq_left (by omega), show v.length - 1 = y.length - 1 by omega, hQ] at hl
    rw [show v.length - 1 = y.length - 1 by omega, hQ] at e
    rw [show v.length - 1 = y.length - 1 by omega]
    rcases Nat.lt_or_ge (v.getD (y.length - 1) 0).toNat 2147483648 with h | h
    · have := Nat.mul_le_mul_left Q (show (v.getD (y.length - 1) 0).toNat ≤ 2147483647 by omega)
      omega
    · exact h
  have hvp : 0 < val v := by rw [v3]; omega
  have hk : val u < 4294967296 ^ (x.length - y.length + 1) * val v := by
    rw [u3, v3, Nat.mul_left_comm]
    refine Nat.mul_lt_mul_of_pos_left ?_ (Nat.two_pow_pos s)
    have h1 := val_lt x
    have h2 : Q ≤ val y := by rw [ey]; have := Nat.le_mul_of_pos_right Q (show 0 < tp.toNat by omega); omega
    have h3 := Nat.mul_le_mul_left (4294967296 ^ (x.length - y.length + 1)) h2
    rw [← hQ, ← Nat.pow_add, show x.length - y.length + 1 + (y.length - 1) = x.length by omega] at h3
    omega
  obtain ⟨q', u', l1, l2, l3, l4, l5⟩ := long_loop s v (2 ^ s * val x) (by omega) hvtop hs32 hvp (x.length - y.length + 1) u (List.replicate (x.length - y.length + 1) 0) (List.replicate (y.length + 1) 0) (by omega) (by simp) (by omega) (by simp; omega) (by simp; omega)
    (fun i _ => getD_rep _ _) (by rw [val_replicate0, u3]; omega) hk
  rw [List.length_replicate] at l2
  refine ⟨q', u', ?_, by omega, by omega, ?_, ?_⟩
  rotate_left
  · rw [l4, v3, Nat.mul_div_mul_left _ _ (Nat.two_pow_pos s)]
  · rw [l5, v3, Nat.mul_mod_mul_left, Nat.mul_div_cancel_left _ (Nat.two_pow_pos s)]
  · have w1 : wI ((y.length : Int) - 1) = ((y.length - 1 : Nat) : Int) := by rw [wI_in (by omega) (by omega)]; omega
    have w2 : wI ((x.length : Int) + 1) = ((x.length + 1 : Nat) : Int) := by rw [wI_in (by omega) (by omega)]; omega
    have w3 : wI ((wI ((x.length : Int) - (v.length : Int))) + 1) = ((x.length - y.length + 1 : Nat) : Int) := by
      rw [wI_in (x := (x.length : Int) - (v.length : Int)) (by omega) (by omega), wI_in (by omega) (by omega)]; omega
    have w4 : wI ((v.length : Int) + 1) = ((y.length + 1 : Nat) : Int) := by rw [wI_in (by omega) (by omega)]; omega
    have w5 : wI ((((x.length - y.length + 1 : Nat)) : Int) - 1) = ((x.length - y.length + 1 : Nat) : Int) - 1 := wI_in (by omega) (by omega)
    unfold F.nat_long
    rw [w1, getO_D (show y.length - 1 < y.length by omega) 0, kh, htp, hlz, kh, mkO_ok (by omega), kh, Int.toNat_natCast, v1, kh, w2, mkO_ok (by omega), kh, Int.toNat_natCast, u1, kh, w3, mkO_ok (by omega), kh,
      w4, mkO_ok (by omega), kh, Int.toNat_natCast, Int.toNat_natCast, List.length_replicate, olet_eq, w5, l1, v2]
theorem FromUint_eq (u : UInt64) : F.nat_FromUint u = some (limbs u.toNat) := by
  unfold F.nat_FromUint
  obtain ⟨m, h1, h2, h3⟩ := proper_eq [u.toUInt32, (shr64 u 32).toUInt32] (by simp)
  have hu : u.toNat < 18446744073709551616 := u.toNat_lt
  have e : val [u.toUInt32, (shr64 u 32).toUInt32] = u.toNat := by
    simp only [val_cons, val_nil, lo32, shr64_toNat]
    rw [show (2 : Nat) ^ min 32 64 = 4294967296 from rfl]
    omega
  rw [h1, kh, h3, e]
theorem limbs_top {n : Nat} (h : (limbs n).length ≠ 0) : (limbs n).getD ((limbs n).length - 1) 0 ≠ 0 := by
  intro h0
  obtain ⟨l, hl⟩ : ∃ l, limbs n = l := ⟨_, rfl⟩
  have hv : val l = n := by rw [← hl, kC]
  rw [hl] at h h0
  have e := val_take_succ l (l.length - 1)
  have z0 : (0 : UInt32).toNat = 0 := rfl
  rw [show l.length - 1 + 1 = l.length by omega, List.take_of_length_le (Nat.le_refl _), h0, z0, Nat.mul_zero, Nat.add_zero, hv] at e
  have hlt := val_lt (l.take (l.length - 1))
  rw [List.length_take, Nat.min_eq_left (by omega), ← e] at hlt
  have := limbs_len_le hlt
  rw [hl] at this
  omega
theorem limbs_nil_iffL (n : Nat) : (limbs n).length = 0 ↔ n = 0 := by
  constructor
  · intro h
    have := kC n
    rw [List.eq_nil_of_length_eq_zero h] at this
    exact this.symm
  · intro h; rw [h, limbs_zero]; rfl
theorem nDivMod_eq (a b : List UInt32) (ha : a.length ≤ 40000000000000) (hb : b.length ≤ 40000000000000) : F.nat_DivMod a b = some (if val b = 0 then ([], [], 60) else (limbs (val a / val b), limbs (val a % val b), 0)) := by
  obtain ⟨m, h1, h2, h3⟩ := value_eq a (by omega)
  obtain ⟨m', h4, h5, h6⟩ := value_eq b (by omega)
  have la : (limbs (val a)).length ≤ a.length := limbs_len_le (val_lt a)
  have lb : (limbs (val b)).length ≤ b.length := limbs_len_le (val_lt b)
  unfold F.nat_DivMod
  rw [h1, kh, h4, kh, h3, h6]
  by_cases hb0 : val b = 0
  · rw [if_pos (by rw [hb0, limbs_zero]; rfl), if_pos hb0]
  · have hbl : (limbs (val b)).length ≠ 0 := fun h => hb0 ((limbs_nil_iffL _).1 h)
    rw [if_neg (by rw [beq_iff_eq]; omega), if_neg hb0, nCmp_eq a b (by omega) (by omega), kh]
    unfold cmpN
    by_cases hl : val a < val b
    · have hap : apO 4 [] (limbs (val a)) = some (limbs (val a)) := by unfold apO; rw [if_pos (by simp; omega)]; simp
      rw [if_pos hl, if_pos (by decide), hap, kh, Nat.div_eq_of_lt hl, Nat.mod_eq_of_lt hl, limbs_zero]
    · rw [if_neg hl, if_neg (by split <;> decide)]
      have hba : (limbs (val b)).length ≤ (limbs (val a)).length := limbs_mono (by omega)
      have htop := limbs_top hbl
      by_cases h11 : (limbs (val b)).length = 1
      · have hvb : val b = ((limbs (val b)).getD 0 0).toNat := by
          have e := val_take_succ (limbs (val b)) 0
          rw [Nat.zero_add, List.take_of_length_le (by omega), kC] at e
          simpa [val] using e
        obtain ⟨q, r, s1, s2, s3, s4⟩ := nShort_eq (limbs (val a)) ((limbs (val b)).getD 0 0) (by rw [← hvb]; exact hb0) (by omega)
        rw [kC, ← hvb] at s3 s4
        obtain ⟨k, p1, p2, p3⟩ := proper_eq q (by omega)
        rw [if_pos (by rw [beq_iff_eq]; omega), show (0 : Int) = ((0 : Nat) : Int) from rfl, getO_D (show 0 < (limbs (val b)).length by omega) 0, kh, s1, kh]
        dsimp only
        rw [p1, kh, p3, FromUint_eq, kh, up32, s3, s4]
      · obtain ⟨q, u, s1, s2, s3, s4, s5⟩ := nLong_eq (limbs (val a)) (limbs (val b)) (by omega) htop hba (by omega)
        rw [kC, kC] at s4 s5
        obtain ⟨k, p1, p2, p3⟩ := proper_eq q (by omega)
        obtain ⟨k', p4, p5, p6⟩ := proper_eq (u.take (limbs (val b)).length) (by rw [List.length_take]; omega)
        have hvu : val (u.take (limbs (val b)).length) = val u := by
          have e := val_take_drop u (limbs (val b)).length (by omega)
          have hlt : val u < 4294967296 ^ (limbs (val b)).length := by
            have e1 := val_lt (limbs (val b))
            rw [kC] at e1
            rw [s5]
            exact Nat.lt_trans (Nat.mod_lt _ (by omega)) e1
          rw [drop_zero_of hlt, Nat.mul_zero, Nat.add_zero] at e
          exact e.symm
        rw [if_neg (by rw [beq_iff_eq]; omega), s1, kh]
        dsimp only
        rw [p1, kh, p4, kh, p3, p6, hvu, s4, s5]
end Go.Gk.Bn
end

section
set_option linter.unusedSimpArgs false
set_option linter.unusedVariables false
set_option linter.unusedSectionVars false
namespace Go.Gk.Bn
open Go Go.Gk Go.Gk.Sh Go.Gk.Ec Go.Gk.Pr
theorem size_eq (a : List UInt32) (ha : a.length ≤ 40000000000000) : F.modn_size a = some (((nb (val a) + 31) / 32 : Nat) : Int) := by
  have h1 : nb (val a) ≤ 32 * a.length := Nat.le_trans (nb_len _) (Nat.mul_le_mul_left 32 (limbs_len_le (val_lt a)))
  unfold F.modn_size
  rw [Bits_eq a (by omega), kh, wI_in (x := ((nb (val a) : Nat) : Int) + 31) (by omega) (by omega), Int.tdiv_eq_ediv_of_nonneg (by omega), wI_in (by omega) (by omega)]
  congr 1
def wrongT (l : List (List UInt32)) (m : List UInt32) : Int := if l.any (fun a => decide (4096 < nb (val a))) then 10 else if val m < 2 then 60 else 0
theorem wrong_eq (l : List (List UInt32)) (k : Nat) (hk : l.length = k + 1) (hkk : k ≤ 100) (hl : ∀ a ∈ l, a.length ≤ 40000000000000) : F.modn_wrong l = some (wrongT l (l.getD k [])) := by
  have key : ∀ (n i : Nat), i + n = l.length → loop (F.modn_wrong_L1 l) (i : Int) = some (wrongT (l.drop i) (l.getD k [])) := by
    intro n
    induction n with
    | zero =>
      intro i hi
      have : i = l.length := by omega
      subst this
      have w1 : wI ((l.length : Int) - 1) = (k : Int) := by rw [wI_in (by omega) (by omega)]; omega
      have hm : (l.getD k []).length ≤ 40000000000000 := by
        refine hl _ ?_
        rw [List.getD_eq_getElem?_getD, List.getElem?_eq_getElem (by omega)]
        exact List.getElem_mem _
      refine loop_oinr' ?_
      unfold F.modn_wrong_L1 wrongT
      dsimp only
      rw [if_neg (by rw [decide_eq_true_eq]; omega), w1, getO_D (show k < l.length by omega) [], kh, Bits_eq _ (by omega), kh, List.drop_length]
      rw [if_neg (show ¬ (List.any [] fun a => decide (4096 < nb (val a))) = true by simp)]
      congr 1
      by_cases h : val (l.getD k []) < 2
      · have : nb (val (l.getD k [])) ≤ 1 := nb_le (k := 1) h
        rw [if_pos h, if_pos (decide_eq_true (by omega))]
      · rw [if_neg h, if_neg]
        rw [decide_eq_true_eq]
        intro hq
        have hb := (nb_bounds (val (l.getD k []))).1
        have h2 := Nat.pow_le_pow_right (show 0 < 2 by decide) (show nb (val (l.getD k [])) ≤ 1 by omega)
        omega
    | succ n ih =>
      intro i hi
      have w1 : wI ((i : Int) + 1) = ((i + 1 : Nat) : Int) := by rw [wI_in (by omega) (by omega)]; rfl
      obtain ⟨a, ha⟩ : ∃ a, l.getD i [] = a := ⟨_, rfl⟩
      have hal : a.length ≤ 40000000000000 := by
        refine hl _ ?_
        rw [← ha, List.getD_eq_getElem?_getD, List.getElem?_eq_getElem (by omega)]
        exact List.getElem_mem _
      have hdr : l.drop i = a :: l.drop (i + 1) := by
        rw [List.drop_eq_getElem_cons (by omega)]
        congr 1
        rw [← ha, List.getD_eq_getElem?_getD, List.getElem?_eq_getElem (by omega)]; rfl
      by_cases hb : 4096 < nb (val a)
      · refine (loop_oinr' (X := some 10) ?_).trans ?_
        · unfold F.modn_wrong_L1
          dsimp only
          rw [if_pos (decide_eq_true (by omega)), getO_D (show i < l.length by omega) [], kh, ha, size_eq a hal, kh, if_pos (decide_eq_true (by omega))]
        · unfold wrongT
          rw [hdr, if_pos (by simp [hb])]
      · have hst : F.modn_wrong_L1 l (i : Int) = some (.inl ((i + 1 : Nat) : Int)) := by
          unfold F.modn_wrong_L1
          dsimp only
          rw [if_pos (decide_eq_true (by omega)), getO_D (show i < l.length by omega) [], kh, ha, size_eq a hal, kh, if_neg (by rw [decide_eq_true_eq]; omega), w1]; rfl
        rw [loop_inl hst, ih (i + 1) (by omega)]
        unfold wrongT
        rw [hdr, List.any_cons, decide_eq_false hb, Bool.false_or]
  have := key l.length 0 (by omega)
  rw [List.drop_zero] at this
  exact this
theorem wrong_ok {a b m : List UInt32} (ha : nb (val a) ≤ 4096) (hb : nb (val b) ≤ 4096) (hm : nb (val m) ≤ 4096) (h2 : 2 ≤ val m) (la : a.length ≤ 40000000000000) (lb : b.length ≤ 40000000000000) (lm : m.length ≤ 40000000000000) : F.modn_wrong [a, b, m] = some 0 := by
  rw [wrong_eq [a, b, m] 2 rfl (by decide) (by intro x hx; simp at hx; rcases hx with rfl | rfl | rfl <;> assumption)]
  unfold wrongT
  rw [if_neg (by simp; omega), if_neg (by show ¬ val m < 2; omega)]
theorem mrest_eq (a m : List UInt32) (ha : a.length ≤ 40000000000000) (hm : m.length ≤ 40000000000000) (h : val m ≠ 0) : F.modn_rest a m = some (limbs (val a % val m)) := by
  unfold F.modn_rest
  rw [nDivMod_eq a m ha hm, if_neg h, kh]
theorem minus_eq {x y m : Nat} (hx : x < m) (hy : y < m) (ml : (limbs m).length ≤ 1000) (l : List UInt32) (hl : val l = m) (hll : l.length ≤ 40000000000000) : F.modn_minus (limbs x) (limbs y) l = some (limbs ((m - y + x) % m)) := by
  have lx : (limbs x).length ≤ 1000 := Nat.le_trans (limbs_mono (by omega)) ml
  have ly : (limbs y).length ≤ 1000 := Nat.le_trans (limbs_mono (by omega)) ml
  unfold F.modn_minus F.modn_minus_K1
  rw [nSub_eq _ _ (by omega) (by omega), kh, kC, kC]
  by_cases h : x < y
  · have lxm : (limbs (x + m)).length ≤ 1001 := by
      have h1 := limbs_add x m
      have h2 := limbs_mono (show x ≤ m by omega)
      omega
    rw [if_pos h, if_pos (by rfl), nAdd_eq _ _ (by omega) hll, kh, kC, hl, nSub_eq _ _ (by omega) (by omega), kh, kC, kC, if_neg (by omega), Nat.mod_eq_of_lt (by omega), show x + m - y = m - y + x by omega]
  · rw [if_neg h, if_neg (show ¬ (!true) = true by decide), show m - y + x = (x - y) + m by omega, Nat.add_mod_right, Nat.mod_eq_of_lt (by omega)]
section
variable (c : Int)
theorem nb_fin (u : Fin (cP c)) : nb u.val ≤ 384 := by
  have := nb_nl (rl_len c u)
  exact this
theorem nb_P : nb (cP c) ≤ 384 := nb_nl (limbs12 c (Nat.le_refl _))
theorem fadd (u v : Fin (cP c)) (l l' : List UInt32) (hl : val l = u.val) (hl' : val l' = v.val) (b : l.length ≤ 35184372087808) (b' : l'.length ≤ 35184372087808) : F.law11_field_add (limbs (cP c)) l l' = some (rl (u + v)) := by
  have hP := (c_small c).2.2.2.2.2.1
  have h1 := nb_fin c u; have h2 := nb_fin c v; have h3 := nb_P c; have h4 := limbs12 c (Nat.le_refl (cP c))
  have hs : (limbs (u.val + v.val)).length ≤ 13 := by
    have := limbs_add u.val v.val
    have := rl_len c u; have := rl_len c v
    unfold rl at *
    omega
  unfold F.law11_field_add F.modn_Add
  rw [wrong_ok (by rw [hl]; omega) (by rw [hl']; omega) (by rw [kC]; omega) (by rw [kC]; omega) (by omega) (by omega) (by omega), kh, if_neg (by decide), nAdd_eq _ _ (by omega) (by omega), kh, hl, hl',
    mrest_eq _ _ (by omega) (by omega) (by rw [kC]; omega), kh, kh, kC, kC]
  rfl
theorem fmul (u v : Fin (cP c)) (l l' : List UInt32) (hl : val l = u.val) (hl' : val l' = v.val) (b : l.length ≤ 35184372087808) (b' : l'.length ≤ 35184372087808) : F.law11_field_mul (limbs (cP c)) l l' = some (rl (u * v)) := by
  have hP := (c_small c).2.2.2.2.2.1
  have h1 := nb_fin c u; have h2 := nb_fin c v; have h3 := nb_P c; have h4 := limbs12 c (Nat.le_refl (cP c))
  have hs : (limbs (u.val * v.val)).length ≤ 24 := limbs_len_le (by
    have e1 := val_lt (rl u); have e2 := val_lt (rl v)
    have e3 := Nat.pow_le_pow_right (show 0 < 4294967296 by decide) (rl_len c u)
    have e4 := Nat.pow_le_pow_right (show 0 < 4294967296 by decide) (rl_len c v)
    rw [val_rl] at e1 e2
    have := Nat.mul_lt_mul'' (show u.val < 4294967296 ^ 12 by omega) (show v.val < 4294967296 ^ 12 by omega)
    rw [← Nat.pow_add] at this
    exact this)
  unfold F.law11_field_mul F.modn_Mul
  rw [wrong_ok (by rw [hl]; omega) (by rw [hl']; omega) (by rw [kC]; omega) (by rw [kC]; omega) (by omega) (by omega) (by omega), kh, if_neg (by decide), nMul_eq _ _ (by omega) (by omega) (by have h5 := rl_len c u; have h6 := rl_len c v; rw [hl, hl']; unfold rl at h5 h6; omega), kh, hl, hl',
    mrest_eq _ _ (by omega) (by omega) (by rw [kC]; omega), kh, kh, kC, kC]
  rfl
theorem fsub (u v : Fin (cP c)) (l l' : List UInt32) (hl : val l = u.val) (hl' : val l' = v.val) (b : l.length ≤ 35184372087808) (b' : l'.length ≤ 35184372087808) : F.law11_field_sub (limbs (cP c)) l l' = some (rl (u - v)) := by
  have hP := (c_small c).2.2.2.2.2.1
  have h1 := nb_fin c u; have h2 := nb_fin c v; have h3 := nb_P c; have h4 := limbs12 c (Nat.le_refl (cP c))
  unfold F.law11_field_sub F.modn_Sub
  rw [wrong_ok (by rw [hl]; omega) (by rw [hl']; omega) (by rw [kC]; omega) (by rw [kC]; omega) (by omega) (by omega) (by omega), kh, if_neg (by decide),
    mrest_eq _ _ (by omega) (by omega) (by rw [kC]; omega), kh, mrest_eq _ _ (by omega) (by omega) (by rw [kC]; omega), kh, kC, hl, hl', Nat.mod_eq_of_lt u.isLt, Nat.mod_eq_of_lt v.isLt,
    minus_eq u.isLt v.isLt (by omega) _ (kC _) (by omega), kh, kh]
  rfl
theorem fcmp (u v : Fin (cP c)) (l l' : List UInt32) (hl : val l = u.val) (hl' : val l' = v.val) (b : l.length ≤ 35184372087808) (b' : l'.length ≤ 35184372087808) : ∃ z, F.nat_Cmp l l' = some z ∧ (z = 0 ↔ u = v) := by
  refine ⟨_, nCmp_eq l l' (by omega) (by omega), ?_⟩
  rw [hl, hl']
  unfold cmpN
  constructor
  · intro h
    apply Fin.ext
    split at h
    · exact absurd h (by decide)
    · split at h
      · assumption
      · exact absurd h (by decide)
  · intro h; rw [h, if_neg (by omega), if_pos rfl]
end
theorem cmp_same {c : Int} (u : Fin (cP c)) (l l' : List UInt32) (hl : val l = u.val) (hl' : val l' = u.val) (b : l.length ≤ 35184372087808) (b' : l'.length ≤ 35184372087808) : F.nat_Cmp l l' = some 0 := by
  rw [nCmp_eq l l' (by omega) (by omega), hl, hl', cmpN_self]
theorem line_eq (c : Int) (x1 y1 x2 y2 x3 y3 u w : Fin (cP c)) (X1 Y1 X2 Y2 X3 Y3 U W : List UInt32) (q1 q2 q3 : Bool) (h1 : val X1 = x1.val) (h2 : val Y1 = y1.val) (h3 : val X2 = x2.val) (h5 : val X3 = x3.val) (h6 : val Y3 = y3.val) (h7 : val U = u.val) (h8 : val W = w.val)
    (b1 : X1.length ≤ 35184372087808) (b2 : Y1.length ≤ 35184372087808) (b3 : X2.length ≤ 35184372087808) (b5 : X3.length ≤ 35184372087808) (b6 : Y3.length ≤ 35184372087808) (b7 : U.length ≤ 35184372087808) (b8 : W.length ≤ 35184372087808)
    (e1 : (x3 + (x1 + x2)) * (w * w) = u * u) (e2 : (y3 + y1) * w = u * (x1 - x3)) : F.law11_line (limbs (cP c)) X1 Y1 q1 X2 Y2 q2 X3 Y3 q3 U W = some true := by
  have B : ∀ u : Fin (cP c), (rl u).length ≤ 35184372087808 := fun u => Nat.le_trans (rl_len c u) (by decide)
  unfold F.law11_line
  rw [fadd c x1 x2 X1 X2 h1 h3 b1 b3, kh, fadd c x3 (x1 + x2) X3 _ h5 (val_rl _) b5 (B _), kh, fmul c w w W W h8 h8 b8 b8, kh, fmul c _ _ _ _ (val_rl _) (val_rl _) (B _) (B _), kh,
    fadd c y3 y1 Y3 Y1 h6 h2 b6 b2, kh, fmul c _ w _ W (val_rl _) h8 (B _) b8, kh, fmul c u u U U h7 h7 b7 b7, kh, e1, cmp_same (u * u) _ _ (val_rl _) (val_rl _) (B _) (B _), kh, if_pos (by rfl),
    fsub c x1 x3 X1 X3 h1 h5 b1 b5, kh, fmul c u _ U _ h7 (val_rl _) b7 (B _), kh, e2, cmp_same _ _ _ (val_rl _) (val_rl _) (B _) (B _), kh]
  rfl
theorem line_dbl {p : Nat} [NeZero p] {x y s x3 y3 : Fin p} (e2 : -3 = s * (y + y) - x * x - x * x - x * x) (e3 : x3 = s * s - x - x) (e4 : y3 = s * (x - x3) - y) :
    (x3 + (x + x)) * ((y + y) * (y + y)) = (3 * (x * x - 1)) * (3 * (x * x - 1)) ∧ (y3 + y) * (y + y) = (3 * (x * x - 1)) * (x - x3) := by
  have e : 3 * (x * x - 1) = s * (y + y) := by clear e3 e4; grobner
  rw [e]
  clear e2 e
  subst e3
  subst e4
  exact ⟨by grobner, by grobner⟩
theorem line_two {p : Nat} [NeZero p] {x y x2 y2 s x3 y3 : Fin p} (e1 : y2 = y + s * (x2 - x)) (e3 : x3 = s * s - x - x2) (e4 : y3 = s * (x - x3) - y) :
    (x3 + (x + x2)) * ((x2 - x) * (x2 - x)) = (y2 - y) * (y2 - y) ∧ (y3 + y) * (x2 - x) = (y2 - y) * (x - x3) := by
  subst e1
  subst e3
  subst e4
  exact ⟨by grobner, by grobner⟩
theorem law11_CurveLine_eq (c : Int) (X Y : List UInt32) (q : Bool) (X' Y' : List UInt32) (q' : Bool) (hX : X.length ≤ 35184372087808) (hY : Y.length ≤ 35184372087808) (hX' : X'.length ≤ 35184372087808) (hY' : Y'.length ≤ 35184372087808) :
    F.law11_CurveLine c X Y q X' Y' q' = some true := by
  have n1 : ¬ (!true) = true := by decide
  have n2 : ¬ (false = true) := by decide
  have B : ∀ u : Fin (cP c), (rl u).length ≤ 35184372087808 := fun u => Nat.le_trans (rl_len c u) (by decide)
  unfold F.law11_CurveLine
  rw [started_eq, kh, if_neg n1, Add_eq11 c X Y q X' Y' q' hX hY hX' hY', kh, On_eq c X Y q hX hY, kh]
  have bad : sumT c X Y q X' Y' q' = ([], [], false, 93) → F.law11_CurveLine_K1 c (sumT c X Y q X' Y' q') q q' X Y X' Y' true = some true := fun e => by
    rw [e]
    unfold F.law11_CurveLine_K1
    dsimp only
    rw [if_pos rfl, if_pos (by rfl), same_nil, kh]
  cases h1 : onS c X Y q with
  | false => exact bad (by unfold sumT; rw [h1]; rfl)
  | true =>
    rw [if_neg n1, On_eq c X' Y' q' hX' hY', kh]
    cases h2 : onS c X' Y' q' with
    | false => exact bad (by unfold sumT; rw [h1, h2]; rfl)
    | true =>
      have hc := onS_c h1
      have C := ccv c
      have hP := onS_on h1; have hQ := onS_on h2
      obtain ⟨R, eR⟩ : ∃ R, Ec.add (-3) (toPt c X Y q) (toPt c X' Y' q') = R := ⟨_, rfl⟩
      have hR : On (-3) (bF c) R := by rw [← eR]; exact C.on_add hP hQ
      have lR := rep_len c R
      have hon : F.curve_On c (res R).1 (res R).2.1 (res R).2.2.1 = some true := (On_eq c _ _ _ (by show (rep R).1.length ≤ _; omega) (by show (rep R).2.1.length ≤ _; omega)).trans (congrArg some (onS_rep hc hR))
      rw [sumT_res h1 h2, eR]
      unfold F.law11_CurveLine_K1
      dsimp only
      rw [if_neg (by decide), if_neg (show ¬ ((res R).2.2.2 != 0) = true by show ¬ ((0 : Int) != 0) = true; decide), hon, kh]
      unfold F.law11_CurveLine_K2
      dsimp only
      rw [if_neg n1]
      have K4 : ∀ (U V : List UInt32) (r : Bool), U.length ≤ 35184372087808 → V.length ≤ 35184372087808 → onS c U V r = true → R = toPt c U V r → F.law11_CurveLine_K4 (res R) (U, V, r) = some true := fun U V r hU hV ho e => by
        unfold F.law11_CurveLine_K4
        dsimp only
        cases r with
        | true =>
          obtain ⟨z1, z2⟩ := onS_inf ho
          have eR2 : R = none := e
          subst eR2
          have c1 : F.nat_Cmp (res (none : Pt (cP c))).1 U = some 0 := by
            show F.nat_Cmp [] U = _
            rw [nCmp_eq [] U (by simp) (by omega), z1]; rfl
          have c2 : F.nat_Cmp (res (none : Pt (cP c))).2.1 V = some 0 := by
            show F.nat_Cmp [] V = _
            rw [nCmp_eq [] V (by simp) (by omega), z2]; rfl
          rw [if_pos (by rfl), c1, kh, if_pos (by rfl), c2, kh]; rfl
        | false =>
          obtain ⟨v1, v2, v3⟩ := onS_fin ho
          have eR2 : R = some (fz (val U : Int), fz (val V : Int)) := e
          subst eR2
          have c1 : F.nat_Cmp (rl (fz (p := cP c) (val U : Int))) U = some 0 := cmp_same (fz (val U : Int)) _ _ (val_rl _) (fz_nat _ v1).symm (B _) hU
          have c2 : F.nat_Cmp (rl (fz (p := cP c) (val V : Int))) V = some 0 := cmp_same (fz (val V : Int)) _ _ (val_rl _) (fz_nat _ v2).symm (B _) hV
          rw [if_pos (by rfl), show (res (some (fz (p := cP c) (val U : Int), fz (val V : Int)))).1 = rl (fz (val U : Int)) from rfl, c1, kh, if_pos (by rfl), show (res (some (fz (p := cP c) (val U : Int), fz (val V : Int)))).2.1 = rl (fz (val V : Int)) from rfl, c2, kh]; rfl
      cases q with
      | true =>
        rw [if_pos rfl]
        unfold F.law11_CurveLine_K3
        dsimp only
        rw [if_pos rfl]
        have e0 : R = toPt c X' Y' q' := by rw [← eR]; rfl
        cases q' with
        | true => rw [if_pos rfl]; exact K4 X Y true hX hY h1 (by rw [e0]; rfl)
        | false => rw [if_neg n2]; exact K4 X' Y' false hX' hY' h2 e0
      | false =>
        rw [if_neg n2]
        unfold F.law11_CurveLine_K3
        dsimp only
        cases q' with
        | true =>
          rw [if_pos rfl, if_pos rfl]
          exact K4 X Y false hX hY h1 (by rw [← eR]; exact add_none _)
        | false =>
          obtain ⟨v1, v2, v3⟩ := onS_fin h1
          obtain ⟨v1', v2', v3'⟩ := onS_fin h2
          obtain ⟨x1, hx1⟩ : ∃ x1, fz (p := cP c) (val X : Int) = x1 := ⟨_, rfl⟩
          obtain ⟨y1, hy1⟩ : ∃ y1, fz (p := cP c) (val Y : Int) = y1 := ⟨_, rfl⟩
          obtain ⟨x2, hx2⟩ : ∃ x2, fz (p := cP c) (val X' : Int) = x2 := ⟨_, rfl⟩
          obtain ⟨y2, hy2⟩ : ∃ y2, fz (p := cP c) (val Y' : Int) = y2 := ⟨_, rfl⟩
          have g1 : val X = x1.val := by rw [← hx1, fz_nat _ v1]
          have g2 : val Y = y1.val := by rw [← hy1, fz_nat _ v2]
          have g3 : val X' = x2.val := by rw [← hx2, fz_nat _ v1']
          have g4 : val Y' = y2.val := by rw [← hy2, fz_nat _ v2']
          have tP : toPt c X Y false = some (x1, y1) := by rw [← hx1, ← hy1]; rfl
          have tQ : toPt c X' Y' false = some (x2, y2) := by rw [← hx2, ← hy2]; rfl
          rw [tP] at hP eR; rw [tQ] at hQ eR
          rw [if_neg n2, Field_eq, if_pos hc, kh]
          obtain ⟨z, hz, hzz⟩ := fcmp c x1 x2 X X' g1 g3 hX hX'
          rw [hz, kh]
          have v0 : val [] = (0 : Fin (cP c)).val := by simp [val]
          by_cases hxx : x1 = x2
          · rw [if_neg (by rw [hzz.2 hxx]; decide), fadd c y1 y2 Y Y' g2 g4 hY hY', kh]
            obtain ⟨z', hz', hzz'⟩ := fcmp c (y1 + y2) 0 (rl (y1 + y2)) [] (val_rl _) v0 (B _) (by simp)
            rw [hz', kh]
            by_cases hyy : y1 + y2 = 0
            · have e0 : R = none := by rw [← eR, add_some, if_pos hxx, if_pos hyy]
              rw [if_pos (by rw [hzz'.2 hyy]; rfl), e0]; rfl
            · obtain ⟨s, x3, y3, hl, he⟩ := C.ln hP hQ (fun h => hyy h.2)
              have e0 : R = some (x3, y3) := by rw [← eR, he]
              have hP1 := (c_small c).2.2.2.2.2.1
              have o1 : val [1] = (1 : Fin (cP c)).val := by
                show 1 = 1 % cP c
                rw [Nat.mod_eq_of_lt (by omega)]
              have o3 : val [3] = (3 : Fin (cP c)).val := by
                show 3 = 3 % cP c
                rw [Nat.mod_eq_of_lt (by omega)]
              rw [if_neg (by rw [beq_iff_eq]; exact fun h => hyy (hzz'.1 h)), fmul c x1 x1 X X g1 g1 hX hX, kh, fsub c _ 1 _ [1] (val_rl _) o1 (B _) (by simp), kh, fmul c 3 _ [3] _ o3 (val_rl _) (by simp) (B _), kh, e0,
                if_pos (by rfl), fadd c y1 y1 Y Y g2 g2 hY hY, kh]
              have e1 := hl.hy; have e2 := hl.ha; have e3 := hl.hx; have e4 := hl.hz
              clear hzz hzz' hz hz' K4 hon hR eR he hl bad lR
              subst hxx
              have hy12 : y2 = y1 := by clear e2 e3 e4; grobner
              subst hy12
              rw [show (res (some (x3, y3))).1 = rl x3 from rfl, show (res (some (x3, y3))).2.1 = rl y3 from rfl, line_eq c x1 y2 x1 y2 x3 y3 _ _ X Y X Y (rl x3) (rl y3) _ _ false false _ g1 g2 g1 (val_rl _) (val_rl _) (val_rl _) (val_rl _) hX hY hX (B _) (B _) (B _) (B _) (line_dbl e2 e3 e4).1 (line_dbl e2 e3 e4).2, kh]
          · obtain ⟨s, x3, y3, hl, he⟩ := C.ln hP hQ (fun h => hxx h.1)
            have e0 : R = some (x3, y3) := by rw [← eR, he]
            rw [if_pos (by rw [bne_iff_ne]; exact fun h => hxx (hzz.1 h)), e0, if_pos (by rfl), fsub c y2 y1 Y' Y g4 g2 hY' hY, kh, fsub c x2 x1 X' X g3 g1 hX' hX, kh]
            have e1 := hl.hy; have e3 := hl.hx; have e4 := hl.hz
            rw [show (res (some (x3, y3))).1 = rl x3 from rfl, show (res (some (x3, y3))).2.1 = rl y3 from rfl, line_eq c x1 y1 x2 y2 x3 y3 _ _ X Y X' Y' (rl x3) (rl y3) _ _ false false _ g1 g2 g3 (val_rl _) (val_rl _) (val_rl _) (val_rl _) hX hY hX' (B _) (B _) (B _) (B _) (line_two e1 e3 e4).1 (line_two e1 e3 e4).2, kh]
end Go.Gk.Bn
end
