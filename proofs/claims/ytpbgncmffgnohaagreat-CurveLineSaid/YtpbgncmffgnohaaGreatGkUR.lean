import Derived.Test.YtpbgncmffgnohaaGreatGkUN
import Derived.Test.YtpbgncmffgnohaaGreatGkEc0
import Derived.Test.YtpbgncmffgnohaaGreatGkUA
set_option linter.unusedVariables false
set_option linter.unusedSimpArgs false

section
set_option linter.unusedVariables false
set_option linter.unusedSectionVars false
namespace Go.Gk.Bn
open Go Go.Gk Go.Gk.Sh Go.Gk.Ec Go.Gk.Pr
section
variable {p : Nat} [NeZero p]
def dblN (p : Nat) (t : T3) : T3 :=
  bif Nat.beq (t.2.2 % p) 0 then t else
  frc (t.2.2 * t.2.2 % p) fun zz => frc (t.2.1 * t.2.1 % p) fun yy => frc (4 * (t.1 * yy % p) % p) fun s => frc (3 * (su p t.1 zz * (t.1 + zz) % p) % p) fun m =>
  frc (su p (m * m) (2 * s)) fun x => frc (su p (m * su p s x) (8 * (yy * yy))) fun y => frc (2 * (t.2.1 * t.2.2) % p) fun z => (x, y, z)
theorem lit2 : fz (p := p) ((2 : Nat) : Int) = 2 := fz_nat_lit 2
theorem lit3 : fz (p := p) ((3 : Nat) : Int) = 3 := fz_nat_lit 3
theorem lit4 : fz (p := p) ((4 : Nat) : Int) = 4 := fz_nat_lit 4
theorem lit8 : fz (p := p) ((8 : Nat) : Int) = 8 := fz_nat_lit 8
theorem beq0 (n : Nat) : (Nat.beq (n % p) 0 = true ∧ fz (p := p) (n : Int) = 0) ∨ (Nat.beq (n % p) 0 = false ∧ fz (p := p) (n : Int) ≠ 0) := by
  have h : fz (p := p) (n : Int) = 0 ↔ n % p = 0 := by
    rw [fz_eq_zero]
    constructor
    · intro h; have : ((n % p : Nat) : Int) = 0 := by rw [Int.natCast_emod]; exact h
      omega
    · intro h; rw [← Int.natCast_emod, h]; rfl
  cases hb : Nat.beq (n % p) 0 with
  | true => exact .inl ⟨rfl, h.2 (Nat.eq_of_beq_eq_true hb)⟩
  | false => exact .inr ⟨rfl, fun h2 => by rw [h.1 h2] at hb; cases hb⟩
theorem dblN_eq (t : T3) : fz3 (p := p) (dblN p t) = dblJ (fz3 t).1 (fz3 t).2.1 (fz3 t).2.2 := by
  obtain ⟨X, Y, Z⟩ := t
  unfold dblN dblJ fz3
  dsimp only
  rcases beq0 (p := p) Z with ⟨h1, h2⟩ | ⟨h1, h2⟩
  · rw [h1, if_pos h2]; rfl
  · rw [h1, if_neg h2]
    simp only [frc_eq, cond_false]
    simp only [fz_su, fzn_mod, fzn_mul, fzn_add, lit2, lit3, lit4, lit8]
def addN (p : Nat) (t u : T3) : T3 :=
  bif Nat.beq (t.2.2 % p) 0 then u else bif Nat.beq (u.2.2 % p) 0 then t else
  frc (t.1 * (u.2.2 * u.2.2) % p) fun u1 => frc (t.2.1 * (u.2.2 * (u.2.2 * u.2.2)) % p) fun s1 => frc (su p (u.1 * (t.2.2 * t.2.2)) u1) fun h => frc (su p (u.2.1 * (t.2.2 * (t.2.2 * t.2.2))) s1) fun r =>
  bif Nat.beq (h % p) 0 then (bif Nat.beq (r % p) 0 then dblN p t else (0, 0, 0)) else
  frc (h * h % p) fun hh => frc (h * hh % p) fun hhh => frc (u1 * hh % p) fun v => frc (su p (su p (r * r) hhh) (2 * v)) fun x => frc (su p (r * su p v x) (s1 * hhh)) fun y => frc (h * (t.2.2 * u.2.2) % p) fun z => (x, y, z)
theorem addN_eq (t u : T3) : fz3 (p := p) (addN p t u) = addJ (fz3 t).1 (fz3 t).2.1 (fz3 t).2.2 (fz3 u).1 (fz3 u).2.1 (fz3 u).2.2 := by
  obtain ⟨X, Y, Z⟩ := t
  obtain ⟨X', Y', Z'⟩ := u
  have hd := dblN_eq (p := p) (X, Y, Z)
  unfold fz3 at hd
  dsimp only at hd
  unfold addN addJ fz3
  dsimp only
  rcases beq0 (p := p) Z with ⟨h1, h2⟩ | ⟨h1, h2⟩
  · rw [h1, if_pos h2]; rfl
  rw [h1, if_neg h2]
  rcases beq0 (p := p) Z' with ⟨h3, h4⟩ | ⟨h3, h4⟩
  · rw [h3, if_pos h4]; rfl
  rw [h3, if_neg h4]
  simp only [frc_eq, cond_false]
  have eh : fz (p := p) ((su p (X' * (Z * Z)) (X * (Z' * Z') % p) : Nat) : Int) = fz (X' : Int) * (fz (Z : Int) * fz (Z : Int)) - fz (X : Int) * (fz (Z' : Int) * fz (Z' : Int)) := by simp only [fz_su, fzn_mod, fzn_mul]
  have er : fz (p := p) ((su p (Y' * (Z * (Z * Z))) (Y * (Z' * (Z' * Z')) % p) : Nat) : Int) = fz (Y' : Int) * (fz (Z : Int) * (fz (Z : Int) * fz (Z : Int))) - fz (Y : Int) * (fz (Z' : Int) * (fz (Z' : Int) * fz (Z' : Int))) := by simp only [fz_su, fzn_mod, fzn_mul]
  rcases beq0 (p := p) (su p (X' * (Z * Z)) (X * (Z' * Z') % p)) with ⟨h5, h6⟩ | ⟨h5, h6⟩
  · rw [h5]
    rw [eh] at h6
    rw [if_pos h6]
    rcases beq0 (p := p) (su p (Y' * (Z * (Z * Z))) (Y * (Z' * (Z' * Z')) % p)) with ⟨h7, h8⟩ | ⟨h7, h8⟩
    · rw [h7]
      rw [er] at h8
      rw [if_pos h8]
      exact hd
    · rw [h7]
      rw [er] at h8
      rw [if_neg h8]
      have e0 : fz (p := p) ((0 : Nat) : Int) = 0 := fz_zero
      simp only [cond_true, cond_false, e0]
  · rw [h5]
    rw [eh] at h6
    rw [if_neg h6]
    simp only [cond_false]
    simp only [fz_su, fzn_mod, fzn_mul, fzn_add, lit2]
def ladN (p : Nat) (g : T3) (e : Nat) : Nat → T3 → T3
  | 0, t => t
  | k + 1, t => frc3 (dblN p t) fun u => bif Nat.beq (e / 2 ^ k % 2) 0 then ladN p g e k u else frc3 (addN p u g) fun u => ladN p g e k u
theorem ladN_eq {b : Fin p} (C : Cv p (-3) b) {g : T3} {G : Pt p} (hG : On (-3) b G) (hg : jpt (fz3 (p := p) g) = G) (e : Nat) : ∀ k t, jpt (fz3 (p := p) t) = Ec.mul (-3) (e / 2 ^ k) G → jpt (fz3 (p := p) (ladN p g e k t)) = Ec.mul (-3) e G
  | 0, t, h => by simpa [ladN] using h
  | k + 1, t, h => by
    have on := C.on_mul hG (e / 2 ^ (k + 1))
    have hd : jpt (fz3 (p := p) (dblN p t)) = Ec.mul (-3) (2 * (e / 2 ^ (k + 1))) G := by
      rw [dblN_eq, dblJ_pt C.toFld, h, ← C.mul_add hG]; congr 1; omega
    unfold ladN
    rw [frc3_eq]
    rcases bit_cases e k with ⟨h1, h2⟩ | ⟨h1, h2⟩
    · rw [h1]
      exact ladN_eq C hG hg e k _ (by rw [hd, h2])
    · rw [h1]
      show jpt (fz3 (p := p) (frc3 _ _)) = _
      rw [frc3_eq]
      refine ladN_eq C hG hg e k _ ?_
      rw [addN_eq, addJ_pt (b := b) C.toFld _ _ (by rw [hd]; exact C.on_mul hG _) (by rw [hg]; exact hG), hd, hg, h2]
      rfl
end
def vT (c : Int) : T3 := if c = 1 then (76626890310466861426869089647039036757962535851890885406097439786770458211455, 74462945259064871768191128030512052509059297803194871526163573358218695456204, 34768139465301476436978405170953382516735956999154666452188405812258086013549) else (23037766613497683937702734290281044719364893268180251583910224888989381657771069200037813904257325918671976092329602, 8235438212423615602427778915669574859600037698862346933589434399495169446996583974901273360826717582835190849638831, 12157362177932134139146813183752135342286725243554133716818896354380897714709611791313184492360272402950851405460538)
theorem root1 : noRoot vP256 3 (vP256 - vB256) (vT 1) = true := by decide +kernel
theorem root2 : noRoot vP384 3 (vP384 - vB384) (vT 2) = true := by decide +kernel
theorem cv_noRoot (c : Int) : noRoot (cP c) 3 (cP c - cB c) (vT c) = true := by
  by_cases h : c = 1
  · subst h; exact root1
  · have e1 : cP c = vP384 := if_neg h
    have e2 : cB c = vB384 := if_neg h
    have e3 : vT c = vT 2 := (if_neg h).trans (if_neg (by decide)).symm
    rw [e1, e2, e3]; exact root2
theorem ccv (c : Int) : Cv (cP c) (-3) (bF c) := ⟨cfld c, fun x h => by
  refine noRoot_spec (cP_prime c) (cv_noRoot c) x ?_
  have hb := (c_small c).2.1
  rw [lit3, show ((cP c - cB c : Nat) : Int) = (cP c : Int) - (cB c : Int) by omega, fz_sub, show fz (p := cP c) (cP c : Int) = 0 from fz_eq_zero.2 Int.emod_self]
  have : x * x * x = 3 * x - bF c := by grobner
  rw [this]; grobner⟩
def gP (c : Int) : Pt (cP c) := some (fz (cX c : Int), fz (cY c : Int))
theorem gP_on (c : Int) (hc : isC c) : On (-3) (bF c) (gP c) := by
  obtain ⟨_, _, _, h1, h2, _⟩ := c_small c
  refine (onN_iff c hc (cX c) (cY c) h1 h2).1 ?_
  rcases hc with rfl | rfl
  · decide +kernel
  · decide +kernel
def ordB (p n x y : Nat) : Bool := Nat.beq ((ladN p (x, y, 1) n (Nat.log2 n + 1) (0, 0, 0)).2.2 % p) 0 && Nat.beq (p % 2) 1 && Nat.beq (n % 2) 1 && Nat.blt (2 * p + 1) (3 * n)
theorem ord1 : ordB vP256 vN256 vX256 vY256 = true := by decide +kernel
theorem ord2 : ordB vP384 vN384 vX384 vY384 = true := by decide +kernel
theorem cord (c : Int) (hc : isC c) : ordB (cP c) (cN c) (cX c) (cY c) = true := by
  rcases hc with rfl | rfl
  · exact ord1
  · exact ord2
theorem order_c (c : Int) (hc : isC c) {P : Pt (cP c)} (hP : On (-3) (bF c) P) : Ec.mul (-3) (cN c) P = none := by
  have h := cord c hc
  unfold ordB at h
  simp only [Bool.and_eq_true] at h
  obtain ⟨⟨⟨h1, h2⟩, h3⟩, h4⟩ := h
  have hg : jpt (fz3 (p := cP c) (cX c, cY c, 1)) = gP c := by
    have e1 : fz (p := cP c) ((1 : Nat) : Int) = 1 := fz_nat_lit 1
    unfold fz3 jpt gP
    dsimp only
    rw [e1]
    exact (cfld c).jac_of (one_ne c) (by grobner) (by grobner)
  have hl := ladN_eq (ccv c) (gP_on c hc) hg (cN c) (Nat.log2 (cN c) + 1) (0, 0, 0) (by
    rw [Nat.div_eq_of_lt Nat.lt_log2_self]
    have e0 : fz (p := cP c) ((0 : Nat) : Int) = 0 := fz_zero
    unfold fz3 jpt
    dsimp only
    rw [e0]
    exact jac_zero _ _)
  have hz : Ec.mul (-3) (cN c) (gP c) = none := by
    rw [← hl]
    rcases beq0 (p := cP c) (ladN (cP c) (cX c, cY c, 1) (cN c) (Nat.log2 (cN c) + 1) (0, 0, 0)).2.2 with ⟨_, h6⟩ | ⟨h5, _⟩
    · unfold jpt fz3
      dsimp only
      rw [h6]
      exact jac_zero _ _
    · rw [h5] at h1; cases h1
  exact (ccv c).order (Nat.eq_of_beq_eq_true h2) (gP_on c hc) (cN_prime c) (Nat.eq_of_beq_eq_true h3) (fun h => by cases h) hz (by simpa using h4) hP
end Go.Gk.Bn
end

section
set_option linter.unusedSimpArgs false
set_option linter.unusedVariables false
set_option linter.unusedSectionVars false
namespace Go.Gk.Bn
open Go Go.Gk Go.Gk.Sh Go.Gk.Ec Go.Gk.Pr
theorem BitLen_eq (n : Nat) (hn : nl (n : Int) ≤ 1000000000) : F.bignum_Int_BitLen (bi (n : Int)).1 (bi (n : Int)).2 = some (nb n : Int) := by
  unfold F.bignum_Int_BitLen
  rw [length_eq _ (by have : (bi (n : Int)).2.length = nl (n : Int) := rfl; omega), kh, bi2, Int.natAbs_natCast, bitsL_limbs]
def bw (n i : Nat) : UInt64 := UInt64.ofNat (n / 2 ^ i % 2)
theorem bw_one (n i : Nat) : (bw n i == 1) = decide (n / 2 ^ i % 2 = 1) := by
  have h : n / 2 ^ i % 2 = 0 ∨ n / 2 ^ i % 2 = 1 := by omega
  unfold bw
  rcases h with h | h <;> rw [h] <;> rfl
theorem bbit_eq (a : List UInt32) (i : Nat) (hi : i ≤ 4611686018427387904) (ha : a.length ≤ 4611686018427387904) : F.bignum_bit a (i : Int) = some (bw (val a) i) := by
  unfold F.bignum_bit F.bignum_bit_K1
  have w1 : wI (Int.tdiv (i : Int) 32) = ((i / 32 : Nat) : Int) := by rw [Int.tdiv_eq_ediv_of_nonneg (by omega), wI_in (by omega) (by omega)]; omega
  have w2 : ((UInt64.ofInt (i : Int)) % 32).toNat = i % 32 := by
    rw [UInt64.toNat_mod, UInt64.ofInt, UInt64.toNat_ofNat']
    have : (32 : UInt64).toNat = 32 := rfl
    rw [this]; omega
  rw [if_neg (by simp only [decide_eq_true_eq]; omega), w1]
  dsimp only
  by_cases h : a.length ≤ i / 32
  · rw [if_pos (decide_eq_true (by omega))]
    have h1 := word_bit a i
    have h2 : a.getD (i / 32) 0 = 0 := getD_beyond h
    rw [h2] at h1
    unfold bw
    rw [← h1]
    have : (0 : UInt32).toNat = 0 := rfl
    rw [this, Nat.zero_div]; rfl
  · rw [if_neg (by simp only [decide_eq_true_eq]; omega), getO_D (show i / 32 < a.length by omega) 0, kh, w2]
    congr 1
    apply UInt64.toNat_inj.1
    have h1 : ((shr32 (a.getD (i / 32) 0) (i % 32)).toUInt64 &&& 1).toNat = val a / 2 ^ i % 2 := by
      rw [UInt64.toNat_and, up32, shr32_toNat, Nat.min_eq_left (by omega), ← word_bit]
      have : (1 : UInt64).toNat = 2 ^ 1 - 1 := rfl
      rw [this, Nat.and_two_pow_sub_one_eq_mod]
    rw [h1]
    unfold bw
    rw [UInt64.toNat_ofNat']
    omega
theorem Bit_eq (n i : Nat) (hi : i ≤ 4611686018427387904) (hn : nl (n : Int) ≤ 1000000000) : F.bignum_Int_Bit (bi (n : Int)).1 (bi (n : Int)).2 (i : Int) = some (bw n i) := by
  unfold F.bignum_Int_Bit
  rw [if_neg (by simp only [decide_eq_true_eq]; omega), bi1 (by omega), if_pos (by rfl), bbit_eq _ _ hi (by have : (bi (n : Int)).2.length = nl (n : Int) := rfl; omega), kh, bival, Int.natAbs_natCast]
section
variable {p : Nat} [NeZero p]
def stepJ (t : Fin p × Fin p × Fin p) (b : Bool) (q : Fin p × Fin p × Fin p) : Fin p × Fin p × Fin p :=
  let d := dblJ t.1 t.2.1 t.2.2
  if b then addJ d.1 d.2.1 d.2.2 q.1 q.2.1 q.2.2 else d
variable (b0 : Bool) (b1 : List UInt32) (n0 : Bool) (n1 : List UInt32) (x0 : Bool) (x1 : List UInt32) (y0 : Bool) (y1 : List UInt32) (s : Int) (hpl : nl (p : Int) ≤ 1000)
include hpl
theorem step_fin (t : Fin p × Fin p × Fin p) (b : Bool) (q : Fin p × Fin p × Fin p) :
    F.curve_step (bi (p : Int)).1 (bi (p : Int)).2 b0 b1 n0 n1 x0 x1 y0 y1 s (bt t).1 (bt t).2.1 (bt t).2.2.1 (bt t).2.2.2.1 (bt t).2.2.2.2.1 (bt t).2.2.2.2.2 b (bt q).1 (bt q).2.1 (bt q).2.2.1 (bt q).2.2.2.1 (bt q).2.2.2.2.1 (bt q).2.2.2.2.2 = some (bt (stepJ t b q)) := by
  unfold F.curve_step F.curve_step_K1
  have hd := double_fin b0 b1 n0 n1 x0 x1 y0 y1 s hpl t.1 t.2.1 t.2.2
  rw [show F.curve_group_double (bi (p : Int)).1 (bi (p : Int)).2 b0 b1 n0 n1 x0 x1 y0 y1 s (bt t).1 (bt t).2.1 (bt t).2.2.1 (bt t).2.2.2.1 (bt t).2.2.2.2.1 (bt t).2.2.2.2.2 = _ from hd, kh]
  unfold stepJ
  cases b with
  | false => rfl
  | true =>
    rw [if_pos rfl]
    generalize dblJ t.1 t.2.1 t.2.2 = d
    have ha := add_fin b0 b1 n0 n1 x0 x1 y0 y1 s hpl d.1 d.2.1 d.2.2 q.1 q.2.1 q.2.2
    rw [show F.curve_group_add (bi (p : Int)).1 (bi (p : Int)).2 b0 b1 n0 n1 x0 x1 y0 y1 s (bt d).1 (bt d).2.1 (bt d).2.2.1 (bt d).2.2.2.1 (bt d).2.2.2.2.1 (bt d).2.2.2.2.2 (bt q).1 (bt q).2.1 (bt q).2.2.1 (bt q).2.2.2.1 (bt q).2.2.2.2.1 (bt q).2.2.2.2.2 = _ from ha, kh]
    rfl
omit hpl in
def ladJ (k : Nat) (q : Fin p × Fin p × Fin p) : Nat → Fin p × Fin p × Fin p → Fin p × Fin p × Fin p
  | 0, t => t
  | i + 1, t => ladJ k q i (stepJ t (decide (k / 2 ^ i % 2 = 1)) q)
theorem ladder_loop (k : Nat) (hk : nl (k : Int) ≤ 1000000000) (q : Fin p × Fin p × Fin p) : ∀ (i : Nat) (t : Fin p × Fin p × Fin p), i ≤ 1000000000000 →
    loop (F.curve_group_ladder_L1 (bi (p : Int)).1 (bi (p : Int)).2 b0 b1 n0 n1 x0 x1 y0 y1 s (bi (k : Int)).1 (bi (k : Int)).2 (bt q).1 (bt q).2.1 (bt q).2.2.1 (bt q).2.2.2.1 (bt q).2.2.2.2.1 (bt q).2.2.2.2.2)
      ((i : Int) - 1, (bt t).1, (bt t).2.1, (bt t).2.2.1, (bt t).2.2.2.1, (bt t).2.2.2.2.1, (bt t).2.2.2.2.2) = some (bt (ladJ k q i t))
  | 0, t, _ => by
    refine loop_oinr' ?_
    unfold F.curve_group_ladder_L1
    dsimp only
    rw [if_neg (by simp)]
    rfl
  | i + 1, t, hi => by
    have e : (((i + 1 : Nat) : Int) - 1) = (i : Int) := by omega
    rw [e]
    have w : wI ((i : Int) - 1) = (i : Int) - 1 := wI_in (by omega) (by omega)
    have hst : F.curve_group_ladder_L1 (bi (p : Int)).1 (bi (p : Int)).2 b0 b1 n0 n1 x0 x1 y0 y1 s (bi (k : Int)).1 (bi (k : Int)).2 (bt q).1 (bt q).2.1 (bt q).2.2.1 (bt q).2.2.2.1 (bt q).2.2.2.2.1 (bt q).2.2.2.2.2
        ((i : Int), (bt t).1, (bt t).2.1, (bt t).2.2.1, (bt t).2.2.2.1, (bt t).2.2.2.2.1, (bt t).2.2.2.2.2) = some (.inl ((i : Int) - 1, (bt (stepJ t (decide (k / 2 ^ i % 2 = 1)) q)).1, (bt (stepJ t (decide (k / 2 ^ i % 2 = 1)) q)).2.1, (bt (stepJ t (decide (k / 2 ^ i % 2 = 1)) q)).2.2.1, (bt (stepJ t (decide (k / 2 ^ i % 2 = 1)) q)).2.2.2.1, (bt (stepJ t (decide (k / 2 ^ i % 2 = 1)) q)).2.2.2.2.1, (bt (stepJ t (decide (k / 2 ^ i % 2 = 1)) q)).2.2.2.2.2)) := by
      unfold F.curve_group_ladder_L1
      dsimp only
      rw [if_pos (decide_eq_true (by omega)), Bit_eq k i (by omega) hk, kh, bw_one, step_fin b0 b1 n0 n1 x0 x1 y0 y1 s hpl, kh, w]
      rfl
    rw [loop_inl hst]
    exact ladder_loop k hk q i _ (by omega)
theorem ladder_fin (k : Nat) (hk : nl (k : Int) ≤ 1000000) (q : Fin p × Fin p × Fin p) :
    F.curve_group_ladder (bi (p : Int)).1 (bi (p : Int)).2 b0 b1 n0 n1 x0 x1 y0 y1 s (bi (k : Int)).1 (bi (k : Int)).2 (bt q).1 (bt q).2.1 (bt q).2.2.1 (bt q).2.2.2.1 (bt q).2.2.2.2.1 (bt q).2.2.2.2.2 = some (bt (ladJ k q (nb k) (0, 0, 0))) := by
  have h0 : bt ((0, 0, 0) : Fin p × Fin p × Fin p) = (false, [], false, [], false, []) := by
    unfold bt
    dsimp only
    rw [be_zero]
  have hb := nb_len k
  have hl : (limbs k).length = nl (k : Int) := by unfold nl; rw [Int.natAbs_natCast]
  have h1 := ladder_loop b0 b1 n0 n1 x0 x1 y0 y1 s hpl k (by omega) q (nb k) (0, 0, 0) (by omega)
  rw [h0] at h1
  unfold F.curve_group_ladder F.curve_infinity
  rw [kh, BitLen_eq k (by omega), kh, wI_in (by omega) (by omega)]
  exact h1
omit hpl in
theorem stepJ_pt {b : Fin p} (F : Fld p) {t q : Fin p × Fin p × Fin p} (ht : On (-3) b (jpt t)) (hq : On (-3) b (jpt q)) (c : Bool) : jpt (stepJ t c q) = if c then Ec.add (-3) (Ec.add (-3) (jpt t) (jpt t)) (jpt q) else Ec.add (-3) (jpt t) (jpt t) := by
  have hd := dblJ_pt F t
  unfold stepJ
  cases c with
  | false => exact hd
  | true =>
    rw [if_pos rfl, if_pos rfl, addJ_pt (b := b) F _ _ (by rw [hd]; exact F.on_add ht ht) hq, hd]
omit hpl in
theorem bit_dec (e k : Nat) : e / 2 ^ k = 2 * (e / 2 ^ (k + 1)) + (if decide (e / 2 ^ k % 2 = 1) then 1 else 0) := by
  have h1 : e / 2 ^ (k + 1) = e / 2 ^ k / 2 := by rw [Nat.pow_succ, Nat.div_div_eq_div_mul]
  rw [h1]
  by_cases h : e / 2 ^ k % 2 = 1
  · rw [decide_eq_true h, if_pos rfl]; omega
  · rw [decide_eq_false h, if_neg (by decide)]; omega
omit hpl in
theorem ladJ_pt {b : Fin p} (C : Cv p (-3) b) (k : Nat) {q : Fin p × Fin p × Fin p} (hq : On (-3) b (jpt q)) : ∀ (i : Nat) (t : Fin p × Fin p × Fin p), jpt t = Ec.mul (-3) (k / 2 ^ i) (jpt q) → jpt (ladJ k q i t) = Ec.mul (-3) k (jpt q)
  | 0, t, h => by simpa [ladJ] using h
  | i + 1, t, h => by
    unfold ladJ
    refine ladJ_pt C k hq i _ ?_
    have ht : On (-3) b (jpt t) := by rw [h]; exact C.on_mul hq _
    have hbd := bit_dec k i
    generalize decide (k / 2 ^ i % 2 = 1) = c at hbd ⊢
    rw [stepJ_pt (b := b) C.toFld ht hq, h, hbd]
    have e2 : ∀ m, Ec.mul (-3) (2 * m) (jpt q) = Ec.add (-3) (Ec.mul (-3) m (jpt q)) (Ec.mul (-3) m (jpt q)) := fun m => by rw [← C.mul_add hq]; congr 1; omega
    cases c with
    | true =>
      rw [if_pos rfl, if_pos rfl, ← e2]
      rfl
    | false =>
      rw [if_neg (by decide), if_neg (by decide), ← e2]
      rfl
end
theorem scalar_eq (k : List UInt32) (hk : k.length ≤ 35184372087808) : F.curve_scalar k = some ((bi (val k : Int)).1, (bi (val k : Int)).2, decide (nb (val k) ≤ 1024)) := by
  unfold F.curve_scalar
  rw [in_eq k hk, kh, Bits_eq k (by omega), kh]
  congr 3
  by_cases h : nb (val k) ≤ 1024
  · rw [decide_eq_true h, decide_eq_true (by omega)]
  · rw [decide_eq_false h, decide_eq_false (by omega)]
noncomputable def mulT11 (c : Int) (k : List UInt32) (X Y : List UInt32) (q : Bool) : List UInt32 × List UInt32 × Bool × Int :=
  if onS c X Y q then (if nb (val k) ≤ 1024 then ((rep (Ec.mul (-3) (val k) (toPt c X Y q))).1, (rep (Ec.mul (-3) (val k) (toPt c X Y q))).2.1, (rep (Ec.mul (-3) (val k) (toPt c X Y q))).2.2, 0) else ([], [], false, 10)) else ([], [], false, 93)
theorem ladder_c (c : Int) (k : Nat) (hk : nl (k : Int) ≤ 1000000) (t : Fin (cP c) × Fin (cP c) × Fin (cP c)) :
    F.curve_group_ladder (gT c).1 (gT c).2.1 (gT c).2.2.1 (gT c).2.2.2.1 (gT c).2.2.2.2.1 (gT c).2.2.2.2.2.1 (gT c).2.2.2.2.2.2.1 (gT c).2.2.2.2.2.2.2.1 (gT c).2.2.2.2.2.2.2.2.1 (gT c).2.2.2.2.2.2.2.2.2.1 (gT c).2.2.2.2.2.2.2.2.2.2
      (bi (k : Int)).1 (bi (k : Int)).2 (bt t).1 (bt t).2.1 (bt t).2.2.1 (bt t).2.2.2.1 (bt t).2.2.2.2.1 (bt t).2.2.2.2.2 = some (bt (ladJ k t (nb k) (0, 0, 0))) :=
  ladder_fin _ _ _ _ _ _ _ _ _ (by have := cP_nl c; omega) k hk t
theorem Mul_eq11 (c : Int) (k : List UInt32) (X Y : List UInt32) (q : Bool) (hk : k.length ≤ 35184372087808) (hX : X.length ≤ 35184372087808) (hY : Y.length ≤ 35184372087808) : F.curve_Mul c k X Y q = some (mulT11 c k X Y q) := by
  have n1 : ¬ (!true) = true := by decide
  unfold F.curve_Mul mulT11
  rw [take_eq2 c X Y q hX hY, kh, scalar_eq k hk]
  by_cases hc : isC c
  · rw [if_pos hc]
    dsimp only [ocase]
    cases h1 : onS c X Y q with
    | false => rfl
    | true =>
      rw [if_neg n1, if_pos rfl, kh]
      dsimp only
      by_cases hb : nb (val k) ≤ 1024
      · rw [decide_eq_true hb, if_neg n1, if_pos hb]
        have hN := (cN_prime c).1
        have hNl : nl (cN c : Int) ≤ 12 := nl_le (by have := (c_small c).2.2.1; have := (c_small c).1; omega)
        have hkl : nl (val k : Int) ≤ 35184372087808 := Nat.le_trans (nl_val k) hk
        have hm : F.bignum_Int_Mod_a10 (bi (val k : Int)).1 (bi (val k : Int)).2 (gT c).2.2.2.2.1 (gT c).2.2.2.2.2.1 = some (bi ((val k % cN c : Nat) : Int)) := by
          rw [Int.natCast_emod]
          exact Mod_a10_eq _ _ (by omega) (by omega) (by omega) (fun h => by omega)
        have hrl : nl ((val k % cN c : Nat) : Int) ≤ 12 := Nat.le_trans (nl_mono (by have := Nat.mod_lt (val k) (show 0 < cN c by omega); omega)) hNl
        rw [hm, kh, rdT_eq h1, ladder_c c _ (by omega), kh, show_c, kh]
        have hon : On (-3) (bF c) (jpt (jT c X Y q)) := by rw [jT_pt]; exact onS_on h1
        have hz : jpt ((0, 0, 0) : Fin (cP c) × Fin (cP c) × Fin (cP c)) = Ec.mul (-3) ((val k % cN c) / 2 ^ nb (val k % cN c)) (jpt (jT c X Y q)) := by
          rw [Nat.div_eq_of_lt (nb_bounds _).1]
          exact jac_zero _ _
        rw [ladJ_pt (ccv c) _ hon _ _ hz, (ccv c).mul_mod hon (order_c c hc hon), jT_pt]
      · rw [decide_eq_false hb, if_neg hb]
        rfl
  · have e1 : onS c X Y q = false := by
      cases h : onS c X Y q with
      | false => rfl
      | true => exact (hc (onS_c h)).elim
    rw [if_neg hc, e1]
    rfl
end Go.Gk.Bn
end

section
set_option linter.unusedSimpArgs false
set_option linter.unusedVariables false
set_option linter.unusedSectionVars false
namespace Go.Gk.Bn
open Go Go.Gk Go.Gk.Sh Go.Gk.Ec Go.Gk.Pr
end Go.Gk.Bn
end

section
set_option linter.unusedSimpArgs false
set_option linter.unusedVariables false
set_option linter.unusedSectionVars false
namespace Go.Gk.Bn
open Go Go.Gk Go.Gk.Sh Go.Gk.Ec Go.Gk.Pr
theorem toPt_rep {c : Int} (P : Pt (cP c)) : toPt c (rep P).1 (rep P).2.1 (rep P).2.2 = P := by
  rcases P with _ | ⟨x, y⟩
  · rfl
  · show some (fz (val (limbs x.val) : Int), fz (val (limbs y.val) : Int)) = _
    rw [kC, kC, fz_self, fz_self]
theorem onS_rep {c : Int} (hc : isC c) {P : Pt (cP c)} (hP : On (-3) (bF c) P) : onS c (rep P).1 (rep P).2.1 (rep P).2.2 = true := by
  unfold onS
  rw [if_pos hc]
  rcases P with _ | ⟨x, y⟩
  · rfl
  · show (if false = true then _ else onN (cP c) (cB c) (val (limbs x.val)) (val (limbs y.val))) = true
    rw [if_neg (by decide), kC, kC, onN_iff c hc _ _ x.isLt y.isLt, fz_self, fz_self]
    exact hP
noncomputable def res {c : Int} (P : Pt (cP c)) : List UInt32 × List UInt32 × Bool × Int := ((rep P).1, (rep P).2.1, (rep P).2.2, 0)
theorem sumT_res {c : Int} {X Y : List UInt32} {q : Bool} {X' Y' : List UInt32} {q' : Bool} (h : onS c X Y q = true) (h' : onS c X' Y' q' = true) : sumT c X Y q X' Y' q' = res (Ec.add (-3) (toPt c X Y q) (toPt c X' Y' q')) := by
  unfold sumT
  rw [h, h']; rfl
theorem mulT_res {c : Int} {k X Y : List UInt32} {q : Bool} (h : onS c X Y q = true) (hk : nb (val k) ≤ 1024) : mulT11 c k X Y q = res (Ec.mul (-3) (val k) (toPt c X Y q)) := by
  unfold mulT11
  rw [h, if_pos rfl, if_pos hk]; rfl
theorem base_rep (c : Int) (hc : isC c) : F.curve_Base c = some (rep (gP c)) := by
  obtain ⟨_, _, _, h1, h2, _⟩ := c_small c
  rw [Base_eq, if_pos hc]
  show some (limbs (cX c), limbs (cY c), false) = some (limbs (fz (p := cP c) (cX c : Int)).val, limbs (fz (p := cP c) (cY c : Int)).val, false)
  rw [fz_nat _ h1, fz_nat _ h2]
def g2x : Nat := 0x7cf27b188d034f7e8a52380304b51ac3c08969e277f21b35a60b48fc47669978
def g2y : Nat := 0x7775510db8ed040293d9ac69f7430dbba7dade63ce982299e04b79d227873d1
def g2s : Nat := 0xa249bcb3191802d3cb56fc75a8731f848e7b2caf080f3477a4e4d904a671af9d
theorem g2_ln : Ln (-3) (bF 1) (fz (cX 1 : Int)) (fz (cY 1 : Int)) (fz (cX 1 : Int)) (fz (cY 1 : Int)) (fz (p := cP 1) (g2s : Int)) (fz (g2x : Int)) (fz (g2y : Int)) := by
  refine ⟨by grobner, ?_, ?_, ?_, ?_⟩
  · decide +kernel
  · decide +kernel
  · decide +kernel
  · decide +kernel
theorem g2_eq : Ec.add (-3) (gP 1) (gP 1) = some (fz (p := cP 1) (g2x : Int), fz (g2y : Int)) := (ccv 1).of_ln g2_ln
theorem g2_facts : (Nat.blt g2x (cP 1) && Nat.blt g2y (cP 1) && decide (limbs g2x = [1197906296, 4194431772, 4049726964, 3227085173, 78977731, 2325029763, 2382318462, 2096250312] ∨ (limbs g2x).length = 8) && decide ((limbs g2x).getD 0 0 = 1197906296) && decide ((limbs g2y).getD 0 0 = 578319313) && Nat.blt 0 (limbs g2y).length) = true := by decide +kernel
theorem obind_of {α β : Type} {x : Option α} {a : α} (h : x = some a) (f : α → Option β) : obind x f = f a := by rw [h]; rfl
set_option maxRecDepth 8000 in
theorem started_eq : F.law11_started = some true := by
  have hc : isC 1 := .inl rfl
  have hg := gP_on 1 hc
  have hon := onS_rep hc hg
  have htp := toPt_rep (gP 1)
  obtain ⟨l1, l2⟩ := rep_len 1 (gP 1)
  have f := g2_facts
  simp only [Bool.and_eq_true, decide_eq_true_eq, Nat.blt_eq] at f
  obtain ⟨⟨⟨⟨⟨f1, f2⟩, f3⟩, f4⟩, f5⟩, f6⟩ := f
  have f3 : (limbs g2x).length = 8 := by
    rcases f3 with h | h
    · rw [h]; rfl
    · exact h
  have on2 : On (-3) (bF 1) (Ec.add (-3) (gP 1) (gP 1)) := (cfld 1).on_add hg hg
  have hd := onS_rep hc on2
  have hr : rep (Ec.add (-3) (gP 1) (gP 1)) = (limbs g2x, limbs g2y, false) := by
    rw [g2_eq]
    show (limbs (fz (p := cP 1) (g2x : Int)).val, limbs (fz (p := cP 1) (g2y : Int)).val, false) = _
    rw [fz_nat _ f1, fz_nat _ f2]
  obtain ⟨l3, l4⟩ := rep_len 1 (Ec.add (-3) (gP 1) (gP 1))
  have hno : onS 1 [] [] false = false := by decide +kernel
  have sm2 := same_eq (rep (Ec.add (-3) (gP 1) (gP 1))).1 (rep (Ec.add (-3) (gP 1) (gP 1))).2.1 (rep (Ec.add (-3) (gP 1) (gP 1))).2.2 (Nat.le_trans l3 (by decide)) (Nat.le_trans l4 (by decide))
  have h2 : val [2] = 2 := rfl
  unfold F.law11_started
  rw [base_rep 1 hc, kh, Add_eq11 _ _ _ _ _ _ _ (by omega) (by omega) (by omega) (by omega), kh, Mul_eq11 _ _ _ _ _ (by decide) (by omega) (by omega), kh, Add_eq11 _ _ _ _ _ _ _ (by omega) (by omega) (by simp) (by simp), kh]
  rw [sumT_res hon hon, mulT_res hon (by rw [h2]; exact Nat.le_trans (nb_le (k := 2) (by decide)) (by decide)), htp, h2]
  have e2 : Ec.mul (-3) 2 (gP 1) = Ec.add (-3) (gP 1) (gP 1) := rfl
  have e3 : sumT 1 (rep (gP 1)).1 (rep (gP 1)).2.1 (rep (gP 1)).2.2 [] [] false = ([], [], false, 93) := by
    unfold sumT
    rw [hno, Bool.and_false, if_neg (by decide)]
  rw [e2, e3]
  unfold res
  dsimp only
  have g0 : getO (limbs g2x) (0 : Int) = some 1197906296 := by
    have := getO_D (show 0 < (limbs g2x).length by omega) (0 : UInt32)
    rw [f4] at this; exact this
  have g1 : getO (limbs g2y) (0 : Int) = some 578319313 := by
    have := getO_D (show 0 < (limbs g2y).length by omega) (0 : UInt32)
    rw [f5] at this; exact this
  have hc2 : isC 2 := .inr rfl
  have l5 := (rep_len 2 (gP 2)).1
  have l6 := (rep_len 2 (gP 2)).2
  have hB2 := base_rep 2 hc2
  have hO2 := (On_eq 2 (rep (gP 2)).1 (rep (gP 2)).2.1 (rep (gP 2)).2.2 (by omega) (by omega)).trans (congrArg some (onS_rep hc2 (gP_on 2 hc2)))
  have hO1 := (On_eq 1 (rep (Ec.add (-3) (gP 1) (gP 1))).1 (rep (Ec.add (-3) (gP 1) (gP 1))).2.1 (rep (Ec.add (-3) (gP 1) (gP 1))).2.2 (Nat.le_trans l3 (by decide)) (Nat.le_trans l4 (by decide))).trans (congrArg some hd)
  rw [hr] at hO1 sm2
  rw [hr]
  clear hr hd l3 l4 on2 e3 hno htp hon
  refine (if_pos (show ((0 : Int) == 0) = true from rfl)).trans ((if_pos (show ((0 : Int) == 0) = true from rfl)).trans ((if_pos (beq_self_eq_true (93 : Int))).trans ((obind_of sm2 _).trans ((if_pos rfl).trans ?_))))
  refine (if_pos (show (((limbs g2x).length : Int) == 8) = true by rw [f3]; rfl)).trans ((obind_of g0 _).trans ((if_pos (beq_self_eq_true (1197906296 : UInt32))).trans ((obind_of g1 _).trans ((if_pos (beq_self_eq_true (578319313 : UInt32))).trans ((obind_of hO1 _).trans ((if_pos rfl).trans ((obind_of hB2 _).trans (obind_of hO2 _))))))))
end Go.Gk.Bn
end

section
set_option linter.unusedSimpArgs false
set_option linter.unusedVariables false
set_option linter.unusedSectionVars false
namespace Go.Gk.Bn
open Go Go.Gk Go.Gk.Sh Go.Gk.Ec Go.Gk.Pr
theorem cmpN_self (n : Nat) : cmpN n n = 0 := by unfold cmpN; rw [if_neg (by omega), if_pos rfl]
theorem nCmp_loop (a b : List UInt32) (m m' : Nat) (A B : List UInt32) (ha : a.take m = A) (hb : b.take m' = B) (hl : A.length = B.length) (hA : A.length ≤ 4611686018427387904) : ∀ k : Nat, k ≤ A.length → val (A.drop k) = val (B.drop k) → loop (F.nat_Cmp_L1 a b m m') ((k : Int) - 1) = some (cmpN (val A) (val B))
  | 0, _, h => by
    rw [List.drop_zero, List.drop_zero] at h
    refine loop_oinr' ?_
    unfold F.nat_Cmp_L1
    rw [if_neg (by decide), h, cmpN_self]
  | k + 1, hk, h => by
    have e1 : (((k + 1 : Nat) : Int)) - 1 = (k : Int) := by omega
    rw [e1]
    have w : wI ((k : Int) - 1) = (k : Int) - 1 := wI_in (by omega) (by omega)
    have hL : F.nat_Cmp_L1 a b m m' (k : Int) = if (A.getD k 0) < (B.getD k 0) then oinr (some (-1)) else if (B.getD k 0) < (A.getD k 0) then oinr (some 1) else oinl ((k : Int) - 1) := by
      unfold F.nat_Cmp_L1
      rw [ha, hb, if_pos (decide_eq_true (by omega)), getO_D (show k < A.length by omega) 0, kh, getO_D (show k < B.length by omega) 0, kh]
      by_cases h1 : A.getD k 0 < B.getD k 0
      · rw [if_pos (decide_eq_true h1), if_pos h1]
      · rw [if_neg (by rw [decide_eq_true_eq]; exact h1), if_neg h1, kh, kh]
        by_cases h2 : B.getD k 0 < A.getD k 0
        · rw [if_pos (decide_eq_true h2), if_pos h2]
        · rw [if_neg (by rw [decide_eq_true_eq]; exact h2), if_neg h2, w]
    by_cases h1 : A.getD k 0 < B.getD k 0
    · rw [if_pos h1] at hL
      have := cmp_top A B k h (UInt32.lt_iff_toNat_lt.1 h1)
      rw [loop_oinr' hL]; unfold cmpN; rw [if_pos this]
    · rw [if_neg h1] at hL
      by_cases h2 : B.getD k 0 < A.getD k 0
      · rw [if_pos h2] at hL
        have := cmp_top B A k h.symm (UInt32.lt_iff_toNat_lt.1 h2)
        rw [loop_oinr' hL]; unfold cmpN; rw [if_neg (by omega), if_neg (by omega)]
      · rw [if_neg h2] at hL
        rw [loop_inl hL]
        refine nCmp_loop a b m m' A B ha hb hl hA k (by omega) ?_
        have g1 : ¬ (A.getD k 0).toNat < (B.getD k 0).toNat := fun q => h1 (UInt32.lt_iff_toNat_lt.2 q)
        have g2 : ¬ (B.getD k 0).toNat < (A.getD k 0).toNat := fun q => h2 (UInt32.lt_iff_toNat_lt.2 q)
        rw [val_drop A k, val_drop B k, h]; omega
theorem limbs_lt {a b : Nat} (h : (limbs a).length < (limbs b).length) : a < b := by
  rcases Nat.lt_or_ge a b with h1 | h1
  · exact h1
  · have := limbs_mono h1; omega
theorem nCmp_eq (a b : List UInt32) (ha : a.length ≤ 4611686018427387904) (hb : b.length ≤ 4611686018427387904) : F.nat_Cmp a b = some (cmpN (val a) (val b)) := by
  obtain ⟨m, h1, h2, h3⟩ := value_eq a ha
  obtain ⟨m', h4, h5, h6⟩ := value_eq b hb
  have la : (limbs (val a)).length ≤ a.length := limbs_len_le (val_lt a)
  unfold F.nat_Cmp
  rw [h1, kh, h4, kh, h3, h6]
  by_cases hl : (limbs (val a)).length < (limbs (val b)).length
  · have := limbs_lt hl
    rw [if_pos (decide_eq_true (by omega))]; unfold cmpN; rw [if_pos this]
  · rw [if_neg (by rw [decide_eq_true_eq]; omega)]
    by_cases hl2 : (limbs (val b)).length < (limbs (val a)).length
    · have := limbs_lt hl2
      rw [if_pos (decide_eq_true (by omega))]; unfold cmpN; rw [if_neg (by omega), if_neg (by omega)]
    · rw [if_neg (by rw [decide_eq_true_eq]; omega), olet_eq, wI_in (by omega) (by omega)]
      have := nCmp_loop a b m m' (limbs (val a)) (limbs (val b)) h3 h6 (by omega) (by omega) (limbs (val a)).length (Nat.le_refl _) (by rw [List.drop_of_length_le (by omega), List.drop_of_length_le (by omega)])
      rw [kC, kC] at this
      exact this
def adS (A B : List UInt32) (x : UInt64 × List UInt32) (i : Nat) : UInt64 × List UInt32 :=
  let s := if i < B.length then (x.1 + (A.getD i 0).toUInt64) + (B.getD i 0).toUInt64 else x.1 + (A.getD i 0).toUInt64
  (shr64 s 32, x.2.set i s.toUInt32)
def AdI (A B : List UInt32) (i : Nat) (x : UInt64 × List UInt32) : Prop :=
  x.2.length = A.length + 1 ∧ x.1.toNat ≤ 1 ∧ val (x.2.take i) + 4294967296 ^ i * x.1.toNat = val (A.take i) + val (B.take i)
theorem val_takeS {l : List UInt32} {i : Nat} (h : i < l.length) : val (l.take (i + 1)) = val (l.take i) + 4294967296 ^ i * (l.getD i 0).toNat := by
  rw [take_succ_D h, val_append, List.length_take, Nat.min_eq_left (by omega)]
  simp [val]
theorem take_beyond {l : List UInt32} {i : Nat} (h : l.length ≤ i) : l.take (i + 1) = l.take i := by
  rw [List.take_of_length_le (by omega), List.take_of_length_le (by omega)]
theorem adS_inv {A B : List UInt32} {x : UInt64 × List UInt32} {i : Nat} (hi : i < A.length) (h : AdI A B i x) : AdI A B (i + 1) (adS A B x i) := by
  obtain ⟨h1, h2, h3⟩ := h
  obtain ⟨s, hs⟩ : ∃ s, (if i < B.length then (x.1 + (A.getD i 0).toUInt64) + (B.getD i 0).toUInt64 else x.1 + (A.getD i 0).toUInt64) = s := ⟨_, rfl⟩
  have e : adS A B x i = (shr64 s 32, x.2.set i s.toUInt32) := by unfold adS; rw [hs]
  have ga := w_lt (A.getD i 0); have gb := w_lt (B.getD i 0)
  have hsv : s.toNat = x.1.toNat + (A.getD i 0).toNat + (if i < B.length then (B.getD i 0).toNat else 0) := by
    rw [← hs]
    split
    · rw [UInt64.toNat_add, UInt64.toNat_add, up32, up32]; omega
    · rw [UInt64.toNat_add, up32]; omega
  have hb2 : val (B.take (i + 1)) = val (B.take i) + 4294967296 ^ i * (if i < B.length then (B.getD i 0).toNat else 0) := by
    split
    · rename_i hb; exact val_takeS hb
    · rename_i hb; rw [take_beyond (by omega)]; omega
  have hsl : s.toNat < 2 * 4294967296 := by rw [hsv]; split <;> omega
  rw [e]
  have c1 : (shr64 s 32).toNat = s.toNat / 4294967296 := by rw [shr64_toNat]; rfl
  have c2 : s.toUInt32.toNat = s.toNat % 4294967296 := by rw [UInt64.toNat_toUInt32]
  refine ⟨by simpa using h1, by show (shr64 s 32).toNat ≤ 1; rw [c1]; omega, ?_⟩
  show val ((x.2.set i s.toUInt32).take (i + 1)) + 4294967296 ^ (i + 1) * (shr64 s 32).toNat = _
  rw [val_takeS (by simp; omega), val_takeS hi, hb2, c1]
  have e1 : (x.2.set i s.toUInt32).take i = x.2.take i := List.take_set_of_le (by omega)
  have e2 : (x.2.set i s.toUInt32).getD i 0 = s.toUInt32 := by
    rw [List.getD_eq_getElem?_getD, List.getElem?_set_self (by omega)]; rfl
  rw [e1, e2, c2, Nat.pow_succ]
  obtain ⟨P, hP⟩ : ∃ P, (4294967296 : Nat) ^ i = P := ⟨_, rfl⟩
  rw [hP] at h3 hb2 ⊢
  have hd := Nat.div_add_mod s.toNat 4294967296
  have e3 : P * (s.toNat % 4294967296) + P * 4294967296 * (s.toNat / 4294967296) = P * s.toNat := by
    rw [Nat.mul_assoc, ← Nat.mul_add, Nat.add_comm, hd]
  have e4 : P * s.toNat = P * x.1.toNat + P * (A.getD i 0).toNat + P * (if i < B.length then (B.getD i 0).toNat else 0) := by rw [hsv, Nat.mul_add, Nat.mul_add]
  omega
theorem nAdd_K1 (A B : List UInt32) (hl : B.length ≤ A.length) (hA : A.length ≤ 50000000000000) : F.nat_Add_K1 (A, B) = some (limbs (val A + val B)) := by
  unfold F.nat_Add_K1
  dsimp only
  have w1 : wI ((A.length : Int) + 1) = ((A.length + 1 : Nat) : Int) := by rw [wI_in (by omega) (by omega)]; rfl
  have hm : mkO 4 ((A.length + 1 : Nat) : Int) ((A.length + 1 : Nat) : Int) (0 : UInt32) = some (List.replicate (A.length + 1) 0) := by
    unfold mkO
    rw [if_pos (by omega), Int.toNat_natCast]
  rw [w1, hm, kh]
  have key : ∀ (k i : Nat) (x : UInt64 × List UInt32), i + k = A.length → AdI A B i x → loop (F.nat_Add_L1 A B) (x.1, (i : Int), x.2) = some (limbs (val A + val B)) := by
    intro k
    induction k with
    | zero =>
      intro i x hi hx
      obtain ⟨h1, h2, h3⟩ := hx
      have hi' : i = A.length := by omega
      subst hi'
      refine loop_oinr' ?_
      unfold F.nat_Add_L1
      dsimp only
      rw [if_neg (by rw [decide_eq_true_eq]; omega), getO_D (show A.length < x.2.length by omega) 0, kh, olet_eq, Int.toNat_natCast]
      obtain ⟨m, p1, p2, p3⟩ := proper_eq (x.2.set A.length x.1.toUInt32) (by simp; omega)
      rw [p1, kh, p3]
      congr 2
      have e0 : (x.2.set A.length x.1.toUInt32) = (x.2.set A.length x.1.toUInt32).take (A.length + 1) := by rw [List.take_of_length_le (by simp; omega)]
      have e1 : (x.2.set A.length x.1.toUInt32).take A.length = x.2.take A.length := List.take_set_of_le (by omega)
      have e2 : (x.2.set A.length x.1.toUInt32).getD A.length 0 = x.1.toUInt32 := by
        rw [List.getD_eq_getElem?_getD, List.getElem?_set_self (by omega)]; rfl
      have c2 : x.1.toUInt32.toNat = x.1.toNat := by rw [UInt64.toNat_toUInt32]; omega
      rw [e0, val_takeS (by simp; omega), e1, e2, c2, h3, List.take_of_length_le (by omega), List.take_of_length_le hl]
    | succ k ih =>
      intro i x hi hx
      have w4 : wI ((i : Int) + 1) = ((i + 1 : Nat) : Int) := by rw [wI_in (by omega) (by omega)]; rfl
      have hxl := hx.1
      have hst : F.nat_Add_L1 A B (x.1, (i : Int), x.2) = some (.inl ((adS A B x i).1, ((i + 1 : Nat) : Int), (adS A B x i).2)) := by
        unfold F.nat_Add_L1 adS
        dsimp only
        rw [if_pos (decide_eq_true (by omega)), getO_D (show i < A.length by omega) 0, kh]
        by_cases hb : i < B.length
        · rw [if_pos (decide_eq_true (by omega)), getO_D hb 0, kh, olet_eq, if_pos hb]
          unfold F.nat_Add_K2
          rw [getO_D (show i < x.2.length by omega) 0, kh, olet_eq, w4, Int.toNat_natCast]
          rfl
        · rw [if_neg (by rw [decide_eq_true_eq]; omega), if_neg hb]
          unfold F.nat_Add_K2
          rw [getO_D (show i < x.2.length by omega) 0, kh, olet_eq, w4, Int.toNat_natCast]
          rfl
      rw [loop_inl hst]
      exact ih (i + 1) (adS A B x i) (by omega) (adS_inv (by omega) hx)
  exact key A.length 0 (0, List.replicate (A.length + 1) 0) (by omega) ⟨by simp, Nat.zero_le 1, by simp [val]⟩
theorem nAdd_eq (a b : List UInt32) (ha : a.length ≤ 40000000000000) (hb : b.length ≤ 40000000000000) : F.nat_Add a b = some (limbs (val a + val b)) := by
  obtain ⟨m, h1, h2, h3⟩ := value_eq a (by omega)
  obtain ⟨m', h4, h5, h6⟩ := value_eq b (by omega)
  have la : (limbs (val a)).length ≤ a.length := limbs_len_le (val_lt a)
  have lb : (limbs (val b)).length ≤ b.length := limbs_len_le (val_lt b)
  unfold F.nat_Add
  rw [h1, kh, h4, kh, h3, h6]
  by_cases hl : (limbs (val a)).length < (limbs (val b)).length
  · rw [if_pos (decide_eq_true (by omega)), nAdd_K1 _ _ (by omega) (by omega), kC, kC, Nat.add_comm]
  · rw [if_neg (by rw [decide_eq_true_eq]; omega), nAdd_K1 _ _ (by omega) (by omega), kC, kC]
theorem same_nil : F.law11_same [] [] false [] [] false = some true := same_eq [] [] false (by simp) (by simp)
theorem nb_nl {n : Nat} {k : Nat} (h : (limbs n).length ≤ k) : nb n ≤ 32 * k := Nat.le_trans (nb_len n) (Nat.mul_le_mul_left 32 h)
end Go.Gk.Bn
end
