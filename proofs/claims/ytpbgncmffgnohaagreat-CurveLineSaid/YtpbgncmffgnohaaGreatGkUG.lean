import Derived.Test.YtpbgncmffgnohaaGreatGkFcurve
import Derived.Test.YtpbgncmffgnohaaGreatGkUE
import Derived.Test.YtpbgncmffgnohaaGreatGkFref11
import Derived.Test.YtpbgncmffgnohaaGreatGkFlaw11
set_option linter.unusedVariables false
set_option linter.unusedSimpArgs false

section
set_option linter.unusedSimpArgs false
set_option linter.unusedVariables false
namespace Go.Gk.Bn
open Go Go.Gk Go.Gk.Sh
def sP256 : List UInt8 := [102, 102, 102, 102, 102, 102, 102, 102, 48, 48, 48, 48, 48, 48, 48, 49, 48, 48, 48, 48, 48, 48, 48, 48, 48, 48, 48, 48, 48, 48, 48, 48, 48, 48, 48, 48, 48, 48, 48, 48, 102, 102, 102, 102, 102, 102, 102, 102, 102, 102, 102, 102, 102, 102, 102, 102, 102, 102, 102, 102, 102, 102, 102, 102]
def vP256 : Nat := 0xffffffff00000001000000000000000000000000ffffffffffffffffffffffff
theorem sP256_ok : (sP256.all hexOk && Nat.beq (hexN sP256) vP256 && Nat.beq sP256.length 64) = true := by decide +kernel
def sB256 : List UInt8 := [53, 97, 99, 54, 51, 53, 100, 56, 97, 97, 51, 97, 57, 51, 101, 55, 98, 51, 101, 98, 98, 100, 53, 53, 55, 54, 57, 56, 56, 54, 98, 99, 54, 53, 49, 100, 48, 54, 98, 48, 99, 99, 53, 51, 98, 48, 102, 54, 51, 98, 99, 101, 51, 99, 51, 101, 50, 55, 100, 50, 54, 48, 52, 98]
def vB256 : Nat := 0x5ac635d8aa3a93e7b3ebbd55769886bc651d06b0cc53b0f63bce3c3e27d2604b
theorem sB256_ok : (sB256.all hexOk && Nat.beq (hexN sB256) vB256 && Nat.beq sB256.length 64) = true := by decide +kernel
def sN256 : List UInt8 := [102, 102, 102, 102, 102, 102, 102, 102, 48, 48, 48, 48, 48, 48, 48, 48, 102, 102, 102, 102, 102, 102, 102, 102, 102, 102, 102, 102, 102, 102, 102, 102, 98, 99, 101, 54, 102, 97, 97, 100, 97, 55, 49, 55, 57, 101, 56, 52, 102, 51, 98, 57, 99, 97, 99, 50, 102, 99, 54, 51, 50, 53, 53, 49]
def vN256 : Nat := 0xffffffff00000000ffffffffffffffffbce6faada7179e84f3b9cac2fc632551
theorem sN256_ok : (sN256.all hexOk && Nat.beq (hexN sN256) vN256 && Nat.beq sN256.length 64) = true := by decide +kernel
def sX256 : List UInt8 := [54, 98, 49, 55, 100, 49, 102, 50, 101, 49, 50, 99, 52, 50, 52, 55, 102, 56, 98, 99, 101, 54, 101, 53, 54, 51, 97, 52, 52, 48, 102, 50, 55, 55, 48, 51, 55, 100, 56, 49, 50, 100, 101, 98, 51, 51, 97, 48, 102, 52, 97, 49, 51, 57, 52, 53, 100, 56, 57, 56, 99, 50, 57, 54]
def vX256 : Nat := 0x6b17d1f2e12c4247f8bce6e563a440f277037d812deb33a0f4a13945d898c296
theorem sX256_ok : (sX256.all hexOk && Nat.beq (hexN sX256) vX256 && Nat.beq sX256.length 64) = true := by decide +kernel
def sY256 : List UInt8 := [52, 102, 101, 51, 52, 50, 101, 50, 102, 101, 49, 97, 55, 102, 57, 98, 56, 101, 101, 55, 101, 98, 52, 97, 55, 99, 48, 102, 57, 101, 49, 54, 50, 98, 99, 101, 51, 51, 53, 55, 54, 98, 51, 49, 53, 101, 99, 101, 99, 98, 98, 54, 52, 48, 54, 56, 51, 55, 98, 102, 53, 49, 102, 53]
def vY256 : Nat := 0x4fe342e2fe1a7f9b8ee7eb4a7c0f9e162bce33576b315ececbb6406837bf51f5
theorem sY256_ok : (sY256.all hexOk && Nat.beq (hexN sY256) vY256 && Nat.beq sY256.length 64) = true := by decide +kernel
def sP384 : List UInt8 := [102, 102, 102, 102, 102, 102, 102, 102, 102, 102, 102, 102, 102, 102, 102, 102, 102, 102, 102, 102, 102, 102, 102, 102, 102, 102, 102, 102, 102, 102, 102, 102, 102, 102, 102, 102, 102, 102, 102, 102, 102, 102, 102, 102, 102, 102, 102, 102, 102, 102, 102, 102, 102, 102, 102, 102, 102, 102, 102, 102, 102, 102, 102, 101, 102, 102, 102, 102, 102, 102, 102, 102, 48, 48, 48, 48, 48, 48, 48, 48, 48, 48, 48, 48, 48, 48, 48, 48, 102, 102, 102, 102, 102, 102, 102, 102]
def vP384 : Nat := 0xfffffffffffffffffffffffffffffffffffffffffffffffffffffffffffffffeffffffff0000000000000000ffffffff
theorem sP384_ok : (sP384.all hexOk && Nat.beq (hexN sP384) vP384 && Nat.beq sP384.length 96) = true := by decide +kernel
def sB384 : List UInt8 := [98, 51, 51, 49, 50, 102, 97, 55, 101, 50, 51, 101, 101, 55, 101, 52, 57, 56, 56, 101, 48, 53, 54, 98, 101, 51, 102, 56, 50, 100, 49, 57, 49, 56, 49, 100, 57, 99, 54, 101, 102, 101, 56, 49, 52, 49, 49, 50, 48, 51, 49, 52, 48, 56, 56, 102, 53, 48, 49, 51, 56, 55, 53, 97, 99, 54, 53, 54, 51, 57, 56, 100, 56, 97, 50, 101, 100, 49, 57, 100, 50, 97, 56, 53, 99, 56, 101, 100, 100, 51, 101, 99, 50, 97, 101, 102]
def vB384 : Nat := 0xb3312fa7e23ee7e4988e056be3f82d19181d9c6efe8141120314088f5013875ac656398d8a2ed19d2a85c8edd3ec2aef
theorem sB384_ok : (sB384.all hexOk && Nat.beq (hexN sB384) vB384 && Nat.beq sB384.length 96) = true := by decide +kernel
def sN384 : List UInt8 := [102, 102, 102, 102, 102, 102, 102, 102, 102, 102, 102, 102, 102, 102, 102, 102, 102, 102, 102, 102, 102, 102, 102, 102, 102, 102, 102, 102, 102, 102, 102, 102, 102, 102, 102, 102, 102, 102, 102, 102, 102, 102, 102, 102, 102, 102, 102, 102, 99, 55, 54, 51, 52, 100, 56, 49, 102, 52, 51, 55, 50, 100, 100, 102, 53, 56, 49, 97, 48, 100, 98, 50, 52, 56, 98, 48, 97, 55, 55, 97, 101, 99, 101, 99, 49, 57, 54, 97, 99, 99, 99, 53, 50, 57, 55, 51]
def vN384 : Nat := 0xffffffffffffffffffffffffffffffffffffffffffffffffc7634d81f4372ddf581a0db248b0a77aecec196accc52973
theorem sN384_ok : (sN384.all hexOk && Nat.beq (hexN sN384) vN384 && Nat.beq sN384.length 96) = true := by decide +kernel
def sX384 : List UInt8 := [97, 97, 56, 55, 99, 97, 50, 50, 98, 101, 56, 98, 48, 53, 51, 55, 56, 101, 98, 49, 99, 55, 49, 101, 102, 51, 50, 48, 97, 100, 55, 52, 54, 101, 49, 100, 51, 98, 54, 50, 56, 98, 97, 55, 57, 98, 57, 56, 53, 57, 102, 55, 52, 49, 101, 48, 56, 50, 53, 52, 50, 97, 51, 56, 53, 53, 48, 50, 102, 50, 53, 100, 98, 102, 53, 53, 50, 57, 54, 99, 51, 97, 53, 52, 53, 101, 51, 56, 55, 50, 55, 54, 48, 97, 98, 55]
def vX384 : Nat := 0xaa87ca22be8b05378eb1c71ef320ad746e1d3b628ba79b9859f741e082542a385502f25dbf55296c3a545e3872760ab7
theorem sX384_ok : (sX384.all hexOk && Nat.beq (hexN sX384) vX384 && Nat.beq sX384.length 96) = true := by decide +kernel
def sY384 : List UInt8 := [51, 54, 49, 55, 100, 101, 52, 97, 57, 54, 50, 54, 50, 99, 54, 102, 53, 100, 57, 101, 57, 56, 98, 102, 57, 50, 57, 50, 100, 99, 50, 57, 102, 56, 102, 52, 49, 100, 98, 100, 50, 56, 57, 97, 49, 52, 55, 99, 101, 57, 100, 97, 51, 49, 49, 51, 98, 53, 102, 48, 98, 56, 99, 48, 48, 97, 54, 48, 98, 49, 99, 101, 49, 100, 55, 101, 56, 49, 57, 100, 55, 97, 52, 51, 49, 100, 55, 99, 57, 48, 101, 97, 48, 101, 53, 102]
def vY384 : Nat := 0x3617de4a96262c6f5d9e98bf9292dc29f8f41dbd289a147ce9da3113b5f0b8c00a60b1ce1d7e819d7a431d7c90ea0e5f
theorem sY384_ok : (sY384.all hexOk && Nat.beq (hexN sY384) vY384 && Nat.beq sY384.length 96) = true := by decide +kernel
def cP (c : Int) : Nat := if c = 1 then vP256 else vP384
def cB (c : Int) : Nat := if c = 1 then vB256 else vB384
def cN (c : Int) : Nat := if c = 1 then vN256 else vN384
def cX (c : Int) : Nat := if c = 1 then vX256 else vX384
def cY (c : Int) : Nat := if c = 1 then vY256 else vY384
def cS (c : Int) : Int := if c = 1 then 32 else 48
theorem c_small (c : Int) : cP c < 4294967296 ^ 12 ∧ cB c < cP c ∧ cN c < cP c ∧ cX c < cP c ∧ cY c < cP c ∧ 4 < cP c ∧ 4 < cN c := by
  unfold cP cB cN cX cY
  by_cases h : c = 1
  · simp only [if_pos h]; decide +kernel
  · simp only [if_neg h]; decide +kernel
theorem cP_nl (c : Int) : nl (cP c : Int) ≤ 12 := nl_le (by have := (c_small c).1; omega)
theorem number_eq (s : List UInt8) (v m : Nat) (h : (s.all hexOk && Nat.beq (hexN s) v && Nat.beq s.length m) = true) (hm : 0 < m) (hm2 : m ≤ 1000) : F.curve_number s = some ((bi (v : Int)).1, (bi (v : Int)).2) := by
  simp only [Bool.and_eq_true] at h
  have hl := Nat.eq_of_beq_eq_true h.2
  unfold F.curve_number
  rw [SetString_eq _ _ s h.1.1 (by intro h0; rw [h0] at hl; simp at hl; omega) (by omega), kh, Nat.eq_of_beq_eq_true h.1.2, bi_nat]
def gT (c : Int) : Bool × List UInt32 × Bool × List UInt32 × Bool × List UInt32 × Bool × List UInt32 × Bool × List UInt32 × Int :=
  ((bi (cP c : Int)).1, (bi (cP c : Int)).2, (bi (cB c : Int)).1, (bi (cB c : Int)).2, (bi (cN c : Int)).1, (bi (cN c : Int)).2, (bi (cX c : Int)).1, (bi (cX c : Int)).2, (bi (cY c : Int)).1, (bi (cY c : Int)).2, cS c)
theorem p256_eq : F.curve_p256 = some (gT 1) := by
  have h : F.curve_p256 = obind (F.curve_number sP256) fun x_1 => obind (F.curve_number sB256) fun x_6 => obind (F.curve_number sN256) fun x_11 => obind (F.curve_number sX256) fun x_16 => obind (F.curve_number sY256) fun x_21 =>
      some (x_1.1, x_1.2, x_6.1, x_6.2, x_11.1, x_11.2, x_16.1, x_16.2, x_21.1, x_21.2, 32) := rfl
  rw [h, number_eq _ _ _ sP256_ok (by decide) (by decide), kh, number_eq _ _ _ sB256_ok (by decide) (by decide), kh, number_eq _ _ _ sN256_ok (by decide) (by decide), kh, number_eq _ _ _ sX256_ok (by decide) (by decide), kh, number_eq _ _ _ sY256_ok (by decide) (by decide), kh]
  rfl
theorem p384_eq : F.curve_p384 = some (gT 2) := by
  have h : F.curve_p384 = obind (F.curve_number sP384) fun x_1 => obind (F.curve_number sB384) fun x_6 => obind (F.curve_number sN384) fun x_11 => obind (F.curve_number sX384) fun x_16 => obind (F.curve_number sY384) fun x_21 =>
      some (x_1.1, x_1.2, x_6.1, x_6.2, x_11.1, x_11.2, x_16.1, x_16.2, x_21.1, x_21.2, 48) := rfl
  rw [h, number_eq _ _ _ sP384_ok (by decide) (by decide), kh, number_eq _ _ _ sB384_ok (by decide) (by decide), kh, number_eq _ _ _ sN384_ok (by decide) (by decide), kh, number_eq _ _ _ sX384_ok (by decide) (by decide), kh, number_eq _ _ _ sY384_ok (by decide) (by decide), kh]
  rfl
def isC (c : Int) : Prop := c = 1 ∨ c = 2
instance (c : Int) : Decidable (isC c) := by unfold isC; infer_instance
theorem of_eq (c : Int) : F.curve_of c = some (if isC c then some (gT c) else none) := by
  unfold F.curve_of
  by_cases h1 : c = 1
  · subst h1; rw [if_pos (by rfl), p256_eq, kh, if_pos (.inl rfl)]
  · rw [if_neg (by simpa using h1)]
    by_cases h2 : c = 2
    · subst h2; rw [if_pos (by rfl), p384_eq, kh, if_pos (.inr rfl)]
    · rw [if_neg (by simpa using h2), if_neg (by unfold isC; omega)]
section
variable (p : Nat) (b0 : Bool) (b1 : List UInt32) (n0 : Bool) (n1 : List UInt32) (x0 : Bool) (x1 : List UInt32) (y0 : Bool) (y1 : List UInt32) (s : Int)
theorem gmod_eq (hp : 0 < p) (hpl : nl (p : Int) ≤ 1000) (z : Int) (hz : nl z ≤ 70368744177660) (hz2 : z < 0 → nl z ≤ 70000000000000) :
    F.curve_group_mod (bi (p : Int)).1 (bi (p : Int)).2 b0 b1 n0 n1 x0 x1 y0 y1 s (bi z).1 (bi z).2 = some (bi (z % p)) := by
  unfold F.curve_group_mod
  rw [Mod_a10_eq z p (by omega) hz (by omega) hz2, kh]
theorem gmul_eq (hp : 0 < p) (hpl : nl (p : Int) ≤ 1000) (u v : Int) (h : nl u + nl v ≤ 70368744177660) (h2 : u * v < 0 → nl u + nl v ≤ 70000000000000) :
    F.curve_group_mul (bi (p : Int)).1 (bi (p : Int)).2 b0 b1 n0 n1 x0 x1 y0 y1 s (bi u).1 (bi u).2 (bi v).1 (bi v).2 = some (bi (u * v % p)) := by
  have hm := nl_mul u v
  unfold F.curve_group_mul
  rw [Mul_eq _ _ u v (by omega), kh, gmod_eq p b0 b1 n0 n1 x0 x1 y0 y1 s hp hpl _ (by omega) (fun h0 => by have := h2 h0; omega), kh]
theorem gsub_eq (hp : 0 < p) (hpl : nl (p : Int) ≤ 1000) (u v : Int) (hu : nl u ≤ 60000000000000) (hv : nl v ≤ 60000000000000) :
    F.curve_group_sub (bi (p : Int)).1 (bi (p : Int)).2 b0 b1 n0 n1 x0 x1 y0 y1 s (bi u).1 (bi u).2 (bi v).1 (bi v).2 = some (bi ((u - v) % p)) := by
  have hm := nl_sub u v
  unfold F.curve_group_sub
  rw [Sub_eq _ _ u v (by omega) (by omega), kh, gmod_eq p b0 b1 n0 n1 x0 x1 y0 y1 s hp hpl _ (by omega) (fun _ => by omega), kh]
theorem gtimes_eq (hp : 0 < p) (hpl : nl (p : Int) ≤ 1000) (k v : Int) (hk : 0 ≤ k) (hk2 : k ≤ 1000) (hv : 0 ≤ v) (h : nl v ≤ 70368744177600) :
    F.curve_group_times (bi (p : Int)).1 (bi (p : Int)).2 b0 b1 n0 n1 x0 x1 y0 y1 s k (bi v).1 (bi v).2 = some (bi (k * v % p)) := by
  have hk3 : nl k ≤ 1 := nl_le (by omega)
  unfold F.curve_group_times
  rw [NewInt_eq k (by omega) (by omega), kh, gmul_eq p b0 b1 n0 n1 x0 x1 y0 y1 s hp hpl k v (by omega) (fun h0 => by have := Int.mul_nonneg hk hv; omega), kh]
end
def onN (p b x y : Nat) : Bool := decide (x < p) && (decide (y < p) && decide (y * y % p = ((x * (x * x % p) % p + p - 3 * x % p) % p + b) % p))
theorem sub_mod_cast (p A B : Nat) (hA : A < p) (hB : B < p) : ((A : Int) - (B : Int)) % (p : Int) = (((A + p - B) % p : Nat) : Int) := by
  rw [Int.natCast_emod, show (((A + p - B : Nat) : Int)) = (A : Int) - B + p by omega, Int.add_emod_right]
theorem on_eq (p b : Nat) (n0 : Bool) (n1 : List UInt32) (x0 : Bool) (x1 : List UInt32) (y0 : Bool) (y1 : List UInt32) (s : Int) (hp : 0 < p) (hpl : nl (p : Int) ≤ 1000) (hb : b < p) (x y : Nat) (hx : nl (x : Int) ≤ 35184372087808) (hy : nl (y : Int) ≤ 35184372087808) :
    F.curve_group_on (bi (p : Int)).1 (bi (p : Int)).2 (bi (b : Int)).1 (bi (b : Int)).2 n0 n1 x0 x1 y0 y1 s (bi (x : Int)).1 (bi (x : Int)).2 (bi (y : Int)).1 (bi (y : Int)).2 = some (onN p b x y) := by
  have hp' : (0 : Int) < (p : Int) := by omega
  have hbl : nl (b : Int) ≤ 1000 := Nat.le_trans (nl_mono (by omega)) hpl
  have m1 := nl_mod ((x : Int) * x) hp'
  have q1 := Int.mul_nonneg (Int.natCast_nonneg x) (Int.natCast_nonneg x)
  have q2 := Int.emod_nonneg ((x : Int) * x) (show (p : Int) ≠ 0 by omega)
  have q3 := Int.mul_nonneg (Int.natCast_nonneg x) q2
  unfold F.curve_group_on
  rw [gmul_eq p _ _ n0 n1 x0 x1 y0 y1 s hp hpl _ _ (by omega) (fun h => by omega), kh, gmul_eq p _ _ n0 n1 x0 x1 y0 y1 s hp hpl _ _ (by omega) (fun h => by omega), kh,
    gtimes_eq p _ _ n0 n1 x0 x1 y0 y1 s hp hpl 3 _ (by decide) (by decide) (Int.natCast_nonneg x) (by omega), kh]
  have m2 := nl_mod ((x : Int) * ((x : Int) * x % p)) hp'
  have m3 := nl_mod (3 * (x : Int)) hp'
  have e2 : (x : Int) * ((x : Int) * x % p) % p = ((x * (x * x % p) % p : Nat) : Int) := by rw [Int.natCast_emod, Int.natCast_mul, Int.natCast_emod, Int.natCast_mul]
  have e3 : 3 * (x : Int) % p = ((3 * x % p : Nat) : Int) := by rw [Int.natCast_emod, Int.natCast_mul]; rfl
  obtain ⟨A, hA⟩ : ∃ A, x * (x * x % p) % p = A := ⟨_, rfl⟩
  obtain ⟨B, hB⟩ : ∃ B, 3 * x % p = B := ⟨_, rfl⟩
  have hAp : A < p := by rw [← hA]; exact Nat.mod_lt _ hp
  have hBp : B < p := by rw [← hB]; exact Nat.mod_lt _ hp
  rw [e2, hA] at m2 ⊢
  rw [e3, hB] at m3 ⊢
  rw [gsub_eq p _ _ n0 n1 x0 x1 y0 y1 s hp hpl _ _ (by omega) (by omega), kh, sub_mod_cast p A B hAp hBp]
  obtain ⟨D, hD⟩ : ∃ D, (A + p - B) % p = D := ⟨_, rfl⟩
  have hDp : D < p := by rw [← hD]; exact Nat.mod_lt _ hp
  have m4 : nl (D : Int) ≤ 1000 := Nat.le_trans (nl_mono (by omega)) hpl
  have m5 := nl_add (D : Int) (b : Int)
  rw [hD, Add_a10_eq _ _ (by omega) (by omega), kh, gmod_eq p _ _ n0 n1 x0 x1 y0 y1 s hp hpl _ (by omega) (fun _ => by omega), kh, Cmp_eq _ _ (by omega) (by omega), kh]
  unfold onN
  rw [hA, hB, hD]
  have cm : ∀ u v : Nat, decide (cmpZ (u : Int) (v : Int) < 0) = decide (u < v) := fun u v => by
    unfold cmpZ
    by_cases h : u < v
    · rw [if_pos (by omega), decide_eq_true h]; rfl
    · rw [if_neg (by omega), decide_eq_false h]; split <;> rfl
  rw [cm]
  by_cases h1 : x < p
  · rw [decide_eq_true h1, if_pos rfl, Cmp_eq _ _ (by omega) (by omega), kh, cm]
    by_cases h2 : y < p
    · have hyl : nl (y : Int) ≤ 1000 := Nat.le_trans (nl_mono (by omega)) hpl
      have q4 := Int.mul_nonneg (Int.natCast_nonneg y) (Int.natCast_nonneg y)
      have m6 := nl_mod ((y : Int) * y) hp'
      have m7 := nl_mod ((D : Int) + b) hp'
      rw [decide_eq_true h2, if_pos rfl, gmul_eq p _ _ n0 n1 x0 x1 y0 y1 s hp hpl _ _ (by omega) (fun h => by omega), kh, Cmp_eq _ _ (by omega) (by omega), kh]
      have e6 : (y : Int) * y % p = ((y * y % p : Nat) : Int) := by rw [Int.natCast_emod, Int.natCast_mul]
      have e7 : ((D : Int) + b) % p = (((D + b) % p : Nat) : Int) := by rw [Int.natCast_emod, Int.natCast_add]
      rw [e6, e7]
      unfold cmpZ
      congr 1
      by_cases h3 : y * y % p = (D + b) % p
      · rw [h3, if_neg (by omega), if_pos rfl]; simp
      · rw [Bool.true_and, Bool.true_and, decide_eq_false h3, beq_eq_false_iff_ne]
        split
        · omega
        · rw [if_neg (by omega)]; omega
    · rw [decide_eq_false h2, if_neg (by decide)]; rfl
  · rw [decide_eq_false h1, if_neg (by decide)]; rfl
theorem in_eq (a : List UInt32) (ha : a.length ≤ 35184372087808) : F.curve_in a = some (bi (val a : Int)) := by
  have h1 := nb_len (val a)
  have h2 : (limbs (val a)).length ≤ a.length := limbs_len_le (val_lt a)
  have h3 : nby (val a) ≤ 4 * a.length := by unfold nby; omega
  unfold F.curve_in
  rw [nBytes_eq a ha, kh, SetBytes_eq _ _ _ (by rw [beB_len]; omega), kh, beN_beB, Nat.mod_eq_of_lt (nby_lt _)]
theorem out_eq (n : Nat) (hn : nl (n : Int) ≤ 1000000000) : F.curve_out (bi (n : Int)).1 (bi (n : Int)).2 = some (limbs n) := by
  have h1 := nb_len n
  have h2 : (limbs n).length ≤ 1000000000 := by have := hn; unfold nl at this; rwa [Int.natAbs_natCast] at this
  have h3 : nby n ≤ 4 * (limbs n).length := by unfold nby; omega
  unfold F.curve_out
  rw [Bytes_eq _ hn, kh, Int.natAbs_natCast, FromBytes_eq _ (by rw [beB_len]; omega), kh, beN_beB, Nat.mod_eq_of_lt (nby_lt _)]
theorem nl_val (a : List UInt32) : nl (val a : Int) ≤ a.length := by unfold nl; rw [Int.natAbs_natCast]; exact limbs_len_le (val_lt a)
def onS (c : Int) (X Y : List UInt32) (inf : Bool) : Bool := if isC c then (if inf then decide (val X = 0) && decide (val Y = 0) else onN (cP c) (cB c) (val X) (val Y)) else false
def rdT (X Y : List UInt32) (inf : Bool) : Bool × List UInt32 × Bool × List UInt32 × Bool × List UInt32 :=
  if inf then (false, [], false, [], false, []) else ((bi (val X : Int)).1, (bi (val X : Int)).2, (bi (val Y : Int)).1, (bi (val Y : Int)).2, (bi 1).1, (bi 1).2)
theorem read_eq (c : Int) (hc : isC c) (X Y : List UInt32) (inf : Bool) (hX : X.length ≤ 35184372087808) (hY : Y.length ≤ 35184372087808) :
    F.curve_group_read (gT c).1 (gT c).2.1 (gT c).2.2.1 (gT c).2.2.2.1 (gT c).2.2.2.2.1 (gT c).2.2.2.2.2.1 (gT c).2.2.2.2.2.2.1 (gT c).2.2.2.2.2.2.2.1 (gT c).2.2.2.2.2.2.2.2.1 (gT c).2.2.2.2.2.2.2.2.2.1 (gT c).2.2.2.2.2.2.2.2.2.2 X Y inf =
      some ((rdT X Y inf).1, (rdT X Y inf).2.1, (rdT X Y inf).2.2.1, (rdT X Y inf).2.2.2.1, (rdT X Y inf).2.2.2.2.1, (rdT X Y inf).2.2.2.2.2, onS c X Y inf) := by
  obtain ⟨s1, s2, _, _, _, s6, _⟩ := c_small c
  have hp := cP_nl c
  unfold F.curve_group_read
  rw [in_eq X hX, kh, in_eq Y hY, kh]
  unfold onS rdT
  rw [if_pos hc]
  cases inf with
  | true =>
    have sg : ∀ v : Nat, (if ((v : Int)) = 0 then (0 : Int) else if (v : Int) < 0 then -1 else 1) = if v = 0 then 0 else 1 := fun v => by
      by_cases h : v = 0
      · rw [if_pos (by omega), if_pos h]
      · rw [if_neg (by omega), if_neg (by omega), if_neg h]
    have sgd : ∀ v : Nat, ((if v = 0 then (0 : Int) else 1) == 0) = decide (v = 0) := fun v => by
      by_cases h : v = 0
      · rw [if_pos h, decide_eq_true h]; rfl
      · rw [if_neg h, decide_eq_false h]; rfl
    rw [if_pos rfl]
    unfold F.curve_infinity
    rw [kh, Sign_eq, kh, sg]
    show _ = some (false, [], false, [], false, [], decide (val X = 0) && decide (val Y = 0))
    by_cases h1 : val X = 0
    · rw [if_pos h1, if_pos (by rfl), Sign_eq, kh, sg, sgd, decide_eq_true h1, Bool.true_and]
    · rw [if_neg h1, if_neg (by decide), decide_eq_false h1, Bool.false_and]
  | false =>
    rw [if_neg (by decide), NewInt_eq 1 (by decide) (by decide), kh]
    have h := on_eq (cP c) (cB c) (bi (cN c : Int)).1 (bi (cN c : Int)).2 (bi (cX c : Int)).1 (bi (cX c : Int)).2 (bi (cY c : Int)).1 (bi (cY c : Int)).2 (cS c) (by omega) (by omega) s2 (val X) (val Y) (Nat.le_trans (nl_val X) hX) (Nat.le_trans (nl_val Y) hY)
    unfold gT
    dsimp only
    rw [h, kh]
    simp
theorem take_eq2 (c : Int) (X Y : List UInt32) (inf : Bool) (hX : X.length ≤ 35184372087808) (hY : Y.length ≤ 35184372087808) :
    F.curve_take c X Y inf = some (if isC c then some ((gT c).1, (gT c).2.1, (gT c).2.2.1, (gT c).2.2.2.1, (gT c).2.2.2.2.1, (gT c).2.2.2.2.2.1, (gT c).2.2.2.2.2.2.1, (gT c).2.2.2.2.2.2.2.1, (gT c).2.2.2.2.2.2.2.2.1, (gT c).2.2.2.2.2.2.2.2.2.1, (gT c).2.2.2.2.2.2.2.2.2.2,
      (rdT X Y inf).1, (rdT X Y inf).2.1, (rdT X Y inf).2.2.1, (rdT X Y inf).2.2.2.1, (rdT X Y inf).2.2.2.2.1, (rdT X Y inf).2.2.2.2.2) else none, onS c X Y inf) := by
  unfold F.curve_take
  rw [of_eq, kh]
  by_cases h : isC c
  · rw [if_pos h, if_pos h]
    show obind (F.curve_group_read _ _ _ _ _ _ _ _ _ _ _ _ _ _) _ = _
    rw [read_eq c h X Y inf hX hY, kh]
  · rw [if_neg h, if_neg h]
    unfold onS
    rw [if_neg h]; rfl
theorem On_eq (c : Int) (X Y : List UInt32) (inf : Bool) (hX : X.length ≤ 35184372087808) (hY : Y.length ≤ 35184372087808) : F.curve_On c X Y inf = some (onS c X Y inf) := by
  unfold F.curve_On
  rw [take_eq2 c X Y inf hX hY, kh]
  dsimp only
  split <;> rfl
theorem small_nl (c : Int) {v : Nat} (h : v < cP c) : nl (v : Int) ≤ 1000000000 := by
  have := Nat.le_trans (nl_mono (show ((v : Int)).natAbs ≤ ((cP c : Int)).natAbs by omega)) (cP_nl c)
  omega
theorem Field_eq (c : Int) : F.curve_Field c = some (if isC c then limbs (cP c) else []) := by
  have hp := cP_nl c
  unfold F.curve_Field
  rw [of_eq, kh]
  by_cases h : isC c
  · rw [if_pos h, if_pos h]
    show obind (F.curve_out _ _) _ = _
    rw [show (gT c).1 = (bi (cP c : Int)).1 from rfl, show (gT c).2.1 = (bi (cP c : Int)).2 from rfl, out_eq _ (by omega), kh]
  · rw [if_neg h, if_neg h]; rfl
theorem Base_eq (c : Int) : F.curve_Base c = some (if isC c then (limbs (cX c), limbs (cY c), false) else ([], [], false)) := by
  unfold F.curve_Base
  rw [of_eq, kh]
  by_cases h : isC c
  · rw [if_pos h, if_pos h]
    show obind (F.curve_out _ _) _ = _
    rw [show (gT c).2.2.2.2.2.2.1 = (bi (cX c : Int)).1 from rfl, show (gT c).2.2.2.2.2.2.2.1 = (bi (cX c : Int)).2 from rfl, out_eq _ (small_nl c (c_small c).2.2.2.1), kh,
      show (gT c).2.2.2.2.2.2.2.2.1 = (bi (cY c : Int)).1 from rfl, show (gT c).2.2.2.2.2.2.2.2.2.1 = (bi (cY c : Int)).2 from rfl, out_eq _ (small_nl c (c_small c).2.2.2.2.1), kh]
  · rw [if_neg h, if_neg h]; rfl
end Go.Gk.Bn
end

section
set_option linter.unusedSimpArgs false
set_option linter.unusedVariables false
namespace Go.Gk.Bn
open Go Go.Gk Go.Gk.Sh
theorem limbs12 (c : Int) {v : Nat} (h : v ≤ cP c) : (limbs v).length ≤ 12 := limbs_len_le (by have := (c_small c).1; omega)
end Go.Gk.Bn
end

section
set_option linter.unusedSimpArgs false
set_option linter.unusedVariables false
namespace Go.Gk.Bn
open Go Go.Gk Go.Gk.Sh
theorem loop_up0 {ρ : Type} {f : Int → Option (Int ⊕ ρ)} {n : Nat} {r : ρ} (hstep : ∀ i : Nat, i < n → f (i : Int) = some (.inl ((i : Int) + 1))) (hend : f (n : Int) = some (.inr r)) : loop f 0 = some r := by
  have := loop_up hstep hend 0 (Nat.zero_le _)
  simpa using this
theorem sameNat_eq (a : List UInt32) (ha : a.length ≤ 4611686018427387904) : F.law11_sameNat a a = some true := by
  unfold F.law11_sameNat
  rw [if_neg (by simp)]
  refine loop_up0 (n := a.length) (fun i hi => ?_) ?_
  · unfold F.law11_sameNat_L1
    rw [if_pos (decide_eq_true (by omega)), getO_D hi 0, kh, kh, if_neg (by simp), wI_in (by omega) (by omega)]; rfl
  · unfold F.law11_sameNat_L1
    rw [if_neg (by simp)]; rfl
theorem same_eq (a b : List UInt32) (q : Bool) (ha : a.length ≤ 4611686018427387904) (hb : b.length ≤ 4611686018427387904) : F.law11_same a b q a b q = some true := by
  unfold F.law11_same
  rw [if_pos (by simp), sameNat_eq a ha, kh, if_pos rfl, sameNat_eq b hb, kh]
end Go.Gk.Bn
end
