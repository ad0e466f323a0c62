import Derived.Test.YtpbgncmffgnohaaGkFref6
import Derived.Test.YtpbgncmffgnohaaGkFref7
import Derived.Test.YtpbgncmffgnohaaGkUA
set_option linter.unusedVariables false
set_option linter.unusedSimpArgs false

section
set_option linter.unusedSimpArgs false
set_option linter.unusedVariables false
namespace Go.Gk.Bn
open Go Go.Gk Go.Gk.Sh
def wrg (m : List UInt32) (l : List (List UInt32)) : Int := if (l.any fun a => decide (128 < (limbs (val a)).length)) = true then 10 else if 128 < (limbs (val m)).length then 10 else if val m ≤ 1 then 60 else 0
end Go.Gk.Bn
end

section
set_option linter.unusedSimpArgs false
set_option linter.unusedVariables false
namespace Go.Gk.Bn
open Go Go.Gk Go.Gk.Sh
def mnW (u v : UInt32) (c : UInt64) : UInt32 := if u.toUInt64 < v.toUInt64 + c then ((u.toUInt64 + 4294967296) - (v.toUInt64 + c)).toUInt32 else (u.toUInt64 - (v.toUInt64 + c)).toUInt32
def mnC (u v : UInt32) (c : UInt64) : UInt64 := if u.toUInt64 < v.toUInt64 + c then 1 else 0
def mnS (a b : List UInt32) (x : List UInt32 × UInt64) (i : Nat) : List UInt32 × UInt64 := (x.1 ++ [mnW (a.getD i 0) (b.getD i 0) x.2], mnC (a.getD i 0) (b.getD i 0) x.2)
theorem word_bit (l : List UInt32) (i : Nat) : (l.getD (i / 32) 0).toNat / 2 ^ (i % 32) % 2 = val l / 2 ^ i % 2 := by
  have h1 : (2 : Nat) ^ i = 4294967296 ^ (i / 32) * 2 ^ (i % 32) := by
    rw [show (4294967296 : Nat) = 2 ^ 32 from rfl, ← Nat.pow_mul, ← Nat.pow_add]; congr 1; omega
  rw [h1, ← Nat.div_div_eq_div_mul, val_div, val_drop]
  obtain ⟨R, hR⟩ : ∃ R, val (l.drop (i / 32 + 1)) = R := ⟨_, rfl⟩
  obtain ⟨w, hw⟩ : ∃ w, (l.getD (i / 32) 0).toNat = w := ⟨_, rfl⟩
  obtain ⟨s, hs⟩ : ∃ s, i % 32 = s := ⟨_, rfl⟩
  rw [hR, hw, hs]
  have hp := pow_split (s := s) (by omega)
  rw [← hp, Nat.mul_assoc, Nat.add_mul_div_left _ _ (Nat.two_pow_pos s)]
  have h2 : (2 : Nat) ^ (32 - s) = 2 * 2 ^ (32 - s - 1) := by rw [Nat.mul_comm, ← Nat.pow_succ]; congr 1; omega
  rw [h2, Nat.mul_assoc]
  omega
def dbS (x : UInt32 × List UInt32) (k : Nat) : UInt32 × List UInt32 := (shr32 (x.2.getD k 0) 31, x.2.set k ((shl32 (x.2.getD k 0) 1) ||| x.1))
def DBI (r : List UInt32) (c k : Nat) (x : UInt32 × List UInt32) : Prop :=
  x.2.length = r.length ∧ (∀ j, k ≤ j → x.2.getD j 0 = r.getD j 0) ∧ val x.2 + 4294967296 ^ k * x.1.toNat = val r + val (r.take k) + c ∧ x.1.toNat ≤ 1
def tkS (d : List UInt32) (x : UInt64 × List UInt32) (k : Nat) : UInt64 × List UInt32 := (mnC (x.2.getD k 0) (d.getD k 0) x.1, x.2.set k (mnW (x.2.getD k 0) (d.getD k 0) x.1))
def TKI (d r : List UInt32) (k : Nat) (x : UInt64 × List UInt32) : Prop :=
  x.2.length = r.length ∧ (∀ j, k ≤ j → x.2.getD j 0 = r.getD j 0) ∧ val x.2 + val (d.take k) = val r + 4294967296 ^ k * x.1.toNat ∧ x.1.toNat ≤ 1
end Go.Gk.Bn
end
