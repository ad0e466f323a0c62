import Derived.Test.YtgjpaedgcpjigaaDoorGkS
set_option linter.unusedVariables false
set_option linter.unusedSimpArgs false
set_option linter.unusedSimpArgs false
namespace Go.Gk
theorem or_add {x y : Nat} (k : Nat) (hx : x % 2 ^ k = 0) (hy : y < 2 ^ k) : x ||| y = x + y := by
  have h1 : x = (x / 2 ^ k) <<< k := by
    rw [Nat.shiftLeft_eq]
    have := Nat.div_add_mod x (2 ^ k)
    rw [hx] at this
    rw [Nat.mul_comm]; omega
  rw [h1, ← Nat.shiftLeft_add_eq_or_of_lt hy]
theorem and_mask (x k : Nat) : x &&& (2 ^ k - 1) = x % 2 ^ k := Nat.and_two_pow_sub_one_eq_mod x k
section
theorem shl64_toNat (x : UInt64) (n : Nat) : (shl64 x n).toNat = x.toNat * 2 ^ (min n 64) % 18446744073709551616 := by simp [shl64, UInt64.toNat_ofNat']
theorem shr64_toNat (x : UInt64) (n : Nat) : (shr64 x n).toNat = x.toNat / 2 ^ (min n 64) := by
  simp only [shr64, UInt64.toNat_ofNat']
  exact Nat.mod_eq_of_lt (Nat.lt_of_le_of_lt (Nat.div_le_self _ _) x.toNat_lt)
theorem shr8_toNat (x : UInt8) (n : Nat) : (shr8 x n).toNat = x.toNat / 2 ^ (min n 8) := by
  simp only [shr8, UInt8.toNat_ofNat']
  exact Nat.mod_eq_of_lt (Nat.lt_of_le_of_lt (Nat.div_le_self _ _) x.toNat_lt)
end
theorem getO_lit0 {τ : Type} (a : τ) (l : List τ) : getO (a :: l) (0 : Int) = some a := by simp [getO]
theorem getO_lt {τ : Type} {l : List τ} {i : Nat} (h : i < l.length) : getO l (i : Int) = some l[i] := by rw [getO_nat]; simp [h]
theorem apO_ok {τ : Type} {l m : List τ} {bytes : Nat} (h : (l.length + m.length) * bytes ≤ 225000000000000) : apO bytes l m = some (l ++ m) := if_pos h
theorem apO1_ok {τ : Type} {l m : List τ} (h : l.length + m.length ≤ 225000000000000) : apO 1 l m = some (l ++ m) := if_pos (by omega)
theorem sadO_ok {l m : List UInt8} (h : l.length + m.length ≤ 9223372036854775807) : sadO l m = some (l ++ m) := if_pos h
theorem slO_ok {τ : Type} {l : List τ} {lo hi : Nat} (h : lo ≤ hi) (h2 : hi ≤ l.length) : slO l (lo : Int) (hi : Int) = some ((l.drop lo).take (hi - lo)) := by
  unfold slO; rw [if_pos (by simp; omega)]; simp
theorem bind_some' {α ρ : Type} (a : α) (k : α → Option ρ) : obind (some a) k = k a := rfl
theorem olet_eq {α ρ : Type} (a : α) (k : α → Option ρ) : olet a k = k a := rfl
end Go.Gk
