import Derived.Test.YtpbgncmffgnohaaGreatGkS
import Derived.Test.YtpbgncmffgnohaaGreatGkFsha
import Derived.Test.YtpbgncmffgnohaaGreatGkFref4
set_option linter.unusedVariables false
set_option linter.unusedSimpArgs false

section
set_option linter.unusedSimpArgs false
namespace Go.Gk
theorem or_add {x y : Nat} (k : Nat) (hx : x % 2 ^ k = 0) (hy : y < 2 ^ k) : x ||| y = x + y := by
  have h1 : x = (x / 2 ^ k) <<< k := by
    rw [Nat.shiftLeft_eq]
    have := Nat.div_add_mod x (2 ^ k)
    rw [hx] at this
    rw [Nat.mul_comm]; omega
  rw [h1, ← Nat.shiftLeft_add_eq_or_of_lt hy]
section
theorem shl64_toNat (x : UInt64) (n : Nat) : (shl64 x n).toNat = x.toNat * 2 ^ (min n 64) % 18446744073709551616 := by simp [shl64, UInt64.toNat_ofNat']
theorem shr64_toNat (x : UInt64) (n : Nat) : (shr64 x n).toNat = x.toNat / 2 ^ (min n 64) := by
  simp only [shr64, UInt64.toNat_ofNat']
  exact Nat.mod_eq_of_lt (Nat.lt_of_le_of_lt (Nat.div_le_self _ _) x.toNat_lt)
theorem shl32_toNat (x : UInt32) (n : Nat) : (shl32 x n).toNat = x.toNat * 2 ^ (min n 32) % 4294967296 := by simp [shl32, UInt32.toNat_ofNat']
theorem shr32_toNat (x : UInt32) (n : Nat) : (shr32 x n).toNat = x.toNat / 2 ^ (min n 32) := by
  simp only [shr32, UInt32.toNat_ofNat']
  exact Nat.mod_eq_of_lt (Nat.lt_of_le_of_lt (Nat.div_le_self _ _) x.toNat_lt)
end
theorem getO_lt {τ : Type} {l : List τ} {i : Nat} (h : i < l.length) : getO l (i : Int) = some l[i] := by rw [getO_nat]; simp [h]
theorem mkO_ok {τ : Type} {bytes : Nat} {l c : Int} {t0 : τ} (h : 0 ≤ l ∧ l ≤ c ∧ (bytes : Int) * c ≤ 281474976710656 ∧ c ≤ 9223372036854775807) : mkO bytes l c t0 = some (List.replicate l.toNat t0) := if_pos h
theorem slO_ok {τ : Type} {l : List τ} {lo hi : Nat} (h : lo ≤ hi) (h2 : hi ≤ l.length) : slO l (lo : Int) (hi : Int) = some ((l.drop lo).take (hi - lo)) := by
  unfold slO; rw [if_pos (by simp; omega)]; simp
theorem loop_up {ρ : Type} {f : Int → Option (Int ⊕ ρ)} {n : Nat} {r : ρ} (hstep : ∀ i : Nat, i < n → f (i : Int) = some (.inl ((i : Int) + 1))) (hend : f (n : Int) = some (.inr r)) :
    ∀ i : Nat, i ≤ n → loop f (i : Int) = some r := by
  intro i hi
  induction h : n - i generalizing i with
  | zero =>
    have : i = n := by omega
    subst this
    exact loop_inr hend
  | succ k ih =>
    rw [loop_inl (hstep i (by omega))]
    have := ih (i + 1) (by omega) (by omega)
    simpa using this
theorem kh {α ρ : Type} (a : α) (k : α → Option ρ) : obind (some a) k = k a := rfl
theorem olet_eq {α ρ : Type} (a : α) (k : α → Option ρ) : olet a k = k a := rfl
end Go.Gk
end

section
set_option linter.unusedSimpArgs false
set_option linter.unusedVariables false
namespace Go.Gk
open Go
theorem loop_oinr' {σ ρ : Type} {f : σ → Option (σ ⊕ ρ)} {s : σ} {X : Option ρ} (h : f s = oinr X) : loop f s = X := by
  rw [loop_eq, h]
  cases X <;> rfl
end Go.Gk
end

section
set_option linter.unusedSimpArgs false
set_option linter.unusedVariables false
namespace Go.Gk.Sh
open Go Go.Gk
theorem getO_D {τ : Type} [Inhabited τ] {l : List τ} {i : Nat} (h : i < l.length) (d : τ) : getO l (i : Int) = some (l.getD i d) := by
  rw [getO_lt h, List.getD_eq_getElem?_getD, List.getElem?_eq_getElem h]; rfl
end Go.Gk.Sh
end

section
set_option linter.unusedSimpArgs false
set_option linter.unusedVariables false
namespace Go.Gk.Sh
open Go Go.Gk
end Go.Gk.Sh
end

section
set_option linter.unusedSimpArgs false
set_option linter.unusedVariables false
namespace Go.Gk.Sh
open Go Go.Gk
end Go.Gk.Sh
end

section
set_option linter.unusedSimpArgs false
set_option linter.unusedVariables false
namespace Go.Gk.Sh
open Go Go.Gk
theorem loop_foldI {σ α ρ : Type} {f : σ → Option (σ ⊕ ρ)} (st : α → Nat → σ) (I : Nat → α → Prop) (g : α → Nat → α) (lo n : Nat) {X : α → Option ρ}
    (hstep : ∀ i x, lo ≤ i → i < n → I i x → f (st x i) = some (.inl (st (g x i) (i + 1))) ∧ I (i + 1) (g x i)) (hend : ∀ x, I n x → f (st x n) = oinr (X x)) :
    ∀ (r i : Nat) (x : α), lo ≤ i → i + r = n → I i x → loop f (st x i) = X ((List.range' i r).foldl g x)
  | 0, i, x, hl, h, hx => by
    have : i = n := by omega
    subst this
    simp only [List.range'_zero, List.foldl_nil]
    exact loop_oinr' (hend x hx)
  | r + 1, i, x, hl, h, hx => by
    obtain ⟨h1, h2⟩ := hstep i x hl (by omega) hx
    rw [loop_inl h1, List.range'_succ, List.foldl_cons]
    exact loop_foldI st I g lo n hstep hend r (i + 1) _ (by omega) (by omega) h2
theorem fold_invI {α : Type} (I : Nat → α → Prop) (g : α → Nat → α) (h : ∀ i x, I i x → I (i + 1) (g x i)) : ∀ (r i : Nat) (x : α), I i x → I (i + r) ((List.range' i r).foldl g x)
  | 0, i, x, hx => by simpa using hx
  | r + 1, i, x, hx => by
    rw [List.range'_succ, List.foldl_cons, show i + (r + 1) = i + 1 + r by omega]
    exact fold_invI I g h r (i + 1) _ (h i x hx)
end Go.Gk.Sh
end
