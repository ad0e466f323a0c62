import Derived.Test.YtpbgncmffgnohaaGkS
import Derived.Test.YtpbgncmffgnohaaGkFsha
import Derived.Test.YtpbgncmffgnohaaGkFref4
set_option linter.unusedVariables false
set_option linter.unusedSimpArgs false

section
set_option linter.unusedSimpArgs false
namespace Go.Gk
theorem or_add {x y : Nat} (k : Nat) (hx : x % 2 ^ k = 0) (hy : y < 2 ^ k) : x ||| y = x + y := by
  have h1 : x = (x / 2 ^ k) <<< k := by
    rw [Nat.shiftLeft_eq]
    have := Nat.div_add_mod x (2 ^ k)
    rw [hx] at this
    rw [Nat.mul_comm]; omega
  rw [h1, ← Nat.shiftLeft_add_eq_or_of_lt hy]
section
theorem shl64_toNat (x : UInt64) (n : Nat) : (shl64 x n).toNat = x.toNat * 2 ^ (min n 64) % 18446744073709551616 := by simp [shl64, UInt64.toNat_ofNat']
theorem shr64_toNat (x : UInt64) (n : Nat) : (shr64 x n).toNat = x.toNat / 2 ^ (min n 64) := by
  simp only [shr64, UInt64.toNat_ofNat']
  exact Nat.mod_eq_of_lt (Nat.lt_of_le_of_lt (Nat.div_le_self _ _) x.toNat_lt)
theorem shl32_toNat (x : UInt32) (n : Nat) : (shl32 x n).toNat = x.toNat * 2 ^ (min n 32) % 4294967296 := by simp [shl32, UInt32.toNat_ofNat']
theorem shr32_toNat (x : UInt32) (n : Nat) : (shr32 x n).toNat = x.toNat / 2 ^ (min n 32) := by
  simp only [shr32, UInt32.toNat_ofNat']
  exact Nat.mod_eq_of_lt (Nat.lt_of_le_of_lt (Nat.div_le_self _ _) x.toNat_lt)
end
theorem getO_lt {τ : Type} {l : List τ} {i : Nat} (h : i < l.length) : getO l (i : Int) = some l[i] := by rw [getO_nat]; simp [h]
theorem mkO_ok {τ : Type} {bytes : Nat} {l c : Int} {t0 : τ} (h : 0 ≤ l ∧ l ≤ c ∧ (bytes : Int) * c ≤ 281474976710656 ∧ c ≤ 9223372036854775807) : mkO bytes l c t0 = some (List.replicate l.toNat t0) := if_pos h
theorem loop_up {ρ : Type} {f : Int → Option (Int ⊕ ρ)} {n : Nat} {r : ρ} (hstep : ∀ i : Nat, i < n → f (i : Int) = some (.inl ((i : Int) + 1))) (hend : f (n : Int) = some (.inr r)) :
    ∀ i : Nat, i ≤ n → loop f (i : Int) = some r := by
  intro i hi
  induction h : n - i generalizing i with
  | zero =>
    have : i = n := by omega
    subst this
    exact loop_inr hend
  | succ k ih =>
    rw [loop_inl (hstep i (by omega))]
    have := ih (i + 1) (by omega) (by omega)
    simpa using this
theorem kg {α ρ : Type} (a : α) (k : α → Option ρ) : obind (some a) k = k a := rfl
theorem olet_eq {α ρ : Type} (a : α) (k : α → Option ρ) : olet a k = k a := rfl
end Go.Gk
end

section
set_option linter.unusedSimpArgs false
set_option linter.unusedVariables false
namespace Go.Gk
open Go
theorem loop_oinr' {σ ρ : Type} {f : σ → Option (σ ⊕ ρ)} {s : σ} {X : Option ρ} (h : f s = oinr X) : loop f s = X := by
  rw [loop_eq, h]
  cases X <;> rfl
end Go.Gk
end

section
set_option linter.unusedSimpArgs false
set_option linter.unusedVariables false
namespace Go.Gk.Sh
open Go Go.Gk
theorem getO_D {τ : Type} [Inhabited τ] {l : List τ} {i : Nat} (h : i < l.length) (d : τ) : getO l (i : Int) = some (l.getD i d) := by
  rw [getO_lt h, List.getD_eq_getElem?_getD, List.getElem?_eq_getElem h]; rfl
def rr32 (x : UInt32) (k : Nat) : UInt32 := shr32 x k ||| shl32 x (32 - k)
def rr64 (x : UInt64) (k : Nat) : UInt64 := shr64 x k ||| shl64 x (64 - k)
end Go.Gk.Sh
end

section
set_option linter.unusedSimpArgs false
set_option linter.unusedVariables false
namespace Go.Gk.Sh
open Go Go.Gk
abbrev V8 (W : Type) := W × W × W × W × W × W × W × W
def toL {W : Type} (v : V8 W) : List W := [v.1, v.2.1, v.2.2.1, v.2.2.2.1, v.2.2.2.2.1, v.2.2.2.2.2.1, v.2.2.2.2.2.2.1, v.2.2.2.2.2.2.2]
def ofL {W : Type} (d : W) (l : List W) : V8 W := (l.getD 0 d, l.getD 1 d, l.getD 2 d, l.getD 3 d, l.getD 4 d, l.getD 5 d, l.getD 6 d, l.getD 7 d)
def word32 (b : List UInt8) (i : Nat) : UInt32 :=
  ((shl32 (b.getD (4 * i) 0).toUInt32 24 ||| shl32 (b.getD (4 * i + 1) 0).toUInt32 16) ||| shl32 (b.getD (4 * i + 2) 0).toUInt32 8) ||| (b.getD (4 * i + 3) 0).toUInt32
def sch32 (w : List UInt32) (i : Nat) : UInt32 :=
  ((w.getD (i - 16) 0 + w.getD (i - 7) 0) + ((rr32 (w.getD (i - 15) 0) 7 ^^^ rr32 (w.getD (i - 15) 0) 18) ^^^ shr32 (w.getD (i - 15) 0) 3)) +
    ((rr32 (w.getD (i - 2) 0) 17 ^^^ rr32 (w.getD (i - 2) 0) 19) ^^^ shr32 (w.getD (i - 2) 0) 10)
def stepW32 (b : List UInt8) (w : List UInt32) (i : Nat) : List UInt32 := if i < 16 then w.set i (word32 b i) else w.set i (sch32 w i)
def words32 (b : List UInt8) : List UInt32 := (List.range' 0 64).foldl (stepW32 b) (List.replicate 64 0)
def tt32 (v : V8 UInt32) (k w : UInt32) : UInt32 :=
  (((v.2.2.2.2.2.2.2 + ((rr32 v.2.2.2.2.1 6 ^^^ rr32 v.2.2.2.2.1 11) ^^^ rr32 v.2.2.2.2.1 25)) + ((v.2.2.2.2.1 &&& v.2.2.2.2.2.1) ^^^ (~~~v.2.2.2.2.1 &&& v.2.2.2.2.2.2.1))) + k) + w
def uu32 (v : V8 UInt32) : UInt32 := ((rr32 v.1 2 ^^^ rr32 v.1 13) ^^^ rr32 v.1 22) + (((v.1 &&& v.2.1) ^^^ (v.1 &&& v.2.2.1)) ^^^ (v.2.1 &&& v.2.2.1))
def rnd32 (ws : List UInt32) (v : V8 UInt32) (i : Nat) : V8 UInt32 :=
  (tt32 v (F.tab_ref4_k256.getD i 0) (ws.getD i 0) + uu32 v, v.1, v.2.1, v.2.2.1, v.2.2.2.1 + tt32 v (F.tab_ref4_k256.getD i 0) (ws.getD i 0), v.2.2.2.2.1, v.2.2.2.2.2.1, v.2.2.2.2.2.2.1)
def addS32 (v : List UInt32) (h : List UInt32) (i : Nat) : List UInt32 := h.set i (h.getD i 0 + v.getD i 0)
def comp32 (h : List UInt32) (b : List UInt8) : List UInt32 := (List.range' 0 8).foldl (addS32 (toL ((List.range' 0 64).foldl (rnd32 (words32 b)) (ofL 0 h)))) h
end Go.Gk.Sh
end

section
set_option linter.unusedSimpArgs false
set_option linter.unusedVariables false
namespace Go.Gk.Sh
open Go Go.Gk
end Go.Gk.Sh
end

section
set_option linter.unusedSimpArgs false
set_option linter.unusedVariables false
namespace Go.Gk.Sh
open Go Go.Gk
theorem loop_foldI {σ α ρ : Type} {f : σ → Option (σ ⊕ ρ)} (st : α → Nat → σ) (I : Nat → α → Prop) (g : α → Nat → α) (lo n : Nat) {X : α → Option ρ}
    (hstep : ∀ i x, lo ≤ i → i < n → I i x → f (st x i) = some (.inl (st (g x i) (i + 1))) ∧ I (i + 1) (g x i)) (hend : ∀ x, I n x → f (st x n) = oinr (X x)) :
    ∀ (r i : Nat) (x : α), lo ≤ i → i + r = n → I i x → loop f (st x i) = X ((List.range' i r).foldl g x)
  | 0, i, x, hl, h, hx => by
    have : i = n := by omega
    subst this
    simp only [List.range'_zero, List.foldl_nil]
    exact loop_oinr' (hend x hx)
  | r + 1, i, x, hl, h, hx => by
    obtain ⟨h1, h2⟩ := hstep i x hl (by omega) hx
    rw [loop_inl h1, List.range'_succ, List.foldl_cons]
    exact loop_foldI st I g lo n hstep hend r (i + 1) _ (by omega) (by omega) h2
theorem fold_invI {α : Type} (I : Nat → α → Prop) (g : α → Nat → α) (h : ∀ i x, I i x → I (i + 1) (g x i)) : ∀ (r i : Nat) (x : α), I i x → I (i + r) ((List.range' i r).foldl g x)
  | 0, i, x, hx => by simpa using hx
  | r + 1, i, x, hx => by
    rw [List.range'_succ, List.foldl_cons, show i + (r + 1) = i + 1 + r by omega]
    exact fold_invI I g h r (i + 1) _ (h i x hx)
def byte64 (b : List UInt8) (i : Nat) (x : UInt64) (k : Nat) : UInt64 := shl64 x 8 ||| (b.getD (8 * i + k) 0).toUInt64
def word64 (b : List UInt8) (i : Nat) : UInt64 := (List.range' 0 8).foldl (byte64 b i) 0
def sch64 (w : List UInt64) (i : Nat) : UInt64 :=
  ((w.getD (i - 16) 0 + w.getD (i - 7) 0) + ((rr64 (w.getD (i - 15) 0) 1 ^^^ rr64 (w.getD (i - 15) 0) 8) ^^^ shr64 (w.getD (i - 15) 0) 7)) +
    ((rr64 (w.getD (i - 2) 0) 19 ^^^ rr64 (w.getD (i - 2) 0) 61) ^^^ shr64 (w.getD (i - 2) 0) 6)
def stepW64 (b : List UInt8) (w : List UInt64) (i : Nat) : List UInt64 := if i < 16 then w.set i (word64 b i) else w.set i (sch64 w i)
def words64 (b : List UInt8) : List UInt64 := (List.range' 0 80).foldl (stepW64 b) (List.replicate 80 0)
def tt64 (v : V8 UInt64) (k w : UInt64) : UInt64 :=
  (((v.2.2.2.2.2.2.2 + ((rr64 v.2.2.2.2.1 14 ^^^ rr64 v.2.2.2.2.1 18) ^^^ rr64 v.2.2.2.2.1 41)) + ((v.2.2.2.2.1 &&& v.2.2.2.2.2.1) ^^^ (~~~v.2.2.2.2.1 &&& v.2.2.2.2.2.2.1))) + k) + w
def uu64 (v : V8 UInt64) : UInt64 := ((rr64 v.1 28 ^^^ rr64 v.1 34) ^^^ rr64 v.1 39) + (((v.1 &&& v.2.1) ^^^ (v.1 &&& v.2.2.1)) ^^^ (v.2.1 &&& v.2.2.1))
def rnd64 (ws : List UInt64) (v : V8 UInt64) (i : Nat) : V8 UInt64 :=
  (tt64 v (F.tab_ref4_k512.getD i 0) (ws.getD i 0) + uu64 v, v.1, v.2.1, v.2.2.1, v.2.2.2.1 + tt64 v (F.tab_ref4_k512.getD i 0) (ws.getD i 0), v.2.2.2.2.1, v.2.2.2.2.2.1, v.2.2.2.2.2.2.1)
def addS64 (v : List UInt64) (h : List UInt64) (i : Nat) : List UInt64 := h.set i (h.getD i 0 + v.getD i 0)
def comp64 (h : List UInt64) (b : List UInt8) : List UInt64 := (List.range' 0 8).foldl (addS64 (toL ((List.range' 0 80).foldl (rnd64 (words64 b)) (ofL 0 h)))) h
def Nought (i : Nat) (w : List UInt64) : Prop := w.length = 80 ∧ ∀ k, i ≤ k → w.getD k 0 = 0
end Go.Gk.Sh
end
