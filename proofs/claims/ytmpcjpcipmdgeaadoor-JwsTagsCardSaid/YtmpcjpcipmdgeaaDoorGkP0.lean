import Derived.Test.YtmpcjpcipmdgeaaDoorGkS
import Derived.Test.YtmpcjpcipmdgeaaDoorGkFb64
import Derived.Test.YtmpcjpcipmdgeaaDoorGkFref1
import Derived.Test.YtmpcjpcipmdgeaaDoorGkFlaw1
import Derived.Test.YtmpcjpcipmdgeaaDoorGkFlaw18
set_option linter.unusedVariables false
set_option linter.unusedSimpArgs false

section
set_option linter.unusedSimpArgs false
namespace Go.Gk
section
theorem shl64_toNat (x : UInt64) (n : Nat) : (shl64 x n).toNat = x.toNat * 2 ^ (min n 64) % 18446744073709551616 := by simp [shl64, UInt64.toNat_ofNat']
theorem shr64_toNat (x : UInt64) (n : Nat) : (shr64 x n).toNat = x.toNat / 2 ^ (min n 64) := by
  simp only [shr64, UInt64.toNat_ofNat']
  exact Nat.mod_eq_of_lt (Nat.lt_of_le_of_lt (Nat.div_le_self _ _) x.toNat_lt)
end
theorem getO_of {τ : Type} {l : List τ} {i : Nat} {x : τ} (h : l[i]? = some x) : getO l (i : Int) = some x := by rw [getO_nat, h]
theorem getO_lt {τ : Type} {l : List τ} {i : Nat} (h : i < l.length) : getO l (i : Int) = some l[i] := by rw [getO_nat]; simp [h]
theorem apO_ok {τ : Type} {l m : List τ} {bytes : Nat} (h : (l.length + m.length) * bytes ≤ 225000000000000) : apO bytes l m = some (l ++ m) := if_pos h
theorem apO1_ok {τ : Type} {l m : List τ} (h : l.length + m.length ≤ 225000000000000) : apO 1 l m = some (l ++ m) := if_pos (by omega)
theorem mkO_ok {τ : Type} {bytes : Nat} {l c : Int} {t0 : τ} (h : 0 ≤ l ∧ l ≤ c ∧ (bytes : Int) * c ≤ 281474976710656 ∧ c ≤ 9223372036854775807) : mkO bytes l c t0 = some (List.replicate l.toNat t0) := if_pos h
theorem drO_ok {τ : Type} {l : List τ} {k : Nat} (h : k ≤ l.length) : drO l (k : Int) = some (l.drop k) := by
  unfold drO; rw [if_pos (by simp; omega)]; simp
theorem slO_ok {τ : Type} {l : List τ} {lo hi : Nat} (h : lo ≤ hi) (h2 : hi ≤ l.length) : slO l (lo : Int) (hi : Int) = some ((l.drop lo).take (hi - lo)) := by
  unfold slO; rw [if_pos (by simp; omega)]; simp
theorem bind_some' {α ρ : Type} (a : α) (k : α → Option ρ) : obind (some a) k = k a := rfl
theorem olet_eq {α ρ : Type} (a : α) (k : α → Option ρ) : olet a k = k a := rfl
end Go.Gk
end

section
set_option linter.unusedSimpArgs false
set_option linter.unusedVariables false
namespace Go.Gk
open Go
theorem loop_oinr' {σ ρ : Type} {f : σ → Option (σ ⊕ ρ)} {s : σ} {X : Option ρ} (h : f s = oinr X) : loop f s = X := by
  rw [loop_eq, h]
  cases X <;> rfl
theorem fill_loop {τ ρ : Type} {f : Int × List τ → Option ((Int × List τ) ⊕ ρ)} {c : τ} {X : List τ → Option ρ}
    (hf : ∀ i l, f (i, l) = if decide (i < (l.length : Int)) = true then (obind (getO l i) fun _ => olet (l.set i.toNat c) fun y => oinl (wI (i + 1), y)) else oinr (X l))
    (l : List τ) (hl : l.length ≤ 4611686018427387904) : loop f (0, l) = X (List.replicate l.length c) := by
  have key : ∀ (r i : Nat) (m : List τ), i + r = m.length → m.length = l.length → m.take i = List.replicate i c → loop f ((i : Int), m) = X (List.replicate l.length c) := by
    intro r
    induction r with
    | zero =>
      intro i m h1 h2 h3
      have : m = List.replicate l.length c := by
        rw [← h2, show m.length = i by omega, ← h3, List.take_of_length_le (by omega)]
      have hd : decide ((i : Int) < (m.length : Int)) = false := decide_eq_false (by omega)
      refine loop_oinr' ?_
      rw [hf, hd, ← this]
      rfl
    | succ r ih =>
      intro i m h1 h2 h3
      have hi : i < m.length := by omega
      have hd : decide ((i : Int) < (m.length : Int)) = true := decide_eq_true (by omega)
      have hs : f ((i : Int), m) = some (.inl (((i + 1 : Nat) : Int), m.set i c)) := by
        rw [hf, hd, getO_lt hi]
        simp only [if_true, bind_some', olet_eq, Int.toNat_natCast]
        rw [wI_in (by omega) (by omega)]
        rfl
      rw [loop_inl hs]
      refine ih (i + 1) _ (by simp; omega) (by simp; omega) ?_
      rw [List.take_set, List.take_succ_eq_append_getElem hi, h3, List.set_append_right _ _ (by simp)]
      simp [List.replicate_succ']
  exact key l.length 0 l (by simp) rfl (by simp)
theorem more_loop {τ ρ : Type} {f : List τ × Int → Option ((List τ × Int) ⊕ ρ)} {c : τ} {X : List τ → Option ρ} {bytes : Nat}
    (hf : ∀ l k, f (l, k) = if decide (k < 70) = true then (obind (apO bytes l [c]) fun y => oinl (y, wI (k + 1))) else oinr (X l))
    (l : List τ) (hl : (l.length + 70) * bytes ≤ 225000000000000) : loop f (l, 0) = X (l ++ List.replicate 70 c) := by
  have key : ∀ (r i : Nat), i + r = 70 → loop f (l ++ List.replicate i c, (i : Int)) = X (l ++ List.replicate 70 c) := by
    intro r
    induction r with
    | zero =>
      intro i h1
      have hd : decide ((i : Int) < 70) = false := decide_eq_false (by omega)
      have : i = 70 := by omega
      subst this
      refine loop_oinr' ?_
      rw [hf, hd]
      rfl
    | succ r ih =>
      intro i h1
      have hd : decide ((i : Int) < 70) = true := decide_eq_true (by omega)
      have hs : f (l ++ List.replicate i c, (i : Int)) = some (.inl (l ++ List.replicate (i + 1) c, ((i + 1 : Nat) : Int))) := by
        rw [hf, hd, apO_ok (Nat.le_trans (Nat.mul_le_mul_right _ (by simp; omega)) hl)]
        simp only [if_true, bind_some']
        rw [wI_in (by omega) (by omega), List.append_assoc, ← List.replicate_succ']
        rfl
      rw [loop_inl hs]
      exact ih (i + 1) (by omega)
  simpa using key 70 0 (by omega)
end Go.Gk
end

section
set_option linter.unusedSimpArgs false
namespace Go.Gk
def urlS : List UInt8 := [65, 66, 67, 68, 69, 70, 71, 72, 73, 74, 75, 76, 77, 78, 79, 80, 81, 82, 83, 84, 85, 86, 87, 88, 89, 90, 97, 98, 99, 100, 101, 102, 103, 104, 105, 106, 107, 108, 109, 110, 111, 112, 113, 114, 115, 116, 117, 118, 119, 120, 121, 122, 48, 49, 50, 51, 52, 53, 54, 55, 56, 57, 45, 95]
def stdS : List UInt8 := [65, 66, 67, 68, 69, 70, 71, 72, 73, 74, 75, 76, 77, 78, 79, 80, 81, 82, 83, 84, 85, 86, 87, 88, 89, 90, 97, 98, 99, 100, 101, 102, 103, 104, 105, 106, 107, 108, 109, 110, 111, 112, 113, 114, 115, 116, 117, 118, 119, 120, 121, 122, 48, 49, 50, 51, 52, 53, 54, 55, 56, 57, 43, 47]
def sg6 (sg : List UInt8) (n : Nat) : UInt8 := sg.getD n 0
def tri (a b c : UInt8) : Nat := a.toNat * 65536 + b.toNat * 256 + c.toNat
def spellL (sg : List UInt8) : List UInt8 → List UInt8
  | a :: b :: c :: r => sg6 sg (tri a b c / 262144) :: sg6 sg (tri a b c / 4096 % 64) :: sg6 sg (tri a b c / 64 % 64) :: sg6 sg (tri a b c % 64) :: spellL sg r
  | [a, b] => [sg6 sg (a.toNat / 4), sg6 sg (a.toNat % 4 * 16 + b.toNat / 16), sg6 sg (b.toNat % 16 * 4)]
  | [a] => [sg6 sg (a.toNat / 4), sg6 sg (a.toNat % 4 * 16)]
  | [] => []
def fillL (s : List UInt8) : List UInt8 := s ++ List.replicate ((4 - s.length % 4) % 4) 61
end Go.Gk
end

section
set_option linter.unusedSimpArgs false
namespace Go.Gk
def bitN (l : List UInt8) (i : Nat) : Nat := (l.getD (i / 8) 0).toNat / 2 ^ (7 - i % 8) % 2
def accB (l : List UInt8) (i : Nat) : Nat → Nat
  | 0 => 0
  | k + 1 => 2 * accB l i k + bitN l (i + k)
def sext (l : List UInt8) (q : Nat) : Nat :=
  let g := q / 4
  let b0 := (l.getD (3 * g) 0).toNat
  let b1 := (l.getD (3 * g + 1) 0).toNat
  let b2 := (l.getD (3 * g + 2) 0).toNat
  if q % 4 = 0 then b0 / 4
  else if q % 4 = 1 then b0 % 4 * 16 + b1 / 16
  else if q % 4 = 2 then b1 % 16 * 4 + b2 / 64
  else b2 % 64
end Go.Gk
end

section
set_option linter.unusedSimpArgs false
namespace Go.Gk
def num (sg : List UInt8) (c : UInt8) : Nat := sg.findIdx (· == c)
structure SgOk (sg : List UInt8) : Prop where
  len : sg.length = 64
  inv : ∀ n, n < 64 → num sg (sg6 sg n) = n
def quad (sg : List UInt8) (a b c d : UInt8) : Nat := num sg a * 262144 + num sg b * 4096 + num sg c * 64 + num sg d
def tri3 (sg : List UInt8) (a b c : UInt8) : Nat := num sg a * 262144 + num sg b * 4096 + num sg c * 64
def duo2 (sg : List UInt8) (a b : UInt8) : Nat := num sg a * 262144 + num sg b * 4096
def readL (sg : List UInt8) : List UInt8 → List UInt8
  | a :: b :: c :: d :: r => UInt8.ofNat (quad sg a b c d / 65536) :: UInt8.ofNat (quad sg a b c d / 256) :: UInt8.ofNat (quad sg a b c d) :: readL sg r
  | [a, b, c] => [UInt8.ofNat (tri3 sg a b c / 65536), UInt8.ofNat (tri3 sg a b c / 256)]
  | [a, b] => [UInt8.ofNat (duo2 sg a b / 65536)]
  | _ => []
def restL (sg : List UInt8) : List UInt8 → Bool
  | _ :: _ :: _ :: _ :: r => restL sg r
  | [a, b, c] => tri3 sg a b c % 256 == 0
  | [a, b] => duo2 sg a b % 65536 == 0
  | _ => true
end Go.Gk
end

section
set_option linter.unusedSimpArgs false
set_option linter.unusedVariables false
namespace Go.Gk
def bitS (sg l : List UInt8) (i : Nat) : Nat := num sg (l.getD (i / 6) 0) / 2 ^ (5 - i % 6) % 2
def partB (sg l : List UInt8) (k : Nat) : Nat → Nat
  | 0 => 0
  | t + 1 => partB sg l k t + bitS sg l (8 * k + t) * 2 ^ (7 - t)
def roomB (sg l : List UInt8) (m i : Nat) : List UInt8 := (List.range m).map (fun k => UInt8.ofNat (partB sg l k (min 8 (i - 8 * k))))
section
variable {sg : List UInt8} {std : Bool} (hs : SgOk sg) (hsg : (if std then stdS else urlS) = sg) (l : List UInt8) (hg : ∀ c ∈ l, c ∈ sg) (hl : l.length ≤ 225000000000000)
include hs hsg hg hl
end
def byteN (sg l : List UInt8) (k : Nat) : Nat :=
  let g := k / 3
  let n0 := num sg (l.getD (4 * g) 0)
  let n1 := num sg (l.getD (4 * g + 1) 0)
  let n2 := num sg (l.getD (4 * g + 2) 0)
  let n3 := num sg (l.getD (4 * g + 3) 0)
  if k % 3 = 0 then n0 * 4 + n1 / 16
  else if k % 3 = 1 then n1 % 16 * 16 + n2 / 4
  else n2 % 4 * 64 + n3
end Go.Gk
end

section
set_option linter.unusedSimpArgs false
set_option linter.unusedVariables false
namespace Go.Gk
theorem loop_upS {σ ρ : Type} {f : σ → Option (σ ⊕ ρ)} {n : Nat} {r : ρ} (st : Nat → σ) (hstep : ∀ i, i < n → f (st i) = some (.inl (st (i + 1)))) (hend : f (st n) = some (.inr r)) :
    ∀ i, i ≤ n → loop f (st i) = some r := by
  intro i hi
  induction h : n - i generalizing i with
  | zero =>
    have : i = n := by omega
    subst this
    exact loop_inr hend
  | succ k ih =>
    rw [loop_inl (hstep i (by omega))]
    exact ih (i + 1) (by omega) (by omega)
def badAt (sg l : List UInt8) : Option Nat := l.findIdx? (fun c => decide (c ∉ sg))
def decU (l : List UInt8) : List UInt8 × Int × Int :=
  match badAt urlS l with
  | some i => ([], 20, (i : Int))
  | none => if l.length % 4 = 1 then ([], 21, (l.length : Int)) else if restL urlS l = true then (readL urlS l, 0, 0) else ([], 22, (l.length : Int) - 1)
theorem step_int (i : Nat) (h : i < 225000000000001) : wI ((i : Int) + 1) = ((i + 1 : Nat) : Int) := by rw [wI_in] <;> omega
def stdEnd (l : List UInt8) : Nat :=
  if l.length ≥ 1 ∧ l.getD (l.length - 1) 0 = 61 then (if l.length ≥ 2 ∧ l.getD (l.length - 2) 0 = 61 then l.length - 2 else l.length - 1) else l.length
def decS (l : List UInt8) : List UInt8 × Int × Int :=
  match badAt stdS (l.take (stdEnd l)) with
  | some i => ([], 20, (i : Int))
  | none => if l.length % 4 ≠ 0 then ([], 21, (l.length : Int)) else if restL stdS (l.take (stdEnd l)) = true then (readL stdS (l.take (stdEnd l)), 0, 0) else ([], 22, (stdEnd l : Int) - 1)
end Go.Gk
end

section
set_option linter.unusedSimpArgs false
set_option linter.unusedVariables false
namespace Go.Gk
theorem law1_same_eq (x y : List UInt8) (hx : x.length < 225000000000000) : F.law1_same x y = some (decide (x = y)) := by
  unfold F.law1_same
  by_cases hl : x.length = y.length
  · rw [if_neg (by simp [hl])]
    have key : ∀ m i, i + m = x.length → loop (F.law1_same_L1 x y) (i : Int) = some (decide (x.drop i = y.drop i)) := by
      intro m
      induction m with
      | zero =>
        intro i hi
        refine loop_inr ?_
        unfold F.law1_same_L1
        dsimp only
        rw [if_neg (by simp; omega), List.drop_eq_nil_of_le (by omega), List.drop_eq_nil_of_le (by omega)]
        simp [oinr]
      | succ m ih =>
        intro i hi
        have h1 : i < x.length := by omega
        have h2 : i < y.length := by omega
        rw [List.drop_eq_getElem_cons h1, List.drop_eq_getElem_cons h2]
        by_cases he : x[i] = y[i]
        · rw [loop_inl (s' := ((i + 1 : Nat) : Int))]
          · rw [ih (i + 1) (by omega), he]; simp only [List.cons.injEq, true_and]
          · unfold F.law1_same_L1
            dsimp only
            rw [if_pos (by simp; omega), getO_lt h1, bind_some', getO_lt h2, bind_some', if_neg (by simp [he]), step_int i (by omega)]; rfl
        · refine loop_inr ?_
          unfold F.law1_same_L1
          dsimp only
          rw [if_pos (by simp; omega), getO_lt h1, bind_some', getO_lt h2, bind_some', if_pos (by simp [he])]
          simp only [List.cons.injEq, he, false_and, decide_false]; rfl
    simpa using key x.length 0 (by omega)
  · rw [if_pos (by simp; omega)]
    have : x ≠ y := fun e => hl (by rw [e])
    simp [this]
end Go.Gk
end

section
set_option linter.unusedSimpArgs false
set_option linter.unusedVariables false
set_option linter.unusedSectionVars false
namespace Go.Gk
section
variable (l : List UInt8) (hl : l.length ≤ 140737488355328) (q x : Nat)
include hl
end
def numSt (l : List UInt8) (q : Nat) : Int × Int × Int × Int :=
  let p := min l.length ((6 * q + 7) / 8)
  ((8 * p - 6 * q : Nat), ((l.getD (p - 1) 0).toNat % 2 ^ (8 * p - 6 * q) : Nat), (p : Nat), (q : Nat))
end Go.Gk
end

section
set_option linter.unusedSimpArgs false
set_option linter.unusedVariables false
namespace Go.Gk
theorem law18_same_eq (x y : List UInt8) (hx : x.length < 225000000000000) : F.law18_same x y = some (decide (x = y)) := by
  have h := law1_same_eq x y hx
  have e : F.law18_same_L1 = F.law1_same_L1 := by
    funext a b s
    unfold F.law18_same_L1 F.law1_same_L1
    rfl
  unfold F.law18_same
  rw [e]
  exact h
section
variable (l : List UInt8) (hl : l.length ≤ 65536)
include hl
end
def compactL (a b c : List UInt8) : List UInt8 × Int :=
  if 65536 < 2 + (4 * a.length + 2) / 3 + (4 * b.length + 2) / 3 + (4 * c.length + 2) / 3 then ([], 10)
  else (spellL urlS a ++ [46] ++ spellL urlS b ++ [46] ++ spellL urlS c, 0)
section
variable (a b c : List UInt8) (ha : a.length ≤ 140737488355328) (hb : b.length ≤ 140737488355328) (hc : c.length ≤ 140737488355328)
include ha hb hc
end
theorem law18_lent_eq (l : List UInt8) (hl : l.length ≤ 140737488355328) : F.law18_lent l = some (l ++ List.replicate 40 165, l.length) := by
  unfold F.law18_lent
  rw [apO1_ok (by simp; omega), bind_some', List.nil_append]
  have key := loop_upS (f := F.law18_lent_L1 l) (n := 40) (r := (l ++ List.replicate 40 165, l.length)) (fun j => (l ++ List.replicate j 165, (j : Int)))
    (fun j hj => by
      unfold F.law18_lent_L1
      dsimp only
      rw [if_pos (by simp; omega), apO1_ok (by simp; omega), bind_some', step_int j (by omega), List.append_assoc, ← List.replicate_succ']; rfl)
    (by
      unfold F.law18_lent_L1
      dsimp only
      rw [if_neg (by simp), grd_true _ (by simp)]; rfl) 0 (by omega)
  simpa using key
theorem law18_still_eq (r p : List UInt8) (hp : p.length ≤ 140737488355328) (hr : r.length = p.length + 40) (ht : r.take p.length = p) (hd : r.drop p.length = List.replicate 40 165) : F.law18_still r p.length p = some true := by
  unfold F.law18_still
  have e1 : wI ((p.length : Int) + 40) = ((p.length + 40 : Nat) : Int) := by rw [wI_in] <;> omega
  rw [if_neg (by rw [ht]; simp), e1, grd_true _ (by simp; omega)]
  have hall : r.take (wI ((p.length : Int) + 40)).toNat = r := by rw [e1, Int.toNat_natCast, List.take_of_length_le (by omega)]
  refine loop_upS (n := r.length) (fun i => (i : Int)) (fun i hi => ?_) ?_ 0 (by omega)
  · unfold F.law18_still_L1
    dsimp only
    rw [hall, if_pos (by simp; omega)]
    have hK : F.law18_still_K1 (i : Int) false = some (.inl ((i + 1 : Nat) : Int)) := by
      unfold F.law18_still_K1
      dsimp only
      rw [if_neg (by simp), step_int i (by omega)]; rfl
    by_cases h : i < p.length
    · have hg : r[i] = p[i] := by
        have h1 : (r.take p.length)[i]'(by simp; omega) = r[i] := by simp
        rw [← h1]; congr 1
      rw [if_pos (by simp; omega), getO_lt hi, bind_some', getO_lt h, bind_some', if_neg (by simp [hg]), if_neg (by simp; omega)]
      exact hK
    · have hg : r[i] = 165 := by
        have h1 : (r.drop p.length)[i - p.length]'(by simp; omega) = r[i] := by simp; congr 1; omega
        rw [← h1]
        have : ∀ (y : List UInt8) (k : Nat) (hk : k < y.length), y = List.replicate 40 165 → y[k] = 165 := by
          rintro y k hk rfl; rw [List.getElem_replicate]
        exact this _ _ _ hd
      rw [if_neg (by simp; omega), if_pos (by simp; omega), getO_lt hi, bind_some', show (r[i] != 165) = false by simp [hg]]
      exact hK
  · unfold F.law18_still_L1
    dsimp only
    rw [hall, if_neg (by simp)]; rfl
theorem law18_still_lent (l : List UInt8) (hl : l.length ≤ 140737488355328) : F.law18_still (l ++ List.replicate 40 165) l.length l = some true :=
  law18_still_eq _ l hl (by simp) (List.take_left' rfl) (List.drop_left' rfl)
end Go.Gk
end
