/- The words of the plain functions: operations that may fail on lists, loops. Plain Lean, no program. -/
namespace Go.Gk

def getO {τ : Type} (l : List τ) (i : Int) : Option τ := if 0 ≤ i then l[i.toNat]? else none
theorem getO_some {τ : Type} {l : List τ} {i : Int} {x : τ} (h : getO l i = some x) : 0 ≤ i ∧ i.toNat < l.length ∧ l[i.toNat]? = some x := by
  unfold getO at h
  split at h
  · exact ⟨‹_›, (List.getElem?_eq_some_iff.1 h).1, h⟩
  · cases h
theorem getO_nat {τ : Type} (l : List τ) (i : Nat) : getO l (i : Int) = l[i]? := by
  simp [getO]

/-- l[lo:hi], l[lo:], l[:hi], within the length -/
def slO {τ : Type} (l : List τ) (lo hi : Int) : Option (List τ) := if 0 ≤ lo ∧ lo ≤ hi ∧ hi.toNat ≤ l.length then some ((l.drop lo.toNat).take (hi.toNat - lo.toNat)) else none
theorem slO_some {τ : Type} {l r : List τ} {lo hi : Int} (h : slO l lo hi = some r) : (0 ≤ lo ∧ lo ≤ hi ∧ hi.toNat ≤ l.length) ∧ r = (l.drop lo.toNat).take (hi.toNat - lo.toNat) := by
  unfold slO at h
  split at h
  · simp at h; exact ⟨‹_›, h.symm⟩
  · cases h
def drO {τ : Type} (l : List τ) (lo : Int) : Option (List τ) := if 0 ≤ lo ∧ lo.toNat ≤ l.length then some (l.drop lo.toNat) else none
theorem drO_some {τ : Type} {l r : List τ} {lo : Int} (h : drO l lo = some r) : (0 ≤ lo ∧ lo.toNat ≤ l.length) ∧ r = l.drop lo.toNat := by
  unfold drO at h
  split at h
  · simp at h; exact ⟨‹_›, h.symm⟩
  · cases h
def tkO {τ : Type} (l : List τ) (hi : Int) : Option (List τ) := if 0 ≤ hi ∧ hi.toNat ≤ l.length then some (l.take hi.toNat) else none
theorem tkO_some {τ : Type} {l r : List τ} {hi : Int} (h : tkO l hi = some r) : (0 ≤ hi ∧ hi.toNat ≤ l.length) ∧ r = l.take hi.toNat := by
  unfold tkO at h
  split at h
  · simp at h; exact ⟨‹_›, h.symm⟩
  · cases h

theorem tkO_of {τ : Type} {l : List τ} {hi : Int} (h : 0 ≤ hi ∧ hi.toNat ≤ l.length) : tkO l hi = some (l.take hi.toNat) := if_pos h

/-- What 'make' makes of a length and a capacity. -/
def mkO {τ : Type} (bytes : Nat) (l c : Int) (t0 : τ) : Option (List τ) :=
  if 0 ≤ l ∧ l ≤ c ∧ (bytes : Int) * c ≤ 281474976710656 ∧ c ≤ 9223372036854775807 then some (List.replicate l.toNat t0) else none
theorem mkO_some {τ : Type} {bytes : Nat} {l c : Int} {t0 : τ} {r : List τ} (h : mkO bytes l c t0 = some r) :
    r = List.replicate l.toNat t0 ∧ 0 ≤ l ∧ l ≤ c ∧ (bytes : Int) * c ≤ 281474976710656 ∧ c ≤ 9223372036854775807 := by
  unfold mkO at h
  split at h
  · rename_i hc; simp at h; exact ⟨h.symm, hc⟩
  · cases h

/-- append, within what memory can hold -/
def apO {τ : Type} (bytes : Nat) (l m : List τ) : Option (List τ) := if (l.length + m.length) * bytes ≤ 225000000000000 then some (l ++ m) else none
theorem apO_some {τ : Type} {bytes : Nat} {l m r : List τ} (h : apO bytes l m = some r) : r = l ++ m ∧ (l.length + m.length) * bytes ≤ 225000000000000 := by
  unfold apO at h
  split at h
  · simp at h; exact ⟨h.symm, ‹_›⟩
  · cases h

/-- + on texts -/
def sadO (x y : List UInt8) : Option (List UInt8) := if x.length + y.length ≤ 9223372036854775807 then some (x ++ y) else none
theorem sadO_some {x y r : List UInt8} (h : sadO x y = some r) : r = x ++ y ∧ x.length + y.length ≤ 9223372036854775807 := by
  unfold sadO at h
  split at h
  · simp at h; exact ⟨h.symm, ‹_›⟩
  · cases h

/-- go on if p holds -/
def grd {ρ : Type} (p : Prop) [Decidable p] (k : Option ρ) : Option ρ := if p then k else none
theorem grd_some {ρ : Type} {p : Prop} [Decidable p] {k : Option ρ} {r : ρ} (h : grd p k = some r) : p ∧ k = some r := by
  unfold grd at h
  split at h
  · exact ⟨‹_›, h⟩
  · cases h
@[simp] theorem grd_true {ρ : Type} {p : Prop} [Decidable p] (k : Option ρ) (h : p) : grd p k = k := by simp [grd, h]

/-- a name for a value -/
def olet {α ρ : Type} (a : α) (k : α → Option ρ) : Option ρ := k a
theorem olet_some {α ρ : Type} {a : α} {k : α → Option ρ} {r : ρ} (h : olet a k = some r) : ∃ x, a = x ∧ k x = some r := ⟨a, rfl, h⟩

abbrev obind {α ρ : Type} (x : Option α) (k : α → Option ρ) : Option ρ := x.bind k
theorem obind_some {α ρ : Type} {x : Option α} {k : α → Option ρ} {r : ρ} (h : obind x k = some r) : ∃ a, x = some a ∧ k a = some r := Option.bind_eq_some_iff.1 h

theorem if_t {ρ : Type} {b : Bool} {x y : Option ρ} {r : ρ} (h : (if b = true then x else y) = some r) (hb : b = true) : x = some r := by rw [if_pos hb] at h; exact h
theorem if_f {ρ : Type} {b : Bool} {x y : Option ρ} {r : ρ} (h : (if b = true then x else y) = some r) (hb : b = false) : y = some r := by
  rw [if_neg (by rw [hb]; exact Bool.false_ne_true)] at h; exact h

/-- the first place of a byte, or -1 -/
def ixByte (l : List UInt8) (c : UInt8) : Int := match l.findIdx? (· == c) with
  | some i => i
  | none => -1

/-- how often a byte stands in a list -/
def ctByte (l : List UInt8) (c : UInt8) : Int := (l.count c : Nat)

/-- What copy leaves of l: from lo on, as much of m as fits below hi. -/
def cpL {τ : Type} (l m : List τ) (lo hi : Nat) : List τ := l.take lo ++ m.take (hi - lo) ++ l.drop (lo + min m.length (hi - lo))
theorem cpL_length {τ : Type} (l m : List τ) (lo hi : Nat) (h1 : lo ≤ hi) (h2 : hi ≤ l.length) : (cpL l m lo hi).length = l.length := by
  simp [cpL]; omega

/-! what may be missing; a part of a list by its bounds -/
def ocase {α ρ : Type} (o : Option α) (x : Option ρ) (y : α → Option ρ) : Option ρ := match o with
  | none => x
  | some a => y a
theorem ocase_n {α ρ : Type} {o : Option α} {x : Option ρ} {y : α → Option ρ} {r : ρ} (h : ocase o x y = some r) (ho : o = none) : x = some r := by subst ho; exact h
theorem ocase_s {α ρ : Type} {o : Option α} {x : Option ρ} {y : α → Option ρ} {r : ρ} {a : α} (h : ocase o x y = some r) (ho : o = some a) : y a = some r := by subst ho; exact h

def vwL (l : List UInt8) (c : Nat × Nat) : List UInt8 := (l.drop c.1).take (c.2 - c.1)

/-! loops -/
def iter {σ ρ : Type} (f : σ → Option (σ ⊕ ρ)) : Nat → σ → Option ρ
  | 0, _ => none
  | n + 1, s => match f s with
    | none => none
    | some (.inl s') => iter f n s'
    | some (.inr r) => some r

theorem iter_more {σ ρ : Type} {f : σ → Option (σ ⊕ ρ)} : ∀ {n : Nat} {s : σ} {r : ρ}, iter f n s = some r → ∀ {m : Nat}, n ≤ m → iter f m s = some r
  | 0, _, _, h, _, _ => by simp [iter] at h
  | n + 1, s, r, h, 0, hm => by omega
  | n + 1, s, r, h, m + 1, hm => by
    simp only [iter] at h ⊢
    split at h
    · cases h
    · exact iter_more h (by omega)
    · exact h

open Classical in
/-- The loop: what the rounds come to, if they come to an end. -/
noncomputable def loop {σ ρ : Type} (f : σ → Option (σ ⊕ ρ)) (s : σ) : Option ρ :=
  if h : ∃ n r, iter f n s = some r then some h.choose_spec.choose else none

theorem loop_iter {σ ρ : Type} {f : σ → Option (σ ⊕ ρ)} {n : Nat} {s : σ} {r : ρ} (h : iter f n s = some r) : loop f s = some r := by
  have hx : ∃ n r, iter f n s = some r := ⟨n, r, h⟩
  unfold loop
  rw [dif_pos hx]
  have h2 := hx.choose_spec.choose_spec
  have h3 := iter_more h2 (Nat.le_max_left hx.choose n)
  have h4 := iter_more h (Nat.le_max_right hx.choose n)
  rw [h3] at h4
  exact h4

theorem loop_some {σ ρ : Type} {f : σ → Option (σ ⊕ ρ)} {s : σ} {r : ρ} (h : loop f s = some r) : ∃ n, iter f n s = some r := by
  unfold loop at h
  split at h
  · rename_i hx
    simp only [Option.some.injEq] at h
    exact ⟨_, h ▸ hx.choose_spec.choose_spec⟩
  · cases h

/-- The loop's own equation. -/
theorem loop_eq {σ ρ : Type} (f : σ → Option (σ ⊕ ρ)) (s : σ) : loop f s = match f s with
    | none => none
    | some (.inl s') => loop f s'
    | some (.inr r) => some r := by
  cases hl : loop f s with
  | some r =>
    obtain ⟨n, hn⟩ := loop_some hl
    cases n with
    | zero => simp [iter] at hn
    | succ n =>
      simp only [iter] at hn
      split at hn
      · cases hn
      · simp only [loop_iter hn]
      · simp [hn]
  | none =>
    cases hf : f s with
    | none => rfl
    | some x =>
      cases x with
      | inl s' =>
        simp only
        cases hl' : loop f s' with
        | none => rfl
        | some r =>
          obtain ⟨n, hn⟩ := loop_some hl'
          have : iter f (n + 1) s = some r := by simp [iter, hf, hn]
          rw [loop_iter this] at hl
          cases hl
      | inr r =>
        have : iter f 1 s = some r := by simp [iter, hf]
        rw [loop_iter this] at hl
        cases hl

theorem loop_inl {σ ρ : Type} {f : σ → Option (σ ⊕ ρ)} {s s' : σ} (h : f s = some (.inl s')) : loop f s = loop f s' := by rw [loop_eq, h]
theorem loop_inr {σ ρ : Type} {f : σ → Option (σ ⊕ ρ)} {s : σ} {r : ρ} (h : f s = some (.inr r)) : loop f s = some r := by rw [loop_eq, h]

def oinl {σ ρ : Type} (s : σ) : Option (σ ⊕ ρ) := some (.inl s)
def oinr {σ ρ : Type} (x : Option ρ) : Option (σ ⊕ ρ) := x.map .inr
def lk {σ ρ : Type} (f : σ → Option (σ ⊕ ρ)) (k : Nat) (r : ρ) : σ ⊕ ρ → Prop
  | .inl s => iter f k s = some r
  | .inr r' => r' = r
theorem oinl_some {σ ρ : Type} {f : σ → Option (σ ⊕ ρ)} {k : Nat} {r : ρ} {s : σ} {x : σ ⊕ ρ} (h : oinl s = some x) (hk : lk f k r x) : iter f k s = some r := by
  cases h; exact hk
theorem oinr_some {σ ρ : Type} {f : σ → Option (σ ⊕ ρ)} {k : Nat} {r : ρ} {y : Option ρ} {x : σ ⊕ ρ} (h : oinr y = some x) (hk : lk f k r x) : y = some r := by
  cases y with
  | none => cases h
  | some z => cases h; rw [← (hk : z = r)]
theorem iter_lk {σ ρ : Type} {f : σ → Option (σ ⊕ ρ)} {k : Nat} {s : σ} {r : ρ} (h : iter f (k + 1) s = some r) : ∃ x, f s = some x ∧ lk f k r x := by
  simp only [iter] at h
  split at h
  · cases h
  · rename_i s' hs; exact ⟨_, hs, h⟩
  · rename_i r' hs; exact ⟨_, hs, by simpa [lk] using h⟩
/-- a loop that counts down: by a measure -/
theorem loop_measure {σ ρ : Type} {f : σ → Option (σ ⊕ ρ)} (I : σ → Prop) (μ : σ → Nat) (R : σ → ρ → Prop) (hstep : ∀ s, I s → (∃ s', f s = some (.inl s') ∧ I s' ∧ μ s' < μ s ∧ ∀ r, R s' r → R s r) ∨ (∃ r, f s = some (.inr r) ∧ R s r)) :
    ∀ s, I s → ∃ r, loop f s = some r ∧ R s r := by
  intro s
  generalize hn : μ s = n
  induction n using Nat.strongRecOn generalizing s with
  | _ n ih =>
    intro hI
    rcases hstep s hI with ⟨s', h1, h2, h3, h4⟩ | ⟨r, h1, h2⟩
    · obtain ⟨r, h5, h6⟩ := ih (μ s') (hn ▸ h3) s' rfl h2
      exact ⟨r, by rw [loop_inl h1, h5], h4 r h6⟩
    · exact ⟨r, loop_inr h1, h2⟩
end Go.Gk
