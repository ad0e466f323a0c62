import Derived.Test.YtmmlnghanonbjaaGkP4
import Derived.Test.YtmmlnghanonbjaaGkFlaw1
set_option linter.unusedVariables false
set_option linter.unusedSimpArgs false
set_option linter.unusedSimpArgs false
set_option linter.unusedVariables false
namespace Go.Gk
theorem loop_upS {σ ρ : Type} {f : σ → Option (σ ⊕ ρ)} {n : Nat} {r : ρ} (st : Nat → σ) (hstep : ∀ i, i < n → f (st i) = some (.inl (st (i + 1)))) (hend : f (st n) = some (.inr r)) :
    ∀ i, i ≤ n → loop f (st i) = some r := by
  intro i hi
  induction h : n - i generalizing i with
  | zero =>
    have : i = n := by omega
    subst this
    exact loop_inr hend
  | succ k ih =>
    rw [loop_inl (hstep i (by omega))]
    exact ih (i + 1) (by omega) (by omega)
def badAt (sg l : List UInt8) : Option Nat := l.findIdx? (fun c => decide (c ∉ sg))
theorem badAt_some {sg l : List UInt8} {i : Nat} (h : badAt sg l = some i) : ∃ hi : i < l.length, l[i] ∉ sg ∧ ∀ j (hj : j < i), l[j]'(by omega) ∈ sg := by
  unfold badAt at h
  rw [List.findIdx?_eq_some_iff_getElem] at h
  obtain ⟨hi, h1, h2⟩ := h
  refine ⟨hi, by simpa using h1, fun j hj => by have := h2 j hj; simpa using this⟩
theorem badAt_none {sg l : List UInt8} (h : badAt sg l = none) : ∀ c ∈ l, c ∈ sg := by
  unfold badAt at h
  rw [List.findIdx?_eq_none_iff] at h
  intro c hc
  simpa using h c hc
theorem badAt_good {sg l : List UInt8} (h : ∀ c ∈ l, c ∈ sg) : badAt sg l = none := by
  unfold badAt
  rw [List.findIdx?_eq_none_iff]
  intro c hc
  simpa using h c hc
theorem loop_scan {σ ρ : Type} {f : σ → Option (σ ⊕ ρ)} {sg l : List UInt8} {n : Nat} (hn : n ≤ l.length) (st : Nat → σ) (stop : Nat → ρ) (fin : ρ)
    (hgood : ∀ i (hi : i < n), l[i]'(by omega) ∈ sg → f (st i) = some (.inl (st (i + 1))))
    (hbad : ∀ i (hi : i < n), l[i]'(by omega) ∉ sg → f (st i) = some (.inr (stop i)))
    (hend : (∀ c ∈ l.take n, c ∈ sg) → loop f (st n) = some fin) :
    loop f (st 0) = some (match badAt sg (l.take n) with | some i => stop i | none => fin) := by
  cases h : badAt sg (l.take n) with
  | some i =>
    obtain ⟨hi, h1, h2⟩ := badAt_some h
    simp at hi
    refine loop_upS (n := i) st (fun j hj => hgood j (by omega) ?_) (hbad i (by omega) ?_) 0 (by omega)
    · have := h2 j hj; simpa using this
    · simpa using h1
  | none =>
    have hg := badAt_none h
    have : ∀ i, i ≤ n → loop f (st (n - i)) = some fin := by
      intro i
      induction i with
      | zero => intro _; exact hend hg
      | succ i ih =>
        intro hi
        rw [loop_inl (hgood (n - (i + 1)) (by omega) ?_)]
        · rw [show n - (i + 1) + 1 = n - i by omega]; exact ih (by omega)
        · apply hg
          rw [List.mem_take_iff_getElem]
          exact ⟨n - (i + 1), by omega, rfl⟩
    have := this n (Nat.le_refl _)
    rwa [Nat.sub_self] at this
def decU (l : List UInt8) : List UInt8 × Int × Int :=
  match badAt urlS l with
  | some i => ([], 20, (i : Int))
  | none => if l.length % 4 = 1 then ([], 21, (l.length : Int)) else if restL urlS l = true then (readL urlS l, 0, 0) else ([], 22, (l.length : Int) - 1)
theorem step_int (i : Nat) (h : i < 225000000000001) : wI ((i : Int) + 1) = ((i + 1 : Nat) : Int) := by rw [wI_in] <;> omega
theorem b64_number_neg (sg : List UInt8) (c : UInt8) : F.strings_IndexByte sg c = some (ixByte sg c) := rfl
theorem tmod4 (n : Nat) : Int.tmod (n : Int) 4 = ((n % 4 : Nat) : Int) := rfl
theorem b64_Decode_eq (l : List UInt8) (hl : l.length ≤ 225000000000000) : F.b64_Decode l = some (decU l) := by
  unfold F.b64_Decode decU
  have := loop_scan (f := F.b64_Decode_L1 l) (sg := urlS) (l := l) (n := l.length) (Nat.le_refl _) (fun i => (i : Int)) (fun i => ([], 20, (i : Int)))
    (if l.length % 4 = 1 then ([], 21, (l.length : Int)) else if restL urlS l = true then (readL urlS l, 0, 0) else ([], 22, (l.length : Int) - 1))
    (fun i hi hm => by
      unfold F.b64_Decode_L1
      dsimp only
      rw [if_pos (by simp; omega), getO_lt hi, bind_some', b64_number_neg, bind_some', show ∀ c, decide (ixByte [65, 66, 67, 68, 69, 70, 71, 72, 73, 74, 75, 76, 77, 78, 79, 80, 81, 82, 83, 84, 85, 86, 87, 88, 89, 90, 97, 98, 99, 100, 101, 102, 103, 104, 105, 106, 107, 108, 109, 110, 111, 112, 113, 114, 115, 116, 117, 118, 119, 120, 121, 122, 48, 49, 50, 51, 52, 53, 54, 55, 56, 57, 45, 95] c < 0) = decide (c ∉ urlS) from fun c => ixByte_neg urlS c, if_neg (by simpa using hm), step_int i (by omega)]
      rfl)
    (fun i hi hm => by
      unfold F.b64_Decode_L1
      dsimp only
      rw [if_pos (by simp; omega), getO_lt hi, bind_some', b64_number_neg, bind_some', show ∀ c, decide (ixByte [65, 66, 67, 68, 69, 70, 71, 72, 73, 74, 75, 76, 77, 78, 79, 80, 81, 82, 83, 84, 85, 86, 87, 88, 89, 90, 97, 98, 99, 100, 101, 102, 103, 104, 105, 106, 107, 108, 109, 110, 111, 112, 113, 114, 115, 116, 117, 118, 119, 120, 121, 122, 48, 49, 50, 51, 52, 53, 54, 55, 56, 57, 45, 95] c < 0) = decide (c ∉ urlS) from fun c => ixByte_neg urlS c, if_pos (by simpa using hm)]
      rfl)
    (fun hg => by
      refine loop_inr ?_
      rw [List.take_length] at hg
      unfold F.b64_Decode_L1
      dsimp only
      rw [if_neg (by simp), tmod4]
      by_cases h1 : l.length % 4 = 1
      · rw [if_pos (by simp [h1]), if_pos h1]; rfl
      · rw [if_neg (by simp; omega), if_neg h1]
        change oinr (obind (F.b64_read l urlS) _) = _
        rw [b64_read_eq urlS_ok l hg hl, bind_some']
        by_cases h2 : restL urlS l = true
        · rw [if_neg (by simp [h2]), if_pos h2]; rfl
        · have h3 : l.length ≠ 0 := by intro e; have : l = [] := List.eq_nil_of_length_eq_zero e; subst this; exact h2 rfl
          have e : wI ((l.length : Int) - 1) = (l.length : Int) - 1 := by rw [wI_in] <;> omega
          rw [if_pos (by simpa using h2), if_neg h2, e]; rfl)
  rw [List.take_length] at this
  exact this
def stdEnd (l : List UInt8) : Nat :=
  if l.length ≥ 1 ∧ l.getD (l.length - 1) 0 = 61 then (if l.length ≥ 2 ∧ l.getD (l.length - 2) 0 = 61 then l.length - 2 else l.length - 1) else l.length
theorem stdEnd_le (l : List UInt8) : stdEnd l ≤ l.length ∧ l.length ≤ stdEnd l + 2 := by unfold stdEnd; split <;> (try split) <;> omega
def decS (l : List UInt8) : List UInt8 × Int × Int :=
  match badAt stdS (l.take (stdEnd l)) with
  | some i => ([], 20, (i : Int))
  | none => if l.length % 4 ≠ 0 then ([], 21, (l.length : Int)) else if restL stdS (l.take (stdEnd l)) = true then (readL stdS (l.take (stdEnd l)), 0, 0) else ([], 22, (stdEnd l : Int) - 1)
theorem getD_lt {l : List UInt8} {q : Nat} (h : q < l.length) : l.getD q 0 = l[q] := by
  rw [List.getD_eq_getElem?_getD, List.getElem?_eq_getElem h]; rfl
theorem b64_std_L2 (l : List UInt8) (hl : l.length ≤ 225000000000000) : loop (F.b64_DecodeStd_L2 l (stdEnd l : Int)) 0 = some (decS l) := by
  unfold decS
  have hle := stdEnd_le l
  generalize stdEnd l = e at *
  exact loop_scan (f := F.b64_DecodeStd_L2 l (e : Int)) (sg := stdS) (l := l) (n := e) (hle.1) (fun i => (i : Int)) (fun i => ([], 20, (i : Int)))
    (if l.length % 4 ≠ 0 then ([], 21, (l.length : Int)) else if restL stdS (l.take e) = true then (readL stdS (l.take e), 0, 0) else ([], 22, (e : Int) - 1))
    (fun i hi hm => by
      unfold F.b64_DecodeStd_L2
      dsimp only
      rw [if_pos (by simp; omega), getO_lt (by omega), bind_some', b64_number_neg, bind_some', show ∀ c, decide (ixByte [65, 66, 67, 68, 69, 70, 71, 72, 73, 74, 75, 76, 77, 78, 79, 80, 81, 82, 83, 84, 85, 86, 87, 88, 89, 90, 97, 98, 99, 100, 101, 102, 103, 104, 105, 106, 107, 108, 109, 110, 111, 112, 113, 114, 115, 116, 117, 118, 119, 120, 121, 122, 48, 49, 50, 51, 52, 53, 54, 55, 56, 57, 43, 47] c < 0) = decide (c ∉ stdS) from fun c => ixByte_neg stdS c, if_neg (by simpa using hm), step_int i (by omega)]
      rfl)
    (fun i hi hm => by
      unfold F.b64_DecodeStd_L2
      dsimp only
      rw [if_pos (by simp; omega), getO_lt (by omega), bind_some', b64_number_neg, bind_some', show ∀ c, decide (ixByte [65, 66, 67, 68, 69, 70, 71, 72, 73, 74, 75, 76, 77, 78, 79, 80, 81, 82, 83, 84, 85, 86, 87, 88, 89, 90, 97, 98, 99, 100, 101, 102, 103, 104, 105, 106, 107, 108, 109, 110, 111, 112, 113, 114, 115, 116, 117, 118, 119, 120, 121, 122, 48, 49, 50, 51, 52, 53, 54, 55, 56, 57, 43, 47] c < 0) = decide (c ∉ stdS) from fun c => ixByte_neg stdS c, if_pos (by simpa using hm)]
      rfl)
    (fun hg => by
      refine loop_inr ?_
      unfold F.b64_DecodeStd_L2
      dsimp only
      rw [if_neg (by simp), tmod4]
      by_cases h1 : l.length % 4 = 0
      · rw [if_neg (by simp [h1]), if_neg (by omega), tkO_ok hle.1, bind_some']
        change oinr (obind (F.b64_read (l.take e) stdS) _) = _
        rw [b64_read_eq stdS_ok (l.take e) hg (by simp; omega), bind_some']
        by_cases h2 : restL stdS (l.take e) = true
        · rw [if_neg (by simp [h2]), if_pos h2]; rfl
        · have h3 : e ≠ 0 := by rintro rfl; exact h2 rfl
          have e : wI ((e : Int) - 1) = (e : Int) - 1 := by rw [wI_in] <;> omega
          rw [if_pos (by simpa using h2), if_neg h2, e]; rfl
      · rw [if_pos (by simp; omega), if_pos (by omega)]; rfl)
theorem b64_DecodeStd_eq (l : List UInt8) (hl : l.length ≤ 225000000000000) : F.b64_DecodeStd l = some (decS l) := by
  unfold F.b64_DecodeStd
  have hend : ∀ p : Int, F.b64_DecodeStd_K1 (stdEnd l : Int) p l false = some (.inr (decS l)) := by
    intro p
    unfold F.b64_DecodeStd_K1
    dsimp only
    rw [if_neg (by simp), b64_std_L2 l hl]; rfl
  have hstep : ∀ (e p : Nat), 0 < e → e ≤ l.length → p < 2 → F.b64_DecodeStd_L1 l ((e : Int), (p : Int)) = F.b64_DecodeStd_K1 (e : Int) (p : Int) l (l.getD (e - 1) 0 == 61) := by
    intro e p h1 h2 h3
    have e1 : wI ((e : Int) - 1) = ((e - 1 : Nat) : Int) := by rw [wI_in] <;> omega
    unfold F.b64_DecodeStd_L1
    dsimp only
    rw [if_pos (by simp; omega), if_pos (by simp; omega), e1, getO_lt (by omega), bind_some', getD_lt (by omega)]
  have hno : ∀ (e p : Nat), e = 0 ∨ 2 ≤ p → F.b64_DecodeStd_L1 l ((e : Int), (p : Int)) = F.b64_DecodeStd_K1 (e : Int) (p : Int) l false := by
    intro e p h
    unfold F.b64_DecodeStd_L1
    dsimp only
    by_cases h2 : p < 2
    · rw [if_pos (by simp; omega), if_neg (by simp; omega)]
    · rw [if_neg (by simp; omega)]
  have hmore : ∀ (e p : Nat), 0 < e → e ≤ l.length → p < 2 → F.b64_DecodeStd_K1 (e : Int) (p : Int) l true = some (.inl (((e - 1 : Nat) : Int), ((p + 1 : Nat) : Int))) := by
    intro e p h1 h2 h3
    have e1 : wI ((e : Int) - 1) = ((e - 1 : Nat) : Int) := by rw [wI_in] <;> omega
    have e2 : wI ((p : Int) + 1) = ((p + 1 : Nat) : Int) := by rw [wI_in] <;> omega
    unfold F.b64_DecodeStd_K1
    dsimp only
    rw [if_pos rfl, e1, e2]; rfl
  change loop (F.b64_DecodeStd_L1 l) ((l.length : Int), ((0 : Nat) : Int)) = _
  by_cases h1 : l.length ≥ 1 ∧ l.getD (l.length - 1) 0 = 61
  · rw [loop_inl (by rw [hstep _ _ (by omega) (by omega) (by omega), h1.2]; exact hmore _ _ (by omega) (by omega) (by omega))]
    by_cases h2 : l.length ≥ 2 ∧ l.getD (l.length - 2) 0 = 61
    · have he : stdEnd l = l.length - 2 := by unfold stdEnd; rw [if_pos h1, if_pos h2]
      have h3 : l.getD (l.length - 1 - 1) 0 = 61 := by rw [show l.length - 1 - 1 = l.length - 2 by omega]; exact h2.2
      rw [loop_inl (by rw [hstep _ _ (by omega) (by omega) (by omega), h3]; exact hmore _ _ (by omega) (by omega) (by omega))]
      refine loop_inr ?_
      rw [hno _ _ (by omega), show l.length - 1 - 1 = stdEnd l by omega]
      exact hend _
    · have he : stdEnd l = l.length - 1 := by unfold stdEnd; rw [if_pos h1, if_neg h2]
      refine loop_inr ?_
      by_cases h4 : l.length = 1
      · rw [hno _ _ (by omega), ← he]; exact hend _
      · have h3 : (l.getD (l.length - 1 - 1) 0 == 61) = false := by
          rw [show l.length - 1 - 1 = l.length - 2 by omega, beq_eq_false_iff_ne]; intro e; exact h2 ⟨by omega, e⟩
        rw [hstep _ _ (by omega) (by omega) (by omega), h3, ← he]; exact hend _
  · have he : stdEnd l = l.length := by unfold stdEnd; rw [if_neg h1]
    refine loop_inr ?_
    by_cases h4 : l.length = 0
    · rw [hno _ _ (by omega), ← he]; exact hend _
    · have h3 : (l.getD (l.length - 1) 0 == 61) = false := by
        rw [beq_eq_false_iff_ne]; intro e; exact h1 ⟨by omega, e⟩
      rw [hstep _ _ (by omega) (by omega) (by omega), h3]
      have := hend ((0 : Nat) : Int)
      rw [he] at this
      exact this
end Go.Gk
