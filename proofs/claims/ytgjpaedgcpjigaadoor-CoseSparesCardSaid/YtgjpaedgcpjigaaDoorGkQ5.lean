import Derived.Test.YtgjpaedgcpjigaaDoorGkQ0
import Derived.Test.YtgjpaedgcpjigaaDoorGkQU
import Derived.Test.YtgjpaedgcpjigaaDoorGkFlaw30
set_option linter.unusedVariables false
set_option linter.unusedSimpArgs false
set_option linter.unusedSimpArgs false
set_option linter.unusedVariables false
namespace Go.Gk.Cb
open Go Go.Gk
theorem same_loop {τ : Type} [BEq τ] [LawfulBEq τ] {f : Int → Option (Int ⊕ Bool)} {a b : List τ} (hl : a.length = b.length)
    (hstep : ∀ (i : Nat) (h : i < a.length), f (i : Int) = if (a[i] != b[i]) = true then some (.inr false) else some (.inl ((i + 1 : Nat) : Int))) (hend : f (a.length : Int) = some (.inr true)) : loop f 0 = some (a == b) := by
  have key : ∀ k i, a.length - i = k → i ≤ a.length → loop f (i : Int) = some (a.drop i == b.drop i) := by
    intro k
    induction k with
    | zero =>
      intro i h1 h2
      have hi : i = a.length := by omega
      subst hi
      rw [loop_inr hend]
      simp [List.drop_eq_nil_of_le, hl]
    | succ k ih =>
      intro i h1 h2
      have h3 : i < a.length := by omega
      have h4 : i < b.length := by omega
      have hs := hstep i h3
      rw [List.drop_eq_getElem_cons h3, List.drop_eq_getElem_cons h4]
      by_cases he : (a[i] != b[i]) = true
      · rw [if_pos he] at hs
        rw [loop_inr hs]
        have : (a[i] == b[i]) = false := by simpa [bne] using he
        simp only [List.cons_beq_cons, this, Bool.false_and]
      · rw [if_neg he] at hs
        rw [loop_inl hs, ih (i + 1) (by omega) (by omega)]
        have : (a[i] == b[i]) = true := by simpa [bne] using he
        simp only [List.cons_beq_cons, this, Bool.true_and]
  have := key a.length 0 (by omega) (by omega)
  simpa using this
theorem sameB_eq (a b : List UInt8) (ha : a.length < 9223372036854775807) : F.law30_sameBytes a b = some (a == b) := by
  unfold F.law30_sameBytes
  by_cases hl : a.length = b.length
  · have d0 : ((a.length : Int) != (b.length : Int)) = false := by simp [hl]
    simp only [d0, Bool.false_eq_true, if_false]
    refine same_loop hl (fun i h => ?_) ?_
    · have d1 : decide ((i : Int) < (a.length : Int)) = true := by simp; omega
      simp only [F.law30_sameBytes_L1, d1, if_true, getO_lt h, getO_lt (show i < b.length by omega), bind_some']
      rw [wI_in (by omega) (by omega)]
      rfl
    · have d1 : decide ((a.length : Int) < (a.length : Int)) = false := by simp
      simp only [F.law30_sameBytes_L1, d1, Bool.false_eq_true, if_false]
      rfl
  · have d0 : ((a.length : Int) != (b.length : Int)) = true := by simp; omega
    simp only [d0, if_true]
    congr 1
    symm
    rw [beq_eq_false_iff_ne]
    rintro rfl
    exact hl rfl
theorem sameI_eq (a b : List It) (ha : a.length < 9223372036854775807) : F.law30_same a b = some (a == b) := by
  unfold F.law30_same
  by_cases hl : a.length = b.length
  · have d0 : ((a.length : Int) != (b.length : Int)) = false := by simp [hl]
    simp only [d0, Bool.false_eq_true, if_false]
    refine same_loop hl (fun i h => ?_) ?_
    · have d1 : decide ((i : Int) < (a.length : Int)) = true := by simp; omega
      simp only [F.law30_same_L1, d1, if_true, getO_lt h, getO_lt (show i < b.length by omega), bind_some']
      rw [wI_in (by omega) (by omega)]
      rfl
    · have d1 : decide ((a.length : Int) < (a.length : Int)) = false := by simp
      simp only [F.law30_same_L1, d1, Bool.false_eq_true, if_false]
      rfl
  · have d0 : ((a.length : Int) != (b.length : Int)) = true := by simp; omega
    simp only [d0, if_true]
    congr 1
    symm
    rw [beq_eq_false_iff_ne]
    rintro rfl
    exact hl rfl
def room9 : List UInt8 := List.replicate 9 165
theorem roomy_eq (b : List UInt8) (hb : b.length ≤ 200000000000000) : F.law30_roomy b = some (b ++ room9, b.length) := by
  unfold F.law30_roomy
  rw [apO1_ok (by simp; omega), bind_some', List.nil_append]
  have key : ∀ k i, 9 - i = k → i ≤ 9 → loop (F.law30_roomy_L1 b) (b ++ List.replicate i 165, (i : Int)) = some (b ++ room9, b.length) := by
    intro k
    induction k with
    | zero =>
      intro i h1 h2
      have : i = 9 := by omega
      subst this
      refine loop_inr ?_
      simp only [F.law30_roomy_L1]
      rw [if_neg (by decide), grd_true _ (by simp)]
      simp [room9, oinr]
    | succ k ih =>
      intro i h1 h2
      have d1 : decide ((i : Int) < 9) = true := by simp; omega
      have : F.law30_roomy_L1 b (b ++ List.replicate i 165, (i : Int)) = some (.inl (b ++ List.replicate (i + 1) 165, ((i + 1 : Nat) : Int))) := by
        simp only [F.law30_roomy_L1, d1, if_true]
        rw [apO1_ok (by simp; omega), bind_some', wI_in (by omega) (by omega), List.append_assoc, ← List.replicate_succ']
        rfl
      rw [loop_inl this]
      exact ih (i + 1) (by omega) (by omega)
  have := key 9 0 (by omega) (by omega)
  simpa using this
theorem spared_eq (b : List UInt8) (hb : b.length ≤ 200000000000000) : F.law30_spared (b ++ room9) b.length b = some true := by
  unfold F.law30_spared
  have e1 : wI ((b.length : Int) + 9) = ((b.length + 9 : Nat) : Int) := by rw [wI_in (by omega) (by omega)]; rfl
  have ht : (b ++ room9).take (b.length + 9) = b ++ room9 := List.take_of_length_le (by simp [room9])
  rw [e1, grd_true _ (by simp [room9]; omega)]
  have key : ∀ k i, 9 - i = k → i ≤ 9 → loop (F.law30_spared_L1 (b ++ room9) b.length b) (((b.length + i : Nat)) : Int) = some true := by
    intro k
    induction k with
    | zero =>
      intro i h1 h2
      have : i = 9 := by omega
      subst this
      refine loop_inr ?_
      have d1 : decide (((b.length + 9 : Nat) : Int) < ((b ++ room9).length : Int)) = false := by simp [room9]
      simp only [F.law30_spared_L1, e1, Int.toNat_natCast, ht, d1, Bool.false_eq_true, if_false]
      rw [List.take_left' rfl, sameB_eq _ _ (by omega)]
      simp [oinr]
    | succ k ih =>
      intro i h1 h2
      have d1 : decide (((b.length + i : Nat) : Int) < ((b ++ room9).length : Int)) = true := by simp [room9]; omega
      have hg : getO (b ++ room9) ((b.length + i : Nat) : Int) = some 165 := by
        rw [getO_nat, List.getElem?_append_right (by omega), show b.length + i - b.length = i by omega]
        unfold room9
        rw [List.getElem?_replicate, if_pos (by omega)]
      have : F.law30_spared_L1 (b ++ room9) b.length b ((b.length + i : Nat) : Int) = some (.inl ((b.length + (i + 1) : Nat) : Int)) := by
        have e5 : wI (((b.length + i : Nat) : Int) + 1) = ((b.length + (i + 1) : Nat) : Int) := by rw [wI_in (by omega) (by omega)]; rfl
        simp only [F.law30_spared_L1, e1, Int.toNat_natCast, ht, d1, if_true, hg, bind_some', bne_self_eq_false, Bool.false_eq_true, if_false, e5]
        rfl
      rw [loop_inl this]
      exact ih (i + 1) (by omega) (by omega)
  exact key 9 0 (by omega) (by omega)
theorem refParse' (b : List UInt8) (hl : b.length ≤ 9223372036854775807) : F.ref30_Parse b = some (parseD b) := by
  by_cases hb : 65536 < b.length
  · unfold F.ref30_Parse parseD
    have : decide ((65536 : Int) < (b.length : Int)) = true := by simp; omega
    simp only [this, if_true, hb]
  · exact refParse_eq (fun s hs => utf8_eq (by omega)) hl
end Go.Gk.Cb
