/- Layer 1: the other laws, in plain terms. No program. -/
import Derived.Test.YtmpcjpcipmdgeaaGkP6
set_option linter.unusedSimpArgs false
set_option linter.unusedVariables false
set_option linter.unusedSectionVars false
namespace Go.Gk

theorem loop_fromS {σ ρ : Type} {f : σ → Option (σ ⊕ ρ)} {n : Nat} {r : ρ} (st : Nat → σ) {s : Nat} (hs : s ≤ n) (hstep : ∀ i, s ≤ i → i < n → f (st i) = some (.inl (st (i + 1)))) (hend : f (st n) = some (.inr r)) : loop f (st s) = some r := by
  have := loop_upS (f := f) (n := n - s) (r := r) (fun j => st (s + j)) (fun i hi => hstep (s + i) (by omega) (by omega)) (by rw [show s + (n - s) = n by omega]; exact hend) 0 (by omega)
  simpa using this

theorem law1_awake_eq : F.law1_awake = some true := by
  unfold F.law1_awake
  rw [b64_Decode_eq _ (by decide), bind_some', b64_DecodeStd_eq _ (by decide), bind_some']
  have h1 : decU [45, 95, 56] = ([251, 255], 0, 0) := by
    have := decU_spell [251, 255]
    rwa [show spellL urlS [251, 255] = [45, 95, 56] by decide] at this
  have h2 : decS [43, 47, 56, 61] = ([251, 255], 0, 0) := by
    have := decS_spell [251, 255]
    rwa [show fillL (spellL stdS [251, 255]) = [43, 47, 56, 61] by decide] at this
  rw [h1, h2]
  dsimp only
  rw [if_pos (by decide), if_pos (by decide), if_pos (by decide), if_pos (by decide), getO_lit0, bind_some', if_pos (by decide), getO_lit1, bind_some', if_pos (by decide), b64_Encode_eq _ (by decide), bind_some', if_pos (by decide), b64_EncodeStd_eq _ (by decide), bind_some']
  rfl

theorem spellL_get (sg sg' : List UInt8) (l : List UInt8) : ∀ i, i < (spellL sg l).length → ∃ n, n < 64 ∧ (spellL sg l)[i]? = some (sg6 sg n) ∧ (spellL sg' l)[i]? = some (sg6 sg' n) := by
  intro i hi
  rw [spellL_length] at hi
  refine ⟨sext l i, sext_lt l i, ?_, ?_⟩
  · rw [spellL_range]; simp [hi]
  · rw [spellL_range]; simp [hi]

theorem sign_pairs : ∀ n, n < 64 → (sg6 urlS n = sg6 stdS n ∧ sg6 urlS n ≠ 43 ∧ sg6 urlS n ≠ 47 ∧ sg6 stdS n ≠ 45 ∧ sg6 stdS n ≠ 95) ∨ (sg6 urlS n = 45 ∧ sg6 stdS n = 43) ∨ (sg6 urlS n = 95 ∧ sg6 stdS n = 47) := by decide

theorem fillL_length (s : List UInt8) : (fillL s).length % 4 = 0 ∧ s.length ≤ (fillL s).length ∧ (fillL s).length ≤ s.length + 3 := by
  simp [fillL]; omega

theorem law1_B64Back_eq (l : List UInt8) (hl : l.length ≤ 140737488355328) : F.law1_B64Back l = some true := by
  unfold F.law1_B64Back
  rw [law1_awake_eq, bind_some', if_neg (by simp), b64_Encode_eq l hl, bind_some', b64_EncodeStd_eq l hl, bind_some']
  have hlu := spellL_length urlS l
  have hls := spellL_length stdS l
  have hf := fillL_length (spellL stdS l)
  rw [b64_Decode_eq _ (by omega), bind_some', b64_DecodeStd_eq _ (by omega), bind_some', decU_spell, decS_spell]
  dsimp only
  rw [if_neg (by simp), if_neg (by simp), law1_same_self _ (by omega), bind_some', if_neg (by simp), bind_some', if_neg (by simp), tmod4, if_neg (by simp; omega)]
  have e1 : wI (8 * (l.length : Int)) = ((8 * l.length : Nat) : Int) := by rw [wI_in] <;> omega
  have e2 : wI (((8 * l.length : Nat) : Int) + 5) = ((8 * l.length + 5 : Nat) : Int) := by rw [wI_in] <;> omega
  have e3 : wI (Int.tdiv ((8 * l.length + 5 : Nat) : Int) 6) = (((8 * l.length + 5) / 6 : Nat) : Int) := by
    rw [show Int.tdiv ((8 * l.length + 5 : Nat) : Int) 6 = (((8 * l.length + 5) / 6 : Nat) : Int) from rfl, wI_nat _ (by omega)]
  rw [e1, e2, e3, if_neg (by rw [hlu]; simp), decide_eq_false (by omega)]
  unfold F.law1_B64Back_K1
  dsimp only
  rw [if_neg (by simp)]
  have hi1 : ∀ i : Nat, i < (spellL urlS l).length → F.law1_B64Back_L1 (spellL urlS l) (fillL (spellL stdS l)) (i : Int) = some (.inl ((i + 1 : Nat) : Int)) := by
    intro i hi
    obtain ⟨n, hn, h1, h2⟩ := spellL_get urlS stdS l i hi
    have h3 : (fillL (spellL stdS l))[i]? = some (sg6 stdS n) := by
      unfold fillL; rw [List.getElem?_append_left (by omega)]; exact h2
    unfold F.law1_B64Back_L1
    dsimp only
    rw [if_pos (by simp; omega), getO_of h1, bind_some', getO_of h3, bind_some']
    have hK : F.law1_B64Back_K2 (i : Int) false = some (.inl ((i + 1 : Nat) : Int)) := by
      unfold F.law1_B64Back_K2
      dsimp only
      rw [if_neg (by simp), step_int i (by omega)]; rfl
    rcases sign_pairs n hn with ⟨a1, a2, a3, a4, a5⟩ | ⟨a1, a2⟩ | ⟨a1, a2⟩
    · rw [if_neg (by simp [a1]), if_neg (by simp [a2]), if_neg (by simp [a3]), if_neg (by simp [a4]), beq_eq_false_iff_ne.2 a5]
      exact hK
    · rw [a1, a2, if_pos (by decide), if_pos (by decide), if_neg (by decide), if_neg (by decide), if_neg (by decide), if_neg (by decide)]
      exact hK
    · rw [a1, a2, if_pos (by decide), if_neg (by decide), if_pos (by decide), if_neg (by decide), if_neg (by decide), if_neg (by decide), if_neg (by decide)]
      exact hK
  have hi2 : F.law1_B64Back_L1 (spellL urlS l) (fillL (spellL stdS l)) ((spellL urlS l).length : Int) = some (.inr true) := by
    unfold F.law1_B64Back_L1
    dsimp only
    rw [if_neg (by simp)]
    have : loop (F.law1_B64Back_L2 (fillL (spellL stdS l))) ((spellL urlS l).length : Int) = some true := by
      refine loop_fromS (n := (fillL (spellL stdS l)).length) (fun i => (i : Int)) (s := (spellL urlS l).length) (by omega) (fun i h1 hi => ?_) ?_
      · unfold F.law1_B64Back_L2
        dsimp only
        rw [if_pos (by simp; omega), getO_lt hi, bind_some', if_neg, step_int i (by omega)]
        · rfl
        · simp only [fillL]
          rw [List.getElem_append_right (by omega), List.getElem_replicate]
          decide
      · unfold F.law1_B64Back_L2
        dsimp only
        rw [if_neg (by simp)]; rfl
    rw [this]; rfl
  exact loop_upS (n := (spellL urlS l).length) (fun i => (i : Int)) hi1 hi2 0 (by omega)


/-! the number -/
theorem law1_sign_eq : ∀ n, n < 64 → F.law1_sign (sg6 urlS n) = some (n : Int) := by decide

theorem num_K2 (q p x h acc n : Nat) (hh : h ≤ 6) (hacc : acc < 4294967296) (hx : acc / 2 ^ h = x) (hq : q < 225000000000000) :
    F.law1_B64Number_K2 (q : Int) (x : Int) (p : Int) (((6 + h : Nat) : Int), (acc : Int)) = some (.inl ((h : Int), ((acc % 2 ^ h : Nat) : Int), (p : Int), ((q + 1 : Nat) : Int))) := by
  unfold F.law1_B64Number_K2
  dsimp only
  have e1 : wI (((6 + h : Nat) : Int) - 6) = (h : Int) := by rw [wI_in] <;> omega
  have hp : 2 ^ h ≤ 64 := Nat.le_trans (Nat.pow_le_pow_right (by omega) hh) (by omega)
  have hp0 : 0 < 2 ^ h := Nat.pow_pos (by omega)
  have e2 : iShl (1 : Int) h = ((2 ^ h : Nat) : Int) := by
    have := iShl_nat 1 h (by omega) (by omega)
    rw [Nat.one_mul] at this
    exact this
  have e3 : wI (((2 ^ h : Nat) : Int) - 1) = ((2 ^ h - 1 : Nat) : Int) := by rw [wI_in] <;> omega
  rw [e1, ofInt64_nat _ (by omega), iShr_nat _ _ (by omega), hx, if_neg (by simp), e2, e3, iAnd_nat _ _ (by omega) (by omega), and_mask, step_int q (by omega)]
  rfl

section
variable (l : List UInt8) (hl : l.length ≤ 140737488355328) (q x : Nat)
include hl
theorem num_L2_more (h acc p : Nat) (hh : h < 6) (hacc : acc < 65536) (hp : p < l.length) :
    loop (F.law1_B64Number_L2 l (q : Int) (x : Int)) ((h : Int), (acc : Int), (p : Int)) = loop (F.law1_B64Number_L2 l (q : Int) (x : Int)) (((h + 8 : Nat) : Int), ((256 * acc + l[p].toNat : Nat) : Int), ((p + 1 : Nat) : Int)) := by
  refine loop_inl ?_
  have := l[p].toNat_lt
  unfold F.law1_B64Number_L2
  dsimp only
  rw [if_pos (by simp; omega), decide_eq_true (by omega)]
  unfold F.law1_B64Number_K1
  dsimp only
  have e1 : wI ((h : Int) + 8) = ((h + 8 : Nat) : Int) := by rw [wI_in] <;> omega
  have e2 : wI (256 * (acc : Int)) = ((256 * acc : Nat) : Int) := by rw [wI_in] <;> omega
  have e3 : wI (((256 * acc : Nat) : Int) + (l[p].toNat : Int)) = ((256 * acc + l[p].toNat : Nat) : Int) := by rw [wI_in] <;> omega
  rw [if_pos rfl, getO_lt hp, bind_some', e1, e2, e3, step_int p (by omega)]; rfl
theorem num_L2_full (h acc p : Nat) (hh : 6 ≤ h) : loop (F.law1_B64Number_L2 l (q : Int) (x : Int)) ((h : Int), (acc : Int), (p : Int)) = F.law1_B64Number_K2 (q : Int) (x : Int) (p : Int) ((h : Int), (acc : Int)) := by
  have : F.law1_B64Number_L2 l (q : Int) (x : Int) ((h : Int), (acc : Int), (p : Int)) = oinr (F.law1_B64Number_K2 (q : Int) (x : Int) (p : Int) ((h : Int), (acc : Int))) := by
    unfold F.law1_B64Number_L2
    dsimp only
    rw [if_neg (by simp; omega)]
    unfold F.law1_B64Number_K1
    dsimp only
    rw [if_neg (by simp), if_neg (by simp; omega)]
  rw [loop_eq, this]
  cases F.law1_B64Number_K2 (q : Int) (x : Int) (p : Int) ((h : Int), (acc : Int)) <;> rfl
theorem num_L2_last (h acc p : Nat) (hh : h < 6) (hacc : acc < 65536) (hp : l.length ≤ p) : loop (F.law1_B64Number_L2 l (q : Int) (x : Int)) ((h : Int), (acc : Int), (p : Int)) = F.law1_B64Number_K2 (q : Int) (x : Int) (p : Int) (((6 + 0 : Nat) : Int), ((acc * 2 ^ (6 - h) : Nat) : Int)) := by
  have e1 : wI (6 - (h : Int)) = ((6 - h : Nat) : Int) := by rw [wI_in] <;> omega
  have hp2 : 2 ^ (6 - h) ≤ 64 := Nat.le_trans (Nat.pow_le_pow_right (by omega) (show 6 - h ≤ 6 by omega)) (by omega)
  have hm : acc * 2 ^ (6 - h) ≤ 65536 * 64 := Nat.mul_le_mul (by omega) hp2
  have e2 : iShl (acc : Int) (6 - h) = ((acc * 2 ^ (6 - h) : Nat) : Int) := iShl_nat _ _ (by omega) (by omega)
  have : F.law1_B64Number_L2 l (q : Int) (x : Int) ((h : Int), (acc : Int), (p : Int)) = oinr (F.law1_B64Number_K2 (q : Int) (x : Int) (p : Int) (((6 + 0 : Nat) : Int), ((acc * 2 ^ (6 - h) : Nat) : Int))) := by
    unfold F.law1_B64Number_L2
    dsimp only
    rw [if_pos (by simp; omega), decide_eq_false (by omega)]
    unfold F.law1_B64Number_K1
    dsimp only
    rw [if_neg (by simp), if_pos (by simp; omega), e1, ofInt64_nat _ (by omega), e2]; rfl
  rw [loop_eq, this]
  cases F.law1_B64Number_K2 (q : Int) (x : Int) (p : Int) (((6 + 0 : Nat) : Int), ((acc * 2 ^ (6 - h) : Nat) : Int)) <;> rfl
end

/-- the state ahead of the sign q -/
def numSt (l : List UInt8) (q : Nat) : Int × Int × Int × Int :=
  let p := min l.length ((6 * q + 7) / 8)
  ((8 * p - 6 * q : Nat), ((l.getD (p - 1) 0).toNat % 2 ^ (8 * p - 6 * q) : Nat), (p : Nat), (q : Nat))

theorem num_step (l : List UInt8) (hl : l.length ≤ 140737488355328) (q : Nat) (hq : q < (8 * l.length + 5) / 6) :
    F.law1_B64Number_L1 l (spellL urlS l) (numSt l q) = some (.inl (numSt l (q + 1))) := by
  have hlen := spellL_length urlS l
  have hget : (spellL urlS l)[q]? = some (sg6 urlS (sext l q)) := by rw [spellL_range]; simp [hq]
  have hx := sext_lt l q
  unfold F.law1_B64Number_L1 numSt
  dsimp only
  rw [if_pos (by simp; omega), getO_of hget, bind_some', law1_sign_eq _ hx, bind_some', if_neg (by simp; omega)]
  obtain ⟨g, r, rfl, hr⟩ : ∃ g r, q = 4 * g + r ∧ r < 4 := ⟨q / 4, q % 4, by omega, by omega⟩
  have hg : (4 * g + r) / 4 = g := by omega
  have hm : (4 * g + r) % 4 = r := by omega
  have hr' : r = 0 ∨ r = 1 ∨ r = 2 ∨ r = 3 := by omega
  have h0 := (l.getD (3 * g) 0).toNat_lt; have h1 := (l.getD (3 * g + 1) 0).toNat_lt; have h2 := (l.getD (3 * g + 2) 0).toNat_lt
  have hs : sext l (4 * g + r) = if r = 0 then (l.getD (3 * g) 0).toNat / 4 else if r = 1 then (l.getD (3 * g) 0).toNat % 4 * 16 + (l.getD (3 * g + 1) 0).toNat / 16 else if r = 2 then (l.getD (3 * g + 1) 0).toNat % 16 * 4 + (l.getD (3 * g + 2) 0).toNat / 64 else (l.getD (3 * g + 2) 0).toNat % 64 := by
    unfold sext
    simp only [hg, hm]
  have hz : ∀ k, l.length ≤ k → (l.getD k 0).toNat = 0 := by
    intro k hk
    rw [List.getD_eq_getElem?_getD, List.getElem?_eq_none hk]; rfl
  rcases hr' with rfl | rfl | rfl | rfl
  · -- a new group
    have p1 : min l.length ((6 * (4 * g + 0) + 7) / 8) = 3 * g := by omega
    have p2 : min l.length ((6 * (4 * g + 0 + 1) + 7) / 8) = 3 * g + 1 := by omega
    have d1 : 8 * (3 * g) - 6 * (4 * g + 0) = 0 := by omega
    have d2 : 8 * (3 * g + 1) - 6 * (4 * g + 0 + 1) = 2 := by omega
    have hb : 3 * g < l.length := by omega
    rw [p1, p2, d1, d2, Nat.pow_zero, Nat.mod_one, num_L2_more l hl _ _ 0 0 (3 * g) (by omega) (by omega) hb, num_L2_full l hl _ _ _ _ _ (by omega)]
    rw [getD_lt hb] at hs h0
    rw [show 0 + 8 = 6 + 2 by omega, num_K2 _ _ _ 2 _ 0 (by omega) (by omega) (by rw [hs]; simp) (by omega)]
    rw [show 3 * g + 1 - 1 = 3 * g by omega, getD_lt hb]
    simp
  · have p1 : min l.length ((6 * (4 * g + 1) + 7) / 8) = 3 * g + 1 := by omega
    have d1 : 8 * (3 * g + 1) - 6 * (4 * g + 1) = 2 := by omega
    have hb : 3 * g < l.length := by omega
    rw [p1, d1, show 3 * g + 1 - 1 = 3 * g by omega]
    simp only [Nat.one_ne_zero, if_false, if_true] at hs
    by_cases hc : 3 * g + 1 < l.length
    · have p2 : min l.length ((6 * (4 * g + 1 + 1) + 7) / 8) = 3 * g + 2 := by omega
      have d2 : 8 * (3 * g + 2) - 6 * (4 * g + 1 + 1) = 4 := by omega
      rw [getD_lt hc] at hs h1
      rw [p2, d2, num_L2_more l hl _ _ 2 _ (3 * g + 1) (by omega) (by omega) hc, num_L2_full l hl _ _ _ _ _ (by omega)]
      rw [show 2 + 8 = 6 + 4 by omega, num_K2 _ _ _ 4 _ 0 (by omega) (by omega) (by rw [hs]; omega) (by omega)]
      rw [show 3 * g + 2 - 1 = 3 * g + 1 by omega, getD_lt hc]
      congr 4
      simp; omega
    · have p2 : min l.length ((6 * (4 * g + 1 + 1) + 7) / 8) = 3 * g + 1 := by omega
      have d2 : 8 * (3 * g + 1) - 6 * (4 * g + 1 + 1) = 0 := by omega
      rw [hz (3 * g + 1) (by omega)] at hs
      rw [p2, d2, num_L2_last l hl _ _ 2 _ (3 * g + 1) (by omega) (by omega) (by omega)]
      rw [num_K2 _ _ _ 0 _ 0 (by omega) (by omega) (by rw [hs]; omega) (by omega)]
      simp [Nat.mod_one]
  · have p1 : min l.length ((6 * (4 * g + 2) + 7) / 8) = 3 * g + 2 := by omega
    have d1 : 8 * (3 * g + 2) - 6 * (4 * g + 2) = 4 := by omega
    have hb : 3 * g + 1 < l.length := by omega
    rw [p1, d1, show 3 * g + 2 - 1 = 3 * g + 1 by omega]
    simp only [show ¬ (2 = 0) by omega, show ¬ (2 = 1) by omega, if_false, if_true] at hs
    by_cases hc : 3 * g + 2 < l.length
    · have p2 : min l.length ((6 * (4 * g + 2 + 1) + 7) / 8) = 3 * g + 3 := by omega
      have d2 : 8 * (3 * g + 3) - 6 * (4 * g + 2 + 1) = 6 := by omega
      rw [getD_lt hc] at hs h2
      rw [p2, d2, num_L2_more l hl _ _ 4 _ (3 * g + 2) (by omega) (by omega) hc, num_L2_full l hl _ _ _ _ _ (by omega)]
      rw [show 4 + 8 = 6 + 6 by omega, num_K2 _ _ _ 6 _ 0 (by omega) (by omega) (by rw [hs]; omega) (by omega)]
      rw [show 3 * g + 3 - 1 = 3 * g + 2 by omega, getD_lt hc]
      congr 4
      simp; omega
    · have p2 : min l.length ((6 * (4 * g + 2 + 1) + 7) / 8) = 3 * g + 2 := by omega
      have d2 : 8 * (3 * g + 2) - 6 * (4 * g + 2 + 1) = 0 := by omega
      rw [hz (3 * g + 2) (by omega)] at hs
      rw [p2, d2, num_L2_last l hl _ _ 4 _ (3 * g + 2) (by omega) (by omega) (by omega)]
      rw [num_K2 _ _ _ 0 _ 0 (by omega) (by omega) (by rw [hs]; omega) (by omega)]
      simp [Nat.mod_one]
  · have hb : 3 * g + 2 < l.length := by omega
    have p1 : min l.length ((6 * (4 * g + 3) + 7) / 8) = 3 * g + 3 := by omega
    have p2 : min l.length ((6 * (4 * g + 3 + 1) + 7) / 8) = 3 * g + 3 := by omega
    have d1 : 8 * (3 * g + 3) - 6 * (4 * g + 3) = 6 := by omega
    have d2 : 8 * (3 * g + 3) - 6 * (4 * g + 3 + 1) = 0 := by omega
    simp only [show ¬ (3 = 0) by omega, show ¬ (3 = 1) by omega, show ¬ (3 = 2) by omega, if_false] at hs
    rw [p1, p2, d1, d2, show 3 * g + 3 - 1 = 3 * g + 2 by omega, num_L2_full l hl _ _ _ _ _ (by omega)]
    have := num_K2 (4 * g + 3) (3 * g + 3) (sext l (4 * g + 3)) 0 ((l.getD (3 * g + 2) 0).toNat % 2 ^ 6) 0 (by omega) (by omega) (by rw [hs]; omega) (by omega)
    rw [show ((6 : Nat) : Int) = ((6 + 0 : Nat) : Int) from rfl, this]
    simp [Nat.mod_one]

theorem law1_B64Number_eq (l : List UInt8) (hl : l.length ≤ 140737488355328) : F.law1_B64Number l = some true := by
  unfold F.law1_B64Number
  rw [law1_awake_eq, bind_some', if_neg (by simp), b64_Encode_eq l hl, bind_some']
  have h0 : ((0 : Int), (0 : Int), (0 : Int), (0 : Int)) = numSt l 0 := by
    unfold numSt
    have e1 : min l.length ((6 * 0 + 7) / 8) = 0 := by omega
    simp only [e1]
    simp [Nat.mod_one]
  rw [h0]
  refine loop_upS (n := (8 * l.length + 5) / 6) (numSt l) (fun i hi => num_step l hl i hi) ?_ 0 (by omega)
  unfold F.law1_B64Number_L1 numSt
  dsimp only
  have hlen := spellL_length urlS l
  have e1 : min l.length ((6 * ((8 * l.length + 5) / 6) + 7) / 8) = l.length := by omega
  have e2 : 8 * l.length - 6 * ((8 * l.length + 5) / 6) = 0 := by omega
  rw [e1, e2, if_neg (by rw [hlen]; simp), if_pos (by simp)]
  rfl

/-! one spelling -/
theorem law1_B64One_eq (a b : List UInt8) (ha : a.length ≤ 140737488355328) (hb : b.length ≤ 140737488355328) : F.law1_B64One a b = some true := by
  unfold F.law1_B64One
  rw [law1_awake_eq, bind_some', if_neg (by simp), b64_Decode_eq a (by omega), bind_some']
  have hsz : ∀ t x : List UInt8, spellL urlS x = t → x.length ≤ t.length := fun t x h => by rw [← h, spellL_length]; omega
  have hszS : ∀ t x : List UInt8, fillL (spellL stdS x) = t → x.length ≤ t.length := fun t x h => by
    have := fillL_length (spellL stdS x); rw [h, spellL_length] at this; omega
  -- the second half
  have k4 : ∀ x, (x = decS a) → F.law1_B64One_K4 a b x false = some true := by
    rintro x rfl
    unfold F.law1_B64One_K4
    dsimp only
    rw [if_neg (by simp), b64_DecodeStd_eq b (by omega), bind_some']
    rcases h1 : decS a with ⟨x1, x2, x3⟩
    rcases h2 : decS b with ⟨y1, y2, y3⟩
    dsimp only
    by_cases hx : x2 = 0
    · subst hx
      rw [if_pos (by simp)]
      by_cases hy : y2 = 0
      · subst hy
        have ba := (decS_back a x1 x3 h1).1
        have bb := (decS_back b y1 y3 h2).1
        have := hszS a x1 ba
        rw [if_pos (by simp), law1_same_eq _ _ (by omega), bind_some']
        by_cases hxy : x1 = y1
        · rw [if_pos (by simpa using hxy)]
          have : a = b := by rw [← ba, ← bb, hxy]
          simp [this]
        · rw [if_neg (by simpa using hxy)]
      · rw [if_neg (by simpa using hy)]
    · rw [if_neg (by simpa using hx)]
  have k3 : F.law1_B64One_K3 a b false = some true := by
    unfold F.law1_B64One_K3
    dsimp only
    rw [if_neg (by simp), b64_DecodeStd_eq a (by omega), bind_some']
    rcases h1 : decS a with ⟨x1, x2, x3⟩
    dsimp only
    by_cases hx : x2 = 0
    · subst hx
      obtain ⟨ba, b0⟩ := decS_back a x1 x3 h1
      have := hszS a x1 ba
      rw [if_pos (by simp), b64_EncodeStd_eq _ (by omega), bind_some', ba, if_neg (by simp), b0]
      have := k4 (x1, 0, x3) h1.symm
      rw [b0] at this
      exact this
    · rw [if_neg (by simpa using hx)]; exact k4 (x1, x2, x3) h1.symm
  have k2 : F.law1_B64One_K2 a b (decU a) false = some true := by
    unfold F.law1_B64One_K2
    dsimp only
    rw [if_neg (by simp), b64_Decode_eq b (by omega), bind_some']
    rcases h1 : decU a with ⟨x1, x2, x3⟩
    rcases h2 : decU b with ⟨y1, y2, y3⟩
    dsimp only
    by_cases hx : x2 = 0
    · subst hx
      rw [if_pos (by simp)]
      by_cases hy : y2 = 0
      · subst hy
        have ba := (decU_back a x1 x3 h1).1
        have bb := (decU_back b y1 y3 h2).1
        have := hsz a x1 ba
        rw [if_pos (by simp), law1_same_eq _ _ (by omega), bind_some']
        by_cases hxy : x1 = y1
        · rw [if_pos (by simpa using hxy)]
          have : a = b := by rw [← ba, ← bb, hxy]
          rw [show (a != b) = false by simp [this]]
          exact k3
        · rw [if_neg (by simpa using hxy)]; exact k3
      · rw [if_neg (by simpa using hy)]; exact k3
    · rw [if_neg (by simpa using hx)]; exact k3
  have k1 : F.law1_B64One_K1 a (decU a) b false = some true := by
    unfold F.law1_B64One_K1
    dsimp only
    rw [if_neg (by simp)]
    by_cases hx : (decU a).2.1 = 0
    · rw [if_neg (by simpa using hx)]; exact k2
    · obtain ⟨e1, e2, e3⟩ := decU_err a hx
      rw [if_pos (by simpa using hx), e1, if_neg (by simp), if_neg (by simp; omega), decide_eq_false (by omega)]
      exact k2
  by_cases hx : (decU a).2.1 = 0
  · rcases h1 : decU a with ⟨x1, x2, x3⟩
    rw [h1] at hx k1
    dsimp only at hx ⊢
    subst hx
    obtain ⟨ba, b0⟩ := decU_back a x1 x3 h1
    have := hsz a x1 ba
    rw [if_pos (by simp), b64_Encode_eq _ (by omega), bind_some', ba, if_neg (by simp), b0]
    rw [b0] at k1
    exact k1
  · rw [if_neg (by simpa using hx)]; exact k1

/-! side by side -/
theorem spellL_append (sg : List UInt8) : ∀ x y : List UInt8, x.length % 3 = 0 → spellL sg (x ++ y) = spellL sg x ++ spellL sg y
  | a :: b :: c :: r, y, h => by
    simp only [List.cons_append, spellL]
    rw [spellL_append sg r y (by simp at h; omega)]
  | [_, _], _, h => absurd h (by simp)
  | [_], _, h => absurd h (by simp)
  | [], y, _ => by simp [spellL]
theorem fillL_append (x y : List UInt8) (h : x.length % 4 = 0) : fillL (x ++ y) = fillL x ++ fillL y := by
  unfold fillL
  have e : (x ++ y).length % 4 = y.length % 4 := by simp; omega
  rw [e, h]; simp

theorem law1_B64Joins_eq (a b : List UInt8) (hab : a.length + b.length ≤ 140737488355328) : F.law1_B64Joins a b = some true := by
  unfold F.law1_B64Joins
  have e1 : wI ((a.length : Int) - Int.tmod (a.length : Int) 3) = ((a.length - a.length % 3 : Nat) : Int) := by
    rw [show Int.tmod (a.length : Int) 3 = ((a.length % 3 : Nat) : Int) from rfl, wI_in] <;> omega
  rw [law1_awake_eq, bind_some', if_neg (by simp), olet_eq, e1]
  generalize hn : a.length - a.length % 3 = n
  have hn3 : n % 3 = 0 ∧ n ≤ a.length := by omega
  have hx : (a.take n).length = n := by simp; omega
  rw [tkO_ok hn3.2, bind_some']
  generalize a.take n = x at *
  have s1 := spellL_length urlS x; have s2 := spellL_length urlS b; have s3 := spellL_length stdS x; have s4 := spellL_length stdS b
  have f1 := fillL_length (spellL stdS x); have f2 := fillL_length (spellL stdS b)
  rw [apO1_ok (by simp; omega), bind_some', List.nil_append, apO1_ok (by omega), bind_some', b64_Encode_eq _ (by simp; omega), bind_some', bind_some', b64_Encode_eq _ (by omega), bind_some', b64_Encode_eq _ (by omega), bind_some', sadO_ok (by omega), bind_some']
  rw [spellL_append _ _ _ (by omega), if_pos (by simp), b64_EncodeStd_eq _ (by simp; omega), bind_some', bind_some', b64_EncodeStd_eq _ (by omega), bind_some', b64_EncodeStd_eq _ (by omega), bind_some', sadO_ok (by omega), bind_some', spellL_append _ _ _ (by omega), fillL_append _ _ (by omega)]
  simp
end Go.Gk
