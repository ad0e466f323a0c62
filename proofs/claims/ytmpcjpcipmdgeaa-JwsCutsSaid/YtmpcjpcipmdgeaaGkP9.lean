/- Layer 18: cutting and joining tokens, in plain terms. No program. -/
import Derived.Test.YtmpcjpcipmdgeaaGkP7
import Derived.Test.YtmpcjpcipmdgeaaGkFlaw18
set_option linter.unusedSimpArgs false
set_option linter.unusedVariables false
namespace Go.Gk

theorem law18_same_eq (x y : List UInt8) (hx : x.length < 225000000000000) : F.law18_same x y = some (decide (x = y)) := by
  have h := law1_same_eq x y hx
  have e : F.law18_same_L1 = F.law1_same_L1 := by
    funext a b s
    unfold F.law18_same_L1 F.law1_same_L1
    rfl
  unfold F.law18_same
  rw [e]
  exact h

/-! the parts -/
theorem ix_dot {p t : List UInt8} (hp : (46 : UInt8) ∉ p) : ixByte (p ++ 46 :: t) 46 = (p.length : Int) := by
  unfold ixByte
  have : (p ++ 46 :: t).findIdx? (fun x => x == 46) = some p.length := by
    rw [List.findIdx?_append, List.findIdx?_eq_none_iff.2 (fun x hx => by simp; rintro rfl; exact hp hx)]
    simp [List.findIdx?_cons]
  rw [this]
theorem index_eq (l : List UInt8) : F.internal_stringslite_Index l = some (ixByte l 46) := by
  unfold F.internal_stringslite_Index
  by_cases h : [46] = l
  · subst h; rfl
  · rw [if_neg (by simpa using h)]; rfl
theorem cut_eq {p t : List UInt8} (hp : (46 : UInt8) ∉ p) (hl : p.length < 225000000000000) : F.strings_Cut (p ++ 46 :: t) = some (p, t, true) := by
  unfold F.strings_Cut F.internal_stringslite_Cut
  rw [index_eq, bind_some', ix_dot hp, if_pos (by simp)]
  have e : wI ((p.length : Int) + 1) = ((p.length + 1 : Nat) : Int) := by rw [wI_in] <;> omega
  rw [tkO_ok (by simp), bind_some', e, drO_ok (by simp), bind_some']
  simp

theorem split_dot : ∀ (l : List UInt8), 0 < l.count 46 → ∃ p t, l = p ++ 46 :: t ∧ (46 : UInt8) ∉ p
  | [], h => by simp at h
  | a :: r, h => by
    by_cases ha : a = 46
    · exact ⟨[], r, by rw [ha]; rfl, by simp⟩
    · have : 0 < r.count 46 := by rw [List.count_cons] at h; simpa [ha] using h
      obtain ⟨p, t, rfl, hp⟩ := split_dot r this
      exact ⟨a :: p, t, rfl, by simp [hp]; exact fun e => ha e.symm⟩
theorem split_two (l : List UInt8) (h : l.count 46 = 2) : ∃ p q r, l = p ++ 46 :: (q ++ 46 :: r) ∧ (46 : UInt8) ∉ p ∧ (46 : UInt8) ∉ q ∧ (46 : UInt8) ∉ r := by
  obtain ⟨p, t, rfl, hp⟩ := split_dot l (by omega)
  have h1 : t.count 46 = 1 := by
    rw [List.count_append, List.count_cons_self, List.count_eq_zero.2 hp] at h; omega
  obtain ⟨q, r, rfl, hq⟩ := split_dot t (by omega)
  have h2 : r.count 46 = 0 := by
    rw [List.count_append, List.count_cons_self, List.count_eq_zero.2 hq] at h1; omega
  exact ⟨p, q, r, rfl, hp, hq, List.count_eq_zero.1 h2⟩

section
variable (l : List UInt8) (hl : l.length ≤ 65536)
include hl
theorem ref18_step (dots : List Int) (i : Nat) (hi : i < l.length) (hd : dots.length ≤ i) : F.ref18_Split_L1 l (dots, (i : Int)) = some (.inl (if l[i] = 46 then dots ++ [(i : Int)] else dots, ((i + 1 : Nat) : Int))) := by
  unfold F.ref18_Split_L1
  dsimp only
  rw [if_pos (by simp; omega), getO_lt hi, bind_some']
  by_cases h : l[i] = 46
  · rw [if_pos (by simpa using h), apO_ok (by simp; omega), bind_some', if_pos h]
    unfold F.ref18_Split_K1
    dsimp only
    rw [step_int i (by omega)]; rfl
  · rw [if_neg (by simpa using h), if_neg h]
    unfold F.ref18_Split_K1
    dsimp only
    rw [step_int i (by omega)]; rfl
theorem ref18_not_two : ∀ (m i : Nat) (dots : List Int), i + m = l.length → dots.length ≤ i → dots.length + (l.drop i).count 46 ≠ 2 → loop (F.ref18_Split_L1 l) (dots, (i : Int)) = some ([], [], [], 120) := by
  intro m
  induction m with
  | zero =>
    intro i dots hi hd hc
    refine loop_inr ?_
    rw [List.drop_eq_nil_of_le (by omega)] at hc
    simp at hc
    unfold F.ref18_Split_L1
    dsimp only
    rw [if_neg (by simp; omega), if_pos (by simp; omega)]; rfl
  | succ m ih =>
    intro i dots hi hd hc
    have hlt : i < l.length := by omega
    rw [loop_inl (ref18_step l hl dots i hlt hd)]
    rw [List.drop_eq_getElem_cons hlt, List.count_cons] at hc
    by_cases h : l[i] = 46
    · rw [if_pos h]
      exact ih (i + 1) _ (by omega) (by simp; omega) (by simp [h] at hc ⊢; omega)
    · rw [if_neg h]
      exact ih (i + 1) _ (by omega) (by omega) (by simpa [h] using hc)
theorem ref18_adv (dots : List Int) : ∀ (m i : Nat), i + m ≤ l.length → dots.length ≤ i → (∀ k (hk : k < l.length), i ≤ k → k < i + m → l[k] ≠ 46) → loop (F.ref18_Split_L1 l) (dots, (i : Int)) = loop (F.ref18_Split_L1 l) (dots, ((i + m : Nat) : Int)) := by
  intro m
  induction m with
  | zero => intro i _ _ _; rfl
  | succ m ih =>
    intro i hi hd hn
    rw [loop_inl (ref18_step l hl dots i (by omega) hd), if_neg (hn i (by omega) (Nat.le_refl _) (by omega)), ih (i + 1) (by omega) (by omega) (fun k hk h1 h2 => hn k hk (by omega) (by omega))]
    congr 3; omega
end

/-- what Split answers -/
theorem split_eqs (l : List UInt8) (hl : l.length ≤ 140737488355328) : ∃ p q r : List UInt8, ∃ e : Int, F.jws_Split l = some (p, q, r, e) ∧ F.ref18_Split l = some (p, q, r, e) ∧ p.length ≤ 65536 ∧ q.length ≤ 65536 ∧ r.length ≤ 65536 := by
  unfold F.jws_Split F.ref18_Split
  by_cases hb : 65536 < l.length
  · rw [if_pos (by simp; omega), if_pos (by simp; omega)]
    exact ⟨[], [], [], 10, rfl, rfl, by simp, by simp, by simp⟩
  · rw [if_neg (by simp; omega), if_neg (by simp; omega)]
    have hc : F.strings_Count l = some ((l.count 46 : Nat) : Int) := rfl
    rw [hc, bind_some']
    by_cases h2 : l.count 46 = 2
    · obtain ⟨p, q, r, rfl, hp, hq, hr⟩ := split_two l h2
      simp at hb
      rw [if_neg (by rw [h2]; simp), cut_eq hp (by omega), bind_some', cut_eq hq (by omega), bind_some']
      refine ⟨p, q, r, 0, rfl, ?_, by omega, by omega, by omega⟩
      have hlen : (p ++ 46 :: (q ++ 46 :: r)).length = p.length + 1 + q.length + 1 + r.length := by simp; omega
      generalize hL : p ++ 46 :: (q ++ 46 :: r) = L at *
      have hg1 : ∀ k (hk : k < L.length), k < p.length → L[k] ≠ 46 := by
        intro k hk h1 e
        subst hL
        rw [List.getElem_append_left h1] at e
        exact hp (e ▸ List.getElem_mem _)
      have hg2 : L[p.length]'(by omega) = 46 := by
        subst hL
        simp
      have hg3 : ∀ k (hk : k < L.length), p.length + 1 ≤ k → k < p.length + 1 + q.length → L[k] ≠ 46 := by
        intro k hk h1 h3 e
        subst hL
        rw [List.getElem_append_right (by omega), List.getElem_cons, dif_neg (by omega), List.getElem_append_left (by omega)] at e
        exact hq (e ▸ List.getElem_mem _)
      have hg4 : L[p.length + 1 + q.length]'(by omega) = 46 := by
        subst hL
        rw [List.getElem_append_right (by omega), List.getElem_cons, dif_neg (by omega), List.getElem_append_right (by omega), List.getElem_cons, dif_pos (by omega)]
      have hg5 : ∀ k (hk : k < L.length), p.length + 1 + q.length + 1 ≤ k → L[k] ≠ 46 := by
        intro k hk h1 e
        subst hL
        rw [List.getElem_append_right (by omega), List.getElem_cons, dif_neg (by omega), List.getElem_append_right (by omega), List.getElem_cons, dif_neg (by omega)] at e
        exact hr (e ▸ List.getElem_mem _)
      have hLl : L.length ≤ 65536 := by omega
      have s1 := ref18_adv L hLl [] p.length 0 (by omega) (by simp) (fun k hk _ h => hg1 k hk (by omega))
      have s2 := loop_inl (ref18_step L hLl [] p.length (by omega) (by simp))
      rw [if_pos hg2] at s2
      have s3 := ref18_adv L hLl ([] ++ [(p.length : Int)]) q.length (p.length + 1) (by omega) (by simp) (fun k hk h1 h => hg3 k hk h1 h)
      have s4 := loop_inl (ref18_step L hLl ([] ++ [(p.length : Int)]) (p.length + 1 + q.length) (by omega) (by simp; omega))
      rw [if_pos hg4] at s4
      have s5 := ref18_adv L hLl ([] ++ [(p.length : Int)] ++ [((p.length + 1 + q.length : Nat) : Int)]) r.length (p.length + 1 + q.length + 1) (by omega) (by simp; omega) (fun k hk h1 h => hg5 k hk h1)
      rw [Nat.zero_add] at s1
      rw [show ((0 : Int)) = ((0 : Nat) : Int) from rfl, s1, s2, s3, s4, s5]
      refine loop_inr ?_
      unfold F.ref18_Split_L1
      dsimp only
      have e1 : wI ((p.length : Int) + 1) = ((p.length + 1 : Nat) : Int) := by rw [wI_in] <;> omega
      have e2 : wI (((p.length + 1 + q.length : Nat) : Int) + 1) = ((p.length + 1 + q.length + 1 : Nat) : Int) := by rw [wI_in] <;> omega
      rw [if_neg (by simp; omega), if_neg (by simp)]
      simp only [List.nil_append, List.cons_append]
      rw [getO_lit0, bind_some', tkO_ok (by omega), bind_some', bind_some', getO_lit1, bind_some', e1, slO_ok (by omega) (by omega), bind_some', bind_some', e2, drO_ok (by omega), bind_some']
      subst hL
      have t1 : (p ++ 46 :: (q ++ 46 :: r)).take p.length = p := List.take_left' rfl
      have t2 : (p ++ 46 :: (q ++ 46 :: r)).drop (p.length + 1) = q ++ 46 :: r := by
        rw [show p.length + 1 = (p ++ [46]).length by simp, show p ++ 46 :: (q ++ 46 :: r) = (p ++ [46]) ++ (q ++ 46 :: r) by simp, List.drop_left' rfl]
      have t3 : (p ++ 46 :: (q ++ 46 :: r)).drop (p.length + 1 + q.length + 1) = r := by
        rw [show p.length + 1 + q.length + 1 = (p ++ 46 :: (q ++ [46])).length by simp; omega, show p ++ 46 :: (q ++ 46 :: r) = (p ++ 46 :: (q ++ [46])) ++ r by simp, List.drop_left' rfl]
      rw [t1, t2, t3, show p.length + 1 + q.length - (p.length + 1) = q.length by omega, List.take_left' rfl]
      rfl
    · rw [if_pos (by simp; omega)]
      refine ⟨[], [], [], 120, rfl, ?_, by simp, by simp, by simp⟩
      have := ref18_not_two l (by omega) l.length 0 [] (by omega) (by simp) (by simpa using h2)
      simpa using this

theorem decode_eqs (l : List UInt8) (hl : l.length ≤ 140737488355328) : ∃ p q r : List UInt8, ∃ e : Int, F.jws_Decode l = some (p, q, r, e) ∧ F.ref18_Decode l = some (p, q, r, e) ∧ p.length ≤ 65536 ∧ q.length ≤ 65536 ∧ r.length ≤ 65536 := by
  obtain ⟨p, q, r, e, h1, h2, hp, hq, hr⟩ := split_eqs l hl
  have hd : ∀ t : List UInt8, t.length ≤ 65536 → (decU t).1.length ≤ 65536 := by
    intro t ht
    unfold decU
    split
    · simp
    · split
      · simp
      · split
        · simp [readL_length]; omega
        · simp
  unfold F.jws_Decode F.ref18_Decode
  rw [h1, h2, bind_some', bind_some']
  dsimp only
  by_cases he : e = 0
  · subst he
    rw [if_neg (by simp), if_neg (by simp), b64_Decode_eq p (by omega), bind_some', ref1_Decode_eq p (by omega), bind_some']
    by_cases d1 : (decU p).2.1 = 0
    · rw [if_neg (by simpa using d1), if_neg (by simpa using d1), b64_Decode_eq q (by omega), bind_some', ref1_Decode_eq q (by omega), bind_some']
      by_cases d2 : (decU q).2.1 = 0
      · rw [if_neg (by simpa using d2), if_neg (by simpa using d2), b64_Decode_eq r (by omega), bind_some', ref1_Decode_eq r (by omega), bind_some']
        by_cases d3 : (decU r).2.1 = 0
        · rw [if_neg (by simpa using d3)]
          exact ⟨_, _, _, _, rfl, rfl, hd p hp, hd q hq, hd r hr⟩
        · rw [if_pos (by simpa using d3)]
          exact ⟨_, _, _, _, rfl, rfl, by simp, by simp, by simp⟩
      · rw [if_pos (by simpa using d2), if_pos (by simpa using d2)]
        exact ⟨_, _, _, _, rfl, rfl, by simp, by simp, by simp⟩
    · rw [if_pos (by simpa using d1), if_pos (by simpa using d1)]
      exact ⟨_, _, _, _, rfl, rfl, by simp, by simp, by simp⟩
  · rw [if_pos (by simpa using he), if_pos (by simpa using he)]
    exact ⟨_, _, _, _, rfl, rfl, by simp, by simp, by simp⟩

/-! the token of three parts -/
def compactL (a b c : List UInt8) : List UInt8 × Int :=
  if 65536 < 2 + (4 * a.length + 2) / 3 + (4 * b.length + 2) / 3 + (4 * c.length + 2) / 3 then ([], 10)
  else (spellL urlS a ++ [46] ++ spellL urlS b ++ [46] ++ spellL urlS c, 0)
theorem third_six (n : Nat) : (8 * n + 5) / 6 = (4 * n + 2) / 3 := by omega
theorem third_int (n : Nat) (hn : n ≤ 140737488355328) : wI (Int.tdiv (wI ((wI ((n : Int) * 4)) + 2)) 3) = (((4 * n + 2) / 3 : Nat) : Int) := by
  have e1 : wI ((n : Int) * 4) = ((4 * n : Nat) : Int) := by rw [wI_in] <;> omega
  have e2 : wI (((4 * n : Nat) : Int) + 2) = ((4 * n + 2 : Nat) : Int) := by rw [wI_in] <;> omega
  rw [e1, e2, show Int.tdiv ((4 * n + 2 : Nat) : Int) 3 = (((4 * n + 2) / 3 : Nat) : Int) from rfl, wI_nat _ (by omega)]
section
variable (a b c : List UInt8) (ha : a.length ≤ 140737488355328) (hb : b.length ≤ 140737488355328) (hc : c.length ≤ 140737488355328)
include ha hb hc
theorem jws_Compact_eq : F.jws_Compact a b c = some (compactL a b c) := by
  unfold F.jws_Compact compactL
  have e1 : wI (2 + (((4 * a.length + 2) / 3 : Nat) : Int)) = ((2 + (4 * a.length + 2) / 3 : Nat) : Int) := by rw [wI_in] <;> omega
  have e2 : wI (((2 + (4 * a.length + 2) / 3 : Nat) : Int) + (((4 * b.length + 2) / 3 : Nat) : Int)) = ((2 + (4 * a.length + 2) / 3 + (4 * b.length + 2) / 3 : Nat) : Int) := by rw [wI_in] <;> omega
  have e3 : wI (((2 + (4 * a.length + 2) / 3 + (4 * b.length + 2) / 3 : Nat) : Int) + (((4 * c.length + 2) / 3 : Nat) : Int)) = ((2 + (4 * a.length + 2) / 3 + (4 * b.length + 2) / 3 + (4 * c.length + 2) / 3 : Nat) : Int) := by rw [wI_in] <;> omega
  rw [third_int _ ha, third_int _ hb, third_int _ hc]
  simp only [olet_eq]
  rw [e1, e2, e3]
  by_cases h : 65536 < 2 + (4 * a.length + 2) / 3 + (4 * b.length + 2) / 3 + (4 * c.length + 2) / 3
  · rw [if_pos (by rw [decide_eq_true_eq]; omega), if_pos h]
  · rw [if_neg (by rw [decide_eq_true_eq]; omega), if_neg h]
    have s1 := spellL_length urlS a; have s2 := spellL_length urlS b; have s3 := spellL_length urlS c
    rw [third_six] at s1 s2 s3
    rw [b64_Encode_eq _ ha, bind_some', sadO_ok (by simp; omega), bind_some', b64_Encode_eq _ hb, bind_some', sadO_ok (by simp; omega), bind_some', sadO_ok (by simp; omega), bind_some', b64_Encode_eq _ hc, bind_some', sadO_ok (by simp; omega), bind_some']
theorem ref18_Compact_eq : F.ref18_Compact a b c = some (compactL a b c) := by
  unfold F.ref18_Compact compactL
  have hbad : ∀ x : Bool, x = true → F.ref18_Compact_K1 a b c x = some ([], 10) := by
    rintro _ rfl
    unfold F.ref18_Compact_K1
    dsimp only
    rw [if_pos rfl]
  by_cases h1 : 65536 < a.length
  · rw [if_pos (by simp; omega), hbad _ rfl, if_pos (by omega)]
  · rw [if_neg (by simp; omega)]
    by_cases h2 : 65536 < b.length
    · rw [if_pos (by simp; omega), hbad _ rfl, if_pos (by omega)]
    · rw [if_neg (by simp; omega)]
      by_cases h3 : 65536 < c.length
      · rw [hbad _ (decide_eq_true (by omega)), if_pos (by omega)]
      · rw [decide_eq_false (by omega)]
        have s1 := spellL_length urlS a; have s2 := spellL_length urlS b; have s3 := spellL_length urlS c
        rw [third_six] at s1 s2 s3
        unfold F.ref18_Compact_K1
        dsimp only
        rw [if_neg (by simp), ref1_Encode_eq _ ha, bind_some', sadO_ok (by simp; omega), bind_some', ref1_Encode_eq _ hb, bind_some', sadO_ok (by simp; omega), bind_some', sadO_ok (by simp; omega), bind_some', ref1_Encode_eq _ hc, bind_some', sadO_ok (by simp; omega), bind_some']
        have hlen : (spellL urlS a ++ [46] ++ spellL urlS b ++ [46] ++ spellL urlS c).length = 2 + (4 * a.length + 2) / 3 + (4 * b.length + 2) / 3 + (4 * c.length + 2) / 3 := by simp; omega
        by_cases h : 65536 < 2 + (4 * a.length + 2) / 3 + (4 * b.length + 2) / 3 + (4 * c.length + 2) / 3
        · rw [if_pos (by rw [decide_eq_true_eq, hlen]; omega), if_pos h]
        · rw [if_neg (by rw [decide_eq_true_eq, hlen]; omega), if_neg h]
end

/-! lists with marked room behind -/
theorem law18_lent_eq (l : List UInt8) (hl : l.length ≤ 140737488355328) : F.law18_lent l = some (l ++ List.replicate 40 165, l.length) := by
  unfold F.law18_lent
  rw [apO1_ok (by simp; omega), bind_some', List.nil_append]
  have key := loop_upS (f := F.law18_lent_L1 l) (n := 40) (r := (l ++ List.replicate 40 165, l.length)) (fun j => (l ++ List.replicate j 165, (j : Int)))
    (fun j hj => by
      unfold F.law18_lent_L1
      dsimp only
      rw [if_pos (by simp; omega), apO1_ok (by simp; omega), bind_some', step_int j (by omega), List.append_assoc, ← List.replicate_succ']; rfl)
    (by
      unfold F.law18_lent_L1
      dsimp only
      rw [if_neg (by simp), grd_true _ (by simp)]; rfl) 0 (by omega)
  simpa using key

/-- the marked room stays -/
theorem law18_still_eq (r p : List UInt8) (hp : p.length ≤ 140737488355328) (hr : r.length = p.length + 40) (ht : r.take p.length = p) (hd : r.drop p.length = List.replicate 40 165) : F.law18_still r p.length p = some true := by
  unfold F.law18_still
  have e1 : wI ((p.length : Int) + 40) = ((p.length + 40 : Nat) : Int) := by rw [wI_in] <;> omega
  rw [if_neg (by rw [ht]; simp), e1, grd_true _ (by simp; omega)]
  have hall : r.take (wI ((p.length : Int) + 40)).toNat = r := by rw [e1, Int.toNat_natCast, List.take_of_length_le (by omega)]
  refine loop_upS (n := r.length) (fun i => (i : Int)) (fun i hi => ?_) ?_ 0 (by omega)
  · unfold F.law18_still_L1
    dsimp only
    rw [hall, if_pos (by simp; omega)]
    have hK : F.law18_still_K1 (i : Int) false = some (.inl ((i + 1 : Nat) : Int)) := by
      unfold F.law18_still_K1
      dsimp only
      rw [if_neg (by simp), step_int i (by omega)]; rfl
    by_cases h : i < p.length
    · have hg : r[i] = p[i] := by
        have h1 : (r.take p.length)[i]'(by simp; omega) = r[i] := by simp
        rw [← h1]; congr 1
      rw [if_pos (by simp; omega), getO_lt hi, bind_some', getO_lt h, bind_some', if_neg (by simp [hg]), if_neg (by simp; omega)]
      exact hK
    · have hg : r[i] = 165 := by
        have h1 : (r.drop p.length)[i - p.length]'(by simp; omega) = r[i] := by simp; congr 1; omega
        rw [← h1]
        have : ∀ (y : List UInt8) (k : Nat) (hk : k < y.length), y = List.replicate 40 165 → y[k] = 165 := by
          rintro y k hk rfl; rw [List.getElem_replicate]
        exact this _ _ _ hd
      rw [if_neg (by simp; omega), if_pos (by simp; omega), getO_lt hi, bind_some', show (r[i] != 165) = false by simp [hg]]
      exact hK
  · unfold F.law18_still_L1
    dsimp only
    rw [hall, if_neg (by simp)]; rfl
theorem law18_still_lent (l : List UInt8) (hl : l.length ≤ 140737488355328) : F.law18_still (l ++ List.replicate 40 165) l.length l = some true :=
  law18_still_eq _ l hl (by simp) (List.take_left' rfl) (List.drop_left' rfl)

theorem law18_JwsCuts_eq (t a b c : List UInt8) (ht : t.length ≤ 140737488355328) (ha : a.length ≤ 140737488355328) (hb : b.length ≤ 140737488355328) (hc : c.length ≤ 140737488355328) : F.law18_JwsCuts t a b c = some true := by
  unfold F.law18_JwsCuts
  obtain ⟨p, q, r, e, h1, h2, _⟩ := split_eqs t ht
  rw [h1, h2, bind_some', bind_some', if_neg (by simp), if_neg (by simp), if_neg (by simp), show (((p, q, r, e) : List UInt8 × List UInt8 × List UInt8 × Int).2.2.2 != (p, q, r, e).2.2.2) = false by simp]
  unfold F.law18_JwsCuts_K1
  dsimp only
  obtain ⟨p', q', r', e', h3, h4, l1, l2, l3⟩ := decode_eqs t ht
  rw [if_neg (by simp), h3, h4, bind_some', bind_some']
  dsimp only
  rw [law18_same_eq _ _ (by omega), bind_some', if_neg (by simp), law18_same_eq _ _ (by omega), bind_some', if_neg (by simp), law18_same_eq _ _ (by omega), bind_some', if_neg (by simp), show (e' != e') = false by simp]
  unfold F.law18_JwsCuts_K2
  dsimp only
  rw [if_neg (by simp), law18_lent_eq _ ha, law18_lent_eq _ hb, law18_lent_eq _ hc, bind_some', bind_some', bind_some']
  dsimp only
  rw [List.take_left' rfl, List.take_left' rfl, List.take_left' rfl, jws_Compact_eq _ _ _ ha hb hc, ref18_Compact_eq _ _ _ ha hb hc, bind_some', bind_some', if_neg (by simp), if_neg (by simp), law18_still_lent _ ha, bind_some', if_neg (by simp), law18_still_lent _ hb, bind_some', if_neg (by simp), law18_still_lent _ hc, bind_some']
  unfold F.law18_JwsCuts_K3
  dsimp only
  rw [if_neg (by simp)]
  -- the second list written over
  have key2 : ∀ (x : List UInt8), x.length = a.length + 40 → x.drop a.length = List.replicate 40 165 → ∀ m i (y : List UInt8), i + m = c.length → y.length = c.length + 40 → y.drop c.length = List.replicate 40 165 →
      loop (F.law18_JwsCuts_L2 b (a ++ List.replicate 40 165, a.length) (b ++ List.replicate 40 165, b.length) (c ++ List.replicate 40 165, c.length) x) ((i : Int), y) = some true := by
    intro x hx1 hx2 m
    induction m with
    | zero =>
      intro i y hi hy1 hy2
      refine loop_inr ?_
      unfold F.law18_JwsCuts_L2
      dsimp only
      have lx : (x.take a.length).length = a.length := by simp; omega
      have ly : (y.take c.length).length = c.length := by simp; omega
      rw [if_neg (by simp; omega), apO1_ok (by simp; omega), bind_some', apO1_ok (by simp; omega), bind_some', List.nil_append, List.nil_append, List.take_left' rfl]
      rw [jws_Compact_eq _ _ _ (by omega) hb (by omega), ref18_Compact_eq _ _ _ (by omega) hb (by omega), bind_some', bind_some', if_pos (by simp), if_pos (by simp)]
      have st1 := law18_still_eq x (x.take a.length) (by omega) (by omega) (by rw [lx]) (by rw [lx]; exact hx2)
      have st3 := law18_still_eq y (y.take c.length) (by omega) (by omega) (by rw [ly]) (by rw [ly]; exact hy2)
      rw [lx] at st1; rw [ly] at st3
      rw [st1, bind_some', if_pos rfl, law18_still_lent _ hb, bind_some', if_pos rfl, st3, bind_some']; rfl
    | succ m ih =>
      intro i y hi hy1 hy2
      have h1 : i < (y.take c.length).length := by simp; omega
      rw [loop_inl (s' := (((i + 1 : Nat) : Int), y.set i (255 - (y.take c.length)[i])))]
      · exact ih (i + 1) _ (by omega) (by simpa using hy1) (by rw [List.drop_set, if_pos (by omega)]; exact hy2)
      · unfold F.law18_JwsCuts_L2
        dsimp only
        rw [if_pos (by simp; omega), getO_lt h1, bind_some', bind_some', olet_eq, step_int i (by omega)]; rfl
  have key1 : ∀ m i (x : List UInt8), i + m = a.length → x.length = a.length + 40 → x.drop a.length = List.replicate 40 165 →
      loop (F.law18_JwsCuts_L1 (a ++ List.replicate 40 165, a.length) (c ++ List.replicate 40 165, c.length) b (b ++ List.replicate 40 165, b.length)) ((i : Int), x) = some true := by
    intro m
    induction m with
    | zero =>
      intro i x hi hx1 hx2
      refine loop_inr ?_
      unfold F.law18_JwsCuts_L1
      dsimp only
      have := key2 x hx1 hx2 c.length 0 (c ++ List.replicate 40 165) (by omega) (by simp) (List.drop_left' rfl)
      rw [if_neg (by simp; omega)]
      rw [show ((0 : Int)) = ((0 : Nat) : Int) from rfl, this]; rfl
    | succ m ih =>
      intro i x hi hx1 hx2
      have h1 : i < (x.take a.length).length := by simp; omega
      rw [loop_inl (s' := (((i + 1 : Nat) : Int), x.set i ((x.take a.length)[i] + 1)))]
      · exact ih (i + 1) _ (by omega) (by simpa using hx1) (by rw [List.drop_set, if_pos (by omega)]; exact hx2)
      · unfold F.law18_JwsCuts_L1
        dsimp only
        rw [if_pos (by simp; omega), getO_lt h1, bind_some', bind_some', olet_eq, step_int i (by omega)]; rfl
  exact key1 a.length 0 _ (by omega) (by simp) (List.drop_left' rfl)
end Go.Gk
