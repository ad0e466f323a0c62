import Derived.Test.YtgjpaedgcpjigaaDoorGkQ0
import Derived.Test.YtgjpaedgcpjigaaDoorGkFref3
import Derived.Lib.ValidLaws
set_option linter.unusedVariables false
set_option linter.unusedSimpArgs false
set_option linter.unusedSimpArgs false
set_option linter.unusedVariables false
namespace Go.Gk.Cb
open Go Go.Gk
theorem loop_ex {σ ρ : Type} {f : σ → Option (σ ⊕ ρ)} (I : σ → Prop) (μ : σ → Nat) (T : ρ → Prop) (hstep : ∀ s, I s → (∃ s', f s = some (.inl s') ∧ I s' ∧ μ s' < μ s) ∨ (∃ r, f s = some (.inr r) ∧ T r)) (s : σ) (hs : I s) : ∃ r, loop f s = some r ∧ T r := by
  obtain ⟨r, h1, h2⟩ := loop_measure I μ (fun _ r => T r) (fun s h => by
    rcases hstep s h with ⟨s', a, b, c⟩ | ⟨r, a, b⟩
    · exact .inl ⟨s', a, b, c, fun r h => h⟩
    · exact .inr ⟨r, a, b⟩) s hs
  exact ⟨r, h1, h2⟩
section
variable {s : List UInt8}
theorem digit_ex (i : Nat) : ∃ b, F.ref2_digit s i = some b ∧ (b = true → i < s.length) := by
  unfold F.ref2_digit
  by_cases h : i < s.length
  · have d : decide ((i : Int) < (s.length : Int)) = true := by simp; omega
    simp only [d, if_true, getO_lt h, bind_some']
    split
    · exact ⟨_, rfl, fun _ => h⟩
    · exact ⟨_, rfl, fun _ => h⟩
  · have d : decide ((i : Int) < (s.length : Int)) = false := by simp; omega
    simp only [d, Bool.false_eq_true, if_false]
    exact ⟨false, rfl, by simp⟩
theorem many_ex (hs : s.length ≤ 2000000) (i : Nat) (hi : i ≤ s.length) : ∃ j : Nat, F.ref2_many s i = some (j : Int) ∧ i ≤ j ∧ j ≤ s.length := by
  obtain ⟨r, h1, j, h2, h3, h4⟩ := loop_ex (f := F.ref2_many_L1 s) (fun x : Int => ∃ j : Nat, x = (j : Int) ∧ i ≤ j ∧ j ≤ s.length) (fun x => s.length - x.toNat) (fun r : Int => ∃ j : Nat, r = (j : Int) ∧ i ≤ j ∧ j ≤ s.length) (by
    rintro x ⟨j, rfl, h1, h2⟩
    obtain ⟨b, hb, hb2⟩ := digit_ex (s := s) j
    cases b
    · right
      exact ⟨(j : Int), by simp only [F.ref2_many_L1, hb, bind_some', Bool.false_eq_true, if_false]; rfl, j, rfl, h1, h2⟩
    · left
      have := hb2 rfl
      refine ⟨((j + 1 : Nat) : Int), ?_, ⟨j + 1, rfl, by omega, by omega⟩, by simp; omega⟩
      simp only [F.ref2_many_L1, hb, bind_some', if_true]
      rw [wI_in (by omega) (by omega)]
      rfl) (i : Int) ⟨i, rfl, by omega, hi⟩
  subst h2
  exact ⟨j, h1, h3, h4⟩
abbrev NumT := Bool × List Int × Int × Bool × List Int × Bool × List UInt8 × Bool
def Fine (s : List UInt8) (x : Option NumT) : Prop := ∃ r : NumT, x = some r ∧ r.2.2.2.2.2.2.1.length ≤ s.length
theorem Fine.mk {r : NumT} (h : r.2.2.2.2.2.2.1.length ≤ s.length) : Fine s (some r) := ⟨r, rfl, h⟩
theorem L2_fine (a : Bool) (t : List UInt8) (c : Bool) (d : List Int) (e : Bool) (g : Int) (ht : t.length ≤ s.length) (ds : List Int) (hds : ds.length ≤ 100000000) : Fine s (loop (F.ref2_Read_L2 a t c d e g) ds) := by
  obtain ⟨r, h1, h2⟩ := loop_ex (f := F.ref2_Read_L2 a t c d e g) (fun l => l.length ≤ 100000000) (fun l => l.length) (fun r => r.2.2.2.2.2.2.1.length ≤ s.length) (by
    intro l hl
    unfold F.ref2_Read_L2
    by_cases h0 : 0 < l.length
    · have d0 : decide ((0 : Int) < (l.length : Int)) = true := by simp; omega
      have e0 : wI ((l.length : Int) - 1) = ((l.length - 1 : Nat) : Int) := by rw [wI_in (by omega) (by omega)]; omega
      simp only [d0, if_true, e0]
      rw [getO_lt (show l.length - 1 < l.length by omega), bind_some']
      by_cases hz : (l[l.length - 1] == 0) = true
      · left
        refine ⟨l.take (l.length - 1), ?_, by simp; omega, by simp; omega⟩
        simp only [hz, F.ref2_Read_K7, if_true, e0]
        rw [grd_true _ (by simp)]
        simp [oinl]
      · right
        refine ⟨(a, l, g, c, d, e, t, true), ?_, ht⟩
        simp only [hz, F.ref2_Read_K7, Bool.false_eq_true, if_false]
        rfl
    · have d0 : decide ((0 : Int) < (l.length : Int)) = false := decide_eq_false (by omega)
      right
      refine ⟨(a, l, g, c, d, e, t, true), ?_, ht⟩
      simp only [d0, F.ref2_Read_K7, Bool.false_eq_true, if_false]
      rfl) ds hds
  exact ⟨r, h1, h2⟩
theorem L1_fine (all : List UInt8) (hall : all.length ≤ 4000000) (a : Bool) (t : List UInt8) (c : Bool) (d : List Int) (e : Bool) (ht : t.length ≤ s.length) (g : Int) : Fine s (loop (F.ref2_Read_L1 all a t c d e) (0, [], g)) := by
  obtain ⟨r, h1, h2⟩ := loop_ex (f := F.ref2_Read_L1 all a t c d e) (fun x => ∃ j : Nat, x.1 = (j : Int) ∧ j ≤ all.length ∧ x.2.1.length ≤ j) (fun x => all.length - x.1.toNat) (fun r => r.2.2.2.2.2.2.1.length ≤ s.length) (by
    rintro ⟨x, ds, y⟩ ⟨j, h1, h2, h3⟩
    simp only at h1 h3
    subst h1
    unfold F.ref2_Read_L1
    by_cases hj : j < all.length
    · left
      have d0 : decide ((j : Int) < (all.length : Int)) = true := by simp; omega
      have e1 : wI ((j : Int) + 1) = ((j + 1 : Nat) : Int) := by rw [wI_in (by omega) (by omega)]; rfl
      simp only [d0, if_true, getO_lt hj, bind_some', olet_eq]
      have k6 : ∀ t, ∃ ds' y', F.ref2_Read_K6 ds y (((all[j] - 48).toNat : Int)) j t = some (.inl (((j + 1 : Nat) : Int), ds', y')) ∧ ds'.length ≤ j + 1 := by
        intro t
        cases t
        · refine ⟨ds, wI (y - 1), ?_, by omega⟩
          simp only [F.ref2_Read_K6, Bool.false_eq_true, if_false, F.ref2_Read_K5, e1]
          rfl
        · refine ⟨ds ++ [((all[j] - 48).toNat : Int)], y, ?_, by simp; omega⟩
          simp only [F.ref2_Read_K6, if_true]
          rw [apO_ok (by simp; omega), bind_some']
          simp only [F.ref2_Read_K5, e1]
          rfl
      split
      · obtain ⟨ds', y', h4, h5⟩ := k6 true
        exact ⟨_, h4, ⟨j + 1, rfl, by omega, h5⟩, by simp; omega⟩
      · obtain ⟨ds', y', h4, h5⟩ := k6 (decide ((0 : Int) < (ds.length : Int)))
        exact ⟨_, h4, ⟨j + 1, rfl, by omega, h5⟩, by simp; omega⟩
    · right
      have d0 : decide ((j : Int) < (all.length : Int)) = false := by simp; omega
      obtain ⟨r, h4, h5⟩ := L2_fine (s := s) a t c d e y ht ds (by omega)
      refine ⟨r, ?_, h5⟩
      simp only [d0, Bool.false_eq_true, if_false, h4]
      rfl) (0, [], g) ⟨0, rfl, by omega, by simp⟩
  exact ⟨r, h1, h2⟩
theorem K4_fine (x10 : Int) (a : Bool) (x13 : Int) (t all : List UInt8) (ht : t.length ≤ s.length) (hall : all.length ≤ 4000000) (y : Int × Bool × List Int × Bool) : Fine s (F.ref2_Read_K4 s x10 a x13 t all y) := by
  obtain ⟨y1, y2, y3, y4⟩ := y
  simp only [F.ref2_Read_K4]
  split
  · exact Fine.mk ht
  · exact L1_fine all hall a t y2 y3 y4 ht _
theorem K9_fine (hs : s.length ≤ 2000000) (x10 : Int) (a : Bool) (x13 : Int) (t all : List UInt8) (ht : t.length ≤ s.length) (hall : all.length ≤ 4000000) (i : Nat) (hi : i ≤ s.length) (q : Bool) : Fine s (F.ref2_Read_K9 s x10 a x13 t all ((i : Int), q)) := by
  obtain ⟨j, h1, h2, h3⟩ := many_ex hs i hi
  simp only [F.ref2_Read_K9, h1, bind_some']
  split
  · exact Fine.mk ht
  · obtain ⟨r, h4, h5⟩ := loop_ex (f := F.ref2_Read_L3 s q (j : Int) x10 a x13 t all) (fun x => ∃ k : Nat, x.1 = (k : Int) ∧ k ≤ j ∧ x.2.length ≤ k) (fun x => j - x.1.toNat) (fun r => r.2.2.2.2.2.2.1.length ≤ s.length) (by
      rintro ⟨x, ds⟩ ⟨k, h4, h5, h6⟩
      simp only at h4 h6
      subst h4
      unfold F.ref2_Read_L3
      by_cases hk : k < j
      · left
        have d0 : decide ((k : Int) < (j : Int)) = true := by simp; omega
        have e1 : wI ((k : Int) + 1) = ((k + 1 : Nat) : Int) := by rw [wI_in (by omega) (by omega)]; rfl
        have hkl : k < s.length := by omega
        simp only [d0, if_true, getO_lt hkl, bind_some']
        have k6 : ∀ b, ∃ ds', F.ref2_Read_K11 s (k : Int) ds b = some (.inl (((k + 1 : Nat) : Int), ds')) ∧ ds'.length ≤ k + 1 := by
          intro b
          cases b
          · refine ⟨ds, ?_, by omega⟩
            simp only [F.ref2_Read_K11, Bool.false_eq_true, if_false, F.ref2_Read_K10, e1]
            rfl
          · refine ⟨ds ++ [((s[k] - 48).toNat : Int)], ?_, by simp; omega⟩
            simp only [F.ref2_Read_K11, if_true, getO_lt hkl, bind_some']
            rw [apO_ok (by simp; omega), bind_some']
            simp only [F.ref2_Read_K10, e1]
            rfl
        split
        · obtain ⟨ds', h7, h8⟩ := k6 true
          exact ⟨_, h7, ⟨k + 1, rfl, by omega, h8⟩, by simp; omega⟩
        · obtain ⟨ds', h7, h8⟩ := k6 (decide ((0 : Int) < (ds.length : Int)))
          exact ⟨_, h7, ⟨k + 1, rfl, by omega, h8⟩, by simp; omega⟩
      · right
        have d0 : decide ((k : Int) < (j : Int)) = false := by simp; omega
        obtain ⟨r, h7, h8⟩ := K4_fine (s := s) x10 a x13 t all ht hall ((j : Int), q, ds, false)
        refine ⟨r, ?_, h8⟩
        simp only [d0, Bool.false_eq_true, if_false, h7]
        rfl) ((i : Int), []) ⟨i, rfl, by omega, by simp⟩
    exact ⟨r, h4, h5⟩
theorem K8_fine (hs : s.length ≤ 2000000) (i : Nat) (hi : i ≤ s.length) (x32 : Bool) (x10 : Int) (a : Bool) (x13 : Int) (t all : List UInt8) (ht : t.length ≤ s.length) (hall : all.length ≤ 4000000) (q : Bool) (hq : q = true → i < s.length) :
    Fine s (F.ref2_Read_K8 s (i : Int) x32 x10 a x13 t all q) := by
  cases q
  · simp only [F.ref2_Read_K8, Bool.false_eq_true, if_false]
    exact K4_fine _ _ _ _ _ ht hall _
  · have hil := hq rfl
    have e1 : wI ((i : Int) + 1) = ((i + 1 : Nat) : Int) := by rw [wI_in (by omega) (by omega)]; rfl
    have k12 : ∀ b, (b = true → i + 1 < s.length) → Fine s (F.ref2_Read_K12 s (i : Int) x10 a x13 t all b) := by
      intro b hb
      cases b
      · simp only [F.ref2_Read_K12, Bool.false_eq_true, if_false, e1]
        exact K9_fine hs _ _ _ _ _ ht hall _ (by omega) _
      · have h2 := hb rfl
        have e2 : wI (((i + 1 : Nat) : Int) + 1) = ((i + 2 : Nat) : Int) := by rw [wI_in (by omega) (by omega)]; rfl
        simp only [F.ref2_Read_K12, if_true, e1, getO_lt h2, bind_some', e2]
        exact K9_fine hs _ _ _ _ _ ht hall _ (by omega) _
    simp only [F.ref2_Read_K8, if_true, e1]
    by_cases h2 : i + 1 < s.length
    · have d0 : decide (((i + 1 : Nat) : Int) < (s.length : Int)) = true := by simp; omega
      simp only [d0, if_true, getO_lt h2, bind_some']
      split
      · exact k12 _ (fun _ => h2)
      · exact k12 _ (fun _ => h2)
    · have d0 : decide (((i + 1 : Nat) : Int) < (s.length : Int)) = false := by simp; omega
      simp only [d0, Bool.false_eq_true, if_false]
      exact k12 _ (by simp)
theorem K3_fine (hs : s.length ≤ 2000000) (x10 : Int) (a : Bool) (x13 : Int) (t : List UInt8) (ht : t.length ≤ s.length) (i : Nat) (hi : i ≤ s.length) (all : List UInt8) (hall : all.length ≤ 4000000) (q : Bool) : Fine s (F.ref2_Read_K3 s x10 a x13 t ((i : Int), all, q)) := by
  simp only [F.ref2_Read_K3]
  by_cases h2 : i < s.length
  · have d0 : decide (((i : Nat) : Int) < (s.length : Int)) = true := by simp; omega
    simp only [d0, if_true, getO_lt h2, bind_some']
    split
    · exact K8_fine hs i hi _ _ _ _ _ _ ht hall _ (fun _ => h2)
    · exact K8_fine hs i hi _ _ _ _ _ _ ht hall _ (fun _ => h2)
  · have d0 : decide (((i : Nat) : Int) < (s.length : Int)) = false := by simp; omega
    simp only [d0, Bool.false_eq_true, if_false]
    exact K8_fine hs i hi _ _ _ _ _ _ ht hall _ (by simp)
theorem K1_fine (hs : s.length ≤ 2000000) (i : Nat) (hi : i ≤ s.length) (a : Bool) : Fine s (F.ref2_Read_K1 s ((i : Int), a)) := by
  obtain ⟨j, h1, h2, h3⟩ := many_ex hs i hi
  have k2 : ∀ b, Fine s (F.ref2_Read_K2 s (i : Int) a (j : Int) b) := by
    intro b
    cases b
    · simp only [F.ref2_Read_K2, Bool.false_eq_true, if_false]
      rw [slO_ok h2 h3, bind_some', bind_some']
      have ht : ((s.drop i).take (j - i)).length ≤ s.length := by simp; omega
      have k13 : ∀ b, (b = true → j < s.length) → Fine s (F.ref2_Read_K13 s (i : Int) a (j : Int) ((s.drop i).take (j - i)) ((s.drop i).take (j - i)) b) := by
        intro b hb
        cases b
        · simp only [F.ref2_Read_K13, Bool.false_eq_true, if_false]
          exact K3_fine hs _ _ _ _ ht j h3 _ (Nat.le_trans ht (by omega)) _
        · have hj := hb rfl
          have e1 : wI ((j : Int) + 1) = ((j + 1 : Nat) : Int) := by rw [wI_in (by omega) (by omega)]; rfl
          obtain ⟨k, h5, h6, h7⟩ := many_ex hs (j + 1) (by omega)
          simp only [F.ref2_Read_K13, if_true, e1, h5, bind_some']
          split
          · exact Fine.mk ht
          · rw [slO_ok h6 h7, bind_some', sadO_ok (by simp; omega), bind_some']
            exact K3_fine hs _ _ _ _ ht k h7 _ (by simp; omega) _
      by_cases hj : j < s.length
      · have d0 : decide (((j : Nat) : Int) < (s.length : Int)) = true := by simp; omega
        simp only [d0, if_true, getO_lt hj, bind_some']
        exact k13 _ (fun _ => hj)
      · have d0 : decide (((j : Nat) : Int) < (s.length : Int)) = false := by simp; omega
        simp only [d0, Bool.false_eq_true, if_false]
        exact k13 _ (by simp)
    · simp only [F.ref2_Read_K2, if_true]
      exact Fine.mk (by simp)
  simp only [F.ref2_Read_K1, h1, bind_some']
  by_cases hij : j = i
  · subst hij
    have : (((j : Nat) : Int) == (j : Int)) = true := by simp
    simp only [this, if_true]
    exact k2 _
  · have : (((j : Nat) : Int) == (i : Int)) = false := by simp; omega
    have hil : i < s.length := by omega
    simp only [this, Bool.false_eq_true, if_false, getO_lt hil, bind_some']
    split
    · exact k2 _
    · exact k2 _
theorem read_fine (hs : s.length ≤ 2000000) : Fine s (F.ref2_Read s) := by
  have k14 : ∀ b, (b = true → 1 ≤ s.length) → Fine s (F.ref2_Read_K14 s b) := by
    intro b hb
    cases b
    · exact K1_fine hs 0 (by omega) false
    · exact K1_fine hs 1 (hb rfl) true
  unfold F.ref2_Read
  by_cases h0 : 0 < s.length
  · have d0 : decide ((0 : Int) < (s.length : Int)) = true := by simp; omega
    have g0 : getO s (0 : Int) = some s[0] := getO_lt h0
    simp only [d0, if_true, g0, bind_some']
    exact k14 _ (fun _ => h0)
  · have d0 : decide ((0 : Int) < (s.length : Int)) = false := decide_eq_false (by omega)
    simp only [d0, Bool.false_eq_true, if_false]
    exact k14 _ (by simp)
theorem valid_ex (hs : s.length ≤ 2000000) : ∃ b, F.ref2_Valid s = some b := by
  obtain ⟨r, h, _⟩ := read_fine hs
  exact ⟨_, by unfold F.ref2_Valid; rw [h]; rfl⟩
theorem whole_ex (hs : s.length ≤ 2000000) : ∃ b, F.ref2_Whole s = some b := by
  obtain ⟨r, h, hl⟩ := read_fine hs
  unfold F.ref2_Whole
  rw [h, bind_some']
  have k1 : ∀ b, ∃ x, F.ref2_Whole_K1 r b = some x := by
    intro b
    cases b
    · simp only [F.ref2_Whole_K1, Bool.false_eq_true, if_false]
      obtain ⟨q, h1, _⟩ := loop_ex (f := F.ref2_Whole_L1 r) (fun x => ∃ j : Nat, x.2 = (j : Int) ∧ j ≤ r.2.2.2.2.2.2.1.length) (fun x => r.2.2.2.2.2.2.1.length - x.2.toNat) (fun _ => True) (by
        rintro ⟨x, y⟩ ⟨j, h1, h2⟩
        simp only at h1
        subst h1
        unfold F.ref2_Whole_L1
        by_cases hj : j < r.2.2.2.2.2.2.1.length
        · have d0 : decide ((j : Int) < (r.2.2.2.2.2.2.1.length : Int)) = true := by simp; omega
          have e1 : wI ((j : Int) + 1) = ((j + 1 : Nat) : Int) := by rw [wI_in (by omega) (by omega)]; rfl
          simp only [d0, if_true, getO_lt hj, bind_some', olet_eq, e1]
          split
          · right; exact ⟨_, rfl, trivial⟩
          · left; exact ⟨_, rfl, ⟨j + 1, rfl, by omega⟩, by simp; omega⟩
        · have d0 : decide ((j : Int) < (r.2.2.2.2.2.2.1.length : Int)) = false := by simp; omega
          simp only [d0, Bool.false_eq_true, if_false]
          right
          split
          · exact ⟨_, rfl, trivial⟩
          · split
            · exact ⟨_, rfl, trivial⟩
            · exact ⟨_, rfl, trivial⟩) (0, 0) ⟨0, rfl, by omega⟩
      exact ⟨q, h1⟩
    · exact ⟨_, rfl⟩
  split
  · exact k1 _
  · exact k1 _
theorem bnds : ∀ c : Fin 256, 128 ≤ c.val → (F.ref3_bounds (c.val : Int) = some (-1, 0, 0) ∧ ¬ (Lib.firstT c.val % 8 = 2 ∨ Lib.firstT c.val % 8 = 3 ∨ Lib.firstT c.val % 8 = 4)) ∨
    (∃ n ∈ [1, 2, 3], F.ref3_bounds (c.val : Int) = some (((n : Nat) : Int), ((Lib.accLo (Lib.firstT c.val / 16) : Nat) : Int), ((Lib.accHi (Lib.firstT c.val / 16) : Nat) : Int)) ∧ Lib.firstT c.val % 8 = n + 1) := by
  decide +kernel
def okB (l : List UInt8) (j lo hi : Nat) : Prop := j < l.length ∧ lo ≤ (l.getD j 0).toNat ∧ (l.getD j 0).toNat ≤ hi
instance (l : List UInt8) (j lo hi : Nat) : Decidable (okB l j lo hi) := by unfold okB; infer_instance
abbrev GotT := Int × List (Int × (List UInt8) × (List UInt8) × Bool × Int × Int) × List UInt8 × Int × Int
theorem seq_step (hs : s.length ≤ 2000000) (i : Nat) (x4 : Int × Int × Int) (n j lo hi : Nat) (hx : x4.1 = (n : Int)) (hj : j ≤ n) (hj2 : j ≤ 10) (hi9 : i ≤ s.length) :
    (okB (s.drop i) j lo hi → F.ref3_sequence_L1 s i x4 ((lo : Int), (hi : Int), (j : Int)) = some (.inl (((128 : Nat) : Int), ((191 : Nat) : Int), ((j + 1 : Nat) : Int)))) ∧
    (¬ okB (s.drop i) j lo hi → ∃ r : GotT, F.ref3_sequence_L1 s i x4 ((lo : Int), (hi : Int), (j : Int)) = some (.inr r) ∧ r.2.2.2.1 ≠ 0) := by
  have d0 : decide ((j : Int) ≤ x4.1) = true := by rw [hx]; simp; omega
  have e1 : wI ((i : Int) + (j : Int)) = ((i + j : Nat) : Int) := by rw [wI_in (by omega) (by omega)]; rfl
  have e2 : wI ((j : Int) + 1) = ((j + 1 : Nat) : Int) := by rw [wI_in (by omega) (by omega)]; rfl
  unfold F.ref3_sequence_L1
  simp only [d0, if_true, e1]
  by_cases hl : i + j < s.length
  · have d1 : decide ((s.length : Int) ≤ ((i + j : Nat) : Int)) = false := by simp; omega
    have hg : (s.drop i).getD j 0 = s[i + j] := by simp [List.getD, hl]
    have hA : F.ref3_byteAt s ((i + j : Nat) : Int) = some ((s[i + j].toNat : Nat) : Int) := by
      unfold F.ref3_byteAt
      simp only [d1, Bool.false_eq_true, if_false, getO_lt hl, bind_some']
    have hok : okB (s.drop i) j lo hi ↔ lo ≤ s[i + j].toNat ∧ s[i + j].toNat ≤ hi := by
      unfold okB
      rw [hg]
      simp; omega
    rw [hok, hA, bind_some']
    have d2 : decide (((s[i + j].toNat : Nat) : Int) < 0) = false := by simp
    simp only [d2, Bool.false_eq_true, if_false]
    by_cases hlo : s[i + j].toNat < lo
    · have d3 : decide (((s[i + j].toNat : Nat) : Int) < (lo : Int)) = true := by simp; omega
      refine ⟨fun h => by omega, fun _ => ⟨(0, [], [], 32, (i : Int)), ?_, (by decide : (32 : Int) ≠ 0)⟩⟩
      simp only [d3, if_true, F.ref3_sequence_K1]
      rfl
    · have d3 : decide (((s[i + j].toNat : Nat) : Int) < (lo : Int)) = false := by simp; omega
      simp only [d3, Bool.false_eq_true, if_false]
      by_cases hhi : hi < s[i + j].toNat
      · have d4 : decide ((hi : Int) < ((s[i + j].toNat : Nat) : Int)) = true := by simp; omega
        refine ⟨fun h => by omega, fun _ => ⟨(0, [], [], 32, (i : Int)), ?_, (by decide : (32 : Int) ≠ 0)⟩⟩
        simp only [d4, F.ref3_sequence_K1, if_true]
        rfl
      · have d4 : decide ((hi : Int) < ((s[i + j].toNat : Nat) : Int)) = false := by simp; omega
        refine ⟨fun _ => ?_, fun h => absurd ⟨by omega, by omega⟩ h⟩
        simp only [d4, F.ref3_sequence_K1, Bool.false_eq_true, if_false, e2]
        rfl
  · have d1 : decide ((s.length : Int) ≤ ((i + j : Nat) : Int)) = true := by simp; omega
    have hA : F.ref3_byteAt s ((i + j : Nat) : Int) = some (-1) := by
      unfold F.ref3_byteAt
      simp only [d1, if_true]
    refine ⟨fun h => ?_, fun _ => ⟨(0, [], [], 31, (s.length : Int)), ?_, (by decide : (31 : Int) ≠ 0)⟩⟩
    · have := h.1
      simp at this; omega
    · rw [hA, bind_some']
      rfl
theorem seq_end (hs : s.length ≤ 2000000) (i : Nat) (x4 : Int × Int × Int) (n : Nat) (lo hi : Int) (hx : x4.1 = (n : Int)) (hl : i + n < s.length) :
    ∃ r : GotT, F.ref3_sequence_L1 s i x4 (lo, hi, ((n + 1 : Nat) : Int)) = some (.inr r) ∧ r.2.2.2.1 = 0 ∧ r.1 = ((i + n + 1 : Nat) : Int) := by
  have d0 : decide (((n + 1 : Nat) : Int) ≤ (n : Int)) = false := by simp; omega
  have e1 : wI ((i : Int) + (n : Int)) = ((i + n : Nat) : Int) := by rw [wI_in (by omega) (by omega)]; rfl
  have e2 : wI (((i + n : Nat) : Int) + 1) = ((i + n + 1 : Nat) : Int) := by rw [wI_in (by omega) (by omega)]; rfl
  refine ⟨(((i + n + 1 : Nat) : Int), [], (s.drop i).take (i + n + 1 - i), 0, 0), ?_, rfl, rfl⟩
  unfold F.ref3_sequence_L1
  simp only [hx, d0, Bool.false_eq_true, if_false, e1, e2]
  rw [slO_ok (by omega) (by omega), bind_some']
  rfl
theorem seq_eq (hs : s.length ≤ 2000000) (i : Nat) (hi : i < s.length) (hc : 128 ≤ s[i].toNat) : ∃ r : GotT, F.ref3_sequence s i = some r ∧
    (match Lib.checkN (s.drop i).length ((s.drop i).getD 1 0).toNat ((s.drop i).getD 2 0).toNat ((s.drop i).getD 3 0).toNat (Lib.firstT s[i].toNat % 8) (Lib.accLo (Lib.firstT s[i].toNat / 16)) (Lib.accHi (Lib.firstT s[i].toNat / 16)) with
      | none => r.2.2.2.1 ≠ 0
      | some k => r.2.2.2.1 = 0 ∧ r.1 = ((i + k : Nat) : Int) ∧ 2 ≤ k ∧ i + k ≤ s.length) := by
  have hb := bnds ⟨s[i].toNat, s[i].toNat_lt⟩ hc
  simp only at hb
  have hlen : (s.drop i).length = s.length - i := by simp
  unfold F.ref3_sequence
  rw [getO_lt hi, bind_some']
  rcases hb with ⟨h1, h2⟩ | ⟨n, hn, h1, h2⟩
  · rw [h1, bind_some']
    refine ⟨(0, [], [], 32, (i : Int)), rfl, ?_⟩
    have : Lib.checkN (s.drop i).length ((s.drop i).getD 1 0).toNat ((s.drop i).getD 2 0).toNat ((s.drop i).getD 3 0).toNat (Lib.firstT s[i].toNat % 8) (Lib.accLo (Lib.firstT s[i].toNat / 16)) (Lib.accHi (Lib.firstT s[i].toNat / 16)) = none := by
      unfold Lib.checkN
      rw [if_neg (by omega), if_neg (by omega), if_neg (by omega)]
    rw [this]
    exact (by decide : (32 : Int) ≠ 0)
  · rw [h1, bind_some', h2]
    generalize Lib.accLo (Lib.firstT s[i].toNat / 16) = lo
    generalize Lib.accHi (Lib.firstT s[i].toNat / 16) = hi'
    have d0 : decide (((n : Nat) : Int) < 0) = false := by simp
    simp only [d0, Bool.false_eq_true, if_false]
    have hn3 : n = 1 ∨ n = 2 ∨ n = 3 := by simpa using hn
    -- step by step
    obtain ⟨a1, a2⟩ := seq_step hs i ((n : Int), (lo : Int), (hi' : Int)) n 1 lo hi' rfl (by omega) (by omega) (by omega)
    have hst : ((lo : Int), (hi' : Int), (1 : Int)) = ((lo : Int), (hi' : Int), ((1 : Nat) : Int)) := rfl
    rw [hst]
    by_cases o1 : okB (s.drop i) 1 lo hi'
    · rw [loop_inl (a1 o1)]
      have o1' := o1
      unfold okB at o1'
      rcases hn3 with rfl | rfl | rfl
      · obtain ⟨r, r1, r2, r3⟩ := seq_end hs i (((1 : Nat) : Int), (lo : Int), (hi' : Int)) 1 ((128 : Nat) : Int) ((191 : Nat) : Int) rfl (by omega)
        refine ⟨r, loop_inr r1, ?_⟩
        have : Lib.checkN (s.drop i).length ((s.drop i).getD 1 0).toNat ((s.drop i).getD 2 0).toNat ((s.drop i).getD 3 0).toNat (1 + 1) lo hi' = some 2 := by
          unfold Lib.checkN
          rw [if_pos rfl, if_neg (by omega)]
        rw [this]
        exact ⟨r2, by rw [r3], by omega, by omega⟩
      · obtain ⟨b1, b2⟩ := seq_step hs i (((2 : Nat) : Int), (lo : Int), (hi' : Int)) 2 2 128 191 rfl (by omega) (by omega) (by omega)
        by_cases o2 : okB (s.drop i) 2 128 191
        · rw [loop_inl (b1 o2)]
          have o2' := o2
          unfold okB at o2'
          obtain ⟨r, r1, r2, r3⟩ := seq_end hs i (((2 : Nat) : Int), (lo : Int), (hi' : Int)) 2 ((128 : Nat) : Int) ((191 : Nat) : Int) rfl (by omega)
          refine ⟨r, loop_inr r1, ?_⟩
          have : Lib.checkN (s.drop i).length ((s.drop i).getD 1 0).toNat ((s.drop i).getD 2 0).toNat ((s.drop i).getD 3 0).toNat (2 + 1) lo hi' = some 3 := by
            unfold Lib.checkN
            rw [if_neg (by omega), if_pos rfl, if_neg (by omega)]
          rw [this]
          exact ⟨r2, by rw [r3], by omega, by omega⟩
        · obtain ⟨r, r1, r2⟩ := b2 o2
          refine ⟨r, loop_inr r1, ?_⟩
          have o2' := o2
          unfold okB at o2'
          have : Lib.checkN (s.drop i).length ((s.drop i).getD 1 0).toNat ((s.drop i).getD 2 0).toNat ((s.drop i).getD 3 0).toNat (2 + 1) lo hi' = none := by
            unfold Lib.checkN
            rw [if_neg (by omega), if_pos rfl, if_pos (by omega)]
          rw [this]
          exact r2
      · obtain ⟨b1, b2⟩ := seq_step hs i (((3 : Nat) : Int), (lo : Int), (hi' : Int)) 3 2 128 191 rfl (by omega) (by omega) (by omega)
        by_cases o2 : okB (s.drop i) 2 128 191
        · rw [loop_inl (b1 o2)]
          have o2' := o2
          unfold okB at o2'
          obtain ⟨c1, c2⟩ := seq_step hs i (((3 : Nat) : Int), (lo : Int), (hi' : Int)) 3 3 128 191 rfl (by omega) (by omega) (by omega)
          by_cases o3 : okB (s.drop i) 3 128 191
          · rw [loop_inl (c1 o3)]
            have o3' := o3
            unfold okB at o3'
            obtain ⟨r, r1, r2, r3⟩ := seq_end hs i (((3 : Nat) : Int), (lo : Int), (hi' : Int)) 3 ((128 : Nat) : Int) ((191 : Nat) : Int) rfl (by omega)
            refine ⟨r, loop_inr r1, ?_⟩
            have : Lib.checkN (s.drop i).length ((s.drop i).getD 1 0).toNat ((s.drop i).getD 2 0).toNat ((s.drop i).getD 3 0).toNat (3 + 1) lo hi' = some 4 := by
              unfold Lib.checkN
              rw [if_neg (by omega), if_neg (by omega), if_pos rfl, if_neg (by omega)]
            rw [this]
            exact ⟨r2, by rw [r3], by omega, by omega⟩
          · obtain ⟨r, r1, r2⟩ := c2 o3
            refine ⟨r, loop_inr r1, ?_⟩
            have o3' := o3
            unfold okB at o3'
            have : Lib.checkN (s.drop i).length ((s.drop i).getD 1 0).toNat ((s.drop i).getD 2 0).toNat ((s.drop i).getD 3 0).toNat (3 + 1) lo hi' = none := by
              unfold Lib.checkN
              rw [if_neg (by omega), if_neg (by omega), if_pos rfl, if_pos (by omega)]
            rw [this]
            exact r2
        · obtain ⟨r, r1, r2⟩ := b2 o2
          refine ⟨r, loop_inr r1, ?_⟩
          have o2' := o2
          unfold okB at o2'
          have : Lib.checkN (s.drop i).length ((s.drop i).getD 1 0).toNat ((s.drop i).getD 2 0).toNat ((s.drop i).getD 3 0).toNat (3 + 1) lo hi' = none := by
            unfold Lib.checkN
            rw [if_neg (by omega), if_neg (by omega), if_pos rfl, if_pos (by omega)]
          rw [this]
          exact r2
    · obtain ⟨r, r1, r2⟩ := a2 o1
      refine ⟨r, loop_inr r1, ?_⟩
      unfold okB at o1
      have : Lib.checkN (s.drop i).length ((s.drop i).getD 1 0).toNat ((s.drop i).getD 2 0).toNat ((s.drop i).getD 3 0).toNat (n + 1) lo hi' = none := by
        unfold Lib.checkN
        rcases hn3 with rfl | rfl | rfl
        · rw [if_pos rfl, if_pos (by omega)]
        · rw [if_neg (by omega), if_pos rfl, if_pos (by omega)]
        · rw [if_neg (by omega), if_neg (by omega), if_pos rfl, if_pos (by omega)]
      rw [this]
      exact r2
theorem utf_eq (hs : s.length ≤ 2000000) : F.ref3_utf s = some (Lib.validD s) := by
  have key : ∀ k i, s.length - i = k → i ≤ s.length → loop (F.ref3_utf_L1 s) (i : Int) = some (Lib.validD (s.drop i)) := by
    intro k
    induction k using Nat.strongRecOn with
    | _ k ih =>
      intro i hk hi
      by_cases hl : i < s.length
      · have d0 : decide ((i : Int) < (s.length : Int)) = true := by simp; omega
        have hd : s.drop i = s[i] :: s.drop (i + 1) := List.drop_eq_getElem_cons hl
        by_cases hc : s[i].toNat < 128
        · have d1 : decide (s[i] < 128) = true := by simp only [decide_eq_true_eq, UInt8.lt_iff_toNat_lt]; exact hc
          have : F.ref3_utf_L1 s (i : Int) = some (.inl ((i + 1 : Nat) : Int)) := by
            simp only [F.ref3_utf_L1, d0, if_true, getO_lt hl, bind_some', d1]
            rw [wI_in (by omega) (by omega)]
            rfl
          rw [loop_inl this, ih (s.length - (i + 1)) (by omega) (i + 1) rfl (by omega), hd, Lib.validD_cons _ _ hc]
        · have d1 : decide (s[i] < 128) = false := by simp only [decide_eq_false_iff_not, UInt8.lt_iff_toNat_lt]; exact hc
          obtain ⟨r, h1, h2⟩ := seq_eq hs i hl (by omega)
          have hne : s.drop i ≠ [] := by rw [hd]; exact List.cons_ne_nil _ _
          have hg0 : (s.drop i).getD 0 0 = s[i] := by rw [hd]; rfl
          have hv := Lib.validD_lead (s.drop i) hne (by rw [hg0]; omega)
          rw [hg0] at hv
          rw [hv]
          split at h2
          · rename_i hck
            rw [hck]
            refine loop_inr ?_
            have h0 : (r.2.2.2.1 != 0) = true := by simpa using h2
            simp only [F.ref3_utf_L1, d0, if_true, getO_lt hl, bind_some', d1, Bool.false_eq_true, if_false, h1, h0]
            rfl
          · rename_i kk hck
            rw [hck]
            obtain ⟨h3, h4, h5, h6⟩ := h2
            have h0 : (r.2.2.2.1 != 0) = false := by simp [h3]
            have : F.ref3_utf_L1 s (i : Int) = some (.inl ((i + kk : Nat) : Int)) := by
              simp only [F.ref3_utf_L1, d0, if_true, getO_lt hl, bind_some', d1, Bool.false_eq_true, if_false, h1, h0, h4]
              rfl
            rw [loop_inl this, ih (s.length - (i + kk)) (by omega) (i + kk) rfl h6]
            simp only [List.drop_drop]
      · have hi9 : i = s.length := by omega
        have d0 : decide ((i : Int) < (s.length : Int)) = false := by simp; omega
        refine loop_inr ?_
        simp only [F.ref3_utf_L1, d0, Bool.false_eq_true, if_false]
        rw [hi9, List.drop_length]
        rfl
  have := key s.length 0 (by omega) (by omega)
  exact this
theorem utf8_eq (hs : s.length ≤ 2000000) : F.ref30_utf8 s = some (Lib.validD s) := by
  obtain ⟨w1, hw1⟩ := whole_ex (s := s) hs
  obtain ⟨w2, hw2⟩ := valid_ex (s := s) hs
  have hp : F.ref3_plain 5 [] s false 0 0 = some (Lib.validD s) := by
    simp only [F.ref3_plain, F.ref3_plain_K1, F.ref3_plain_K2, hw1, hw2, utf_eq hs, bind_some']
    rfl
  have h0 : F.ref3_utf [] = some true := by
    have := utf_eq (s := []) (by simp)
    rw [this]; rfl
  unfold F.ref30_utf8 F.ref3_Shaped F.ref3_take
  have ht : F.ref3_take_n 64 [(5, [], s, false, 0, 0)] 0 false 0 = some (if Lib.validD s = true then 1 else -1) := by
    rw [F.ref3_take_n]
    unfold F.ref3_take_s
    have d0 : decide (((([(5, [], s, false, 0, 0)] : List (Int × (List UInt8) × (List UInt8) × Bool × Int × Int)).length : Nat) : Int) ≤ 0) = false := by simp
    have g0 : getO ([(5, [], s, false, 0, 0)] : List (Int × (List UInt8) × (List UInt8) × Bool × Int × Int)) (0 : Int) = some (5, [], s, false, 0, 0) := getO_lit0 _ _
    simp only [d0, Bool.false_eq_true, if_false, g0, bind_some', hp, h0]
    cases Lib.validD s
    · rfl
    · have hL : loop (F.ref3_take_s_L1 [(5, [], s, false, 0, 0)] 0 (F.ref3_take_n 63) (5, [], s, false, 0, 0)) (wI (0 + 1), [], 0) = some 1 := by
        refine loop_inr ?_
        rfl
      show F.ref3_take_s_K1 0 [(5, [], s, false, 0, 0)] 0 (F.ref3_take_n 63) (5, [], s, false, 0, 0) false = _
      unfold F.ref3_take_s_K1
      rw [if_neg (by simp), hL]
      rfl
  rw [ht]
  cases Lib.validD s <;> rfl
end
end Go.Gk.Cb
