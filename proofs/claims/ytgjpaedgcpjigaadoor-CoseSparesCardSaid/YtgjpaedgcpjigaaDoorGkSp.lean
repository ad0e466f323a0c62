import Derived.Test.YtgjpaedgcpjigaaDoorGkP0
import Derived.Test.YtgjpaedgcpjigaaDoorGkQD
import Derived.Test.YtgjpaedgcpjigaaDoorGkFcose
import Derived.Test.YtgjpaedgcpjigaaDoorGkFref31
import Derived.Test.YtgjpaedgcpjigaaDoorGkFlaw31
import Derived.KernelRfl
set_option linter.unusedVariables false
set_option linter.unusedSimpArgs false

section
set_option linter.unusedSimpArgs false
set_option linter.unusedVariables false
namespace Go.Gk
open Go
theorem loop_oinr' {σ ρ : Type} {f : σ → Option (σ ⊕ ρ)} {s : σ} {X : Option ρ} (h : f s = oinr X) : loop f s = X := by
  rw [loop_eq, h]
  cases X <;> rfl
theorem fill_loop {τ ρ : Type} {f : Int × List τ → Option ((Int × List τ) ⊕ ρ)} {c : τ} {X : List τ → Option ρ}
    (hf : ∀ i l, f (i, l) = if decide (i < (l.length : Int)) = true then (obind (getO l i) fun _ => olet (l.set i.toNat c) fun y => oinl (wI (i + 1), y)) else oinr (X l))
    (l : List τ) (hl : l.length ≤ 4611686018427387904) : loop f (0, l) = X (List.replicate l.length c) := by
  have key : ∀ (r i : Nat) (m : List τ), i + r = m.length → m.length = l.length → m.take i = List.replicate i c → loop f ((i : Int), m) = X (List.replicate l.length c) := by
    intro r
    induction r with
    | zero =>
      intro i m h1 h2 h3
      have : m = List.replicate l.length c := by
        rw [← h2, show m.length = i by omega, ← h3, List.take_of_length_le (by omega)]
      have hd : decide ((i : Int) < (m.length : Int)) = false := decide_eq_false (by omega)
      refine loop_oinr' ?_
      rw [hf, hd, ← this]
      rfl
    | succ r ih =>
      intro i m h1 h2 h3
      have hi : i < m.length := by omega
      have hd : decide ((i : Int) < (m.length : Int)) = true := decide_eq_true (by omega)
      have hs : f ((i : Int), m) = some (.inl (((i + 1 : Nat) : Int), m.set i c)) := by
        rw [hf, hd, getO_lt hi]
        simp only [if_true, bind_some', olet_eq, Int.toNat_natCast]
        rw [wI_in (by omega) (by omega)]
        rfl
      rw [loop_inl hs]
      refine ih (i + 1) _ (by simp; omega) (by simp; omega) ?_
      rw [List.take_set, List.take_succ_eq_append_getElem hi, h3, List.set_append_right _ _ (by simp)]
      simp [List.replicate_succ']
  exact key l.length 0 l (by simp) rfl (by simp)
theorem more_loop {τ ρ : Type} {f : List τ × Int → Option ((List τ × Int) ⊕ ρ)} {c : τ} {X : List τ → Option ρ} {bytes : Nat}
    (hf : ∀ l k, f (l, k) = if decide (k < 70) = true then (obind (apO bytes l [c]) fun y => oinl (y, wI (k + 1))) else oinr (X l))
    (l : List τ) (hl : (l.length + 70) * bytes ≤ 225000000000000) : loop f (l, 0) = X (l ++ List.replicate 70 c) := by
  have key : ∀ (r i : Nat), i + r = 70 → loop f (l ++ List.replicate i c, (i : Int)) = X (l ++ List.replicate 70 c) := by
    intro r
    induction r with
    | zero =>
      intro i h1
      have hd : decide ((i : Int) < 70) = false := decide_eq_false (by omega)
      have : i = 70 := by omega
      subst this
      refine loop_oinr' ?_
      rw [hf, hd]
      rfl
    | succ r ih =>
      intro i h1
      have hd : decide ((i : Int) < 70) = true := decide_eq_true (by omega)
      have hs : f (l ++ List.replicate i c, (i : Int)) = some (.inl (l ++ List.replicate (i + 1) c, ((i + 1 : Nat) : Int))) := by
        rw [hf, hd, apO_ok (Nat.le_trans (Nat.mul_le_mul_right _ (by simp; omega)) hl)]
        simp only [if_true, bind_some']
        rw [wI_in (by omega) (by omega), List.append_assoc, ← List.replicate_succ']
        rfl
      rw [loop_inl hs]
      exact ih (i + 1) (by omega)
  simpa using key 70 0 (by omega)
theorem look_to4 {f : Int → Option (Int ⊕ Bool)} {τ : Type} {X r : Option Bool} (n : Nat) (c d : τ) (pc pd : τ → Bool) (hc : pc c = false) (hdd : pd d = false) (hn : n ≤ 4611686018427387904)
    (hf : ∀ i, f i = if decide (i < ((List.replicate n c ++ List.replicate 70 d).length : Int)) = true then
      (if decide (i < ((List.replicate n c).length : Int)) = true then
        (obind (getO (List.replicate n c) i) fun x =>
          if pc x = true then (if true = true then oinr (some false) else oinl (wI (i + 1)))
          else (obind (getO (List.replicate n c ++ List.replicate 70 d) i) fun y =>
            if pc y = true then (if true = true then oinr (some false) else oinl (wI (i + 1)))
            else (if false = true then oinr (some false) else oinl (wI (i + 1)))))
      else (obind (getO (List.replicate n c ++ List.replicate 70 d) i) fun z => if pd z = true then oinr (some false) else oinl (wI (i + 1))))
      else oinr X) (hX : X = r) : loop f 0 = r := by
  subst hX
  have key : ∀ (r i : Nat), i + r = n + 70 → loop f (i : Int) = X := by
    intro r
    induction r with
    | zero =>
      intro i h1
      have hd : decide ((i : Int) < ((List.replicate n c ++ List.replicate 70 d).length : Int)) = false := decide_eq_false (by simp; omega)
      refine loop_oinr' ?_
      rw [hf, hd]
      rfl
    | succ r ih =>
      intro i h1
      have hd : decide ((i : Int) < ((List.replicate n c ++ List.replicate 70 d).length : Int)) = true := decide_eq_true (by simp; omega)
      have hw : wI ((i : Int) + 1) = ((i + 1 : Nat) : Int) := by rw [wI_in (by omega) (by omega)]; rfl
      have hs : f (i : Int) = some (.inl (((i + 1 : Nat) : Int))) := by
        rw [hf, hd, hw]
        have hi2 : i < (List.replicate n c ++ List.replicate 70 d).length := by simp; omega
        by_cases h : i < n
        · have h2 : decide ((i : Int) < ((List.replicate n c).length : Int)) = true := decide_eq_true (by simp; omega)
          have g1 : getO (List.replicate n c) (i : Int) = some c := by rw [getO_lt (by simpa using h)]; simp
          have g2 : getO (List.replicate n c ++ List.replicate 70 d) (i : Int) = some c := by rw [getO_lt hi2, List.getElem_append_left (by simpa using h), List.getElem_replicate]
          rw [h2, g1, g2]
          simp only [bind_some', if_true, hc, Bool.false_eq_true, if_false]
          rfl
        · have h2 : decide ((i : Int) < ((List.replicate n c).length : Int)) = false := decide_eq_false (by simp; omega)
          have g2 : getO (List.replicate n c ++ List.replicate 70 d) (i : Int) = some d := by rw [getO_lt hi2, List.getElem_append_right (by simp; omega), List.getElem_replicate]
          rw [h2, g2]
          simp only [bind_some', if_true, hdd, Bool.false_eq_true, if_false]
          rfl
      rw [loop_inl hs]
      exact ih (i + 1) (by omega)
  exact key (n + 70) 0 (by omega)
end Go.Gk
end

section
set_option linter.unusedSimpArgs false
set_option linter.unusedVariables false
namespace Go.Gk.Cb
open Go Go.Gk
theorem memE_at {v : List It} {wr : Wr} (key : List It) : ∀ (r i : Nat) (last : Option (List UInt8)) (t : List UInt8) (j : Nat), kidsE wr true (2 * r) true last i = some (t, j) →
    memE v wr key r i = -1 ∨ ∃ (k : Nat) (t' : List UInt8) (j' : Nat), memE v wr key r i = (k : Int) ∧ wr k = some (t', j')
  | 0, i, last, t, j, h => .inl rfl
  | r + 1, i, last, t, j, h1 => by
    rw [show 2 * (r + 1) = 2 * r + 1 + 1 by omega] at h1
    simp only [kidsE] at h1
    cases h4 : wr i with
    | none => rw [h4] at h1; cases h1
    | some a =>
      obtain ⟨t1, j1⟩ := a
      rw [h4] at h1
      simp only [Bool.true_and, Bool.not_true, Bool.false_and, Bool.and_false, Bool.false_eq_true, if_false, if_true] at h1
      split at h1
      · cases h1
      · cases h5 : wr j1 with
        | none => rw [h5] at h1; cases h1
        | some b =>
          obtain ⟨t2, j2⟩ := b
          rw [h5] at h1
          simp only [Bool.not_false] at h1
          cases h6 : kidsE wr true (2 * r) true (some t1) j2 with
          | none => rw [h6] at h1; cases h1
          | some e =>
            obtain ⟨u, k⟩ := e
            simp only [memE, h4, h5]
            split
            · exact .inr ⟨j1, t2, j2, rfl, h5⟩
            · exact memE_at key r j2 _ u k h6
theorem Member_at {v : List It} (hw : wt v ≤ 4000000000000) (hK : Kd v) (hU : ∀ x ∈ v, x.2.2.1.length ≤ 2000000) (p : Int) (key : List It) :
    ∃ q : Int, F.cbor_Member v p key = some q ∧ F.ref30_Member v p key = some q ∧ (q = -1 ∨ ∃ (k d : Nat) (t : List UInt8) (j : Nat), q = (k : Int) ∧ d ≤ 32 ∧ encD d v k = some (t, j)) := by
  have hl := wt_len v
  unfold F.cbor_Member F.ref30_Member
  rw [shaped_eq hw hK, refShaped_eq hw hK hU]
  simp only [bind_some']
  by_cases h0 : p < 0
  · have e0 : decide (p < 0) = true := by simpa using h0
    refine ⟨-1, by simp only [e0, if_true, F.cbor_Member_K1], ?_, .inl rfl⟩
    simp only [e0, if_true, F.ref30_Member_K1, ite_self]
  · have e0 : decide (p < 0) = false := by simpa using h0
    obtain ⟨a, rfl⟩ := Int.eq_ofNat_of_zero_le (Int.not_lt.1 h0)
    by_cases h1 : v.length ≤ a
    · have e1 : decide ((v.length : Int) ≤ (a : Int)) = true := by simp; omega
      refine ⟨-1, by simp only [e0, e1, if_true, Bool.false_eq_true, if_false, F.cbor_Member_K1], ?_, .inl rfl⟩
      simp only [e0, e1, if_true, Bool.false_eq_true, if_false, F.ref30_Member_K1, ite_self]
    · have e1 : decide ((v.length : Int) ≤ (a : Int)) = false := by simp; omega
      have ha : a < v.length := by omega
      simp only [e0, e1, Bool.false_eq_true, if_false, getO_lt ha, bind_some']
      by_cases h5 : v[a].1 = 5
      · have e5 : (v[a].1 != 5) = false := by simp [h5]
        simp only [e5, Bool.false_eq_true, if_false]
        cases hs : shapedD v with
        | false => exact ⟨-1, by simp only [Bool.not_false, F.cbor_Member_K1, if_true], by simp only [Bool.not_false, F.ref30_Member_K1, if_true], .inl rfl⟩
        | true =>
          obtain ⟨d, t, k, hd, he⟩ := at_shaped hs ha
          obtain ⟨d', u, rfl, hk, hk0, hk2⟩ := map_kids he ha h5
          obtain ⟨K, hKv⟩ : ∃ K : Nat, v[a].2.2.2 = ((2 * K : Nat) : Int) := ⟨(v[a].2.2.2 / 2).toNat, by omega⟩
          rw [hKv, Int.toNat_natCast] at hk
          have hkd := hK v[a] (List.getElem_mem ha)
          have hdiv : wI (Int.tdiv v[a].2.2.2 2) = (K : Int) := by
            rw [hKv, Int.tdiv_eq_ediv_of_nonneg (by omega), wI_in (by omega) (by omega)]; omega
          have ha1 : wI ((a : Int) + 1) = ((a + 1 : Nat) : Int) := by rw [wI_in (by omega) (by omega)]; simp
          refine ⟨memE v (encD d' v) key K (a + 1), ?_, ?_, ?_⟩
          · simp only [Bool.not_true, F.cbor_Member_K1, Bool.false_eq_true, if_false, getO_lt ha, bind_some', ha1]
            exact member_cbor (by omega) (by omega) key v[a] K hdiv (by omega) K 0 (a + 1) none u k hk (by omega) (by omega)
          · simp only [Bool.not_true, F.ref30_Member_K1, Bool.false_eq_true, if_false, ha1]
            exact member_ref (by omega) (by omega) key a ha K hdiv (by omega) K 0 (a + 1) none u k hk (by omega) (by omega)
          · rcases memE_at key K (a + 1) none u k hk with h | ⟨k', t', j', h, h'⟩
            · exact .inl h
            · exact .inr ⟨k', d', t', j', h, by omega, h'⟩
      · have e5 : (v[a].1 != 5) = true := by simpa using h5
        refine ⟨-1, by simp only [e5, if_true, F.cbor_Member_K1], ?_, .inl rfl⟩
        simp only [e5, F.ref30_Member_K1, if_true, ite_self]
theorem at_item {v : List It} {d k j : Nat} {t : List UInt8} (h : encD d v k = some (t, j)) : ∃ hk : k < v.length, fitE v[k] ∧ 0 ≤ v[k].2.2.2 ∧ k + 1 + v[k].2.2.2.toNat ≤ j ∧ j ≤ v.length := by
  have hp := encD_put v d k t j h
  have hk : k < v.length := by omega
  have key : ∀ sub, (∀ wr, sub = some wr → Put v wr) → itemE v sub k = some (t, j) → fitE v[k] ∧ 0 ≤ v[k].2.2.2 ∧ k + 1 + v[k].2.2.2.toNat ≤ j := by
    intro sub hsub h1
    unfold itemE at h1
    rw [List.getElem?_eq_getElem hk] at h1
    simp only at h1
    split at h1
    · cases h1
    · rename_i hf
      have hf' := Classical.not_not.1 hf
      obtain ⟨k0, kz⟩ := fit_kids hf'
      split at h1
      · cases sub with
        | none => cases h1
        | some wr =>
          simp only at h1
          split at h1
          · cases h1
          · rename_i t1 j1 hk1
            cases h1
            have := kidsE_put (hsub wr rfl) _ _ _ _ _ _ _ (by omega) hk1
            exact ⟨hf', k0, by omega⟩
      · rename_i hk1
        cases h1
        have := kz hk1
        exact ⟨hf', k0, by omega⟩
  refine ⟨hk, ?_⟩
  cases d with
  | zero =>
    obtain ⟨a, b, c⟩ := key none (by simp) h
    exact ⟨a, b, c, by omega⟩
  | succ d =>
    obtain ⟨a, b, c⟩ := key (some (encD d v)) (by intro wr hw; cases hw; exact encD_put v d) h
    exact ⟨a, b, c, by omega⟩
theorem fit_major {x : It} (h : fitE x) : 0 ≤ x.1 ∧ x.1 ≤ 7 := by
  obtain ⟨m, n, d, k⟩ := x
  simp only
  rcases major_cases m with hm | hm | rfl | rfl | rfl | rfl | rfl | rfl | rfl | rfl <;> first
    | omega
    | (exfalso; revert h; unfold fitE; simp only; rw [if_neg (by omega), if_neg (by omega), if_neg (by omega), if_neg (by omega), if_neg (by omega), if_neg (by omega), if_neg (by omega)]; simp; done)
theorem contains1 (a x : Int) : F.slices_Contains_int_int [a] x = some (x == a) := by
  unfold F.slices_Contains_int_int F.slices_Index_int_int
  by_cases h : x = a
  · have hs : F.slices_Index_int_int_L1 [a] x 0 = some (.inr 0) := by
      simp [F.slices_Index_int_int_L1, getO, h]; rfl
    rw [loop_inr hs, bind_some']; simp [h]
  · have hs : F.slices_Index_int_int_L1 [a] x 0 = some (.inl 1) := by
      simp [F.slices_Index_int_int_L1, getO, h]; rfl
    have hs1 : F.slices_Index_int_int_L1 [a] x 1 = some (.inr (-1)) := rfl
    rw [loop_inl hs, loop_inr hs1, bind_some']; simp [h]
theorem contains2 (a b x : Int) : F.slices_Contains_int_int [a, b] x = some (x == a || x == b) := by
  unfold F.slices_Contains_int_int F.slices_Index_int_int
  by_cases h : x = a
  · have hs : F.slices_Index_int_int_L1 [a, b] x 0 = some (.inr 0) := by
      simp [F.slices_Index_int_int_L1, getO, h]; rfl
    rw [loop_inr hs, bind_some']; simp [h]
  · have hs : F.slices_Index_int_int_L1 [a, b] x 0 = some (.inl 1) := by
      simp [F.slices_Index_int_int_L1, getO, h]; rfl
    by_cases h2 : x = b
    · have hs1 : F.slices_Index_int_int_L1 [a, b] x 1 = some (.inr 1) := by
        simp [F.slices_Index_int_int_L1, getO, h2]; rfl
      rw [loop_inl hs, loop_inr hs1, bind_some']; simp [h2]
    · have hs1 : F.slices_Index_int_int_L1 [a, b] x 1 = some (.inl 2) := by
        simp [F.slices_Index_int_int_L1, getO, h2]; rfl
      have hs2 : F.slices_Index_int_int_L1 [a, b] x 2 = some (.inr (-1)) := rfl
      rw [loop_inl hs, loop_inl hs1, loop_inr hs2, bind_some']; simp [h, h2]
section
variable {v : List It} (hw : wt v ≤ 4000000000000) (hK : Kd v) (hU : ∀ x ∈ v, x.2.2.1.length ≤ 2000000)
include hw hK hU
theorem val_at (n : UInt64) : ∃ q : Int, F.cbor_Member v 0 [(0, n, [], 0)] = some q ∧ F.ref31_value v 0 n = some q ∧
    (q = -1 ∨ ∃ (k d : Nat) (t : List UInt8) (j : Nat), q = (k : Int) ∧ d ≤ 32 ∧ encD d v k = some (t, j)) := by
  obtain ⟨q, a, b, c⟩ := Member_at hw hK hU 0 [(0, n, [], 0)]
  exact ⟨q, a, by unfold F.ref31_value; rw [b]; rfl, c⟩
theorem said_both (n : UInt64) (m : Int) (bad : Bool) : ∃ d has ok, F.ref31_said1 v n m = some (d, has, ok) ∧ F.signet_cose_Claims_2 n m v bad = some (d, has, bad || !ok) := by
  obtain ⟨q, a, b, c⟩ := val_at hw hK hU n
  unfold F.ref31_said1 F.signet_cose_Claims_2 F.signet_cose_Claims_1
  rw [a, b]
  simp only [bind_some']
  rcases c with rfl | ⟨k, d, t, j, rfl, hd, he⟩
  · refine ⟨[], false, true, rfl, ?_⟩
    cases bad <;> rfl
  · obtain ⟨hk, hf, _⟩ := at_item he
    have e1 : decide ((k : Int) < 0) = false := decide_eq_false (by omega)
    have e2 : decide ((0 : Int) ≤ (k : Int)) = true := decide_eq_true (by omega)
    simp only [e1, e2, Bool.false_eq_true, if_false, if_true, getO_lt hk, bind_some', contains1]
    refine ⟨v[k].2.2.1, true, v[k].1 == m, rfl, ?_⟩
    cases bad
    · simp only [Bool.false_eq_true, if_false, F.signet_cose_Claims_1_K1, bind_some', e1, getO_lt hk, Bool.false_or]
    · simp only [if_true, F.signet_cose_Claims_1_K1, bind_some', e1, Bool.false_eq_true, if_false, getO_lt hk, Bool.true_or]
theorem time_both (n : UInt64) (bad : Bool) : ∃ h1 a1 h2 a2 ok, F.ref31_time v n = some (h1, a1, ok) ∧ F.signet_cose_Claims_3 n bad v = some (h2, a2, bad || !ok) ∧ (ok = true → h1 = h2 ∧ a1 = a2) := by
  obtain ⟨q, a, b, c⟩ := val_at hw hK hU n
  unfold F.ref31_time F.signet_cose_Claims_3
  rw [b]
  simp only [bind_some']
  rcases c with rfl | ⟨k, d, t, j, rfl, hd, he⟩
  · refine ⟨false, 0, false, 0, true, rfl, ?_, fun _ => ⟨rfl, rfl⟩⟩
    unfold F.signet_cose_Claims_1
    rw [a]
    cases bad <;> rfl
  · obtain ⟨hk, hf, _⟩ := at_item he
    have hmj := fit_major hf
    have e1 : decide ((k : Int) < 0) = false := decide_eq_false (by omega)
    have e2 : decide ((0 : Int) ≤ (k : Int)) = true := decide_eq_true (by omega)
    have hin : (v[k].1 == 0 || v[k].1 == 1) = decide (v[k].1 ≤ 1) := by
      by_cases h : v[k].1 ≤ 1
      · have : v[k].1 = 0 ∨ v[k].1 = 1 := by omega
        rcases this with h | h <;> simp [h]
      · have : v[k].1 ≠ 0 ∧ v[k].1 ≠ 1 := by omega
        simp [this.1, this.2, h]
    have hlt : decide ((1 : Int) < v[k].1) = !decide (v[k].1 ≤ 1) := by
      by_cases h : v[k].1 ≤ 1 <;> simp [h] <;> omega
    have hK1 : ∀ b', ∃ a2, F.signet_cose_Claims_3_K1 v ((k : Int), bad || !decide (v[k].1 ≤ 1)) b' = some (true, a2, b') ∧ a2 = (if v[k].1 = 1 then wI (-1 - wI (v[k].2.1.toNat : Int)) else wI (v[k].2.1.toNat : Int)) := by
      intro b'
      by_cases h : v[k].1 = 1
      · refine ⟨_, ?_, rfl⟩
        simp only [F.signet_cose_Claims_3_K1, getO_lt hk, bind_some', olet_eq, h, beq_self_eq_true, if_true, F.signet_cose_Claims_3_K2]
      · have : (v[k].1 == 1) = false := by simpa using h
        refine ⟨_, ?_, rfl⟩
        simp only [F.signet_cose_Claims_3_K1, getO_lt hk, bind_some', olet_eq, this, h, Bool.false_eq_true, if_false, F.signet_cose_Claims_3_K2]
    have hC1 : F.signet_cose_Claims_1 n [0, 1] v bad = some ((k : Int), bad || !decide (v[k].1 ≤ 1)) := by
      unfold F.signet_cose_Claims_1
      rw [a, bind_some']
      cases bad
      · simp only [Bool.false_eq_true, if_false, e2, if_true, getO_lt hk, bind_some', contains2, hin, F.signet_cose_Claims_1_K1, Bool.false_or]
      · simp only [if_true, F.signet_cose_Claims_1_K1, Bool.true_or]
    rw [hC1]
    simp only [e1, Bool.false_eq_true, if_false, getO_lt hk, bind_some', hlt]
    by_cases hm : v[k].1 ≤ 1
    · simp only [hm, decide_true, Bool.not_true, Bool.or_false, Bool.false_eq_true, if_false]
      by_cases hn : (9223372036854775807 : UInt64) < v[k].2.1
      · have en : decide ((9223372036854775807 : UInt64) < v[k].2.1) = true := decide_eq_true hn
        obtain ⟨a2, k1, k2⟩ := hK1 true
        simp only [hm, decide_true, Bool.not_true, Bool.or_false] at k1
        refine ⟨false, 0, true, a2, false, by simp only [en, F.ref31_time_K1, if_true], ?_, fun h => by cases h⟩
        cases bad
        · simpa [en] using k1
        · simpa [en] using k1
      · have en : decide ((9223372036854775807 : UInt64) < v[k].2.1) = false := decide_eq_false hn
        obtain ⟨a2, k1, k2⟩ := hK1 bad
        simp only [hm, decide_true, Bool.not_true, Bool.or_false] at k1
        refine ⟨true, a2, true, a2, true, ?_, ?_, fun _ => ⟨rfl, rfl⟩⟩
        · by_cases h : v[k].1 = 1
          · simp only [en, F.ref31_time_K1, Bool.false_eq_true, if_false, getO_lt hk, bind_some', h, beq_self_eq_true, if_true, olet_eq, F.ref31_time_K2, k2]
          · have e : (v[k].1 == 1) = false := by simpa using h
            simp only [en, F.ref31_time_K1, Bool.false_eq_true, if_false, getO_lt hk, bind_some', e, olet_eq, F.ref31_time_K2, k2, h]
        · cases bad
          · simpa [en] using k1
          · simpa [en] using k1
    · obtain ⟨a2, k1, k2⟩ := hK1 true
      simp only [hm, decide_false, Bool.not_false, Bool.or_true] at k1
      simp only [hm, decide_false, Bool.not_false, Bool.or_true, if_true, F.ref31_time_K1, k1]
      exact ⟨false, 0, true, a2, false, rfl, by simp, fun h => by cases h⟩
end
end Go.Gk.Cb
end

section
set_option linter.unusedSimpArgs false
set_option linter.unusedVariables false
namespace Go.Gk.Cb
open Go Go.Gk
def textsD (v : List It) : Nat → Nat → Option (List (List UInt8))
  | _, 0 => some []
  | p, r + 1 => match v[p]? with
    | none => none
    | some x => if x.1 = 3 then (match textsD v (p + 1) r with
      | none => none
      | some l => some (x.2.2.1 :: l)) else none
theorem textsD_len {v : List It} : ∀ (r p : Nat) (l : List (List UInt8)), textsD v p r = some l → l.length = r
  | 0, p, l, h => by simp only [textsD] at h; cases h; rfl
  | r + 1, p, l, h => by
    simp only [textsD] at h
    cases hx : v[p]? with
    | none => rw [hx] at h; cases h
    | some x =>
      rw [hx] at h
      simp only at h
      split at h
      · cases ht : textsD v (p + 1) r with
        | none => rw [ht] at h; cases h
        | some m => rw [ht] at h; cases h; simp [textsD_len r (p + 1) m ht]
      · cases h
abbrev SD := List UInt8 × Bool × Bool
abbrev TM := Bool × Int × Bool
section
variable {v : List It}
theorem aud_prog (x15 x16 : SD) (x17 x18 x19 : TM) (x20 : SD) (k : Nat) (b1 : Bool) (x33 : It) (hv : v.length ≤ 100000000000) : ∀ (r i : Nat) (acc : List (List UInt8)), ((i + r : Nat) : Int) = x33.2.2.2 → k + 1 + (i + r) ≤ v.length → acc.length ≤ i →
    loop (F.cose_Claims_L1 (v, 0, 0) ((k : Int), b1) x33 x15 x16 x17 x18 x19 x20) ((i : Int), false, acc) =
      F.cose_Claims_K1 x15 x16 x17 x18 x19 x20 (match textsD v (k + 1 + i) r with
        | none => (true, [], true)
        | some l => (false, acc ++ l, true))
  | 0, i, acc, h1, h2, h3 => by
    have hd : decide ((i : Int) < x33.2.2.2) = false := decide_eq_false (by omega)
    have : F.cose_Claims_L1 (v, 0, 0) ((k : Int), b1) x33 x15 x16 x17 x18 x19 x20 ((i : Int), false, acc) = oinr (F.cose_Claims_K1 x15 x16 x17 x18 x19 x20 (false, acc, true)) := by
      simp only [F.cose_Claims_L1, hd, Bool.false_eq_true, if_false]
    have hK : F.cose_Claims_K1 x15 x16 x17 x18 x19 x20 (false, acc, true) = some ([], x15.1, x15.2.1, x16.1, x16.2.1, acc, true, x20.1, x20.2.1, x17.1, x17.2.1, x18.1, x18.2.1, x19.1, x19.2.1, 0) := rfl
    simp only [textsD, List.append_nil]
    rw [hK] at this ⊢
    exact loop_inr this
  | r + 1, i, acc, h1, h2, h3 => by
    have hd : decide ((i : Int) < x33.2.2.2) = true := decide_eq_true (by omega)
    have hp : k + 1 + i < v.length := by omega
    have e1 : wI ((k : Int) + 1) = ((k + 1 : Nat) : Int) := by rw [wI_in (by omega) (by omega)]; simp
    have e2 : wI (((k + 1 : Nat) : Int) + (i : Int)) = ((k + 1 + i : Nat) : Int) := by rw [wI_in (by omega) (by omega)]; simp
    have e3 : wI ((i : Int) + 1) = ((i + 1 : Nat) : Int) := by rw [wI_in (by omega) (by omega)]; simp
    simp only [textsD, List.getElem?_eq_getElem hp]
    by_cases h : v[k + 1 + i].1 = 3
    · have eb : (v[k + 1 + i].1 != 3) = false := by simp [h]
      have hs : F.cose_Claims_L1 (v, 0, 0) ((k : Int), b1) x33 x15 x16 x17 x18 x19 x20 ((i : Int), false, acc) = some (.inl (((i + 1 : Nat) : Int), false, acc ++ [v[k + 1 + i].2.2.1])) := by
        simp only [F.cose_Claims_L1, hd, if_true, Bool.false_eq_true, if_false, e1, e2, getO_lt hp, bind_some', eb, F.cose_Claims_K3, e3]
        rw [apO_ok (by simp; omega), bind_some']; rfl
      rw [loop_inl hs, aud_prog x15 x16 x17 x18 x19 x20 k b1 x33 hv r (i + 1) _ (by omega) (by omega) (by simp; omega), if_pos h, show k + 1 + (i + 1) = k + 1 + i + 1 by omega]
      cases textsD v (k + 1 + i + 1) r with
      | none => rfl
      | some l => simp
    · have eb : (v[k + 1 + i].1 != 3) = true := by simpa using h
      have hs : F.cose_Claims_L1 (v, 0, 0) ((k : Int), b1) x33 x15 x16 x17 x18 x19 x20 ((i : Int), false, acc) = some (.inr ([], [], false, [], false, [], false, [], false, false, 0, false, 0, false, 0, 131)) := by
        simp only [F.cose_Claims_L1, hd, if_true, Bool.false_eq_true, if_false, e1, e2, getO_lt hp, bind_some', eb, F.cose_Claims_K3]; rfl
      rw [loop_inr hs, if_neg h]; rfl
theorem aud_ref (k : Nat) (hk : k < v.length) (hv : v.length ≤ 100000000000) : ∀ (r i : Nat) (acc : List (List UInt8)), ((i + r : Nat) : Int) = v[k].2.2.2 → k + 1 + (i + r) ≤ v.length → acc.length ≤ i →
    loop (F.ref31_audience_L1 v (k : Int)) (acc, ((k + 1 + i : Nat) : Int), (i : Int)) = some (match textsD v (k + 1 + i) r with
        | none => ([], true, false)
        | some l => (acc ++ l, true, true))
  | 0, i, acc, h1, h2, h3 => by
    have hd : decide ((i : Int) < v[k].2.2.2) = false := decide_eq_false (by omega)
    refine loop_inr ?_
    simp only [F.ref31_audience_L1, getO_lt hk, bind_some', hd, Bool.false_eq_true, if_false, textsD, List.append_nil]; rfl
  | r + 1, i, acc, h1, h2, h3 => by
    have hd : decide ((i : Int) < v[k].2.2.2) = true := decide_eq_true (by omega)
    have hp : k + 1 + i < v.length := by omega
    have e2 : wI (((k + 1 + i : Nat) : Int) + 1) = ((k + 1 + (i + 1) : Nat) : Int) := by rw [wI_in (by omega) (by omega)]; omega
    have e3 : wI ((i : Int) + 1) = ((i + 1 : Nat) : Int) := by rw [wI_in (by omega) (by omega)]; simp
    simp only [textsD, List.getElem?_eq_getElem hp]
    by_cases h : v[k + 1 + i].1 = 3
    · have eb : (v[k + 1 + i].1 != 3) = false := by simp [h]
      have hs : F.ref31_audience_L1 v (k : Int) (acc, ((k + 1 + i : Nat) : Int), (i : Int)) = some (.inl (acc ++ [v[k + 1 + i].2.2.1], ((k + 1 + (i + 1) : Nat) : Int), ((i + 1 : Nat) : Int))) := by
        simp only [F.ref31_audience_L1, getO_lt hk, bind_some', hd, if_true, getO_lt hp, eb, Bool.false_eq_true, if_false, e2, e3]
        rw [apO_ok (by simp; omega), bind_some']; rfl
      rw [loop_inl hs, aud_ref k hk hv r (i + 1) _ (by omega) (by omega) (by simp; omega), if_pos h, show k + 1 + (i + 1) = k + 1 + i + 1 by omega]
      cases textsD v (k + 1 + i + 1) r with
      | none => rfl
      | some l => simp
    · have eb : (v[k + 1 + i].1 != 3) = true := by simpa using h
      have hs : F.ref31_audience_L1 v (k : Int) (acc, ((k + 1 + i : Nat) : Int), (i : Int)) = some (.inr ([], true, false)) := by
        simp only [F.ref31_audience_L1, getO_lt hk, bind_some', hd, if_true, getO_lt hp, eb]; rfl
      rw [loop_inr hs, if_neg h]
end
section
variable {v : List It} (hw : wt v ≤ 4000000000000) (hK : Kd v) (hU : ∀ x ∈ v, x.2.2.1.length ≤ 2000000)
include hw hK hU
theorem aud_both (hv : v.length ≤ 100000000000) (x15 x16 : SD) (x17 x18 x19 : TM) (x20 : SD) (b0 : Bool) : ∃ l has ok, F.ref31_audience v = some (l, has, ok) ∧ l.length ≤ v.length + 1 ∧
    (obind (F.signet_cose_Claims_1 3 [3, 4] v b0) fun x_23 =>
      if (decide ((0 : Int) ≤ x_23.1)) = true then
        (obind (getO v (x_23.1 : Int)) fun x_24 =>
          if (x_24.1 == 3) = true then
            (obind (getO v (x_23.1 : Int)) fun x_25 => F.cose_Claims_K2 (v, 0, 0) x_23 x15 x16 x17 x18 x19 x20 ([x_25.2.2.1] : List (List UInt8)))
          else F.cose_Claims_K2 (v, 0, 0) x_23 x15 x16 x17 x18 x19 x20 [])
      else F.cose_Claims_K1 x15 x16 x17 x18 x19 x20 (x_23.2, [], false)) = F.cose_Claims_K1 x15 x16 x17 x18 x19 x20 (b0 || !ok, l, has) := by
  obtain ⟨q, a, b, c⟩ := val_at hw hK hU 3
  unfold F.ref31_audience F.signet_cose_Claims_1
  rw [a, b]
  simp only [bind_some']
  rcases c with rfl | ⟨k, d, t, j, rfl, hd, he⟩
  · refine ⟨[], false, true, rfl, by simp, ?_⟩
    cases b0 <;> rfl
  · obtain ⟨hk, hf, hk0, hkj, hjl⟩ := at_item he
    have hmj := fit_major hf
    have e1 : decide ((k : Int) < 0) = false := decide_eq_false (by omega)
    have e2 : decide ((0 : Int) ≤ (k : Int)) = true := decide_eq_true (by omega)
    obtain ⟨K, hKv⟩ := Int.eq_ofNat_of_zero_le hk0
    rw [hKv, Int.toNat_natCast] at hkj
    -- a bad one before: whatever comes, it is refused
    have hbadL : ∀ b1 acc, loop (F.cose_Claims_L1 (v, 0, 0) ((k : Int), b1) v[k] x15 x16 x17 x18 x19 x20) (0, true, acc) = F.cose_Claims_K1 x15 x16 x17 x18 x19 x20 (true, acc, true) := by
      intro b1 acc
      have hK1 : F.cose_Claims_K1 x15 x16 x17 x18 x19 x20 (true, acc, true) = some ([], [], false, [], false, [], false, [], false, false, 0, false, 0, false, 0, 131) := rfl
      rw [hK1]
      refine loop_inr ?_
      by_cases h0 : (0 : Int) < v[k].2.2.2
      · have : decide ((0 : Int) < v[k].2.2.2) = true := decide_eq_true h0
        simp only [F.cose_Claims_L1, this, if_true, F.cose_Claims_K3]; rfl
      · have : decide ((0 : Int) < v[k].2.2.2) = false := decide_eq_false h0
        simp only [F.cose_Claims_L1, this, Bool.false_eq_true, if_false]; rfl
    have hC1 : (if b0 = true then F.signet_cose_Claims_1_K1 (k : Int) true
        else if decide ((0 : Int) ≤ (k : Int)) = true then obind (getO v (k : Int)) fun x_8 => obind (F.slices_Contains_int_int [3, 4] x_8.1) fun x_9 => F.signet_cose_Claims_1_K1 (k : Int) !x_9
        else F.signet_cose_Claims_1_K1 (k : Int) false) = some ((k : Int), b0 || !(v[k].1 == 3 || v[k].1 == 4)) := by
      cases b0
      · simp only [Bool.false_eq_true, if_false, e2, if_true, getO_lt hk, bind_some', contains2, F.signet_cose_Claims_1_K1, Bool.false_or]
      · simp only [if_true, F.signet_cose_Claims_1_K1, Bool.true_or]
    rw [hC1]
    simp only [bind_some', e1, e2, if_true, Bool.false_eq_true, if_false, getO_lt hk]
    by_cases h3 : v[k].1 = 3
    · have e3 : (v[k].1 == 3) = true := by simpa using h3
      have hz : v[k].2.2.2 = 0 := (fit_kids hf).2 (by omega)
      simp only [e3, if_true, Bool.true_or, Bool.not_true, Bool.or_false]
      refine ⟨[v[k].2.2.1], true, true, rfl, by simp, ?_⟩
      simp only [F.cose_Claims_K2, getO_lt hk, bind_some', Bool.not_true, Bool.or_false]
      cases b0
      · have hd0 : decide ((0 : Int) < v[k].2.2.2) = false := decide_eq_false (by omega)
        have hKg : F.cose_Claims_K1 x15 x16 x17 x18 x19 x20 (false, [v[k].2.2.1], true) = some ([], x15.1, x15.2.1, x16.1, x16.2.1, [v[k].2.2.1], true, x20.1, x20.2.1, x17.1, x17.2.1, x18.1, x18.2.1, x19.1, x19.2.1, 0) := rfl
        rw [hKg]
        refine loop_inr ?_
        simp only [F.cose_Claims_L1, hd0, Bool.false_eq_true, if_false, hKg]; rfl
      · rw [hbadL]
    · have e3 : (v[k].1 == 3) = false := by simpa using h3
      by_cases h4 : v[k].1 = 4
      · have e4 : (v[k].1 == 4) = true := by simpa using h4
        have en : (v[k].1 != 4) = false := by simp [h4]
        have hi1 : wI ((k : Int) + 1) = ((k + 1 + 0 : Nat) : Int) := by rw [wI_in (by omega) (by omega)]; simp
        have hr := aud_ref k hk hv K 0 [] (by omega) (by omega) (by simp)
        simp only [e3, e4, en, Bool.false_eq_true, if_false, Bool.or_true, Bool.not_true, Bool.or_false, hi1]
        rw [show (0 : Int) = ((0 : Nat) : Int) from rfl, hr]
        simp only [F.cose_Claims_K2, getO_lt hk, bind_some']
        cases ht : textsD v (k + 1 + 0) K with
        | none =>
          refine ⟨[], true, false, rfl, by simp, ?_⟩
          cases b0
          · have := aud_prog x15 x16 x17 x18 x19 x20 k false v[k] hv K 0 [] (by omega) (by omega) (by simp)
            rw [ht] at this
            exact this
          · exact hbadL _ _
        | some l =>
          refine ⟨[] ++ l, true, true, rfl, by have := textsD_len _ _ _ ht; simp; omega, ?_⟩
          cases b0
          · have := aud_prog x15 x16 x17 x18 x19 x20 k false v[k] hv K 0 [] (by omega) (by omega) (by simp)
            rw [ht] at this
            exact this
          · exact hbadL _ _
      · have e4 : (v[k].1 == 4) = false := by simpa using h4
        have en : (v[k].1 != 4) = true := by simpa using h4
        simp only [e3, e4, en, Bool.false_eq_true, if_false, if_true, Bool.or_false, Bool.not_false, Bool.or_true]
        refine ⟨[], true, false, rfl, by simp, ?_⟩
        simp only [F.cose_Claims_K2, getO_lt hk, bind_some', Bool.not_false, Bool.or_true]
        rw [hbadL]
end
theorem Claims_both (b : List UInt8) (hb : b.length ≤ 200000000000000) : ∃ R, F.cose_Claims b = some R ∧ F.ref31_Claims b = some R ∧ R.1 = [] ∧ R.2.2.2.2.2.1.length ≤ 70000 := by
  unfold F.cose_Claims F.ref31_Claims
  rw [parse_eq, refParse' b (by omega)]
  simp only [bind_some']
  rcases parse_cases b with ⟨v, hbl, hbv, hpb⟩ | ⟨e, p, he, hp0, hp1, hpb⟩
  · have hN := fine_of hbl hbv
    have hm := (itemD_moves b 32).1 _ _ _ hbv
    rw [hpb]
    have h0 : 0 < v.length := by omega
    have g0 : getO v (0 : Int) = some v[0] := getO_lt (i := 0) h0
    simp only [bne_self_eq_false, Bool.false_eq_true, if_false, g0, bind_some']
    by_cases h5 : v[0].1 = 5
    · have e5 : (v[0].1 != 5) = false := by simp [h5]
      simp only [e5, Bool.false_eq_true, if_false]
      have hU : ∀ x ∈ v, x.2.2.1.length ≤ 2000000 := fun x hx => by have := hN.2.2 x hx; omega
      have S := fun n m bad => said_both hN.wt hN.kd hU n m bad
      have T := fun n bad => time_both hN.wt hN.kd hU n bad
      obtain ⟨d1, b1, o1, r1, p1⟩ := S 1 3 false
      obtain ⟨d2, b2, o2, r2, p2⟩ := S 2 3 (false || !o1)
      obtain ⟨h4r, a4r, h4p, a4p, o4, r4, p4, q4⟩ := T 4 ((false || !o1) || !o2)
      obtain ⟨h5r, a5r, h5p, a5p, o5, r5, p5, q5⟩ := T 5 (((false || !o1) || !o2) || !o4)
      obtain ⟨h6r, a6r, h6p, a6p, o6, r6, p6, q6⟩ := T 6 ((((false || !o1) || !o2) || !o4) || !o5)
      obtain ⟨d7, b7, o7, r7, p7⟩ := S 7 2 (((((false || !o1) || !o2) || !o4) || !o5) || !o6)
      obtain ⟨l, has, o3, r3, hl3, p3⟩ := aud_both hN.wt hN.kd hU (by omega) (d1, b1, false || !o1) (d2, b2, (false || !o1) || !o2) (h4p, a4p, ((false || !o1) || !o2) || !o4) (h5p, a5p, (((false || !o1) || !o2) || !o4) || !o5)
        (h6p, a6p, ((((false || !o1) || !o2) || !o4) || !o5) || !o6) (d7, b7, (((((false || !o1) || !o2) || !o4) || !o5) || !o6) || !o7) ((((((false || !o1) || !o2) || !o4) || !o5) || !o6) || !o7)
      rw [p1, bind_some', p2, bind_some', p4, bind_some', p5, bind_some', p6, bind_some', p7, bind_some', p3, r1, bind_some', r2, bind_some', r3, bind_some', r4, bind_some', r5, bind_some', r6, bind_some', r7, bind_some']
      by_cases hall : o1 = true ∧ o2 = true ∧ o3 = true ∧ o4 = true ∧ o5 = true ∧ o6 = true ∧ o7 = true
      · obtain ⟨rfl, rfl, rfl, rfl, rfl, rfl, rfl⟩ := hall
        obtain ⟨rfl, rfl⟩ := q4 rfl
        obtain ⟨rfl, rfl⟩ := q5 rfl
        obtain ⟨rfl, rfl⟩ := q6 rfl
        exact ⟨_, rfl, rfl, rfl, by simp only; omega⟩
      · refine ⟨([], [], false, [], false, [], false, [], false, false, 0, false, 0, false, 0, 131), ?_, ?_, rfl, by simp⟩
        · cases o1 <;> cases o2 <;> cases o3 <;> cases o4 <;> cases o5 <;> cases o6 <;> cases o7 <;> first | rfl | (exfalso; simp at hall; done)
        · cases o1 <;> cases o2 <;> cases o3 <;> cases o4 <;> cases o5 <;> cases o6 <;> cases o7 <;> first | rfl | (exfalso; simp at hall; done)
    · have e5 : (v[0].1 != 5) = true := by simpa using h5
      simp only [e5, if_true]
      exact ⟨_, rfl, rfl, rfl, by simp⟩
  · have e1 : (e != 0) = true := by simpa using he
    rw [hpb]
    simp only [e1, if_true]
    exact ⟨_, rfl, rfl, rfl, by simp⟩
theorem sameT_eq (a b : List (List UInt8)) (ha : a.length < 9223372036854775807) : F.law31_sameTexts a b = some (a == b) := by
  unfold F.law31_sameTexts
  by_cases hl : a.length = b.length
  · have d0 : ((a.length : Int) != (b.length : Int)) = false := by simp [hl]
    simp only [d0, Bool.false_eq_true, if_false]
    refine same_loop hl (fun i h => ?_) ?_
    · have d1 : decide ((i : Int) < (a.length : Int)) = true := by simp; omega
      simp only [F.law31_sameTexts_L1, d1, if_true, getO_lt h, getO_lt (show i < b.length by omega), bind_some']
      rw [wI_in (by omega) (by omega)]
      rfl
    · have d1 : decide ((a.length : Int) < (a.length : Int)) = false := by simp
      simp only [F.law31_sameTexts_L1, d1, Bool.false_eq_true, if_false]
      rfl
  · have d0 : ((a.length : Int) != (b.length : Int)) = true := by simp; omega
    simp only [d0, if_true]
    congr 1
    symm
    rw [beq_eq_false_iff_ne]
    rintro rfl
    exact hl rfl
theorem roomy31 : F.law31_roomy = F.law30_roomy := rfl
theorem spared31 : F.law31_spared = F.law30_spared := rfl
theorem same31 : F.law31_same = F.law30_sameBytes := rfl
end Go.Gk.Cb
end

section
set_option linter.unusedSimpArgs false
set_option linter.unusedVariables false
set_option linter.unusedSectionVars false
namespace Go.Gk.Cb
open Go Go.Gk
theorem memE_pos {v : List It} {wr : Wr} {key : List It} : ∀ {r i : Nat}, 0 ≤ memE v wr key r i → 1 ≤ r
  | 0, i, h => by simp [memE] at h
  | r + 1, i, h => by omega
theorem memE_two {v : List It} {wr : Wr} {k1 k2 : List It} (hk : k1 ≠ k2) : ∀ {r i : Nat}, 0 ≤ memE v wr k1 r i → 0 ≤ memE v wr k2 r i → 2 ≤ r
  | 0, i, h, _ => by simp [memE] at h
  | 1, i, h, h2 => by
    exfalso
    simp only [memE] at h h2
    cases h4 : wr i with
    | none => simp [h4] at h
    | some a =>
      obtain ⟨t, j⟩ := a
      simp only [h4] at h h2
      cases h5 : wr j with
      | none =>
        simp only [h5] at h h2
        by_cases e1 : seg v i j = k1
        · by_cases e2 : seg v i j = k2
          · exact hk (e1.symm.trans e2)
          · simp [e2] at h2
        · simp [e1] at h
      | some b =>
        obtain ⟨t2, j2⟩ := b
        simp only [h5] at h h2
        by_cases e1 : seg v i j = k1
        · by_cases e2 : seg v i j = k2
          · exact hk (e1.symm.trans e2)
          · simp [e2] at h2
        · simp [e1] at h
  | r + 2, i, _, _ => by omega
section
variable {v : List It} (hw : wt v ≤ 4000000000000) (hK : Kd v) (hU : ∀ x ∈ v, x.2.2.1.length ≤ 2000000)
include hw hK hU
theorem Member_form (p : Int) : (∀ key, F.cbor_Member v p key = some (-1) ∧ F.ref30_Member v p key = some (-1)) ∨
    ∃ (a d K k : Nat) (u : List UInt8) (ha : a < v.length), p = (a : Int) ∧ v[a].1 = 5 ∧ v[a].2.2.2 = ((2 * K : Nat) : Int) ∧ d ≤ 32 ∧ kidsE (encD d v) true (2 * K) true none (a + 1) = some (u, k) ∧
      ∀ key, F.cbor_Member v p key = some (memE v (encD d v) key K (a + 1)) ∧ F.ref30_Member v p key = some (memE v (encD d v) key K (a + 1)) := by
  have hl := wt_len v
  unfold F.cbor_Member F.ref30_Member
  rw [shaped_eq hw hK, refShaped_eq hw hK hU]
  simp only [bind_some']
  by_cases h0 : p < 0
  · have e0 : decide (p < 0) = true := by simpa using h0
    refine .inl fun key => ⟨by simp only [e0, if_true, F.cbor_Member_K1], ?_⟩
    simp only [e0, if_true, F.ref30_Member_K1, ite_self]
  · have e0 : decide (p < 0) = false := by simpa using h0
    obtain ⟨a, rfl⟩ := Int.eq_ofNat_of_zero_le (Int.not_lt.1 h0)
    by_cases h1 : v.length ≤ a
    · have e1 : decide ((v.length : Int) ≤ (a : Int)) = true := by simp; omega
      refine .inl fun key => ⟨by simp only [e0, e1, if_true, Bool.false_eq_true, if_false, F.cbor_Member_K1], ?_⟩
      simp only [e0, e1, if_true, Bool.false_eq_true, if_false, F.ref30_Member_K1, ite_self]
    · have e1 : decide ((v.length : Int) ≤ (a : Int)) = false := by simp; omega
      have ha : a < v.length := by omega
      simp only [e0, e1, Bool.false_eq_true, if_false, getO_lt ha, bind_some']
      by_cases h5 : v[a].1 = 5
      · have e5 : (v[a].1 != 5) = false := by simp [h5]
        simp only [e5, Bool.false_eq_true, if_false]
        cases hs : shapedD v with
        | false => exact .inl fun key => ⟨by simp only [Bool.not_false, F.cbor_Member_K1, if_true], by simp only [Bool.not_false, F.ref30_Member_K1, if_true]⟩
        | true =>
          obtain ⟨d, t, k, hd, he⟩ := at_shaped hs ha
          obtain ⟨d', u, rfl, hk, hk0, hk2⟩ := map_kids he ha h5
          obtain ⟨K, hKv⟩ : ∃ K : Nat, v[a].2.2.2 = ((2 * K : Nat) : Int) := ⟨(v[a].2.2.2 / 2).toNat, by omega⟩
          rw [hKv, Int.toNat_natCast] at hk
          have hkd := hK v[a] (List.getElem_mem ha)
          have hdiv : wI (Int.tdiv v[a].2.2.2 2) = (K : Int) := by
            rw [hKv, Int.tdiv_eq_ediv_of_nonneg (by omega), wI_in (by omega) (by omega)]; omega
          have ha1 : wI ((a : Int) + 1) = ((a + 1 : Nat) : Int) := by rw [wI_in (by omega) (by omega)]; simp
          refine .inr ⟨a, d', K, k, u, ha, rfl, h5, hKv, by omega, hk, fun key => ⟨?_, ?_⟩⟩
          · simp only [Bool.not_true, F.cbor_Member_K1, Bool.false_eq_true, if_false, getO_lt ha, bind_some', ha1]
            exact member_cbor (by omega) (by omega) key v[a] K hdiv (by omega) K 0 (a + 1) none u k hk (by omega) (by omega)
          · simp only [Bool.not_true, F.ref30_Member_K1, Bool.false_eq_true, if_false, ha1]
            exact member_ref (by omega) (by omega) key a ha K hdiv (by omega) K 0 (a + 1) none u k hk (by omega) (by omega)
      · have e5 : (v[a].1 != 5) = true := by simpa using h5
        refine .inl fun key => ⟨by simp only [e5, if_true, F.cbor_Member_K1], ?_⟩
        simp only [e5, F.ref30_Member_K1, if_true, ite_self]
theorem keys_at (p : Int) : ∃ q1 q4 : Int, F.cbor_Member v p [(0, 1, [], 0)] = some q1 ∧ F.ref31_value v p 1 = some q1 ∧ F.cbor_Member v p [(0, 4, [], 0)] = some q4 ∧ F.ref31_value v p 4 = some q4 ∧
    (q1 = -1 ∨ ∃ k : Nat, k < v.length ∧ q1 = (k : Int)) ∧ (q4 = -1 ∨ ∃ k : Nat, k < v.length ∧ q4 = (k : Int)) ∧
    ∀ (a : Nat) (ha : a < v.length), p = (a : Int) → (v[a].1 ≠ 5 → q1 = -1 ∧ q4 = -1) ∧ (0 ≤ q1 → 2 ≤ v[a].2.2.2) ∧ (0 ≤ q1 → 0 ≤ q4 → 4 ≤ v[a].2.2.2) := by
  rcases Member_form hw hK hU p with h | ⟨a, d, K, k, u, ha, rfl, h5, hKv, hd, hk, h⟩
  · refine ⟨-1, -1, (h _).1, by unfold F.ref31_value; rw [(h _).2]; rfl, (h _).1, by unfold F.ref31_value; rw [(h _).2]; rfl, .inl rfl, .inl rfl, fun a ha _ => ⟨fun _ => ⟨rfl, rfl⟩, fun h => ?_, fun h => ?_⟩⟩ <;> omega
  · have at' : ∀ key, memE v (encD d v) key K (a + 1) = -1 ∨ ∃ k : Nat, k < v.length ∧ memE v (encD d v) key K (a + 1) = (k : Int) := fun key => by
      rcases memE_at key K (a + 1) none u k hk with h | ⟨k', t', j', h, h'⟩
      · exact .inl h
      · exact .inr ⟨k', (at_item h').1, h⟩
    refine ⟨_, _, (h _).1, by unfold F.ref31_value; rw [(h _).2]; rfl, (h _).1, by unfold F.ref31_value; rw [(h _).2]; rfl, at' _, at' _, fun a' ha' e => ?_⟩
    have : a' = a := by omega
    subst this
    refine ⟨fun hn => absurd h5 hn, fun h1 => ?_, fun h1 h4 => ?_⟩
    · have := memE_pos h1; omega
    · have := memE_two (by simp) h1 h4; omega
def dat (v : List It) (q : Int) : List UInt8 := if 0 ≤ q then ((v[q.toNat]?).map (·.2.2.1)).getD [] else []
theorem kid_eq (p q4 : Int) (h : F.ref31_value v p 4 = some q4) (hq : q4 = -1 ∨ ∃ k : Nat, k < v.length ∧ q4 = (k : Int)) :
    ∃ ok, F.ref31_kid v p = some (dat v q4, decide (0 ≤ q4), ok) ∧ (q4 = -1 → ok = true) ∧ ∀ (k : Nat) (hk : k < v.length), q4 = (k : Int) → ok = (v[k].1 == 2) := by
  unfold F.ref31_kid
  rw [h, bind_some']
  rcases hq with rfl | ⟨k, hk, rfl⟩
  · refine ⟨true, rfl, fun _ => rfl, fun k hk e => ?_⟩; omega
  · have e1 : decide ((k : Int) < 0) = false := decide_eq_false (by omega)
    have e2 : decide ((0 : Int) ≤ (k : Int)) = true := decide_eq_true (by omega)
    have ed : dat v (k : Int) = v[k].2.2.1 := by simp [dat, hk]
    refine ⟨v[k].1 == 2, by simp only [e1, Bool.false_eq_true, if_false, getO_lt hk, bind_some', e2, ed], fun h => by omega, fun k' hk' e => ?_⟩
    have : k' = k := by omega
    subst this; rfl
theorem header_eq (a : Nat) (ha : a < v.length) (hv : v.length ≤ 100000000000) : ∃ q1 q4 ok, F.ref31_value v (a : Int) 1 = some q1 ∧ F.ref31_kid v (a : Int) = some (dat v q4, decide (0 ≤ q4), ok) ∧
    F.cose_header v (a : Int) = some (q1, q4, (v[a].2.2.2 == 2 * ((if 0 ≤ q1 then 1 else 0) + (if 0 ≤ q4 then 1 else 0))) && ok) ∧
    (q1 = -1 ∨ ∃ k : Nat, k < v.length ∧ q1 = (k : Int)) ∧ (q4 = -1 ∨ ∃ k : Nat, k < v.length ∧ q4 = (k : Int)) ∧
    (v[a].1 ≠ 5 → q1 = -1 ∧ q4 = -1) ∧ (0 ≤ q1 → 2 ≤ v[a].2.2.2) ∧ (0 ≤ q1 → 0 ≤ q4 → 4 ≤ v[a].2.2.2) := by
  obtain ⟨q1, q4, c1, r1, c4, r4, h1, h4, hA⟩ := keys_at hw hK hU (a : Int)
  obtain ⟨ok, hk, ok1, ok2⟩ := kid_eq hw hK hU (a : Int) q4 r4 h4
  refine ⟨q1, q4, ok, r1, hk, ?_, h1, h4, hA a ha rfl⟩
  have s1 : ∀ n : Int, 0 ≤ n → n ≤ 5 → F.signet_cose_header_1 1 v (a : Int) n = some (q1, (a : Int), n + (if 0 ≤ q1 then 1 else 0)) := fun n hn hn2 => by
    unfold F.signet_cose_header_1
    rw [c1, bind_some']
    by_cases h : 0 ≤ q1
    · simp only [h, decide_true, if_true, F.signet_cose_header_1_K1, wI_in (show -9223372036854775808 ≤ n + 1 by omega) (by omega)]
    · simp only [h, decide_false, Bool.false_eq_true, if_false, F.signet_cose_header_1_K1, Int.add_zero]
  have s4 : ∀ n : Int, 0 ≤ n → n ≤ 5 → F.signet_cose_header_1 4 v (a : Int) n = some (q4, (a : Int), n + (if 0 ≤ q4 then 1 else 0)) := fun n hn hn2 => by
    unfold F.signet_cose_header_1
    rw [c4, bind_some']
    by_cases h : 0 ≤ q4
    · simp only [h, decide_true, if_true, F.signet_cose_header_1_K1, wI_in (show -9223372036854775808 ≤ n + 1 by omega) (by omega)]
    · simp only [h, decide_false, Bool.false_eq_true, if_false, F.signet_cose_header_1_K1, Int.add_zero]
  unfold F.cose_header
  have hn1 : 0 ≤ (0 : Int) + (if 0 ≤ q1 then 1 else 0) ∧ (0 : Int) + (if 0 ≤ q1 then 1 else 0) ≤ 1 := by split <;> omega
  have hn4 : 0 ≤ (0 : Int) + (if 0 ≤ q1 then 1 else 0) + (if 0 ≤ q4 then 1 else 0) ∧ (0 : Int) + (if 0 ≤ q1 then 1 else 0) + (if 0 ≤ q4 then 1 else 0) ≤ 2 := by
    split <;> split <;> omega
  rw [s1 0 (by omega) (by omega), bind_some', s4 _ hn1.1 (by omega), bind_some']
  simp only [getO_lt ha, bind_some']
  rw [wI_in (by omega) (by omega), Int.zero_add]
  cases he : (v[a].2.2.2 == 2 * ((if 0 ≤ q1 then 1 else 0) + (if 0 ≤ q4 then 1 else 0)))
  · simp
  · simp only [if_true, Bool.true_and]
    rcases h4 with rfl | ⟨k, hk4, rfl⟩
    · rw [ok1 rfl]; rfl
    · have e1 : decide ((k : Int) < 0) = false := decide_eq_false (by omega)
      simp only [e1, Bool.false_eq_true, if_false, getO_lt hk4, bind_some', ok2 k hk4 rfl]
end
theorem arr_kids {v : List It} {d a k : Nat} {t : List UInt8} (h : encD d v a = some (t, k)) (ha : a < v.length) (h4 : v[a].1 = 4) :
    ∃ d' u, d = d' + 1 ∧ kidsE (encD d' v) false v[a].2.2.2.toNat true none (a + 1) = some (u, k) := by
  have key : ∀ sub, itemE v sub a = some (t, k) → ∃ wr u, sub = some wr ∧ kidsE wr false v[a].2.2.2.toNat true none (a + 1) = some (u, k) := by
    intro sub h1
    unfold itemE at h1
    rw [List.getElem?_eq_getElem ha] at h1
    simp only at h1
    split at h1
    · cases h1
    · rw [if_pos (by omega)] at h1
      cases sub with
      | none => cases h1
      | some wr =>
        simp only at h1
        have e5 : (v[a].1 == 5) = false := by rw [h4]; rfl
        rw [e5] at h1
        split at h1
        · cases h1
        · rename_i t1 j1 hk
          cases h1
          exact ⟨wr, t1, rfl, hk⟩
  cases d with
  | zero => obtain ⟨wr, u, h1, _⟩ := key none h; cases h1
  | succ d =>
    obtain ⟨wr, u, h1, h2⟩ := key _ h
    cases h1
    exact ⟨d, u, rfl, h2⟩
theorem bytes_next {v : List It} {d a k : Nat} {t : List UInt8} (h : encD d v a = some (t, k)) (ha : a < v.length) (h2 : v[a].1 = 2) : k = a + 1 := by
  have key : ∀ sub, itemE v sub a = some (t, k) → k = a + 1 := by
    intro sub h1
    unfold itemE at h1
    rw [List.getElem?_eq_getElem ha] at h1
    simp only at h1
    split at h1
    · cases h1
    · rw [if_neg (by omega)] at h1
      cases h1; rfl
  cases d with
  | zero => exact key none h
  | succ d => exact key _ h
theorem kidsE_step {rec : Wr} {r : Nat} {b : Bool} {l : Option (List UInt8)} {i k : Nat} {u : List UInt8} (h : kidsE rec false (r + 1) b l i = some (u, k)) : ∃ t j u', rec i = some (t, j) ∧ kidsE rec false r (!b) l j = some (u', k) := by
  simp only [kidsE, Bool.false_and, Bool.false_eq_true, if_false] at h
  cases h1 : rec i with
  | none => rw [h1] at h; cases h
  | some a =>
    obtain ⟨t, j⟩ := a
    rw [h1] at h
    simp only at h
    cases h2 : kidsE rec false r (!b) l j with
    | none => rw [h2] at h; cases h
    | some e =>
      obtain ⟨u', k'⟩ := e
      rw [h2] at h
      cases h
      exact ⟨t, j, u', rfl, h2⟩
theorem msg_kids {v : List It} (hs : shapedD v = true) {a : Nat} (ha : a < v.length) (h4 : v[a].1 = 4) (hn : v[a].2.2.2 = 4) (h1 : a + 1 < v.length) (h2 : v[a + 1].1 = 2) :
    ∃ d t j, d ≤ 32 ∧ encD d v (a + 2) = some (t, j) ∧ j + 1 < v.length ∧ a + 2 < v.length := by
  obtain ⟨d, t, k, hd, he⟩ := at_shaped hs ha
  obtain ⟨d', u, rfl, hk⟩ := arr_kids he ha h4
  rw [hn] at hk
  obtain ⟨t1, j1, u1, e1, k1⟩ := kidsE_step (r := 3) hk
  obtain ⟨t2, j2, u2, e2, k2⟩ := kidsE_step (r := 2) k1
  obtain ⟨t3, j3, u3, e3, k3⟩ := kidsE_step (r := 1) k2
  obtain ⟨t4, j4, u4, e4, k4⟩ := kidsE_step (r := 0) k3
  have := bytes_next e1 h1 h2
  subst this
  have p2 := encD_put v d' _ _ _ e2
  have p3 := encD_put v d' _ _ _ e3
  have p4 := encD_put v d' _ _ _ e4
  exact ⟨d', t2, j2, by omega, e2, by omega, by omega⟩
theorem arr_room {v : List It} (hs : shapedD v = true) {a : Nat} (ha : a < v.length) : 0 ≤ v[a].2.2.2 ∧ a + 1 + v[a].2.2.2.toNat ≤ v.length ∧ fitE v[a] := by
  obtain ⟨d, t, k, hd, he⟩ := at_shaped hs ha
  obtain ⟨_, b, c, e, f⟩ := at_item he
  exact ⟨c, by omega, b⟩
section
variable {v : List It} (hw : wt v ≤ 4000000000000) (hK : Kd v) (hU : ∀ x ∈ v, x.2.2.1.length ≤ 2000000)
include hw hK hU
theorem Behind_at (hs : shapedD v = true) {a d j : Nat} {t : List UInt8} (ha : a < v.length) (hd : d ≤ 32) (he : encD d v a = some (t, j)) : F.cbor_Behind v (a : Int) = some (j : Int) ∧ F.ref30_Behind v (a : Int) = some (j : Int) := by
  have hl := wt_len v
  unfold F.cbor_Behind F.ref30_Behind
  rw [shaped_eq hw hK, refShaped_eq hw hK hU]
  simp only [bind_some', hs, Bool.not_true, Bool.false_eq_true, if_false]
  have e0 : decide ((a : Int) < 0) = false := decide_eq_false (by omega)
  have : decide ((v.length : Int) ≤ (a : Int)) = false := by simp; omega
  exact ⟨by simp only [e0, this, Bool.false_eq_true, if_false, F.cbor_Behind_K1, behind_cbor (by omega) hd he, bind_some'], by simp only [e0, this, Bool.false_eq_true, if_false, F.ref30_Behind_K1, behind_ref (by omega) hd he, bind_some']⟩
end
end Go.Gk.Cb
end

section
set_option linter.unusedSimpArgs false
set_option linter.unusedVariables false
namespace Go.Gk.Cb
open Go Go.Gk
theorem alg_both (x : It) : F.ref31_alg x.1 x.2.1 x.2.2.1 x.2.2.2 = (if x.1 = 1 then F.cose_algorithm x.2.1 else some 0) := by
  unfold F.ref31_alg F.cose_algorithm
  by_cases h1 : x.1 = 1
  · have e1 : (x.1 != 1) = false := by simp [h1]
    rw [e1, if_pos h1]
    simp only [Bool.false_eq_true, if_false]
    have key : ∀ k : Fin 300, ∀ n : UInt64, n = UInt64.ofNat k.val → True := fun _ _ _ => trivial
    by_cases a1 : x.2.1 = 6
    · simp [a1]
    by_cases a2 : x.2.1 = 34
    · simp [a2]
    by_cases a3 : x.2.1 = 7
    · simp [a3]
    by_cases a4 : x.2.1 = 36
    · rw [a4]; decide
    by_cases a5 : x.2.1 = 37
    · rw [a5]; decide
    by_cases a6 : x.2.1 = 38
    · rw [a6]; decide
    by_cases a7 : x.2.1 = 256
    · rw [a7]; decide
    by_cases a8 : x.2.1 = 257
    · rw [a8]; decide
    by_cases a9 : x.2.1 = 258
    · rw [a9]; decide
    simp [a1, a2, a3, a4, a5, a6, a7, a8, a9, F.ref31_alg_K1, F.ref31_alg_K2]
  · have e1 : (x.1 != 1) = true := by simpa using h1
    rw [e1, if_neg h1, if_pos rfl]
theorem saidS_eq (m : Nat) (hm : m < 8) (b : List UInt8) (hb : b.length ≤ 100000000) : F.ref31_said (m : Int) b = some (hd m (UInt64.ofNat b.length) ++ b) := by
  have := hd_len9 m (UInt64.ofNat b.length)
  unfold F.ref31_said
  rw [ofInt64, refHead_eq m hm, bind_some', sadO_ok (by omega), bind_some']
theorem ofInt8 (n : Nat) : UInt8.ofInt (n : Int) = UInt8.ofNat n := by
  apply UInt8.toNat_inj.1
  simp [UInt8.ofInt]
  omega
theorem byte_at (n k : Nat) (hk : k ≤ 64) (hn : n < 4294967296) : UInt8.ofInt (iShr (n : Int) k) = (shr64 (UInt64.ofNat n) k).toUInt8 := by
  have e : iShr (n : Int) k = ((n / 2 ^ k : Nat) : Int) := by
    unfold iShr
    have h2 : (2 : Int) ^ k = ((2 ^ k : Nat) : Int) := by simp
    rw [Nat.min_eq_left hk, h2, Int.fdiv_eq_ediv_of_nonneg _ (Int.natCast_nonneg _), Int.natCast_ediv]
  rw [e, ofInt8]
  apply UInt8.toNat_inj.1
  have hle : n / 2 ^ k ≤ n := Nat.div_le_self _ _
  unfold shr64
  rw [Nat.min_eq_left hk]
  simp only [UInt8.toNat_ofNat', UInt64.toNat_toUInt8, UInt64.toNat_ofNat']
  rw [Nat.mod_eq_of_lt (show n < 2 ^ 64 by omega), Nat.mod_eq_of_lt (show n / 2 ^ k < 2 ^ 64 by omega)]
theorem byte_0 (n : Nat) (hn : n < 4294967296) : UInt8.ofInt (n : Int) = (shr64 (UInt64.ofNat n) 0).toUInt8 := by
  have := byte_at n 0 (by omega) hn
  rwa [show iShr (n : Int) 0 = (n : Int) by simp [iShr]] at this
theorem lf0 : ∀ (m : Fin 8) (k : Fin 24), (shl8 (UInt8.ofNat m.val) 5) ||| (UInt8.ofInt (k.val : Int)) = UInt8.ofNat (32 * m.val) + (UInt64.ofNat k.val).toUInt8 := by decide
theorem lf1 : ∀ (m : Fin 8), (shl8 (UInt8.ofNat m.val) 5) ||| 24 = UInt8.ofNat (32 * m.val + 24 + 0) := by decide
theorem lf2 : ∀ (m : Fin 8), (shl8 (UInt8.ofNat m.val) 5) ||| 25 = UInt8.ofNat (32 * m.val + 24 + 1) := by decide
theorem lf3 : ∀ (m : Fin 8), (shl8 (UInt8.ofNat m.val) 5) ||| 26 = UInt8.ofNat (32 * m.val + 24 + 2) := by decide
theorem u64_lt (n c : Nat) (hn : n < 4294967296) (hc : c < 18446744073709551616) : (UInt64.ofNat n < UInt64.ofNat c) = (n < c) := by
  rw [UInt64.lt_iff_toNat_lt, UInt64.toNat_ofNat', UInt64.toNat_ofNat', Nat.mod_eq_of_lt (by omega), Nat.mod_eq_of_lt (by omega)]
theorem laid_eq (m : Fin 8) (out b : List UInt8) (ho : out.length ≤ 1000000000) (hb : b.length < 1000000000) : F.cose_laid out (UInt8.ofNat m.val) b = some (out ++ hd m.val (UInt64.ofNat b.length) ++ b) := by
  have w24 := u64_lt b.length 24 (by omega) (by omega)
  have w256 := u64_lt b.length 256 (by omega) (by omega)
  have w65536 := u64_lt b.length 65536 (by omega) (by omega)
  have w32 := u64_lt b.length 4294967296 (by omega) (by omega)
  have c : ∀ (h : List UInt8), h.length ≤ 10 → obind (apO 1 out h) (fun x => F.cose_laid_K1 b x) = some (out ++ h ++ b) := fun h hh => by
    rw [apO_ok (by simp; omega), bind_some']
    show obind (apO 1 (out ++ h) b) (fun x => some x) = _
    rw [apO_ok (by simp; omega), bind_some']
  unfold F.cose_laid hd wd
  by_cases h1 : b.length < 24
  · have e1 : decide ((b.length : Int) < 24) = true := decide_eq_true (by omega)
    rw [e1, if_pos rfl, c _ (by simp)]
    have : (UInt64.ofNat b.length < 24) := by rw [show (24 : UInt64) = UInt64.ofNat 24 from rfl, w24]; exact h1
    rw [if_pos this, if_pos rfl, lf0 m ⟨b.length, h1⟩]
  have e1 : decide ((b.length : Int) < 24) = false := decide_eq_false (by omega)
  have n1 : ¬ (UInt64.ofNat b.length < 24) := by rw [show (24 : UInt64) = UInt64.ofNat 24 from rfl, w24]; exact h1
  rw [e1, if_neg n1]
  simp only [Bool.false_eq_true, if_false]
  by_cases h2 : b.length < 256
  · have e2 : decide ((b.length : Int) < 256) = true := decide_eq_true (by omega)
    rw [e2, if_pos rfl, c _ (by simp)]
    have : (UInt64.ofNat b.length < 256) := by rw [show (256 : UInt64) = UInt64.ofNat 256 from rfl, w256]; exact h2
    rw [if_pos this, if_neg (by omega), lf1 m, byte_0 _ (by omega)]
    rfl
  have e2 : decide ((b.length : Int) < 256) = false := decide_eq_false (by omega)
  have n2 : ¬ (UInt64.ofNat b.length < 256) := by rw [show (256 : UInt64) = UInt64.ofNat 256 from rfl, w256]; exact h2
  rw [e2, if_neg n2]
  simp only [Bool.false_eq_true, if_false]
  by_cases h3 : b.length < 65536
  · have e3 : decide ((b.length : Int) < 65536) = true := decide_eq_true (by omega)
    rw [e3, if_pos rfl, c _ (by simp)]
    have : (UInt64.ofNat b.length < 65536) := by rw [show (65536 : UInt64) = UInt64.ofNat 65536 from rfl, w65536]; exact h3
    rw [if_pos this, if_neg (by omega), lf2 m, byte_0 _ (by omega), byte_at _ 8 (by omega) (by omega)]
    rfl
  have e3 : decide ((b.length : Int) < 65536) = false := decide_eq_false (by omega)
  have n3 : ¬ (UInt64.ofNat b.length < 65536) := by rw [show (65536 : UInt64) = UInt64.ofNat 65536 from rfl, w65536]; exact h3
  rw [e3, if_neg n3]
  simp only [Bool.false_eq_true, if_false]
  have : (UInt64.ofNat b.length < 4294967296) := by rw [show (4294967296 : UInt64) = UInt64.ofNat 4294967296 from rfl, w32]; omega
  rw [c _ (by simp), if_pos this, if_neg (by omega), lf3 m, byte_0 _ (by omega), byte_at _ 8 (by omega) (by omega), byte_at _ 16 (by omega) (by omega), byte_at _ 24 (by omega) (by omega)]
  rfl
end Go.Gk.Cb
end

section
set_option linter.unusedSimpArgs false
set_option linter.unusedVariables false
set_option linter.unusedSectionVars false
namespace Go.Gk.Cb
open Go Go.Gk
theorem w0 : wI (2 * 0) = 0 := by decide
theorem w2 : wI (2 * 1) = 2 := by decide
def RB (x : Option (Int × List UInt8 × List UInt8 × List UInt8 × List UInt8 × Int)) (y : Option (List UInt8 × List UInt8 × List UInt8 × List UInt8 × Int × Int)) : Prop :=
  ∃ alg p k z s st, x = some (alg, p, k, z, s, st) ∧ y = some (p, k, z, s, alg, st) ∧ p.length ≤ 2000000 ∧ k.length ≤ 2000000 ∧ z.length ≤ 2000000 ∧ s.length ≤ 2000000
theorem RB.fail (e : Int) : RB (some (0, [], [], [], [], e)) (some ([], [], [], [], 0, e)) := ⟨0, [], [], [], [], e, rfl, rfl, by simp, by simp, by simp, by simp⟩
theorem fin_both {v' : List It} {x26 x27 x28 : It} {n1 n2 : Int} {k1 : Nat} (hk1 : k1 < v'.length) {q4 : Int} {ok : Bool} {K : List UInt8} (hK : K.length ≤ 2000000) (h26 : x26.2.2.1.length ≤ 2000000) (h27 : x27.2.2.1.length ≤ 2000000) (h28 : x28.2.2.1.length ≤ 2000000)
    {x37 x46 : List UInt8 × Bool × Bool} (hKK : x37.1 ++ x46.1 = K) :
    RB (F.cose_read_K5 (v', n1, n2) ((k1 : Int), q4, ok) x26 x27 x28 K) (F.ref31_split_K7 x26 x27 x28 (v', n1, n2) (k1 : Int) x37 x46 false) := by
  have hlen : x37.1.length + x46.1.length ≤ 9223372036854775807 := by
    have := congrArg List.length hKK
    simp at this; omega
  simp only [F.cose_read_K5, F.ref31_split_K7, Bool.false_eq_true, if_false, sadO_ok hlen, bind_some', getO_lt hk1, hKK]
  rw [alg_both]
  by_cases h1 : v'[k1].1 = 1
  · have e1 : (v'[k1].1 == 1) = true := by simpa using h1
    rw [e1, if_pos rfl, if_pos h1]
    obtain ⟨r, hr⟩ : ∃ r, F.cose_algorithm v'[k1].2.1 = some r := ⟨_, rfl⟩
    rw [hr, bind_some', bind_some']
    unfold F.cose_read_K6
    by_cases h0 : r = 0
    · subst h0; exact RB.fail 111
    · have e0 : (r == 0) = false := by simpa using h0
      simp only [e0, Bool.false_eq_true, if_false]
      exact ⟨_, _, _, _, _, _, rfl, rfl, h26, hK, h27, h28⟩
  · have e1 : (v'[k1].1 == 1) = false := by simpa using h1
    rw [e1, if_neg h1, bind_some']
    exact RB.fail 111
theorem dat_neg (v : List It) : dat v (-1) = [] := rfl
theorem dat_at {v : List It} {k : Nat} (hk : k < v.length) : dat v (k : Int) = v[k].2.2.1 := by simp [dat, hk]
section
variable {v : List It} (hw : wt v ≤ 4000000000000) (hK : Kd v) (hU : ∀ x ∈ v, x.2.2.1.length ≤ 2000000)
include hw hK hU
theorem K3_both (a j : Nat) (h1 : a + 1 < v.length) (h2 : a + 2 < v.length) (hj : j + 1 < v.length) (hv : v.length ≤ 100000000000) :
    RB (F.cose_read_K3 v (a : Int) (j : Int) false) (F.ref31_split_K3 v (a : Int) (j : Int) false) := by
  have a1 : wI ((a : Int) + 1) = ((a + 1 : Nat) : Int) := by rw [wI_in (by omega) (by omega)]; simp
  have a2 : wI ((a : Int) + 2) = ((a + 2 : Nat) : Int) := by rw [wI_in (by omega) (by omega)]; simp
  have j1 : wI ((j : Int) + 1) = ((j + 1 : Nat) : Int) := by rw [wI_in (by omega) (by omega)]; simp
  have u1 := hU v[a + 1] (List.getElem_mem h1)
  have u2 := hU v[j] (List.getElem_mem (by omega))
  have u3 := hU v[j + 1] (List.getElem_mem hj)
  simp only [F.cose_read_K3, F.ref31_split_K3, Bool.false_eq_true, if_false, a1, a2, j1, getO_lt h1, getO_lt (show j < v.length by omega), getO_lt hj, bind_some']
  rw [parse_eq, refParse' _ (by omega)]
  simp only [bind_some']
  rcases parse_cases v[a + 1].2.2.1 with ⟨v', hbl, hbv, hpb⟩ | ⟨e, p, he, hp0, hp1, hpb⟩
  · have hN := fine_of hbl hbv
    have hm := (itemD_moves v[a + 1].2.2.1 32).1 _ _ _ hbv
    rw [hpb]
    have h0 : 0 < v'.length := by omega
    have g0 : getO v' (0 : Int) = some v'[0] := getO_lt (i := 0) h0
    have hU' : ∀ x ∈ v', x.2.2.1.length ≤ 2000000 := fun x hx => by have := hN.2.2 x hx; omega
    obtain ⟨q1, q4, ok, r1, r4, hh, p1, p4, hn5, hc1, hc4⟩ := header_eq hN.wt hN.kd hU' 0 h0 (by omega)
    obtain ⟨s1, s4, ok', t1, t4, hh', p1', p4', hn5', hc1', hc4'⟩ := header_eq hw hK hU (a + 2) h2 hv
    rw [show ((0 : Nat) : Int) = 0 from rfl] at r1 r4 hh
    simp only [bne_self_eq_false, Bool.false_eq_true, if_false, g0, bind_some', r1, r4, hh, hh']
    have kd : ∀ q, (q = -1 ∨ ∃ k : Nat, k < v'.length ∧ q = (k : Int)) → (dat v' q).length ≤ 2000000 := by
      rintro q (rfl | ⟨k, hk, rfl⟩)
      · simp [dat_neg]
      · rw [dat_at hk]; exact hU' _ (List.getElem_mem hk)
    have kd2 : ∀ q, (q = -1 ∨ ∃ k : Nat, k < v.length ∧ q = (k : Int)) → (dat v q).length ≤ 2000000 := by
      rintro q (rfl | ⟨k, hk, rfl⟩)
      · simp [dat_neg]
      · rw [dat_at hk]; exact hU _ (List.getElem_mem hk)
    have neg1 : decide ((0 : Int) ≤ -1) = false := rfl
    have neg2 : decide ((-1 : Int) < 0) = true := rfl
    have pos1 : ∀ k : Nat, decide ((0 : Int) ≤ (k : Int)) = true := fun k => decide_eq_true (by omega)
    have pos2 : ∀ k : Nat, decide ((k : Int) < 0) = false := fun k => decide_eq_false (by omega)
    have ref221 : ∀ (x : List UInt8 × Bool × Bool) (k : Int), F.ref31_split_K5 v (a : Int) x v[a + 1] v[j] v[j + 1] (v', 0, 0) k true = some ([], [], [], [], 0, 221) := fun _ _ => rfl
    by_cases h5 : v'[0].1 = 5
    · have e5 : (v'[0].1 != 5) = false := by simp [h5]
      simp only [e5, Bool.false_eq_true, if_false]
      rcases p1 with rfl | ⟨k1, hk1, rfl⟩
      · -- no algorithm
        have L : ∀ A B : Bool, (if (!A) = true then F.cose_read_K4 v (v', 0, 0) (-1, q4, A) (s1, s4, B) v[a + 1] v[j] v[j + 1] true else if (!B) = true then F.cose_read_K4 v (v', 0, 0) (-1, q4, A) (s1, s4, B) v[a + 1] v[j] v[j + 1] true else F.cose_read_K4 v (v', 0, 0) (-1, q4, A) (s1, s4, B) v[a + 1] v[j] v[j + 1] true) = some (0, [], [], [], [], 221) := by
          intro A B
          cases A <;> cases B <;> rfl
        simp only [neg2, if_true, L]
        cases hq : decide (0 ≤ q4) <;> simp only [Bool.false_eq_true, if_false, if_true, F.ref31_split_K4, neg2, F.ref31_split_K5] <;> exact RB.fail 221
      · have c2 := hc1 (by omega)
        have if1 : (if (0 : Int) ≤ (k1 : Int) then (1 : Int) else 0) = 1 := if_pos (by omega)
        have g2 : getO v ((a + 2 : Nat) : Int) = some v[a + 2] := getO_lt h2
        have W0 : wI 0 = 0 := rfl
        have W2 : wI 2 = 2 := rfl
        have W4 : wI 4 = 4 := rfl
        have M0 : (2 : Int) * 0 = 0 := rfl
        have M2 : (2 : Int) * 1 = 2 := rfl
        have M4 : (2 : Int) * 2 = 4 := rfl
        have m1 : ¬ (0 : Int) ≤ -1 := by omega
        have m2 : ∀ k : Nat, (0 : Int) ≤ (k : Int) := fun k => by omega
        have z0 : (0 : Int) + 0 = 0 := rfl
        have z1 : (1 : Int) + 0 = 1 := rfl
        have z2 : (0 : Int) + 1 = 1 := rfl
        have z3 : (1 : Int) + 1 = 2 := rfl
        have K7t : ∀ x y, F.ref31_split_K7 v[a + 1] v[j] v[j + 1] (v', 0, 0) (k1 : Int) x y true = some ([], [], [], [], 0, 221) := fun _ _ => rfl
        generalize hP : ((a + 2 : Nat) : Int) = P at *
        rcases p1' with rfl | ⟨k1', hk1', rfl⟩
        · rcases p4 with rfl | ⟨k4, hk4, rfl⟩ <;> rcases p4' with rfl | ⟨k4', hk4', rfl⟩ <;>
            simp only [neg1, neg2, pos1, pos2, m1, m2, if_true, if_false, Bool.false_eq_true, z0, z1, z2, z3, M0, M2, M4, F.ref31_split_K4, F.ref31_split_K5, F.ref31_split_K6, W0, W2, W4, t4, g0, g2, a2, bind_some', Bool.not_true, Bool.not_false, bne, F.cose_read_K4, Bool.and_eq_true, Bool.not_eq_true', decide_false, decide_true, K7t]
          · generalize (v'[0].2.2.2 == 2) = A
            generalize (v[a + 2].2.2.2 == 0) = B
            cases A <;> cases ok <;> cases B <;> cases ok' <;> simp only [Bool.false_and, Bool.true_and, Bool.and_false, Bool.and_true, if_true, if_false, Bool.false_eq_true, Bool.true_eq_false] <;> first | exact RB.fail 221 | skip
            exact fin_both hk1 (by simp) u1 u2 u3 (by simp [dat_neg])
          · generalize (v'[0].2.2.2 == 2) = A
            generalize (v[a + 2].2.2.2 == 2) = B
            cases A <;> cases ok <;> cases B <;> cases ok' <;> simp only [Bool.false_and, Bool.true_and, Bool.and_false, Bool.and_true, if_true, if_false, Bool.false_eq_true, Bool.true_eq_false] <;> first | exact RB.fail 221 | skip
            rw [getO_lt hk4', bind_some']
            exact fin_both hk1 (hU _ (List.getElem_mem hk4')) u1 u2 u3 (by simp [dat_neg, dat_at hk4'])
          · generalize (v'[0].2.2.2 == 4) = A
            generalize (v[a + 2].2.2.2 == 0) = B
            cases A <;> cases ok <;> cases B <;> cases ok' <;> simp only [Bool.false_and, Bool.true_and, Bool.and_false, Bool.and_true, if_true, if_false, Bool.false_eq_true, Bool.true_eq_false] <;> first | exact RB.fail 221 | skip
            rw [getO_lt hk4, bind_some']
            exact fin_both hk1 (hU' _ (List.getElem_mem hk4)) u1 u2 u3 (by simp [dat_neg, dat_at hk4])
          · generalize (v'[0].2.2.2 == 4) = A
            generalize (v[a + 2].2.2.2 == 2) = B
            cases A <;> cases ok <;> cases B <;> cases ok' <;> simp only [Bool.false_and, Bool.true_and, Bool.and_false, Bool.and_true, if_true, if_false, Bool.false_eq_true, Bool.true_eq_false] <;> first | exact RB.fail 221 | skip
        · have cc := hc1' (by omega)
          rcases p4 with rfl | ⟨k4, hk4, rfl⟩ <;> rcases p4' with rfl | ⟨k4', hk4', rfl⟩
          · have E : (v[a + 2].2.2.2 == 0) = false := by skip; simp; omega
            simp only [neg1, neg2, pos1, pos2, m1, m2, if_true, if_false, Bool.false_eq_true, z0, z1, z2, z3, M0, M2, M4, F.ref31_split_K4, F.ref31_split_K5, F.ref31_split_K6, W0, W2, W4, t4, g0, g2, a2, bind_some', Bool.not_true, Bool.not_false, bne, F.cose_read_K4, Bool.and_eq_true, Bool.not_eq_true', decide_false, decide_true, K7t, E]
            generalize (v'[0].2.2.2 == 2) = A
            generalize (v[a + 2].2.2.2 == 2) = B
            cases A <;> cases ok <;> cases B <;> cases ok' <;> simp only [Bool.false_and, Bool.true_and, Bool.and_false, Bool.and_true, if_true, if_false, Bool.false_eq_true, Bool.true_eq_false] <;> exact RB.fail 221
          · have E : (v[a + 2].2.2.2 == 2) = false := by have := hc4' (by omega) (by omega); simp; omega
            simp only [neg1, neg2, pos1, pos2, m1, m2, if_true, if_false, Bool.false_eq_true, z0, z1, z2, z3, M0, M2, M4, F.ref31_split_K4, F.ref31_split_K5, F.ref31_split_K6, W0, W2, W4, t4, g0, g2, a2, bind_some', Bool.not_true, Bool.not_false, bne, F.cose_read_K4, Bool.and_eq_true, Bool.not_eq_true', decide_false, decide_true, K7t, E]
            generalize (v'[0].2.2.2 == 2) = A
            generalize (v[a + 2].2.2.2 == 4) = B
            cases A <;> cases ok <;> cases B <;> cases ok' <;> simp only [Bool.false_and, Bool.true_and, Bool.and_false, Bool.and_true, if_true, if_false, Bool.false_eq_true, Bool.true_eq_false] <;> exact RB.fail 221
          · have E : (v[a + 2].2.2.2 == 0) = false := by skip; simp; omega
            simp only [neg1, neg2, pos1, pos2, m1, m2, if_true, if_false, Bool.false_eq_true, z0, z1, z2, z3, M0, M2, M4, F.ref31_split_K4, F.ref31_split_K5, F.ref31_split_K6, W0, W2, W4, t4, g0, g2, a2, bind_some', Bool.not_true, Bool.not_false, bne, F.cose_read_K4, Bool.and_eq_true, Bool.not_eq_true', decide_false, decide_true, K7t, E]
            generalize (v'[0].2.2.2 == 4) = A
            generalize (v[a + 2].2.2.2 == 2) = B
            cases A <;> cases ok <;> cases B <;> cases ok' <;> simp only [Bool.false_and, Bool.true_and, Bool.and_false, Bool.and_true, if_true, if_false, Bool.false_eq_true, Bool.true_eq_false] <;> exact RB.fail 221
          · have E : (v[a + 2].2.2.2 == 2) = false := by have := hc4' (by omega) (by omega); simp; omega
            simp only [neg1, neg2, pos1, pos2, m1, m2, if_true, if_false, Bool.false_eq_true, z0, z1, z2, z3, M0, M2, M4, F.ref31_split_K4, F.ref31_split_K5, F.ref31_split_K6, W0, W2, W4, t4, g0, g2, a2, bind_some', Bool.not_true, Bool.not_false, bne, F.cose_read_K4, Bool.and_eq_true, Bool.not_eq_true', decide_false, decide_true, K7t, E]
            generalize (v'[0].2.2.2 == 4) = A
            generalize (v[a + 2].2.2.2 == 4) = B
            cases A <;> cases ok <;> cases B <;> cases ok' <;> simp only [Bool.false_and, Bool.true_and, Bool.and_false, Bool.and_true, if_true, if_false, Bool.false_eq_true, Bool.true_eq_false] <;> exact RB.fail 221
    · have e5 : (v'[0].1 != 5) = true := by simpa using h5
      obtain ⟨rfl, rfl⟩ := hn5 h5
      simp only [e5, if_true, neg1, Bool.false_eq_true, if_false, F.ref31_split_K4, neg2, F.ref31_split_K5]
      exact RB.fail 221
  · have e1 : (e != 0) = true := by simpa using he
    rw [hpb]
    simp only [e1, if_true]
    exact RB.fail e
theorem K1_both (hs : shapedD v = true) (a : Nat) (ha : a < v.length) (hv : v.length ≤ 100000000000) : RB (F.cose_read_K1 v (a : Int)) (F.ref31_split_K1 v (a : Int)) := by
  have a1 : wI ((a : Int) + 1) = ((a + 1 : Nat) : Int) := by rw [wI_in (by omega) (by omega)]; simp
  have a2 : wI ((a : Int) + 2) = ((a + 2 : Nat) : Int) := by rw [wI_in (by omega) (by omega)]; simp
  obtain ⟨r0, r1, r2⟩ := arr_room hs ha
  have T : RB (F.cose_read_K2 v (a : Int) true) (F.ref31_split_K2 v (a : Int) true) := RB.fail 221
  have T3 : ∀ j : Int, RB (F.cose_read_K3 v (a : Int) j true) (F.ref31_split_K3 v (a : Int) j true) := fun _ => RB.fail 221
  unfold F.cose_read_K1 F.ref31_split_K1
  simp only [getO_lt ha, bind_some']
  by_cases h4 : v[a].1 = 4
  · have e4 : (v[a].1 != 4) = false := by simp [h4]
    simp only [e4, Bool.false_eq_true, if_false]
    by_cases hn : v[a].2.2.2 = 4
    · have en : (v[a].2.2.2 != 4) = false := by simp [hn]
      have l1 : a + 1 < v.length := by omega
      have l2 : a + 2 < v.length := by omega
      simp only [en, Bool.false_eq_true, if_false, a1, a2, getO_lt l1, getO_lt l2, bind_some']
      by_cases h2 : v[a + 1].1 = 2
      · have e2 : (v[a + 1].1 != 2) = false := by simp [h2]
        simp only [e2, Bool.false_eq_true, if_false]
        by_cases h5 : v[a + 2].1 = 5
        · have e5 : (v[a + 2].1 != 5) = false := by simp [h5]
          rw [e5]
          obtain ⟨d, t, j, hd, he, hj, _⟩ := msg_kids hs ha h4 hn l1 h2
          obtain ⟨b1, b2⟩ := Behind_at hw hK hU hs l2 hd he
          have j1 : wI ((j : Int) + 1) = ((j + 1 : Nat) : Int) := by rw [wI_in (by omega) (by omega)]; simp
          simp only [F.cose_read_K2, F.ref31_split_K2, Bool.false_eq_true, if_false, a2, b1, b2, bind_some', getO_lt (show j < v.length by omega), j1, getO_lt hj]
          cases (v[j].1 != 2)
          · simp only [Bool.false_eq_true, if_false]
            cases (v[j + 1].1 != 2)
            · exact K3_both hw hK hU a j l1 l2 hj hv
            · exact T3 _
          · simp only [if_true]
            exact T3 _
        · have e5 : (v[a + 2].1 != 5) = true := by simpa using h5
          rw [e5]; exact T
      · have e2 : (v[a + 1].1 != 2) = true := by simpa using h2
        simp only [e2, if_true]; exact T
    · have en : (v[a].2.2.2 != 4) = true := by simpa using hn
      simp only [en, if_true]; exact T
  · have e4 : (v[a].1 != 4) = true := by simpa using h4
    simp only [e4, if_true]; exact T
theorem read_both (hs : shapedD v = true) (h0 : 0 < v.length) (hv : v.length ≤ 100000000000) : RB (F.cose_read v) (F.ref31_split v) := by
  have g0 : getO v (0 : Int) = some v[0] := getO_lt (i := 0) h0
  have z : RB (F.cose_read_K1 v 0) (F.ref31_split_K1 v 0) := K1_both hw hK hU hs 0 h0 hv
  unfold F.cose_read F.ref31_split
  simp only [g0, bind_some']
  by_cases h6 : v[0].1 = 6
  · have e6 : (v[0].1 == 6) = true := by simpa using h6
    obtain ⟨r0, r1, r2⟩ := arr_room hs h0
    have c1 : v[0].2.2.2 = 1 := by
      unfold fitE at r2
      rw [h6] at r2
      simp at r2
      exact r2.2
    simp only [e6, if_true]
    cases (v[0].2.1 == 18)
    · exact z
    · exact K1_both hw hK hU hs 1 (by omega) hv
  · have e6 : (v[0].1 == 6) = false := by simpa using h6
    simp only [e6, Bool.false_eq_true, if_false]
    exact z
end
theorem Parse_both (b c : List UInt8) (hb : b.length ≤ 200000000000000) (hc : c.length ≤ 200000000000000) : ∃ R, F.cose_Parse b c = some R ∧ F.ref31_Parse b c = some R ∧
    R.2.1.length ≤ 2000000 ∧ R.2.2.1.length ≤ 2000000 ∧ R.2.2.2.1.length ≤ 2000000 ∧ R.2.2.2.2.1.length ≤ 10000000 := by
  have F1 : ∀ e : Int, ∃ R, (obind (F.signet_cose_Parse_1 e) fun x => some (x.1, x.2.1, x.2.2.1, x.2.2.2.1, x.2.2.2.2.1, x.2.2.2.2.2)) = some R ∧ some ((0 : Int), ([] : List UInt8), ([] : List UInt8), ([] : List UInt8), ([] : List UInt8), e) = some R ∧
      R.2.1.length ≤ 2000000 ∧ R.2.2.1.length ≤ 2000000 ∧ R.2.2.2.1.length ≤ 2000000 ∧ R.2.2.2.2.1.length ≤ 10000000 := fun e => ⟨_, rfl, rfl, by simp, by simp, by simp, by simp⟩
  unfold F.cose_Parse F.ref31_Parse
  by_cases h1 : 65536 < b.length
  · have e1 : decide ((65536 : Int) < (b.length : Int)) = true := decide_eq_true (by omega)
    simp only [e1, if_true, F.cose_Parse_K1, F.ref31_Parse_K1]
    exact F1 10
  have e1 : decide ((65536 : Int) < (b.length : Int)) = false := decide_eq_false (by omega)
  simp only [e1, Bool.false_eq_true, if_false]
  by_cases h2 : 65536 < c.length
  · have e2 : decide ((65536 : Int) < (c.length : Int)) = true := decide_eq_true (by omega)
    simp only [e2, if_true, F.cose_Parse_K1, F.ref31_Parse_K1]
    exact F1 10
  have e2 : decide ((65536 : Int) < (c.length : Int)) = false := decide_eq_false (by omega)
  simp only [e2, Bool.false_eq_true, if_false, F.cose_Parse_K1, F.ref31_Parse_K1]
  rw [parse_eq, refParse' b (by omega)]
  simp only [bind_some']
  rcases parse_cases b with ⟨v, hbl, hbv, hpb⟩ | ⟨e, p, he, hp0, hp1, hpb⟩
  · have hN := fine_of hbl hbv
    have hm := (itemD_moves b 32).1 _ _ _ hbv
    rw [hpb]
    have h0 : 0 < v.length := by omega
    have hU : ∀ x ∈ v, x.2.2.1.length ≤ 2000000 := fun x hx => by have := hN.2.2 x hx; omega
    simp only [bne_self_eq_false, Bool.false_eq_true, if_false]
    obtain ⟨alg, p, k, z, s, st, hx, hy, lp, lk, lz, ls⟩ := read_both hN.wt hN.kd hU (print_parsed hbl hbv).2 h0 (by omega)
    rw [hx, hy]
    simp only [bind_some']
    cases hst : (st != 0)
    · simp only [Bool.false_eq_true, if_false]
      have hS : (hd 3 (UInt64.ofNat 10)).length ≤ 9 := hd_len9 _ _
      have hP := hd_len9 2 (UInt64.ofNat p.length)
      have hC := hd_len9 2 (UInt64.ofNat c.length)
      have hZ := hd_len9 2 (UInt64.ofNat z.length)
      have q0 : F.ref30_Head 4 4 = some [132] := by
        have := refHead_eq 4 (by omega) 4
        rw [show ((4 : Nat) : Int) = 4 from rfl] at this
        rw [this]; rfl
      have q1 : F.ref31_said 3 [83, 105, 103, 110, 97, 116, 117, 114, 101, 49] = some (hd 3 (UInt64.ofNat 10) ++ [83, 105, 103, 110, 97, 116, 117, 114, 101, 49]) := saidS_eq 3 (by omega) _ (by simp)
      have q2 : ∀ x : List UInt8, x.length ≤ 100000000 → F.ref31_said 2 x = some (hd 2 (UInt64.ofNat x.length) ++ x) := fun x hx => saidS_eq 2 (by omega) x hx
      have m1 : F.cose_laid [132] 3 [83, 105, 103, 110, 97, 116, 117, 114, 101, 49] = some ([132] ++ hd 3 (UInt64.ofNat 10) ++ [83, 105, 103, 110, 97, 116, 117, 114, 101, 49]) := laid_eq 3 _ _ (by simp) (by simp)
      have m2 : ∀ o x : List UInt8, o.length ≤ 1000000000 → x.length < 1000000000 → F.cose_laid o 2 x = some (o ++ hd 2 (UInt64.ofNat x.length) ++ x) := fun o x ho hx => laid_eq 2 o x ho hx
      rw [m1, bind_some', m2 _ p (by simp only [List.length_append, List.length_cons, List.length_nil]; omega) (by omega), bind_some', m2 _ c (by simp only [List.length_append, List.length_cons, List.length_nil]; omega) (by omega), bind_some', m2 _ z (by simp only [List.length_append, List.length_cons, List.length_nil]; omega) (by omega), bind_some']
      rw [q0, bind_some', q1, bind_some', sadO_ok (by simp only [List.length_append, List.length_cons, List.length_nil]; omega), bind_some', q2 p (by omega), bind_some', sadO_ok (by simp only [List.length_append, List.length_cons, List.length_nil]; omega), bind_some', q2 c (by omega), bind_some', sadO_ok (by simp only [List.length_append, List.length_cons, List.length_nil]; omega), bind_some', q2 z (by omega), bind_some', sadO_ok (by simp only [List.length_append, List.length_cons, List.length_nil]; omega), bind_some']
      rw [grd_true _ (show k.length ≤ 225000000000000 by omega), grd_true _ (show z.length ≤ 225000000000000 by omega), grd_true _ (show s.length ≤ 225000000000000 by omega)]
      refine ⟨_, rfl, ?_, lk, lz, ls, ?_⟩
      · simp only [List.append_assoc]
      · simp only [List.length_append, List.length_cons, List.length_nil]; omega
    · simp only [if_true]
      exact F1 st
  · have e1 : (e != 0) = true := by simpa using he
    rw [hpb]
    simp only [e1, if_true]
    exact F1 e
end Go.Gk.Cb
end

section
set_option linter.unusedSimpArgs false
set_option linter.unusedVariables false
namespace Go.Gk.Cb
open Go Go.Gk
end Go.Gk.Cb
end

section
set_option linter.unusedSimpArgs false
set_option linter.unusedVariables false
namespace Go.Gk.Cb
open Go Go.Gk
theorem a1 : parseD [210, 132, 67, 161, 1, 38, 161, 4, 65, 107, 65, 97, 64] = ([(6, 18, [], 1), (4, 0, [], 4), (2, 0, [161, 1, 38], 0), (5, 0, [], 2), (0, 4, [], 0), (2, 0, [107], 0), (2, 0, [97], 0), (2, 0, [], 0)], 0, 0) := by kernel_rfl
theorem a2 : parseD [161, 1, 38] = ([(5, 0, [], 2), (0, 1, [], 0), (1, 6, [], 0)], 0, 0) := by kernel_rfl
theorem a3 : parseD [132, 67, 161, 1, 36, 160, 64, 64] = ([(4, 0, [], 4), (2, 0, [161, 1, 36], 0), (5, 0, [], 0), (2, 0, [], 0), (2, 0, [], 0)], 0, 0) := by kernel_rfl
theorem a4 : parseD [161, 1, 36] = ([(5, 0, [], 2), (0, 1, [], 0), (1, 4, [], 0)], 0, 0) := by kernel_rfl
theorem a5 : parseD [162, 1, 97, 105, 4, 10] = ([(5, 0, [], 4), (0, 1, [], 0), (3, 0, [105], 0), (0, 4, [], 0), (0, 10, [], 0)], 0, 0) := by kernel_rfl
theorem a6 : parseD [128] = ([(4, 0, [], 0)], 0, 0) := by kernel_rfl
theorem mem_ev {v : List It} (hw : wt v ≤ 4000000000000) (hK : Kd v) (hs : shapedD v = true) {a K : Nat} (ha : a < v.length) (h5 : v[a].1 = 5) (hn : v[a].2.2.2 = ((2 * K : Nat) : Int))
    (hk0 : (kidsE (encD 8 v) true (2 * K) true none (a + 1)).isSome = true) (hK2 : K ≤ 1000000) (key : List It) : F.cbor_Member v (a : Int) key = some (memE v (encD 8 v) key K (a + 1)) := by
  have hl := wt_len v
  obtain ⟨⟨u, k⟩, hk⟩ := Option.isSome_iff_exists.1 hk0
  unfold F.cbor_Member
  rw [shaped_eq hw hK, bind_some']
  have e0 : decide ((a : Int) < 0) = false := decide_eq_false (by omega)
  have e1 : decide ((v.length : Int) ≤ (a : Int)) = false := by simp; omega
  have e5 : (v[a].1 != 5) = false := by simp [h5]
  have hdiv : wI (Int.tdiv v[a].2.2.2 2) = (K : Int) := by
    rw [hn, Int.tdiv_eq_ediv_of_nonneg (by omega), wI_in (by omega) (by omega)]; omega
  have ha1 : wI ((a : Int) + 1) = ((a + 1 : Nat) : Int) := by rw [wI_in (by omega) (by omega)]; simp
  simp only [e0, e1, Bool.false_eq_true, if_false, getO_lt ha, bind_some', e5, hs, Bool.not_true, F.cbor_Member_K1, ha1]
  exact member_cbor (by omega) (by omega) key v[a] K hdiv (by omega) K 0 (a + 1) none u k hk (by omega) (by omega)
def V1 : List It := [(6, 18, [], 1), (4, 0, [], 4), (2, 0, [161, 1, 38], 0), (5, 0, [], 2), (0, 4, [], 0), (2, 0, [107], 0), (2, 0, [97], 0), (2, 0, [], 0)]
def V2 : List It := [(5, 0, [], 2), (0, 1, [], 0), (1, 6, [], 0)]
def V3 : List It := [(4, 0, [], 4), (2, 0, [161, 1, 36], 0), (5, 0, [], 0), (2, 0, [], 0), (2, 0, [], 0)]
def V4 : List It := [(5, 0, [], 2), (0, 1, [], 0), (1, 4, [], 0)]
def V5 : List It := [(5, 0, [], 4), (0, 1, [], 0), (3, 0, [105], 0), (0, 4, [], 0), (0, 10, [], 0)]
theorem kd_of {v : List It} (h : v.all (fun x => decide (x.2.2.2 ≤ 1000)) = true) : Kd v := fun x hx => by
  have := List.all_eq_true.1 h x hx
  have : x.2.2.2 ≤ 1000 := by simpa using this
  omega
theorem mV1 (key : List It) : F.cbor_Member V1 3 key = some (memE V1 (encD 8 V1) key 1 4) := mem_ev (v := V1) (a := 3) (K := 1) (by decide) (kd_of (by decide)) (by kernel_rfl) (by decide) rfl rfl (by kernel_rfl) (by omega) key
theorem mV2 (key : List It) : F.cbor_Member V2 0 key = some (memE V2 (encD 8 V2) key 1 1) := mem_ev (v := V2) (a := 0) (K := 1) (by decide) (kd_of (by decide)) (by kernel_rfl) (by decide) rfl rfl (by kernel_rfl) (by omega) key
theorem mV3 (key : List It) : F.cbor_Member V3 2 key = some (memE V3 (encD 8 V3) key 0 3) := mem_ev (v := V3) (a := 2) (K := 0) (by decide) (kd_of (by decide)) (by kernel_rfl) (by decide) rfl rfl (by kernel_rfl) (by omega) key
theorem mV4 (key : List It) : F.cbor_Member V4 0 key = some (memE V4 (encD 8 V4) key 1 1) := mem_ev (v := V4) (a := 0) (K := 1) (by decide) (kd_of (by decide)) (by kernel_rfl) (by decide) rfl rfl (by kernel_rfl) (by omega) key
theorem mV5 (key : List It) : F.cbor_Member V5 0 key = some (memE V5 (encD 8 V5) key 2 1) := mem_ev (v := V5) (a := 0) (K := 2) (by decide) (kd_of (by decide)) (by kernel_rfl) (by decide) rfl rfl (by kernel_rfl) (by omega) key
theorem V1_1 : memE V1 (encD 8 V1) [(0, 1, [], 0)] 1 4 = -1 := by kernel_rfl
theorem V1_4 : memE V1 (encD 8 V1) [(0, 4, [], 0)] 1 4 = 5 := by kernel_rfl
theorem V2_1 : memE V2 (encD 8 V2) [(0, 1, [], 0)] 1 1 = 2 := by kernel_rfl
theorem V2_4 : memE V2 (encD 8 V2) [(0, 4, [], 0)] 1 1 = -1 := by kernel_rfl
theorem V3_n (key : List It) : memE V3 (encD 8 V3) key 0 3 = -1 := rfl
theorem V4_1 : memE V4 (encD 8 V4) [(0, 1, [], 0)] 1 1 = 2 := by kernel_rfl
theorem V4_4 : memE V4 (encD 8 V4) [(0, 4, [], 0)] 1 1 = -1 := by kernel_rfl
theorem V5_1 : memE V5 (encD 8 V5) [(0, 1, [], 0)] 2 1 = 2 := by kernel_rfl
theorem V5_2 : memE V5 (encD 8 V5) [(0, 2, [], 0)] 2 1 = -1 := by kernel_rfl
theorem V5_3 : memE V5 (encD 8 V5) [(0, 3, [], 0)] 2 1 = -1 := by kernel_rfl
theorem V5_4 : memE V5 (encD 8 V5) [(0, 4, [], 0)] 2 1 = 4 := by kernel_rfl
theorem V5_5 : memE V5 (encD 8 V5) [(0, 5, [], 0)] 2 1 = -1 := by kernel_rfl
theorem V5_6 : memE V5 (encD 8 V5) [(0, 6, [], 0)] 2 1 = -1 := by kernel_rfl
theorem V5_7 : memE V5 (encD 8 V5) [(0, 7, [], 0)] 2 1 = -1 := by kernel_rfl
theorem bV1 : F.cbor_Behind V1 3 = some 6 := by
  have hK : Kd V1 := kd_of (by decide)
  have he : ∃ t, encD 8 V1 3 = some (t, 6) := by
    have : (encD 8 V1 3).map Prod.snd = some 6 := by kernel_rfl
    obtain ⟨⟨t, j⟩, h1, h2⟩ := Option.map_eq_some_iff.1 this
    simp only at h2; subst h2; exact ⟨t, h1⟩
  obtain ⟨t, he⟩ := he
  exact (Behind_at (v := V1) (by decide) hK (by decide) (by kernel_rfl) (a := 3) (by decide) (by omega) he).1
theorem bV3 : F.cbor_Behind V3 2 = some 3 := by
  have hK : Kd V3 := kd_of (by decide)
  have he : ∃ t, encD 8 V3 2 = some (t, 3) := by
    have : (encD 8 V3 2).map Prod.snd = some 3 := by kernel_rfl
    obtain ⟨⟨t, j⟩, h1, h2⟩ := Option.map_eq_some_iff.1 this
    simp only at h2; subst h2; exact ⟨t, h1⟩
  obtain ⟨t, he⟩ := he
  exact (Behind_at (v := V3) (by decide) hK (by decide) (by kernel_rfl) (a := 2) (by decide) (by omega) he).1
theorem hV1 : F.cose_header V1 3 = some (-1, 5, true) := by
  have s1 : F.signet_cose_header_1 1 V1 3 0 = some (-1, 3, 0) := by unfold F.signet_cose_header_1; rw [mV1, V1_1]; rfl
  have s4 : F.signet_cose_header_1 4 V1 3 0 = some (5, 3, 1) := by unfold F.signet_cose_header_1; rw [mV1, V1_4]; rfl
  unfold F.cose_header
  rw [s1, bind_some', s4, bind_some']
  rfl
theorem hV2 : F.cose_header V2 0 = some (2, -1, true) := by
  have s1 : F.signet_cose_header_1 1 V2 0 0 = some (2, 0, 1) := by unfold F.signet_cose_header_1; rw [mV2, V2_1]; rfl
  have s4 : F.signet_cose_header_1 4 V2 0 1 = some (-1, 0, 1) := by unfold F.signet_cose_header_1; rw [mV2, V2_4]; rfl
  unfold F.cose_header
  rw [s1, bind_some', s4, bind_some']
  rfl
theorem hV3 : F.cose_header V3 2 = some (-1, -1, true) := by
  have s1 : F.signet_cose_header_1 1 V3 2 0 = some (-1, 2, 0) := by unfold F.signet_cose_header_1; rw [mV3, V3_n]; rfl
  have s4 : F.signet_cose_header_1 4 V3 2 0 = some (-1, 2, 0) := by unfold F.signet_cose_header_1; rw [mV3, V3_n]; rfl
  unfold F.cose_header
  rw [s1, bind_some', s4, bind_some']
  rfl
theorem hV4 : F.cose_header V4 0 = some (2, -1, true) := by
  have s1 : F.signet_cose_header_1 1 V4 0 0 = some (2, 0, 1) := by unfold F.signet_cose_header_1; rw [mV4, V4_1]; rfl
  have s4 : F.signet_cose_header_1 4 V4 0 1 = some (-1, 0, 1) := by unfold F.signet_cose_header_1; rw [mV4, V4_4]; rfl
  unfold F.cose_header
  rw [s1, bind_some', s4, bind_some']
  rfl
theorem rV1 : F.cose_read V1 = some (10, [161, 1, 38], [107], [97], [], 0) := by
  have k3 : F.cose_read_K3 V1 1 6 false = some (10, [161, 1, 38], [107], [97], [], 0) := by
    have g : getO V1 (wI ((1 : Int) + 1) : Int) = some (2, 0, [161, 1, 38], 0) := rfl
    unfold F.cose_read_K3
    simp only [Bool.false_eq_true, if_false]
    rw [g, bind_some', show getO V1 (6 : Int) = some (2, 0, [97], 0) from rfl, bind_some', show getO V1 (wI ((6 : Int) + 1)) = some (2, 0, [], 0) from rfl, bind_some']
    simp only
    rw [parse_eq, a2, bind_some']
    show (if ((0 : Int) != 0) = true then _ else obind (getO V2 (0 : Int)) _) = _
    rw [if_neg (by decide), show getO V2 (0 : Int) = some (5, 0, [], 2) from rfl, bind_some']
    show (if ((5 : Int) != 5) = true then _ else obind (F.cose_header V2 0) _) = _
    rw [if_neg (by decide), hV2, bind_some', show wI ((1 : Int) + 2) = 3 from rfl, hV1, bind_some']
    rfl
  unfold F.cose_read
  rw [show getO V1 (0 : Int) = some (6, 18, [], 1) from rfl, bind_some']
  show F.cose_read_K1 V1 1 = _
  show F.cose_read_K2 V1 1 false = _
  unfold F.cose_read_K2
  simp only [Bool.false_eq_true, if_false]
  rw [show wI ((1 : Int) + 2) = 3 from rfl, bV1, bind_some']
  exact k3
theorem rV3 : F.cose_read V3 = some (0, [], [], [], [], 111) := by
  have k3 : F.cose_read_K3 V3 0 3 false = some (0, [], [], [], [], 111) := by
    have g : getO V3 (wI ((0 : Int) + 1) : Int) = some (2, 0, [161, 1, 36], 0) := rfl
    unfold F.cose_read_K3
    simp only [Bool.false_eq_true, if_false]
    rw [g, bind_some', show getO V3 (3 : Int) = some (2, 0, [], 0) from rfl, bind_some', show getO V3 (wI ((3 : Int) + 1)) = some (2, 0, [], 0) from rfl, bind_some']
    simp only
    rw [parse_eq, a4, bind_some']
    show (if ((0 : Int) != 0) = true then _ else obind (getO V4 (0 : Int)) _) = _
    rw [if_neg (by decide), show getO V4 (0 : Int) = some (5, 0, [], 2) from rfl, bind_some']
    show (if ((5 : Int) != 5) = true then _ else obind (F.cose_header V4 0) _) = _
    rw [if_neg (by decide), hV4, bind_some', show wI ((0 : Int) + 2) = 2 from rfl, hV3, bind_some']
    rfl
  unfold F.cose_read
  rw [show getO V3 (0 : Int) = some (4, 0, [], 4) from rfl, bind_some']
  show F.cose_read_K1 V3 0 = _
  show F.cose_read_K2 V3 0 false = _
  unfold F.cose_read_K2
  simp only [Bool.false_eq_true, if_false]
  rw [show wI ((0 : Int) + 2) = 2 from rfl, bV3, bind_some']
  exact k3
def X1 : List UInt8 := [132, 106, 83, 105, 103, 110, 97, 116, 117, 114, 101, 49, 67, 161, 1, 38, 64, 65, 97]
theorem P1_eq : F.cose_Parse [210, 132, 67, 161, 1, 38, 161, 4, 65, 107, 65, 97, 64] [] = some (10, [107], [97], [], X1, 0) := by
  unfold F.cose_Parse
  show F.cose_Parse_K1 _ _ false = _
  unfold F.cose_Parse_K1
  simp only [Bool.false_eq_true, if_false]
  rw [parse_eq, a1, bind_some']
  show (if ((0 : Int) != 0) = true then _ else obind (F.cose_read V1) _) = _
  rw [if_neg (by decide), rV1, bind_some']
  have m1 : F.cose_laid [132] 3 [83, 105, 103, 110, 97, 116, 117, 114, 101, 49] = some ([132] ++ hd 3 (UInt64.ofNat 10) ++ [83, 105, 103, 110, 97, 116, 117, 114, 101, 49]) := laid_eq 3 _ _ (by simp) (by simp)
  have m2 : ∀ o x : List UInt8, o.length ≤ 1000000000 → x.length < 1000000000 → F.cose_laid o 2 x = some (o ++ hd 2 (UInt64.ofNat x.length) ++ x) := fun o x ho hx => laid_eq 2 o x ho hx
  have e1 : ([132] ++ hd 3 (UInt64.ofNat 10) ++ [83, 105, 103, 110, 97, 116, 117, 114, 101, 49] : List UInt8) = [132, 106, 83, 105, 103, 110, 97, 116, 117, 114, 101, 49] := by kernel_rfl
  have e2 : ([132, 106, 83, 105, 103, 110, 97, 116, 117, 114, 101, 49] ++ hd 2 (UInt64.ofNat [161, 1, (38 : UInt8)].length) ++ [161, 1, 38] : List UInt8) = [132, 106, 83, 105, 103, 110, 97, 116, 117, 114, 101, 49, 67, 161, 1, 38] := by kernel_rfl
  have e3 : ([132, 106, 83, 105, 103, 110, 97, 116, 117, 114, 101, 49, 67, 161, 1, 38] ++ hd 2 (UInt64.ofNat ([] : List UInt8).length) ++ [] : List UInt8) = [132, 106, 83, 105, 103, 110, 97, 116, 117, 114, 101, 49, 67, 161, 1, 38, 64] := by kernel_rfl
  have e4 : ([132, 106, 83, 105, 103, 110, 97, 116, 117, 114, 101, 49, 67, 161, 1, 38, 64] ++ hd 2 (UInt64.ofNat [(97 : UInt8)].length) ++ [97] : List UInt8) = X1 := by kernel_rfl
  rw [if_neg (by decide), m1, e1, bind_some', m2 _ _ (by simp) (by simp), e2, bind_some', m2 _ _ (by simp) (by simp), e3, bind_some', m2 _ _ (by simp) (by simp), e4, bind_some']
  rw [grd_true _ (by simp), grd_true _ (by simp), grd_true _ (by simp)]
theorem P2_eq : F.cose_Parse [132, 67, 161, 1, 36, 160, 64, 64] [] = some (0, [], [], [], [], 111) := by
  unfold F.cose_Parse
  show F.cose_Parse_K1 _ _ false = _
  unfold F.cose_Parse_K1
  simp only [Bool.false_eq_true, if_false]
  rw [parse_eq, a3, bind_some']
  show (if ((0 : Int) != 0) = true then _ else obind (F.cose_read V3) _) = _
  rw [if_neg (by decide), rV3, bind_some']
  rfl
theorem C1 (n : UInt64) (a : List Int) (bad : Bool) : F.signet_cose_Claims_1 n a V5 bad = obind (some (memE V5 (encD 8 V5) [(0, n, [], 0)] 2 1)) fun x_5 =>
    if bad = true then F.signet_cose_Claims_1_K1 x_5 true else if (decide ((0 : Int) ≤ x_5)) = true then obind (getO V5 (x_5 : Int)) fun x_8 => obind (F.slices_Contains_int_int a x_8.1) fun x_9 => F.signet_cose_Claims_1_K1 x_5 (!x_9) else F.signet_cose_Claims_1_K1 x_5 false := by
  unfold F.signet_cose_Claims_1
  rw [mV5]
theorem C2_none (n : UInt64) (m : Int) (h : memE V5 (encD 8 V5) [(0, n, [], 0)] 2 1 = -1) : F.signet_cose_Claims_2 n m V5 false = some ([], false, false) := by
  unfold F.signet_cose_Claims_2
  rw [C1, h]; rfl
theorem C3_none (n : UInt64) (h : memE V5 (encD 8 V5) [(0, n, [], 0)] 2 1 = -1) : F.signet_cose_Claims_3 n false V5 = some (false, 0, false) := by
  unfold F.signet_cose_Claims_3
  rw [C1, h]; rfl
theorem C2_1 : F.signet_cose_Claims_2 1 3 V5 false = some ([105], true, false) := by
  unfold F.signet_cose_Claims_2
  rw [C1, V5_1, bind_some', if_neg (by decide), if_pos (by decide), show getO V5 (2 : Int) = some (3, 0, [105], 0) from rfl, bind_some', contains1]
  rfl
theorem C3_4 : F.signet_cose_Claims_3 4 false V5 = some (true, 10, false) := by
  unfold F.signet_cose_Claims_3
  rw [C1, V5_4, bind_some', if_neg (by decide), if_pos (by decide), show getO V5 (4 : Int) = some (0, 10, [], 0) from rfl, bind_some', contains2]
  rfl
theorem C1_3 : F.signet_cose_Claims_1 3 [3, 4] V5 false = some (-1, false) := by rw [C1, V5_3]; rfl
theorem Cl1_eq : F.cose_Claims [162, 1, 97, 105, 4, 10] = some ([], [105], true, [], false, [], false, [], false, true, 10, false, 0, false, 0, 0) := by
  unfold F.cose_Claims
  rw [parse_eq, a5, bind_some']
  show (if ((0 : Int) != 0) = true then _ else obind (getO V5 (0 : Int)) _) = _
  rw [if_neg (by decide), show getO V5 (0 : Int) = some (5, 0, [], 4) from rfl, bind_some']
  show (if ((5 : Int) != 5) = true then _ else obind (F.signet_cose_Claims_2 1 3 V5 false) _) = _
  rw [if_neg (by decide), C2_1, bind_some']
  show obind (F.signet_cose_Claims_2 2 3 V5 false) _ = _
  rw [C2_none 2 3 V5_2, bind_some']
  show obind (F.signet_cose_Claims_3 4 false V5) _ = _
  rw [C3_4, bind_some']
  show obind (F.signet_cose_Claims_3 5 false V5) _ = _
  rw [C3_none 5 V5_5, bind_some']
  show obind (F.signet_cose_Claims_3 6 false V5) _ = _
  rw [C3_none 6 V5_6, bind_some']
  show obind (F.signet_cose_Claims_2 7 2 V5 false) _ = _
  rw [C2_none 7 2 V5_7, bind_some']
  show obind (F.signet_cose_Claims_1 3 [3, 4] V5 false) _ = _
  rw [C1_3, bind_some']
  rfl
theorem Cl2_eq : F.cose_Claims [128] = some ([], [], false, [], false, [], false, [], false, false, 0, false, 0, false, 0, 130) := by
  unfold F.cose_Claims
  rw [parse_eq, a6, bind_some']
  rfl
theorem awake31_eq : F.law31_awake = some true := by
  unfold F.law31_awake
  rw [P1_eq, bind_some']
  show (if ((0 : Int) != 0) = true then _ else _) = _
  rw [if_neg (by decide)]
  show (if ((10 : Int) != 10) = true then _ else _) = _
  rw [if_neg (by decide), same31]
  show obind (F.law30_sameBytes [107] [107]) _ = _
  rw [sameB_eq _ _ (by simp), bind_some', if_neg (by decide)]
  show obind (F.law30_sameBytes [97] [97]) _ = _
  rw [sameB_eq _ _ (by simp), bind_some', if_neg (by decide)]
  show F.law31_awake_K1 false = _
  unfold F.law31_awake_K1
  rw [if_neg (by decide), P2_eq, bind_some', Cl1_eq, bind_some', Cl2_eq]
  rfl
end Go.Gk.Cb
end

section
set_option linter.unusedSimpArgs false
set_option linter.unusedVariables false
set_option linter.unusedSectionVars false
namespace Go.Gk.Cb
open Go Go.Gk
end Go.Gk.Cb
end

section
set_option linter.unusedSimpArgs false
set_option linter.unusedVariables false
set_option linter.unusedSectionVars false
namespace Go.Gk.Cb
open Go Go.Gk
section
variable {v : List It} (hw : wt v ≤ 4000000000000) (hK : Kd v) (hU : ∀ x ∈ v, x.2.2.1.length ≤ 2000000)
include hw hK hU
end
end Go.Gk.Cb
end

section
set_option linter.unusedSimpArgs false
set_option linter.unusedVariables false
set_option linter.unusedSectionVars false
namespace Go.Gk.Cb
open Go Go.Gk
def msgD (p z s k : List UInt8) (kid tag : Bool) : List It :=
  (if tag then [(6, 18, [], 1)] else []) ++ ([(4, 0, [], 4), (2, 0, p, 0)] ++ ((if kid then [(5, 0, [], 2), (0, 4, [], 0), (2, 0, k, 0)] else [(5, 0, [], 0)]) ++ [(2, 0, z, 0), (2, 0, s, 0)]))
section
variable {v : List It} (hw : wt v ≤ 4000000000000) (hK : Kd v) (hU : ∀ x ∈ v, x.2.2.1.length ≤ 2000000)
include hw hK hU
end
end Go.Gk.Cb
end

section
set_option linter.unusedSimpArgs false
set_option linter.unusedVariables false
set_option linter.unusedSectionVars false
namespace Go.Gk.Cb
open Go Go.Gk
end Go.Gk.Cb
end

section
set_option linter.unusedSimpArgs false
set_option linter.unusedVariables false
set_option linter.unusedSectionVars false
namespace Go.Gk.Cb
open Go Go.Gk
abbrev CL := List (Int × (List UInt8) × (List UInt8) × Bool × Int × Int) × List UInt8 × Bool × List UInt8 × Bool × List (List UInt8) × Bool × List UInt8 × Bool × Bool × Int × Bool × Int × Bool × Int × Int
section
variable {v : List It} (hw : wt v ≤ 4000000000000) (hK : Kd v) (hU : ∀ x ∈ v, x.2.2.1.length ≤ 2000000)
include hw hK hU
end
end Go.Gk.Cb
end

section
set_option linter.unusedSimpArgs false
set_option linter.unusedVariables false
namespace Go.Gk.Cb
open Go Go.Gk
theorem sameClaims_self (a : CL) (h0 : a.1 = []) (h : a.2.2.2.2.2.1.length < 9223372036854775807) : F.law31_sameClaims a.1 a.2.1 a.2.2.1 a.2.2.2.1 a.2.2.2.2.1 a.2.2.2.2.2.1 a.2.2.2.2.2.2.1 a.2.2.2.2.2.2.2.1 a.2.2.2.2.2.2.2.2.1 a.2.2.2.2.2.2.2.2.2.1 a.2.2.2.2.2.2.2.2.2.2.1 a.2.2.2.2.2.2.2.2.2.2.2.1 a.2.2.2.2.2.2.2.2.2.2.2.2.1 a.2.2.2.2.2.2.2.2.2.2.2.2.2.1 a.2.2.2.2.2.2.2.2.2.2.2.2.2.2.1
    a.1 a.2.1 a.2.2.1 a.2.2.2.1 a.2.2.2.2.1 a.2.2.2.2.2.1 a.2.2.2.2.2.2.1 a.2.2.2.2.2.2.2.1 a.2.2.2.2.2.2.2.2.1 a.2.2.2.2.2.2.2.2.2.1 a.2.2.2.2.2.2.2.2.2.2.1 a.2.2.2.2.2.2.2.2.2.2.2.1 a.2.2.2.2.2.2.2.2.2.2.2.2.1 a.2.2.2.2.2.2.2.2.2.2.2.2.2.1 a.2.2.2.2.2.2.2.2.2.2.2.2.2.2.1 = some true := by
  simp only [F.law31_sameClaims, beq_self_eq_true, if_true, sameT_eq _ _ h, bind_some', h0, List.length_nil]
  rfl
theorem CoseSpares_true (b c p : List UInt8) (hb : b.length ≤ 140737488351232) (hc : c.length ≤ 140737488351232) (hp : p.length ≤ 140737488351232) : F.law31_CoseSpares b c p = some true := by
  obtain ⟨R, h1, _, h3, h4, h5, h6⟩ := Parse_both b c (by omega) (by omega)
  obtain ⟨T, t1, _, t2, t3⟩ := Claims_both p (by omega)
  have S1 : F.law31_same R.2.1 R.2.1 = some true := by rw [same31, sameB_eq _ _ (by omega), beq_self_eq_true]
  have S2 : F.law31_same R.2.2.1 R.2.2.1 = some true := by rw [same31, sameB_eq _ _ (by omega), beq_self_eq_true]
  have S3 : F.law31_same R.2.2.2.1 R.2.2.2.1 = some true := by rw [same31, sameB_eq _ _ (by omega), beq_self_eq_true]
  have S4 : F.law31_same R.2.2.2.2.1 R.2.2.2.2.1 = some true := by rw [same31, sameB_eq _ _ (by omega), beq_self_eq_true]
  unfold F.law31_CoseSpares
  rw [awake31_eq, bind_some', roomy31, roomy_eq b (by omega), bind_some', roomy_eq c (by omega), bind_some']
  simp only [List.take_left, h1, bind_some', not_true_f, Bool.false_eq_true, if_false, bne_self_eq_false, S1, S2, S3, S4, F.law31_CoseSpares_K1, roomy31]
  rw [roomy_eq _ (by omega), bind_some', roomy_eq _ (by omega), bind_some', roomy_eq _ (by omega), bind_some', roomy_eq _ (by omega), bind_some']
  rw [fill_loop (c := UInt8.ofInt 60) (fun i l => rfl) _ (by omega), fill_loop (c := UInt8.ofInt 61) (fun i l => rfl) _ (by omega), fill_loop (c := UInt8.ofInt 62) (fun i l => rfl) _ (by omega)]
  rw [fill_loop (c := UInt8.ofInt 63) (fun i l => rfl) _ (by omega)]
  simp only [List.take_left, S1, S2, S3, S4, bind_some', not_true_f, Bool.false_eq_true, if_false]
  rw [fill_loop (c := UInt8.ofInt 64) (fun i l => rfl) _ (by omega), fill_loop (c := UInt8.ofInt 65) (fun i l => rfl) _ (by omega), fill_loop (c := UInt8.ofInt 66) (fun i l => rfl) _ (by omega), fill_loop (c := UInt8.ofInt 67) (fun i l => rfl) _ (by omega)]
  rw [more_loop (c := UInt8.ofInt 80) (bytes := 1) (fun l k => rfl) _ (by simp; omega)]
  rw [more_loop (c := UInt8.ofInt 81) (bytes := 1) (fun l k => rfl) _ (by simp; omega)]
  rw [more_loop (c := UInt8.ofInt 82) (bytes := 1) (fun l k => rfl) _ (by simp; omega)]
  rw [more_loop (c := UInt8.ofInt 83) (bytes := 1) (fun l k => rfl) _ (by simp; omega)]
  rw [more_loop (c := UInt8.ofInt 84) (bytes := 1) (fun l k => rfl) _ (by simp; omega)]
  rw [more_loop (c := UInt8.ofInt 85) (bytes := 1) (fun l k => rfl) _ (by simp; omega)]
  rw [more_loop (c := UInt8.ofInt 86) (bytes := 1) (fun l k => rfl) _ (by simp; omega)]
  rw [more_loop (c := UInt8.ofInt 87) (bytes := 1) (fun l k => rfl) _ (by simp; omega)]
  refine look_to4 R.2.1.length (UInt8.ofInt 60) (UInt8.ofInt 80) (fun x => x != UInt8.ofInt 60) (fun x => x != UInt8.ofInt 80) rfl rfl (by omega) (fun i => rfl) ?_
  refine look_to4 R.2.2.1.length (UInt8.ofInt 61) (UInt8.ofInt 81) (fun x => x != UInt8.ofInt 61) (fun x => x != UInt8.ofInt 81) rfl rfl (by omega) (fun i => rfl) ?_
  refine look_to4 R.2.2.2.1.length (UInt8.ofInt 62) (UInt8.ofInt 82) (fun x => x != UInt8.ofInt 62) (fun x => x != UInt8.ofInt 82) rfl rfl (by omega) (fun i => rfl) ?_
  refine look_to4 R.2.2.2.2.1.length (UInt8.ofInt 63) (UInt8.ofInt 83) (fun x => x != UInt8.ofInt 63) (fun x => x != UInt8.ofInt 83) rfl rfl (by omega) (fun i => rfl) ?_
  refine look_to4 R.2.1.length (UInt8.ofInt 64) (UInt8.ofInt 84) (fun x => x != UInt8.ofInt 64) (fun x => x != UInt8.ofInt 84) rfl rfl (by omega) (fun i => rfl) ?_
  refine look_to4 R.2.2.1.length (UInt8.ofInt 65) (UInt8.ofInt 85) (fun x => x != UInt8.ofInt 65) (fun x => x != UInt8.ofInt 85) rfl rfl (by omega) (fun i => rfl) ?_
  refine look_to4 R.2.2.2.1.length (UInt8.ofInt 66) (UInt8.ofInt 86) (fun x => x != UInt8.ofInt 66) (fun x => x != UInt8.ofInt 86) rfl rfl (by omega) (fun i => rfl) ?_
  refine look_to4 R.2.2.2.2.1.length (UInt8.ofInt 67) (UInt8.ofInt 87) (fun x => x != UInt8.ofInt 67) (fun x => x != UInt8.ofInt 87) rfl rfl (by omega) (fun i => rfl) ?_
  simp only [t1, bind_some', olet_eq]
  rw [apO_ok (by simp; omega), bind_some', List.nil_append]
  rw [fill_loop (c := [115, 112, 111, 105, 108, 116]) (fun i l => rfl) _ (by omega), more_loop (c := [109, 111, 114, 101]) (bytes := 16) (fun l k => rfl) _ (by simp; omega)]
  simp only [sameT_eq _ _ (show T.2.2.2.2.2.1.length < 9223372036854775807 by omega), beq_self_eq_true, bind_some', not_true_f, Bool.false_eq_true, if_false, t1, olet_eq, if_true, sameClaims_self T t2 (by omega)]
  have hw : wI (((List.replicate T.2.2.2.2.2.1.length ([115, 112, 111, 105, 108, 116] : List UInt8)).length : Int) + 70) = (((List.replicate T.2.2.2.2.2.1.length ([115, 112, 111, 105, 108, 116] : List UInt8)) ++ List.replicate 70 ([109, 111, 114, 101] : List UInt8)).length : Int) := by
    rw [List.length_append, List.length_replicate, List.length_replicate, wI_in (by omega) (by omega)]; rfl
  simp only [hw, beq_self_eq_true, if_true, spared31, spared_eq b (show b.length ≤ 200000000000000 by omega), spared_eq c (show c.length ≤ 200000000000000 by omega), bind_some']
end Go.Gk.Cb
end
