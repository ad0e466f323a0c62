import Derived.Test.YtgjpaedgcpjigaaDoorGkQD
import Derived.Test.YtgjpaedgcpjigaaDoorGkFcose
import Derived.Test.YtgjpaedgcpjigaaDoorGkFref31
import Derived.Test.YtgjpaedgcpjigaaDoorGkFlaw31
set_option linter.unusedVariables false
set_option linter.unusedSimpArgs false

section
set_option linter.unusedSimpArgs false
set_option linter.unusedVariables false
namespace Go.Gk.Cb
open Go Go.Gk
theorem memE_at {v : List It} {wr : Wr} (key : List It) : ∀ (r i : Nat) (last : Option (List UInt8)) (t : List UInt8) (j : Nat), kidsE wr true (2 * r) true last i = some (t, j) →
    memE v wr key r i = -1 ∨ ∃ (k : Nat) (t' : List UInt8) (j' : Nat), memE v wr key r i = (k : Int) ∧ wr k = some (t', j')
  | 0, i, last, t, j, h => .inl rfl
  | r + 1, i, last, t, j, h1 => by
    rw [show 2 * (r + 1) = 2 * r + 1 + 1 by omega] at h1
    simp only [kidsE] at h1
    cases h4 : wr i with
    | none => rw [h4] at h1; cases h1
    | some a =>
      obtain ⟨t1, j1⟩ := a
      rw [h4] at h1
      simp only [Bool.true_and, Bool.not_true, Bool.false_and, Bool.and_false, Bool.false_eq_true, if_false, if_true] at h1
      split at h1
      · cases h1
      · cases h5 : wr j1 with
        | none => rw [h5] at h1; cases h1
        | some b =>
          obtain ⟨t2, j2⟩ := b
          rw [h5] at h1
          simp only [Bool.not_false] at h1
          cases h6 : kidsE wr true (2 * r) true (some t1) j2 with
          | none => rw [h6] at h1; cases h1
          | some e =>
            obtain ⟨u, k⟩ := e
            simp only [memE, h4, h5]
            split
            · exact .inr ⟨j1, t2, j2, rfl, h5⟩
            · exact memE_at key r j2 _ u k h6
theorem Member_at {v : List It} (hw : wt v ≤ 4000000000000) (hK : Kd v) (hU : ∀ x ∈ v, x.2.2.1.length ≤ 2000000) (p : Int) (key : List It) :
    ∃ q : Int, F.cbor_Member v p key = some q ∧ F.ref30_Member v p key = some q ∧ (q = -1 ∨ ∃ (k d : Nat) (t : List UInt8) (j : Nat), q = (k : Int) ∧ d ≤ 32 ∧ encD d v k = some (t, j)) := by
  have hl := wt_len v
  unfold F.cbor_Member F.ref30_Member
  rw [shaped_eq hw hK, refShaped_eq hw hK hU]
  simp only [bind_some']
  by_cases h0 : p < 0
  · have e0 : decide (p < 0) = true := by simpa using h0
    refine ⟨-1, by simp only [e0, if_true, F.cbor_Member_K1], ?_, .inl rfl⟩
    simp only [e0, if_true, F.ref30_Member_K1, ite_self]
  · have e0 : decide (p < 0) = false := by simpa using h0
    obtain ⟨a, rfl⟩ := Int.eq_ofNat_of_zero_le (Int.not_lt.1 h0)
    by_cases h1 : v.length ≤ a
    · have e1 : decide ((v.length : Int) ≤ (a : Int)) = true := by simp; omega
      refine ⟨-1, by simp only [e0, e1, if_true, Bool.false_eq_true, if_false, F.cbor_Member_K1], ?_, .inl rfl⟩
      simp only [e0, e1, if_true, Bool.false_eq_true, if_false, F.ref30_Member_K1, ite_self]
    · have e1 : decide ((v.length : Int) ≤ (a : Int)) = false := by simp; omega
      have ha : a < v.length := by omega
      simp only [e0, e1, Bool.false_eq_true, if_false, getO_lt ha, bind_some']
      by_cases h5 : v[a].1 = 5
      · have e5 : (v[a].1 != 5) = false := by simp [h5]
        simp only [e5, Bool.false_eq_true, if_false]
        cases hs : shapedD v with
        | false => exact ⟨-1, by simp only [Bool.not_false, F.cbor_Member_K1, if_true], by simp only [Bool.not_false, F.ref30_Member_K1, if_true], .inl rfl⟩
        | true =>
          obtain ⟨d, t, k, hd, he⟩ := at_shaped hs ha
          obtain ⟨d', u, rfl, hk, hk0, hk2⟩ := map_kids he ha h5
          obtain ⟨K, hKv⟩ : ∃ K : Nat, v[a].2.2.2 = ((2 * K : Nat) : Int) := ⟨(v[a].2.2.2 / 2).toNat, by omega⟩
          rw [hKv, Int.toNat_natCast] at hk
          have hkd := hK v[a] (List.getElem_mem ha)
          have hdiv : wI (Int.tdiv v[a].2.2.2 2) = (K : Int) := by
            rw [hKv, Int.tdiv_eq_ediv_of_nonneg (by omega), wI_in (by omega) (by omega)]; omega
          have ha1 : wI ((a : Int) + 1) = ((a + 1 : Nat) : Int) := by rw [wI_in (by omega) (by omega)]; simp
          refine ⟨memE v (encD d' v) key K (a + 1), ?_, ?_, ?_⟩
          · simp only [Bool.not_true, F.cbor_Member_K1, Bool.false_eq_true, if_false, getO_lt ha, bind_some', ha1]
            exact member_cbor (by omega) (by omega) key v[a] K hdiv (by omega) K 0 (a + 1) none u k hk (by omega) (by omega)
          · simp only [Bool.not_true, F.ref30_Member_K1, Bool.false_eq_true, if_false, ha1]
            exact member_ref (by omega) (by omega) key a ha K hdiv (by omega) K 0 (a + 1) none u k hk (by omega) (by omega)
          · rcases memE_at key K (a + 1) none u k hk with h | ⟨k', t', j', h, h'⟩
            · exact .inl h
            · exact .inr ⟨k', d', t', j', h, by omega, h'⟩
      · have e5 : (v[a].1 != 5) = true := by simpa using h5
        refine ⟨-1, by simp only [e5, if_true, F.cbor_Member_K1], ?_, .inl rfl⟩
        simp only [e5, F.ref30_Member_K1, if_true, ite_self]
theorem at_item {v : List It} {d k j : Nat} {t : List UInt8} (h : encD d v k = some (t, j)) : ∃ hk : k < v.length, fitE v[k] ∧ 0 ≤ v[k].2.2.2 ∧ k + 1 + v[k].2.2.2.toNat ≤ j ∧ j ≤ v.length := by
  have hp := encD_put v d k t j h
  have hk : k < v.length := by omega
  have key : ∀ sub, (∀ wr, sub = some wr → Put v wr) → itemE v sub k = some (t, j) → fitE v[k] ∧ 0 ≤ v[k].2.2.2 ∧ k + 1 + v[k].2.2.2.toNat ≤ j := by
    intro sub hsub h1
    unfold itemE at h1
    rw [List.getElem?_eq_getElem hk] at h1
    simp only at h1
    split at h1
    · cases h1
    · rename_i hf
      have hf' := Classical.not_not.1 hf
      obtain ⟨k0, kz⟩ := fit_kids hf'
      split at h1
      · cases sub with
        | none => cases h1
        | some wr =>
          simp only at h1
          split at h1
          · cases h1
          · rename_i t1 j1 hk1
            cases h1
            have := kidsE_put (hsub wr rfl) _ _ _ _ _ _ _ (by omega) hk1
            exact ⟨hf', k0, by omega⟩
      · rename_i hk1
        cases h1
        have := kz hk1
        exact ⟨hf', k0, by omega⟩
  refine ⟨hk, ?_⟩
  cases d with
  | zero =>
    obtain ⟨a, b, c⟩ := key none (by simp) h
    exact ⟨a, b, c, by omega⟩
  | succ d =>
    obtain ⟨a, b, c⟩ := key (some (encD d v)) (by intro wr hw; cases hw; exact encD_put v d) h
    exact ⟨a, b, c, by omega⟩
theorem fit_major {x : It} (h : fitE x) : 0 ≤ x.1 ∧ x.1 ≤ 7 := by
  obtain ⟨m, n, d, k⟩ := x
  simp only
  rcases major_cases m with hm | hm | rfl | rfl | rfl | rfl | rfl | rfl | rfl | rfl <;> first
    | omega
    | (exfalso; revert h; unfold fitE; simp only; rw [if_neg (by omega), if_neg (by omega), if_neg (by omega), if_neg (by omega), if_neg (by omega), if_neg (by omega), if_neg (by omega)]; simp; done)
theorem contains1 (a x : Int) : F.slices_Contains_int_int [a] x = some (x == a) := by
  unfold F.slices_Contains_int_int F.slices_Index_int_int
  by_cases h : x = a
  · have hs : F.slices_Index_int_int_L1 [a] x 0 = some (.inr 0) := by
      simp [F.slices_Index_int_int_L1, getO, h]; rfl
    rw [loop_inr hs, bind_some']; simp [h]
  · have hs : F.slices_Index_int_int_L1 [a] x 0 = some (.inl 1) := by
      simp [F.slices_Index_int_int_L1, getO, h]; rfl
    have hs1 : F.slices_Index_int_int_L1 [a] x 1 = some (.inr (-1)) := rfl
    rw [loop_inl hs, loop_inr hs1, bind_some']; simp [h]
theorem contains2 (a b x : Int) : F.slices_Contains_int_int [a, b] x = some (x == a || x == b) := by
  unfold F.slices_Contains_int_int F.slices_Index_int_int
  by_cases h : x = a
  · have hs : F.slices_Index_int_int_L1 [a, b] x 0 = some (.inr 0) := by
      simp [F.slices_Index_int_int_L1, getO, h]; rfl
    rw [loop_inr hs, bind_some']; simp [h]
  · have hs : F.slices_Index_int_int_L1 [a, b] x 0 = some (.inl 1) := by
      simp [F.slices_Index_int_int_L1, getO, h]; rfl
    by_cases h2 : x = b
    · have hs1 : F.slices_Index_int_int_L1 [a, b] x 1 = some (.inr 1) := by
        simp [F.slices_Index_int_int_L1, getO, h2]; rfl
      rw [loop_inl hs, loop_inr hs1, bind_some']; simp [h2]
    · have hs1 : F.slices_Index_int_int_L1 [a, b] x 1 = some (.inl 2) := by
        simp [F.slices_Index_int_int_L1, getO, h2]; rfl
      have hs2 : F.slices_Index_int_int_L1 [a, b] x 2 = some (.inr (-1)) := rfl
      rw [loop_inl hs, loop_inl hs1, loop_inr hs2, bind_some']; simp [h, h2]
section
variable {v : List It} (hw : wt v ≤ 4000000000000) (hK : Kd v) (hU : ∀ x ∈ v, x.2.2.1.length ≤ 2000000)
include hw hK hU
theorem val_at (n : UInt64) : ∃ q : Int, F.cbor_Member v 0 [(0, n, [], 0)] = some q ∧ F.ref31_value v 0 n = some q ∧
    (q = -1 ∨ ∃ (k d : Nat) (t : List UInt8) (j : Nat), q = (k : Int) ∧ d ≤ 32 ∧ encD d v k = some (t, j)) := by
  obtain ⟨q, a, b, c⟩ := Member_at hw hK hU 0 [(0, n, [], 0)]
  exact ⟨q, a, by unfold F.ref31_value; rw [b]; rfl, c⟩
theorem said_both (n : UInt64) (m : Int) (bad : Bool) : ∃ d has ok, F.ref31_said1 v n m = some (d, has, ok) ∧ F.signet_cose_Claims_2 n m v bad = some (d, has, bad || !ok) := by
  obtain ⟨q, a, b, c⟩ := val_at hw hK hU n
  unfold F.ref31_said1 F.signet_cose_Claims_2 F.signet_cose_Claims_1
  rw [a, b]
  simp only [bind_some']
  rcases c with rfl | ⟨k, d, t, j, rfl, hd, he⟩
  · refine ⟨[], false, true, rfl, ?_⟩
    cases bad <;> rfl
  · obtain ⟨hk, hf, _⟩ := at_item he
    have e1 : decide ((k : Int) < 0) = false := decide_eq_false (by omega)
    have e2 : decide ((0 : Int) ≤ (k : Int)) = true := decide_eq_true (by omega)
    simp only [e1, e2, Bool.false_eq_true, if_false, if_true, getO_lt hk, bind_some', contains1]
    refine ⟨v[k].2.2.1, true, v[k].1 == m, rfl, ?_⟩
    cases bad
    · simp only [Bool.false_eq_true, if_false, F.signet_cose_Claims_1_K1, bind_some', e1, getO_lt hk, Bool.false_or]
    · simp only [if_true, F.signet_cose_Claims_1_K1, bind_some', e1, Bool.false_eq_true, if_false, getO_lt hk, Bool.true_or]
theorem time_both (n : UInt64) (bad : Bool) : ∃ h1 a1 h2 a2 ok, F.ref31_time v n = some (h1, a1, ok) ∧ F.signet_cose_Claims_3 n bad v = some (h2, a2, bad || !ok) ∧ (ok = true → h1 = h2 ∧ a1 = a2) := by
  obtain ⟨q, a, b, c⟩ := val_at hw hK hU n
  unfold F.ref31_time F.signet_cose_Claims_3
  rw [b]
  simp only [bind_some']
  rcases c with rfl | ⟨k, d, t, j, rfl, hd, he⟩
  · refine ⟨false, 0, false, 0, true, rfl, ?_, fun _ => ⟨rfl, rfl⟩⟩
    unfold F.signet_cose_Claims_1
    rw [a]
    cases bad <;> rfl
  · obtain ⟨hk, hf, _⟩ := at_item he
    have hmj := fit_major hf
    have e1 : decide ((k : Int) < 0) = false := decide_eq_false (by omega)
    have e2 : decide ((0 : Int) ≤ (k : Int)) = true := decide_eq_true (by omega)
    have hin : (v[k].1 == 0 || v[k].1 == 1) = decide (v[k].1 ≤ 1) := by
      by_cases h : v[k].1 ≤ 1
      · have : v[k].1 = 0 ∨ v[k].1 = 1 := by omega
        rcases this with h | h <;> simp [h]
      · have : v[k].1 ≠ 0 ∧ v[k].1 ≠ 1 := by omega
        simp [this.1, this.2, h]
    have hlt : decide ((1 : Int) < v[k].1) = !decide (v[k].1 ≤ 1) := by
      by_cases h : v[k].1 ≤ 1 <;> simp [h] <;> omega
    have hK1 : ∀ b', ∃ a2, F.signet_cose_Claims_3_K1 v ((k : Int), bad || !decide (v[k].1 ≤ 1)) b' = some (true, a2, b') ∧ a2 = (if v[k].1 = 1 then wI (-1 - wI (v[k].2.1.toNat : Int)) else wI (v[k].2.1.toNat : Int)) := by
      intro b'
      by_cases h : v[k].1 = 1
      · refine ⟨_, ?_, rfl⟩
        simp only [F.signet_cose_Claims_3_K1, getO_lt hk, bind_some', olet_eq, h, beq_self_eq_true, if_true, F.signet_cose_Claims_3_K2]
      · have : (v[k].1 == 1) = false := by simpa using h
        refine ⟨_, ?_, rfl⟩
        simp only [F.signet_cose_Claims_3_K1, getO_lt hk, bind_some', olet_eq, this, h, Bool.false_eq_true, if_false, F.signet_cose_Claims_3_K2]
    have hC1 : F.signet_cose_Claims_1 n [0, 1] v bad = some ((k : Int), bad || !decide (v[k].1 ≤ 1)) := by
      unfold F.signet_cose_Claims_1
      rw [a, bind_some']
      cases bad
      · simp only [Bool.false_eq_true, if_false, e2, if_true, getO_lt hk, bind_some', contains2, hin, F.signet_cose_Claims_1_K1, Bool.false_or]
      · simp only [if_true, F.signet_cose_Claims_1_K1, Bool.true_or]
    rw [hC1]
    simp only [e1, Bool.false_eq_true, if_false, getO_lt hk, bind_some', hlt]
    by_cases hm : v[k].1 ≤ 1
    · simp only [hm, decide_true, Bool.not_true, Bool.or_false, Bool.false_eq_true, if_false]
      by_cases hn : (9223372036854775807 : UInt64) < v[k].2.1
      · have en : decide ((9223372036854775807 : UInt64) < v[k].2.1) = true := decide_eq_true hn
        obtain ⟨a2, k1, k2⟩ := hK1 true
        simp only [hm, decide_true, Bool.not_true, Bool.or_false] at k1
        refine ⟨false, 0, true, a2, false, by simp only [en, F.ref31_time_K1, if_true], ?_, fun h => by cases h⟩
        cases bad
        · simpa [en] using k1
        · simpa [en] using k1
      · have en : decide ((9223372036854775807 : UInt64) < v[k].2.1) = false := decide_eq_false hn
        obtain ⟨a2, k1, k2⟩ := hK1 bad
        simp only [hm, decide_true, Bool.not_true, Bool.or_false] at k1
        refine ⟨true, a2, true, a2, true, ?_, ?_, fun _ => ⟨rfl, rfl⟩⟩
        · by_cases h : v[k].1 = 1
          · simp only [en, F.ref31_time_K1, Bool.false_eq_true, if_false, getO_lt hk, bind_some', h, beq_self_eq_true, if_true, olet_eq, F.ref31_time_K2, k2]
          · have e : (v[k].1 == 1) = false := by simpa using h
            simp only [en, F.ref31_time_K1, Bool.false_eq_true, if_false, getO_lt hk, bind_some', e, olet_eq, F.ref31_time_K2, k2, h]
        · cases bad
          · simpa [en] using k1
          · simpa [en] using k1
    · obtain ⟨a2, k1, k2⟩ := hK1 true
      simp only [hm, decide_false, Bool.not_false, Bool.or_true] at k1
      simp only [hm, decide_false, Bool.not_false, Bool.or_true, if_true, F.ref31_time_K1, k1]
      exact ⟨false, 0, true, a2, false, rfl, by simp, fun h => by cases h⟩
end
end Go.Gk.Cb
end

section
set_option linter.unusedSimpArgs false
set_option linter.unusedVariables false
namespace Go.Gk.Cb
open Go Go.Gk
def textsD (v : List It) : Nat → Nat → Option (List (List UInt8))
  | _, 0 => some []
  | p, r + 1 => match v[p]? with
    | none => none
    | some x => if x.1 = 3 then (match textsD v (p + 1) r with
      | none => none
      | some l => some (x.2.2.1 :: l)) else none
theorem textsD_len {v : List It} : ∀ (r p : Nat) (l : List (List UInt8)), textsD v p r = some l → l.length = r
  | 0, p, l, h => by simp only [textsD] at h; cases h; rfl
  | r + 1, p, l, h => by
    simp only [textsD] at h
    cases hx : v[p]? with
    | none => rw [hx] at h; cases h
    | some x =>
      rw [hx] at h
      simp only at h
      split at h
      · cases ht : textsD v (p + 1) r with
        | none => rw [ht] at h; cases h
        | some m => rw [ht] at h; cases h; simp [textsD_len r (p + 1) m ht]
      · cases h
abbrev SD := List UInt8 × Bool × Bool
abbrev TM := Bool × Int × Bool
section
variable {v : List It}
theorem aud_prog (x15 x16 : SD) (x17 x18 x19 : TM) (x20 : SD) (k : Nat) (b1 : Bool) (x33 : It) (hv : v.length ≤ 100000000000) : ∀ (r i : Nat) (acc : List (List UInt8)), ((i + r : Nat) : Int) = x33.2.2.2 → k + 1 + (i + r) ≤ v.length → acc.length ≤ i →
    loop (F.cose_Claims_L1 (v, 0, 0) ((k : Int), b1) x33 x15 x16 x17 x18 x19 x20) ((i : Int), false, acc) =
      F.cose_Claims_K1 x15 x16 x17 x18 x19 x20 (match textsD v (k + 1 + i) r with
        | none => (true, [], true)
        | some l => (false, acc ++ l, true))
  | 0, i, acc, h1, h2, h3 => by
    have hd : decide ((i : Int) < x33.2.2.2) = false := decide_eq_false (by omega)
    have : F.cose_Claims_L1 (v, 0, 0) ((k : Int), b1) x33 x15 x16 x17 x18 x19 x20 ((i : Int), false, acc) = oinr (F.cose_Claims_K1 x15 x16 x17 x18 x19 x20 (false, acc, true)) := by
      simp only [F.cose_Claims_L1, hd, Bool.false_eq_true, if_false]
    have hK : F.cose_Claims_K1 x15 x16 x17 x18 x19 x20 (false, acc, true) = some ([], x15.1, x15.2.1, x16.1, x16.2.1, acc, true, x20.1, x20.2.1, x17.1, x17.2.1, x18.1, x18.2.1, x19.1, x19.2.1, 0) := rfl
    simp only [textsD, List.append_nil]
    rw [hK] at this ⊢
    exact loop_inr this
  | r + 1, i, acc, h1, h2, h3 => by
    have hd : decide ((i : Int) < x33.2.2.2) = true := decide_eq_true (by omega)
    have hp : k + 1 + i < v.length := by omega
    have e1 : wI ((k : Int) + 1) = ((k + 1 : Nat) : Int) := by rw [wI_in (by omega) (by omega)]; simp
    have e2 : wI (((k + 1 : Nat) : Int) + (i : Int)) = ((k + 1 + i : Nat) : Int) := by rw [wI_in (by omega) (by omega)]; simp
    have e3 : wI ((i : Int) + 1) = ((i + 1 : Nat) : Int) := by rw [wI_in (by omega) (by omega)]; simp
    simp only [textsD, List.getElem?_eq_getElem hp]
    by_cases h : v[k + 1 + i].1 = 3
    · have eb : (v[k + 1 + i].1 != 3) = false := by simp [h]
      have hs : F.cose_Claims_L1 (v, 0, 0) ((k : Int), b1) x33 x15 x16 x17 x18 x19 x20 ((i : Int), false, acc) = some (.inl (((i + 1 : Nat) : Int), false, acc ++ [v[k + 1 + i].2.2.1])) := by
        simp only [F.cose_Claims_L1, hd, if_true, Bool.false_eq_true, if_false, e1, e2, getO_lt hp, bind_some', eb, F.cose_Claims_K3, e3]
        rw [apO_ok (by simp; omega), bind_some']; rfl
      rw [loop_inl hs, aud_prog x15 x16 x17 x18 x19 x20 k b1 x33 hv r (i + 1) _ (by omega) (by omega) (by simp; omega), if_pos h, show k + 1 + (i + 1) = k + 1 + i + 1 by omega]
      cases textsD v (k + 1 + i + 1) r with
      | none => rfl
      | some l => simp
    · have eb : (v[k + 1 + i].1 != 3) = true := by simpa using h
      have hs : F.cose_Claims_L1 (v, 0, 0) ((k : Int), b1) x33 x15 x16 x17 x18 x19 x20 ((i : Int), false, acc) = some (.inr ([], [], false, [], false, [], false, [], false, false, 0, false, 0, false, 0, 131)) := by
        simp only [F.cose_Claims_L1, hd, if_true, Bool.false_eq_true, if_false, e1, e2, getO_lt hp, bind_some', eb, F.cose_Claims_K3]; rfl
      rw [loop_inr hs, if_neg h]; rfl
theorem aud_ref (k : Nat) (hk : k < v.length) (hv : v.length ≤ 100000000000) : ∀ (r i : Nat) (acc : List (List UInt8)), ((i + r : Nat) : Int) = v[k].2.2.2 → k + 1 + (i + r) ≤ v.length → acc.length ≤ i →
    loop (F.ref31_audience_L1 v (k : Int)) (acc, ((k + 1 + i : Nat) : Int), (i : Int)) = some (match textsD v (k + 1 + i) r with
        | none => ([], true, false)
        | some l => (acc ++ l, true, true))
  | 0, i, acc, h1, h2, h3 => by
    have hd : decide ((i : Int) < v[k].2.2.2) = false := decide_eq_false (by omega)
    refine loop_inr ?_
    simp only [F.ref31_audience_L1, getO_lt hk, bind_some', hd, Bool.false_eq_true, if_false, textsD, List.append_nil]; rfl
  | r + 1, i, acc, h1, h2, h3 => by
    have hd : decide ((i : Int) < v[k].2.2.2) = true := decide_eq_true (by omega)
    have hp : k + 1 + i < v.length := by omega
    have e2 : wI (((k + 1 + i : Nat) : Int) + 1) = ((k + 1 + (i + 1) : Nat) : Int) := by rw [wI_in (by omega) (by omega)]; omega
    have e3 : wI ((i : Int) + 1) = ((i + 1 : Nat) : Int) := by rw [wI_in (by omega) (by omega)]; simp
    simp only [textsD, List.getElem?_eq_getElem hp]
    by_cases h : v[k + 1 + i].1 = 3
    · have eb : (v[k + 1 + i].1 != 3) = false := by simp [h]
      have hs : F.ref31_audience_L1 v (k : Int) (acc, ((k + 1 + i : Nat) : Int), (i : Int)) = some (.inl (acc ++ [v[k + 1 + i].2.2.1], ((k + 1 + (i + 1) : Nat) : Int), ((i + 1 : Nat) : Int))) := by
        simp only [F.ref31_audience_L1, getO_lt hk, bind_some', hd, if_true, getO_lt hp, eb, Bool.false_eq_true, if_false, e2, e3]
        rw [apO_ok (by simp; omega), bind_some']; rfl
      rw [loop_inl hs, aud_ref k hk hv r (i + 1) _ (by omega) (by omega) (by simp; omega), if_pos h, show k + 1 + (i + 1) = k + 1 + i + 1 by omega]
      cases textsD v (k + 1 + i + 1) r with
      | none => rfl
      | some l => simp
    · have eb : (v[k + 1 + i].1 != 3) = true := by simpa using h
      have hs : F.ref31_audience_L1 v (k : Int) (acc, ((k + 1 + i : Nat) : Int), (i : Int)) = some (.inr ([], true, false)) := by
        simp only [F.ref31_audience_L1, getO_lt hk, bind_some', hd, if_true, getO_lt hp, eb]; rfl
      rw [loop_inr hs, if_neg h]
end
section
variable {v : List It} (hw : wt v ≤ 4000000000000) (hK : Kd v) (hU : ∀ x ∈ v, x.2.2.1.length ≤ 2000000)
include hw hK hU
theorem aud_both (hv : v.length ≤ 100000000000) (x15 x16 : SD) (x17 x18 x19 : TM) (x20 : SD) (b0 : Bool) : ∃ l has ok, F.ref31_audience v = some (l, has, ok) ∧ l.length ≤ v.length + 1 ∧
    (obind (F.signet_cose_Claims_1 3 [3, 4] v b0) fun x_23 =>
      if (decide ((0 : Int) ≤ x_23.1)) = true then
        (obind (getO v (x_23.1 : Int)) fun x_24 =>
          if (x_24.1 == 3) = true then
            (obind (getO v (x_23.1 : Int)) fun x_25 => F.cose_Claims_K2 (v, 0, 0) x_23 x15 x16 x17 x18 x19 x20 ([x_25.2.2.1] : List (List UInt8)))
          else F.cose_Claims_K2 (v, 0, 0) x_23 x15 x16 x17 x18 x19 x20 [])
      else F.cose_Claims_K1 x15 x16 x17 x18 x19 x20 (x_23.2, [], false)) = F.cose_Claims_K1 x15 x16 x17 x18 x19 x20 (b0 || !ok, l, has) := by
  obtain ⟨q, a, b, c⟩ := val_at hw hK hU 3
  unfold F.ref31_audience F.signet_cose_Claims_1
  rw [a, b]
  simp only [bind_some']
  rcases c with rfl | ⟨k, d, t, j, rfl, hd, he⟩
  · refine ⟨[], false, true, rfl, by simp, ?_⟩
    cases b0 <;> rfl
  · obtain ⟨hk, hf, hk0, hkj, hjl⟩ := at_item he
    have hmj := fit_major hf
    have e1 : decide ((k : Int) < 0) = false := decide_eq_false (by omega)
    have e2 : decide ((0 : Int) ≤ (k : Int)) = true := decide_eq_true (by omega)
    obtain ⟨K, hKv⟩ := Int.eq_ofNat_of_zero_le hk0
    rw [hKv, Int.toNat_natCast] at hkj
    -- a bad one before: whatever comes, it is refused
    have hbadL : ∀ b1 acc, loop (F.cose_Claims_L1 (v, 0, 0) ((k : Int), b1) v[k] x15 x16 x17 x18 x19 x20) (0, true, acc) = F.cose_Claims_K1 x15 x16 x17 x18 x19 x20 (true, acc, true) := by
      intro b1 acc
      have hK1 : F.cose_Claims_K1 x15 x16 x17 x18 x19 x20 (true, acc, true) = some ([], [], false, [], false, [], false, [], false, false, 0, false, 0, false, 0, 131) := rfl
      rw [hK1]
      refine loop_inr ?_
      by_cases h0 : (0 : Int) < v[k].2.2.2
      · have : decide ((0 : Int) < v[k].2.2.2) = true := decide_eq_true h0
        simp only [F.cose_Claims_L1, this, if_true, F.cose_Claims_K3]; rfl
      · have : decide ((0 : Int) < v[k].2.2.2) = false := decide_eq_false h0
        simp only [F.cose_Claims_L1, this, Bool.false_eq_true, if_false]; rfl
    have hC1 : (if b0 = true then F.signet_cose_Claims_1_K1 (k : Int) true
        else if decide ((0 : Int) ≤ (k : Int)) = true then obind (getO v (k : Int)) fun x_8 => obind (F.slices_Contains_int_int [3, 4] x_8.1) fun x_9 => F.signet_cose_Claims_1_K1 (k : Int) !x_9
        else F.signet_cose_Claims_1_K1 (k : Int) false) = some ((k : Int), b0 || !(v[k].1 == 3 || v[k].1 == 4)) := by
      cases b0
      · simp only [Bool.false_eq_true, if_false, e2, if_true, getO_lt hk, bind_some', contains2, F.signet_cose_Claims_1_K1, Bool.false_or]
      · simp only [if_true, F.signet_cose_Claims_1_K1, Bool.true_or]
    rw [hC1]
    simp only [bind_some', e1, e2, if_true, Bool.false_eq_true, if_false, getO_lt hk]
    by_cases h3 : v[k].1 = 3
    · have e3 : (v[k].1 == 3) = true := by simpa using h3
      have hz : v[k].2.2.2 = 0 := (fit_kids hf).2 (by omega)
      simp only [e3, if_true, Bool.true_or, Bool.not_true, Bool.or_false]
      refine ⟨[v[k].2.2.1], true, true, rfl, by simp, ?_⟩
      simp only [F.cose_Claims_K2, getO_lt hk, bind_some', Bool.not_true, Bool.or_false]
      cases b0
      · have hd0 : decide ((0 : Int) < v[k].2.2.2) = false := decide_eq_false (by omega)
        have hKg : F.cose_Claims_K1 x15 x16 x17 x18 x19 x20 (false, [v[k].2.2.1], true) = some ([], x15.1, x15.2.1, x16.1, x16.2.1, [v[k].2.2.1], true, x20.1, x20.2.1, x17.1, x17.2.1, x18.1, x18.2.1, x19.1, x19.2.1, 0) := rfl
        rw [hKg]
        refine loop_inr ?_
        simp only [F.cose_Claims_L1, hd0, Bool.false_eq_true, if_false, hKg]; rfl
      · rw [hbadL]
    · have e3 : (v[k].1 == 3) = false := by simpa using h3
      by_cases h4 : v[k].1 = 4
      · have e4 : (v[k].1 == 4) = true := by simpa using h4
        have en : (v[k].1 != 4) = false := by simp [h4]
        have hi1 : wI ((k : Int) + 1) = ((k + 1 + 0 : Nat) : Int) := by rw [wI_in (by omega) (by omega)]; simp
        have hr := aud_ref k hk hv K 0 [] (by omega) (by omega) (by simp)
        simp only [e3, e4, en, Bool.false_eq_true, if_false, Bool.or_true, Bool.not_true, Bool.or_false, hi1]
        rw [show (0 : Int) = ((0 : Nat) : Int) from rfl, hr]
        simp only [F.cose_Claims_K2, getO_lt hk, bind_some']
        cases ht : textsD v (k + 1 + 0) K with
        | none =>
          refine ⟨[], true, false, rfl, by simp, ?_⟩
          cases b0
          · have := aud_prog x15 x16 x17 x18 x19 x20 k false v[k] hv K 0 [] (by omega) (by omega) (by simp)
            rw [ht] at this
            exact this
          · exact hbadL _ _
        | some l =>
          refine ⟨[] ++ l, true, true, rfl, by have := textsD_len _ _ _ ht; simp; omega, ?_⟩
          cases b0
          · have := aud_prog x15 x16 x17 x18 x19 x20 k false v[k] hv K 0 [] (by omega) (by omega) (by simp)
            rw [ht] at this
            exact this
          · exact hbadL _ _
      · have e4 : (v[k].1 == 4) = false := by simpa using h4
        have en : (v[k].1 != 4) = true := by simpa using h4
        simp only [e3, e4, en, Bool.false_eq_true, if_false, if_true, Bool.or_false, Bool.not_false, Bool.or_true]
        refine ⟨[], true, false, rfl, by simp, ?_⟩
        simp only [F.cose_Claims_K2, getO_lt hk, bind_some', Bool.not_false, Bool.or_true]
        rw [hbadL]
end
theorem Claims_both (b : List UInt8) (hb : b.length ≤ 200000000000000) : ∃ R, F.cose_Claims b = some R ∧ F.ref31_Claims b = some R ∧ R.1 = [] ∧ R.2.2.2.2.2.1.length ≤ 70000 := by
  unfold F.cose_Claims F.ref31_Claims
  rw [parse_eq, refParse' b (by omega)]
  simp only [bind_some']
  rcases parse_cases b with ⟨v, hbl, hbv, hpb⟩ | ⟨e, p, he, hp0, hp1, hpb⟩
  · have hN := fine_of hbl hbv
    have hm := (itemD_moves b 32).1 _ _ _ hbv
    rw [hpb]
    have h0 : 0 < v.length := by omega
    have g0 : getO v (0 : Int) = some v[0] := getO_lt (i := 0) h0
    simp only [bne_self_eq_false, Bool.false_eq_true, if_false, g0, bind_some']
    by_cases h5 : v[0].1 = 5
    · have e5 : (v[0].1 != 5) = false := by simp [h5]
      simp only [e5, Bool.false_eq_true, if_false]
      have hU : ∀ x ∈ v, x.2.2.1.length ≤ 2000000 := fun x hx => by have := hN.2.2 x hx; omega
      have S := fun n m bad => said_both hN.wt hN.kd hU n m bad
      have T := fun n bad => time_both hN.wt hN.kd hU n bad
      obtain ⟨d1, b1, o1, r1, p1⟩ := S 1 3 false
      obtain ⟨d2, b2, o2, r2, p2⟩ := S 2 3 (false || !o1)
      obtain ⟨h4r, a4r, h4p, a4p, o4, r4, p4, q4⟩ := T 4 ((false || !o1) || !o2)
      obtain ⟨h5r, a5r, h5p, a5p, o5, r5, p5, q5⟩ := T 5 (((false || !o1) || !o2) || !o4)
      obtain ⟨h6r, a6r, h6p, a6p, o6, r6, p6, q6⟩ := T 6 ((((false || !o1) || !o2) || !o4) || !o5)
      obtain ⟨d7, b7, o7, r7, p7⟩ := S 7 2 (((((false || !o1) || !o2) || !o4) || !o5) || !o6)
      obtain ⟨l, has, o3, r3, hl3, p3⟩ := aud_both hN.wt hN.kd hU (by omega) (d1, b1, false || !o1) (d2, b2, (false || !o1) || !o2) (h4p, a4p, ((false || !o1) || !o2) || !o4) (h5p, a5p, (((false || !o1) || !o2) || !o4) || !o5)
        (h6p, a6p, ((((false || !o1) || !o2) || !o4) || !o5) || !o6) (d7, b7, (((((false || !o1) || !o2) || !o4) || !o5) || !o6) || !o7) ((((((false || !o1) || !o2) || !o4) || !o5) || !o6) || !o7)
      rw [p1, bind_some', p2, bind_some', p4, bind_some', p5, bind_some', p6, bind_some', p7, bind_some', p3, r1, bind_some', r2, bind_some', r3, bind_some', r4, bind_some', r5, bind_some', r6, bind_some', r7, bind_some']
      by_cases hall : o1 = true ∧ o2 = true ∧ o3 = true ∧ o4 = true ∧ o5 = true ∧ o6 = true ∧ o7 = true
      · obtain ⟨rfl, rfl, rfl, rfl, rfl, rfl, rfl⟩ := hall
        obtain ⟨rfl, rfl⟩ := q4 rfl
        obtain ⟨rfl, rfl⟩ := q5 rfl
        obtain ⟨rfl, rfl⟩ := q6 rfl
        exact ⟨_, rfl, rfl, rfl, by simp only; omega⟩
      · refine ⟨([], [], false, [], false, [], false, [], false, false, 0, false, 0, false, 0, 131), ?_, ?_, rfl, by simp⟩
        · cases o1 <;> cases o2 <;> cases o3 <;> cases o4 <;> cases o5 <;> cases o6 <;> cases o7 <;> first | rfl | (exfalso; simp at hall; done)
        · cases o1 <;> cases o2 <;> cases o3 <;> cases o4 <;> cases o5 <;> cases o6 <;> cases o7 <;> first | rfl | (exfalso; simp at hall; done)
    · have e5 : (v[0].1 != 5) = true := by simpa using h5
      simp only [e5, if_true]
      exact ⟨_, rfl, rfl, rfl, by simp⟩
  · have e1 : (e != 0) = true := by simpa using he
    rw [hpb]
    simp only [e1, if_true]
    exact ⟨_, rfl, rfl, rfl, by simp⟩
theorem sameT_eq (a b : List (List UInt8)) (ha : a.length < 9223372036854775807) : F.law31_sameTexts a b = some (a == b) := by
  unfold F.law31_sameTexts
  by_cases hl : a.length = b.length
  · have d0 : ((a.length : Int) != (b.length : Int)) = false := by simp [hl]
    simp only [d0, Bool.false_eq_true, if_false]
    refine same_loop hl (fun i h => ?_) ?_
    · have d1 : decide ((i : Int) < (a.length : Int)) = true := by simp; omega
      simp only [F.law31_sameTexts_L1, d1, if_true, getO_lt h, getO_lt (show i < b.length by omega), bind_some']
      rw [wI_in (by omega) (by omega)]
      rfl
    · have d1 : decide ((a.length : Int) < (a.length : Int)) = false := by simp
      simp only [F.law31_sameTexts_L1, d1, Bool.false_eq_true, if_false]
      rfl
  · have d0 : ((a.length : Int) != (b.length : Int)) = true := by simp; omega
    simp only [d0, if_true]
    congr 1
    symm
    rw [beq_eq_false_iff_ne]
    rintro rfl
    exact hl rfl
theorem roomy31 : F.law31_roomy = F.law30_roomy := rfl
theorem spared31 : F.law31_spared = F.law30_spared := rfl
theorem claims_K2 (b rest : List UInt8) (x : List UInt8 × Nat) (hx : x.2 = b.length) (hb : b.length ≤ 200000000000000) : F.law31_CoseClaims_K2 x (b ++ rest) = some true := by
  obtain ⟨R, h1, h2, h3, h4⟩ := Claims_both b hb
  simp only [F.law31_CoseClaims_K2, hx, List.take_left, h1, h2, bind_some', olet_eq, beq_self_eq_true, if_true, F.law31_sameClaims, sameT_eq _ _ (by omega : R.2.2.2.2.2.1.length < 9223372036854775807), h3, List.length_nil]
  rfl
theorem CoseClaims_true (b : List UInt8) (hb : b.length ≤ 140737488351232) : F.law31_CoseClaims b = some true := by
  obtain ⟨R, h1, h2, h3, h4⟩ := Claims_both b (by omega)
  unfold F.law31_CoseClaims
  rw [roomy31, spared31, roomy_eq b (by omega), bind_some']
  simp only [List.take_left, h1, h2, bind_some', olet_eq, bne_self_eq_false, Bool.false_eq_true, if_false]
  have hs : F.law31_sameClaims R.1 R.2.1 R.2.2.1 R.2.2.2.1 R.2.2.2.2.1 R.2.2.2.2.2.1 R.2.2.2.2.2.2.1 R.2.2.2.2.2.2.2.1 R.2.2.2.2.2.2.2.2.1 R.2.2.2.2.2.2.2.2.2.1 R.2.2.2.2.2.2.2.2.2.2.1 R.2.2.2.2.2.2.2.2.2.2.2.1 R.2.2.2.2.2.2.2.2.2.2.2.2.1 R.2.2.2.2.2.2.2.2.2.2.2.2.2.1 R.2.2.2.2.2.2.2.2.2.2.2.2.2.2.1
      R.1 R.2.1 R.2.2.1 R.2.2.2.1 R.2.2.2.2.1 R.2.2.2.2.2.1 R.2.2.2.2.2.2.1 R.2.2.2.2.2.2.2.1 R.2.2.2.2.2.2.2.2.1 R.2.2.2.2.2.2.2.2.2.1 R.2.2.2.2.2.2.2.2.2.2.1 R.2.2.2.2.2.2.2.2.2.2.2.1 R.2.2.2.2.2.2.2.2.2.2.2.2.1 R.2.2.2.2.2.2.2.2.2.2.2.2.2.1 R.2.2.2.2.2.2.2.2.2.2.2.2.2.2.1 = some true := by
    simp only [F.law31_sameClaims, beq_self_eq_true, if_true, sameT_eq _ _ (by omega : R.2.2.2.2.2.1.length < 9223372036854775807), bind_some', h3, List.length_nil]
    rfl
  rw [hs]
  simp only [bind_some', not_true_f, Bool.false_eq_true, if_false, spared_eq b (by omega), F.law31_CoseClaims_K1, List.take_left]
  by_cases h0 : b = []
  · subst h0
    simp only [List.length_nil, show decide ((0 : Int) < ((0 : Nat) : Int)) = false from rfl, Bool.false_eq_true, if_false]
    exact claims_K2 [] _ _ rfl (by simp)
  · have hpos : 0 < b.length := List.length_pos_iff.2 h0
    have e1 : decide ((0 : Int) < (b.length : Int)) = true := decide_eq_true (by omega)
    have e2 : wI (Int.tdiv (b.length : Int) 2) = ((b.length / 2 : Nat) : Int) := by rw [Int.tdiv_eq_ediv_of_nonneg (by omega), wI_in (by omega) (by omega)]; simp
    have hlt : b.length / 2 < b.length := by omega
    simp only [e1, if_true, e2, getO_lt hlt, bind_some', olet_eq, Int.toNat_natCast]
    rw [List.set_append_left _ _ hlt]
    exact claims_K2 _ _ _ (by simp) (by simp; omega)
end Go.Gk.Cb
end
