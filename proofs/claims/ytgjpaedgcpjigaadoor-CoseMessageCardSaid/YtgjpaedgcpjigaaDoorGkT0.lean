import Derived.Test.YtgjpaedgcpjigaaDoorGkQD
import Derived.Test.YtgjpaedgcpjigaaDoorGkFcose
import Derived.Test.YtgjpaedgcpjigaaDoorGkFref31
import Derived.Test.YtgjpaedgcpjigaaDoorGkFlaw31
import Derived.KernelRfl
set_option linter.unusedVariables false
set_option linter.unusedSimpArgs false

section
set_option linter.unusedSimpArgs false
set_option linter.unusedVariables false
namespace Go.Gk.Cb
open Go Go.Gk
theorem memE_at {v : List It} {wr : Wr} (key : List It) : ∀ (r i : Nat) (last : Option (List UInt8)) (t : List UInt8) (j : Nat), kidsE wr true (2 * r) true last i = some (t, j) →
    memE v wr key r i = -1 ∨ ∃ (k : Nat) (t' : List UInt8) (j' : Nat), memE v wr key r i = (k : Int) ∧ wr k = some (t', j')
  | 0, i, last, t, j, h => .inl rfl
  | r + 1, i, last, t, j, h1 => by
    rw [show 2 * (r + 1) = 2 * r + 1 + 1 by omega] at h1
    simp only [kidsE] at h1
    cases h4 : wr i with
    | none => rw [h4] at h1; cases h1
    | some a =>
      obtain ⟨t1, j1⟩ := a
      rw [h4] at h1
      simp only [Bool.true_and, Bool.not_true, Bool.false_and, Bool.and_false, Bool.false_eq_true, if_false, if_true] at h1
      split at h1
      · cases h1
      · cases h5 : wr j1 with
        | none => rw [h5] at h1; cases h1
        | some b =>
          obtain ⟨t2, j2⟩ := b
          rw [h5] at h1
          simp only [Bool.not_false] at h1
          cases h6 : kidsE wr true (2 * r) true (some t1) j2 with
          | none => rw [h6] at h1; cases h1
          | some e =>
            obtain ⟨u, k⟩ := e
            simp only [memE, h4, h5]
            split
            · exact .inr ⟨j1, t2, j2, rfl, h5⟩
            · exact memE_at key r j2 _ u k h6
theorem at_item {v : List It} {d k j : Nat} {t : List UInt8} (h : encD d v k = some (t, j)) : ∃ hk : k < v.length, fitE v[k] ∧ 0 ≤ v[k].2.2.2 ∧ k + 1 + v[k].2.2.2.toNat ≤ j ∧ j ≤ v.length := by
  have hp := encD_put v d k t j h
  have hk : k < v.length := by omega
  have key : ∀ sub, (∀ wr, sub = some wr → Put v wr) → itemE v sub k = some (t, j) → fitE v[k] ∧ 0 ≤ v[k].2.2.2 ∧ k + 1 + v[k].2.2.2.toNat ≤ j := by
    intro sub hsub h1
    unfold itemE at h1
    rw [List.getElem?_eq_getElem hk] at h1
    simp only at h1
    split at h1
    · cases h1
    · rename_i hf
      have hf' := Classical.not_not.1 hf
      obtain ⟨k0, kz⟩ := fit_kids hf'
      split at h1
      · cases sub with
        | none => cases h1
        | some wr =>
          simp only at h1
          split at h1
          · cases h1
          · rename_i t1 j1 hk1
            cases h1
            have := kidsE_put (hsub wr rfl) _ _ _ _ _ _ _ (by omega) hk1
            exact ⟨hf', k0, by omega⟩
      · rename_i hk1
        cases h1
        have := kz hk1
        exact ⟨hf', k0, by omega⟩
  refine ⟨hk, ?_⟩
  cases d with
  | zero =>
    obtain ⟨a, b, c⟩ := key none (by simp) h
    exact ⟨a, b, c, by omega⟩
  | succ d =>
    obtain ⟨a, b, c⟩ := key (some (encD d v)) (by intro wr hw; cases hw; exact encD_put v d) h
    exact ⟨a, b, c, by omega⟩
theorem contains1 (a x : Int) : F.slices_Contains_int_int [a] x = some (x == a) := by
  unfold F.slices_Contains_int_int F.slices_Index_int_int
  by_cases h : x = a
  · have hs : F.slices_Index_int_int_L1 [a] x 0 = some (.inr 0) := by
      simp [F.slices_Index_int_int_L1, getO, h]; rfl
    rw [loop_inr hs, bind_some']; simp [h]
  · have hs : F.slices_Index_int_int_L1 [a] x 0 = some (.inl 1) := by
      simp [F.slices_Index_int_int_L1, getO, h]; rfl
    have hs1 : F.slices_Index_int_int_L1 [a] x 1 = some (.inr (-1)) := rfl
    rw [loop_inl hs, loop_inr hs1, bind_some']; simp [h]
theorem contains2 (a b x : Int) : F.slices_Contains_int_int [a, b] x = some (x == a || x == b) := by
  unfold F.slices_Contains_int_int F.slices_Index_int_int
  by_cases h : x = a
  · have hs : F.slices_Index_int_int_L1 [a, b] x 0 = some (.inr 0) := by
      simp [F.slices_Index_int_int_L1, getO, h]; rfl
    rw [loop_inr hs, bind_some']; simp [h]
  · have hs : F.slices_Index_int_int_L1 [a, b] x 0 = some (.inl 1) := by
      simp [F.slices_Index_int_int_L1, getO, h]; rfl
    by_cases h2 : x = b
    · have hs1 : F.slices_Index_int_int_L1 [a, b] x 1 = some (.inr 1) := by
        simp [F.slices_Index_int_int_L1, getO, h2]; rfl
      rw [loop_inl hs, loop_inr hs1, bind_some']; simp [h2]
    · have hs1 : F.slices_Index_int_int_L1 [a, b] x 1 = some (.inl 2) := by
        simp [F.slices_Index_int_int_L1, getO, h2]; rfl
      have hs2 : F.slices_Index_int_int_L1 [a, b] x 2 = some (.inr (-1)) := rfl
      rw [loop_inl hs, loop_inl hs1, loop_inr hs2, bind_some']; simp [h, h2]
section
variable {v : List It} (hw : wt v ≤ 4000000000000) (hK : Kd v) (hU : ∀ x ∈ v, x.2.2.1.length ≤ 2000000)
include hw hK hU
end
end Go.Gk.Cb
end

section
set_option linter.unusedSimpArgs false
set_option linter.unusedVariables false
namespace Go.Gk.Cb
open Go Go.Gk
def textsD (v : List It) : Nat → Nat → Option (List (List UInt8))
  | _, 0 => some []
  | p, r + 1 => match v[p]? with
    | none => none
    | some x => if x.1 = 3 then (match textsD v (p + 1) r with
      | none => none
      | some l => some (x.2.2.1 :: l)) else none
abbrev SD := List UInt8 × Bool × Bool
abbrev TM := Bool × Int × Bool
section
variable {v : List It}
end
section
variable {v : List It} (hw : wt v ≤ 4000000000000) (hK : Kd v) (hU : ∀ x ∈ v, x.2.2.1.length ≤ 2000000)
include hw hK hU
end
theorem same31 : F.law31_same = F.law30_sameBytes := rfl
end Go.Gk.Cb
end

section
set_option linter.unusedSimpArgs false
set_option linter.unusedVariables false
set_option linter.unusedSectionVars false
namespace Go.Gk.Cb
open Go Go.Gk
theorem memE_pos {v : List It} {wr : Wr} {key : List It} : ∀ {r i : Nat}, 0 ≤ memE v wr key r i → 1 ≤ r
  | 0, i, h => by simp [memE] at h
  | r + 1, i, h => by omega
theorem memE_two {v : List It} {wr : Wr} {k1 k2 : List It} (hk : k1 ≠ k2) : ∀ {r i : Nat}, 0 ≤ memE v wr k1 r i → 0 ≤ memE v wr k2 r i → 2 ≤ r
  | 0, i, h, _ => by simp [memE] at h
  | 1, i, h, h2 => by
    exfalso
    simp only [memE] at h h2
    cases h4 : wr i with
    | none => simp [h4] at h
    | some a =>
      obtain ⟨t, j⟩ := a
      simp only [h4] at h h2
      cases h5 : wr j with
      | none =>
        simp only [h5] at h h2
        by_cases e1 : seg v i j = k1
        · by_cases e2 : seg v i j = k2
          · exact hk (e1.symm.trans e2)
          · simp [e2] at h2
        · simp [e1] at h
      | some b =>
        obtain ⟨t2, j2⟩ := b
        simp only [h5] at h h2
        by_cases e1 : seg v i j = k1
        · by_cases e2 : seg v i j = k2
          · exact hk (e1.symm.trans e2)
          · simp [e2] at h2
        · simp [e1] at h
  | r + 2, i, _, _ => by omega
section
variable {v : List It} (hw : wt v ≤ 4000000000000) (hK : Kd v) (hU : ∀ x ∈ v, x.2.2.1.length ≤ 2000000)
include hw hK hU
theorem Member_form (p : Int) : (∀ key, F.cbor_Member v p key = some (-1) ∧ F.ref30_Member v p key = some (-1)) ∨
    ∃ (a d K k : Nat) (u : List UInt8) (ha : a < v.length), p = (a : Int) ∧ v[a].1 = 5 ∧ v[a].2.2.2 = ((2 * K : Nat) : Int) ∧ d ≤ 32 ∧ kidsE (encD d v) true (2 * K) true none (a + 1) = some (u, k) ∧
      ∀ key, F.cbor_Member v p key = some (memE v (encD d v) key K (a + 1)) ∧ F.ref30_Member v p key = some (memE v (encD d v) key K (a + 1)) := by
  have hl := wt_len v
  unfold F.cbor_Member F.ref30_Member
  rw [shaped_eq hw hK, refShaped_eq hw hK hU]
  simp only [bind_some']
  by_cases h0 : p < 0
  · have e0 : decide (p < 0) = true := by simpa using h0
    refine .inl fun key => ⟨by simp only [e0, if_true, F.cbor_Member_K1], ?_⟩
    simp only [e0, if_true, F.ref30_Member_K1, ite_self]
  · have e0 : decide (p < 0) = false := by simpa using h0
    obtain ⟨a, rfl⟩ := Int.eq_ofNat_of_zero_le (Int.not_lt.1 h0)
    by_cases h1 : v.length ≤ a
    · have e1 : decide ((v.length : Int) ≤ (a : Int)) = true := by simp; omega
      refine .inl fun key => ⟨by simp only [e0, e1, if_true, Bool.false_eq_true, if_false, F.cbor_Member_K1], ?_⟩
      simp only [e0, e1, if_true, Bool.false_eq_true, if_false, F.ref30_Member_K1, ite_self]
    · have e1 : decide ((v.length : Int) ≤ (a : Int)) = false := by simp; omega
      have ha : a < v.length := by omega
      simp only [e0, e1, Bool.false_eq_true, if_false, getO_lt ha, bind_some']
      by_cases h5 : v[a].1 = 5
      · have e5 : (v[a].1 != 5) = false := by simp [h5]
        simp only [e5, Bool.false_eq_true, if_false]
        cases hs : shapedD v with
        | false => exact .inl fun key => ⟨by simp only [Bool.not_false, F.cbor_Member_K1, if_true], by simp only [Bool.not_false, F.ref30_Member_K1, if_true]⟩
        | true =>
          obtain ⟨d, t, k, hd, he⟩ := at_shaped hs ha
          obtain ⟨d', u, rfl, hk, hk0, hk2⟩ := map_kids he ha h5
          obtain ⟨K, hKv⟩ : ∃ K : Nat, v[a].2.2.2 = ((2 * K : Nat) : Int) := ⟨(v[a].2.2.2 / 2).toNat, by omega⟩
          rw [hKv, Int.toNat_natCast] at hk
          have hkd := hK v[a] (List.getElem_mem ha)
          have hdiv : wI (Int.tdiv v[a].2.2.2 2) = (K : Int) := by
            rw [hKv, Int.tdiv_eq_ediv_of_nonneg (by omega), wI_in (by omega) (by omega)]; omega
          have ha1 : wI ((a : Int) + 1) = ((a + 1 : Nat) : Int) := by rw [wI_in (by omega) (by omega)]; simp
          refine .inr ⟨a, d', K, k, u, ha, rfl, h5, hKv, by omega, hk, fun key => ⟨?_, ?_⟩⟩
          · simp only [Bool.not_true, F.cbor_Member_K1, Bool.false_eq_true, if_false, getO_lt ha, bind_some', ha1]
            exact member_cbor (by omega) (by omega) key v[a] K hdiv (by omega) K 0 (a + 1) none u k hk (by omega) (by omega)
          · simp only [Bool.not_true, F.ref30_Member_K1, Bool.false_eq_true, if_false, ha1]
            exact member_ref (by omega) (by omega) key a ha K hdiv (by omega) K 0 (a + 1) none u k hk (by omega) (by omega)
      · have e5 : (v[a].1 != 5) = true := by simpa using h5
        refine .inl fun key => ⟨by simp only [e5, if_true, F.cbor_Member_K1], ?_⟩
        simp only [e5, F.ref30_Member_K1, if_true, ite_self]
theorem keys_at (p : Int) : ∃ q1 q4 : Int, F.cbor_Member v p [(0, 1, [], 0)] = some q1 ∧ F.ref31_value v p 1 = some q1 ∧ F.cbor_Member v p [(0, 4, [], 0)] = some q4 ∧ F.ref31_value v p 4 = some q4 ∧
    (q1 = -1 ∨ ∃ k : Nat, k < v.length ∧ q1 = (k : Int)) ∧ (q4 = -1 ∨ ∃ k : Nat, k < v.length ∧ q4 = (k : Int)) ∧
    ∀ (a : Nat) (ha : a < v.length), p = (a : Int) → (v[a].1 ≠ 5 → q1 = -1 ∧ q4 = -1) ∧ (0 ≤ q1 → 2 ≤ v[a].2.2.2) ∧ (0 ≤ q1 → 0 ≤ q4 → 4 ≤ v[a].2.2.2) := by
  rcases Member_form hw hK hU p with h | ⟨a, d, K, k, u, ha, rfl, h5, hKv, hd, hk, h⟩
  · refine ⟨-1, -1, (h _).1, by unfold F.ref31_value; rw [(h _).2]; rfl, (h _).1, by unfold F.ref31_value; rw [(h _).2]; rfl, .inl rfl, .inl rfl, fun a ha _ => ⟨fun _ => ⟨rfl, rfl⟩, fun h => ?_, fun h => ?_⟩⟩ <;> omega
  · have at' : ∀ key, memE v (encD d v) key K (a + 1) = -1 ∨ ∃ k : Nat, k < v.length ∧ memE v (encD d v) key K (a + 1) = (k : Int) := fun key => by
      rcases memE_at key K (a + 1) none u k hk with h | ⟨k', t', j', h, h'⟩
      · exact .inl h
      · exact .inr ⟨k', (at_item h').1, h⟩
    refine ⟨_, _, (h _).1, by unfold F.ref31_value; rw [(h _).2]; rfl, (h _).1, by unfold F.ref31_value; rw [(h _).2]; rfl, at' _, at' _, fun a' ha' e => ?_⟩
    have : a' = a := by omega
    subst this
    refine ⟨fun hn => absurd h5 hn, fun h1 => ?_, fun h1 h4 => ?_⟩
    · have := memE_pos h1; omega
    · have := memE_two (by simp) h1 h4; omega
def dat (v : List It) (q : Int) : List UInt8 := if 0 ≤ q then ((v[q.toNat]?).map (·.2.2.1)).getD [] else []
theorem kid_eq (p q4 : Int) (h : F.ref31_value v p 4 = some q4) (hq : q4 = -1 ∨ ∃ k : Nat, k < v.length ∧ q4 = (k : Int)) :
    ∃ ok, F.ref31_kid v p = some (dat v q4, decide (0 ≤ q4), ok) ∧ (q4 = -1 → ok = true) ∧ ∀ (k : Nat) (hk : k < v.length), q4 = (k : Int) → ok = (v[k].1 == 2) := by
  unfold F.ref31_kid
  rw [h, bind_some']
  rcases hq with rfl | ⟨k, hk, rfl⟩
  · refine ⟨true, rfl, fun _ => rfl, fun k hk e => ?_⟩; omega
  · have e1 : decide ((k : Int) < 0) = false := decide_eq_false (by omega)
    have e2 : decide ((0 : Int) ≤ (k : Int)) = true := decide_eq_true (by omega)
    have ed : dat v (k : Int) = v[k].2.2.1 := by simp [dat, hk]
    refine ⟨v[k].1 == 2, by simp only [e1, Bool.false_eq_true, if_false, getO_lt hk, bind_some', e2, ed], fun h => by omega, fun k' hk' e => ?_⟩
    have : k' = k := by omega
    subst this; rfl
theorem header_eq (a : Nat) (ha : a < v.length) (hv : v.length ≤ 100000000000) : ∃ q1 q4 ok, F.ref31_value v (a : Int) 1 = some q1 ∧ F.ref31_kid v (a : Int) = some (dat v q4, decide (0 ≤ q4), ok) ∧
    F.cose_header v (a : Int) = some (q1, q4, (v[a].2.2.2 == 2 * ((if 0 ≤ q1 then 1 else 0) + (if 0 ≤ q4 then 1 else 0))) && ok) ∧
    (q1 = -1 ∨ ∃ k : Nat, k < v.length ∧ q1 = (k : Int)) ∧ (q4 = -1 ∨ ∃ k : Nat, k < v.length ∧ q4 = (k : Int)) ∧
    (v[a].1 ≠ 5 → q1 = -1 ∧ q4 = -1) ∧ (0 ≤ q1 → 2 ≤ v[a].2.2.2) ∧ (0 ≤ q1 → 0 ≤ q4 → 4 ≤ v[a].2.2.2) := by
  obtain ⟨q1, q4, c1, r1, c4, r4, h1, h4, hA⟩ := keys_at hw hK hU (a : Int)
  obtain ⟨ok, hk, ok1, ok2⟩ := kid_eq hw hK hU (a : Int) q4 r4 h4
  refine ⟨q1, q4, ok, r1, hk, ?_, h1, h4, hA a ha rfl⟩
  have s1 : ∀ n : Int, 0 ≤ n → n ≤ 5 → F.signet_cose_header_1 1 v (a : Int) n = some (q1, (a : Int), n + (if 0 ≤ q1 then 1 else 0)) := fun n hn hn2 => by
    unfold F.signet_cose_header_1
    rw [c1, bind_some']
    by_cases h : 0 ≤ q1
    · simp only [h, decide_true, if_true, F.signet_cose_header_1_K1, wI_in (show -9223372036854775808 ≤ n + 1 by omega) (by omega)]
    · simp only [h, decide_false, Bool.false_eq_true, if_false, F.signet_cose_header_1_K1, Int.add_zero]
  have s4 : ∀ n : Int, 0 ≤ n → n ≤ 5 → F.signet_cose_header_1 4 v (a : Int) n = some (q4, (a : Int), n + (if 0 ≤ q4 then 1 else 0)) := fun n hn hn2 => by
    unfold F.signet_cose_header_1
    rw [c4, bind_some']
    by_cases h : 0 ≤ q4
    · simp only [h, decide_true, if_true, F.signet_cose_header_1_K1, wI_in (show -9223372036854775808 ≤ n + 1 by omega) (by omega)]
    · simp only [h, decide_false, Bool.false_eq_true, if_false, F.signet_cose_header_1_K1, Int.add_zero]
  unfold F.cose_header
  have hn1 : 0 ≤ (0 : Int) + (if 0 ≤ q1 then 1 else 0) ∧ (0 : Int) + (if 0 ≤ q1 then 1 else 0) ≤ 1 := by split <;> omega
  have hn4 : 0 ≤ (0 : Int) + (if 0 ≤ q1 then 1 else 0) + (if 0 ≤ q4 then 1 else 0) ∧ (0 : Int) + (if 0 ≤ q1 then 1 else 0) + (if 0 ≤ q4 then 1 else 0) ≤ 2 := by
    split <;> split <;> omega
  rw [s1 0 (by omega) (by omega), bind_some', s4 _ hn1.1 (by omega), bind_some']
  simp only [getO_lt ha, bind_some']
  rw [wI_in (by omega) (by omega), Int.zero_add]
  cases he : (v[a].2.2.2 == 2 * ((if 0 ≤ q1 then 1 else 0) + (if 0 ≤ q4 then 1 else 0)))
  · simp
  · simp only [if_true, Bool.true_and]
    rcases h4 with rfl | ⟨k, hk4, rfl⟩
    · rw [ok1 rfl]; rfl
    · have e1 : decide ((k : Int) < 0) = false := decide_eq_false (by omega)
      simp only [e1, Bool.false_eq_true, if_false, getO_lt hk4, bind_some', ok2 k hk4 rfl]
end
theorem arr_kids {v : List It} {d a k : Nat} {t : List UInt8} (h : encD d v a = some (t, k)) (ha : a < v.length) (h4 : v[a].1 = 4) :
    ∃ d' u, d = d' + 1 ∧ kidsE (encD d' v) false v[a].2.2.2.toNat true none (a + 1) = some (u, k) := by
  have key : ∀ sub, itemE v sub a = some (t, k) → ∃ wr u, sub = some wr ∧ kidsE wr false v[a].2.2.2.toNat true none (a + 1) = some (u, k) := by
    intro sub h1
    unfold itemE at h1
    rw [List.getElem?_eq_getElem ha] at h1
    simp only at h1
    split at h1
    · cases h1
    · rw [if_pos (by omega)] at h1
      cases sub with
      | none => cases h1
      | some wr =>
        simp only at h1
        have e5 : (v[a].1 == 5) = false := by rw [h4]; rfl
        rw [e5] at h1
        split at h1
        · cases h1
        · rename_i t1 j1 hk
          cases h1
          exact ⟨wr, t1, rfl, hk⟩
  cases d with
  | zero => obtain ⟨wr, u, h1, _⟩ := key none h; cases h1
  | succ d =>
    obtain ⟨wr, u, h1, h2⟩ := key _ h
    cases h1
    exact ⟨d, u, rfl, h2⟩
theorem bytes_next {v : List It} {d a k : Nat} {t : List UInt8} (h : encD d v a = some (t, k)) (ha : a < v.length) (h2 : v[a].1 = 2) : k = a + 1 := by
  have key : ∀ sub, itemE v sub a = some (t, k) → k = a + 1 := by
    intro sub h1
    unfold itemE at h1
    rw [List.getElem?_eq_getElem ha] at h1
    simp only at h1
    split at h1
    · cases h1
    · rw [if_neg (by omega)] at h1
      cases h1; rfl
  cases d with
  | zero => exact key none h
  | succ d => exact key _ h
theorem kidsE_step {rec : Wr} {r : Nat} {b : Bool} {l : Option (List UInt8)} {i k : Nat} {u : List UInt8} (h : kidsE rec false (r + 1) b l i = some (u, k)) : ∃ t j u', rec i = some (t, j) ∧ kidsE rec false r (!b) l j = some (u', k) := by
  simp only [kidsE, Bool.false_and, Bool.false_eq_true, if_false] at h
  cases h1 : rec i with
  | none => rw [h1] at h; cases h
  | some a =>
    obtain ⟨t, j⟩ := a
    rw [h1] at h
    simp only at h
    cases h2 : kidsE rec false r (!b) l j with
    | none => rw [h2] at h; cases h
    | some e =>
      obtain ⟨u', k'⟩ := e
      rw [h2] at h
      cases h
      exact ⟨t, j, u', rfl, h2⟩
theorem msg_kids {v : List It} (hs : shapedD v = true) {a : Nat} (ha : a < v.length) (h4 : v[a].1 = 4) (hn : v[a].2.2.2 = 4) (h1 : a + 1 < v.length) (h2 : v[a + 1].1 = 2) :
    ∃ d t j, d ≤ 32 ∧ encD d v (a + 2) = some (t, j) ∧ j + 1 < v.length ∧ a + 2 < v.length := by
  obtain ⟨d, t, k, hd, he⟩ := at_shaped hs ha
  obtain ⟨d', u, rfl, hk⟩ := arr_kids he ha h4
  rw [hn] at hk
  obtain ⟨t1, j1, u1, e1, k1⟩ := kidsE_step (r := 3) hk
  obtain ⟨t2, j2, u2, e2, k2⟩ := kidsE_step (r := 2) k1
  obtain ⟨t3, j3, u3, e3, k3⟩ := kidsE_step (r := 1) k2
  obtain ⟨t4, j4, u4, e4, k4⟩ := kidsE_step (r := 0) k3
  have := bytes_next e1 h1 h2
  subst this
  have p2 := encD_put v d' _ _ _ e2
  have p3 := encD_put v d' _ _ _ e3
  have p4 := encD_put v d' _ _ _ e4
  exact ⟨d', t2, j2, by omega, e2, by omega, by omega⟩
theorem arr_room {v : List It} (hs : shapedD v = true) {a : Nat} (ha : a < v.length) : 0 ≤ v[a].2.2.2 ∧ a + 1 + v[a].2.2.2.toNat ≤ v.length ∧ fitE v[a] := by
  obtain ⟨d, t, k, hd, he⟩ := at_shaped hs ha
  obtain ⟨_, b, c, e, f⟩ := at_item he
  exact ⟨c, by omega, b⟩
section
variable {v : List It} (hw : wt v ≤ 4000000000000) (hK : Kd v) (hU : ∀ x ∈ v, x.2.2.1.length ≤ 2000000)
include hw hK hU
theorem Behind_at (hs : shapedD v = true) {a d j : Nat} {t : List UInt8} (ha : a < v.length) (hd : d ≤ 32) (he : encD d v a = some (t, j)) : F.cbor_Behind v (a : Int) = some (j : Int) ∧ F.ref30_Behind v (a : Int) = some (j : Int) := by
  have hl := wt_len v
  unfold F.cbor_Behind F.ref30_Behind
  rw [shaped_eq hw hK, refShaped_eq hw hK hU]
  simp only [bind_some', hs, Bool.not_true, Bool.false_eq_true, if_false]
  have e0 : decide ((a : Int) < 0) = false := decide_eq_false (by omega)
  have : decide ((v.length : Int) ≤ (a : Int)) = false := by simp; omega
  exact ⟨by simp only [e0, this, Bool.false_eq_true, if_false, F.cbor_Behind_K1, behind_cbor (by omega) hd he, bind_some'], by simp only [e0, this, Bool.false_eq_true, if_false, F.ref30_Behind_K1, behind_ref (by omega) hd he, bind_some']⟩
end
end Go.Gk.Cb
end

section
set_option linter.unusedSimpArgs false
set_option linter.unusedVariables false
namespace Go.Gk.Cb
open Go Go.Gk
theorem alg_both (x : It) : F.ref31_alg x.1 x.2.1 x.2.2.1 x.2.2.2 = (if x.1 = 1 then F.cose_algorithm x.2.1 else some 0) := by
  unfold F.ref31_alg F.cose_algorithm
  by_cases h1 : x.1 = 1
  · have e1 : (x.1 != 1) = false := by simp [h1]
    rw [e1, if_pos h1]
    simp only [Bool.false_eq_true, if_false]
    have key : ∀ k : Fin 300, ∀ n : UInt64, n = UInt64.ofNat k.val → True := fun _ _ _ => trivial
    by_cases a1 : x.2.1 = 6
    · simp [a1]
    by_cases a2 : x.2.1 = 34
    · simp [a2]
    by_cases a3 : x.2.1 = 7
    · simp [a3]
    by_cases a4 : x.2.1 = 36
    · rw [a4]; decide
    by_cases a5 : x.2.1 = 37
    · rw [a5]; decide
    by_cases a6 : x.2.1 = 38
    · rw [a6]; decide
    by_cases a7 : x.2.1 = 256
    · rw [a7]; decide
    by_cases a8 : x.2.1 = 257
    · rw [a8]; decide
    by_cases a9 : x.2.1 = 258
    · rw [a9]; decide
    simp [a1, a2, a3, a4, a5, a6, a7, a8, a9, F.ref31_alg_K1, F.ref31_alg_K2]
  · have e1 : (x.1 != 1) = true := by simpa using h1
    rw [e1, if_neg h1, if_pos rfl]
theorem saidS_eq (m : Nat) (hm : m < 8) (b : List UInt8) (hb : b.length ≤ 100000000) : F.ref31_said (m : Int) b = some (hd m (UInt64.ofNat b.length) ++ b) := by
  have := hd_len9 m (UInt64.ofNat b.length)
  unfold F.ref31_said
  rw [ofInt64, refHead_eq m hm, bind_some', sadO_ok (by omega), bind_some']
theorem ofInt8 (n : Nat) : UInt8.ofInt (n : Int) = UInt8.ofNat n := by
  apply UInt8.toNat_inj.1
  simp [UInt8.ofInt]
  omega
theorem byte_at (n k : Nat) (hk : k ≤ 64) (hn : n < 4294967296) : UInt8.ofInt (iShr (n : Int) k) = (shr64 (UInt64.ofNat n) k).toUInt8 := by
  have e : iShr (n : Int) k = ((n / 2 ^ k : Nat) : Int) := by
    unfold iShr
    have h2 : (2 : Int) ^ k = ((2 ^ k : Nat) : Int) := by simp
    rw [Nat.min_eq_left hk, h2, Int.fdiv_eq_ediv_of_nonneg _ (Int.natCast_nonneg _), Int.natCast_ediv]
  rw [e, ofInt8]
  apply UInt8.toNat_inj.1
  have hle : n / 2 ^ k ≤ n := Nat.div_le_self _ _
  unfold shr64
  rw [Nat.min_eq_left hk]
  simp only [UInt8.toNat_ofNat', UInt64.toNat_toUInt8, UInt64.toNat_ofNat']
  rw [Nat.mod_eq_of_lt (show n < 2 ^ 64 by omega), Nat.mod_eq_of_lt (show n / 2 ^ k < 2 ^ 64 by omega)]
theorem byte_0 (n : Nat) (hn : n < 4294967296) : UInt8.ofInt (n : Int) = (shr64 (UInt64.ofNat n) 0).toUInt8 := by
  have := byte_at n 0 (by omega) hn
  rwa [show iShr (n : Int) 0 = (n : Int) by simp [iShr]] at this
theorem lf0 : ∀ (m : Fin 8) (k : Fin 24), (shl8 (UInt8.ofNat m.val) 5) ||| (UInt8.ofInt (k.val : Int)) = UInt8.ofNat (32 * m.val) + (UInt64.ofNat k.val).toUInt8 := by decide
theorem lf1 : ∀ (m : Fin 8), (shl8 (UInt8.ofNat m.val) 5) ||| 24 = UInt8.ofNat (32 * m.val + 24 + 0) := by decide
theorem lf2 : ∀ (m : Fin 8), (shl8 (UInt8.ofNat m.val) 5) ||| 25 = UInt8.ofNat (32 * m.val + 24 + 1) := by decide
theorem lf3 : ∀ (m : Fin 8), (shl8 (UInt8.ofNat m.val) 5) ||| 26 = UInt8.ofNat (32 * m.val + 24 + 2) := by decide
theorem u64_lt (n c : Nat) (hn : n < 4294967296) (hc : c < 18446744073709551616) : (UInt64.ofNat n < UInt64.ofNat c) = (n < c) := by
  rw [UInt64.lt_iff_toNat_lt, UInt64.toNat_ofNat', UInt64.toNat_ofNat', Nat.mod_eq_of_lt (by omega), Nat.mod_eq_of_lt (by omega)]
theorem laid_eq (m : Fin 8) (out b : List UInt8) (ho : out.length ≤ 1000000000) (hb : b.length < 1000000000) : F.cose_laid out (UInt8.ofNat m.val) b = some (out ++ hd m.val (UInt64.ofNat b.length) ++ b) := by
  have w24 := u64_lt b.length 24 (by omega) (by omega)
  have w256 := u64_lt b.length 256 (by omega) (by omega)
  have w65536 := u64_lt b.length 65536 (by omega) (by omega)
  have w32 := u64_lt b.length 4294967296 (by omega) (by omega)
  have c : ∀ (h : List UInt8), h.length ≤ 10 → obind (apO 1 out h) (fun x => F.cose_laid_K1 b x) = some (out ++ h ++ b) := fun h hh => by
    rw [apO_ok (by simp; omega), bind_some']
    show obind (apO 1 (out ++ h) b) (fun x => some x) = _
    rw [apO_ok (by simp; omega), bind_some']
  unfold F.cose_laid hd wd
  by_cases h1 : b.length < 24
  · have e1 : decide ((b.length : Int) < 24) = true := decide_eq_true (by omega)
    rw [e1, if_pos rfl, c _ (by simp)]
    have : (UInt64.ofNat b.length < 24) := by rw [show (24 : UInt64) = UInt64.ofNat 24 from rfl, w24]; exact h1
    rw [if_pos this, if_pos rfl, lf0 m ⟨b.length, h1⟩]
  have e1 : decide ((b.length : Int) < 24) = false := decide_eq_false (by omega)
  have n1 : ¬ (UInt64.ofNat b.length < 24) := by rw [show (24 : UInt64) = UInt64.ofNat 24 from rfl, w24]; exact h1
  rw [e1, if_neg n1]
  simp only [Bool.false_eq_true, if_false]
  by_cases h2 : b.length < 256
  · have e2 : decide ((b.length : Int) < 256) = true := decide_eq_true (by omega)
    rw [e2, if_pos rfl, c _ (by simp)]
    have : (UInt64.ofNat b.length < 256) := by rw [show (256 : UInt64) = UInt64.ofNat 256 from rfl, w256]; exact h2
    rw [if_pos this, if_neg (by omega), lf1 m, byte_0 _ (by omega)]
    rfl
  have e2 : decide ((b.length : Int) < 256) = false := decide_eq_false (by omega)
  have n2 : ¬ (UInt64.ofNat b.length < 256) := by rw [show (256 : UInt64) = UInt64.ofNat 256 from rfl, w256]; exact h2
  rw [e2, if_neg n2]
  simp only [Bool.false_eq_true, if_false]
  by_cases h3 : b.length < 65536
  · have e3 : decide ((b.length : Int) < 65536) = true := decide_eq_true (by omega)
    rw [e3, if_pos rfl, c _ (by simp)]
    have : (UInt64.ofNat b.length < 65536) := by rw [show (65536 : UInt64) = UInt64.ofNat 65536 from rfl, w65536]; exact h3
    rw [if_pos this, if_neg (by omega), lf2 m, byte_0 _ (by omega), byte_at _ 8 (by omega) (by omega)]
    rfl
  have e3 : decide ((b.length : Int) < 65536) = false := decide_eq_false (by omega)
  have n3 : ¬ (UInt64.ofNat b.length < 65536) := by rw [show (65536 : UInt64) = UInt64.ofNat 65536 from rfl, w65536]; exact h3
  rw [e3, if_neg n3]
  simp only [Bool.false_eq_true, if_false]
  have : (UInt64.ofNat b.length < 4294967296) := by rw [show (4294967296 : UInt64) = UInt64.ofNat 4294967296 from rfl, w32]; omega
  rw [c _ (by simp), if_pos this, if_neg (by omega), lf3 m, byte_0 _ (by omega), byte_at _ 8 (by omega) (by omega), byte_at _ 16 (by omega) (by omega), byte_at _ 24 (by omega) (by omega)]
  rfl
end Go.Gk.Cb
end

section
set_option linter.unusedSimpArgs false
set_option linter.unusedVariables false
set_option linter.unusedSectionVars false
namespace Go.Gk.Cb
open Go Go.Gk
theorem w0 : wI (2 * 0) = 0 := by decide
theorem w2 : wI (2 * 1) = 2 := by decide
theorem w4 : wI (2 * 2) = 4 := by decide
def RB (x : Option (Int × List UInt8 × List UInt8 × List UInt8 × List UInt8 × Int)) (y : Option (List UInt8 × List UInt8 × List UInt8 × List UInt8 × Int × Int)) : Prop :=
  ∃ alg p k z s st, x = some (alg, p, k, z, s, st) ∧ y = some (p, k, z, s, alg, st) ∧ p.length ≤ 2000000 ∧ k.length ≤ 2000000 ∧ z.length ≤ 2000000 ∧ s.length ≤ 2000000
theorem RB.fail (e : Int) : RB (some (0, [], [], [], [], e)) (some ([], [], [], [], 0, e)) := ⟨0, [], [], [], [], e, rfl, rfl, by simp, by simp, by simp, by simp⟩
theorem fin_both {v' : List It} {x26 x27 x28 : It} {n1 n2 : Int} {k1 : Nat} (hk1 : k1 < v'.length) {q4 : Int} {ok : Bool} {K : List UInt8} (hK : K.length ≤ 2000000) (h26 : x26.2.2.1.length ≤ 2000000) (h27 : x27.2.2.1.length ≤ 2000000) (h28 : x28.2.2.1.length ≤ 2000000)
    {x37 x46 : List UInt8 × Bool × Bool} (hKK : x37.1 ++ x46.1 = K) :
    RB (F.cose_read_K5 (v', n1, n2) ((k1 : Int), q4, ok) x26 x27 x28 K) (F.ref31_split_K7 x26 x27 x28 (v', n1, n2) (k1 : Int) x37 x46 false) := by
  have hlen : x37.1.length + x46.1.length ≤ 9223372036854775807 := by
    have := congrArg List.length hKK
    simp at this; omega
  simp only [F.cose_read_K5, F.ref31_split_K7, Bool.false_eq_true, if_false, sadO_ok hlen, bind_some', getO_lt hk1, hKK]
  rw [alg_both]
  by_cases h1 : v'[k1].1 = 1
  · have e1 : (v'[k1].1 == 1) = true := by simpa using h1
    rw [e1, if_pos rfl, if_pos h1]
    obtain ⟨r, hr⟩ : ∃ r, F.cose_algorithm v'[k1].2.1 = some r := ⟨_, rfl⟩
    rw [hr, bind_some', bind_some']
    unfold F.cose_read_K6
    by_cases h0 : r = 0
    · subst h0; exact RB.fail 111
    · have e0 : (r == 0) = false := by simpa using h0
      simp only [e0, Bool.false_eq_true, if_false]
      exact ⟨_, _, _, _, _, _, rfl, rfl, h26, hK, h27, h28⟩
  · have e1 : (v'[k1].1 == 1) = false := by simpa using h1
    rw [e1, if_neg h1, bind_some']
    exact RB.fail 111
theorem dat_neg (v : List It) : dat v (-1) = [] := rfl
theorem dat_at {v : List It} {k : Nat} (hk : k < v.length) : dat v (k : Int) = v[k].2.2.1 := by simp [dat, hk]
section
variable {v : List It} (hw : wt v ≤ 4000000000000) (hK : Kd v) (hU : ∀ x ∈ v, x.2.2.1.length ≤ 2000000)
include hw hK hU
theorem K3_both (a j : Nat) (h1 : a + 1 < v.length) (h2 : a + 2 < v.length) (hj : j + 1 < v.length) (hv : v.length ≤ 100000000000) :
    RB (F.cose_read_K3 v (a : Int) (j : Int) false) (F.ref31_split_K3 v (a : Int) (j : Int) false) := by
  have a1 : wI ((a : Int) + 1) = ((a + 1 : Nat) : Int) := by rw [wI_in (by omega) (by omega)]; simp
  have a2 : wI ((a : Int) + 2) = ((a + 2 : Nat) : Int) := by rw [wI_in (by omega) (by omega)]; simp
  have j1 : wI ((j : Int) + 1) = ((j + 1 : Nat) : Int) := by rw [wI_in (by omega) (by omega)]; simp
  have u1 := hU v[a + 1] (List.getElem_mem h1)
  have u2 := hU v[j] (List.getElem_mem (by omega))
  have u3 := hU v[j + 1] (List.getElem_mem hj)
  simp only [F.cose_read_K3, F.ref31_split_K3, Bool.false_eq_true, if_false, a1, a2, j1, getO_lt h1, getO_lt (show j < v.length by omega), getO_lt hj, bind_some']
  rw [parse_eq, refParse' _ (by omega)]
  simp only [bind_some']
  rcases parse_cases v[a + 1].2.2.1 with ⟨v', hbl, hbv, hpb⟩ | ⟨e, p, he, hp0, hp1, hpb⟩
  · have hN := fine_of hbl hbv
    have hm := (itemD_moves v[a + 1].2.2.1 32).1 _ _ _ hbv
    rw [hpb]
    have h0 : 0 < v'.length := by omega
    have g0 : getO v' (0 : Int) = some v'[0] := getO_lt (i := 0) h0
    have hU' : ∀ x ∈ v', x.2.2.1.length ≤ 2000000 := fun x hx => by have := hN.2.2 x hx; omega
    obtain ⟨q1, q4, ok, r1, r4, hh, p1, p4, hn5, hc1, hc4⟩ := header_eq hN.wt hN.kd hU' 0 h0 (by omega)
    obtain ⟨s1, s4, ok', t1, t4, hh', p1', p4', hn5', hc1', hc4'⟩ := header_eq hw hK hU (a + 2) h2 hv
    rw [show ((0 : Nat) : Int) = 0 from rfl] at r1 r4 hh
    simp only [bne_self_eq_false, Bool.false_eq_true, if_false, g0, bind_some', r1, r4, hh, hh']
    have kd : ∀ q, (q = -1 ∨ ∃ k : Nat, k < v'.length ∧ q = (k : Int)) → (dat v' q).length ≤ 2000000 := by
      rintro q (rfl | ⟨k, hk, rfl⟩)
      · simp [dat_neg]
      · rw [dat_at hk]; exact hU' _ (List.getElem_mem hk)
    have kd2 : ∀ q, (q = -1 ∨ ∃ k : Nat, k < v.length ∧ q = (k : Int)) → (dat v q).length ≤ 2000000 := by
      rintro q (rfl | ⟨k, hk, rfl⟩)
      · simp [dat_neg]
      · rw [dat_at hk]; exact hU _ (List.getElem_mem hk)
    have neg1 : decide ((0 : Int) ≤ -1) = false := rfl
    have neg2 : decide ((-1 : Int) < 0) = true := rfl
    have pos1 : ∀ k : Nat, decide ((0 : Int) ≤ (k : Int)) = true := fun k => decide_eq_true (by omega)
    have pos2 : ∀ k : Nat, decide ((k : Int) < 0) = false := fun k => decide_eq_false (by omega)
    have ref221 : ∀ (x : List UInt8 × Bool × Bool) (k : Int), F.ref31_split_K5 v (a : Int) x v[a + 1] v[j] v[j + 1] (v', 0, 0) k true = some ([], [], [], [], 0, 221) := fun _ _ => rfl
    by_cases h5 : v'[0].1 = 5
    · have e5 : (v'[0].1 != 5) = false := by simp [h5]
      simp only [e5, Bool.false_eq_true, if_false]
      rcases p1 with rfl | ⟨k1, hk1, rfl⟩
      · -- no algorithm
        have L : ∀ A B : Bool, (if (!A) = true then F.cose_read_K4 v (v', 0, 0) (-1, q4, A) (s1, s4, B) v[a + 1] v[j] v[j + 1] true else if (!B) = true then F.cose_read_K4 v (v', 0, 0) (-1, q4, A) (s1, s4, B) v[a + 1] v[j] v[j + 1] true else F.cose_read_K4 v (v', 0, 0) (-1, q4, A) (s1, s4, B) v[a + 1] v[j] v[j + 1] true) = some (0, [], [], [], [], 221) := by
          intro A B
          cases A <;> cases B <;> rfl
        simp only [neg2, if_true, L]
        cases hq : decide (0 ≤ q4) <;> simp only [Bool.false_eq_true, if_false, if_true, F.ref31_split_K4, neg2, F.ref31_split_K5] <;> exact RB.fail 221
      · have c2 := hc1 (by omega)
        have if1 : (if (0 : Int) ≤ (k1 : Int) then (1 : Int) else 0) = 1 := if_pos (by omega)
        have g2 : getO v ((a + 2 : Nat) : Int) = some v[a + 2] := getO_lt h2
        have W0 : wI 0 = 0 := rfl
        have W2 : wI 2 = 2 := rfl
        have W4 : wI 4 = 4 := rfl
        have M0 : (2 : Int) * 0 = 0 := rfl
        have M2 : (2 : Int) * 1 = 2 := rfl
        have M4 : (2 : Int) * 2 = 4 := rfl
        have m1 : ¬ (0 : Int) ≤ -1 := by omega
        have m2 : ∀ k : Nat, (0 : Int) ≤ (k : Int) := fun k => by omega
        have z0 : (0 : Int) + 0 = 0 := rfl
        have z1 : (1 : Int) + 0 = 1 := rfl
        have z2 : (0 : Int) + 1 = 1 := rfl
        have z3 : (1 : Int) + 1 = 2 := rfl
        have K7t : ∀ x y, F.ref31_split_K7 v[a + 1] v[j] v[j + 1] (v', 0, 0) (k1 : Int) x y true = some ([], [], [], [], 0, 221) := fun _ _ => rfl
        generalize hP : ((a + 2 : Nat) : Int) = P at *
        rcases p1' with rfl | ⟨k1', hk1', rfl⟩
        · rcases p4 with rfl | ⟨k4, hk4, rfl⟩ <;> rcases p4' with rfl | ⟨k4', hk4', rfl⟩ <;>
            simp only [neg1, neg2, pos1, pos2, m1, m2, if_true, if_false, Bool.false_eq_true, z0, z1, z2, z3, M0, M2, M4, F.ref31_split_K4, F.ref31_split_K5, F.ref31_split_K6, W0, W2, W4, t4, g0, g2, a2, bind_some', Bool.not_true, Bool.not_false, bne, F.cose_read_K4, Bool.and_eq_true, Bool.not_eq_true', decide_false, decide_true, K7t]
          · generalize (v'[0].2.2.2 == 2) = A
            generalize (v[a + 2].2.2.2 == 0) = B
            cases A <;> cases ok <;> cases B <;> cases ok' <;> simp only [Bool.false_and, Bool.true_and, Bool.and_false, Bool.and_true, if_true, if_false, Bool.false_eq_true, Bool.true_eq_false] <;> first | exact RB.fail 221 | skip
            exact fin_both hk1 (by simp) u1 u2 u3 (by simp [dat_neg])
          · generalize (v'[0].2.2.2 == 2) = A
            generalize (v[a + 2].2.2.2 == 2) = B
            cases A <;> cases ok <;> cases B <;> cases ok' <;> simp only [Bool.false_and, Bool.true_and, Bool.and_false, Bool.and_true, if_true, if_false, Bool.false_eq_true, Bool.true_eq_false] <;> first | exact RB.fail 221 | skip
            rw [getO_lt hk4', bind_some']
            exact fin_both hk1 (hU _ (List.getElem_mem hk4')) u1 u2 u3 (by simp [dat_neg, dat_at hk4'])
          · generalize (v'[0].2.2.2 == 4) = A
            generalize (v[a + 2].2.2.2 == 0) = B
            cases A <;> cases ok <;> cases B <;> cases ok' <;> simp only [Bool.false_and, Bool.true_and, Bool.and_false, Bool.and_true, if_true, if_false, Bool.false_eq_true, Bool.true_eq_false] <;> first | exact RB.fail 221 | skip
            rw [getO_lt hk4, bind_some']
            exact fin_both hk1 (hU' _ (List.getElem_mem hk4)) u1 u2 u3 (by simp [dat_neg, dat_at hk4])
          · generalize (v'[0].2.2.2 == 4) = A
            generalize (v[a + 2].2.2.2 == 2) = B
            cases A <;> cases ok <;> cases B <;> cases ok' <;> simp only [Bool.false_and, Bool.true_and, Bool.and_false, Bool.and_true, if_true, if_false, Bool.false_eq_true, Bool.true_eq_false] <;> first | exact RB.fail 221 | skip
        · have cc := hc1' (by omega)
          rcases p4 with rfl | ⟨k4, hk4, rfl⟩ <;> rcases p4' with rfl | ⟨k4', hk4', rfl⟩
          · have E : (v[a + 2].2.2.2 == 0) = false := by skip; simp; omega
            simp only [neg1, neg2, pos1, pos2, m1, m2, if_true, if_false, Bool.false_eq_true, z0, z1, z2, z3, M0, M2, M4, F.ref31_split_K4, F.ref31_split_K5, F.ref31_split_K6, W0, W2, W4, t4, g0, g2, a2, bind_some', Bool.not_true, Bool.not_false, bne, F.cose_read_K4, Bool.and_eq_true, Bool.not_eq_true', decide_false, decide_true, K7t, E]
            generalize (v'[0].2.2.2 == 2) = A
            generalize (v[a + 2].2.2.2 == 2) = B
            cases A <;> cases ok <;> cases B <;> cases ok' <;> simp only [Bool.false_and, Bool.true_and, Bool.and_false, Bool.and_true, if_true, if_false, Bool.false_eq_true, Bool.true_eq_false] <;> exact RB.fail 221
          · have E : (v[a + 2].2.2.2 == 2) = false := by have := hc4' (by omega) (by omega); simp; omega
            simp only [neg1, neg2, pos1, pos2, m1, m2, if_true, if_false, Bool.false_eq_true, z0, z1, z2, z3, M0, M2, M4, F.ref31_split_K4, F.ref31_split_K5, F.ref31_split_K6, W0, W2, W4, t4, g0, g2, a2, bind_some', Bool.not_true, Bool.not_false, bne, F.cose_read_K4, Bool.and_eq_true, Bool.not_eq_true', decide_false, decide_true, K7t, E]
            generalize (v'[0].2.2.2 == 2) = A
            generalize (v[a + 2].2.2.2 == 4) = B
            cases A <;> cases ok <;> cases B <;> cases ok' <;> simp only [Bool.false_and, Bool.true_and, Bool.and_false, Bool.and_true, if_true, if_false, Bool.false_eq_true, Bool.true_eq_false] <;> exact RB.fail 221
          · have E : (v[a + 2].2.2.2 == 0) = false := by skip; simp; omega
            simp only [neg1, neg2, pos1, pos2, m1, m2, if_true, if_false, Bool.false_eq_true, z0, z1, z2, z3, M0, M2, M4, F.ref31_split_K4, F.ref31_split_K5, F.ref31_split_K6, W0, W2, W4, t4, g0, g2, a2, bind_some', Bool.not_true, Bool.not_false, bne, F.cose_read_K4, Bool.and_eq_true, Bool.not_eq_true', decide_false, decide_true, K7t, E]
            generalize (v'[0].2.2.2 == 4) = A
            generalize (v[a + 2].2.2.2 == 2) = B
            cases A <;> cases ok <;> cases B <;> cases ok' <;> simp only [Bool.false_and, Bool.true_and, Bool.and_false, Bool.and_true, if_true, if_false, Bool.false_eq_true, Bool.true_eq_false] <;> exact RB.fail 221
          · have E : (v[a + 2].2.2.2 == 2) = false := by have := hc4' (by omega) (by omega); simp; omega
            simp only [neg1, neg2, pos1, pos2, m1, m2, if_true, if_false, Bool.false_eq_true, z0, z1, z2, z3, M0, M2, M4, F.ref31_split_K4, F.ref31_split_K5, F.ref31_split_K6, W0, W2, W4, t4, g0, g2, a2, bind_some', Bool.not_true, Bool.not_false, bne, F.cose_read_K4, Bool.and_eq_true, Bool.not_eq_true', decide_false, decide_true, K7t, E]
            generalize (v'[0].2.2.2 == 4) = A
            generalize (v[a + 2].2.2.2 == 4) = B
            cases A <;> cases ok <;> cases B <;> cases ok' <;> simp only [Bool.false_and, Bool.true_and, Bool.and_false, Bool.and_true, if_true, if_false, Bool.false_eq_true, Bool.true_eq_false] <;> exact RB.fail 221
    · have e5 : (v'[0].1 != 5) = true := by simpa using h5
      obtain ⟨rfl, rfl⟩ := hn5 h5
      simp only [e5, if_true, neg1, Bool.false_eq_true, if_false, F.ref31_split_K4, neg2, F.ref31_split_K5]
      exact RB.fail 221
  · have e1 : (e != 0) = true := by simpa using he
    rw [hpb]
    simp only [e1, if_true]
    exact RB.fail e
theorem K1_both (hs : shapedD v = true) (a : Nat) (ha : a < v.length) (hv : v.length ≤ 100000000000) : RB (F.cose_read_K1 v (a : Int)) (F.ref31_split_K1 v (a : Int)) := by
  have a1 : wI ((a : Int) + 1) = ((a + 1 : Nat) : Int) := by rw [wI_in (by omega) (by omega)]; simp
  have a2 : wI ((a : Int) + 2) = ((a + 2 : Nat) : Int) := by rw [wI_in (by omega) (by omega)]; simp
  obtain ⟨r0, r1, r2⟩ := arr_room hs ha
  have T : RB (F.cose_read_K2 v (a : Int) true) (F.ref31_split_K2 v (a : Int) true) := RB.fail 221
  have T3 : ∀ j : Int, RB (F.cose_read_K3 v (a : Int) j true) (F.ref31_split_K3 v (a : Int) j true) := fun _ => RB.fail 221
  unfold F.cose_read_K1 F.ref31_split_K1
  simp only [getO_lt ha, bind_some']
  by_cases h4 : v[a].1 = 4
  · have e4 : (v[a].1 != 4) = false := by simp [h4]
    simp only [e4, Bool.false_eq_true, if_false]
    by_cases hn : v[a].2.2.2 = 4
    · have en : (v[a].2.2.2 != 4) = false := by simp [hn]
      have l1 : a + 1 < v.length := by omega
      have l2 : a + 2 < v.length := by omega
      simp only [en, Bool.false_eq_true, if_false, a1, a2, getO_lt l1, getO_lt l2, bind_some']
      by_cases h2 : v[a + 1].1 = 2
      · have e2 : (v[a + 1].1 != 2) = false := by simp [h2]
        simp only [e2, Bool.false_eq_true, if_false]
        by_cases h5 : v[a + 2].1 = 5
        · have e5 : (v[a + 2].1 != 5) = false := by simp [h5]
          rw [e5]
          obtain ⟨d, t, j, hd, he, hj, _⟩ := msg_kids hs ha h4 hn l1 h2
          obtain ⟨b1, b2⟩ := Behind_at hw hK hU hs l2 hd he
          have j1 : wI ((j : Int) + 1) = ((j + 1 : Nat) : Int) := by rw [wI_in (by omega) (by omega)]; simp
          simp only [F.cose_read_K2, F.ref31_split_K2, Bool.false_eq_true, if_false, a2, b1, b2, bind_some', getO_lt (show j < v.length by omega), j1, getO_lt hj]
          cases (v[j].1 != 2)
          · simp only [Bool.false_eq_true, if_false]
            cases (v[j + 1].1 != 2)
            · exact K3_both hw hK hU a j l1 l2 hj hv
            · exact T3 _
          · simp only [if_true]
            exact T3 _
        · have e5 : (v[a + 2].1 != 5) = true := by simpa using h5
          rw [e5]; exact T
      · have e2 : (v[a + 1].1 != 2) = true := by simpa using h2
        simp only [e2, if_true]; exact T
    · have en : (v[a].2.2.2 != 4) = true := by simpa using hn
      simp only [en, if_true]; exact T
  · have e4 : (v[a].1 != 4) = true := by simpa using h4
    simp only [e4, if_true]; exact T
theorem read_both (hs : shapedD v = true) (h0 : 0 < v.length) (hv : v.length ≤ 100000000000) : RB (F.cose_read v) (F.ref31_split v) := by
  have g0 : getO v (0 : Int) = some v[0] := getO_lt (i := 0) h0
  have z : RB (F.cose_read_K1 v 0) (F.ref31_split_K1 v 0) := K1_both hw hK hU hs 0 h0 hv
  unfold F.cose_read F.ref31_split
  simp only [g0, bind_some']
  by_cases h6 : v[0].1 = 6
  · have e6 : (v[0].1 == 6) = true := by simpa using h6
    obtain ⟨r0, r1, r2⟩ := arr_room hs h0
    have c1 : v[0].2.2.2 = 1 := by
      unfold fitE at r2
      rw [h6] at r2
      simp at r2
      exact r2.2
    simp only [e6, if_true]
    cases (v[0].2.1 == 18)
    · exact z
    · exact K1_both hw hK hU hs 1 (by omega) hv
  · have e6 : (v[0].1 == 6) = false := by simpa using h6
    simp only [e6, Bool.false_eq_true, if_false]
    exact z
end
theorem Parse_both (b c : List UInt8) (hb : b.length ≤ 200000000000000) (hc : c.length ≤ 200000000000000) : ∃ R, F.cose_Parse b c = some R ∧ F.ref31_Parse b c = some R ∧
    R.2.1.length ≤ 2000000 ∧ R.2.2.1.length ≤ 2000000 ∧ R.2.2.2.1.length ≤ 2000000 ∧ R.2.2.2.2.1.length ≤ 10000000 := by
  have F1 : ∀ e : Int, ∃ R, (obind (F.signet_cose_Parse_1 e) fun x => some (x.1, x.2.1, x.2.2.1, x.2.2.2.1, x.2.2.2.2.1, x.2.2.2.2.2)) = some R ∧ some ((0 : Int), ([] : List UInt8), ([] : List UInt8), ([] : List UInt8), ([] : List UInt8), e) = some R ∧
      R.2.1.length ≤ 2000000 ∧ R.2.2.1.length ≤ 2000000 ∧ R.2.2.2.1.length ≤ 2000000 ∧ R.2.2.2.2.1.length ≤ 10000000 := fun e => ⟨_, rfl, rfl, by simp, by simp, by simp, by simp⟩
  unfold F.cose_Parse F.ref31_Parse
  by_cases h1 : 65536 < b.length
  · have e1 : decide ((65536 : Int) < (b.length : Int)) = true := decide_eq_true (by omega)
    simp only [e1, if_true, F.cose_Parse_K1, F.ref31_Parse_K1]
    exact F1 10
  have e1 : decide ((65536 : Int) < (b.length : Int)) = false := decide_eq_false (by omega)
  simp only [e1, Bool.false_eq_true, if_false]
  by_cases h2 : 65536 < c.length
  · have e2 : decide ((65536 : Int) < (c.length : Int)) = true := decide_eq_true (by omega)
    simp only [e2, if_true, F.cose_Parse_K1, F.ref31_Parse_K1]
    exact F1 10
  have e2 : decide ((65536 : Int) < (c.length : Int)) = false := decide_eq_false (by omega)
  simp only [e2, Bool.false_eq_true, if_false, F.cose_Parse_K1, F.ref31_Parse_K1]
  rw [parse_eq, refParse' b (by omega)]
  simp only [bind_some']
  rcases parse_cases b with ⟨v, hbl, hbv, hpb⟩ | ⟨e, p, he, hp0, hp1, hpb⟩
  · have hN := fine_of hbl hbv
    have hm := (itemD_moves b 32).1 _ _ _ hbv
    rw [hpb]
    have h0 : 0 < v.length := by omega
    have hU : ∀ x ∈ v, x.2.2.1.length ≤ 2000000 := fun x hx => by have := hN.2.2 x hx; omega
    simp only [bne_self_eq_false, Bool.false_eq_true, if_false]
    obtain ⟨alg, p, k, z, s, st, hx, hy, lp, lk, lz, ls⟩ := read_both hN.wt hN.kd hU (print_parsed hbl hbv).2 h0 (by omega)
    rw [hx, hy]
    simp only [bind_some']
    cases hst : (st != 0)
    · simp only [Bool.false_eq_true, if_false]
      have hS : (hd 3 (UInt64.ofNat 10)).length ≤ 9 := hd_len9 _ _
      have hP := hd_len9 2 (UInt64.ofNat p.length)
      have hC := hd_len9 2 (UInt64.ofNat c.length)
      have hZ := hd_len9 2 (UInt64.ofNat z.length)
      have q0 : F.ref30_Head 4 4 = some [132] := by
        have := refHead_eq 4 (by omega) 4
        rw [show ((4 : Nat) : Int) = 4 from rfl] at this
        rw [this]; rfl
      have q1 : F.ref31_said 3 [83, 105, 103, 110, 97, 116, 117, 114, 101, 49] = some (hd 3 (UInt64.ofNat 10) ++ [83, 105, 103, 110, 97, 116, 117, 114, 101, 49]) := saidS_eq 3 (by omega) _ (by simp)
      have q2 : ∀ x : List UInt8, x.length ≤ 100000000 → F.ref31_said 2 x = some (hd 2 (UInt64.ofNat x.length) ++ x) := fun x hx => saidS_eq 2 (by omega) x hx
      have m1 : F.cose_laid [132] 3 [83, 105, 103, 110, 97, 116, 117, 114, 101, 49] = some ([132] ++ hd 3 (UInt64.ofNat 10) ++ [83, 105, 103, 110, 97, 116, 117, 114, 101, 49]) := laid_eq 3 _ _ (by simp) (by simp)
      have m2 : ∀ o x : List UInt8, o.length ≤ 1000000000 → x.length < 1000000000 → F.cose_laid o 2 x = some (o ++ hd 2 (UInt64.ofNat x.length) ++ x) := fun o x ho hx => laid_eq 2 o x ho hx
      rw [m1, bind_some', m2 _ p (by simp only [List.length_append, List.length_cons, List.length_nil]; omega) (by omega), bind_some', m2 _ c (by simp only [List.length_append, List.length_cons, List.length_nil]; omega) (by omega), bind_some', m2 _ z (by simp only [List.length_append, List.length_cons, List.length_nil]; omega) (by omega), bind_some']
      rw [q0, bind_some', q1, bind_some', sadO_ok (by simp only [List.length_append, List.length_cons, List.length_nil]; omega), bind_some', q2 p (by omega), bind_some', sadO_ok (by simp only [List.length_append, List.length_cons, List.length_nil]; omega), bind_some', q2 c (by omega), bind_some', sadO_ok (by simp only [List.length_append, List.length_cons, List.length_nil]; omega), bind_some', q2 z (by omega), bind_some', sadO_ok (by simp only [List.length_append, List.length_cons, List.length_nil]; omega), bind_some']
      refine ⟨_, rfl, ?_, lk, lz, ls, ?_⟩
      · simp only [List.append_assoc]
      · simp only [List.length_append, List.length_cons, List.length_nil]; omega
    · simp only [if_true]
      exact F1 st
  · have e1 : (e != 0) = true := by simpa using he
    rw [hpb]
    simp only [e1, if_true]
    exact F1 e
end Go.Gk.Cb
end

section
set_option linter.unusedSimpArgs false
set_option linter.unusedVariables false
namespace Go.Gk.Cb
open Go Go.Gk
end Go.Gk.Cb
end

section
set_option linter.unusedSimpArgs false
set_option linter.unusedVariables false
namespace Go.Gk.Cb
open Go Go.Gk
theorem a1 : parseD [210, 132, 67, 161, 1, 38, 161, 4, 65, 107, 65, 97, 64] = ([(6, 18, [], 1), (4, 0, [], 4), (2, 0, [161, 1, 38], 0), (5, 0, [], 2), (0, 4, [], 0), (2, 0, [107], 0), (2, 0, [97], 0), (2, 0, [], 0)], 0, 0) := by kernel_rfl
theorem a2 : parseD [161, 1, 38] = ([(5, 0, [], 2), (0, 1, [], 0), (1, 6, [], 0)], 0, 0) := by kernel_rfl
theorem a3 : parseD [132, 67, 161, 1, 36, 160, 64, 64] = ([(4, 0, [], 4), (2, 0, [161, 1, 36], 0), (5, 0, [], 0), (2, 0, [], 0), (2, 0, [], 0)], 0, 0) := by kernel_rfl
theorem a4 : parseD [161, 1, 36] = ([(5, 0, [], 2), (0, 1, [], 0), (1, 4, [], 0)], 0, 0) := by kernel_rfl
theorem a5 : parseD [162, 1, 97, 105, 4, 10] = ([(5, 0, [], 4), (0, 1, [], 0), (3, 0, [105], 0), (0, 4, [], 0), (0, 10, [], 0)], 0, 0) := by kernel_rfl
theorem a6 : parseD [128] = ([(4, 0, [], 0)], 0, 0) := by kernel_rfl
theorem mem_ev {v : List It} (hw : wt v ≤ 4000000000000) (hK : Kd v) (hs : shapedD v = true) {a K : Nat} (ha : a < v.length) (h5 : v[a].1 = 5) (hn : v[a].2.2.2 = ((2 * K : Nat) : Int))
    (hk0 : (kidsE (encD 8 v) true (2 * K) true none (a + 1)).isSome = true) (hK2 : K ≤ 1000000) (key : List It) : F.cbor_Member v (a : Int) key = some (memE v (encD 8 v) key K (a + 1)) := by
  have hl := wt_len v
  obtain ⟨⟨u, k⟩, hk⟩ := Option.isSome_iff_exists.1 hk0
  unfold F.cbor_Member
  rw [shaped_eq hw hK, bind_some']
  have e0 : decide ((a : Int) < 0) = false := decide_eq_false (by omega)
  have e1 : decide ((v.length : Int) ≤ (a : Int)) = false := by simp; omega
  have e5 : (v[a].1 != 5) = false := by simp [h5]
  have hdiv : wI (Int.tdiv v[a].2.2.2 2) = (K : Int) := by
    rw [hn, Int.tdiv_eq_ediv_of_nonneg (by omega), wI_in (by omega) (by omega)]; omega
  have ha1 : wI ((a : Int) + 1) = ((a + 1 : Nat) : Int) := by rw [wI_in (by omega) (by omega)]; simp
  simp only [e0, e1, Bool.false_eq_true, if_false, getO_lt ha, bind_some', e5, hs, Bool.not_true, F.cbor_Member_K1, ha1]
  exact member_cbor (by omega) (by omega) key v[a] K hdiv (by omega) K 0 (a + 1) none u k hk (by omega) (by omega)
def V1 : List It := [(6, 18, [], 1), (4, 0, [], 4), (2, 0, [161, 1, 38], 0), (5, 0, [], 2), (0, 4, [], 0), (2, 0, [107], 0), (2, 0, [97], 0), (2, 0, [], 0)]
def V2 : List It := [(5, 0, [], 2), (0, 1, [], 0), (1, 6, [], 0)]
def V3 : List It := [(4, 0, [], 4), (2, 0, [161, 1, 36], 0), (5, 0, [], 0), (2, 0, [], 0), (2, 0, [], 0)]
def V4 : List It := [(5, 0, [], 2), (0, 1, [], 0), (1, 4, [], 0)]
def V5 : List It := [(5, 0, [], 4), (0, 1, [], 0), (3, 0, [105], 0), (0, 4, [], 0), (0, 10, [], 0)]
theorem kd_of {v : List It} (h : v.all (fun x => decide (x.2.2.2 ≤ 1000)) = true) : Kd v := fun x hx => by
  have := List.all_eq_true.1 h x hx
  have : x.2.2.2 ≤ 1000 := by simpa using this
  omega
theorem mV1 (key : List It) : F.cbor_Member V1 3 key = some (memE V1 (encD 8 V1) key 1 4) := mem_ev (v := V1) (a := 3) (K := 1) (by decide) (kd_of (by decide)) (by kernel_rfl) (by decide) rfl rfl (by kernel_rfl) (by omega) key
theorem mV2 (key : List It) : F.cbor_Member V2 0 key = some (memE V2 (encD 8 V2) key 1 1) := mem_ev (v := V2) (a := 0) (K := 1) (by decide) (kd_of (by decide)) (by kernel_rfl) (by decide) rfl rfl (by kernel_rfl) (by omega) key
theorem mV3 (key : List It) : F.cbor_Member V3 2 key = some (memE V3 (encD 8 V3) key 0 3) := mem_ev (v := V3) (a := 2) (K := 0) (by decide) (kd_of (by decide)) (by kernel_rfl) (by decide) rfl rfl (by kernel_rfl) (by omega) key
theorem mV4 (key : List It) : F.cbor_Member V4 0 key = some (memE V4 (encD 8 V4) key 1 1) := mem_ev (v := V4) (a := 0) (K := 1) (by decide) (kd_of (by decide)) (by kernel_rfl) (by decide) rfl rfl (by kernel_rfl) (by omega) key
theorem mV5 (key : List It) : F.cbor_Member V5 0 key = some (memE V5 (encD 8 V5) key 2 1) := mem_ev (v := V5) (a := 0) (K := 2) (by decide) (kd_of (by decide)) (by kernel_rfl) (by decide) rfl rfl (by kernel_rfl) (by omega) key
theorem V1_1 : memE V1 (encD 8 V1) [(0, 1, [], 0)] 1 4 = -1 := by kernel_rfl
theorem V1_4 : memE V1 (encD 8 V1) [(0, 4, [], 0)] 1 4 = 5 := by kernel_rfl
theorem V2_1 : memE V2 (encD 8 V2) [(0, 1, [], 0)] 1 1 = 2 := by kernel_rfl
theorem V2_4 : memE V2 (encD 8 V2) [(0, 4, [], 0)] 1 1 = -1 := by kernel_rfl
theorem V3_n (key : List It) : memE V3 (encD 8 V3) key 0 3 = -1 := rfl
theorem V4_1 : memE V4 (encD 8 V4) [(0, 1, [], 0)] 1 1 = 2 := by kernel_rfl
theorem V4_4 : memE V4 (encD 8 V4) [(0, 4, [], 0)] 1 1 = -1 := by kernel_rfl
theorem V5_1 : memE V5 (encD 8 V5) [(0, 1, [], 0)] 2 1 = 2 := by kernel_rfl
theorem V5_2 : memE V5 (encD 8 V5) [(0, 2, [], 0)] 2 1 = -1 := by kernel_rfl
theorem V5_3 : memE V5 (encD 8 V5) [(0, 3, [], 0)] 2 1 = -1 := by kernel_rfl
theorem V5_4 : memE V5 (encD 8 V5) [(0, 4, [], 0)] 2 1 = 4 := by kernel_rfl
theorem V5_5 : memE V5 (encD 8 V5) [(0, 5, [], 0)] 2 1 = -1 := by kernel_rfl
theorem V5_6 : memE V5 (encD 8 V5) [(0, 6, [], 0)] 2 1 = -1 := by kernel_rfl
theorem V5_7 : memE V5 (encD 8 V5) [(0, 7, [], 0)] 2 1 = -1 := by kernel_rfl
theorem bV1 : F.cbor_Behind V1 3 = some 6 := by
  have hK : Kd V1 := kd_of (by decide)
  have he : ∃ t, encD 8 V1 3 = some (t, 6) := by
    have : (encD 8 V1 3).map Prod.snd = some 6 := by kernel_rfl
    obtain ⟨⟨t, j⟩, h1, h2⟩ := Option.map_eq_some_iff.1 this
    simp only at h2; subst h2; exact ⟨t, h1⟩
  obtain ⟨t, he⟩ := he
  exact (Behind_at (v := V1) (by decide) hK (by decide) (by kernel_rfl) (a := 3) (by decide) (by omega) he).1
theorem bV3 : F.cbor_Behind V3 2 = some 3 := by
  have hK : Kd V3 := kd_of (by decide)
  have he : ∃ t, encD 8 V3 2 = some (t, 3) := by
    have : (encD 8 V3 2).map Prod.snd = some 3 := by kernel_rfl
    obtain ⟨⟨t, j⟩, h1, h2⟩ := Option.map_eq_some_iff.1 this
    simp only at h2; subst h2; exact ⟨t, h1⟩
  obtain ⟨t, he⟩ := he
  exact (Behind_at (v := V3) (by decide) hK (by decide) (by kernel_rfl) (a := 2) (by decide) (by omega) he).1
theorem hV1 : F.cose_header V1 3 = some (-1, 5, true) := by
  have s1 : F.signet_cose_header_1 1 V1 3 0 = some (-1, 3, 0) := by unfold F.signet_cose_header_1; rw [mV1, V1_1]; rfl
  have s4 : F.signet_cose_header_1 4 V1 3 0 = some (5, 3, 1) := by unfold F.signet_cose_header_1; rw [mV1, V1_4]; rfl
  unfold F.cose_header
  rw [s1, bind_some', s4, bind_some']
  rfl
theorem hV2 : F.cose_header V2 0 = some (2, -1, true) := by
  have s1 : F.signet_cose_header_1 1 V2 0 0 = some (2, 0, 1) := by unfold F.signet_cose_header_1; rw [mV2, V2_1]; rfl
  have s4 : F.signet_cose_header_1 4 V2 0 1 = some (-1, 0, 1) := by unfold F.signet_cose_header_1; rw [mV2, V2_4]; rfl
  unfold F.cose_header
  rw [s1, bind_some', s4, bind_some']
  rfl
theorem hV3 : F.cose_header V3 2 = some (-1, -1, true) := by
  have s1 : F.signet_cose_header_1 1 V3 2 0 = some (-1, 2, 0) := by unfold F.signet_cose_header_1; rw [mV3, V3_n]; rfl
  have s4 : F.signet_cose_header_1 4 V3 2 0 = some (-1, 2, 0) := by unfold F.signet_cose_header_1; rw [mV3, V3_n]; rfl
  unfold F.cose_header
  rw [s1, bind_some', s4, bind_some']
  rfl
theorem hV4 : F.cose_header V4 0 = some (2, -1, true) := by
  have s1 : F.signet_cose_header_1 1 V4 0 0 = some (2, 0, 1) := by unfold F.signet_cose_header_1; rw [mV4, V4_1]; rfl
  have s4 : F.signet_cose_header_1 4 V4 0 1 = some (-1, 0, 1) := by unfold F.signet_cose_header_1; rw [mV4, V4_4]; rfl
  unfold F.cose_header
  rw [s1, bind_some', s4, bind_some']
  rfl
theorem rV1 : F.cose_read V1 = some (10, [161, 1, 38], [107], [97], [], 0) := by
  have k3 : F.cose_read_K3 V1 1 6 false = some (10, [161, 1, 38], [107], [97], [], 0) := by
    have g : getO V1 (wI ((1 : Int) + 1) : Int) = some (2, 0, [161, 1, 38], 0) := rfl
    unfold F.cose_read_K3
    simp only [Bool.false_eq_true, if_false]
    rw [g, bind_some', show getO V1 (6 : Int) = some (2, 0, [97], 0) from rfl, bind_some', show getO V1 (wI ((6 : Int) + 1)) = some (2, 0, [], 0) from rfl, bind_some']
    simp only
    rw [parse_eq, a2, bind_some']
    show (if ((0 : Int) != 0) = true then _ else obind (getO V2 (0 : Int)) _) = _
    rw [if_neg (by decide), show getO V2 (0 : Int) = some (5, 0, [], 2) from rfl, bind_some']
    show (if ((5 : Int) != 5) = true then _ else obind (F.cose_header V2 0) _) = _
    rw [if_neg (by decide), hV2, bind_some', show wI ((1 : Int) + 2) = 3 from rfl, hV1, bind_some']
    rfl
  unfold F.cose_read
  rw [show getO V1 (0 : Int) = some (6, 18, [], 1) from rfl, bind_some']
  show F.cose_read_K1 V1 1 = _
  show F.cose_read_K2 V1 1 false = _
  unfold F.cose_read_K2
  simp only [Bool.false_eq_true, if_false]
  rw [show wI ((1 : Int) + 2) = 3 from rfl, bV1, bind_some']
  exact k3
theorem rV3 : F.cose_read V3 = some (0, [], [], [], [], 111) := by
  have k3 : F.cose_read_K3 V3 0 3 false = some (0, [], [], [], [], 111) := by
    have g : getO V3 (wI ((0 : Int) + 1) : Int) = some (2, 0, [161, 1, 36], 0) := rfl
    unfold F.cose_read_K3
    simp only [Bool.false_eq_true, if_false]
    rw [g, bind_some', show getO V3 (3 : Int) = some (2, 0, [], 0) from rfl, bind_some', show getO V3 (wI ((3 : Int) + 1)) = some (2, 0, [], 0) from rfl, bind_some']
    simp only
    rw [parse_eq, a4, bind_some']
    show (if ((0 : Int) != 0) = true then _ else obind (getO V4 (0 : Int)) _) = _
    rw [if_neg (by decide), show getO V4 (0 : Int) = some (5, 0, [], 2) from rfl, bind_some']
    show (if ((5 : Int) != 5) = true then _ else obind (F.cose_header V4 0) _) = _
    rw [if_neg (by decide), hV4, bind_some', show wI ((0 : Int) + 2) = 2 from rfl, hV3, bind_some']
    rfl
  unfold F.cose_read
  rw [show getO V3 (0 : Int) = some (4, 0, [], 4) from rfl, bind_some']
  show F.cose_read_K1 V3 0 = _
  show F.cose_read_K2 V3 0 false = _
  unfold F.cose_read_K2
  simp only [Bool.false_eq_true, if_false]
  rw [show wI ((0 : Int) + 2) = 2 from rfl, bV3, bind_some']
  exact k3
def X1 : List UInt8 := [132, 106, 83, 105, 103, 110, 97, 116, 117, 114, 101, 49, 67, 161, 1, 38, 64, 65, 97]
theorem P1_eq : F.cose_Parse [210, 132, 67, 161, 1, 38, 161, 4, 65, 107, 65, 97, 64] [] = some (10, [107], [97], [], X1, 0) := by
  unfold F.cose_Parse
  show F.cose_Parse_K1 _ _ false = _
  unfold F.cose_Parse_K1
  simp only [Bool.false_eq_true, if_false]
  rw [parse_eq, a1, bind_some']
  show (if ((0 : Int) != 0) = true then _ else obind (F.cose_read V1) _) = _
  rw [if_neg (by decide), rV1, bind_some']
  have m1 : F.cose_laid [132] 3 [83, 105, 103, 110, 97, 116, 117, 114, 101, 49] = some ([132] ++ hd 3 (UInt64.ofNat 10) ++ [83, 105, 103, 110, 97, 116, 117, 114, 101, 49]) := laid_eq 3 _ _ (by simp) (by simp)
  have m2 : ∀ o x : List UInt8, o.length ≤ 1000000000 → x.length < 1000000000 → F.cose_laid o 2 x = some (o ++ hd 2 (UInt64.ofNat x.length) ++ x) := fun o x ho hx => laid_eq 2 o x ho hx
  have e1 : ([132] ++ hd 3 (UInt64.ofNat 10) ++ [83, 105, 103, 110, 97, 116, 117, 114, 101, 49] : List UInt8) = [132, 106, 83, 105, 103, 110, 97, 116, 117, 114, 101, 49] := by kernel_rfl
  have e2 : ([132, 106, 83, 105, 103, 110, 97, 116, 117, 114, 101, 49] ++ hd 2 (UInt64.ofNat [161, 1, (38 : UInt8)].length) ++ [161, 1, 38] : List UInt8) = [132, 106, 83, 105, 103, 110, 97, 116, 117, 114, 101, 49, 67, 161, 1, 38] := by kernel_rfl
  have e3 : ([132, 106, 83, 105, 103, 110, 97, 116, 117, 114, 101, 49, 67, 161, 1, 38] ++ hd 2 (UInt64.ofNat ([] : List UInt8).length) ++ [] : List UInt8) = [132, 106, 83, 105, 103, 110, 97, 116, 117, 114, 101, 49, 67, 161, 1, 38, 64] := by kernel_rfl
  have e4 : ([132, 106, 83, 105, 103, 110, 97, 116, 117, 114, 101, 49, 67, 161, 1, 38, 64] ++ hd 2 (UInt64.ofNat [(97 : UInt8)].length) ++ [97] : List UInt8) = X1 := by kernel_rfl
  rw [if_neg (by decide), m1, e1, bind_some', m2 _ _ (by simp) (by simp), e2, bind_some', m2 _ _ (by simp) (by simp), e3, bind_some', m2 _ _ (by simp) (by simp), e4, bind_some']
theorem P2_eq : F.cose_Parse [132, 67, 161, 1, 36, 160, 64, 64] [] = some (0, [], [], [], [], 111) := by
  unfold F.cose_Parse
  show F.cose_Parse_K1 _ _ false = _
  unfold F.cose_Parse_K1
  simp only [Bool.false_eq_true, if_false]
  rw [parse_eq, a3, bind_some']
  show (if ((0 : Int) != 0) = true then _ else obind (F.cose_read V3) _) = _
  rw [if_neg (by decide), rV3, bind_some']
  rfl
theorem C1 (n : UInt64) (a : List Int) (bad : Bool) : F.signet_cose_Claims_1 n a V5 bad = obind (some (memE V5 (encD 8 V5) [(0, n, [], 0)] 2 1)) fun x_5 =>
    if bad = true then F.signet_cose_Claims_1_K1 x_5 true else if (decide ((0 : Int) ≤ x_5)) = true then obind (getO V5 (x_5 : Int)) fun x_8 => obind (F.slices_Contains_int_int a x_8.1) fun x_9 => F.signet_cose_Claims_1_K1 x_5 (!x_9) else F.signet_cose_Claims_1_K1 x_5 false := by
  unfold F.signet_cose_Claims_1
  rw [mV5]
theorem C2_none (n : UInt64) (m : Int) (h : memE V5 (encD 8 V5) [(0, n, [], 0)] 2 1 = -1) : F.signet_cose_Claims_2 n m V5 false = some ([], false, false) := by
  unfold F.signet_cose_Claims_2
  rw [C1, h]; rfl
theorem C3_none (n : UInt64) (h : memE V5 (encD 8 V5) [(0, n, [], 0)] 2 1 = -1) : F.signet_cose_Claims_3 n false V5 = some (false, 0, false) := by
  unfold F.signet_cose_Claims_3
  rw [C1, h]; rfl
theorem C2_1 : F.signet_cose_Claims_2 1 3 V5 false = some ([105], true, false) := by
  unfold F.signet_cose_Claims_2
  rw [C1, V5_1, bind_some', if_neg (by decide), if_pos (by decide), show getO V5 (2 : Int) = some (3, 0, [105], 0) from rfl, bind_some', contains1]
  rfl
theorem C3_4 : F.signet_cose_Claims_3 4 false V5 = some (true, 10, false) := by
  unfold F.signet_cose_Claims_3
  rw [C1, V5_4, bind_some', if_neg (by decide), if_pos (by decide), show getO V5 (4 : Int) = some (0, 10, [], 0) from rfl, bind_some', contains2]
  rfl
theorem C1_3 : F.signet_cose_Claims_1 3 [3, 4] V5 false = some (-1, false) := by rw [C1, V5_3]; rfl
theorem Cl1_eq : F.cose_Claims [162, 1, 97, 105, 4, 10] = some ([], [105], true, [], false, [], false, [], false, true, 10, false, 0, false, 0, 0) := by
  unfold F.cose_Claims
  rw [parse_eq, a5, bind_some']
  show (if ((0 : Int) != 0) = true then _ else obind (getO V5 (0 : Int)) _) = _
  rw [if_neg (by decide), show getO V5 (0 : Int) = some (5, 0, [], 4) from rfl, bind_some']
  show (if ((5 : Int) != 5) = true then _ else obind (F.signet_cose_Claims_2 1 3 V5 false) _) = _
  rw [if_neg (by decide), C2_1, bind_some']
  show obind (F.signet_cose_Claims_2 2 3 V5 false) _ = _
  rw [C2_none 2 3 V5_2, bind_some']
  show obind (F.signet_cose_Claims_3 4 false V5) _ = _
  rw [C3_4, bind_some']
  show obind (F.signet_cose_Claims_3 5 false V5) _ = _
  rw [C3_none 5 V5_5, bind_some']
  show obind (F.signet_cose_Claims_3 6 false V5) _ = _
  rw [C3_none 6 V5_6, bind_some']
  show obind (F.signet_cose_Claims_2 7 2 V5 false) _ = _
  rw [C2_none 7 2 V5_7, bind_some']
  show obind (F.signet_cose_Claims_1 3 [3, 4] V5 false) _ = _
  rw [C1_3, bind_some']
  rfl
theorem Cl2_eq : F.cose_Claims [128] = some ([], [], false, [], false, [], false, [], false, false, 0, false, 0, false, 0, 130) := by
  unfold F.cose_Claims
  rw [parse_eq, a6, bind_some']
  rfl
theorem awake31_eq : F.law31_awake = some true := by
  unfold F.law31_awake
  rw [P1_eq, bind_some']
  show (if ((0 : Int) != 0) = true then _ else _) = _
  rw [if_neg (by decide)]
  show (if ((10 : Int) != 10) = true then _ else _) = _
  rw [if_neg (by decide), same31]
  show obind (F.law30_sameBytes [107] [107]) _ = _
  rw [sameB_eq _ _ (by simp), bind_some', if_neg (by decide)]
  show obind (F.law30_sameBytes [97] [97]) _ = _
  rw [sameB_eq _ _ (by simp), bind_some', if_neg (by decide)]
  show F.law31_awake_K1 false = _
  unfold F.law31_awake_K1
  rw [if_neg (by decide), P2_eq, bind_some', Cl1_eq, bind_some', Cl2_eq]
  rfl
end Go.Gk.Cb
end

section
set_option linter.unusedSimpArgs false
set_option linter.unusedVariables false
set_option linter.unusedSectionVars false
namespace Go.Gk.Cb
open Go Go.Gk
theorem fit2 {x : It} (h : fitE x) (h2 : x.1 = 2) : x = (2, 0, x.2.2.1, 0) := by
  obtain ⟨a, b, c, d⟩ := x
  simp only at h2
  subst h2
  simp [fitE] at h ⊢
  exact h
theorem fit4 {x : It} (h : fitE x) (h2 : x.1 = 4) (hn : x.2.2.2 = 4) : x = (4, 0, [], 4) := by
  obtain ⟨a, b, c, d⟩ := x
  simp only at h2 hn
  subst h2 hn
  simp [fitE] at h ⊢
  exact h
theorem fit5 {x : It} {n : Int} (h : fitE x) (h2 : x.1 = 5) (hn : x.2.2.2 = n) : x = (5, 0, [], n) := by
  obtain ⟨a, b, c, d⟩ := x
  simp only at h2 hn
  subst h2 hn
  simp [fitE] at h ⊢
  exact ⟨h.1, h.2.1⟩
theorem fit6 {x : It} (h : fitE x) (h2 : x.1 = 6) (hn : x.2.1 = 18) : x = (6, 18, [], 1) := by
  obtain ⟨a, b, c, d⟩ := x
  simp only at h2 hn
  subst h2 hn
  simp [fitE] at h ⊢
  exact h
theorem box_kids {v : List It} {d a k : Nat} {t : List UInt8} (h : encD d v a = some (t, k)) (ha : a < v.length) (h4 : v[a].1 = 4 ∨ v[a].1 = 6) :
    ∃ d' u, d = d' + 1 ∧ kidsE (encD d' v) false v[a].2.2.2.toNat true none (a + 1) = some (u, k) := by
  have key : ∀ sub, itemE v sub a = some (t, k) → ∃ wr u, sub = some wr ∧ kidsE wr false v[a].2.2.2.toNat true none (a + 1) = some (u, k) := by
    intro sub h1
    unfold itemE at h1
    rw [List.getElem?_eq_getElem ha] at h1
    simp only at h1
    split at h1
    · cases h1
    · rw [if_pos (by omega)] at h1
      cases sub with
      | none => cases h1
      | some wr =>
        simp only at h1
        have e5 : (v[a].1 == 5) = false := by rcases h4 with h4 | h4 <;> (rw [h4]; rfl)
        rw [e5] at h1
        split at h1
        · cases h1
        · rename_i t1 j1 hk
          cases h1
          exact ⟨wr, t1, rfl, hk⟩
  cases d with
  | zero => obtain ⟨wr, u, h1, _⟩ := key none h; cases h1
  | succ d =>
    obtain ⟨wr, u, h1, h2⟩ := key _ h
    cases h1
    exact ⟨d, u, rfl, h2⟩
theorem top_at {v : List It} (hs : shapedD v = true) (h0 : 0 < v.length) : ∃ t, encD 32 v 0 = some (t, v.length) := by
  unfold shapedD at hs
  cases h : encD 32 v 0 with
  | none => rw [h] at hs; cases hs
  | some b =>
    obtain ⟨t, j⟩ := b
    rw [h] at hs
    have : j = v.length := by simpa using hs
    subst this
    exact ⟨t, rfl⟩
theorem end_at {v : List It} (hs : shapedD v = true) (h0 : 0 < v.length) {a : Nat} (ha : a = 0 ∨ a = 1 ∧ v[0].1 = 6 ∧ v[0].2.2.2 = 1) : ∃ d t, d ≤ 32 ∧ encD d v a = some (t, v.length) := by
  obtain ⟨t, ht⟩ := top_at hs h0
  rcases ha with rfl | ⟨rfl, h6, h1⟩
  · exact ⟨32, t, by omega, ht⟩
  · obtain ⟨d', u, hd, hk⟩ := box_kids ht h0 (.inr h6)
    rw [h1] at hk
    obtain ⟨t1, j1, u1, e1, k1⟩ := kidsE_step (r := 0) hk
    simp only [kidsE] at k1
    cases k1
    exact ⟨d', t1, by omega, e1⟩
theorem msg_all {v : List It} (hs : shapedD v = true) (h0 : 0 < v.length) {a : Nat} (hA : a = 0 ∨ a = 1 ∧ v[0].1 = 6 ∧ v[0].2.2.2 = 1) (ha : a < v.length) (h4 : v[a].1 = 4) (hn : v[a].2.2.2 = 4) (h1 : a + 1 < v.length) (h2 : v[a + 1].1 = 2) :
    ∃ d t j, d ≤ 32 ∧ encD d v (a + 2) = some (t, j) ∧ ∀ (hj : j < v.length), v[j].1 = 2 → ∀ (hj1 : j + 1 < v.length), v[j + 1].1 = 2 → v.length = j + 2 := by
  obtain ⟨d, t, hd, he⟩ := end_at hs h0 hA
  obtain ⟨d', u, rfl, hk⟩ := box_kids he ha (.inl h4)
  rw [hn] at hk
  obtain ⟨t1, j1, u1, e1, k1⟩ := kidsE_step (r := 3) hk
  obtain ⟨t2, j2, u2, e2, k2⟩ := kidsE_step (r := 2) k1
  obtain ⟨t3, j3, u3, e3, k3⟩ := kidsE_step (r := 1) k2
  obtain ⟨t4, j4, u4, e4, k4⟩ := kidsE_step (r := 0) k3
  simp only [kidsE] at k4
  have := bytes_next e1 h1 h2
  subst this
  refine ⟨d', t2, j2, by omega, e2, fun hj b1 hj1 b2 => ?_⟩
  have := bytes_next e3 hj b1
  subst this
  have := bytes_next e4 hj1 b2
  subst this
  simp at k4
  omega
theorem memE_one {v : List It} {wr : Wr} {key : List It} {i : Nat} {q : Int} (h : memE v wr key 1 i = q) (hq : 0 ≤ q) : ∃ t j, wr i = some (t, j) ∧ seg v i j = key ∧ q = (j : Int) := by
  simp only [memE] at h
  cases h4 : wr i with
  | none => rw [h4] at h; simp only at h; omega
  | some a =>
    obtain ⟨t, j⟩ := a
    rw [h4] at h
    simp only at h
    split at h
    · rename_i he
      exact ⟨t, j, rfl, he, h.symm⟩
    · cases h5 : wr j with
      | none => rw [h5] at h; simp only at h; omega
      | some b => rw [h5] at h; simp only at h; omega
end Go.Gk.Cb
end

section
set_option linter.unusedSimpArgs false
set_option linter.unusedVariables false
set_option linter.unusedSectionVars false
namespace Go.Gk.Cb
open Go Go.Gk
theorem header_mem {v : List It} {p : Int} {R : Int × Int × Bool} (h : F.cose_header v p = some R) : F.cbor_Member v p [(0, 4, [], 0)] = some R.2.1 := by
  have s : ∀ n c, ∀ R, F.signet_cose_header_1 n v p c = some R → F.cbor_Member v p [(0, n, [], 0)] = some R.1 ∧ R.2.1 = p := by
    intro n c R h
    unfold F.signet_cose_header_1 at h
    obtain ⟨q, hq, h⟩ := obind_some h
    split at h <;> (simp only [F.signet_cose_header_1_K1] at h; cases h; exact ⟨hq, rfl⟩)
  unfold F.cose_header at h
  obtain ⟨x, hx, h⟩ := obind_some h
  obtain ⟨y, hy, h⟩ := obind_some h
  obtain ⟨_, e⟩ := s _ _ _ hx
  rw [e] at hy
  obtain ⟨hm, e'⟩ := s _ _ _ hy
  obtain ⟨z, hz, h⟩ := obind_some h
  split at h
  · split at h
    · cases h; exact hm
    · obtain ⟨u, hu, h⟩ := obind_some h
      cases h; exact hm
  · cases h; exact hm
theorem ite_no {α : Type} {c : Prop} [Decidable c] {X Y r : α} (h : (if c then X else Y) = r) (hx : X ≠ r) : ¬ c ∧ Y = r := by
  by_cases hc : c
  · rw [if_pos hc] at h; exact absurd h hx
  · rw [if_neg hc] at h; exact ⟨hc, h⟩
theorem K6_parts {x y z : It} {k : List UInt8} {n : Int} {alg : Int} {p k' l s : List UInt8} (h : F.cose_read_K6 x y z k n = some (alg, p, k', l, s, 0)) : p = x.2.2.1 ∧ k' = k ∧ l = y.2.2.1 ∧ s = z.2.2.1 := by
  simp only [F.cose_read_K6] at h
  split at h
  · cases h
  · cases h; exact ⟨rfl, rfl, rfl, rfl⟩
theorem K5_parts {x33 : List It × Int × Int} {x37 : Int × Int × Bool} {x y z : It} {k : List UInt8} {alg : Int} {p k' l s : List UInt8} (h : F.cose_read_K5 x33 x37 x y z k = some (alg, p, k', l, s, 0)) : p = x.2.2.1 ∧ k' = k ∧ l = y.2.2.1 ∧ s = z.2.2.1 := by
  unfold F.cose_read_K5 at h
  obtain ⟨u, hu, h⟩ := obind_some h
  split at h
  · obtain ⟨u, hu, h⟩ := obind_some h
    obtain ⟨w, hw, h⟩ := obind_some h
    exact K6_parts h
  · exact K6_parts h
section
variable {v : List It} (hw : wt v ≤ 4000000000000) (hK : Kd v) (hU : ∀ x ∈ v, x.2.2.1.length ≤ 2000000)
include hw hK hU
theorem K3_parts (a j : Nat) (h1 : a + 1 < v.length) (h2 : a + 2 < v.length) (hj : j + 1 < v.length) (hv : v.length ≤ 100000000000) {alg : Int} {p k z s : List UInt8}
    (h : F.cose_read_K3 v (a : Int) (j : Int) false = some (alg, p, k, z, s, 0)) : p = v[a + 1].2.2.1 ∧ z = v[j].2.2.1 ∧ s = v[j + 1].2.2.1 ∧
    (v[a + 2].2.2.2 = 0 ∨ v[a + 2].2.2.2 = 2 ∧ ∃ (q : Nat) (hq : q < v.length), F.cbor_Member v ((a + 2 : Nat) : Int) [(0, 4, [], 0)] = some (q : Int) ∧ v[q].1 = 2 ∧ v[q].2.2.1 = k) := by
  have a1 : wI ((a : Int) + 1) = ((a + 1 : Nat) : Int) := by rw [wI_in (by omega) (by omega)]; simp
  have a2 : wI ((a : Int) + 2) = ((a + 2 : Nat) : Int) := by rw [wI_in (by omega) (by omega)]; simp
  have j1 : wI ((j : Int) + 1) = ((j + 1 : Nat) : Int) := by rw [wI_in (by omega) (by omega)]; simp
  obtain ⟨s1, s4, ok', t1, t4, hh', p1', p4', hn5', hc1', hc4'⟩ := header_eq hw hK hU (a + 2) h2 hv
  have hm := header_mem hh'
  simp only at hm
  obtain ⟨ok2, hk2, e1, e2⟩ := kid_eq hw hK hU ((a + 2 : Nat) : Int) s4 (by
    obtain ⟨_, q4, _, _, c4, r4, _⟩ := keys_at hw hK hU ((a + 2 : Nat) : Int)
    rw [hm] at c4
    cases c4; exact r4) p4'
  have eok : ok2 = ok' := by rw [t4] at hk2; cases hk2; rfl
  subst eok
  simp only [F.cose_read_K3, Bool.false_eq_true, if_false, a1, a2, j1, getO_lt h1, getO_lt (show j < v.length by omega), getO_lt hj, bind_some'] at h
  obtain ⟨x33, hx33, h⟩ := obind_some h
  have he : x33.2.1 = 0 := by
    by_cases he : x33.2.1 = 0
    · exact he
    · rw [if_pos (by simpa using he)] at h
      simp only [Option.some.injEq, Prod.mk.injEq] at h
      exact h.2.2.2.2.2
  rw [if_neg (by simp [he])] at h
  obtain ⟨x36, hx36, h⟩ := obind_some h
  obtain ⟨_, h⟩ := ite_no h (by intro h; cases h)
  obtain ⟨x37, hx37, h⟩ := obind_some h
  rw [hh', bind_some'] at h
  have T : ∀ y, F.cose_read_K4 v x33 x37 y v[a + 1] v[j] v[j + 1] true ≠ some (alg, p, k, z, s, 0) := fun y h => by cases h
  obtain ⟨_, h⟩ := ite_no h (T _)
  obtain ⟨hB, h⟩ := ite_no h (T _)
  obtain ⟨_, h⟩ := ite_no h (T _)
  obtain ⟨hs1, h⟩ := ite_no h (T _)
  simp only [decide_eq_true_eq] at hs1
  simp only [Bool.not_eq_true', Bool.not_eq_false, Bool.and_eq_true, if_neg hs1] at hB
  simp only [beq_iff_eq] at hB
  obtain ⟨hB1, hB2⟩ := hB
  by_cases hq4 : decide (0 ≤ x37.2.1) = true
  · rw [if_pos hq4] at h
    cases hs4 : decide (0 ≤ s4) with
    | true => rw [hs4] at h; exact absurd h (T _)
    | false =>
      rw [hs4] at h
      simp only [F.cose_read_K4, Bool.false_eq_true, if_false, hq4, if_true] at h
      obtain ⟨u, hu, h⟩ := obind_some h
      obtain ⟨g1, g2, g3, g4⟩ := K5_parts h
      have : ¬ (0 ≤ s4) := by simpa using hs4
      rw [if_neg this] at hB1
      exact ⟨g1, g3, g4, .inl (by omega)⟩
  · rw [if_neg hq4] at h
    simp only [F.cose_read_K4, Bool.false_eq_true, if_false, hq4] at h
    rcases p4' with rfl | ⟨q, hq, rfl⟩
    · simp only [show decide ((0 : Int) ≤ -1) = false from rfl, Bool.false_eq_true, if_false] at h
      obtain ⟨g1, g2, g3, g4⟩ := K5_parts h
      exact ⟨g1, g3, g4, .inl (by simpa using hB1)⟩
    · have pos1 : decide ((0 : Int) ≤ (q : Int)) = true := decide_eq_true (by omega)
      simp only [pos1, if_true, getO_lt hq, bind_some'] at h
      obtain ⟨g1, g2, g3, g4⟩ := K5_parts h
      have e := e2 q hq rfl
      rw [hB2] at e
      rw [if_pos (by omega)] at hB1
      exact ⟨g1, g3, g4, .inr ⟨by omega, q, hq, hm, by simpa using e.symm, g2.symm⟩⟩
end
end Go.Gk.Cb
end

section
set_option linter.unusedSimpArgs false
set_option linter.unusedVariables false
set_option linter.unusedSectionVars false
namespace Go.Gk.Cb
open Go Go.Gk
theorem kidsE_next {rec : Wr} {pr : Bool} {r : Nat} {b : Bool} {l : Option (List UInt8)} {i k : Nat} {u : List UInt8} (h : kidsE rec pr (r + 1) b l i = some (u, k)) : ∃ t j l' u', rec i = some (t, j) ∧ kidsE rec pr r (!b) l' j = some (u', k) := by
  simp only [kidsE] at h
  cases h1 : rec i with
  | none => rw [h1] at h; cases h
  | some a =>
    obtain ⟨t, j⟩ := a
    rw [h1] at h
    simp only at h
    split at h
    · cases h
    · cases h2 : kidsE rec pr r (!b) (if (pr && b) = true then some t else l) j with
      | none => rw [h2] at h; cases h
      | some e =>
        obtain ⟨u', k'⟩ := e
        rw [h2] at h
        cases h
        exact ⟨t, j, _, u', rfl, h2⟩
theorem plain_next {v : List It} {d a k : Nat} {t : List UInt8} (h : encD d v a = some (t, k)) (ha : a < v.length) (h2 : ¬ (v[a].1 = 4 ∨ v[a].1 = 5 ∨ v[a].1 = 6)) : k = a + 1 := by
  have key : ∀ sub, itemE v sub a = some (t, k) → k = a + 1 := by
    intro sub h1
    unfold itemE at h1
    rw [List.getElem?_eq_getElem ha] at h1
    simp only at h1
    obtain ⟨_, h1⟩ := ite_no h1 (by intro h; cases h)
    first
      | (rw [if_neg h2] at h1; cases h1; rfl)
      | (cases h1; rfl)
  cases d with
  | zero => exact key none h
  | succ d => exact key _ h
def msgD (p z s k : List UInt8) (kid tag : Bool) : List It :=
  (if tag then [(6, 18, [], 1)] else []) ++ ([(4, 0, [], 4), (2, 0, p, 0)] ++ ((if kid then [(5, 0, [], 2), (0, 4, [], 0), (2, 0, k, 0)] else [(5, 0, [], 0)]) ++ [(2, 0, z, 0), (2, 0, s, 0)]))
theorem message_eq (p z s k : List UInt8) (kid tag : Bool) : F.law31_message p z s k kid tag = some (msgD p z s k kid tag) := by
  have e : ∀ l m : List It, l.length ≤ 100 → m.length ≤ 100 → apO 40 l m = some (l ++ m) := fun l m h1 h2 => apO_ok (by omega)
  cases tag <;> cases kid <;>
    simp only [F.law31_message, F.law31_message_K1, F.law31_message_K2, if_true, if_false, Bool.false_eq_true, e _ _ (show ([] : List It).length ≤ 100 by decide) (show [((6 : Int), (18 : UInt64), ([] : List UInt8), (1 : Int))].length ≤ 100 by simp), bind_some', List.nil_append] <;>
    (rw [e _ _ (by simp) (by simp), bind_some', e _ _ (by simp) (by simp), bind_some', e _ _ (by simp) (by simp), bind_some']; rfl)
section
variable {v : List It} (hw : wt v ≤ 4000000000000) (hK : Kd v) (hU : ∀ x ∈ v, x.2.2.1.length ≤ 2000000)
include hw hK hU
theorem K1_parts (hs : shapedD v = true) (h0 : 0 < v.length) {a : Nat} (hA : a = 0 ∨ a = 1 ∧ v[0].1 = 6 ∧ v[0].2.2.2 = 1) (ha : a < v.length) (hv : v.length ≤ 100000000000) {alg : Int} {p k z s : List UInt8}
    (h : F.cose_read_K1 v (a : Int) = some (alg, p, k, z, s, 0)) : ∃ kid, v.drop a = msgD p z s k kid false := by
  have a1 : wI ((a : Int) + 1) = ((a + 1 : Nat) : Int) := by rw [wI_in (by omega) (by omega)]; simp
  have a2 : wI ((a : Int) + 2) = ((a + 2 : Nat) : Int) := by rw [wI_in (by omega) (by omega)]; simp
  obtain ⟨r0, r1, r2⟩ := arr_room hs ha
  have T : F.cose_read_K2 v (a : Int) true ≠ some (alg, p, k, z, s, 0) := fun h => by cases h
  have T3 : ∀ j : Int, F.cose_read_K3 v (a : Int) j true ≠ some (alg, p, k, z, s, 0) := fun _ h => by cases h
  simp only [F.cose_read_K1, getO_lt ha, bind_some'] at h
  obtain ⟨h4, h⟩ := ite_no h T
  obtain ⟨hn, h⟩ := ite_no h T
  have h4 : v[a].1 = 4 := by simpa using h4
  have hn : v[a].2.2.2 = 4 := by simpa using hn
  have l1 : a + 1 < v.length := by omega
  have l2 : a + 2 < v.length := by omega
  simp only [a1, a2, getO_lt l1, getO_lt l2, bind_some'] at h
  obtain ⟨h2, h⟩ := ite_no h T
  have h2 : v[a + 1].1 = 2 := by simpa using h2
  have h5 : v[a + 2].1 = 5 := by
    cases e : (v[a + 2].1 != 5) with
    | true => rw [e] at h; exact absurd h T
    | false => simpa using e
  obtain ⟨d, t, j, hd, he, hend⟩ := msg_all hs h0 hA ha h4 hn l1 h2
  obtain ⟨b1, b2⟩ := Behind_at hw hK hU hs l2 hd he
  simp only [h5, bne_self_eq_false, F.cose_read_K2, Bool.false_eq_true, if_false, a2, b1, bind_some'] at h
  obtain ⟨x, hx, h⟩ := obind_some h
  have hj : j < v.length := by
    obtain ⟨_, hlt, _⟩ := getO_some hx
    omega
  rw [getO_lt hj] at hx
  cases hx
  have j1 : wI ((j : Int) + 1) = ((j + 1 : Nat) : Int) := by rw [wI_in (by omega) (by omega)]; simp
  obtain ⟨hb1, h⟩ := ite_no h (T3 _)
  have hb1 : v[j].1 = 2 := by simpa using hb1
  rw [j1] at h
  obtain ⟨x, hx, h⟩ := obind_some h
  have hj1 : j + 1 < v.length := by
    obtain ⟨_, hlt, _⟩ := getO_some hx
    omega
  rw [getO_lt hj1] at hx
  cases hx
  have hb2 : v[j + 1].1 = 2 := by
    cases e : (v[j + 1].1 != 2) with
    | true => rw [e] at h; exact absurd h (T3 _)
    | false => simpa using e
  simp only [hb2, bne_self_eq_false] at h
  have hlen := hend hj hb1 hj1 hb2
  obtain ⟨g1, g3, g4, g⟩ := K3_parts hw hK hU a j l1 l2 hj1 hv h
  have fA : v[a] = (4, 0, [], 4) := fit4 r2 h4 hn
  have fB : v[a + 1] = (2, 0, p, 0) := g1 ▸ fit2 (arr_room hs l1).2.2 h2
  have fJ : v[j] = (2, 0, z, 0) := g3 ▸ fit2 (arr_room hs hj).2.2 hb1
  have fK : v[j + 1] = (2, 0, s, 0) := g4 ▸ fit2 (arr_room hs hj1).2.2 hb2
  obtain ⟨d', u, _, hk, _, _⟩ := map_kids he l2 h5
  have ext : ∀ l : List It, v.length = a + l.length → (∀ i, i < l.length → v[a + i]? = l[i]?) → v.drop a = l := by
    intro l hl hi
    refine List.ext_getElem? fun i => ?_
    rw [List.getElem?_drop]
    by_cases h : i < l.length
    · exact hi i h
    · rw [List.getElem?_eq_none (by omega), List.getElem?_eq_none (by omega)]
  rcases g with hn0 | ⟨hn2, q, hq, hmem, hq2, hqk⟩
  · rw [hn0] at hk
    simp only [Int.toNat_zero, kidsE] at hk
    cases hk
    have f5 : v[a + 2] = (5, 0, [], 0) := fit5 (arr_room hs l2).2.2 h5 hn0
    refine ⟨false, ext _ (by simp [msgD]; omega) fun i hi => ?_⟩
    simp only [msgD, Bool.false_eq_true, if_false, List.nil_append, List.cons_append] at hi ⊢
    match i with
    | 0 => simp [List.getElem?_eq_getElem ha, fA]
    | 1 => simp [List.getElem?_eq_getElem l1, fB]
    | 2 => simp [List.getElem?_eq_getElem l2, f5]
    | 3 => simp only [Nat.add_assoc] at fJ hj; simp [List.getElem?_eq_getElem hj, fJ]
    | 4 => simp only [Nat.add_assoc] at fK hj1; simp [List.getElem?_eq_getElem hj1, fK]
    | n + 5 => simp at hi; omega
  · rw [hn2] at hk
    have fq : v[q] = (2, 0, k, 0) := hqk ▸ fit2 (arr_room hs hq).2.2 hq2
    have f5 : v[a + 2] = (5, 0, [], 2) := fit5 (arr_room hs l2).2.2 h5 hn2
    rcases Member_form hw hK hU ((a + 2 : Nat) : Int) with hM | ⟨a', D, K, kk, uu, ha', ea, h5', hKv, hD, hkk, hM⟩
    · rw [(hM _).1] at hmem
      cases hmem
    · have : a' = a + 2 := by omega
      subst this
      have : K = 1 := by omega
      subst this
      rw [(hM _).1] at hmem
      obtain ⟨t1, j1', w1, w2, w3⟩ := memE_one (Option.some.inj hmem) (by omega)
      have : j1' = q := by omega
      subst this
      obtain ⟨l3, _, _, w4, w5⟩ := at_item w1
      have hseg : seg v (a + 2 + 1) j1' = (v.drop (a + 2 + 1)).take (j1' - (a + 2 + 1)) := rfl
      have hqe : j1' = a + 4 := by
        have := congrArg List.length w2
        rw [hseg] at this
        simp at this
        omega
      subst hqe
      have f3 : v[a + 3] = (0, 4, [], 0) := by
        rw [hseg, show a + 4 - (a + 2 + 1) = 1 by omega] at w2
        rw [List.drop_eq_getElem_cons (by omega), List.take_succ_cons, List.take_zero] at w2
        exact List.head_eq_of_cons_eq w2
      obtain ⟨x1, x2, x3, x4, x5, x6⟩ := kidsE_next (r := 1) hk
      have := plain_next x5 l3 (by rw [f3]; simp)
      subst this
      obtain ⟨y1, y2, y3, y4, y5, y6⟩ := kidsE_next (r := 0) x6
      have := plain_next y5 hq (by rw [fq]; simp)
      subst this
      simp only [kidsE] at y6
      cases y6
      refine ⟨true, ext _ (by simp [msgD]; omega) fun i hi => ?_⟩
      simp only [msgD, Bool.false_eq_true, if_false, if_true, List.nil_append, List.cons_append] at hi ⊢
      match i with
      | 0 => simp [List.getElem?_eq_getElem ha, fA]
      | 1 => simp [List.getElem?_eq_getElem l1, fB]
      | 2 => simp [List.getElem?_eq_getElem l2, f5]
      | 3 => simp [List.getElem?_eq_getElem l3, f3]
      | 4 => simp [List.getElem?_eq_getElem hq, fq]
      | 5 => simp only [Nat.add_assoc] at fJ hj; simp [List.getElem?_eq_getElem hj, fJ]
      | 6 => simp only [Nat.add_assoc] at fK hj1; simp [List.getElem?_eq_getElem hj1, fK]
      | n + 7 => simp at hi; omega
theorem read_parts (hs : shapedD v = true) (h0 : 0 < v.length) (hv : v.length ≤ 100000000000) {alg : Int} {p k z s : List UInt8} (h : F.cose_read v = some (alg, p, k, z, s, 0)) : ∃ kid tag, v = msgD p z s k kid tag := by
  have g0 : getO v (0 : Int) = some v[0] := getO_lt (i := 0) h0
  have z0 : F.cose_read_K1 v ((0 : Nat) : Int) = some (alg, p, k, z, s, 0) → ∃ kid tag, v = msgD p z s k kid tag := fun h => by
    obtain ⟨kid, hk⟩ := K1_parts hw hK hU hs h0 (.inl rfl) h0 hv h
    exact ⟨kid, false, by simpa using hk⟩
  unfold F.cose_read at h
  simp only [g0, bind_some'] at h
  by_cases h6 : v[0].1 = 6
  · have e6 : (v[0].1 == 6) = true := by simpa using h6
    obtain ⟨r0, r1, r2⟩ := arr_room hs h0
    have c1 : v[0].2.2.2 = 1 := by
      unfold fitE at r2
      rw [h6] at r2
      simp at r2
      exact r2.2
    simp only [e6, if_true] at h
    by_cases h18 : v[0].2.1 = 18
    · have e18 : (v[0].2.1 == 18) = true := by simpa using h18
      simp only [e18, F.cose_read_K7, if_true] at h
      obtain ⟨kid, hk⟩ := K1_parts hw hK hU hs h0 (.inr ⟨rfl, h6, c1⟩) (by omega) hv (a := 1) h
      refine ⟨kid, true, ?_⟩
      have : v = v[0] :: v.drop 1 := by
        have := List.drop_eq_getElem_cons h0
        simpa using this
      rw [this, hk, fit6 r2 h6 h18]
      rfl
    · have e18 : (v[0].2.1 == 18) = false := by simpa using h18
      simp only [e18, F.cose_read_K7, if_true, Bool.false_eq_true, if_false] at h
      exact z0 h
  · have e6 : (v[0].1 == 6) = false := by simpa using h6
    simp only [e6, F.cose_read_K7, Bool.false_eq_true, if_false] at h
    exact z0 h
end
end Go.Gk.Cb
end

section
set_option linter.unusedSimpArgs false
set_option linter.unusedVariables false
set_option linter.unusedSectionVars false
namespace Go.Gk.Cb
open Go Go.Gk
theorem msg_small (p z s k : List UInt8) (kid tag : Bool) (hp : p.length ≤ 2000000) (hz : z.length ≤ 2000000) (hs : s.length ≤ 2000000) (hk : k.length ≤ 2000000) :
    wt (msgD p z s k kid tag) ≤ 4000000000000 ∧ Kd (msgD p z s k kid tag) := by
  refine ⟨by cases kid <;> cases tag <;> simp [msgD, wt] <;> omega, by cases kid <;> cases tag <;> simp [msgD, Kd]⟩
theorem print_len (v : List It) : (printD v).1.length ≤ 65536 := by
  unfold printD
  cases h1 : encD 32 v 0 with
  | none => simp
  | some a =>
    obtain ⟨u, j⟩ := a
    simp only
    split
    · split
      · simp
      · simp only; omega
    · simp
theorem head_of {b p z s k : List UInt8} {kid tag : Bool} (h : F.cbor_Parse b = some (msgD p z s k kid tag, 0, 0)) : F.law31_head b = some (p, true) := by
  unfold F.law31_head
  rw [h]
  cases kid <;> cases tag <;> rfl
theorem parse_parts {b c : List UInt8} {R : Int × List UInt8 × List UInt8 × List UInt8 × List UInt8 × Int} (h : F.cose_Parse b c = some R) (h0 : R.2.2.2.2.2 = 0) :
    ∃ p kid tag, F.cbor_Parse b = some (msgD p R.2.2.1 R.2.2.2.1 R.2.1 kid tag, 0, 0) ∧ printD (msgD p R.2.2.1 R.2.2.2.1 R.2.1 kid tag) = (b, 0) ∧
      p.length ≤ 2000000 ∧ R.2.2.1.length ≤ 2000000 ∧ R.2.2.2.1.length ≤ 2000000 ∧ R.2.1.length ≤ 2000000 ∧ b.length ≤ 65536 := by
  have N1 : ∀ e : Int, e ≠ 0 → (obind (F.signet_cose_Parse_1 e) fun x => some (x.1, x.2.1, x.2.2.1, x.2.2.2.1, x.2.2.2.2.1, x.2.2.2.2.2)) ≠ some R := by
    intro e he h
    simp only [F.signet_cose_Parse_1, bind_some'] at h
    cases h
    exact he h0
  unfold F.cose_Parse at h
  simp only [F.cose_Parse_K1, if_true] at h
  obtain ⟨h1, h⟩ := ite_no h (N1 10 (by omega))
  simp only [decide_eq_true_eq] at h1
  obtain ⟨h2, h⟩ := ite_no h (N1 10 (by omega))
  rw [parse_eq] at h
  simp only [bind_some'] at h
  rcases parse_cases b with ⟨v, hbl, hbv, hpb⟩ | ⟨e, p, he, hp0, hp1, hpb⟩
  · have hN := fine_of hbl hbv
    have hm := (itemD_moves b 32).1 _ _ _ hbv
    have hv0 : 0 < v.length := by omega
    have hU : ∀ x ∈ v, x.2.2.1.length ≤ 2000000 := fun x hx => by have := hN.2.2 x hx; omega
    obtain ⟨pp, ps⟩ := print_parsed hbl hbv
    rw [hpb] at h
    simp only [bne_self_eq_false, Bool.false_eq_true, if_false] at h
    obtain ⟨alg, p, k, z, s, st, hx, hy, lp, lk, lz, ls⟩ := read_both hN.wt hN.kd hU ps hv0 (by omega)
    rw [hx, bind_some'] at h
    by_cases hst : st = 0
    · subst hst
      simp only [bne_self_eq_false, Bool.false_eq_true, if_false] at h
      obtain ⟨x39, _, h⟩ := obind_some h
      obtain ⟨x42, _, h⟩ := obind_some h
      obtain ⟨x45, _, h⟩ := obind_some h
      obtain ⟨x48, _, h⟩ := obind_some h
      cases h
      obtain ⟨kid, tag, e⟩ := read_parts hN.wt hN.kd hU ps hv0 (by omega) hx
      subst e
      exact ⟨p, kid, tag, by rw [parse_eq, hpb], pp, lp, lz, ls, lk, hbl⟩
    · simp only [] at h
      rw [if_pos (by simpa using hst)] at h
      exact absurd h (N1 st hst)
  · rw [hpb] at h
    simp only [] at h
    rw [if_pos (by simpa using he)] at h
    exact absurd h (N1 e he)
theorem CoseMessage_true (b c : List UInt8) (hb : b.length ≤ 140737488351232) (hc : c.length ≤ 140737488351232) : F.law31_CoseMessage b c = some true := by
  unfold F.law31_CoseMessage
  rw [awake31_eq, bind_some']
  obtain ⟨R, h1, h2, h3, h4, h5, h6⟩ := Parse_both b c (by omega) (by omega)
  rw [h1]
  simp only [bind_some', not_true_f, Bool.false_eq_true, if_false]
  by_cases h0 : R.2.2.2.2.2 = 0
  · have e0 : (R.2.2.2.2.2 != 0) = false := by simp [h0]
    obtain ⟨p, kid, tag, hp, hpr, l1, l2, l3, l4, l5⟩ := parse_parts h1 h0
    rw [e0, head_of hp]
    simp only [bind_some', not_true_f, Bool.false_eq_true, if_false]
    have step : ∀ i : Nat, i < 4 → ∃ ok : Bool, F.law31_CoseMessage_L1 b R (p, true) (i : Int) = F.law31_CoseMessage_K1 (i : Int) ok ∧ ((i % 2 == 1) = kid → decide (1 < i) = tag → ok = true) := by
      intro i hi
      have c1 : decide ((i : Int) < 4) = true := decide_eq_true (by omega)
      have c2 : (Int.tmod (i : Int) 2 == 1) = (i % 2 == 1) := by
        match i, hi with
        | 0, _ => rfl
        | 1, _ => rfl
        | 2, _ => rfl
        | 3, _ => rfl
      have c3 : decide ((1 : Int) < (i : Int)) = decide (1 < i) := by simp; omega
      obtain ⟨w1, w2⟩ := msg_small p R.2.2.1 R.2.2.2.1 R.2.1 (i % 2 == 1) (decide (1 < i)) l1 l2 l3 l4
      simp only [F.law31_CoseMessage_L1, c1, if_true, c2, c3, message_eq, bind_some', print_eq w1 w2]
      by_cases hz : (printD (msgD p R.2.2.1 R.2.2.2.1 R.2.1 (i % 2 == 1) (decide (1 < i)))).2 = 0
      · refine ⟨_, by rw [if_pos (by simpa using hz), same31, sameB_eq _ _ (by have := print_len (msgD p R.2.2.1 R.2.2.2.1 R.2.1 (i % 2 == 1) (decide (1 < i))); omega), bind_some'], ?_⟩
        rintro rfl rfl
        rw [hpr]; simp
      · refine ⟨false, by rw [if_neg (by simpa using hz)], ?_⟩
        rintro rfl rfl
        rw [hpr] at hz
        exact absurd rfl hz
    have k1 : ∀ (i : Nat) (ok : Bool), i < 4 → F.law31_CoseMessage_K1 (i : Int) ok = some (if ok then .inr true else .inl ((i : Int) + 1)) := by
      intro i ok hi
      cases ok
      · simp only [F.law31_CoseMessage_K1, Bool.false_eq_true, if_false, wI_in (show -9223372036854775808 ≤ (i : Int) + 1 by omega) (by omega)]; rfl
      · rfl
    -- the one that is meant
    let m : Nat := (if kid then 1 else 0) + (if tag then 2 else 0)
    have hm : m < 4 ∧ (m % 2 == 1) = kid ∧ decide (1 < m) = tag := by cases kid <;> cases tag <;> decide
    have go : ∀ n i : Nat, i + n = m → loop (F.law31_CoseMessage_L1 b R (p, true)) (i : Int) = some true := by
      intro n
      induction n with
      | zero =>
        intro i hi
        have : i = m := by omega
        subst this
        obtain ⟨ok, e1, e2⟩ := step m hm.1
        rw [e2 hm.2.1 hm.2.2, k1 _ _ hm.1] at e1
        exact loop_inr e1
      | succ n ih =>
        intro i hi
        obtain ⟨ok, e1, e2⟩ := step i (by omega)
        rw [k1 _ _ (by omega)] at e1
        cases ok
        · rw [loop_inl e1]
          exact ih (i + 1) (by omega)
        · exact loop_inr e1
    exact go m 0 (by omega)
  · have e0 : (R.2.2.2.2.2 != 0) = true := by simpa using h0
    rw [e0]; rfl
end Go.Gk.Cb
end
