import Derived.Test.YtgjpaedgcpjigaaDoorGkQD
import Derived.Test.YtgjpaedgcpjigaaDoorGkFcose
import Derived.Test.YtgjpaedgcpjigaaDoorGkFref31
import Derived.Test.YtgjpaedgcpjigaaDoorGkFlaw31
set_option linter.unusedVariables false
set_option linter.unusedSimpArgs false

section
set_option linter.unusedSimpArgs false
set_option linter.unusedVariables false
namespace Go.Gk.Cb
open Go Go.Gk
theorem memE_at {v : List It} {wr : Wr} (key : List It) : ∀ (r i : Nat) (last : Option (List UInt8)) (t : List UInt8) (j : Nat), kidsE wr true (2 * r) true last i = some (t, j) →
    memE v wr key r i = -1 ∨ ∃ (k : Nat) (t' : List UInt8) (j' : Nat), memE v wr key r i = (k : Int) ∧ wr k = some (t', j')
  | 0, i, last, t, j, h => .inl rfl
  | r + 1, i, last, t, j, h1 => by
    rw [show 2 * (r + 1) = 2 * r + 1 + 1 by omega] at h1
    simp only [kidsE] at h1
    cases h4 : wr i with
    | none => rw [h4] at h1; cases h1
    | some a =>
      obtain ⟨t1, j1⟩ := a
      rw [h4] at h1
      simp only [Bool.true_and, Bool.not_true, Bool.false_and, Bool.and_false, Bool.false_eq_true, if_false, if_true] at h1
      split at h1
      · cases h1
      · cases h5 : wr j1 with
        | none => rw [h5] at h1; cases h1
        | some b =>
          obtain ⟨t2, j2⟩ := b
          rw [h5] at h1
          simp only [Bool.not_false] at h1
          cases h6 : kidsE wr true (2 * r) true (some t1) j2 with
          | none => rw [h6] at h1; cases h1
          | some e =>
            obtain ⟨u, k⟩ := e
            simp only [memE, h4, h5]
            split
            · exact .inr ⟨j1, t2, j2, rfl, h5⟩
            · exact memE_at key r j2 _ u k h6
theorem at_item {v : List It} {d k j : Nat} {t : List UInt8} (h : encD d v k = some (t, j)) : ∃ hk : k < v.length, fitE v[k] ∧ 0 ≤ v[k].2.2.2 ∧ k + 1 + v[k].2.2.2.toNat ≤ j ∧ j ≤ v.length := by
  have hp := encD_put v d k t j h
  have hk : k < v.length := by omega
  have key : ∀ sub, (∀ wr, sub = some wr → Put v wr) → itemE v sub k = some (t, j) → fitE v[k] ∧ 0 ≤ v[k].2.2.2 ∧ k + 1 + v[k].2.2.2.toNat ≤ j := by
    intro sub hsub h1
    unfold itemE at h1
    rw [List.getElem?_eq_getElem hk] at h1
    simp only at h1
    split at h1
    · cases h1
    · rename_i hf
      have hf' := Classical.not_not.1 hf
      obtain ⟨k0, kz⟩ := fit_kids hf'
      split at h1
      · cases sub with
        | none => cases h1
        | some wr =>
          simp only at h1
          split at h1
          · cases h1
          · rename_i t1 j1 hk1
            cases h1
            have := kidsE_put (hsub wr rfl) _ _ _ _ _ _ _ (by omega) hk1
            exact ⟨hf', k0, by omega⟩
      · rename_i hk1
        cases h1
        have := kz hk1
        exact ⟨hf', k0, by omega⟩
  refine ⟨hk, ?_⟩
  cases d with
  | zero =>
    obtain ⟨a, b, c⟩ := key none (by simp) h
    exact ⟨a, b, c, by omega⟩
  | succ d =>
    obtain ⟨a, b, c⟩ := key (some (encD d v)) (by intro wr hw; cases hw; exact encD_put v d) h
    exact ⟨a, b, c, by omega⟩
section
variable {v : List It} (hw : wt v ≤ 4000000000000) (hK : Kd v) (hU : ∀ x ∈ v, x.2.2.1.length ≤ 2000000)
include hw hK hU
end
end Go.Gk.Cb
end

section
set_option linter.unusedSimpArgs false
set_option linter.unusedVariables false
namespace Go.Gk.Cb
open Go Go.Gk
def textsD (v : List It) : Nat → Nat → Option (List (List UInt8))
  | _, 0 => some []
  | p, r + 1 => match v[p]? with
    | none => none
    | some x => if x.1 = 3 then (match textsD v (p + 1) r with
      | none => none
      | some l => some (x.2.2.1 :: l)) else none
abbrev SD := List UInt8 × Bool × Bool
abbrev TM := Bool × Int × Bool
section
variable {v : List It}
end
section
variable {v : List It} (hw : wt v ≤ 4000000000000) (hK : Kd v) (hU : ∀ x ∈ v, x.2.2.1.length ≤ 2000000)
include hw hK hU
end
theorem roomy31 : F.law31_roomy = F.law30_roomy := rfl
theorem spared31 : F.law31_spared = F.law30_spared := rfl
theorem same31 : F.law31_same = F.law30_sameBytes := rfl
end Go.Gk.Cb
end

section
set_option linter.unusedSimpArgs false
set_option linter.unusedVariables false
set_option linter.unusedSectionVars false
namespace Go.Gk.Cb
open Go Go.Gk
theorem memE_pos {v : List It} {wr : Wr} {key : List It} : ∀ {r i : Nat}, 0 ≤ memE v wr key r i → 1 ≤ r
  | 0, i, h => by simp [memE] at h
  | r + 1, i, h => by omega
theorem memE_two {v : List It} {wr : Wr} {k1 k2 : List It} (hk : k1 ≠ k2) : ∀ {r i : Nat}, 0 ≤ memE v wr k1 r i → 0 ≤ memE v wr k2 r i → 2 ≤ r
  | 0, i, h, _ => by simp [memE] at h
  | 1, i, h, h2 => by
    exfalso
    simp only [memE] at h h2
    cases h4 : wr i with
    | none => simp [h4] at h
    | some a =>
      obtain ⟨t, j⟩ := a
      simp only [h4] at h h2
      cases h5 : wr j with
      | none =>
        simp only [h5] at h h2
        by_cases e1 : seg v i j = k1
        · by_cases e2 : seg v i j = k2
          · exact hk (e1.symm.trans e2)
          · simp [e2] at h2
        · simp [e1] at h
      | some b =>
        obtain ⟨t2, j2⟩ := b
        simp only [h5] at h h2
        by_cases e1 : seg v i j = k1
        · by_cases e2 : seg v i j = k2
          · exact hk (e1.symm.trans e2)
          · simp [e2] at h2
        · simp [e1] at h
  | r + 2, i, _, _ => by omega
section
variable {v : List It} (hw : wt v ≤ 4000000000000) (hK : Kd v) (hU : ∀ x ∈ v, x.2.2.1.length ≤ 2000000)
include hw hK hU
theorem Member_form (p : Int) : (∀ key, F.cbor_Member v p key = some (-1) ∧ F.ref30_Member v p key = some (-1)) ∨
    ∃ (a d K k : Nat) (u : List UInt8) (ha : a < v.length), p = (a : Int) ∧ v[a].1 = 5 ∧ v[a].2.2.2 = ((2 * K : Nat) : Int) ∧ d ≤ 32 ∧ kidsE (encD d v) true (2 * K) true none (a + 1) = some (u, k) ∧
      ∀ key, F.cbor_Member v p key = some (memE v (encD d v) key K (a + 1)) ∧ F.ref30_Member v p key = some (memE v (encD d v) key K (a + 1)) := by
  have hl := wt_len v
  unfold F.cbor_Member F.ref30_Member
  rw [shaped_eq hw hK, refShaped_eq hw hK hU]
  simp only [bind_some']
  by_cases h0 : p < 0
  · have e0 : decide (p < 0) = true := by simpa using h0
    refine .inl fun key => ⟨by simp only [e0, if_true, F.cbor_Member_K1], ?_⟩
    simp only [e0, if_true, F.ref30_Member_K1, ite_self]
  · have e0 : decide (p < 0) = false := by simpa using h0
    obtain ⟨a, rfl⟩ := Int.eq_ofNat_of_zero_le (Int.not_lt.1 h0)
    by_cases h1 : v.length ≤ a
    · have e1 : decide ((v.length : Int) ≤ (a : Int)) = true := by simp; omega
      refine .inl fun key => ⟨by simp only [e0, e1, if_true, Bool.false_eq_true, if_false, F.cbor_Member_K1], ?_⟩
      simp only [e0, e1, if_true, Bool.false_eq_true, if_false, F.ref30_Member_K1, ite_self]
    · have e1 : decide ((v.length : Int) ≤ (a : Int)) = false := by simp; omega
      have ha : a < v.length := by omega
      simp only [e0, e1, Bool.false_eq_true, if_false, getO_lt ha, bind_some']
      by_cases h5 : v[a].1 = 5
      · have e5 : (v[a].1 != 5) = false := by simp [h5]
        simp only [e5, Bool.false_eq_true, if_false]
        cases hs : shapedD v with
        | false => exact .inl fun key => ⟨by simp only [Bool.not_false, F.cbor_Member_K1, if_true], by simp only [Bool.not_false, F.ref30_Member_K1, if_true]⟩
        | true =>
          obtain ⟨d, t, k, hd, he⟩ := at_shaped hs ha
          obtain ⟨d', u, rfl, hk, hk0, hk2⟩ := map_kids he ha h5
          obtain ⟨K, hKv⟩ : ∃ K : Nat, v[a].2.2.2 = ((2 * K : Nat) : Int) := ⟨(v[a].2.2.2 / 2).toNat, by omega⟩
          rw [hKv, Int.toNat_natCast] at hk
          have hkd := hK v[a] (List.getElem_mem ha)
          have hdiv : wI (Int.tdiv v[a].2.2.2 2) = (K : Int) := by
            rw [hKv, Int.tdiv_eq_ediv_of_nonneg (by omega), wI_in (by omega) (by omega)]; omega
          have ha1 : wI ((a : Int) + 1) = ((a + 1 : Nat) : Int) := by rw [wI_in (by omega) (by omega)]; simp
          refine .inr ⟨a, d', K, k, u, ha, rfl, h5, hKv, by omega, hk, fun key => ⟨?_, ?_⟩⟩
          · simp only [Bool.not_true, F.cbor_Member_K1, Bool.false_eq_true, if_false, getO_lt ha, bind_some', ha1]
            exact member_cbor (by omega) (by omega) key v[a] K hdiv (by omega) K 0 (a + 1) none u k hk (by omega) (by omega)
          · simp only [Bool.not_true, F.ref30_Member_K1, Bool.false_eq_true, if_false, ha1]
            exact member_ref (by omega) (by omega) key a ha K hdiv (by omega) K 0 (a + 1) none u k hk (by omega) (by omega)
      · have e5 : (v[a].1 != 5) = true := by simpa using h5
        refine .inl fun key => ⟨by simp only [e5, if_true, F.cbor_Member_K1], ?_⟩
        simp only [e5, F.ref30_Member_K1, if_true, ite_self]
theorem keys_at (p : Int) : ∃ q1 q4 : Int, F.cbor_Member v p [(0, 1, [], 0)] = some q1 ∧ F.ref31_value v p 1 = some q1 ∧ F.cbor_Member v p [(0, 4, [], 0)] = some q4 ∧ F.ref31_value v p 4 = some q4 ∧
    (q1 = -1 ∨ ∃ k : Nat, k < v.length ∧ q1 = (k : Int)) ∧ (q4 = -1 ∨ ∃ k : Nat, k < v.length ∧ q4 = (k : Int)) ∧
    ∀ (a : Nat) (ha : a < v.length), p = (a : Int) → (v[a].1 ≠ 5 → q1 = -1 ∧ q4 = -1) ∧ (0 ≤ q1 → 2 ≤ v[a].2.2.2) ∧ (0 ≤ q1 → 0 ≤ q4 → 4 ≤ v[a].2.2.2) := by
  rcases Member_form hw hK hU p with h | ⟨a, d, K, k, u, ha, rfl, h5, hKv, hd, hk, h⟩
  · refine ⟨-1, -1, (h _).1, by unfold F.ref31_value; rw [(h _).2]; rfl, (h _).1, by unfold F.ref31_value; rw [(h _).2]; rfl, .inl rfl, .inl rfl, fun a ha _ => ⟨fun _ => ⟨rfl, rfl⟩, fun h => ?_, fun h => ?_⟩⟩ <;> omega
  · have at' : ∀ key, memE v (encD d v) key K (a + 1) = -1 ∨ ∃ k : Nat, k < v.length ∧ memE v (encD d v) key K (a + 1) = (k : Int) := fun key => by
      rcases memE_at key K (a + 1) none u k hk with h | ⟨k', t', j', h, h'⟩
      · exact .inl h
      · exact .inr ⟨k', (at_item h').1, h⟩
    refine ⟨_, _, (h _).1, by unfold F.ref31_value; rw [(h _).2]; rfl, (h _).1, by unfold F.ref31_value; rw [(h _).2]; rfl, at' _, at' _, fun a' ha' e => ?_⟩
    have : a' = a := by omega
    subst this
    refine ⟨fun hn => absurd h5 hn, fun h1 => ?_, fun h1 h4 => ?_⟩
    · have := memE_pos h1; omega
    · have := memE_two (by simp) h1 h4; omega
def dat (v : List It) (q : Int) : List UInt8 := if 0 ≤ q then ((v[q.toNat]?).map (·.2.2.1)).getD [] else []
theorem kid_eq (p q4 : Int) (h : F.ref31_value v p 4 = some q4) (hq : q4 = -1 ∨ ∃ k : Nat, k < v.length ∧ q4 = (k : Int)) :
    ∃ ok, F.ref31_kid v p = some (dat v q4, decide (0 ≤ q4), ok) ∧ (q4 = -1 → ok = true) ∧ ∀ (k : Nat) (hk : k < v.length), q4 = (k : Int) → ok = (v[k].1 == 2) := by
  unfold F.ref31_kid
  rw [h, bind_some']
  rcases hq with rfl | ⟨k, hk, rfl⟩
  · refine ⟨true, rfl, fun _ => rfl, fun k hk e => ?_⟩; omega
  · have e1 : decide ((k : Int) < 0) = false := decide_eq_false (by omega)
    have e2 : decide ((0 : Int) ≤ (k : Int)) = true := decide_eq_true (by omega)
    have ed : dat v (k : Int) = v[k].2.2.1 := by simp [dat, hk]
    refine ⟨v[k].1 == 2, by simp only [e1, Bool.false_eq_true, if_false, getO_lt hk, bind_some', e2, ed], fun h => by omega, fun k' hk' e => ?_⟩
    have : k' = k := by omega
    subst this; rfl
theorem header_eq (a : Nat) (ha : a < v.length) (hv : v.length ≤ 100000000000) : ∃ q1 q4 ok, F.ref31_value v (a : Int) 1 = some q1 ∧ F.ref31_kid v (a : Int) = some (dat v q4, decide (0 ≤ q4), ok) ∧
    F.cose_header v (a : Int) = some (q1, q4, (v[a].2.2.2 == 2 * ((if 0 ≤ q1 then 1 else 0) + (if 0 ≤ q4 then 1 else 0))) && ok) ∧
    (q1 = -1 ∨ ∃ k : Nat, k < v.length ∧ q1 = (k : Int)) ∧ (q4 = -1 ∨ ∃ k : Nat, k < v.length ∧ q4 = (k : Int)) ∧
    (v[a].1 ≠ 5 → q1 = -1 ∧ q4 = -1) ∧ (0 ≤ q1 → 2 ≤ v[a].2.2.2) ∧ (0 ≤ q1 → 0 ≤ q4 → 4 ≤ v[a].2.2.2) := by
  obtain ⟨q1, q4, c1, r1, c4, r4, h1, h4, hA⟩ := keys_at hw hK hU (a : Int)
  obtain ⟨ok, hk, ok1, ok2⟩ := kid_eq hw hK hU (a : Int) q4 r4 h4
  refine ⟨q1, q4, ok, r1, hk, ?_, h1, h4, hA a ha rfl⟩
  have s1 : ∀ n : Int, 0 ≤ n → n ≤ 5 → F.signet_cose_header_1 1 v (a : Int) n = some (q1, (a : Int), n + (if 0 ≤ q1 then 1 else 0)) := fun n hn hn2 => by
    unfold F.signet_cose_header_1
    rw [c1, bind_some']
    by_cases h : 0 ≤ q1
    · simp only [h, decide_true, if_true, F.signet_cose_header_1_K1, wI_in (show -9223372036854775808 ≤ n + 1 by omega) (by omega)]
    · simp only [h, decide_false, Bool.false_eq_true, if_false, F.signet_cose_header_1_K1, Int.add_zero]
  have s4 : ∀ n : Int, 0 ≤ n → n ≤ 5 → F.signet_cose_header_1 4 v (a : Int) n = some (q4, (a : Int), n + (if 0 ≤ q4 then 1 else 0)) := fun n hn hn2 => by
    unfold F.signet_cose_header_1
    rw [c4, bind_some']
    by_cases h : 0 ≤ q4
    · simp only [h, decide_true, if_true, F.signet_cose_header_1_K1, wI_in (show -9223372036854775808 ≤ n + 1 by omega) (by omega)]
    · simp only [h, decide_false, Bool.false_eq_true, if_false, F.signet_cose_header_1_K1, Int.add_zero]
  unfold F.cose_header
  have hn1 : 0 ≤ (0 : Int) + (if 0 ≤ q1 then 1 else 0) ∧ (0 : Int) + (if 0 ≤ q1 then 1 else 0) ≤ 1 := by split <;> omega
  have hn4 : 0 ≤ (0 : Int) + (if 0 ≤ q1 then 1 else 0) + (if 0 ≤ q4 then 1 else 0) ∧ (0 : Int) + (if 0 ≤ q1 then 1 else 0) + (if 0 ≤ q4 then 1 else 0) ≤ 2 := by
    split <;> split <;> omega
  rw [s1 0 (by omega) (by omega), bind_some', s4 _ hn1.1 (by omega), bind_some']
  simp only [getO_lt ha, bind_some']
  rw [wI_in (by omega) (by omega), Int.zero_add]
  cases he : (v[a].2.2.2 == 2 * ((if 0 ≤ q1 then 1 else 0) + (if 0 ≤ q4 then 1 else 0)))
  · simp
  · simp only [if_true, Bool.true_and]
    rcases h4 with rfl | ⟨k, hk4, rfl⟩
    · rw [ok1 rfl]; rfl
    · have e1 : decide ((k : Int) < 0) = false := decide_eq_false (by omega)
      simp only [e1, Bool.false_eq_true, if_false, getO_lt hk4, bind_some', ok2 k hk4 rfl]
end
theorem arr_kids {v : List It} {d a k : Nat} {t : List UInt8} (h : encD d v a = some (t, k)) (ha : a < v.length) (h4 : v[a].1 = 4) :
    ∃ d' u, d = d' + 1 ∧ kidsE (encD d' v) false v[a].2.2.2.toNat true none (a + 1) = some (u, k) := by
  have key : ∀ sub, itemE v sub a = some (t, k) → ∃ wr u, sub = some wr ∧ kidsE wr false v[a].2.2.2.toNat true none (a + 1) = some (u, k) := by
    intro sub h1
    unfold itemE at h1
    rw [List.getElem?_eq_getElem ha] at h1
    simp only at h1
    split at h1
    · cases h1
    · rw [if_pos (by omega)] at h1
      cases sub with
      | none => cases h1
      | some wr =>
        simp only at h1
        have e5 : (v[a].1 == 5) = false := by rw [h4]; rfl
        rw [e5] at h1
        split at h1
        · cases h1
        · rename_i t1 j1 hk
          cases h1
          exact ⟨wr, t1, rfl, hk⟩
  cases d with
  | zero => obtain ⟨wr, u, h1, _⟩ := key none h; cases h1
  | succ d =>
    obtain ⟨wr, u, h1, h2⟩ := key _ h
    cases h1
    exact ⟨d, u, rfl, h2⟩
theorem bytes_next {v : List It} {d a k : Nat} {t : List UInt8} (h : encD d v a = some (t, k)) (ha : a < v.length) (h2 : v[a].1 = 2) : k = a + 1 := by
  have key : ∀ sub, itemE v sub a = some (t, k) → k = a + 1 := by
    intro sub h1
    unfold itemE at h1
    rw [List.getElem?_eq_getElem ha] at h1
    simp only at h1
    split at h1
    · cases h1
    · rw [if_neg (by omega)] at h1
      cases h1; rfl
  cases d with
  | zero => exact key none h
  | succ d => exact key _ h
theorem kidsE_step {rec : Wr} {r : Nat} {b : Bool} {l : Option (List UInt8)} {i k : Nat} {u : List UInt8} (h : kidsE rec false (r + 1) b l i = some (u, k)) : ∃ t j u', rec i = some (t, j) ∧ kidsE rec false r (!b) l j = some (u', k) := by
  simp only [kidsE, Bool.false_and, Bool.false_eq_true, if_false] at h
  cases h1 : rec i with
  | none => rw [h1] at h; cases h
  | some a =>
    obtain ⟨t, j⟩ := a
    rw [h1] at h
    simp only at h
    cases h2 : kidsE rec false r (!b) l j with
    | none => rw [h2] at h; cases h
    | some e =>
      obtain ⟨u', k'⟩ := e
      rw [h2] at h
      cases h
      exact ⟨t, j, u', rfl, h2⟩
theorem msg_kids {v : List It} (hs : shapedD v = true) {a : Nat} (ha : a < v.length) (h4 : v[a].1 = 4) (hn : v[a].2.2.2 = 4) (h1 : a + 1 < v.length) (h2 : v[a + 1].1 = 2) :
    ∃ d t j, d ≤ 32 ∧ encD d v (a + 2) = some (t, j) ∧ j + 1 < v.length ∧ a + 2 < v.length := by
  obtain ⟨d, t, k, hd, he⟩ := at_shaped hs ha
  obtain ⟨d', u, rfl, hk⟩ := arr_kids he ha h4
  rw [hn] at hk
  obtain ⟨t1, j1, u1, e1, k1⟩ := kidsE_step (r := 3) hk
  obtain ⟨t2, j2, u2, e2, k2⟩ := kidsE_step (r := 2) k1
  obtain ⟨t3, j3, u3, e3, k3⟩ := kidsE_step (r := 1) k2
  obtain ⟨t4, j4, u4, e4, k4⟩ := kidsE_step (r := 0) k3
  have := bytes_next e1 h1 h2
  subst this
  have p2 := encD_put v d' _ _ _ e2
  have p3 := encD_put v d' _ _ _ e3
  have p4 := encD_put v d' _ _ _ e4
  exact ⟨d', t2, j2, by omega, e2, by omega, by omega⟩
theorem arr_room {v : List It} (hs : shapedD v = true) {a : Nat} (ha : a < v.length) : 0 ≤ v[a].2.2.2 ∧ a + 1 + v[a].2.2.2.toNat ≤ v.length ∧ fitE v[a] := by
  obtain ⟨d, t, k, hd, he⟩ := at_shaped hs ha
  obtain ⟨_, b, c, e, f⟩ := at_item he
  exact ⟨c, by omega, b⟩
section
variable {v : List It} (hw : wt v ≤ 4000000000000) (hK : Kd v) (hU : ∀ x ∈ v, x.2.2.1.length ≤ 2000000)
include hw hK hU
theorem Behind_at (hs : shapedD v = true) {a d j : Nat} {t : List UInt8} (ha : a < v.length) (hd : d ≤ 32) (he : encD d v a = some (t, j)) : F.cbor_Behind v (a : Int) = some (j : Int) ∧ F.ref30_Behind v (a : Int) = some (j : Int) := by
  have hl := wt_len v
  unfold F.cbor_Behind F.ref30_Behind
  rw [shaped_eq hw hK, refShaped_eq hw hK hU]
  simp only [bind_some', hs, Bool.not_true, Bool.false_eq_true, if_false]
  have e0 : decide ((a : Int) < 0) = false := decide_eq_false (by omega)
  have : decide ((v.length : Int) ≤ (a : Int)) = false := by simp; omega
  exact ⟨by simp only [e0, this, Bool.false_eq_true, if_false, F.cbor_Behind_K1, behind_cbor (by omega) hd he, bind_some'], by simp only [e0, this, Bool.false_eq_true, if_false, F.ref30_Behind_K1, behind_ref (by omega) hd he, bind_some']⟩
end
end Go.Gk.Cb
end

section
set_option linter.unusedSimpArgs false
set_option linter.unusedVariables false
namespace Go.Gk.Cb
open Go Go.Gk
theorem alg_both (x : It) : F.ref31_alg x.1 x.2.1 x.2.2.1 x.2.2.2 = (if x.1 = 1 then F.cose_algorithm x.2.1 else some 0) := by
  unfold F.ref31_alg F.cose_algorithm
  by_cases h1 : x.1 = 1
  · have e1 : (x.1 != 1) = false := by simp [h1]
    rw [e1, if_pos h1]
    simp only [Bool.false_eq_true, if_false]
    have key : ∀ k : Fin 300, ∀ n : UInt64, n = UInt64.ofNat k.val → True := fun _ _ _ => trivial
    by_cases a1 : x.2.1 = 6
    · simp [a1]
    by_cases a2 : x.2.1 = 34
    · simp [a2]
    by_cases a3 : x.2.1 = 7
    · simp [a3]
    by_cases a4 : x.2.1 = 36
    · rw [a4]; decide
    by_cases a5 : x.2.1 = 37
    · rw [a5]; decide
    by_cases a6 : x.2.1 = 38
    · rw [a6]; decide
    by_cases a7 : x.2.1 = 256
    · rw [a7]; decide
    by_cases a8 : x.2.1 = 257
    · rw [a8]; decide
    by_cases a9 : x.2.1 = 258
    · rw [a9]; decide
    simp [a1, a2, a3, a4, a5, a6, a7, a8, a9, F.ref31_alg_K1, F.ref31_alg_K2]
  · have e1 : (x.1 != 1) = true := by simpa using h1
    rw [e1, if_neg h1, if_pos rfl]
theorem saidS_eq (m : Nat) (hm : m < 8) (b : List UInt8) (hb : b.length ≤ 100000000) : F.ref31_said (m : Int) b = some (hd m (UInt64.ofNat b.length) ++ b) := by
  have := hd_len9 m (UInt64.ofNat b.length)
  unfold F.ref31_said
  rw [ofInt64, refHead_eq m hm, bind_some', sadO_ok (by omega), bind_some']
theorem ofInt8 (n : Nat) : UInt8.ofInt (n : Int) = UInt8.ofNat n := by
  apply UInt8.toNat_inj.1
  simp [UInt8.ofInt]
  omega
theorem byte_at (n k : Nat) (hk : k ≤ 64) (hn : n < 4294967296) : UInt8.ofInt (iShr (n : Int) k) = (shr64 (UInt64.ofNat n) k).toUInt8 := by
  have e : iShr (n : Int) k = ((n / 2 ^ k : Nat) : Int) := by
    unfold iShr
    have h2 : (2 : Int) ^ k = ((2 ^ k : Nat) : Int) := by simp
    rw [Nat.min_eq_left hk, h2, Int.fdiv_eq_ediv_of_nonneg _ (Int.natCast_nonneg _), Int.natCast_ediv]
  rw [e, ofInt8]
  apply UInt8.toNat_inj.1
  have hle : n / 2 ^ k ≤ n := Nat.div_le_self _ _
  unfold shr64
  rw [Nat.min_eq_left hk]
  simp only [UInt8.toNat_ofNat', UInt64.toNat_toUInt8, UInt64.toNat_ofNat']
  rw [Nat.mod_eq_of_lt (show n < 2 ^ 64 by omega), Nat.mod_eq_of_lt (show n / 2 ^ k < 2 ^ 64 by omega)]
theorem byte_0 (n : Nat) (hn : n < 4294967296) : UInt8.ofInt (n : Int) = (shr64 (UInt64.ofNat n) 0).toUInt8 := by
  have := byte_at n 0 (by omega) hn
  rwa [show iShr (n : Int) 0 = (n : Int) by simp [iShr]] at this
theorem lf0 : ∀ (m : Fin 8) (k : Fin 24), (shl8 (UInt8.ofNat m.val) 5) ||| (UInt8.ofInt (k.val : Int)) = UInt8.ofNat (32 * m.val) + (UInt64.ofNat k.val).toUInt8 := by decide
theorem lf1 : ∀ (m : Fin 8), (shl8 (UInt8.ofNat m.val) 5) ||| 24 = UInt8.ofNat (32 * m.val + 24 + 0) := by decide
theorem lf2 : ∀ (m : Fin 8), (shl8 (UInt8.ofNat m.val) 5) ||| 25 = UInt8.ofNat (32 * m.val + 24 + 1) := by decide
theorem lf3 : ∀ (m : Fin 8), (shl8 (UInt8.ofNat m.val) 5) ||| 26 = UInt8.ofNat (32 * m.val + 24 + 2) := by decide
theorem u64_lt (n c : Nat) (hn : n < 4294967296) (hc : c < 18446744073709551616) : (UInt64.ofNat n < UInt64.ofNat c) = (n < c) := by
  rw [UInt64.lt_iff_toNat_lt, UInt64.toNat_ofNat', UInt64.toNat_ofNat', Nat.mod_eq_of_lt (by omega), Nat.mod_eq_of_lt (by omega)]
theorem laid_eq (m : Fin 8) (out b : List UInt8) (ho : out.length ≤ 1000000000) (hb : b.length < 1000000000) : F.cose_laid out (UInt8.ofNat m.val) b = some (out ++ hd m.val (UInt64.ofNat b.length) ++ b) := by
  have w24 := u64_lt b.length 24 (by omega) (by omega)
  have w256 := u64_lt b.length 256 (by omega) (by omega)
  have w65536 := u64_lt b.length 65536 (by omega) (by omega)
  have w32 := u64_lt b.length 4294967296 (by omega) (by omega)
  have c : ∀ (h : List UInt8), h.length ≤ 10 → obind (apO 1 out h) (fun x => F.cose_laid_K1 b x) = some (out ++ h ++ b) := fun h hh => by
    rw [apO_ok (by simp; omega), bind_some']
    show obind (apO 1 (out ++ h) b) (fun x => some x) = _
    rw [apO_ok (by simp; omega), bind_some']
  unfold F.cose_laid hd wd
  by_cases h1 : b.length < 24
  · have e1 : decide ((b.length : Int) < 24) = true := decide_eq_true (by omega)
    rw [e1, if_pos rfl, c _ (by simp)]
    have : (UInt64.ofNat b.length < 24) := by rw [show (24 : UInt64) = UInt64.ofNat 24 from rfl, w24]; exact h1
    rw [if_pos this, if_pos rfl, lf0 m ⟨b.length, h1⟩]
  have e1 : decide ((b.length : Int) < 24) = false := decide_eq_false (by omega)
  have n1 : ¬ (UInt64.ofNat b.length < 24) := by rw [show (24 : UInt64) = UInt64.ofNat 24 from rfl, w24]; exact h1
  rw [e1, if_neg n1]
  simp only [Bool.false_eq_true, if_false]
  by_cases h2 : b.length < 256
  · have e2 : decide ((b.length : Int) < 256) = true := decide_eq_true (by omega)
    rw [e2, if_pos rfl, c _ (by simp)]
    have : (UInt64.ofNat b.length < 256) := by rw [show (256 : UInt64) = UInt64.ofNat 256 from rfl, w256]; exact h2
    rw [if_pos this, if_neg (by omega), lf1 m, byte_0 _ (by omega)]
    rfl
  have e2 : decide ((b.length : Int) < 256) = false := decide_eq_false (by omega)
  have n2 : ¬ (UInt64.ofNat b.length < 256) := by rw [show (256 : UInt64) = UInt64.ofNat 256 from rfl, w256]; exact h2
  rw [e2, if_neg n2]
  simp only [Bool.false_eq_true, if_false]
  by_cases h3 : b.length < 65536
  · have e3 : decide ((b.length : Int) < 65536) = true := decide_eq_true (by omega)
    rw [e3, if_pos rfl, c _ (by simp)]
    have : (UInt64.ofNat b.length < 65536) := by rw [show (65536 : UInt64) = UInt64.ofNat 65536 from rfl, w65536]; exact h3
    rw [if_pos this, if_neg (by omega), lf2 m, byte_0 _ (by omega), byte_at _ 8 (by omega) (by omega)]
    rfl
  have e3 : decide ((b.length : Int) < 65536) = false := decide_eq_false (by omega)
  have n3 : ¬ (UInt64.ofNat b.length < 65536) := by rw [show (65536 : UInt64) = UInt64.ofNat 65536 from rfl, w65536]; exact h3
  rw [e3, if_neg n3]
  simp only [Bool.false_eq_true, if_false]
  have : (UInt64.ofNat b.length < 4294967296) := by rw [show (4294967296 : UInt64) = UInt64.ofNat 4294967296 from rfl, w32]; omega
  rw [c _ (by simp), if_pos this, if_neg (by omega), lf3 m, byte_0 _ (by omega), byte_at _ 8 (by omega) (by omega), byte_at _ 16 (by omega) (by omega), byte_at _ 24 (by omega) (by omega)]
  rfl
end Go.Gk.Cb
end

section
set_option linter.unusedSimpArgs false
set_option linter.unusedVariables false
set_option linter.unusedSectionVars false
namespace Go.Gk.Cb
open Go Go.Gk
theorem w0 : wI (2 * 0) = 0 := by decide
theorem w2 : wI (2 * 1) = 2 := by decide
def RB (x : Option (Int × List UInt8 × List UInt8 × List UInt8 × List UInt8 × Int)) (y : Option (List UInt8 × List UInt8 × List UInt8 × List UInt8 × Int × Int)) : Prop :=
  ∃ alg p k z s st, x = some (alg, p, k, z, s, st) ∧ y = some (p, k, z, s, alg, st) ∧ p.length ≤ 2000000 ∧ k.length ≤ 2000000 ∧ z.length ≤ 2000000 ∧ s.length ≤ 2000000
theorem RB.fail (e : Int) : RB (some (0, [], [], [], [], e)) (some ([], [], [], [], 0, e)) := ⟨0, [], [], [], [], e, rfl, rfl, by simp, by simp, by simp, by simp⟩
theorem fin_both {v' : List It} {x26 x27 x28 : It} {n1 n2 : Int} {k1 : Nat} (hk1 : k1 < v'.length) {q4 : Int} {ok : Bool} {K : List UInt8} (hK : K.length ≤ 2000000) (h26 : x26.2.2.1.length ≤ 2000000) (h27 : x27.2.2.1.length ≤ 2000000) (h28 : x28.2.2.1.length ≤ 2000000)
    {x37 x46 : List UInt8 × Bool × Bool} (hKK : x37.1 ++ x46.1 = K) :
    RB (F.cose_read_K5 (v', n1, n2) ((k1 : Int), q4, ok) x26 x27 x28 K) (F.ref31_split_K7 x26 x27 x28 (v', n1, n2) (k1 : Int) x37 x46 false) := by
  have hlen : x37.1.length + x46.1.length ≤ 9223372036854775807 := by
    have := congrArg List.length hKK
    simp at this; omega
  simp only [F.cose_read_K5, F.ref31_split_K7, Bool.false_eq_true, if_false, sadO_ok hlen, bind_some', getO_lt hk1, hKK]
  rw [alg_both]
  by_cases h1 : v'[k1].1 = 1
  · have e1 : (v'[k1].1 == 1) = true := by simpa using h1
    rw [e1, if_pos rfl, if_pos h1]
    obtain ⟨r, hr⟩ : ∃ r, F.cose_algorithm v'[k1].2.1 = some r := ⟨_, rfl⟩
    rw [hr, bind_some', bind_some']
    unfold F.cose_read_K6
    by_cases h0 : r = 0
    · subst h0; exact RB.fail 111
    · have e0 : (r == 0) = false := by simpa using h0
      simp only [e0, Bool.false_eq_true, if_false]
      exact ⟨_, _, _, _, _, _, rfl, rfl, h26, hK, h27, h28⟩
  · have e1 : (v'[k1].1 == 1) = false := by simpa using h1
    rw [e1, if_neg h1, bind_some']
    exact RB.fail 111
theorem dat_neg (v : List It) : dat v (-1) = [] := rfl
theorem dat_at {v : List It} {k : Nat} (hk : k < v.length) : dat v (k : Int) = v[k].2.2.1 := by simp [dat, hk]
section
variable {v : List It} (hw : wt v ≤ 4000000000000) (hK : Kd v) (hU : ∀ x ∈ v, x.2.2.1.length ≤ 2000000)
include hw hK hU
theorem K3_both (a j : Nat) (h1 : a + 1 < v.length) (h2 : a + 2 < v.length) (hj : j + 1 < v.length) (hv : v.length ≤ 100000000000) :
    RB (F.cose_read_K3 v (a : Int) (j : Int) false) (F.ref31_split_K3 v (a : Int) (j : Int) false) := by
  have a1 : wI ((a : Int) + 1) = ((a + 1 : Nat) : Int) := by rw [wI_in (by omega) (by omega)]; simp
  have a2 : wI ((a : Int) + 2) = ((a + 2 : Nat) : Int) := by rw [wI_in (by omega) (by omega)]; simp
  have j1 : wI ((j : Int) + 1) = ((j + 1 : Nat) : Int) := by rw [wI_in (by omega) (by omega)]; simp
  have u1 := hU v[a + 1] (List.getElem_mem h1)
  have u2 := hU v[j] (List.getElem_mem (by omega))
  have u3 := hU v[j + 1] (List.getElem_mem hj)
  simp only [F.cose_read_K3, F.ref31_split_K3, Bool.false_eq_true, if_false, a1, a2, j1, getO_lt h1, getO_lt (show j < v.length by omega), getO_lt hj, bind_some']
  rw [parse_eq, refParse' _ (by omega)]
  simp only [bind_some']
  rcases parse_cases v[a + 1].2.2.1 with ⟨v', hbl, hbv, hpb⟩ | ⟨e, p, he, hp0, hp1, hpb⟩
  · have hN := fine_of hbl hbv
    have hm := (itemD_moves v[a + 1].2.2.1 32).1 _ _ _ hbv
    rw [hpb]
    have h0 : 0 < v'.length := by omega
    have g0 : getO v' (0 : Int) = some v'[0] := getO_lt (i := 0) h0
    have hU' : ∀ x ∈ v', x.2.2.1.length ≤ 2000000 := fun x hx => by have := hN.2.2 x hx; omega
    obtain ⟨q1, q4, ok, r1, r4, hh, p1, p4, hn5, hc1, hc4⟩ := header_eq hN.wt hN.kd hU' 0 h0 (by omega)
    obtain ⟨s1, s4, ok', t1, t4, hh', p1', p4', hn5', hc1', hc4'⟩ := header_eq hw hK hU (a + 2) h2 hv
    rw [show ((0 : Nat) : Int) = 0 from rfl] at r1 r4 hh
    simp only [bne_self_eq_false, Bool.false_eq_true, if_false, g0, bind_some', r1, r4, hh, hh']
    have kd : ∀ q, (q = -1 ∨ ∃ k : Nat, k < v'.length ∧ q = (k : Int)) → (dat v' q).length ≤ 2000000 := by
      rintro q (rfl | ⟨k, hk, rfl⟩)
      · simp [dat_neg]
      · rw [dat_at hk]; exact hU' _ (List.getElem_mem hk)
    have kd2 : ∀ q, (q = -1 ∨ ∃ k : Nat, k < v.length ∧ q = (k : Int)) → (dat v q).length ≤ 2000000 := by
      rintro q (rfl | ⟨k, hk, rfl⟩)
      · simp [dat_neg]
      · rw [dat_at hk]; exact hU _ (List.getElem_mem hk)
    have neg1 : decide ((0 : Int) ≤ -1) = false := rfl
    have neg2 : decide ((-1 : Int) < 0) = true := rfl
    have pos1 : ∀ k : Nat, decide ((0 : Int) ≤ (k : Int)) = true := fun k => decide_eq_true (by omega)
    have pos2 : ∀ k : Nat, decide ((k : Int) < 0) = false := fun k => decide_eq_false (by omega)
    have ref221 : ∀ (x : List UInt8 × Bool × Bool) (k : Int), F.ref31_split_K5 v (a : Int) x v[a + 1] v[j] v[j + 1] (v', 0, 0) k true = some ([], [], [], [], 0, 221) := fun _ _ => rfl
    by_cases h5 : v'[0].1 = 5
    · have e5 : (v'[0].1 != 5) = false := by simp [h5]
      simp only [e5, Bool.false_eq_true, if_false]
      rcases p1 with rfl | ⟨k1, hk1, rfl⟩
      · -- no algorithm
        have L : ∀ A B : Bool, (if (!A) = true then F.cose_read_K4 v (v', 0, 0) (-1, q4, A) (s1, s4, B) v[a + 1] v[j] v[j + 1] true else if (!B) = true then F.cose_read_K4 v (v', 0, 0) (-1, q4, A) (s1, s4, B) v[a + 1] v[j] v[j + 1] true else F.cose_read_K4 v (v', 0, 0) (-1, q4, A) (s1, s4, B) v[a + 1] v[j] v[j + 1] true) = some (0, [], [], [], [], 221) := by
          intro A B
          cases A <;> cases B <;> rfl
        simp only [neg2, if_true, L]
        cases hq : decide (0 ≤ q4) <;> simp only [Bool.false_eq_true, if_false, if_true, F.ref31_split_K4, neg2, F.ref31_split_K5] <;> exact RB.fail 221
      · have c2 := hc1 (by omega)
        have if1 : (if (0 : Int) ≤ (k1 : Int) then (1 : Int) else 0) = 1 := if_pos (by omega)
        have g2 : getO v ((a + 2 : Nat) : Int) = some v[a + 2] := getO_lt h2
        have W0 : wI 0 = 0 := rfl
        have W2 : wI 2 = 2 := rfl
        have W4 : wI 4 = 4 := rfl
        have M0 : (2 : Int) * 0 = 0 := rfl
        have M2 : (2 : Int) * 1 = 2 := rfl
        have M4 : (2 : Int) * 2 = 4 := rfl
        have m1 : ¬ (0 : Int) ≤ -1 := by omega
        have m2 : ∀ k : Nat, (0 : Int) ≤ (k : Int) := fun k => by omega
        have z0 : (0 : Int) + 0 = 0 := rfl
        have z1 : (1 : Int) + 0 = 1 := rfl
        have z2 : (0 : Int) + 1 = 1 := rfl
        have z3 : (1 : Int) + 1 = 2 := rfl
        have K7t : ∀ x y, F.ref31_split_K7 v[a + 1] v[j] v[j + 1] (v', 0, 0) (k1 : Int) x y true = some ([], [], [], [], 0, 221) := fun _ _ => rfl
        generalize hP : ((a + 2 : Nat) : Int) = P at *
        rcases p1' with rfl | ⟨k1', hk1', rfl⟩
        · rcases p4 with rfl | ⟨k4, hk4, rfl⟩ <;> rcases p4' with rfl | ⟨k4', hk4', rfl⟩ <;>
            simp only [neg1, neg2, pos1, pos2, m1, m2, if_true, if_false, Bool.false_eq_true, z0, z1, z2, z3, M0, M2, M4, F.ref31_split_K4, F.ref31_split_K5, F.ref31_split_K6, W0, W2, W4, t4, g0, g2, a2, bind_some', Bool.not_true, Bool.not_false, bne, F.cose_read_K4, Bool.and_eq_true, Bool.not_eq_true', decide_false, decide_true, K7t]
          · generalize (v'[0].2.2.2 == 2) = A
            generalize (v[a + 2].2.2.2 == 0) = B
            cases A <;> cases ok <;> cases B <;> cases ok' <;> simp only [Bool.false_and, Bool.true_and, Bool.and_false, Bool.and_true, if_true, if_false, Bool.false_eq_true, Bool.true_eq_false] <;> first | exact RB.fail 221 | skip
            exact fin_both hk1 (by simp) u1 u2 u3 (by simp [dat_neg])
          · generalize (v'[0].2.2.2 == 2) = A
            generalize (v[a + 2].2.2.2 == 2) = B
            cases A <;> cases ok <;> cases B <;> cases ok' <;> simp only [Bool.false_and, Bool.true_and, Bool.and_false, Bool.and_true, if_true, if_false, Bool.false_eq_true, Bool.true_eq_false] <;> first | exact RB.fail 221 | skip
            rw [getO_lt hk4', bind_some']
            exact fin_both hk1 (hU _ (List.getElem_mem hk4')) u1 u2 u3 (by simp [dat_neg, dat_at hk4'])
          · generalize (v'[0].2.2.2 == 4) = A
            generalize (v[a + 2].2.2.2 == 0) = B
            cases A <;> cases ok <;> cases B <;> cases ok' <;> simp only [Bool.false_and, Bool.true_and, Bool.and_false, Bool.and_true, if_true, if_false, Bool.false_eq_true, Bool.true_eq_false] <;> first | exact RB.fail 221 | skip
            rw [getO_lt hk4, bind_some']
            exact fin_both hk1 (hU' _ (List.getElem_mem hk4)) u1 u2 u3 (by simp [dat_neg, dat_at hk4])
          · generalize (v'[0].2.2.2 == 4) = A
            generalize (v[a + 2].2.2.2 == 2) = B
            cases A <;> cases ok <;> cases B <;> cases ok' <;> simp only [Bool.false_and, Bool.true_and, Bool.and_false, Bool.and_true, if_true, if_false, Bool.false_eq_true, Bool.true_eq_false] <;> first | exact RB.fail 221 | skip
        · have cc := hc1' (by omega)
          rcases p4 with rfl | ⟨k4, hk4, rfl⟩ <;> rcases p4' with rfl | ⟨k4', hk4', rfl⟩
          · have E : (v[a + 2].2.2.2 == 0) = false := by skip; simp; omega
            simp only [neg1, neg2, pos1, pos2, m1, m2, if_true, if_false, Bool.false_eq_true, z0, z1, z2, z3, M0, M2, M4, F.ref31_split_K4, F.ref31_split_K5, F.ref31_split_K6, W0, W2, W4, t4, g0, g2, a2, bind_some', Bool.not_true, Bool.not_false, bne, F.cose_read_K4, Bool.and_eq_true, Bool.not_eq_true', decide_false, decide_true, K7t, E]
            generalize (v'[0].2.2.2 == 2) = A
            generalize (v[a + 2].2.2.2 == 2) = B
            cases A <;> cases ok <;> cases B <;> cases ok' <;> simp only [Bool.false_and, Bool.true_and, Bool.and_false, Bool.and_true, if_true, if_false, Bool.false_eq_true, Bool.true_eq_false] <;> exact RB.fail 221
          · have E : (v[a + 2].2.2.2 == 2) = false := by have := hc4' (by omega) (by omega); simp; omega
            simp only [neg1, neg2, pos1, pos2, m1, m2, if_true, if_false, Bool.false_eq_true, z0, z1, z2, z3, M0, M2, M4, F.ref31_split_K4, F.ref31_split_K5, F.ref31_split_K6, W0, W2, W4, t4, g0, g2, a2, bind_some', Bool.not_true, Bool.not_false, bne, F.cose_read_K4, Bool.and_eq_true, Bool.not_eq_true', decide_false, decide_true, K7t, E]
            generalize (v'[0].2.2.2 == 2) = A
            generalize (v[a + 2].2.2.2 == 4) = B
            cases A <;> cases ok <;> cases B <;> cases ok' <;> simp only [Bool.false_and, Bool.true_and, Bool.and_false, Bool.and_true, if_true, if_false, Bool.false_eq_true, Bool.true_eq_false] <;> exact RB.fail 221
          · have E : (v[a + 2].2.2.2 == 0) = false := by skip; simp; omega
            simp only [neg1, neg2, pos1, pos2, m1, m2, if_true, if_false, Bool.false_eq_true, z0, z1, z2, z3, M0, M2, M4, F.ref31_split_K4, F.ref31_split_K5, F.ref31_split_K6, W0, W2, W4, t4, g0, g2, a2, bind_some', Bool.not_true, Bool.not_false, bne, F.cose_read_K4, Bool.and_eq_true, Bool.not_eq_true', decide_false, decide_true, K7t, E]
            generalize (v'[0].2.2.2 == 4) = A
            generalize (v[a + 2].2.2.2 == 2) = B
            cases A <;> cases ok <;> cases B <;> cases ok' <;> simp only [Bool.false_and, Bool.true_and, Bool.and_false, Bool.and_true, if_true, if_false, Bool.false_eq_true, Bool.true_eq_false] <;> exact RB.fail 221
          · have E : (v[a + 2].2.2.2 == 2) = false := by have := hc4' (by omega) (by omega); simp; omega
            simp only [neg1, neg2, pos1, pos2, m1, m2, if_true, if_false, Bool.false_eq_true, z0, z1, z2, z3, M0, M2, M4, F.ref31_split_K4, F.ref31_split_K5, F.ref31_split_K6, W0, W2, W4, t4, g0, g2, a2, bind_some', Bool.not_true, Bool.not_false, bne, F.cose_read_K4, Bool.and_eq_true, Bool.not_eq_true', decide_false, decide_true, K7t, E]
            generalize (v'[0].2.2.2 == 4) = A
            generalize (v[a + 2].2.2.2 == 4) = B
            cases A <;> cases ok <;> cases B <;> cases ok' <;> simp only [Bool.false_and, Bool.true_and, Bool.and_false, Bool.and_true, if_true, if_false, Bool.false_eq_true, Bool.true_eq_false] <;> exact RB.fail 221
    · have e5 : (v'[0].1 != 5) = true := by simpa using h5
      obtain ⟨rfl, rfl⟩ := hn5 h5
      simp only [e5, if_true, neg1, Bool.false_eq_true, if_false, F.ref31_split_K4, neg2, F.ref31_split_K5]
      exact RB.fail 221
  · have e1 : (e != 0) = true := by simpa using he
    rw [hpb]
    simp only [e1, if_true]
    exact RB.fail e
theorem K1_both (hs : shapedD v = true) (a : Nat) (ha : a < v.length) (hv : v.length ≤ 100000000000) : RB (F.cose_read_K1 v (a : Int)) (F.ref31_split_K1 v (a : Int)) := by
  have a1 : wI ((a : Int) + 1) = ((a + 1 : Nat) : Int) := by rw [wI_in (by omega) (by omega)]; simp
  have a2 : wI ((a : Int) + 2) = ((a + 2 : Nat) : Int) := by rw [wI_in (by omega) (by omega)]; simp
  obtain ⟨r0, r1, r2⟩ := arr_room hs ha
  have T : RB (F.cose_read_K2 v (a : Int) true) (F.ref31_split_K2 v (a : Int) true) := RB.fail 221
  have T3 : ∀ j : Int, RB (F.cose_read_K3 v (a : Int) j true) (F.ref31_split_K3 v (a : Int) j true) := fun _ => RB.fail 221
  unfold F.cose_read_K1 F.ref31_split_K1
  simp only [getO_lt ha, bind_some']
  by_cases h4 : v[a].1 = 4
  · have e4 : (v[a].1 != 4) = false := by simp [h4]
    simp only [e4, Bool.false_eq_true, if_false]
    by_cases hn : v[a].2.2.2 = 4
    · have en : (v[a].2.2.2 != 4) = false := by simp [hn]
      have l1 : a + 1 < v.length := by omega
      have l2 : a + 2 < v.length := by omega
      simp only [en, Bool.false_eq_true, if_false, a1, a2, getO_lt l1, getO_lt l2, bind_some']
      by_cases h2 : v[a + 1].1 = 2
      · have e2 : (v[a + 1].1 != 2) = false := by simp [h2]
        simp only [e2, Bool.false_eq_true, if_false]
        by_cases h5 : v[a + 2].1 = 5
        · have e5 : (v[a + 2].1 != 5) = false := by simp [h5]
          rw [e5]
          obtain ⟨d, t, j, hd, he, hj, _⟩ := msg_kids hs ha h4 hn l1 h2
          obtain ⟨b1, b2⟩ := Behind_at hw hK hU hs l2 hd he
          have j1 : wI ((j : Int) + 1) = ((j + 1 : Nat) : Int) := by rw [wI_in (by omega) (by omega)]; simp
          simp only [F.cose_read_K2, F.ref31_split_K2, Bool.false_eq_true, if_false, a2, b1, b2, bind_some', getO_lt (show j < v.length by omega), j1, getO_lt hj]
          cases (v[j].1 != 2)
          · simp only [Bool.false_eq_true, if_false]
            cases (v[j + 1].1 != 2)
            · exact K3_both hw hK hU a j l1 l2 hj hv
            · exact T3 _
          · simp only [if_true]
            exact T3 _
        · have e5 : (v[a + 2].1 != 5) = true := by simpa using h5
          rw [e5]; exact T
      · have e2 : (v[a + 1].1 != 2) = true := by simpa using h2
        simp only [e2, if_true]; exact T
    · have en : (v[a].2.2.2 != 4) = true := by simpa using hn
      simp only [en, if_true]; exact T
  · have e4 : (v[a].1 != 4) = true := by simpa using h4
    simp only [e4, if_true]; exact T
theorem read_both (hs : shapedD v = true) (h0 : 0 < v.length) (hv : v.length ≤ 100000000000) : RB (F.cose_read v) (F.ref31_split v) := by
  have g0 : getO v (0 : Int) = some v[0] := getO_lt (i := 0) h0
  have z : RB (F.cose_read_K1 v 0) (F.ref31_split_K1 v 0) := K1_both hw hK hU hs 0 h0 hv
  unfold F.cose_read F.ref31_split
  simp only [g0, bind_some']
  by_cases h6 : v[0].1 = 6
  · have e6 : (v[0].1 == 6) = true := by simpa using h6
    obtain ⟨r0, r1, r2⟩ := arr_room hs h0
    have c1 : v[0].2.2.2 = 1 := by
      unfold fitE at r2
      rw [h6] at r2
      simp at r2
      exact r2.2
    simp only [e6, if_true]
    cases (v[0].2.1 == 18)
    · exact z
    · exact K1_both hw hK hU hs 1 (by omega) hv
  · have e6 : (v[0].1 == 6) = false := by simpa using h6
    simp only [e6, Bool.false_eq_true, if_false]
    exact z
end
theorem Parse_both (b c : List UInt8) (hb : b.length ≤ 200000000000000) (hc : c.length ≤ 200000000000000) : ∃ R, F.cose_Parse b c = some R ∧ F.ref31_Parse b c = some R ∧
    R.2.1.length ≤ 2000000 ∧ R.2.2.1.length ≤ 2000000 ∧ R.2.2.2.1.length ≤ 2000000 ∧ R.2.2.2.2.1.length ≤ 10000000 := by
  have F1 : ∀ e : Int, ∃ R, (obind (F.signet_cose_Parse_1 e) fun x => some (x.1, x.2.1, x.2.2.1, x.2.2.2.1, x.2.2.2.2.1, x.2.2.2.2.2)) = some R ∧ some ((0 : Int), ([] : List UInt8), ([] : List UInt8), ([] : List UInt8), ([] : List UInt8), e) = some R ∧
      R.2.1.length ≤ 2000000 ∧ R.2.2.1.length ≤ 2000000 ∧ R.2.2.2.1.length ≤ 2000000 ∧ R.2.2.2.2.1.length ≤ 10000000 := fun e => ⟨_, rfl, rfl, by simp, by simp, by simp, by simp⟩
  unfold F.cose_Parse F.ref31_Parse
  by_cases h1 : 65536 < b.length
  · have e1 : decide ((65536 : Int) < (b.length : Int)) = true := decide_eq_true (by omega)
    simp only [e1, if_true, F.cose_Parse_K1, F.ref31_Parse_K1]
    exact F1 10
  have e1 : decide ((65536 : Int) < (b.length : Int)) = false := decide_eq_false (by omega)
  simp only [e1, Bool.false_eq_true, if_false]
  by_cases h2 : 65536 < c.length
  · have e2 : decide ((65536 : Int) < (c.length : Int)) = true := decide_eq_true (by omega)
    simp only [e2, if_true, F.cose_Parse_K1, F.ref31_Parse_K1]
    exact F1 10
  have e2 : decide ((65536 : Int) < (c.length : Int)) = false := decide_eq_false (by omega)
  simp only [e2, Bool.false_eq_true, if_false, F.cose_Parse_K1, F.ref31_Parse_K1]
  rw [parse_eq, refParse' b (by omega)]
  simp only [bind_some']
  rcases parse_cases b with ⟨v, hbl, hbv, hpb⟩ | ⟨e, p, he, hp0, hp1, hpb⟩
  · have hN := fine_of hbl hbv
    have hm := (itemD_moves b 32).1 _ _ _ hbv
    rw [hpb]
    have h0 : 0 < v.length := by omega
    have hU : ∀ x ∈ v, x.2.2.1.length ≤ 2000000 := fun x hx => by have := hN.2.2 x hx; omega
    simp only [bne_self_eq_false, Bool.false_eq_true, if_false]
    obtain ⟨alg, p, k, z, s, st, hx, hy, lp, lk, lz, ls⟩ := read_both hN.wt hN.kd hU (print_parsed hbl hbv).2 h0 (by omega)
    rw [hx, hy]
    simp only [bind_some']
    cases hst : (st != 0)
    · simp only [Bool.false_eq_true, if_false]
      have hS : (hd 3 (UInt64.ofNat 10)).length ≤ 9 := hd_len9 _ _
      have hP := hd_len9 2 (UInt64.ofNat p.length)
      have hC := hd_len9 2 (UInt64.ofNat c.length)
      have hZ := hd_len9 2 (UInt64.ofNat z.length)
      have q0 : F.ref30_Head 4 4 = some [132] := by
        have := refHead_eq 4 (by omega) 4
        rw [show ((4 : Nat) : Int) = 4 from rfl] at this
        rw [this]; rfl
      have q1 : F.ref31_said 3 [83, 105, 103, 110, 97, 116, 117, 114, 101, 49] = some (hd 3 (UInt64.ofNat 10) ++ [83, 105, 103, 110, 97, 116, 117, 114, 101, 49]) := saidS_eq 3 (by omega) _ (by simp)
      have q2 : ∀ x : List UInt8, x.length ≤ 100000000 → F.ref31_said 2 x = some (hd 2 (UInt64.ofNat x.length) ++ x) := fun x hx => saidS_eq 2 (by omega) x hx
      have m1 : F.cose_laid [132] 3 [83, 105, 103, 110, 97, 116, 117, 114, 101, 49] = some ([132] ++ hd 3 (UInt64.ofNat 10) ++ [83, 105, 103, 110, 97, 116, 117, 114, 101, 49]) := laid_eq 3 _ _ (by simp) (by simp)
      have m2 : ∀ o x : List UInt8, o.length ≤ 1000000000 → x.length < 1000000000 → F.cose_laid o 2 x = some (o ++ hd 2 (UInt64.ofNat x.length) ++ x) := fun o x ho hx => laid_eq 2 o x ho hx
      rw [m1, bind_some', m2 _ p (by simp only [List.length_append, List.length_cons, List.length_nil]; omega) (by omega), bind_some', m2 _ c (by simp only [List.length_append, List.length_cons, List.length_nil]; omega) (by omega), bind_some', m2 _ z (by simp only [List.length_append, List.length_cons, List.length_nil]; omega) (by omega), bind_some']
      rw [q0, bind_some', q1, bind_some', sadO_ok (by simp only [List.length_append, List.length_cons, List.length_nil]; omega), bind_some', q2 p (by omega), bind_some', sadO_ok (by simp only [List.length_append, List.length_cons, List.length_nil]; omega), bind_some', q2 c (by omega), bind_some', sadO_ok (by simp only [List.length_append, List.length_cons, List.length_nil]; omega), bind_some', q2 z (by omega), bind_some', sadO_ok (by simp only [List.length_append, List.length_cons, List.length_nil]; omega), bind_some']
      refine ⟨_, rfl, ?_, lk, lz, ls, ?_⟩
      · simp only [List.append_assoc]
      · simp only [List.length_append, List.length_cons, List.length_nil]; omega
    · simp only [if_true]
      exact F1 st
  · have e1 : (e != 0) = true := by simpa using he
    rw [hpb]
    simp only [e1, if_true]
    exact F1 e
end Go.Gk.Cb
end

section
set_option linter.unusedSimpArgs false
set_option linter.unusedVariables false
namespace Go.Gk.Cb
open Go Go.Gk
theorem parses_true (b c : List UInt8) (hb : b.length ≤ 200000000000000) (hc : c.length ≤ 200000000000000) : F.law31_parses b c = some true := by
  obtain ⟨R, h1, h2, h3, h4, h5, h6⟩ := Parse_both b c hb hc
  unfold F.law31_parses
  rw [h1, h2, same31]
  simp only [bind_some', beq_self_eq_true, if_true, sameB_eq _ _ (by omega : R.2.1.length < 9223372036854775807), sameB_eq _ _ (by omega : R.2.2.1.length < 9223372036854775807), sameB_eq _ _ (by omega : R.2.2.2.1.length < 9223372036854775807),
    sameB_eq _ _ (by omega : R.2.2.2.2.1.length < 9223372036854775807)]
theorem cparses_K3 (b rb c rc : List UInt8) (x y : List UInt8 × Nat) (hx : x.2 = b.length) (hy : y.2 = c.length) (hb : b.length ≤ 200000000000000) (hc : c.length ≤ 200000000000000) :
    F.law31_CoseParses_K3 x y (b ++ rb) (c ++ rc) = some true := by
  simp only [F.law31_CoseParses_K3, hx, hy, List.take_left, parses_true b c hb hc, bind_some']
theorem cparses_K2 (b rb c rc : List UInt8) (x : List UInt8 × Nat) (hx : x.2 = b.length) (hb : b.length ≤ 200000000000000) (hc : c.length ≤ 200000000000000) :
    F.law31_CoseParses_K2 (c ++ rc, c.length) x (b ++ rb) = some true := by
  unfold F.law31_CoseParses_K2
  simp only [List.take_left]
  by_cases h0 : c = []
  · subst h0
    simp only [List.length_nil, show decide ((0 : Int) < ((0 : Nat) : Int)) = false from rfl, Bool.false_eq_true, if_false]
    exact cparses_K3 b rb [] rc _ _ hx rfl hb (by simp)
  · have hpos : 0 < c.length := List.length_pos_iff.2 h0
    have e1 : decide ((0 : Int) < (c.length : Int)) = true := decide_eq_true (by omega)
    have g0 : getO c (0 : Int) = some c[0] := getO_lt (i := 0) hpos
    simp only [e1, if_true, g0, bind_some', olet_eq, Int.toNat_zero]
    rw [List.set_append_left _ _ hpos]
    exact cparses_K3 b rb _ rc _ _ hx (by simp) hb (by simp; omega)
theorem CoseParses_true (b c : List UInt8) (hb : b.length ≤ 140737488351232) (hc : c.length ≤ 140737488351232) : F.law31_CoseParses b c = some true := by
  unfold F.law31_CoseParses
  rw [roomy31, spared31, roomy_eq b (by omega), bind_some', roomy_eq c (by omega), bind_some']
  simp only [List.take_left, parses_true b c (by omega) (by omega), bind_some', not_true_f, Bool.false_eq_true, if_false, spared_eq b (by omega), spared_eq c (by omega), F.law31_CoseParses_K1]
  by_cases h0 : b = []
  · subst h0
    simp only [List.length_nil, show decide ((0 : Int) < ((0 : Nat) : Int)) = false from rfl, Bool.false_eq_true, if_false]
    exact cparses_K2 [] _ c _ _ rfl (by simp) (by omega)
  · have hpos : 0 < b.length := List.length_pos_iff.2 h0
    have e1 : decide ((0 : Int) < (b.length : Int)) = true := decide_eq_true (by omega)
    have e2 : wI ((b.length : Int) - 1) = ((b.length - 1 : Nat) : Int) := by rw [wI_in (by omega) (by omega)]; omega
    have hlt : b.length - 1 < b.length := by omega
    simp only [e1, if_true, e2, getO_lt hlt, bind_some', olet_eq, Int.toNat_natCast]
    rw [List.set_append_left _ _ hlt]
    exact cparses_K2 _ _ c _ _ (by simp) (by simp; omega) (by omega)
end Go.Gk.Cb
end
